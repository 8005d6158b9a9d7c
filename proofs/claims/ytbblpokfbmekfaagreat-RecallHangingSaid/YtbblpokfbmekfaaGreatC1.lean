import Derived.Test.YtbblpokfbmekfaaGreatF
import Derived.Test.YtbblpokfbmekfaaGreatGv
import Derived.Test.YtbblpokfbmekfaaGreatG3
import Derived.Test.YtbblpokfbmekfaaGreatC0
set_option maxHeartbeats 4000000
set_option maxRecDepth 100000
set_option linter.unusedVariables false
namespace Go.Proofs.YtbblpokfbmekfaaGreat
open Go.RowKit (Below)
attribute [local irreducible] OX QX CX EX OpY Calls CallsIn
theorem recall_level_ok (p0:TL) (p1:Int) (res:(List (Int × Bool))) (h:recall_level p0 p1 = some res) (W:World) (Aa:Option Addr) (n0_0 ca : Nat) (hn0_0:n0_0 = p0.fNo.length) (hr0_0:Rd W Aa n0_0 ca (encL TNode_cells p0.fNo)) (Ab:Option Addr) (n0_1 cb : Nat) (ys0_1:List (Hd × TC)) (hn0_1:n0_1 = p0.fC.length) (hr0_1:Rd W Ab n0_1 cb (encL TClaim_cells2 ys0_1)) (hN0_1:NestW W (fun z : TC => z.fO) THop_cells ys0_1 p0.fC) :
  Calls Tryz.prog 121 [.agg #[.slice Aa n0_0 ca,.slice Ab n0_1 cb],.int .i64 p1].toArray W fun e W2 => ∃ x : Nat,e = .returned (.map (some x)) ∧ Ext W W2 [mapV Tryz.prog 3 kI rngB kB false x res]:=by
 subst hn0_0
 subst hn0_1
 unfold recall_level at h
 refine calls_enter (m:=25) Tryz.func121 rfl rfl (nB rfl) ?_
 refine cS (cR ?_)
 refine ox_box [.slice Aa p0.fNo.length ca,.slice Ab p0.fC.length cb] rfl rfl rfl (fun b1 => ?_)
 refine ox_y rfl (y_assign_map rfl) ?_
 refine oN (eT (cS (cR ?_)))
 refine ox_makeMapV 3 kI rngB kB false rfl (fun b2 => ?_)
 refine ox_y rfl (y_assign_map rfl) ?_
 refine oN (eT (cS (cS (cR ?_))))
 refine ox_y rfl (yFA fo_25_0 rfl) (ox_y rfl (y_load1 0 (v:=.slice Aa p0.fNo.length ca) sc_22 rfl rfl rfl) (ox_y rfl (y_len (us:=[]) us_22 rfl) (ox_y rfl (yMI rfl) ?_)))
 refine oN (eT (cx_block ?_))
 obtain ⟨u6,hl12,h⟩:=bOs h
 refine cx_loop (fun (s:(Int × (List (Int × Bool)))) L tm => ∃ (tm0:Nat → Value),L = [cellsR b1 25 [.slice Aa p0.fNo.length ca,.slice Ab p0.fC.length cb],mapV Tryz.prog 3 kI rngB kB false b2 s.2] ∧ tm = (upd (upd (upd (upd (upd (upd (upd (upd tm0 0 (.agg #[.slice Aa p0.fNo.length ca,.slice Ab p0.fC.length cb])) 1 (.int .i64 p1)) 2 (.pointer (some ⟨b1,0,none⟩))) 4 (.map none)) 5 (.map (some b2))) 10 (.slice Aa p0.fNo.length ca)) 11 (.int .i64 (p0.fNo.length:Int))) 12 (.int .i64 s.1))) (fun s e L tm => e = .exit 0 ∧ ∃ (tm0:Nat → Value),L = [cellsR b1 25 [.slice Aa p0.fNo.length ca,.slice Ab p0.fC.length cb],mapV Tryz.prog 3 kI rngB kB false b2 s.2] ∧ tm = (upd (upd (upd (upd (upd (upd (upd (upd tm0 0 (.agg #[.slice Aa p0.fNo.length ca,.slice Ab p0.fC.length cb])) 1 (.int .i64 p1)) 2 (.pointer (some ⟨b1,0,none⟩))) 4 (.map none)) 5 (.map (some b2))) 10 (.slice Aa p0.fNo.length ca)) 11 (.int .i64 (p0.fNo.length:Int))) 12 (.int .i64 s.1))) hl12 ⟨_,rfl,(kp4 (kp4 rfl))⟩ ?_ ?_
 ·rintro s5 L tm st ⟨tm0_s5,rfl,rfl⟩ h
  unfold recall_level_l1 at h
  refine cS (cR ?_)
  refine ox_y rfl (y_lss rfl rfl) ?_
  refine oN (eT (cS ?_))
  rcases iOs h with ⟨hp7,h⟩ | ⟨hp7,h⟩
  ·refine cx_true (vB hp7) ?_
   refine cx_skip (eT (cS (cx_block (cS (cR ?_)))))
   obtain ⟨hg8,h⟩:=gOs h
   refine ox_y rfl (y_indexR sl_22 (by decide) hg8.1 hg8.2 (RdL.arg hr0_0) (encL_len TNode_cells_len rfl) rfl rfl) ?_
   refine ox_y rfl (y_loadRN (A:=Aa) (j:=(Int.toNat s5.1 * 3)) [.int .i64 ((rdL p0.fNo s5.1).fID),.int .i64 ((rdL p0.fNo s5.1).fLevel),.int .i64 ((rdL p0.fNo s5.1).fCost)] ag_97 (Nat.succ_pos _) (RdL.arg hr0_0) rfl (encL_gets TNode_cells_len hg8.1 (lt_nat hg8.2 rfl))) ?_
   refine ox_alloc ze_97 rfl (fun b9 => ?_)
   refine ox_n rfl (y_storeN 2 [.int .i64 ((rdL p0.fNo s5.1).fID),.int .i64 ((rdL p0.fNo s5.1).fLevel),.int .i64 ((rdL p0.fNo s5.1).fCost)] sz_97 rfl (nB rfl) rfl rfl rfl) ?_
   refine oN (eT (cS (cR ?_)))
   refine ox_y rfl (yFA fo_97_1 rfl) (ox_y rfl (y_load1 2 (v:=.int .i64 ((rdL p0.fNo s5.1).fLevel)) sc_3 rfl rfl rfl) (ox_y rfl (yMI rfl) (ox_y rfl (y_eql rfl rfl) ?_)))
   refine oN (eT ?_)
   rcases iOs h with ⟨hp10,h⟩ | ⟨hp10,h⟩
   ·refine cx_true (vB hp10) (cR (ox_y rfl (y_move_map rfl) (ox_y rfl (yFA fo_97_0 rfl) (ox_y rfl (y_load1 2 (v:=.int .i64 ((rdL p0.fNo s5.1).fID)) sc_3 rfl rfl rfl) ?_))))
    obtain ⟨hg11,h⟩:=gOs h
    refine ox_n rfl (y_updateV 1 (k:=(rdL p0.fNo s5.1).fID) (v:=true) rfl ke_3 um_94 rfl rfl rfl hg11) (oN (ex_block ?_))
    refine eT (cR ?_)
    refine ox_y rfl (y_add rfl rfl) (ox_y rfl (yMI rfl) (oN (ex_take 2 ?_)))
    obtain rfl:=sI h
    exact ex_next ⟨_,rfl,(kp4 (kp4 rfl))⟩
   ·refine cx_false (vB hp10) (cx_skip (ex_block ?_))
    refine eT (cR ?_)
    refine ox_y rfl (y_add rfl rfl) (ox_y rfl (yMI rfl) (oN (ex_take 2 ?_)))
    obtain rfl:=sI h
    exact ex_next ⟨_,rfl,(kp4 (kp4 rfl))⟩
  ·refine cx_false (vB hp7) (cx_exit (ex_then_exit ?_))
   obtain rfl:=sI h
   exact ex_stop ⟨rfl,_,rfl,(kp4 (kp4 rfl))⟩
 ·intro e L tm hJ
  obtain ⟨rfl,tm0_u6,rfl,rfl⟩:=hJ
  refine ⟨(by intro hc; cases hc),?_⟩
  refine ex_block_here ?_
  refine eT (cS (cR ?_))
  refine ox_y rfl (y_move_map rfl) (ox_y rfl (y_assign_map rfl) ?_)
  refine oN (eT (cx_ret ?_))
  obtain rfl:=sI h
  exact ex_res1 (.inl rfl) rfl (rVt (v:=.map (some b2)) rfl) (fun W2 hW2 => ⟨b2,rfl,(hW2.pick 1 rfl)⟩)
theorem recall_charges_ok (p0:TL) (res:(List Int)) (h:recall_charges p0 = some res) (W:World) (Aa:Option Addr) (n0_0 ca : Nat) (hn0_0:n0_0 = p0.fNo.length) (hr0_0:Rd W Aa n0_0 ca (encL TNode_cells p0.fNo)) (Ab:Option Addr) (n0_1 cb : Nat) (ys0_1:List (Hd × TC)) (hn0_1:n0_1 = p0.fC.length) (hr0_1:Rd W Ab n0_1 cb (encL TClaim_cells2 ys0_1)) (hN0_1:NestW W (fun z : TC => z.fO) THop_cells ys0_1 p0.fC) :
  Calls Tryz.prog 63 [.agg #[.slice Aa n0_0 ca,.slice Ab n0_1 cb]].toArray W fun e W2 => ∃ x : Option Addr × Nat × Nat,x.2.1 = res.length ∧ e = .returned (.slice x.1 x.2.1 x.2.2) ∧ Ext W W2 [rowR x.1 x.2.2 3 1 x.2.1 (encL cI res)]:=by
 subst hn0_0
 subst hn0_1
 unfold recall_charges at h
 refine calls_enter (m:=6) Tryz.func63 rfl rfl (nB rfl) ?_
 refine cS (cR ?_)
 refine ox_box [.slice Aa p0.fNo.length ca,.slice Ab p0.fC.length cb] rfl rfl rfl (fun b1 => ?_)
 refine ox_y rfl (yAS rfl) ?_
 refine oN (eT (cS (cR ?_)))
 refine ox_y rfl (y_loadN 0 [.slice Aa p0.fNo.length ca,.slice Ab p0.fC.length cb] ag_25 rfl rfl rfl) ?_
 obtain ⟨y2,hy3,h⟩:=bOs h
 refine ox_call1 [.agg #[.slice Aa p0.fNo.length ca,.slice Ab p0.fC.length cb],.int .i64 0] _ _ rfl go_121 rfl (fun W2 hW2 => recall_level_ok p0 0 y2 hy3 W2 Aa p0.fNo.length ca rfl ((RdL.arg hr0_0) W2 hW2) Ab p0.fC.length cb ys0_1 rfl ((RdL.arg hr0_1) W2 hW2) (NestL.at (NestL.arg hN0_1) W2 hW2)) ?_
 rintro b4
 obtain ⟨y5,hy6,h⟩:=bOs h
 refine ox_call [.map (some b4)] _ _ _ rfl go_96 rfl (fun W2 hW2 => recall_listed_ok y2 y5 hy6 W2 b4 ((MpL.own 1 rfl) W2 hW2)) ?_
 rintro ⟨A7,n9,c8⟩ hn10
 replace hn10 : n9 = y5.length:=hn10; subst hn10
 refine ox_y rfl (yAS rfl) ?_
 refine oN (eT (cx_ret ?_))
 obtain rfl:=sI h
 exact ex_res1 (.inl rfl) rfl (rVt (v:=.slice A7 y5.length c8) rfl) (fun W2 hW2 => ⟨(A7,y5.length,c8),rfl,rfl,(hW2.pick 2 rfl)⟩)
theorem cases_ks_get (l:TL) (i:Nat) (hi:i < l.fC.length) : (sKs l).getD i 0 = (rdL l.fC (i:Int)).fO.length:=by
 unfold sKs rdL
 rw [Int.toNat_natCast,List.getD_eq_getElem?_getD,List.getD_eq_getElem?_getD,List.getElem?_map,List.getElem?_eq_getElem hi]
 rfl
theorem cases_l2_spec (l:TL) (hok:seqCases_ok l) (x:List Int) (hx:x ∈ sCs l) : ∀ j : Nat,j ≤ x.length → MaxC (sKs l) x j →
  ∃ j' : Nat,j' ≤ j ∧ loopO (recall_cases_1_l2 l) ((j:Int) - 1,zC x j) = some ((j':Int) - 1,zC x j') ∧ MaxC (sKs l) x j' ∧ (0 < j' → x.getD (j' - 1) 0 + 1 ≠ (((sKs l).getD (j' - 1) 0 : Nat) : Int)):=by
 obtain ⟨hxl,hxb⟩:=allC_mem _ _ hx
 have hkl : (sKs l).length = l.fC.length:=by simp [sKs]
 intro j
 induction j with
 | zero =>
  intro _ hm
  refine ⟨0,Nat.le_refl _,?_,hm,fun h => by omega⟩
  refine loopO_stop ?_
  unfold recall_cases_1_l2
  rfl
 | succ j ih =>
  intro hj hm
  have hjn : j < l.fC.length:=by omega
  have hget : rdL (zC x (j + 1)) (j:Int) = x.getD j 0:=by rw [zC_get (by omega),rdL_getD]
  have hb:=hxb j (by omega)
  have hkb : (sKs l).getD j 0 ≤ 1000:=by
   rw [cases_ks_get l j hjn]
   exact (hok.2 _ (rdL_mem (by omega) (by omega))).2
  have hw : w64 (x.getD j 0 + 1) = x.getD j 0 + 1:=w64_id (by omega) (by omega)
  have hbody : recall_cases_1_l2 l (((j + 1 : Nat) : Int) - 1,zC x (j + 1)) = if (x.getD j 0 + 1 == (((sKs l).getD j 0 : Nat) : Int)) = true then some (.inl ((j:Int) - 1,zC x j)) else some (.inr ((j:Int),zC x (j + 1))):=by
   unfold recall_cases_1_l2
   have e : (((j + 1 : Nat) : Int) - 1) = (j:Int):=by omega
   simp only [e]
   rw [hget,hw,← cases_ks_get l j hjn]
   simp only [show decide (0 ≤ (j:Int)) = true from decide_eq_true (by omega),if_true]
   rw [gPo ⟨by omega,by omega⟩,gPo ⟨by omega,by omega⟩]
   rw [Int.toNat_natCast,zC_set0 (by omega),w64_id (x:=(j:Int) - 1) (by have:=hok.1; omega) (by have:=hok.1; omega),Option.bind_some,gPo ⟨by omega,by omega⟩]
  by_cases hc : x.getD j 0 + 1 = (((sKs l).getD j 0 : Nat) : Int)
  ·have hm' : MaxC (sKs l) x j:=fun q hq hql => by
    rcases Nat.eq_or_lt_of_le hq with e | e
    ·rw [← e]; exact hc
    ·exact hm q e hql
   obtain ⟨j',h1,h2,h3,h4⟩:=ih (by omega) hm'
   refine ⟨j',by omega,?_,h3,h4⟩
   rw [loopO_next (s':=((j:Int) - 1,zC x j)) (by rw [hbody,if_pos (by simpa using hc)])]
   exact h2
  ·refine ⟨j + 1,Nat.le_refl _,?_,hm,fun _ => by simpa using hc⟩
   rw [show ((j + 1 : Nat) : Int) - 1 = (j:Int) by omega]
   refine loopO_stop ?_
   rw [← show ((j + 1 : Nat) : Int) - 1 = (j:Int) by omega,hbody,if_neg (by simpa using hc)]
   rw [show ((j + 1 : Nat) : Int) - 1 = (j:Int) by omega]
theorem recall_cases_1_seq (cap0:TL) (hok:seqCases_ok cap0) (bc0:Nat) (A100_0:Option Addr) (n100_0 c100_0 : Nat) (A100_1:Option Addr) (n100_1 c100_1 : Nat) (hn100_1:n100_1 = cap0.fC.length) (ys100_1:List (Hd × TC)) (hP:NestP (fun z : TC => z.fO) ys100_1 cap0.fC) :
  SeqC Tryz.prog 130 [.pointer (some ⟨bc0,0,none⟩)] 3 (fun W => Rd W (some ⟨bc0,0,none⟩) 1 1 [.slice A100_0 n100_0 c100_0,.slice A100_1 n100_1 c100_1] ∧ Rd W A100_1 n100_1 c100_1 (encL TClaim_cells2 ys100_1)) (sCs cap0):=by
 intro w0 l K Kx W L0 hH hy h0 hW0
 subst hn100_1
 have hkl : (sKs cap0).length = cap0.fC.length:=by simp [sKs]
 have hodo:=allC_odo (sKs cap0) (fun k hk => by
  obtain ⟨x,hx,rfl⟩:=List.mem_map.1 hk
  exact (hok.2 x hx).1)
 have hlen : ∀ {i : Nat} {x : List Int},(sCs cap0)[i]? = some x → x.length = cap0.fC.length:=fun {i x} h => by
  rw [(allC_mem _ _ (List.mem_of_getElem? h)).1,hkl]
 refine callsIn_enterE (vs:=[.func (.yield l) #[] #[],.pointer (some ⟨bc0,0,none⟩)]) (m:=46) Tryz.func130 rfl rfl (nB rfl) hW0 ?_
 have hcapL : ∀ {i : Nat} {L1 : List Res} {p : Res},K i L1 → RdL w0 (p :: L1) (some ⟨bc0,0,none⟩) 1 1 [.slice A100_0 n100_0 c100_0,.slice A100_1 cap0.fC.length c100_1]:=fun {i L1 p} hK W hW => by
  have h3:=hW.torr'
  exact (hH i L1 W hK h3).1
 have hrdL : ∀ {i : Nat} {L1 : List Res} {p : Res},K i L1 → RdL w0 (p :: L1) A100_1 cap0.fC.length c100_1 (encL TClaim_cells2 ys100_1):=fun {i L1 p} hK W hW => by
  have h3:=hW.torr'
  exact (hH i L1 W hK h3).2
 refine cS (cR ?_)
 refine ox_y rfl (y_fieldAddrR (A:=(some ⟨bc0,0,none⟩)) (j:=0) fo_25_1 rfl) (ox_y rfl (y_loadR1 (A:=(some ⟨bc0,0,none⟩)) (j:=(0 + 1)) (v:=.slice A100_1 cap0.fC.length c100_1) sc_23 (fun W hW => (hH 0 L0 W h0 hW).1) rfl rfl) (ox_y rfl (y_len (us:=[]) us_23 rfl) ?_))
 have hl1:=hok.1
 refine ox_make (encL cI (List.replicate (Int.toNat (cap0.fC.length:Int)) 0)) us_26 ze_3 by_3 (by omega) (by omega) rfl (made_enc _ _ _ rfl rfl) rfl (fun b1 => ?_)
 refine ox_y rfl (yAS rfl) ?_
 refine oN (eT (cx_block ?_))
 rw [Int.toNat_natCast]
 refine cx_perm (L':=rowR (some ⟨b1,0,none⟩) cap0.fC.length 3 1 cap0.fC.length (encL cI (List.replicate cap0.fC.length 0)) :: L0) (fun W hW => hW.torr) ?_
 refine cx_loopM (fun (s:Nat) L tm => ∃ (x:List Int) (L':List Res) (tm0:Nat → Value),(sCs cap0)[s]? = some x ∧ K s L' ∧ L = rowR (some ⟨b1,0,none⟩) cap0.fC.length 3 1 x.length (encL cI x) :: L' ∧ tm = (upd (upd (upd tm0 0 (.func (.yield l) #[] #[])) 1 (slA (some ⟨bc0,0,none⟩) 0)) 3 (.slice (some ⟨b1,0,none⟩) x.length cap0.fC.length)))
  (fun s => (sCs cap0).length - s) 0 ⟨List.replicate cap0.fC.length 0,L0,_,by rw [sCs,hodo.first,hkl],h0,by rw [List.length_replicate],keep (kp (kp rfl)) (by rw [List.length_replicate]; rfl)⟩ ?_
 rintro s L tm ⟨x,L',tm0,hx,hK,rfl,rfl⟩
 have hxl:=hlen hx
 have hxm : x ∈ sCs cap0:=List.mem_of_getElem? hx
 have hsl : s < (sCs cap0).length:=(List.getElem?_eq_some_iff.1 hx).1
 refine cx_block (cS (cS (cR ?_)))
 refine ox_y rfl (y_move (v:=.func (.yield l) #[] #[]) rfl) (ox_y rfl (yMS rfl) ?_)
 refine ox_yieldE (p:=rowR (some ⟨b1,0,none⟩) cap0.fC.length 3 1 x.length (encL cI x)) [.slice (some ⟨b1,0,none⟩) x.length cap0.fC.length] (K (s + 1)) Kx rfl rfl rfl (fun W hW => hy s x _ _ L' W hx hK hW) (fun L2 hK2 => ?_) (fun L2 hK2 => ?_)
 rotate_left
 ·refine ox_y rfl (y_not rfl) ?_
  refine oN (eT ?_)
  refine cx_true rfl ?_
  refine cx_ret (ex_then_ret (ex_block_ret ?_))
  refine ex_outM (by intro h; cases h) ?_
  refine ex_block_ret ?_
  exact ex_result0 (.inl rfl) rfl (fun W2 hW2 => ⟨⟨_,rfl⟩,.inr ⟨L2,hK2,hW2⟩⟩)
 ·refine ox_y rfl (y_not rfl) ?_
  refine oN (eT ?_)
  refine cx_false rfl ?_
  refine cx_skip (eT (cS (cR ?_)))
  refine ox_y rfl (yMS rfl) (ox_y rfl (y_len (us:=[]) us_26 rfl) (ox_y rfl (y_sub rfl rfl) (ox_y rfl (yAI rfl) ?_)))
  refine oN (eT (cS (cx_block ?_)))
  obtain ⟨j',hj',hl19,hmx,hne⟩:=cases_l2_spec cap0 hok x hxm x.length (Nat.le_refl _) (fun q h1 h2 => by omega)
  rw [zC_full] at hl19
  have hs0 : w64 ((x.length:Int) - 1) = (x.length:Int) - 1:=w64_id (by omega) (by omega)
  rw [hs0]
  refine cx_loop (fun (s:(Int × (List Int))) L tm => ∃ (tm0:Nat → Value),cap0.fC.length = s.2.length ∧ L = rowR (some ⟨b1,0,none⟩) cap0.fC.length 3 1 cap0.fC.length (encL cI s.2) :: L2 ∧ tm = (upd (upd (upd (upd tm0 0 (.func (.yield l) #[] #[])) 1 (slA (some ⟨bc0,0,none⟩) 0)) 3 (.slice (some ⟨b1,0,none⟩) cap0.fC.length cap0.fC.length)) 4 (.int .i64 s.1)))
   (fun s e L tm => e = .exit 2 ∧ ∃ (tm0:Nat → Value),cap0.fC.length = s.2.length ∧ L = rowR (some ⟨b1,0,none⟩) cap0.fC.length 3 1 cap0.fC.length (encL cI s.2) :: L2 ∧ tm = (upd (upd (upd (upd tm0 0 (.func (.yield l) #[] #[])) 1 (slA (some ⟨bc0,0,none⟩) 0)) 3 (.slice (some ⟨b1,0,none⟩) cap0.fC.length cap0.fC.length)) 4 (.int .i64 s.1))) hl19 ⟨_,hxl.symm,by rw [hxl],(keep (keep (keep (keep rfl rfl) rfl) (by rw [← hxl]; rfl)) rfl)⟩ ?_ ?_
  ·rintro s10 L tm st ⟨tm0_s10,hn0_s10,rfl,rfl⟩ h
   unfold recall_cases_1_l2 at h
   refine cS (cS ?_)
   refine cx_draws 17 mixed (by kernel_rfl) (by kernel_rfl) ?_
   refine qx_y rfl (yMI rfl) (qx_y rfl (y_geq rfl rfl) (qx_y rfl (y_move_bool rfl) ?_))
   obtain ⟨b13,hb14,h⟩:=bOs h
   refine qx_join 14 (fun tm0 => (upd (upd (upd (upd (upd tm0 0 (.func (.yield l) #[] #[])) 1 (slA (some ⟨bc0,0,none⟩) 0)) 3 (.slice (some ⟨b1,0,none⟩) cap0.fC.length cap0.fC.length)) 4 (.int .i64 s10.1)) 32 (.bool b13))) (fun tm0 => ?_) (fun key => ?_)
   ·refine qx_nil ?_
    refine oN (eT ?_)
    rcases iOs h with ⟨hp15,h⟩ | ⟨hp15,h⟩
    ·refine cx_true (vB hp15) ?_
     refine cx_skip (eT (cx_block (cS (cR ?_))))
     refine ox_y rfl (yMS rfl) (ox_y rfl (yMI rfl) ?_)
     obtain ⟨hg16,h⟩:=gOs h
     refine ox_y rfl (y_indexR sl_26 (by decide) hg16.1 hg16.2 (RdL.row 0 rfl) (encL_len cI_len hn0_s10) rfl rfl) ?_
     refine ox_n rfl (y_storeR1 0 (xs:=s10.2) cI_len 0 sz_3 rfl hg16.1 (lt_nat hg16.2 hn0_s10) rfl rfl rfl rfl) ?_
     refine oN (eT (cR ?_))
     refine ox_y rfl (yMI rfl) (ox_y rfl (y_sub rfl rfl) (ox_y rfl (yAI rfl) (oN (ex_block ?_))))
     obtain rfl:=sI h
     exact ex_next ⟨_,(hn_set hn0_s10),rfl,(kp4 rfl)⟩
    ·refine cx_false (vB hp15) (cx_exit (ex_then_exit ?_))
     obtain rfl:=sI h
     exact ex_stop ⟨rfl,_,hn0_s10,rfl,(kp4 rfl)⟩
   ·clear h; rcases iOs hb14 with ⟨hp12,h⟩ | ⟨hp12,h⟩
    ·refine qx_y (sT rfl rfl rfl rfl hp12) (yMS rfl) (qx_y (sT rfl rfl rfl rfl hp12) (yMI rfl) ?_)
     obtain ⟨hg17,h⟩:=gOs h
     refine qx_y (sT rfl rfl rfl rfl hp12) (y_indexR sl_26 (by decide) hg17.1 hg17.2 (RdL.row 0 rfl) (encL_len cI_len hn0_s10) rfl rfl) ?_
     refine qx_y (sT rfl rfl rfl rfl hp12) (y_loadR1 (A:=(some ⟨b1,0,none⟩)) (j:=(Int.toNat s10.1 * 1)) (v:=.int .i64 (rdL s10.2 s10.1)) sc_3 (RdL.row 0 rfl) rfl (encL_get0 cI_len hg17.1 (lt_nat hg17.2 hn0_s10) rfl)) (qx_y (sT rfl rfl rfl rfl hp12) (y_add rfl rfl) (qx_y (sT rfl rfl rfl rfl hp12) (y_fieldAddrR (A:=(some ⟨bc0,0,none⟩)) (j:=0) fo_25_1 rfl) (qx_y (sT rfl rfl rfl rfl hp12) (y_loadR1 (A:=(some ⟨bc0,0,none⟩)) (j:=(0 + 1)) (v:=.slice A100_1 cap0.fC.length c100_1) sc_23 (hcapL hK2) rfl rfl) (qx_y (sT rfl rfl rfl rfl hp12) (yMI rfl) ?_))))
     obtain ⟨hg18,h⟩:=gOs h
     refine qx_y (sT rfl rfl rfl rfl hp12) (y_indexR sl_23 (by decide) hg18.1 hg18.2 (hrdL hK2) (encL_len TClaim_cells2_len (NestP.hn hP rfl)) rfl rfl) ?_
     refine qx_y (sT rfl rfl rfl rfl hp12) (y_fieldAddrR (A:=A100_1) (j:=(Int.toNat s10.1 * 2)) fo_90_1 rfl) (qx_y (sT rfl rfl rfl rfl hp12) (y_loadR1 (A:=A100_1) (j:=((Int.toNat s10.1 * 2) + 1)) (v:=.slice ((rdL ys100_1 s10.1).1.1) ((rdL cap0.fC s10.1).fO.length) ((rdL ys100_1 s10.1).1.2.2)) sc_88 (hrdL hK2) rfl (encL_get TClaim_cells2_len hg18.1 (lt_nat hg18.2 (NestP.hn hP rfl)) (congrArg (fun n : Nat => some (Value.slice (rdL ys100_1 s10.1).1.1 n (rdL ys100_1 s10.1).1.2.2)) (NestP.len hP hg18.1 (lt_nat hg18.2 rfl))))) (qx_y (sT rfl rfl rfl rfl hp12) (y_len (us:=[]) us_88 rfl) (qx_y (sT rfl rfl rfl rfl hp12) (y_eql rfl rfl) (qx_y rfl (y_pick_tb (vB hp12) rfl) ?_))))
     obtain rfl:=sI h
     exact key _ _ (kp4 (kp rfl))
    ·refine qx_skip (sF rfl rfl rfl rfl hp12) (qx_skip (sF rfl rfl rfl rfl hp12) (qx_skip (sF rfl rfl rfl rfl hp12) (qx_skip (sF rfl rfl rfl rfl hp12) (qx_skip (sF rfl rfl rfl rfl hp12) (qx_skip (sF rfl rfl rfl rfl hp12) (qx_skip (sF rfl rfl rfl rfl hp12) (qx_skip (sF rfl rfl rfl rfl hp12) (qx_skip (sF rfl rfl rfl rfl hp12) (qx_skip (sF rfl rfl rfl rfl hp12) (qx_skip (sF rfl rfl rfl rfl hp12) (qx_skip (sF rfl rfl rfl rfl hp12) (qx_skip (sF rfl rfl rfl rfl hp12) (qx_y rfl (y_pick_fb (vB hp12) rfl) ?_)))))))))))))
     obtain rfl:=sI h
     exact key _ _ (kp4 (kp rfl))
  ·intro e L tm hJ
   obtain ⟨rfl,tm0_u11,hn0_u11,rfl,rfl⟩:=hJ
   refine ⟨(by intro hc; cases hc),?_⟩
   refine ex_block_here ?_
   refine eT (cS (cS (cR ?_)))
   refine ox_y rfl (yMI rfl) (ox_y rfl (y_lss rfl rfl) ?_)
   refine oN (eT ?_)
   rcases Nat.eq_zero_or_pos j' with hj0 | hj0
   ·subst hj0
    refine cx_true (vB (decide_eq_true (by omega))) ?_
    refine cx_ret (ex_then_ret (ex_block_ret ?_))
    refine ex_outM (by intro h; cases h) ?_
    refine ex_block_ret ?_
    have hnx:=hodo.step s x hx
    rw [nextC_none _ _ (by rw [hxl,hkl]) hmx] at hnx
    have hge:=List.getElem?_eq_none_iff.1 hnx
    have he : s + 1 = (sCs cap0).length:=by
     have : (sCs cap0).length ≤ s + 1:=hge
     omega
    refine ex_perm (L':=L2) (fun W hW => hW.tail) ?_
    exact ex_result0 (.inl rfl) rfl (fun W2 hW2 => ⟨⟨_,rfl⟩,.inl ⟨L2,he ▸ hK2,hW2⟩⟩)
   ·obtain ⟨i,rfl⟩ : ∃ i,j' = i + 1:=⟨j' - 1,by omega⟩
    have hix : i < x.length:=by omega
    have hb:=(allC_mem _ _ hxm).2 i (by rw [hkl,← hxl]; exact hix)
    have hkb : (sKs cap0).getD i 0 ≤ 1000:=by
     rw [cases_ks_get cap0 i (by omega)]
     exact (hok.2 _ (rdL_mem (by omega) (by omega))).2
    have hzl : (zC x (i + 1)).length = x.length:=zC_len (by omega)
    have ei : ((i + 1 : Nat) : Int) - 1 = (i:Int):=by omega
    dsimp only
    rw [ei]
    have h1 : (0:Int) ≤ (i:Int):=by omega
    have h2 : (i:Int) < (cap0.fC.length:Int):=by omega
    have hnz : cap0.fC.length = (zC x (i + 1)).length:=by rw [hzl,hxl]
    refine cx_false (vB (decide_eq_false (by omega))) ?_
    refine cx_skip (eT (cR ?_))
    refine ox_y rfl (yMS rfl) (ox_y rfl (yMI rfl) ?_)
    refine ox_y rfl (y_indexR sl_26 (by decide) h1 h2 (RdL.row 0 rfl) (encL_len cI_len hnz) rfl rfl) ?_
    refine ox_y rfl (y_loadR1 (A:=(some ⟨b1,0,none⟩)) (j:=(Int.toNat (i:Int) * 1)) (v:=.int .i64 (rdL (zC x (i + 1)) (i:Int))) sc_3 (RdL.row 0 rfl) rfl (encL_get0 cI_len h1 (lt_nat h2 hnz) rfl)) (ox_y rfl (y_add rfl rfl) ?_)
    refine ox_y rfl (y_indexR sl_26 (by decide) h1 h2 (RdL.row 0 rfl) (encL_len cI_len hnz) rfl rfl) ?_
    refine ox_n rfl (y_storeR1 0 (xs:=zC x (i + 1)) cI_len (w64 (rdL (zC x (i + 1)) (i:Int) + 1)) sz_3 rfl h1 (lt_nat h2 hnz) rfl rfl rfl rfl) (oN (ex_block ?_))
    have hv : w64 (rdL (zC x (i + 1)) (i:Int) + 1) = x.getD i 0 + 1:=by
     rw [zC_get hix,rdL_getD]
     exact w64_id (by omega) (by omega)
    have hnx:=hodo.step s x hx
    rw [nextC_some _ _ i (by rw [hxl,hkl]) hix hmx (by simpa using hne (by omega)),← zC_set hix] at hnx
    have hnl : ((zC x (i + 1)).set i (x.getD i 0 + 1)).length = cap0.fC.length:=by rw [List.length_set,hzl,hxl]
    have hsl2 : s + 1 < (sCs cap0).length:=(List.getElem?_eq_some_iff.1 hnx).1
    refine ex_nextM (s + 1) ⟨(zC x (i + 1)).set i (x.getD i 0 + 1),L2,_,hnx,hK2,?_,(keep (keep (keep rfl rfl) rfl) (by rw [hnl]; rfl))⟩ (by omega)
    rw [hv,Int.toNat_natCast,hnl]
    rfl
theorem recall_cases_ok (p0:TL) (res:Unit) (h:recall_cases p0 = some res) (W:World) (Aa:Option Addr) (n0_0 ca : Nat) (hn0_0:n0_0 = p0.fNo.length) (hr0_0:Rd W Aa n0_0 ca (encL TNode_cells p0.fNo)) (Ab:Option Addr) (n0_1 cb : Nat) (ys0_1:List (Hd × TC)) (hn0_1:n0_1 = p0.fC.length) (hr0_1:Rd W Ab n0_1 cb (encL TClaim_cells2 ys0_1)) (hN0_1:NestW W (fun z : TC => z.fO) THop_cells ys0_1 p0.fC) :
  Calls Tryz.prog 86 [.agg #[.slice Aa n0_0 ca,.slice Ab n0_1 cb]].toArray W fun e W2 => ∃ x : Nat,e = .returned (.func (.func 130) #[] #[.pointer (some ⟨x,0,none⟩)]) ∧ Ext W W2 [cellsR x 25 [.slice Aa n0_0 ca,.slice Ab n0_1 cb]]:=by
 subst hn0_0
 subst hn0_1
 unfold recall_cases at h
 refine calls_enter (m:=4) Tryz.func86 rfl rfl (nB rfl) ?_
 refine cS (cR ?_)
 refine ox_box [.slice Aa p0.fNo.length ca,.slice Ab p0.fC.length cb] rfl rfl rfl (fun b1 => ?_)
 refine ox_y rfl (y_assign_nilFunc rfl) ?_
 refine oN (eT (cS (cR ?_)))
 refine ox_y rfl (y_makeFunc [.pointer (some ⟨b1,0,none⟩)] rfl rfl) (ox_y rfl (y_assign_func rfl) ?_)
 refine oN (eT (cx_ret ?_))
 obtain rfl:=sI h
 exact ex_res1 (.inl rfl) rfl (rVt (v:=.func (.func 130) #[] #[.pointer (some ⟨b1,0,none⟩)]) rfl) (fun W2 hW2 => ⟨b1,rfl,hW2⟩)
theorem slices_insertionSortCmpFunc_int_ok (p0:(List Int)) (p1:Int) (p2:Int) (p3:Int → Int → Option Int) (res:(List Int)) (h:slices_insertionSortCmpFunc_int p0 p1 p2 p3 = some res) (W:World) (w0:World) (R:Res) (Aa:Option Addr) (n0_0 ca : Nat) (hn0_0:n0_0 = p0.length) (fid3:Nat) (fst3 caps3 : List Value) (hgo3:goes Tryz.prog fid3 = true) (hof3:∀ W2,Below w0.heap.size w0 W2 → R.holds W2 → ∀ x0 x1,∀ y,p3 x0 x1 = some y → Calls Tryz.prog fid3 (fst3 ++ (([.int .i64 x0,.int .i64 x1] : List Value) ++ caps3)).toArray W2 fun e W3 => e = .returned (.int .i64 y) ∧ Ext W2 W3 []) (hW:Ext w0 W [R,rowR Aa ca 3 1 n0_0 (encL cI p0)]) :
  Calls Tryz.prog 171 [.slice Aa n0_0 ca,.int .i64 p1,.int .i64 p2,.func (.func fid3) fst3.toArray caps3.toArray].toArray W fun e W2 => e = .returned (.tuple #[]) ∧ n0_0 = res.length ∧ Ext w0 W2 [R,rowR Aa ca 3 1 n0_0 (encL cI res)]:=by
 subst hn0_0
 unfold slices_insertionSortCmpFunc_int at h
 refine calls_enterB (m:=53) Tryz.func171 rfl rfl (nB rfl) hW ?_
 refine cS (cR ?_)
 refine ox_y rfl (yMI rfl) (ox_y rfl (y_add rfl rfl) (ox_y rfl (yAI rfl) ?_))
 refine oN (eT (cx_block ?_))
 obtain ⟨u4,hl24,h⟩:=bOs h
 refine cx_loop (fun (s:(Int × (List Int))) L tm => ∃ (tm0:Nat → Value),p0.length = s.2.length ∧ L = [R,rowR Aa ca 3 1 p0.length (encL cI s.2)] ∧ tm = (upd (upd (upd (upd (upd tm0 0 (.slice Aa p0.length ca)) 1 (.int .i64 p1)) 2 (.int .i64 p2)) 3 (.func (.func fid3) fst3.toArray caps3.toArray)) 8 (.int .i64 s.1))) (fun s e L tm => e = .exit 0 ∧ ∃ (tm0:Nat → Value),p0.length = s.2.length ∧ L = [R,rowR Aa ca 3 1 p0.length (encL cI s.2)] ∧ tm = (upd (upd (upd (upd (upd tm0 0 (.slice Aa p0.length ca)) 1 (.int .i64 p1)) 2 (.int .i64 p2)) 3 (.func (.func fid3) fst3.toArray caps3.toArray)) 8 (.int .i64 s.1))) hl24 ⟨_,rfl,rfl,(kp4 (kp rfl))⟩ ?_ ?_
 ·rintro s3 L tm st ⟨tm0_s3,hn1_s3,rfl,rfl⟩ h
  unfold slices_insertionSortCmpFunc_int_l1 at h
  refine cS (cS (cR ?_))
  refine ox_y rfl (yMI rfl) (ox_y rfl (yMI rfl) (ox_y rfl (y_lss rfl rfl) ?_))
  refine oN (eT ?_)
  rcases iOs h with ⟨hp5,h⟩ | ⟨hp5,h⟩
  ·refine cx_true (vB hp5) ?_
   refine cx_skip (eT (cS (cx_block (cS (cR ?_)))))
   refine ox_y rfl (yMI rfl) (ox_y rfl (yAI rfl) ?_)
   refine oN (eT (cx_block ?_))
   obtain ⟨u9,hl23,h⟩:=bOs h
   refine cx_loop (fun (s:(Int × (List Int))) L tm => ∃ (tm0:Nat → Value),p0.length = s.2.length ∧ L = [R,rowR Aa ca 3 1 p0.length (encL cI s.2)] ∧ tm = (upd (upd (upd (upd (upd (upd (upd tm0 0 (.slice Aa p0.length ca)) 1 (.int .i64 p1)) 2 (.int .i64 p2)) 3 (.func (.func fid3) fst3.toArray caps3.toArray)) 8 (.int .i64 s3.1)) 14 (.bool (decide (s3.1 < p2)))) 9 (.int .i64 s.1))) (fun s e L tm => e = .exit 2 ∧ ∃ (tm0:Nat → Value),p0.length = s.2.length ∧ L = [R,rowR Aa ca 3 1 p0.length (encL cI s.2)] ∧ tm = (upd (upd (upd (upd (upd (upd (upd tm0 0 (.slice Aa p0.length ca)) 1 (.int .i64 p1)) 2 (.int .i64 p2)) 3 (.func (.func fid3) fst3.toArray caps3.toArray)) 8 (.int .i64 s3.1)) 14 (.bool (decide (s3.1 < p2)))) 9 (.int .i64 s.1))) hl23 ⟨_,hn1_s3,rfl,(kp4 (kp (kp (kp rfl))))⟩ ?_ ?_
   ·rintro s8 L tm st ⟨tm0_s8,hn1_s8,rfl,rfl⟩ h
    unfold slices_insertionSortCmpFunc_int_l2 at h
    refine cS (cS ?_)
    refine cx_draws 17 mixed (by kernel_rfl) (by kernel_rfl) ?_
    refine qx_y rfl (yMI rfl) (qx_y rfl (yMI rfl) (qx_y rfl (y_gtr rfl rfl) (qx_y rfl (y_move_bool rfl) ?_)))
    obtain ⟨b11,hb12,h⟩:=bOs h
    refine qx_join 13 (fun tm0 => (upd (upd (upd (upd (upd (upd (upd (upd tm0 0 (.slice Aa p0.length ca)) 1 (.int .i64 p1)) 2 (.int .i64 p2)) 3 (.func (.func fid3) fst3.toArray caps3.toArray)) 8 (.int .i64 s3.1)) 14 (.bool (decide (s3.1 < p2)))) 9 (.int .i64 s8.1)) 34 (.bool b11))) (fun tm0 => ?_) (fun key => ?_)
    ·refine qx_nil ?_
     refine oN (eT ?_)
     rcases iOs h with ⟨hp13,h⟩ | ⟨hp13,h⟩
     ·refine cx_true (vB hp13) ?_
      refine cx_skip (eT (cS (cx_block ?_)))
      obtain ⟨hg15,h⟩:=gOs h
      obtain ⟨hg16,h⟩:=gOs h
      obtain ⟨hg17,h⟩:=gOs h
      obtain ⟨hg18,h⟩:=gOs h
      refine cx_drawsG [[],[],[],[],[3],[],[],[6],[5,6,7],[5,6,7,8],[],[],[10,11],[10,11,12],[0,1,5,6,7,8,9,10,11,12,13],[0,1,5,6,7,8,9,10,11,12,13,14],[0,1,2,3,4,5,6,7,8,9,10,11,12,13,14,15],[0,1,2,3,4,5,6,7,8,9,10,11,12,13,14,15,16]] [(none,0,[true,true]),(none,0,[true,true]),(none,0,[true,false]),(none,0,[true,false]),(none,0,[true,false]),(none,0,[true,true]),(none,0,[true,true]),(none,0,[true,true]),(none,0,[true,true]),(none,0,[true,true]),(none,0,[true,true]),(none,0,[true,true]),(none,0,[true,true]),(none,0,[true,true]),(none,0,[true,true]),(some 1,0,[true,true]),(none,0,[true,true]),(some 1,0,[true,true])] [⟨fun _ => .slice Aa p0.length ca,fun _ => noR,fun _ => []⟩,⟨fun _ => .int .i64 s8.1,fun _ => noR,fun _ => []⟩,⟨fun _ => .slice Aa p0.length ca,fun _ => noR,fun _ => []⟩,⟨fun _ => .int .i64 s8.1,fun _ => noR,fun _ => []⟩,⟨fun _ => .int .i64 (w64 (s8.1 - 1)),fun _ => noR,fun _ => []⟩,⟨fun _ => .slice Aa p0.length ca,fun _ => noR,fun _ => []⟩,⟨fun _ => .int .i64 s8.1,fun _ => noR,fun _ => []⟩,⟨fun _ => .int .i64 (w64 (s8.1 - 1)),fun _ => noR,fun _ => []⟩,⟨fun _ => slA Aa (Int.toNat (w64 (s8.1 - 1)) * 1),fun _ => noR,fun _ => []⟩,⟨fun _ => .int .i64 (rdL s8.2 (w64 (s8.1 - 1))),fun _ => noR,fun _ => []⟩,⟨fun _ => .slice Aa p0.length ca,fun _ => noR,fun _ => []⟩,⟨fun _ => .int .i64 s8.1,fun _ => noR,fun _ => []⟩,⟨fun _ => slA Aa (Int.toNat s8.1 * 1),fun _ => noR,fun _ => []⟩,⟨fun _ => .int .i64 (rdL s8.2 s8.1),fun _ => noR,fun _ => []⟩,⟨fun _ => slA Aa (Int.toNat s8.1 * 1),fun _ => noR,fun _ => []⟩,⟨fun _ => undef,fun _ => rowR Aa ca 3 1 p0.length (encL cI (s8.2.set (Int.toNat s8.1) (rdL s8.2 (w64 (s8.1 - 1))))),fun _ => []⟩,⟨fun _ => slA Aa (Int.toNat (w64 (s8.1 - 1)) * 1),fun _ => noR,fun _ => []⟩,⟨fun _ => undef,fun _ => rowR Aa ca 3 1 p0.length (encL cI ((s8.2.set (Int.toNat s8.1) (rdL s8.2 (w64 (s8.1 - 1)))).set (Int.toNat (w64 (s8.1 - 1))) (rdL s8.2 s8.1))),fun _ => []⟩] 2 mixed (by kernel_rfl) (by kernel_rfl) ⟨⟨fun ξ14 ξ14' h => ⟨rfl,rfl,rfl⟩,fun _ => rfl⟩,⟨fun ξ14 ξ14' h => ⟨rfl,rfl,rfl⟩,fun _ => rfl⟩,⟨fun ξ14 ξ14' h => ⟨rfl,rfl,rfl⟩,fun _ => rfl⟩,⟨fun ξ14 ξ14' h => ⟨rfl,rfl,rfl⟩,fun _ => rfl⟩,⟨fun ξ14 ξ14' h => ⟨rfl,rfl,rfl⟩,fun _ => rfl⟩,⟨fun ξ14 ξ14' h => ⟨rfl,rfl,rfl⟩,fun _ => rfl⟩,⟨fun ξ14 ξ14' h => ⟨rfl,rfl,rfl⟩,fun _ => rfl⟩,⟨fun ξ14 ξ14' h => ⟨rfl,rfl,rfl⟩,fun _ => rfl⟩,⟨fun ξ14 ξ14' h => ⟨rfl,rfl,rfl⟩,fun _ => rfl⟩,⟨fun ξ14 ξ14' h => ⟨rfl,rfl,rfl⟩,fun _ => rfl⟩,⟨fun ξ14 ξ14' h => ⟨rfl,rfl,rfl⟩,fun _ => rfl⟩,⟨fun ξ14 ξ14' h => ⟨rfl,rfl,rfl⟩,fun _ => rfl⟩,⟨fun ξ14 ξ14' h => ⟨rfl,rfl,rfl⟩,fun _ => rfl⟩,⟨fun ξ14 ξ14' h => ⟨rfl,rfl,rfl⟩,fun _ => rfl⟩,⟨fun ξ14 ξ14' h => ⟨rfl,rfl,rfl⟩,fun _ => rfl⟩,⟨fun ξ14 ξ14' h => ⟨rfl,rfl,rfl⟩,fun _ => rfl⟩,⟨fun ξ14 ξ14' h => ⟨rfl,rfl,rfl⟩,fun _ => rfl⟩,⟨fun ξ14 ξ14' h => ⟨rfl,rfl,rfl⟩,fun _ => rfl⟩,trivial⟩ rfl (fun ξ14 => ?_)
      refine gx_o rfl (fun L2 => ?_) ?_
      ·dsimp only [maskL,lca,lna]
       refine ox_y rfl (yMS rfl) (oN ?_)
       exact ex_capG (fun _ => (none,0,0,[],noR)) rfl (List.append_nil _)
      dsimp only [aftL,lsz,lss,lna,lca,List.append_nil]
      refine gx_o rfl (fun L2 => ?_) ?_
      ·dsimp only [maskL,lca,lna]
       refine ox_y rfl (yMI rfl) (oN ?_)
       exact ex_capG (fun _ => (none,0,0,[],noR)) rfl (List.append_nil _)
      dsimp only [aftL,lsz,lss,lna,lca,List.append_nil]
      refine gx_o rfl (fun L2 => ?_) ?_
      ·dsimp only [maskL,lca,lna]
       refine ox_y rfl (yMS rfl) (oN ?_)
       exact ex_capG (fun _ => (none,0,0,[],noR)) rfl (List.append_nil _)
      dsimp only [aftL,lsz,lss,lna,lca,List.append_nil]
      refine gx_o rfl (fun L2 => ?_) ?_
      ·dsimp only [maskL,lca,lna]
       refine ox_y rfl (yMI rfl) (oN ?_)
       exact ex_capG (fun _ => (none,0,0,[],noR)) rfl (List.append_nil _)
      dsimp only [aftL,lsz,lss,lna,lca,List.append_nil]
      refine gx_o rfl (fun L2 => ?_) ?_
      ·dsimp only [maskL,lca,lna]
       refine ox_y rfl (y_sub rfl rfl) (oN ?_)
       exact ex_capG (fun _ => (none,0,0,[],noR)) rfl (List.append_nil _)
      dsimp only [aftL,lsz,lss,lna,lca,List.append_nil]
      refine gx_o rfl (fun L2 => ?_) ?_
      ·dsimp only [maskL,lca,lna]
       refine ox_y rfl (yMS rfl) (oN ?_)
       exact ex_capG (fun _ => (none,0,0,[],noR)) rfl (List.append_nil _)
      dsimp only [aftL,lsz,lss,lna,lca,List.append_nil]
      refine gx_o rfl (fun L2 => ?_) ?_
      ·dsimp only [maskL,lca,lna]
       refine ox_y rfl (yMI rfl) (oN ?_)
       exact ex_capG (fun _ => (none,0,0,[],noR)) rfl (List.append_nil _)
      dsimp only [aftL,lsz,lss,lna,lca,List.append_nil]
      refine gx_o rfl (fun L2 => ?_) ?_
      ·dsimp only [maskL,lca,lna]
       refine ox_y rfl (y_sub rfl rfl) (oN ?_)
       exact ex_capG (fun _ => (none,0,0,[],noR)) rfl (List.append_nil _)
      dsimp only [aftL,lsz,lss,lna,lca,List.append_nil]
      refine gx_o rfl (fun L2 => ?_) ?_
      ·dsimp only [maskL,lca,lna]
       refine ox_y rfl (y_indexR sl_26 (by decide) hg15.1 hg15.2 (RdL.row 1 rfl) (encL_len cI_len hn1_s8) rfl rfl) ?_
       refine oN ?_
       exact ex_capG (fun _ => (none,0,0,[],noR)) rfl (List.append_nil _)
      dsimp only [aftL,lsz,lss,lna,lca,List.append_nil]
      refine gx_o rfl (fun L2 => ?_) ?_
      ·dsimp only [maskL,lca,lna]
       refine ox_y rfl (y_loadR1 (A:=Aa) (j:=(Int.toNat (w64 (s8.1 - 1)) * 1)) (v:=.int .i64 (rdL s8.2 (w64 (s8.1 - 1)))) sc_3 (RdL.row 1 rfl) rfl (encL_get0 cI_len hg15.1 (lt_nat hg15.2 hn1_s8) rfl)) (oN ?_)
       exact ex_capG (fun _ => (none,0,0,[],noR)) rfl (List.append_nil _)
      dsimp only [aftL,lsz,lss,lna,lca,List.append_nil]
      refine gx_o rfl (fun L2 => ?_) ?_
      ·dsimp only [maskL,lca,lna]
       refine ox_y rfl (yMS rfl) (oN ?_)
       exact ex_capG (fun _ => (none,0,0,[],noR)) rfl (List.append_nil _)
      dsimp only [aftL,lsz,lss,lna,lca,List.append_nil]
      refine gx_o rfl (fun L2 => ?_) ?_
      ·dsimp only [maskL,lca,lna]
       refine ox_y rfl (yMI rfl) (oN ?_)
       exact ex_capG (fun _ => (none,0,0,[],noR)) rfl (List.append_nil _)
      dsimp only [aftL,lsz,lss,lna,lca,List.append_nil]
      refine gx_o rfl (fun L2 => ?_) ?_
      ·dsimp only [maskL,lca,lna]
       refine ox_y rfl (y_indexR sl_26 (by decide) hg16.1 hg16.2 (RdL.row 1 rfl) (encL_len cI_len hn1_s8) rfl rfl) ?_
       refine oN ?_
       exact ex_capG (fun _ => (none,0,0,[],noR)) rfl (List.append_nil _)
      dsimp only [aftL,lsz,lss,lna,lca,List.append_nil]
      refine gx_o rfl (fun L2 => ?_) ?_
      ·dsimp only [maskL,lca,lna]
       refine ox_y rfl (y_loadR1 (A:=Aa) (j:=(Int.toNat s8.1 * 1)) (v:=.int .i64 (rdL s8.2 s8.1)) sc_3 (RdL.row 1 rfl) rfl (encL_get0 cI_len hg16.1 (lt_nat hg16.2 hn1_s8) rfl)) (oN ?_)
       exact ex_capG (fun _ => (none,0,0,[],noR)) rfl (List.append_nil _)
      dsimp only [aftL,lsz,lss,lna,lca,List.append_nil]
      refine gx_o rfl (fun L2 => ?_) ?_
      ·dsimp only [maskL,lca,lna]
       refine ox_y rfl (y_indexR sl_26 (by decide) hg17.1 hg17.2 (RdL.row 1 rfl) (encL_len cI_len hn1_s8) rfl rfl) ?_
       refine oN ?_
       exact ex_capG (fun _ => (none,0,0,[],noR)) rfl (List.append_nil _)
      dsimp only [aftL,lsz,lss,lna,lca,List.append_nil]
      refine gx_n rfl (fun L2 => ?_) ?_
      ·dsimp only [maskL,lca,lna]
       refine ox_n rfl (y_storeR1 1 (xs:=s8.2) cI_len (rdL s8.2 (w64 (s8.1 - 1))) sz_3 rfl hg17.1 (lt_nat hg17.2 hn1_s8) rfl rfl rfl rfl) (oN ?_)
       exact ex_capGn (fun _ => (none,0,0,[],noR)) (List.append_nil _)
      dsimp only [aftL,lsz,lss,lna,lca,List.append_nil]
      refine gx_o rfl (fun L2 => ?_) ?_
      ·dsimp only [maskL,lca,lna]
       refine ox_y rfl (y_indexR sl_26 (by decide) hg18.1 hg18.2 (RdL.row 1 rfl) (encL_len cI_len (hn_set hn1_s8)) rfl rfl) ?_
       refine oN ?_
       exact ex_capG (fun _ => (none,0,0,[],noR)) rfl (List.append_nil _)
      dsimp only [aftL,lsz,lss,lna,lca,List.append_nil]
      refine gx_n rfl (fun L2 => ?_) ?_
      ·dsimp only [maskL,lca,lna]
       refine ox_n rfl (y_storeR1 1 (xs:=(s8.2.set (Int.toNat s8.1) (rdL s8.2 (w64 (s8.1 - 1))))) cI_len (rdL s8.2 s8.1) sz_3 rfl hg18.1 (lt_nat hg18.2 (hn_set hn1_s8)) rfl rfl rfl rfl) (oN ?_)
       exact ex_capGn (fun _ => (none,0,0,[],noR)) (List.append_nil _)
      dsimp only [aftL,lsz,lss,lna,lca,List.append_nil]
      refine gx_nil (ex_block ?_)
      refine eT (cR ?_)
      refine ox_y rfl (yMI rfl) (ox_y rfl (y_sub rfl rfl) (ox_y rfl (yAI rfl) (oN ?_)))
      obtain rfl:=sI h
      exact ex_next ⟨_,(hn_set (hn_set hn1_s8)),rfl,(kp4 (kp (kp (kp rfl))))⟩
     ·refine cx_false (vB hp13) (cx_exit (ex_then_exit ?_))
      obtain rfl:=sI h
      exact ex_stop ⟨rfl,_,hn1_s8,rfl,(kp4 (kp (kp (kp rfl))))⟩
    ·clear h; rcases iOs hb12 with ⟨hp10,h⟩ | ⟨hp10,h⟩
     ·refine qx_y (sT rfl rfl rfl rfl hp10) (y_move (v:=.func (.func fid3) fst3.toArray caps3.toArray) rfl) (qx_y (sT rfl rfl rfl rfl hp10) (yMS rfl) (qx_y (sT rfl rfl rfl rfl hp10) (yMI rfl) ?_))
      obtain ⟨hg19,h⟩:=gOs h
      refine qx_y (sT rfl rfl rfl rfl hp10) (y_indexR sl_26 (by decide) hg19.1 hg19.2 (RdL.row 1 rfl) (encL_len cI_len hn1_s8) rfl rfl) ?_
      refine qx_y (sT rfl rfl rfl rfl hp10) (y_loadR1 (A:=Aa) (j:=(Int.toNat s8.1 * 1)) (v:=.int .i64 (rdL s8.2 s8.1)) sc_3 (RdL.row 1 rfl) rfl (encL_get0 cI_len hg19.1 (lt_nat hg19.2 hn1_s8) rfl)) (qx_y (sT rfl rfl rfl rfl hp10) (yMS rfl) (qx_y (sT rfl rfl rfl rfl hp10) (yMI rfl) (qx_y (sT rfl rfl rfl rfl hp10) (y_sub rfl rfl) ?_)))
      obtain ⟨hg20,h⟩:=gOs h
      refine qx_y (sT rfl rfl rfl rfl hp10) (y_indexR sl_26 (by decide) hg20.1 hg20.2 (RdL.row 1 rfl) (encL_len cI_len hn1_s8) rfl rfl) ?_
      refine qx_y (sT rfl rfl rfl rfl hp10) (y_loadR1 (A:=Aa) (j:=(Int.toNat (w64 (s8.1 - 1)) * 1)) (v:=.int .i64 (rdL s8.2 (w64 (s8.1 - 1)))) sc_3 (RdL.row 1 rfl) rfl (encL_get0 cI_len hg20.1 (lt_nat hg20.2 hn1_s8) rfl)) ?_
      obtain ⟨y21,hy22,h⟩:=bOs h
      refine qx_y (sT rfl rfl rfl rfl hp10) (y_callvF [.int .i64 (rdL s8.2 s8.1),.int .i64 (rdL s8.2 (w64 (s8.1 - 1)))] hgo3 rfl rfl (fun W2 hW2 => hof3 W2 hW2.below (hW2.mem (i:=0) rfl) (rdL s8.2 s8.1) (rdL s8.2 (w64 (s8.1 - 1))) y21 hy22)) (qx_y (sT rfl rfl rfl rfl hp10) (y_lss rfl rfl) (qx_y rfl (y_pick_tb (vB hp10) rfl) ?_))
      obtain rfl:=sI h
      exact key _ _ (kp4 (kp4 rfl))
     ·refine qx_skip (sF rfl rfl rfl rfl hp10) (qx_skip (sF rfl rfl rfl rfl hp10) (qx_skip (sF rfl rfl rfl rfl hp10) (qx_skip (sF rfl rfl rfl rfl hp10) (qx_skip (sF rfl rfl rfl rfl hp10) (qx_skip (sF rfl rfl rfl rfl hp10) (qx_skip (sF rfl rfl rfl rfl hp10) (qx_skip (sF rfl rfl rfl rfl hp10) (qx_skip (sF rfl rfl rfl rfl hp10) (qx_skip (sF rfl rfl rfl rfl hp10) (qx_skip (sF rfl rfl rfl rfl hp10) (qx_skip (sF rfl rfl rfl rfl hp10) (qx_y rfl (y_pick_fb (vB hp10) rfl) ?_))))))))))))
      obtain rfl:=sI h
      exact key _ _ (kp4 (kp4 rfl))
   ·intro e L tm hJ
    obtain ⟨rfl,tm0_u9,hn1_u9,rfl,rfl⟩:=hJ
    refine ⟨(by intro hc; cases hc),?_⟩
    refine ex_block_here (ex_block ?_)
    refine eT (cR ?_)
    refine ox_y rfl (yMI rfl) (ox_y rfl (y_add rfl rfl) (ox_y rfl (yAI rfl) (oN ?_)))
    obtain rfl:=sI h
    exact ex_next ⟨_,hn1_u9,rfl,(kp4 (kp rfl))⟩
  ·refine cx_false (vB hp5) (cx_exit (ex_then_exit ?_))
   obtain rfl:=sI h
   exact ex_stop ⟨rfl,_,hn1_s3,rfl,(kp4 (kp rfl))⟩
 ·intro e L tm hJ
  obtain ⟨rfl,tm0_u4,hn1_u4,rfl,rfl⟩:=hJ
  refine ⟨(by intro hc; cases hc),?_⟩
  refine ex_block_here ?_
  obtain rfl:=sI h
  exact ex_result0 (.inr rfl) rfl  (fun W2 hW2 => ⟨rfl,hn1_u4,hW2.take 2⟩)
theorem slices_stableCmpFunc_int_ok (p0:(List Int)) (p1:Int) (p2:Int → Int → Option Int) (res:(List Int)) (h:slices_stableCmpFunc_int p0 p1 p2 = some res) (W:World) (w0:World) (R:Res) (Aa:Option Addr) (n0_0 ca : Nat) (hn0_0:n0_0 = p0.length) (fid2:Nat) (fst2 caps2 : List Value) (hgo2:goes Tryz.prog fid2 = true) (hof2:∀ W2,Below w0.heap.size w0 W2 → R.holds W2 → ∀ x0 x1,∀ y,p2 x0 x1 = some y → Calls Tryz.prog fid2 (fst2 ++ (([.int .i64 x0,.int .i64 x1] : List Value) ++ caps2)).toArray W2 fun e W3 => e = .returned (.int .i64 y) ∧ Ext W2 W3 []) (hW:Ext w0 W [R,rowR Aa ca 3 1 n0_0 (encL cI p0)]) :
  Calls Tryz.prog 169 [.slice Aa n0_0 ca,.int .i64 p1,.func (.func fid2) fst2.toArray caps2.toArray].toArray W fun e W2 => e = .returned (.tuple #[]) ∧ n0_0 = res.length ∧ Ext w0 W2 [R,rowR Aa ca 3 1 n0_0 (encL cI res)]:=by
 subst hn0_0
 unfold slices_stableCmpFunc_int at h
 refine calls_enterB (m:=63) Tryz.func169 rfl rfl (nB rfl) hW ?_
 refine cS (cR ?_)
 refine ox_y rfl (yAI rfl) ?_
 refine oN (eT (cS (cR ?_)))
 refine ox_y rfl (yMI rfl) (ox_y rfl (yAI rfl) (ox_y rfl (yAI rfl) ?_))
 refine oN (eT (cS (cx_block ?_)))
 obtain ⟨u3,hl5,h⟩:=bOs h
 refine cx_loop (fun (s:(Int × Int)) L tm => ∃ (tm0:Nat → Value),L = [R,rowR Aa ca 3 1 p0.length (encL cI p0)] ∧ tm = (upd (upd (upd (upd (upd (upd tm0 0 (.slice Aa p0.length ca)) 1 (.int .i64 p1)) 2 (.func (.func fid2) fst2.toArray caps2.toArray)) 6 (.int .i64 20)) 7 (.int .i64 s.1)) 8 (.int .i64 s.2))) (fun s e L tm => e = .exit 0 ∧ ∃ (tm0:Nat → Value),L = [R,rowR Aa ca 3 1 p0.length (encL cI p0)] ∧ tm = (upd (upd (upd (upd (upd (upd tm0 0 (.slice Aa p0.length ca)) 1 (.int .i64 p1)) 2 (.func (.func fid2) fst2.toArray caps2.toArray)) 6 (.int .i64 20)) 7 (.int .i64 s.1)) 8 (.int .i64 s.2))) hl5 ⟨_,rfl,(kp4 (kp (kp rfl)))⟩ ?_ ?_
 ·rintro s2 L tm st ⟨tm0_s2,rfl,rfl⟩ h
  unfold slices_stableCmpFunc_int_l1 at h
  refine cS (cS (cR ?_))
  refine ox_y rfl (yMI rfl) (ox_y rfl (yMI rfl) (ox_y rfl (y_leq rfl rfl) ?_))
  refine oN (eT ?_)
  obtain ⟨hp4,h⟩:=gOs h
  refine cx_false (vB hp4) (cx_exit (ex_then_exit ?_))
  obtain rfl:=sI h
  exact ex_stop ⟨rfl,_,rfl,(kp4 (kp (kp rfl)))⟩
 ·intro e L tm hJ
  obtain ⟨rfl,tm0_u3,rfl,rfl⟩:=hJ
  refine ⟨(by intro hc; cases hc),?_⟩
  refine ex_block_here ?_
  refine eT (cS (cR ?_))
  refine ox_y rfl (yMS rfl) (ox_y rfl (yMI rfl) (ox_y rfl (yMI rfl) (ox_y rfl (y_move (v:=.func (.func fid2) fst2.toArray caps2.toArray) rfl) ?_)))
  obtain ⟨y6,hy7,h⟩:=bOs h
  refine ox_callT 1 [.slice Aa p0.length ca,.int .i64 u3.1,.int .i64 p1,.func (.func fid2) fst2.toArray caps2.toArray] (fun (_:Unit) => p0.length = y6.length) (fun _ => .tuple #[]) (fun _ => rowR Aa ca 3 1 p0.length (encL cI y6)) (fun _ => []) rfl rfl go_171 rfl (fun W2 hW2 => (slices_insertionSortCmpFunc_int_ok p0 u3.1 p1 p2 y6 hy7 W2 _ (restR [R,rowR Aa ca 3 1 p0.length (encL cI p0)] [1]) Aa p0.length ca rfl fid2 fst2 caps2 hgo2 (fun W3 hb hR => hof2 W3 hb (hR.1 0 _ (by decide) rfl)) hW2).mono (fun e W3 h3 => ⟨(),h3.2.1,h3.1,h3.2.2⟩)) ?_
  rintro - hn8
  try dsimp only [lsz,lss,List.append_nil]
  refine oN (eT (cx_block ?_))
  obtain ⟨u11,hl13,h⟩:=bOs h
  refine cx_loop (fun (s:(Int × Int × Int)) L tm => ∃ (tm0:Nat → Value),L = [R,rowR Aa ca 3 1 p0.length (encL cI y6)] ∧ tm = (upd (upd (upd (upd (upd (upd tm0 0 (.slice Aa p0.length ca)) 1 (.int .i64 p1)) 2 (.func (.func fid2) fst2.toArray caps2.toArray)) 6 (.int .i64 s.1)) 7 (.int .i64 s.2.1)) 8 (.int .i64 s.2.2))) (fun s e L tm => e = .exit 2 ∧ ∃ (tm0:Nat → Value),L = [R,rowR Aa ca 3 1 p0.length (encL cI y6)] ∧ tm = (upd (upd (upd (upd (upd (upd tm0 0 (.slice Aa p0.length ca)) 1 (.int .i64 p1)) 2 (.func (.func fid2) fst2.toArray caps2.toArray)) 6 (.int .i64 s.1)) 7 (.int .i64 s.2.1)) 8 (.int .i64 s.2.2))) hl13 ⟨_,rfl,(kp4 (kp (kp rfl)))⟩ ?_ ?_
  ·rintro s10 L tm st ⟨tm0_s10,rfl,rfl⟩ h
   unfold slices_stableCmpFunc_int_l2 at h
   refine cS (cS (cR ?_))
   refine ox_y rfl (yMI rfl) (ox_y rfl (yMI rfl) (ox_y rfl (y_lss rfl rfl) ?_))
   refine oN (eT ?_)
   obtain ⟨hp12,h⟩:=gOs h
   refine cx_false (vB hp12) (cx_exit (ex_then_exit ?_))
   obtain rfl:=sI h
   exact ex_stop ⟨rfl,_,rfl,(kp4 (kp (kp rfl)))⟩
  ·intro e L tm hJ
   obtain ⟨rfl,tm0_u11,rfl,rfl⟩:=hJ
   refine ⟨(by intro hc; cases hc),?_⟩
   refine ex_block_here ?_
   obtain rfl:=sI h
   exact ex_result0 (.inr rfl) rfl  (fun W2 hW2 => ⟨rfl,hn8,hW2.take 2⟩)
theorem slices_SortStableFunc_int_int_ok (p0:(List Int)) (p1:Int → Int → Option Int) (res:(List Int)) (h:slices_SortStableFunc_int_int p0 p1 = some res) (W:World) (w0:World) (R:Res) (Aa:Option Addr) (n0_0 ca : Nat) (hn0_0:n0_0 = p0.length) (fid1:Nat) (fst1 caps1 : List Value) (hgo1:goes Tryz.prog fid1 = true) (hof1:∀ W2,Below w0.heap.size w0 W2 → R.holds W2 → ∀ x0 x1,∀ y,p1 x0 x1 = some y → Calls Tryz.prog fid1 (fst1 ++ (([.int .i64 x0,.int .i64 x1] : List Value) ++ caps1)).toArray W2 fun e W3 => e = .returned (.int .i64 y) ∧ Ext W2 W3 []) (hW:Ext w0 W [R,rowR Aa ca 3 1 n0_0 (encL cI p0)]) :
  Calls Tryz.prog 159 [.slice Aa n0_0 ca,.func (.func fid1) fst1.toArray caps1.toArray].toArray W fun e W2 => e = .returned (.tuple #[]) ∧ n0_0 = res.length ∧ Ext w0 W2 [R,rowR Aa ca 3 1 n0_0 (encL cI res)]:=by
 subst hn0_0
 unfold slices_SortStableFunc_int_int at h
 refine calls_enterB (m:=9) Tryz.func159 rfl rfl (nB rfl) hW (cR (ox_y rfl (yMS rfl) (ox_y rfl (yMS rfl) (ox_y rfl (y_len (us:=[]) us_26 rfl) (ox_y rfl (y_move (v:=.func (.func fid1) fst1.toArray caps1.toArray) rfl) ?_)))))
 obtain ⟨y1,hy2,h⟩:=bOs h
 refine ox_callT 1 [.slice Aa p0.length ca,.int .i64 (p0.length:Int),.func (.func fid1) fst1.toArray caps1.toArray] (fun (_:Unit) => p0.length = y1.length) (fun _ => .tuple #[]) (fun _ => rowR Aa ca 3 1 p0.length (encL cI y1)) (fun _ => []) rfl rfl go_169 rfl (fun W2 hW2 => (slices_stableCmpFunc_int_ok p0 (p0.length:Int) p1 y1 hy2 W2 _ (restR [R,rowR Aa ca 3 1 p0.length (encL cI p0)] [1]) Aa p0.length ca rfl fid1 fst1 caps1 hgo1 (fun W3 hb hR => hof1 W3 hb (hR.1 0 _ (by decide) rfl)) hW2).mono (fun e W3 h3 => ⟨(),h3.2.1,h3.1,h3.2.2⟩)) ?_
 rintro - hn3
 try dsimp only [lsz,lss,List.append_nil]
 refine oN ?_
 obtain rfl:=sI h
 exact ex_result0 (.inr rfl) rfl  (fun W2 hW2 => ⟨rfl,hn3,hW2.take 2⟩)
theorem cmp_Compare_int_ok (p0:Int) (p1:Int) (res:Int) (h:cmp_Compare_int p0 p1 = some res) (W:World)  :
  Calls Tryz.prog 161 [.int .i64 p0,.int .i64 p1].toArray W fun e W2 => e = .returned (.int .i64 res) ∧ Ext W W2 []:=by
 unfold cmp_Compare_int at h
 refine calls_enter (m:=20) Tryz.func161 rfl rfl (nB rfl) ?_
 refine cS (cR ?_)
 refine ox_y rfl (yAI rfl) ?_
 refine oN (eT (cS (cR ?_)))
 refine ox_y rfl (yMI rfl) ?_
 obtain ⟨y1,hy2,h⟩:=bOs h
 refine ox_y rfl (y_call [.int .i64 p0] go_168 rfl (fun W2 hW2 => cmp_isNaN_int_ok p0 y1 hy2 W2 ) rfl) (ox_y rfl (y_assign_bool rfl) ?_)
 refine oN (eT (cS (cR ?_)))
 refine ox_y rfl (yMI rfl) ?_
 obtain ⟨y3,hy4,h⟩:=bOs h
 refine ox_y rfl (y_call [.int .i64 p1] go_168 rfl (fun W2 hW2 => cmp_isNaN_int_ok p1 y3 hy4 W2 ) rfl) (ox_y rfl (y_assign_bool rfl) ?_)
 refine oN (eT (cS (cS (cR ?_))))
 refine ox_y rfl (y_move_bool rfl) ?_
 refine oN (eT ?_)
 rcases iOs h with ⟨hp5,h⟩ | ⟨hp5,h⟩
 ·refine cx_true (vB hp5) ?_
  refine cS (cS (cR ?_))
  refine ox_y rfl (y_move_bool rfl) ?_
  refine oN (eT ?_)
  rcases iOs h with ⟨hp6,h⟩ | ⟨hp6,h⟩
  ·refine cx_true (vB hp6) ?_
   refine cS (cR ?_)
   refine ox_y rfl (yAI rfl) ?_
   refine oN (eT (cx_ret (ex_then_ret (ex_then_ret ?_))))
   obtain rfl:=sI h
   exact ex_res1 (.inl rfl) rfl (rVt (v:=.int .i64 0) rfl) (fun W2 hW2 => ⟨rfl,hW2.none⟩)
  ·refine cx_false (vB hp6) ?_
   refine cx_skip (eT (cS (cR ?_)))
   refine ox_y rfl (yAI rfl) ?_
   refine oN (eT (cx_ret (ex_then_ret ?_)))
   obtain rfl:=sI h
   exact ex_res1 (.inl rfl) rfl (rVt (v:=.int .i64 (-1)) rfl) (fun W2 hW2 => ⟨rfl,hW2.none⟩)
 ·refine cx_false (vB hp5) ?_
  refine cx_skip (eT (cS (cS (cR ?_))))
  refine ox_y rfl (y_move_bool rfl) ?_
  refine oN (eT ?_)
  rcases iOs h with ⟨hp7,h⟩ | ⟨hp7,h⟩
  ·refine cx_true (vB hp7) ?_
   refine cS (cR ?_)
   refine ox_y rfl (yAI rfl) ?_
   refine oN (eT (cx_ret (ex_then_ret ?_)))
   obtain rfl:=sI h
   exact ex_res1 (.inl rfl) rfl (rVt (v:=.int .i64 1) rfl) (fun W2 hW2 => ⟨rfl,hW2.none⟩)
  ·refine cx_false (vB hp7) ?_
   refine cx_skip (eT (cS (cS (cR ?_))))
   refine ox_y rfl (yMI rfl) (ox_y rfl (yMI rfl) (ox_y rfl (y_lss rfl rfl) ?_))
   refine oN (eT ?_)
   rcases iOs h with ⟨hp8,h⟩ | ⟨hp8,h⟩
   ·refine cx_true (vB hp8) ?_
    refine cS (cR ?_)
    refine ox_y rfl (yAI rfl) ?_
    refine oN (eT (cx_ret (ex_then_ret ?_)))
    obtain rfl:=sI h
    exact ex_res1 (.inl rfl) rfl (rVt (v:=.int .i64 (-1)) rfl) (fun W2 hW2 => ⟨rfl,hW2.none⟩)
   ·refine cx_false (vB hp8) ?_
    refine cx_skip (eT (cS (cS (cR ?_))))
    refine ox_y rfl (yMI rfl) (ox_y rfl (yMI rfl) (ox_y rfl (y_gtr rfl rfl) ?_))
    refine oN (eT ?_)
    rcases iOs h with ⟨hp9,h⟩ | ⟨hp9,h⟩
    ·refine cx_true (vB hp9) ?_
     refine cS (cR ?_)
     refine ox_y rfl (yAI rfl) ?_
     refine oN (eT (cx_ret (ex_then_ret ?_)))
     obtain rfl:=sI h
     exact ex_res1 (.inl rfl) rfl (rVt (v:=.int .i64 1) rfl) (fun W2 hW2 => ⟨rfl,hW2.none⟩)
    ·refine cx_false (vB hp9) ?_
     refine cx_skip (eT (cS (cR ?_)))
     refine ox_y rfl (yAI rfl) ?_
     refine oN (eT (cx_ret ?_))
     obtain rfl:=sI h
     exact ex_res1 (.inl rfl) rfl (rVt (v:=.int .i64 0) rfl) (fun W2 hW2 => ⟨rfl,hW2.none⟩)
theorem recall_levels_1_ok (p0:Int) (p1:Int) (cap0:TL) (res:Int) (h:recall_levels_1 p0 p1 cap0 = some res) (W:World) (bc0:Nat) (A100_0:Option Addr) (n100_0 c100_0 : Nat) (hn100_0:n100_0 = cap0.fNo.length) (hr100_0:Rd W A100_0 n100_0 c100_0 (encL TNode_cells cap0.fNo)) (A100_1:Option Addr) (n100_1 c100_1 : Nat) (ys100_1:List (Hd × TC)) (hn100_1:n100_1 = cap0.fC.length) (hr100_1:Rd W A100_1 n100_1 c100_1 (encL TClaim_cells2 ys100_1)) (hN100_1:NestW W (fun z : TC => z.fO) THop_cells ys100_1 cap0.fC) (hcap0:Rd W (some ⟨bc0,0,none⟩) 1 1 [.slice A100_0 n100_0 c100_0,.slice A100_1 n100_1 c100_1]) :
  Calls Tryz.prog 160 [.int .i64 p0,.int .i64 p1,.pointer (some ⟨bc0,0,none⟩)].toArray W fun e W2 => e = .returned (.int .i64 res) ∧ Ext W W2 []:=by
 subst hn100_0
 subst hn100_1
 unfold recall_levels_1 at h
 refine calls_enter (m:=19) Tryz.func160 rfl rfl (nB rfl) ?_
 refine cS (cR ?_)
 refine ox_y rfl (yAI rfl) ?_
 refine oN (eT (cS ?_))
 refine cx_draws 14 mixed (by kernel_rfl) (by kernel_rfl) ?_
 refine qx_y rfl (y_fieldAddrR (A:=(some ⟨bc0,0,none⟩)) (j:=0) fo_25_0 rfl) (qx_y rfl (y_loadR1 (A:=(some ⟨bc0,0,none⟩)) (j:=(0 + 0)) (v:=.slice A100_0 cap0.fNo.length c100_0) sc_22 (RdL.arg hcap0) rfl rfl) (qx_y rfl (yMI rfl) ?_))
 obtain ⟨hg1,h⟩:=gOs h
 refine qx_y rfl (y_indexR sl_22 (by decide) hg1.1 hg1.2 (RdL.arg hr100_0) (encL_len TNode_cells_len rfl) rfl rfl) ?_
 refine qx_y rfl (y_fieldAddrR (A:=A100_0) (j:=(Int.toNat p0 * 3)) fo_97_1 rfl) (qx_y rfl (y_loadR1 (A:=A100_0) (j:=((Int.toNat p0 * 3) + 1)) (v:=.int .i64 ((rdL cap0.fNo p0).fLevel)) sc_3 (RdL.arg hr100_0) rfl (encL_get TNode_cells_len hg1.1 (lt_nat hg1.2 rfl) rfl)) (qx_y rfl (y_fieldAddrR (A:=(some ⟨bc0,0,none⟩)) (j:=0) fo_25_0 rfl) (qx_y rfl (y_loadR1 (A:=(some ⟨bc0,0,none⟩)) (j:=(0 + 0)) (v:=.slice A100_0 cap0.fNo.length c100_0) sc_22 (RdL.arg hcap0) rfl rfl) (qx_y rfl (yMI rfl) ?_))))
 obtain ⟨hg2,h⟩:=gOs h
 refine qx_y rfl (y_indexR sl_22 (by decide) hg2.1 hg2.2 (RdL.arg hr100_0) (encL_len TNode_cells_len rfl) rfl rfl) ?_
 refine qx_y rfl (y_fieldAddrR (A:=A100_0) (j:=(Int.toNat p1 * 3)) fo_97_1 rfl) (qx_y rfl (y_loadR1 (A:=A100_0) (j:=((Int.toNat p1 * 3) + 1)) (v:=.int .i64 ((rdL cap0.fNo p1).fLevel)) sc_3 (RdL.arg hr100_0) rfl (encL_get TNode_cells_len hg2.1 (lt_nat hg2.2 rfl) rfl)) ?_)
 obtain ⟨y3,hy4,h⟩:=bOs h
 refine qx_y rfl (y_call [.int .i64 ((rdL cap0.fNo p0).fLevel),.int .i64 ((rdL cap0.fNo p1).fLevel)] go_161 rfl (fun W2 hW2 => cmp_Compare_int_ok ((rdL cap0.fNo p0).fLevel) ((rdL cap0.fNo p1).fLevel) y3 hy4 W2 ) rfl) (qx_y rfl (yAI rfl) (qx_nil ?_))
 refine oN (eT (cx_ret ?_))
 obtain rfl:=sI h
 exact ex_res1 (.inl rfl) rfl (rVt (v:=.int .i64 y3) rfl) (fun W2 hW2 => ⟨rfl,hW2.none⟩)
theorem recall_levels_ok (p0:TL) (res:(List Int)) (h:recall_levels p0 = some res) (W:World) (Aa:Option Addr) (n0_0 ca : Nat) (hn0_0:n0_0 = p0.fNo.length) (hr0_0:Rd W Aa n0_0 ca (encL TNode_cells p0.fNo)) (Ab:Option Addr) (n0_1 cb : Nat) (ys0_1:List (Hd × TC)) (hn0_1:n0_1 = p0.fC.length) (hr0_1:Rd W Ab n0_1 cb (encL TClaim_cells2 ys0_1)) (hN0_1:NestW W (fun z : TC => z.fO) THop_cells ys0_1 p0.fC) :
  Calls Tryz.prog 131 [.agg #[.slice Aa n0_0 ca,.slice Ab n0_1 cb]].toArray W fun e W2 => ∃ x : Option Addr × Nat × Nat,x.2.1 = res.length ∧ e = .returned (.slice x.1 x.2.1 x.2.2) ∧ Ext W W2 [rowR x.1 x.2.2 3 1 x.2.1 (encL cI res)]:=by
 subst hn0_0
 subst hn0_1
 unfold recall_levels at h
 refine calls_enter (m:=23) Tryz.func131 rfl rfl (nB rfl) ?_
 refine cS (cR ?_)
 refine ox_box [.slice Aa p0.fNo.length ca,.slice Ab p0.fC.length cb] rfl rfl rfl (fun b1 => ?_)
 refine ox_y rfl (yAS rfl) ?_
 refine oN (eT (cS (cR ?_)))
 refine ox_y rfl (yFA fo_25_0 rfl) (ox_y rfl (y_load1 0 (v:=.slice Aa p0.fNo.length ca) sc_22 rfl rfl rfl) (ox_y rfl (y_len (us:=[]) us_22 rfl) ?_))
 obtain ⟨hg3,h⟩:=gOs h
 refine ox_make (encL cI (List.replicate (Int.toNat (p0.fNo.length:Int)) 0)) us_26 ze_3 by_3 hg3.1 hg3.2 rfl (made_enc _ _ _ rfl rfl) rfl (fun b2 => ?_)
 refine ox_y rfl (yAS rfl) ?_
 refine oN (eT (cS (cS (cR ?_))))
 refine ox_y rfl (yMS rfl) (ox_y rfl (y_len (us:=[]) us_26 rfl) (ox_y rfl (yMI rfl) ?_))
 refine oN (eT (cx_block ?_))
 obtain ⟨u7,hl10,h⟩:=bOs h
 refine cx_loop (fun (s:(Int × (List Int))) L tm => ∃ (tm0:Nat → Value),Int.toNat (p0.fNo.length:Int) = s.2.length ∧ L = [cellsR b1 25 [.slice Aa p0.fNo.length ca,.slice Ab p0.fC.length cb],rowR (some ⟨b2,0,none⟩) (Int.toNat (p0.fNo.length:Int)) 3 1 (Int.toNat (p0.fNo.length:Int)) (encL cI s.2)] ∧ tm = (upd (upd (upd (upd (upd (upd tm0 0 (.agg #[.slice Aa p0.fNo.length ca,.slice Ab p0.fC.length cb])) 1 (.pointer (some ⟨b1,0,none⟩))) 2 (.slice none 0 0)) 3 (.slice (some ⟨b2,0,none⟩) (Int.toNat (p0.fNo.length:Int)) (Int.toNat (p0.fNo.length:Int)))) 10 (.int .i64 ((Int.toNat (p0.fNo.length:Int) : Nat) : Int))) 11 (.int .i64 s.1))) (fun s e L tm => e = .exit 0 ∧ ∃ (tm0:Nat → Value),Int.toNat (p0.fNo.length:Int) = s.2.length ∧ L = [cellsR b1 25 [.slice Aa p0.fNo.length ca,.slice Ab p0.fC.length cb],rowR (some ⟨b2,0,none⟩) (Int.toNat (p0.fNo.length:Int)) 3 1 (Int.toNat (p0.fNo.length:Int)) (encL cI s.2)] ∧ tm = (upd (upd (upd (upd (upd (upd tm0 0 (.agg #[.slice Aa p0.fNo.length ca,.slice Ab p0.fC.length cb])) 1 (.pointer (some ⟨b1,0,none⟩))) 2 (.slice none 0 0)) 3 (.slice (some ⟨b2,0,none⟩) (Int.toNat (p0.fNo.length:Int)) (Int.toNat (p0.fNo.length:Int)))) 10 (.int .i64 ((Int.toNat (p0.fNo.length:Int) : Nat) : Int))) 11 (.int .i64 s.1))) hl10 ⟨_,(List.length_replicate).symm,rfl,(kp4 (kp (kp rfl)))⟩ ?_ ?_
 ·rintro s6 L tm st ⟨tm0_s6,hn1_s6,rfl,rfl⟩ h
  unfold recall_levels_l1 at h
  refine cS (cR ?_)
  refine ox_y rfl (y_lss rfl rfl) ?_
  refine oN (eT (cS ?_))
  rcases iOs h with ⟨hp8,h⟩ | ⟨hp8,h⟩
  ·refine cx_true (vB hp8) ?_
   refine cx_skip (eT (cS (cx_block (cS (cR ?_)))))
   refine ox_y rfl (yMI rfl) (ox_y rfl (yAI rfl) ?_)
   refine oN (eT (cR ?_))
   refine ox_y rfl (yMS rfl) (ox_y rfl (yMI rfl) (ox_y rfl (yMI rfl) ?_))
   obtain ⟨hg9,h⟩:=gOs h
   refine ox_y rfl (y_indexR sl_26 (by decide) hg9.1 hg9.2 (RdL.row 1 rfl) (encL_len cI_len hn1_s6) rfl rfl) ?_
   refine ox_n rfl (y_storeR1 1 (xs:=s6.2) cI_len s6.1 sz_3 rfl hg9.1 (lt_nat hg9.2 hn1_s6) rfl rfl rfl rfl) (oN (ex_block ?_))
   refine eT (cR ?_)
   refine ox_y rfl (y_add rfl rfl) (ox_y rfl (yMI rfl) (oN ?_))
   obtain rfl:=sI h
   exact ex_next ⟨_,(hn_set hn1_s6),rfl,(kp4 (kp (kp rfl)))⟩
  ·refine cx_false (vB hp8) (cx_exit (ex_then_exit ?_))
   obtain rfl:=sI h
   exact ex_stop ⟨rfl,_,hn1_s6,rfl,(kp4 (kp (kp rfl)))⟩
 ·intro e L tm hJ
  obtain ⟨rfl,tm0_u7,hn1_u7,rfl,rfl⟩:=hJ
  refine ⟨(by intro hc; cases hc),?_⟩
  refine ex_block_here ?_
  refine eT (cS (cR ?_))
  refine ox_y rfl (yMS rfl) (ox_y rfl (y_makeFunc [.pointer (some ⟨b1,0,none⟩)] rfl rfl) ?_)
  obtain ⟨y13,hy14,h⟩:=bOs h
  refine ox_callT 1 [.slice (some ⟨b2,0,none⟩) (Int.toNat (p0.fNo.length:Int)) (Int.toNat (p0.fNo.length:Int)),.func (.func 160) #[] #[.pointer (some ⟨b1,0,none⟩)]] (fun (_:Unit) => Int.toNat (p0.fNo.length:Int) = y13.length) (fun _ => .tuple #[]) (fun _ => rowR (some ⟨b2,0,none⟩) (Int.toNat (p0.fNo.length:Int)) 3 1 (Int.toNat (p0.fNo.length:Int)) (encL cI y13)) (fun _ => []) rfl rfl go_159 rfl (fun W2 hW2 => (slices_SortStableFunc_int_int_ok u7.2 (fun x11 x12 => recall_levels_1 x11 x12 p0) y13 hy14 W2 _ (restR [cellsR b1 25 [.slice Aa p0.fNo.length ca,.slice Ab p0.fC.length cb],rowR (some ⟨b2,0,none⟩) (Int.toNat (p0.fNo.length:Int)) 3 1 (Int.toNat (p0.fNo.length:Int)) (encL cI u7.2)] [1]) (some ⟨b2,0,none⟩) (Int.toNat (p0.fNo.length:Int)) (Int.toNat (p0.fNo.length:Int)) (hn1_u7) 160 [] [.pointer (some ⟨b1,0,none⟩)] go_160 (fun W3 hb hR x0 x1 y hxy => recall_levels_1_ok  x0 x1 p0 y hxy W3 b1 Aa p0.fNo.length ca rfl ((RdL.arg hr0_0) W3 (hW2.rest hb hR)) Ab p0.fC.length cb ys0_1 rfl ((RdL.arg hr0_1) W3 (hW2.rest hb hR)) (NestL.at (NestL.arg hN0_1) W3 (hW2.rest hb hR)) ((RdL.cells 0 rfl) W3 (hW2.rest hb hR))) hW2).mono (fun e W3 h3 => ⟨(),h3.2.1,h3.1,h3.2.2⟩)) ?_
  rintro - hn15
  try dsimp only [lsz,lss,List.append_nil]
  refine oN (eT (cS (cR ?_)))
  refine ox_y rfl (yMS rfl) (ox_y rfl (yAS rfl) ?_)
  refine oN (eT (cx_ret ?_))
  obtain rfl:=sI h
  exact ex_res1 (.inl rfl) rfl (rVt (v:=.slice (some ⟨b2,0,none⟩) (Int.toNat (p0.fNo.length:Int)) (Int.toNat (p0.fNo.length:Int))) rfl) (fun W2 hW2 => ⟨((some ⟨b2,0,none⟩),Int.toNat (p0.fNo.length:Int),Int.toNat (p0.fNo.length:Int)),hn15,rfl,(hW2.pick 1 rfl)⟩)
theorem recall_reach_ok (p0:TL) (p1:(List Int)) (p2:Int → Int → Option Bool) (res:(List (Int × Bool))) (h:rcR p0 p1 p2 = some res) (W:World) (Aa:Option Addr) (n0_0 ca : Nat) (hn0_0:n0_0 = p0.fNo.length) (hr0_0:Rd W Aa n0_0 ca (encL TNode_cells p0.fNo)) (Ab:Option Addr) (n0_1 cb : Nat) (ys0_1:List (Hd × TC)) (hn0_1:n0_1 = p0.fC.length) (hr0_1:Rd W Ab n0_1 cb (encL TClaim_cells2 ys0_1)) (hN0_1:NestW W (fun z : TC => z.fO) THop_cells ys0_1 p0.fC) (Ac:Option Addr) (n1_0 cc : Nat) (hn1_0:n1_0 = p1.length) (hr1_0:Rd W Ac n1_0 cc (encL cI p1)) (fid2:Nat) (fst2 caps2 : List Value) (hgo2:goes Tryz.prog fid2 = true) (hof2:∀ W2,Below W.heap.size W W2 → ∀ x0 x1,∀ y,p2 x0 x1 = some y → Calls Tryz.prog fid2 (fst2 ++ (([.int .i64 x0,.int .i64 x1] : List Value) ++ caps2)).toArray W2 fun e W3 => e = .returned (.bool y) ∧ Ext W2 W3 []) :
  Calls Tryz.prog 87 [.agg #[.slice Aa n0_0 ca,.slice Ab n0_1 cb],.slice Ac n1_0 cc,.func (.func fid2) fst2.toArray caps2.toArray].toArray W fun e W2 => ∃ x : Nat,e = .returned (.map (some x)) ∧ Ext W W2 [mapV Tryz.prog 3 kI rngB kB false x res]:=by
 subst hn0_0
 subst hn0_1
 subst hn1_0
 unfold rcR at h
 refine calls_enter (m:=94) Tryz.func87 rfl rfl (nB rfl) ?_
 refine cS (cR ?_)
 refine ox_box [.slice Aa p0.fNo.length ca,.slice Ab p0.fC.length cb] rfl rfl rfl (fun b1 => ?_)
 refine ox_y rfl (y_assign_map rfl) ?_
 refine oN (eT (cS (cR ?_)))
 refine ox_makeMapS 3 kI rngB 3 1 cI rfl (fun b2 => ?_)
 refine ox_y rfl (y_assign_map rfl) ?_
 refine oN (eT (cS (cS (cR ?_))))
 refine ox_y rfl (yFA fo_25_1 rfl) (ox_y rfl (y_load1 0 (v:=.slice Ab p0.fC.length cb) sc_23 rfl rfl rfl) (ox_y rfl (y_len (us:=[]) us_23 rfl) (ox_y rfl (yMI rfl) ?_)))
 refine oN (eT (cx_block ?_))
 obtain ⟨u6,hl28,h⟩:=bOs h
 refine cx_loop (fun (s:(Int × (List (Int × (List Int))))) L tm => ∃ (tm0:Nat → Value) (h1_s:List (Int × Hd)),HsOk h1_s s.2 ∧ L = [cellsR b1 25 [.slice Aa p0.fNo.length ca,.slice Ab p0.fC.length cb],mapV Tryz.prog 3 kI rngB hdV nilHd b2 h1_s,rowsS 3 1 cI h1_s s.2] ∧ tm = (upd (upd (upd (upd (upd (upd (upd (upd (upd tm0 0 (.agg #[.slice Aa p0.fNo.length ca,.slice Ab p0.fC.length cb])) 1 (.slice Ac p1.length cc)) 2 (.func (.func fid2) fst2.toArray caps2.toArray)) 3 (.pointer (some ⟨b1,0,none⟩))) 6 (.map none)) 7 (.map (some b2))) 22 (.slice Ab p0.fC.length cb)) 23 (.int .i64 (p0.fC.length:Int))) 24 (.int .i64 s.1))) (fun s e L tm => e = .exit 0 ∧ ∃ (tm0:Nat → Value) (h1_s:List (Int × Hd)),HsOk h1_s s.2 ∧ L = [cellsR b1 25 [.slice Aa p0.fNo.length ca,.slice Ab p0.fC.length cb],mapV Tryz.prog 3 kI rngB hdV nilHd b2 h1_s,rowsS 3 1 cI h1_s s.2] ∧ tm = (upd (upd (upd (upd (upd (upd (upd (upd (upd tm0 0 (.agg #[.slice Aa p0.fNo.length ca,.slice Ab p0.fC.length cb])) 1 (.slice Ac p1.length cc)) 2 (.func (.func fid2) fst2.toArray caps2.toArray)) 3 (.pointer (some ⟨b1,0,none⟩))) 6 (.map none)) 7 (.map (some b2))) 22 (.slice Ab p0.fC.length cb)) 23 (.int .i64 (p0.fC.length:Int))) 24 (.int .i64 s.1))) hl28 ⟨_,([]:List (Int × Hd)),HsOk.nil,rfl,(kp4 (kp4 (kp rfl)))⟩ ?_ ?_
 ·rintro s5 L tm st ⟨tm0_s5,h1_s5,hk1_s5,rfl,rfl⟩ h
  unfold recall_reach_l1 at h
  refine cS (cR ?_)
  refine ox_y rfl (y_lss rfl rfl) ?_
  refine oN (eT (cS ?_))
  rcases iOs h with ⟨hp7,h⟩ | ⟨hp7,h⟩
  ·refine cx_true (vB hp7) ?_
   refine cx_skip (eT (cS (cx_block (cS (cR ?_)))))
   refine ox_y rfl (yMI rfl) ?_
   obtain ⟨hg8,h⟩:=gOs h
   refine ox_y rfl (y_indexR sl_23 (by decide) hg8.1 hg8.2 (RdL.arg hr0_1) (encL_len TClaim_cells2_len (NestP.hn hN0_1.p rfl)) rfl rfl) ?_
   refine ox_y rfl (y_loadRN (A:=Ab) (j:=(Int.toNat s5.1 * 2)) [.int .i64 ((rdL p0.fC s5.1).fID),.slice ((rdL ys0_1 s5.1).1.1) ((rdL p0.fC s5.1).fO.length) ((rdL ys0_1 s5.1).1.2.2)] ag_90 (Nat.succ_pos _) (RdL.arg hr0_1) rfl (gets_eq (TClaim_cells2_eq (NestP.snd hN0_1.p s5.1) (NestP.len hN0_1.p hg8.1 (lt_nat hg8.2 rfl))).symm (encL_gets TClaim_cells2_len hg8.1 (lt_nat hg8.2 (NestP.hn hN0_1.p rfl))))) ?_
   refine ox_alloc ze_90 rfl (fun b9 => ?_)
   refine ox_y rfl (yAI rfl) (ox_n rfl (y_storeN 3 [.int .i64 ((rdL p0.fC s5.1).fID),.slice ((rdL ys0_1 s5.1).1.1) ((rdL p0.fC s5.1).fO.length) ((rdL ys0_1 s5.1).1.2.2)] sz_90 rfl (nB rfl) rfl rfl rfl) ?_)
   refine oN (eT (cS (cR ?_)))
   refine ox_y rfl (yFA fo_90_1 rfl) (ox_y rfl (y_load1 3 (v:=.slice ((rdL ys0_1 s5.1).1.1) ((rdL p0.fC s5.1).fO.length) ((rdL ys0_1 s5.1).1.2.2)) sc_88 rfl rfl rfl) (ox_y rfl (y_len (us:=[]) us_88 rfl) (ox_y rfl (yMI rfl) ?_)))
   refine oN (eT (cx_block ?_))
   obtain ⟨u13,hl27,h⟩:=bOs h
   refine cx_loop (fun (s:(Int × (List (Int × (List Int))))) L tm => ∃ (tm0:Nat → Value) (h1_s:List (Int × Hd)),HsOk h1_s s.2 ∧ L = [cellsR b1 25 [.slice Aa p0.fNo.length ca,.slice Ab p0.fC.length cb],mapV Tryz.prog 3 kI rngB hdV nilHd b2 h1_s,rowsS 3 1 cI h1_s s.2,cellsR b9 90 [.int .i64 ((rdL p0.fC s5.1).fID),.slice ((rdL ys0_1 s5.1).1.1) ((rdL p0.fC s5.1).fO.length) ((rdL ys0_1 s5.1).1.2.2)]] ∧ tm = (upd (upd (upd (upd (upd (upd (upd (upd (upd (upd (upd (upd (upd (upd (upd tm0 0 (.agg #[.slice Aa p0.fNo.length ca,.slice Ab p0.fC.length cb])) 1 (.slice Ac p1.length cc)) 2 (.func (.func fid2) fst2.toArray caps2.toArray)) 3 (.pointer (some ⟨b1,0,none⟩))) 6 (.map none)) 7 (.map (some b2))) 22 (.slice Ab p0.fC.length cb)) 23 (.int .i64 (p0.fC.length:Int))) 24 (.int .i64 s5.1)) 25 (.bool (decide (s5.1 < (p0.fC.length:Int))))) 9 (.pointer (some ⟨b9,0,none⟩))) 8 (.int .i64 s5.1)) 30 (.slice ((rdL ys0_1 s5.1).1.1) ((rdL p0.fC s5.1).fO.length) ((rdL ys0_1 s5.1).1.2.2))) 31 (.int .i64 (((rdL p0.fC s5.1).fO.length : Nat) : Int))) 32 (.int .i64 s.1))) (fun s e L tm => e = .exit 2 ∧ ∃ (tm0:Nat → Value) (h1_s:List (Int × Hd)),HsOk h1_s s.2 ∧ L = [cellsR b1 25 [.slice Aa p0.fNo.length ca,.slice Ab p0.fC.length cb],mapV Tryz.prog 3 kI rngB hdV nilHd b2 h1_s,rowsS 3 1 cI h1_s s.2,cellsR b9 90 [.int .i64 ((rdL p0.fC s5.1).fID),.slice ((rdL ys0_1 s5.1).1.1) ((rdL p0.fC s5.1).fO.length) ((rdL ys0_1 s5.1).1.2.2)]] ∧ tm = (upd (upd (upd (upd (upd (upd (upd (upd (upd (upd (upd (upd (upd (upd (upd tm0 0 (.agg #[.slice Aa p0.fNo.length ca,.slice Ab p0.fC.length cb])) 1 (.slice Ac p1.length cc)) 2 (.func (.func fid2) fst2.toArray caps2.toArray)) 3 (.pointer (some ⟨b1,0,none⟩))) 6 (.map none)) 7 (.map (some b2))) 22 (.slice Ab p0.fC.length cb)) 23 (.int .i64 (p0.fC.length:Int))) 24 (.int .i64 s5.1)) 25 (.bool (decide (s5.1 < (p0.fC.length:Int))))) 9 (.pointer (some ⟨b9,0,none⟩))) 8 (.int .i64 s5.1)) 30 (.slice ((rdL ys0_1 s5.1).1.1) ((rdL p0.fC s5.1).fO.length) ((rdL ys0_1 s5.1).1.2.2))) 31 (.int .i64 (((rdL p0.fC s5.1).fO.length : Nat) : Int))) 32 (.int .i64 s.1))) hl27 ⟨_,h1_s5,hk1_s5,rfl,(kp4 (kp4 (kp4 (kp (kp (kp rfl))))))⟩ ?_ ?_
   ·rintro s12 L tm st ⟨tm0_s12,h1_s12,hk1_s12,rfl,rfl⟩ h
    unfold recall_reach_l2 at h
    refine cS (cR ?_)
    refine ox_y rfl (y_lss rfl rfl) ?_
    refine oN (eT (cS ?_))
    rcases iOs h with ⟨hp14,h⟩ | ⟨hp14,h⟩
    ·refine cx_true (vB hp14) ?_
     refine cx_skip (eT (cS (cx_block (cS (cR ?_)))))
     refine ox_y rfl (yMI rfl) ?_
     obtain ⟨hg15,h⟩:=gOs h
     refine ox_y rfl (y_indexR sl_88 (by decide) hg15.1 hg15.2 (NestL.rd (NestL.arg hN0_1) hg8.1 (lt_nat hg8.2 rfl)) (encL_len THop_cells_len rfl) rfl rfl) ?_
     refine ox_y rfl (y_loadRN (A:=((rdL ys0_1 s5.1).1.1)) (j:=(Int.toNat s12.1 * 2)) [.int .i64 ((rdL ((rdL p0.fC s5.1).fO) s12.1).fFrom),.int .i64 ((rdL ((rdL p0.fC s5.1).fO) s12.1).fTo)] ag_111 (Nat.succ_pos _) (NestL.rd (NestL.arg hN0_1) hg8.1 (lt_nat hg8.2 rfl)) rfl (encL_gets THop_cells_len hg15.1 (lt_nat hg15.2 rfl))) ?_
     refine ox_alloc ze_111 rfl (fun b16 => ?_)
     refine ox_y rfl (yAI rfl) (ox_n rfl (y_storeN 4 [.int .i64 ((rdL ((rdL p0.fC s5.1).fO) s12.1).fFrom),.int .i64 ((rdL ((rdL p0.fC s5.1).fO) s12.1).fTo)] sz_111 rfl (nB rfl) rfl rfl rfl) ?_)
     refine oN (eT (cS (cR ?_)))
     refine ox_y rfl (y_move (v:=.func (.func fid2) fst2.toArray caps2.toArray) rfl) (ox_y rfl (yMI rfl) (ox_y rfl (yMI rfl) ?_))
     obtain ⟨y17,hy18,h⟩:=bOs h
     refine ox_y rfl (y_callvF [.int .i64 s5.1,.int .i64 s12.1] hgo2 rfl rfl (fun W2 hW2 => hof2 W2 hW2.below s5.1 s12.1 y17 hy18)) ?_
     refine oN (eT ?_)
     rcases iOs h with ⟨hp19,h⟩ | ⟨hp19,h⟩
     ·refine cx_true (vB hp19) ?_
      obtain ⟨hg21,h⟩:=gOs h
      obtain ⟨hg25,h⟩:=gOs h
      obtain ⟨hg26,h⟩:=gOs h
      refine cx_drawsG [[],[],[1],[],[],[4],[3,4,5],[],[7],[7,8],[3,4,5,6,7,8,9],[0,1,2,3,4,5,6,7,8,9,10]] [(none,0,[true,true,false,true,true]),(none,0,[true,true,false,true,true]),(none,0,[true,true,false,true,true]),(none,0,[true,true,true,true,true]),(none,0,[true,true,true,true,true]),(none,0,[true,true,true,true,true]),(none,0,[true,true,true,true,true]),(none,0,[true,true,true,true,true]),(none,0,[true,true,true,true,true]),(none,1,[true,true,true,true,true]),(some 2,0,[true,true,true,true,true,true]),(some 1,0,[true,true,true,true,true,true])] [⟨fun _ => .map (some b2),fun _ => noR,fun _ => []⟩,⟨fun _ => .pointer (some ⟨b16,0 + 0,none⟩),fun _ => noR,fun _ => []⟩,⟨fun _ => .int .i64 ((rdL ((rdL p0.fC s5.1).fO) s12.1).fFrom),fun _ => noR,fun _ => []⟩,⟨fun _ => .map (some b2),fun _ => noR,fun _ => []⟩,⟨fun _ => .pointer (some ⟨b16,0 + 0,none⟩),fun _ => noR,fun _ => []⟩,⟨fun _ => .int .i64 ((rdL ((rdL p0.fC s5.1).fO) s12.1).fFrom),fun _ => noR,fun _ => []⟩,⟨fun _ => .slice ((mgetV nilHd h1_s12 ((rdL ((rdL p0.fC s5.1).fO) s12.1).fFrom)).1) ((mgetV [] s12.2 ((rdL ((rdL p0.fC s5.1).fO) s12.1).fFrom)).length) ((mgetV nilHd h1_s12 ((rdL ((rdL p0.fC s5.1).fO) s12.1).fFrom)).2.2),fun _ => noR,fun _ => []⟩,⟨fun _ => .pointer (some ⟨b16,0 + 1,none⟩),fun _ => noR,fun _ => []⟩,⟨fun _ => .int .i64 ((rdL ((rdL p0.fC s5.1).fO) s12.1).fTo),fun _ => noR,fun _ => []⟩,⟨fun ξ20 => .slice (some ⟨(ξ20 9 0).2.1,0,none⟩) 1 1,fun _ => noR,fun ξ20 => [rowR (some ⟨(ξ20 9 0).2.1,0,none⟩) 1 3 1 1 (encL cI [(rdL ((rdL p0.fC s5.1).fO) s12.1).fTo])]⟩,⟨fun ξ20 => .slice (ξ20 10 0).1 ((mgetV [] s12.2 ((rdL ((rdL p0.fC s5.1).fO) s12.1).fFrom)).length + 1) (ξ20 10 0).2.2.1,fun ξ20 => rowsS 3 1 cI (((rdL ((rdL p0.fC s5.1).fO) s12.1).fFrom,((ξ20 10 0).1,((mgetV [] s12.2 ((rdL ((rdL p0.fC s5.1).fO) s12.1).fFrom)).length + 1),(ξ20 10 0).2.2.1)) :: h1_s12) (((rdL ((rdL p0.fC s5.1).fO) s12.1).fFrom,((mgetV [] s12.2 ((rdL ((rdL p0.fC s5.1).fO) s12.1).fFrom)) ++ [(rdL ((rdL p0.fC s5.1).fO) s12.1).fTo])) :: s12.2),fun _ => []⟩,⟨fun _ => undef,fun ξ20 => mapV Tryz.prog 3 kI rngB hdV nilHd b2 (((rdL ((rdL p0.fC s5.1).fO) s12.1).fFrom,((ξ20 10 0).1,((mgetV [] s12.2 ((rdL ((rdL p0.fC s5.1).fO) s12.1).fFrom)).length + 1),(ξ20 10 0).2.2.1)) :: h1_s12),fun _ => []⟩] 5 mixed (by kernel_rfl) (by kernel_rfl) ⟨⟨fun ξ20 ξ20' h => ⟨rfl,rfl,rfl⟩,fun _ => rfl⟩,⟨fun ξ20 ξ20' h => ⟨rfl,rfl,rfl⟩,fun _ => rfl⟩,⟨fun ξ20 ξ20' h => ⟨rfl,rfl,rfl⟩,fun _ => rfl⟩,⟨fun ξ20 ξ20' h => ⟨rfl,rfl,rfl⟩,fun _ => rfl⟩,⟨fun ξ20 ξ20' h => ⟨rfl,rfl,rfl⟩,fun _ => rfl⟩,⟨fun ξ20 ξ20' h => ⟨rfl,rfl,rfl⟩,fun _ => rfl⟩,⟨fun ξ20 ξ20' h => ⟨rfl,rfl,rfl⟩,fun _ => rfl⟩,⟨fun ξ20 ξ20' h => ⟨rfl,rfl,rfl⟩,fun _ => rfl⟩,⟨fun ξ20 ξ20' h => ⟨rfl,rfl,rfl⟩,fun _ => rfl⟩,⟨fun ξ20 ξ20' h => ⟨by simp only [h 9 (.inl rfl)],rfl,by simp only [h 9 (.inl rfl)]⟩,fun _ => rfl⟩,⟨fun ξ20 ξ20' h => ⟨by simp only [h 10 (.inl rfl)],by simp only [h 10 (.inl rfl)],rfl⟩,fun _ => rfl⟩,⟨fun ξ20 ξ20' h => ⟨rfl,by simp only [h 10 (.inr rfl)],rfl⟩,fun _ => rfl⟩,trivial⟩ rfl (fun ξ20 => ?_)
      refine gx_o rfl (fun L2 => ?_) ?_
      ·dsimp only [maskL,lca,lna]
       refine ox_y rfl (y_move_map rfl) (oN ?_)
       exact ex_capG (fun _ => (none,0,0,[],noR)) rfl (List.append_nil _)
      dsimp only [aftL,lsz,lss,lna,lca,List.append_nil]
      refine gx_o rfl (fun L2 => ?_) ?_
      ·dsimp only [maskL,lca,lna]
       refine ox_y rfl (yFA fo_111_0 rfl) (oN ?_)
       exact ex_capG (fun _ => (none,0,0,[],noR)) rfl (List.append_nil _)
      dsimp only [aftL,lsz,lss,lna,lca,List.append_nil]
      refine gx_o rfl (fun L2 => ?_) ?_
      ·dsimp only [maskL,lca,lna]
       refine ox_y rfl (y_load1 4 (v:=.int .i64 ((rdL ((rdL p0.fC s5.1).fO) s12.1).fFrom)) sc_3 rfl rfl rfl) (oN ?_)
       exact ex_capG (fun _ => (none,0,0,[],noR)) rfl (List.append_nil _)
      dsimp only [aftL,lsz,lss,lna,lca,List.append_nil]
      refine gx_o rfl (fun L2 => ?_) ?_
      ·dsimp only [maskL,lca,lna]
       refine ox_y rfl (y_move_map rfl) (oN ?_)
       exact ex_capG (fun _ => (none,0,0,[],noR)) rfl (List.append_nil _)
      dsimp only [aftL,lsz,lss,lna,lca,List.append_nil]
      refine gx_o rfl (fun L2 => ?_) ?_
      ·dsimp only [maskL,lca,lna]
       refine ox_y rfl (yFA fo_111_0 rfl) (oN ?_)
       exact ex_capG (fun _ => (none,0,0,[],noR)) rfl (List.append_nil _)
      dsimp only [aftL,lsz,lss,lna,lca,List.append_nil]
      refine gx_o rfl (fun L2 => ?_) ?_
      ·dsimp only [maskL,lca,lna]
       refine ox_y rfl (y_load1 4 (v:=.int .i64 ((rdL ((rdL p0.fC s5.1).fO) s12.1).fFrom)) sc_3 rfl rfl rfl) (oN ?_)
       exact ex_capG (fun _ => (none,0,0,[],noR)) rfl (List.append_nil _)
      dsimp only [aftL,lsz,lss,lna,lca,List.append_nil]
      refine gx_o rfl (fun L2 => ?_) ?_
      ·dsimp only [maskL,lca,lna]
       refine ox_y rfl (y_lookupS (k:=(rdL ((rdL p0.fC s5.1).fO) s12.1).fFrom) hk1_s12 (MpL.own 1 rfl) ke_3 um_154 ze_26 rfl rfl hg21) (oN ?_)
       exact ex_capG (fun _ => (none,0,0,[],noR)) rfl (List.append_nil _)
      dsimp only [aftL,lsz,lss,lna,lca,List.append_nil]
      refine gx_o rfl (fun L2 => ?_) ?_
      ·dsimp only [maskL,lca,lna]
       refine ox_y rfl (yFA fo_111_1 rfl) (oN ?_)
       exact ex_capG (fun _ => (none,0,0,[],noR)) rfl (List.append_nil _)
      dsimp only [aftL,lsz,lss,lna,lca,List.append_nil]
      refine gx_o rfl (fun L2 => ?_) ?_
      ·dsimp only [maskL,lca,lna]
       refine ox_y rfl (y_load1 4 (v:=.int .i64 ((rdL ((rdL p0.fC s5.1).fO) s12.1).fTo)) sc_3 rfl rfl rfl) (oN ?_)
       exact ex_capG (fun _ => (none,0,0,[],noR)) rfl (List.append_nil _)
      dsimp only [aftL,lsz,lss,lna,lca,List.append_nil]
      refine gx_o rfl (fun L2 => ?_) ?_
      ·dsimp only [maskL,lca,lna]
       refine ox_buildSliceE 1 (encL cI [(rdL ((rdL p0.fC s5.1).fO) s12.1).fTo]) _ mc_3_1 us_26 ze_3 by_3 (by decide) (by decide) (by kernel_rfl) (encL_len cI_len rfl) rfl (fun b22 => ?_)
       refine oN ?_
       exact ex_capG (fun _ => (none,b22,0,[],noR)) rfl rfl
      dsimp only [aftL,lsz,lss,lna,lca,List.append_nil]
      refine gx_o rfl (fun L2 => ?_) ?_
      ·dsimp only [maskL,lca,lna]
       refine ox_appendS 2 ((rdL ((rdL p0.fC s5.1).fO) s12.1).fFrom) us_26 ze_3 by_3 hk1_s12 rfl rfl rfl (RdL.row 5 rfl) (encL_len cI_len rfl) (encL_one cI_one _) (app_room hg25 (by decide)) rfl (fun A23 c24 => ?_)
       refine oN ?_
       exact ex_capG (fun _ => (A23,0,c24,[],noR)) rfl (List.append_nil _)
      dsimp only [aftL,lsz,lss,lna,lca,List.append_nil]
      refine gx_n rfl (fun L2 => ?_) ?_
      ·dsimp only [maskL,lca,lna]
       refine ox_n rfl (y_updateV 1 (k:=(rdL ((rdL p0.fC s5.1).fO) s12.1).fFrom) (v:=((ξ20 10 0).1,((mgetV [] s12.2 ((rdL ((rdL p0.fC s5.1).fO) s12.1).fFrom)).length + 1),(ξ20 10 0).2.2.1)) rfl ke_3 um_154 rfl rfl rfl ⟨hg26.1,(by rw [HsOk.len hk1_s12]; exact hg26.2)⟩) ?_
       refine oN ?_
       exact ex_capGn (fun _ => (none,0,0,[],noR)) (List.append_nil _)
      dsimp only [aftL,lsz,lss,lna,lca,List.append_nil]
      refine gx_nil (ex_block ?_)
      refine eT (cR ?_)
      try dsimp only [lna,lca,lsz,lss]
      refine ox_y rfl (y_add rfl rfl) (ox_y rfl (yMI rfl) (oN (ex_take 4 ?_)))
      obtain rfl:=sI h
      exact ex_next ⟨_,(((rdL ((rdL p0.fC s5.1).fO) s12.1).fFrom,((ξ20 10 0).1,((mgetV [] s12.2 ((rdL ((rdL p0.fC s5.1).fO) s12.1).fFrom)).length + 1),(ξ20 10 0).2.2.1)) :: h1_s12),(HsOk.cons hk1_s12 (hn_app rfl rfl)),rfl,(kp4 (kp4 (kp4 (kp (kp (kp rfl))))))⟩
     ·refine cx_false (vB hp19) (cx_skip (ex_block ?_))
      refine eT (cR ?_)
      refine ox_y rfl (y_add rfl rfl) (ox_y rfl (yMI rfl) (oN (ex_take 4 ?_)))
      obtain rfl:=sI h
      exact ex_next ⟨_,h1_s12,hk1_s12,rfl,(kp4 (kp4 (kp4 (kp (kp (kp rfl))))))⟩
    ·refine cx_false (vB hp14) (cx_exit (ex_then_exit ?_))
     obtain rfl:=sI h
     exact ex_stop ⟨rfl,_,h1_s12,hk1_s12,rfl,(kp4 (kp4 (kp4 (kp (kp (kp rfl))))))⟩
   ·intro e L tm hJ
    obtain ⟨rfl,tm0_u13,h1_u13,hk1_u13,rfl,rfl⟩:=hJ
    refine ⟨(by intro hc; cases hc),?_⟩
    refine ex_block_here (ex_block ?_)
    refine eT (cR ?_)
    refine ox_y rfl (y_add rfl rfl) (ox_y rfl (yMI rfl) (oN (ex_take 3 ?_)))
    obtain rfl:=sI h
    exact ex_next ⟨_,h1_u13,hk1_u13,rfl,(kp4 (kp4 (kp rfl)))⟩
  ·refine cx_false (vB hp7) (cx_exit (ex_then_exit ?_))
   obtain rfl:=sI h
   exact ex_stop ⟨rfl,_,h1_s5,hk1_s5,rfl,(kp4 (kp4 (kp rfl)))⟩
 ·intro e L tm hJ
  obtain ⟨rfl,tm0_u6,h1_u6,hk1_u6,rfl,rfl⟩:=hJ
  refine ⟨(by intro hc; cases hc),?_⟩
  refine ex_block_here ?_
  refine eT (cS (cR ?_))
  refine ox_makeMapV 3 kI rngB kB false rfl (fun b29 => ?_)
  refine ox_y rfl (y_assign_map rfl) ?_
  refine oN (eT (cS (cS (cR ?_))))
  refine ox_y rfl (yMS rfl) (ox_y rfl (y_len (us:=[]) us_26 rfl) (ox_y rfl (yMI rfl) ?_))
  refine oN (eT (cx_block ?_))
  obtain ⟨u33,hl37,h⟩:=bOs h
  refine cx_loop (fun (s:(Int × (List (Int × Bool)))) L tm => ∃ (tm0:Nat → Value),L = [cellsR b1 25 [.slice Aa p0.fNo.length ca,.slice Ab p0.fC.length cb],mapV Tryz.prog 3 kI rngB hdV nilHd b2 h1_u6,rowsS 3 1 cI h1_u6 u6.2,mapV Tryz.prog 3 kI rngB kB false b29 s.2] ∧ tm = (upd (upd (upd (upd (upd (upd (upd (upd (upd (upd (upd (upd (upd tm0 0 (.agg #[.slice Aa p0.fNo.length ca,.slice Ab p0.fC.length cb])) 1 (.slice Ac p1.length cc)) 2 (.func (.func fid2) fst2.toArray caps2.toArray)) 3 (.pointer (some ⟨b1,0,none⟩))) 6 (.map none)) 7 (.map (some b2))) 22 (.slice Ab p0.fC.length cb)) 23 (.int .i64 (p0.fC.length:Int))) 24 (.int .i64 u6.1)) 12 (.map (some b29))) 55 (.slice Ac p1.length cc)) 56 (.int .i64 (p1.length:Int))) 57 (.int .i64 s.1))) (fun s e L tm => e = .exit 4 ∧ ∃ (tm0:Nat → Value),L = [cellsR b1 25 [.slice Aa p0.fNo.length ca,.slice Ab p0.fC.length cb],mapV Tryz.prog 3 kI rngB hdV nilHd b2 h1_u6,rowsS 3 1 cI h1_u6 u6.2,mapV Tryz.prog 3 kI rngB kB false b29 s.2] ∧ tm = (upd (upd (upd (upd (upd (upd (upd (upd (upd (upd (upd (upd (upd tm0 0 (.agg #[.slice Aa p0.fNo.length ca,.slice Ab p0.fC.length cb])) 1 (.slice Ac p1.length cc)) 2 (.func (.func fid2) fst2.toArray caps2.toArray)) 3 (.pointer (some ⟨b1,0,none⟩))) 6 (.map none)) 7 (.map (some b2))) 22 (.slice Ab p0.fC.length cb)) 23 (.int .i64 (p0.fC.length:Int))) 24 (.int .i64 u6.1)) 12 (.map (some b29))) 55 (.slice Ac p1.length cc)) 56 (.int .i64 (p1.length:Int))) 57 (.int .i64 s.1))) hl37 ⟨_,rfl,(kp4 (kp4 (kp4 (kp rfl))))⟩ ?_ ?_
  ·rintro s32 L tm st ⟨tm0_s32,rfl,rfl⟩ h
   unfold recall_reach_l3 at h
   refine cS (cR ?_)
   refine ox_y rfl (y_lss rfl rfl) ?_
   refine oN (eT (cS ?_))
   rcases iOs h with ⟨hp34,h⟩ | ⟨hp34,h⟩
   ·refine cx_true (vB hp34) ?_
    refine cx_skip (eT (cS (cx_block (cS (cR ?_)))))
    obtain ⟨hg35,h⟩:=gOs h
    refine ox_y rfl (y_indexR sl_26 (by decide) hg35.1 hg35.2 (RdL.arg hr1_0) (encL_len cI_len rfl) rfl rfl) ?_
    refine ox_y rfl (y_loadR1 (A:=Ac) (j:=(Int.toNat s32.1 * 1)) (v:=.int .i64 (rdL p1 s32.1)) sc_3 (RdL.arg hr1_0) rfl (encL_get0 cI_len hg35.1 (lt_nat hg35.2 rfl) rfl)) (ox_y rfl (yAI rfl) ?_)
    refine oN (eT (cR ?_))
    refine ox_y rfl (y_move_map rfl) (ox_y rfl (yMI rfl) ?_)
    obtain ⟨hg36,h⟩:=gOs h
    refine ox_n rfl (y_updateV 3 (k:=(rdL p1 s32.1)) (v:=true) rfl ke_3 um_94 rfl rfl rfl hg36) (oN (ex_block ?_))
    refine eT (cR ?_)
    refine ox_y rfl (y_add rfl rfl) (ox_y rfl (yMI rfl) (oN ?_))
    obtain rfl:=sI h
    exact ex_next ⟨_,rfl,(kp4 (kp4 (kp4 (kp rfl))))⟩
   ·refine cx_false (vB hp34) (cx_exit (ex_then_exit ?_))
    obtain rfl:=sI h
    exact ex_stop ⟨rfl,_,rfl,(kp4 (kp4 (kp4 (kp rfl))))⟩
  ·intro e L tm hJ
   obtain ⟨rfl,tm0_u33,rfl,rfl⟩:=hJ
   refine ⟨(by intro hc; cases hc),?_⟩
   refine ex_block_here ?_
   refine eT (cS (cS (cR ?_)))
   refine ox_y rfl (y_loadN 0 [.slice Aa p0.fNo.length ca,.slice Ab p0.fC.length cb] ag_25 rfl rfl rfl) ?_
   obtain ⟨y38,hy39,h⟩:=bOs h
   refine ox_call [.agg #[.slice Aa p0.fNo.length ca,.slice Ab p0.fC.length cb]] _ _ _ rfl go_131 rfl (fun W2 hW2 => recall_levels_ok p0 y38 hy39 W2 Aa p0.fNo.length ca rfl ((RdL.arg hr0_0) W2 hW2) Ab p0.fC.length cb ys0_1 rfl ((RdL.arg hr0_1) W2 hW2) (NestL.at (NestL.arg hN0_1) W2 hW2)) ?_
   rintro ⟨A40,n42,c41⟩ hn43
   replace hn43 : n42 = y38.length:=hn43; subst hn43
   refine ox_y rfl (y_len (us:=[]) us_26 rfl) (ox_y rfl (yMI rfl) ?_)
   refine oN (eT (cx_block ?_))
   obtain ⟨u47,hl62,h⟩:=bOs h
   refine cx_loop (fun (s:(Int × (List (Int × Bool)))) L tm => ∃ (tm0:Nat → Value),L = [cellsR b1 25 [.slice Aa p0.fNo.length ca,.slice Ab p0.fC.length cb],mapV Tryz.prog 3 kI rngB hdV nilHd b2 h1_u6,rowsS 3 1 cI h1_u6 u6.2,mapV Tryz.prog 3 kI rngB kB false b29 s.2,rowR A40 c41 3 1 y38.length (encL cI y38)] ∧ tm = (upd (upd (upd (upd (upd (upd (upd (upd (upd (upd (upd (upd (upd (upd (upd (upd tm0 0 (.agg #[.slice Aa p0.fNo.length ca,.slice Ab p0.fC.length cb])) 1 (.slice Ac p1.length cc)) 2 (.func (.func fid2) fst2.toArray caps2.toArray)) 3 (.pointer (some ⟨b1,0,none⟩))) 6 (.map none)) 7 (.map (some b2))) 22 (.slice Ab p0.fC.length cb)) 23 (.int .i64 (p0.fC.length:Int))) 24 (.int .i64 u6.1)) 12 (.map (some b29))) 55 (.slice Ac p1.length cc)) 56 (.int .i64 (p1.length:Int))) 57 (.int .i64 u33.1)) 65 (.slice A40 y38.length c41)) 66 (.int .i64 (y38.length:Int))) 67 (.int .i64 s.1))) (fun s e L tm => e = .exit 6 ∧ ∃ (tm0:Nat → Value),L = [cellsR b1 25 [.slice Aa p0.fNo.length ca,.slice Ab p0.fC.length cb],mapV Tryz.prog 3 kI rngB hdV nilHd b2 h1_u6,rowsS 3 1 cI h1_u6 u6.2,mapV Tryz.prog 3 kI rngB kB false b29 s.2,rowR A40 c41 3 1 y38.length (encL cI y38)] ∧ tm = (upd (upd (upd (upd (upd (upd (upd (upd (upd (upd (upd (upd (upd (upd (upd (upd tm0 0 (.agg #[.slice Aa p0.fNo.length ca,.slice Ab p0.fC.length cb])) 1 (.slice Ac p1.length cc)) 2 (.func (.func fid2) fst2.toArray caps2.toArray)) 3 (.pointer (some ⟨b1,0,none⟩))) 6 (.map none)) 7 (.map (some b2))) 22 (.slice Ab p0.fC.length cb)) 23 (.int .i64 (p0.fC.length:Int))) 24 (.int .i64 u6.1)) 12 (.map (some b29))) 55 (.slice Ac p1.length cc)) 56 (.int .i64 (p1.length:Int))) 57 (.int .i64 u33.1)) 65 (.slice A40 y38.length c41)) 66 (.int .i64 (y38.length:Int))) 67 (.int .i64 s.1))) hl62 ⟨_,rfl,(kp4 (kp4 (kp4 (kp4 rfl))))⟩ ?_ ?_
   ·rintro s46 L tm st ⟨tm0_s46,rfl,rfl⟩ h
    unfold recall_reach_l4 at h
    refine cS (cR ?_)
    refine ox_y rfl (y_lss rfl rfl) ?_
    refine oN (eT (cS ?_))
    rcases iOs h with ⟨hp48,h⟩ | ⟨hp48,h⟩
    ·refine cx_true (vB hp48) ?_
     refine cx_skip (eT (cS (cx_block (cS (cR ?_)))))
     obtain ⟨hg49,h⟩:=gOs h
     refine ox_y rfl (y_indexR sl_26 (by decide) hg49.1 hg49.2 (RdL.row 4 rfl) (encL_len cI_len rfl) rfl rfl) ?_
     refine ox_y rfl (y_loadR1 (A:=A40) (j:=(Int.toNat s46.1 * 1)) (v:=.int .i64 (rdL y38 s46.1)) sc_3 (RdL.row 4 rfl) rfl (encL_get0 cI_len hg49.1 (lt_nat hg49.2 rfl) rfl)) (ox_y rfl (yAI rfl) ?_)
     refine oN (eT (cS (cR ?_)))
     refine ox_y rfl (yFA fo_25_0 rfl) (ox_y rfl (y_load1 0 (v:=.slice Aa p0.fNo.length ca) sc_22 rfl rfl rfl) (ox_y rfl (yMI rfl) ?_))
     obtain ⟨hg50,h⟩:=gOs h
     refine ox_y rfl (y_indexR sl_22 (by decide) hg50.1 hg50.2 (RdL.arg hr0_0) (encL_len TNode_cells_len rfl) rfl rfl) ?_
     refine ox_y rfl (y_fieldAddrR (A:=Aa) (j:=(Int.toNat (rdL y38 s46.1) * 3)) fo_97_0 rfl) (ox_y rfl (y_loadR1 (A:=Aa) (j:=((Int.toNat (rdL y38 s46.1) * 3) + 0)) (v:=.int .i64 ((rdL p0.fNo (rdL y38 s46.1)).fID)) sc_3 (RdL.arg hr0_0) rfl (encL_get TNode_cells_len hg50.1 (lt_nat hg50.2 rfl) rfl)) (ox_y rfl (yAI rfl) ?_))
     refine oN (eT (cS (cS (cR ?_))))
     refine ox_y rfl (y_move_map rfl) (ox_y rfl (yMI rfl) ?_)
     obtain ⟨hg51,h⟩:=gOs h
     refine ox_y rfl (y_lookupV (k:=(rdL p0.fNo (rdL y38 s46.1)).fID) (MpL.own 3 rfl) ke_3 um_94 ze_4 rfl rfl hg51) (ox_y rfl (y_not rfl) ?_)
     refine oN (eT ?_)
     rcases iOs h with ⟨hp52,h⟩ | ⟨hp52,h⟩
     ·refine cx_true (vB hp52) (cx_exit (ex_then_exit (ex_block_here ?_)))
      refine eT (cR ?_)
      refine ox_y rfl (y_add rfl rfl) (ox_y rfl (yMI rfl) (oN ?_))
      obtain rfl:=sI h
      exact ex_next ⟨_,rfl,(kp4 (kp4 (kp4 (kp4 rfl))))⟩
     ·refine cx_false (vB hp52) ?_
      refine cx_skip (eT (cS (cR ?_)))
      refine ox_y rfl (y_move_map rfl) (ox_y rfl (yMI rfl) ?_)
      obtain ⟨hg53,h⟩:=gOs h
      refine ox_y rfl (y_lookupS (k:=(rdL p0.fNo (rdL y38 s46.1)).fID) hk1_u6 (MpL.own 1 rfl) ke_3 um_154 ze_26 rfl rfl hg53) (ox_y rfl (y_len (us:=[]) us_26 rfl) (ox_y rfl (yMI rfl) ?_))
      refine oN (eT (cx_block ?_))
      obtain ⟨u57,hl61,h⟩:=bOs h
      refine cx_loop (fun (s:(Int × (List (Int × Bool)))) L tm => ∃ (tm0:Nat → Value),L = [cellsR b1 25 [.slice Aa p0.fNo.length ca,.slice Ab p0.fC.length cb],mapV Tryz.prog 3 kI rngB hdV nilHd b2 h1_u6,rowsS 3 1 cI h1_u6 u6.2,mapV Tryz.prog 3 kI rngB kB false b29 s.2,rowR A40 c41 3 1 y38.length (encL cI y38)] ∧ tm = (upd (upd (upd (upd (upd (upd (upd (upd (upd (upd (upd (upd (upd (upd (upd (upd (upd (upd (upd (upd (upd (upd (upd tm0 0 (.agg #[.slice Aa p0.fNo.length ca,.slice Ab p0.fC.length cb])) 1 (.slice Ac p1.length cc)) 2 (.func (.func fid2) fst2.toArray caps2.toArray)) 3 (.pointer (some ⟨b1,0,none⟩))) 6 (.map none)) 7 (.map (some b2))) 22 (.slice Ab p0.fC.length cb)) 23 (.int .i64 (p0.fC.length:Int))) 24 (.int .i64 u6.1)) 12 (.map (some b29))) 55 (.slice Ac p1.length cc)) 56 (.int .i64 (p1.length:Int))) 57 (.int .i64 u33.1)) 65 (.slice A40 y38.length c41)) 66 (.int .i64 (y38.length:Int))) 67 (.int .i64 s46.1)) 68 (.bool (decide (s46.1 < (y38.length:Int))))) 16 (.int .i64 (rdL y38 s46.1))) 17 (.int .i64 ((rdL p0.fNo (rdL y38 s46.1)).fID))) 80 (.bool (!(mgetV false s46.2 ((rdL p0.fNo (rdL y38 s46.1)).fID))))) 83 (.slice ((mgetV nilHd h1_u6 ((rdL p0.fNo (rdL y38 s46.1)).fID)).1) ((mgetV [] u6.2 ((rdL p0.fNo (rdL y38 s46.1)).fID)).length) ((mgetV nilHd h1_u6 ((rdL p0.fNo (rdL y38 s46.1)).fID)).2.2))) 84 (.int .i64 (((mgetV [] u6.2 ((rdL p0.fNo (rdL y38 s46.1)).fID)).length : Nat) : Int))) 85 (.int .i64 s.1))) (fun s e L tm => e = .exit 8 ∧ ∃ (tm0:Nat → Value),L = [cellsR b1 25 [.slice Aa p0.fNo.length ca,.slice Ab p0.fC.length cb],mapV Tryz.prog 3 kI rngB hdV nilHd b2 h1_u6,rowsS 3 1 cI h1_u6 u6.2,mapV Tryz.prog 3 kI rngB kB false b29 s.2,rowR A40 c41 3 1 y38.length (encL cI y38)] ∧ tm = (upd (upd (upd (upd (upd (upd (upd (upd (upd (upd (upd (upd (upd (upd (upd (upd (upd (upd (upd (upd (upd (upd (upd tm0 0 (.agg #[.slice Aa p0.fNo.length ca,.slice Ab p0.fC.length cb])) 1 (.slice Ac p1.length cc)) 2 (.func (.func fid2) fst2.toArray caps2.toArray)) 3 (.pointer (some ⟨b1,0,none⟩))) 6 (.map none)) 7 (.map (some b2))) 22 (.slice Ab p0.fC.length cb)) 23 (.int .i64 (p0.fC.length:Int))) 24 (.int .i64 u6.1)) 12 (.map (some b29))) 55 (.slice Ac p1.length cc)) 56 (.int .i64 (p1.length:Int))) 57 (.int .i64 u33.1)) 65 (.slice A40 y38.length c41)) 66 (.int .i64 (y38.length:Int))) 67 (.int .i64 s46.1)) 68 (.bool (decide (s46.1 < (y38.length:Int))))) 16 (.int .i64 (rdL y38 s46.1))) 17 (.int .i64 ((rdL p0.fNo (rdL y38 s46.1)).fID))) 80 (.bool (!(mgetV false s46.2 ((rdL p0.fNo (rdL y38 s46.1)).fID))))) 83 (.slice ((mgetV nilHd h1_u6 ((rdL p0.fNo (rdL y38 s46.1)).fID)).1) ((mgetV [] u6.2 ((rdL p0.fNo (rdL y38 s46.1)).fID)).length) ((mgetV nilHd h1_u6 ((rdL p0.fNo (rdL y38 s46.1)).fID)).2.2))) 84 (.int .i64 (((mgetV [] u6.2 ((rdL p0.fNo (rdL y38 s46.1)).fID)).length : Nat) : Int))) 85 (.int .i64 s.1))) hl61 ⟨_,rfl,(kp4 (kp4 (kp4 (kp4 (kp4 (kp (kp (kp rfl))))))))⟩ ?_ ?_
      ·rintro s56 L tm st ⟨tm0_s56,rfl,rfl⟩ h
       unfold recall_reach_l5 at h
       refine cS (cR ?_)
       refine ox_y rfl (y_lss rfl rfl) ?_
       refine oN (eT (cS ?_))
       rcases iOs h with ⟨hp58,h⟩ | ⟨hp58,h⟩
       ·refine cx_true (vB hp58) ?_
        refine cx_skip (eT (cS (cx_block (cS (cR ?_)))))
        obtain ⟨hg59,h⟩:=gOs h
        refine ox_y rfl (y_indexR sl_26 (by decide) hg59.1 hg59.2 (RdL.rows hk1_u6 2 rfl ((rdL p0.fNo (rdL y38 s46.1)).fID)) (encL_len cI_len rfl) rfl rfl) ?_
        refine ox_y rfl (y_loadR1 (A:=((mgetV nilHd h1_u6 ((rdL p0.fNo (rdL y38 s46.1)).fID)).1)) (j:=(Int.toNat s56.1 * 1)) (v:=.int .i64 (rdL (mgetV [] u6.2 ((rdL p0.fNo (rdL y38 s46.1)).fID)) s56.1)) sc_3 (RdL.rows hk1_u6 2 rfl ((rdL p0.fNo (rdL y38 s46.1)).fID)) rfl (encL_get0 cI_len hg59.1 (lt_nat hg59.2 rfl) rfl)) (ox_y rfl (yAI rfl) ?_)
        refine oN (eT (cR ?_))
        refine ox_y rfl (y_move_map rfl) (ox_y rfl (yMI rfl) ?_)
        obtain ⟨hg60,h⟩:=gOs h
        refine ox_n rfl (y_updateV 3 (k:=(rdL (mgetV [] u6.2 ((rdL p0.fNo (rdL y38 s46.1)).fID)) s56.1)) (v:=true) rfl ke_3 um_94 rfl rfl rfl hg60) (oN (ex_block ?_))
        refine eT (cR ?_)
        refine ox_y rfl (y_add rfl rfl) (ox_y rfl (yMI rfl) (oN ?_))
        obtain rfl:=sI h
        exact ex_next ⟨_,rfl,(kp4 (kp4 (kp4 (kp4 (kp4 (kp (kp (kp rfl))))))))⟩
       ·refine cx_false (vB hp58) (cx_exit (ex_then_exit ?_))
        obtain rfl:=sI h
        exact ex_stop ⟨rfl,_,rfl,(kp4 (kp4 (kp4 (kp4 (kp4 (kp (kp (kp rfl))))))))⟩
      ·intro e L tm hJ
       obtain ⟨rfl,tm0_u57,rfl,rfl⟩:=hJ
       refine ⟨(by intro hc; cases hc),?_⟩
       refine ex_block_here (ex_block ?_)
       refine eT (cR ?_)
       refine ox_y rfl (y_add rfl rfl) (ox_y rfl (yMI rfl) (oN ?_))
       obtain rfl:=sI h
       exact ex_next ⟨_,rfl,(kp4 (kp4 (kp4 (kp4 rfl))))⟩
    ·refine cx_false (vB hp48) (cx_exit (ex_then_exit ?_))
     obtain rfl:=sI h
     exact ex_stop ⟨rfl,_,rfl,(kp4 (kp4 (kp4 (kp4 rfl))))⟩
   ·intro e L tm hJ
    obtain ⟨rfl,tm0_u47,rfl,rfl⟩:=hJ
    refine ⟨(by intro hc; cases hc),?_⟩
    refine ex_block_here ?_
    refine eT (cS (cR ?_))
    refine ox_y rfl (y_move_map rfl) (ox_y rfl (y_assign_map rfl) ?_)
    refine oN (eT (cx_ret ?_))
    obtain rfl:=sI h
    exact ex_res1 (.inl rfl) rfl (rVt (v:=.map (some b29)) rfl) (fun W2 hW2 => ⟨b29,rfl,(hW2.pick 3 rfl)⟩)
theorem recall_fixed_has_ok (p0:(List Int)) (p1:Int) (p2:Int) (res:Bool) (h:recall_fixed_has p0 p1 p2 = some res) (W:World) (Aa:Option Addr) (n0_0 ca : Nat) (hn0_0:n0_0 = p0.length) (hr0_0:Rd W Aa n0_0 ca (encL cI p0)) :
  Calls Tryz.prog 132 [.slice Aa n0_0 ca,.int .i64 p1,.int .i64 p2].toArray W fun e W2 => e = .returned (.bool res) ∧ Ext W W2 []:=by
 subst hn0_0
 unfold recall_fixed_has at h
 refine calls_enter (m:=13) Tryz.func132 rfl rfl (nB rfl) ?_
 refine cS (cR ?_)
 refine ox_y rfl (y_assign_bool rfl) ?_
 refine oN (eT (cS (cR ?_)))
 refine ox_y rfl (yMS rfl) (ox_y rfl (yMI rfl) ?_)
 obtain ⟨hg1,h⟩:=gOs h
 refine ox_y rfl (y_indexR sl_155 (by decide) hg1.1 hg1.2 (RdL.arg hr0_0) (encL_len cI_len rfl) rfl rfl) ?_
 refine ox_y rfl (y_loadR1 (A:=Aa) (j:=(Int.toNat p1 * 1)) (v:=.int .i64 (rdL p0 p1)) sc_3 (RdL.arg hr0_0) rfl (encL_get0 cI_len hg1.1 (lt_nat hg1.2 rfl) rfl)) (ox_y rfl (yMI rfl) (ox_y rfl (y_eql rfl rfl) (ox_y rfl (y_assign_bool rfl) ?_)))
 refine oN (eT (cx_ret ?_))
 obtain rfl:=sI h
 exact ex_res1 (.inl rfl) rfl (rVt (v:=.bool ((rdL p0 p1) == p2)) rfl) (fun W2 hW2 => ⟨rfl,hW2.none⟩)
theorem recall_inCase_ok (p0:(List Int)) (res:Unit) (h:recall_inCase p0 = some res) (W:World) (Aa:Option Addr) (n0_0 ca : Nat) (hn0_0:n0_0 = p0.length) (hr0_0:Rd W Aa n0_0 ca (encL cI p0)) :
  Calls Tryz.prog 88 [.slice Aa n0_0 ca].toArray W fun e W2 => e = .returned (.func (.func 132) #[.slice Aa p0.length ca] #[]) ∧ Ext W W2 []:=by
 subst hn0_0
 unfold recall_inCase at h
 refine calls_enter (m:=5) Tryz.func88 rfl rfl (nB rfl) ?_
 refine cS (cR ?_)
 refine ox_y rfl (y_assign_nilFunc rfl) ?_
 refine oN (eT (cS (cR ?_)))
 refine ox_y rfl (yMS rfl) (ox_y rfl (y_makeFuncF [.slice Aa p0.length ca] [] rfl rfl) (ox_y rfl (y_assign_func rfl) ?_))
 refine oN (eT (cx_ret ?_))
 obtain rfl:=sI h
 exact ex_res1 (.inl rfl) rfl (rVt (v:=.func (.func 132) #[.slice Aa p0.length ca] #[]) rfl) (fun W2 hW2 => ⟨rfl,hW2.none⟩)
theorem recall_possible_ok (p0:TL) (p1:(List Int)) (res:(List (Int × Bool))) (h:recall_possible p0 p1 = some res) (W:World) (Aa:Option Addr) (n0_0 ca : Nat) (hn0_0:n0_0 = p0.fNo.length) (hr0_0:Rd W Aa n0_0 ca (encL TNode_cells p0.fNo)) (Ab:Option Addr) (n0_1 cb : Nat) (ys0_1:List (Hd × TC)) (hn0_1:n0_1 = p0.fC.length) (hr0_1:Rd W Ab n0_1 cb (encL TClaim_cells2 ys0_1)) (hN0_1:NestW W (fun z : TC => z.fO) THop_cells ys0_1 p0.fC) (Ac:Option Addr) (n1_0 cc : Nat) (hn1_0:n1_0 = p1.length) (hr1_0:Rd W Ac n1_0 cc (encL cI p1)) :
  Calls Tryz.prog 65 [.agg #[.slice Aa n0_0 ca,.slice Ab n0_1 cb],.slice Ac n1_0 cc].toArray W fun e W2 => ∃ x : Nat,e = .returned (.map (some x)) ∧ Ext W W2 [mapV Tryz.prog 3 kI rngB kB false x res]:=by
 subst hn0_0
 subst hn0_1
 subst hn1_0
 unfold recall_possible at h
 refine calls_enterM (m:=25) Tryz.func65 rfl rfl (nB rfl) ?_
 refine cS (cR ?_)
 refine ox_box [.slice Aa p0.fNo.length ca,.slice Ab p0.fC.length cb] rfl rfl rfl (fun b1 => ?_)
 refine ox_box [.slice Ac p1.length cc] rfl rfl rfl (fun b2 => ?_)
 refine ox_y rfl (y_assign_map rfl) ?_
 refine oN (eT (cS (cR ?_)))
 refine ox_makeMapV 3 kI rngB kB false rfl (fun b3 => ?_)
 refine ox_alloc ze_94 rfl (fun b4 => ?_)
 refine ox_n rfl (y_store1 3 (v:=.map (some b3)) sz_94 rfl (Nat.lt_of_lt_of_le (Nat.lt_succ_self _) (nB rfl)) rfl rfl rfl) ?_
 refine oN (eT (cS (cS (cR ?_))))
 refine ox_y rfl (y_loadN 0 [.slice Aa p0.fNo.length ca,.slice Ab p0.fC.length cb] ag_25 rfl rfl rfl) ?_
 obtain ⟨y5,hy6,h⟩:=bOs h
 refine ox_call1 [.agg #[.slice Aa p0.fNo.length ca,.slice Ab p0.fC.length cb]] _ _ rfl go_86 rfl (fun W2 hW2 => recall_cases_ok p0 y5 hy6 W2 Aa p0.fNo.length ca rfl ((RdL.arg hr0_0) W2 hW2) Ab p0.fC.length cb ys0_1 rfl ((RdL.arg hr0_1) W2 hW2) (NestL.at (NestL.arg hN0_1) W2 hW2)) ?_
 rintro b7
 refine oN (eT (cx_block ?_))
 obtain ⟨hok44,h⟩:=gOs h
 obtain ⟨u20,hl43,h⟩:=bOs h
 refine cx_rangeC (caps:=[.pointer (some ⟨b7,0,none⟩)]) (fun (s:(List (Int × Bool))) L => L = [cellsR b1 25 [.slice Aa p0.fNo.length ca,.slice Ab p0.fC.length cb],cellsR b2 26 [.slice Ac p1.length cc],mapV Tryz.prog 3 kI rngB kB false b3 s,cellsR b4 94 [.map (some b3)],cellsR b7 25 [.slice Aa p0.fNo.length ca,.slice Ab p0.fC.length cb]]) (fun (_:Unit) _ _ => False) hl43 rfl go_130 (recall_cases_1_seq p0 hok44 b7 Aa p0.fNo.length ca Ab p0.fC.length cb rfl ys0_1 hN0_1.p) (fun W2 s L hI hW2 => by obtain rfl:=hI; exact ⟨(RdL.cells 4 rfl) W2 hW2,(RdL.arg hr0_1) W2 hW2⟩) rfl (fun _ _ _ h => h.elim) ?_ ?_ ?_
 ·rintro D8 l9 rec10 A12 c13 s18 x19 L st hrec11 rfl h
  unfold recall_possible_r1 at h
  refine cR ?_
  try dsimp only [lna,lca,lsz,lss]
  refine ox_y rfl (yAS rfl) (oN (ex_begin 6 rfl hrec11 ?_))
  refine cx_block (cS ?_)
  refine cx_draws 4 mixed (by kernel_rfl) (by kernel_rfl) ?_
  refine qx_y rfl (y_loadN 0 [.slice Aa p0.fNo.length ca,.slice Ab p0.fC.length cb] ag_25 rfl rfl rfl) (qx_y rfl (y_load1 1 (v:=.slice Ac p1.length cc) sc_26 rfl rfl rfl) (qx_y rfl (yMS rfl) ?_))
  obtain ⟨y21,hy22,h⟩:=bOs h
  refine qx_y rfl (y_call [.slice A12 x19.length c13] go_88 rfl (fun W2 hW2 => recall_inCase_ok x19 y21 hy22 W2 A12 x19.length c13 rfl ((RdL.row 7 rfl) W2 hW2)) rfl) (qx_nil ?_)
  obtain ⟨y25,hy26,h⟩:=bOs h
  refine ox_call1 [.agg #[.slice Aa p0.fNo.length ca,.slice Ab p0.fC.length cb],.slice Ac p1.length cc,.func (.func 132) #[.slice A12 x19.length c13] #[]] _ _ rfl go_87 rfl (fun W2 hW2 => recall_reach_ok p0 p1 (fun x23 x24 => recall_fixed_has x19 x23 x24) y25 hy26 W2 Aa p0.fNo.length ca rfl ((RdL.arg hr0_0) W2 hW2) Ab p0.fC.length cb ys0_1 rfl ((RdL.arg hr0_1) W2 hW2) (NestL.at (NestL.arg hN0_1) W2 hW2) Ac p1.length cc rfl ((RdL.arg hr1_0) W2 hW2) 132 [.slice A12 x19.length c13] [] go_132 (fun W3 hb x0 x1 y hxy => recall_fixed_has_ok x19 x0 x1  y hxy W3 A12 x19.length c13 rfl (((RdL.row 7 rfl) W2 hW2).later hb))) ?_
  rintro b27
  try dsimp only [lna,lca,lsz,lss]
  refine ox_rangeV 8 rfl ke_3 um_94 rfl rfl (fun b28 k29 hk30 => ?_)
  refine oN (eT ?_)
  obtain ⟨hg42,h⟩:=gOs h
  refine cx_block (cx_loopM (fun (s40:Nat × (Int → Bool) × (List (Int × Bool))) L tm => UnionI rngB false true y25 s18 s40 ∧ ∃ (tm0:Nat → Value),L = [cellsR b1 25 [.slice Aa p0.fNo.length ca,.slice Ab p0.fC.length cb],cellsR b2 26 [.slice Ac p1.length cc],mapV Tryz.prog 3 kI rngB kB false b3 s40.2.2,cellsR b4 94 [.map (some b3)],cellsR b7 25 [.slice Aa p0.fNo.length ca,.slice Ab p0.fC.length cb],dfR D8,lpR l9 { rec10 with state:=.busy },rowR A12 c13 3 1 x19.length (encL cI x19),rngV Tryz.prog 3 kI rngB kB false b27 b28 y25 s40.2.1 s40.1 none] ∧ tm = (upd (upd (upd (upd (upd (upd (upd (upd (upd tm0 0 (.agg #[.slice Aa p0.fNo.length ca,.slice Ab p0.fC.length cb])) 1 (.slice Ac p1.length cc)) 2 (.pointer (some ⟨b1,0,none⟩))) 3 (.pointer (some ⟨b2,0,none⟩))) 4 (.map none)) 5 (.pointer (some ⟨b4,0,none⟩))) 10 (.func (.func 130) #[] #[.pointer (some ⟨b7,0,none⟩)])) 6 (.slice A12 x19.length c13)) 17 (.pointer (some ⟨b28,0,none⟩)))) (fun s => s.1) (k29,(fun y => mhasV y25 y),s18) ⟨(UnionI.start hk30),_,rfl,(kp4 (kp4 (kp rfl)))⟩ ?_)
  rintro s40 L tm ⟨hI41,tm0,rfl,rfl⟩
  refine cS (cR ?_)
  refine ox_nextV 8 rfl ke_3 rfl rfl (fun hno37 => ?_) (fun y31 k32 hy33 hly34 hM35 hk36 => ?_)
  ·refine ox_y rfl (y_extract (vs:=[.bool false]) (v:=.bool false) rfl rfl) ?_
   refine oN (eT (cS ?_))
   refine cx_false rfl (cx_exit (ex_then_exit ?_))
   refine ex_outM (by intro h; cases h) ?_
   refine ex_mapExt 2 (unionV true y25 s18) ke_3 rfl (hI41.done hno37) (ex_rngEnd 8 rfl ?_)
   try dsimp only [lsz,lss]
   refine ex_block_here (ex_block (ex_take 8 ?_))
   obtain rfl:=sI h
   exact ex_cnext [cellsR b1 25 [.slice Aa p0.fNo.length ca,.slice Ab p0.fC.length cb],cellsR b2 26 [.slice Ac p1.length cc],mapV Tryz.prog 3 kI rngB kB false b3 (unionV true y25 s18),cellsR b4 94 [.map (some b3)],cellsR b7 25 [.slice Aa p0.fNo.length ca,.slice Ab p0.fC.length cb]] rfl
  ·refine ox_y rfl (y_extract (vs:=[.bool true,.int .i64 y31,.bool (mgetV false y25 y31)]) (v:=.bool true) rfl rfl) ?_
   refine oN (eT (cS ?_))
   refine cx_true rfl ?_
   refine cx_skip (eT (cx_block (cS (cR ?_))))
   refine ox_y rfl (y_entryV 8 rfl rfl) (ox_y rfl (y_extract (vs:=[.int .i64 y31,.bool (mgetV false y25 y31)]) (v:=.int .i64 y31) rfl rfl) (ox_y rfl (yAI rfl) ?_))
   refine oN (eT (cR ?_))
   refine ox_y rfl (y_load1 3 (v:=.map (some b3)) sc_94 rfl rfl rfl) (ox_y rfl (yMI rfl) (ox_n rfl (y_updateV 2 (k:=y31) (v:=true) rfl ke_3 um_94 rfl rfl rfl ⟨hy33,hI41.room hk36 hg42⟩) (oN (ex_block (ex_rngNone 8 rfl ?_)))))
   exact ex_nextM (k32,(fun q => s40.2.1 q && !decide (q = y31)),((y31,true) :: s40.2.2)) ⟨hI41.step hy33 hM35 hk36,_,rfl,(kp4 (kp4 (kp rfl)))⟩ hk36
 ·rintro D8 u45 L hst rfl
  subst hst
  dsimp only at h
  refine ex_block ?_
  refine eT (cS (cR ?_))
  try dsimp only [lna,lca,lsz,lss]
  refine ox_y rfl (y_load1 3 (v:=.map (some b3)) sc_94 rfl rfl rfl) (ox_y rfl (y_assign_map rfl) ?_)
  refine oN (eT (cx_ret ?_))
  refine ex_M1 5 rfl (.inl rfl) ?_
  obtain rfl:=sI h
  exact ex_res1 (.inl rfl) rfl (rVt (v:=.map (some b3)) rfl) (fun W2 hW2 => ⟨b3,rfl,(hW2.pick 2 rfl)⟩)
 ·intro D8 t e L _ hh
  exact hh.elim
end Go.Proofs.YtbblpokfbmekfaaGreat
