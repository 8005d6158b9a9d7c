import Derived.Test.YtbblpokfbmekfaaF
import Derived.Test.YtbblpokfbmekfaaGk
import Derived.Test.YtbblpokfbmekfaaC1
/- The calls hand back what the plain functions say. -/
set_option linter.unusedVariables false
set_option maxHeartbeats 4000000
set_option maxRecDepth 100000
namespace Go.Proofs.Ytbblpokfbmekfaa
open Go.RowKit (Below)
attribute [local irreducible] OX QX CX EX OpY Calls CallsIn

theorem recall_reach_ok (p0:TLineage) (p1:(List Int)) (p2:Int → Int → Option Bool) (res:(List (Int × Bool))) (h:recall_reach p0 p1 p2 = some res) (W:World) (A0_0:Option Addr) (n0_0 c0_0 : Nat) (hn0_0:n0_0 = p0.fNodes.length) (hr0_0:Rd W A0_0 n0_0 c0_0 (encL TNode_cells p0.fNodes)) (A0_1:Option Addr) (n0_1 c0_1 : Nat) (ys0_1:List (Hd × TClaim)) (hn0_1:n0_1 = p0.fClaims.length) (hr0_1:Rd W A0_1 n0_1 c0_1 (encL TClaim_cells2 ys0_1)) (hN0_1:NestW W (fun z : TClaim => z.fOptions) THop_cells ys0_1 p0.fClaims) (A1_0:Option Addr) (n1_0 c1_0 : Nat) (hn1_0:n1_0 = p1.length) (hr1_0:Rd W A1_0 n1_0 c1_0 (encL cI p1)) (fid2:Nat) (fst2 caps2 : List Value) (hgo2:goes Try.prog fid2 = true) (hof2:∀ W2,Below W.heap.size W W2 → ∀ x0 x1,∀ y,p2 x0 x1 = some y → Calls Try.prog fid2 (fst2 ++ (([.int .i64 x0,.int .i64 x1] : List Value) ++ caps2)).toArray W2 fun e W3 => e = .returned (.bool y) ∧ Ext W2 W3 []) :
  Calls Try.prog 48 [.agg #[.slice A0_0 n0_0 c0_0,.slice A0_1 n0_1 c0_1],.slice A1_0 n1_0 c1_0,.func (.func fid2) fst2.toArray caps2.toArray].toArray W fun e W2 => ∃ x : Nat,e = .returned (.map (some x)) ∧ Ext W W2 [mapV Try.prog 3 kI rngB kB false x res]:=by
 subst hn0_0
 subst hn0_1
 subst hn1_0
 unfold recall_reach at h
 refine calls_enter (m:=94) Try.func48 rfl rfl (Nat.le_of_ble_eq_true rfl) ?_
 refine cx_seq (cx_region ?_)
 refine ox_box [.slice A0_0 p0.fNodes.length c0_0,.slice A0_1 p0.fClaims.length c0_1] rfl rfl rfl (fun b1 => ?_)
 refine ox_y rfl (y_assign_map rfl) ?_
 refine ox_nil (ex_then (cx_seq (cx_region ?_)))
 refine ox_makeMapS 3 kI rngB 3 1 cI rfl (fun b2 => ?_)
 refine ox_y rfl (y_assign_map rfl) ?_
 refine ox_nil (ex_then (cx_seq (cx_seq (cx_region ?_))))
 refine ox_y rfl (y_fieldAddr fo_25_1 rfl) ?_
 refine ox_y rfl (y_load1 0 (v:=.slice A0_1 p0.fClaims.length c0_1) sc_23 rfl rfl rfl) ?_
 refine ox_y rfl (y_len (us:=[]) us_23 rfl) ?_
 refine ox_y rfl (y_move_int rfl) ?_
 refine ox_nil (ex_then (cx_block ?_))
 obtain ⟨u6,hl28,h⟩:=bind_some h
 refine cx_loop (fun (s:(Int × (List (Int × (List Int))))) L tm => ∃ (tm0:Nat → Value) (h1_s:List (Int × Hd)),HsOk h1_s s.2 ∧ L = [cellsR b1 25 [.slice A0_0 p0.fNodes.length c0_0,.slice A0_1 p0.fClaims.length c0_1],mapV Try.prog 3 kI rngB hdV nilHd b2 h1_s,rowsS 3 1 cI h1_s s.2] ∧ tm = (upd (upd (upd (upd (upd (upd (upd (upd (upd tm0 0 (.agg #[.slice A0_0 p0.fNodes.length c0_0,.slice A0_1 p0.fClaims.length c0_1])) 1 (.slice A1_0 p1.length c1_0)) 2 (.func (.func fid2) fst2.toArray caps2.toArray)) 3 (.pointer (some ⟨b1,0,none⟩))) 6 (.map none)) 7 (.map (some b2))) 22 (.slice A0_1 p0.fClaims.length c0_1)) 23 (.int .i64 (p0.fClaims.length:Int))) 24 (.int .i64 s.1))) (fun s e L tm => e = .exit 0 ∧ ∃ (tm0:Nat → Value) (h1_s:List (Int × Hd)),HsOk h1_s s.2 ∧ L = [cellsR b1 25 [.slice A0_0 p0.fNodes.length c0_0,.slice A0_1 p0.fClaims.length c0_1],mapV Try.prog 3 kI rngB hdV nilHd b2 h1_s,rowsS 3 1 cI h1_s s.2] ∧ tm = (upd (upd (upd (upd (upd (upd (upd (upd (upd tm0 0 (.agg #[.slice A0_0 p0.fNodes.length c0_0,.slice A0_1 p0.fClaims.length c0_1])) 1 (.slice A1_0 p1.length c1_0)) 2 (.func (.func fid2) fst2.toArray caps2.toArray)) 3 (.pointer (some ⟨b1,0,none⟩))) 6 (.map none)) 7 (.map (some b2))) 22 (.slice A0_1 p0.fClaims.length c0_1)) 23 (.int .i64 (p0.fClaims.length:Int))) 24 (.int .i64 s.1))) hl28 ⟨_,([]:List (Int × Hd)),HsOk.nil,rfl,(keep (keep (keep (keep (keep (keep (keep (keep (keep rfl rfl) rfl) rfl) rfl) rfl) rfl) rfl) rfl) rfl)⟩ ?_ ?_
 ·rintro s5 L tm st ⟨tm0_s5,h1_s5,hk1_s5,rfl,rfl⟩ h
  unfold recall_reach_l1 at h
  refine cx_seq (cx_region ?_)
  refine ox_y rfl (y_lss rfl rfl) ?_
  refine ox_nil (ex_then (cx_seq ?_))
  rcases ite_some h with ⟨hp7,h⟩ | ⟨hp7,h⟩
  ·refine cx_true (congrArg Value.bool hp7) ?_
   refine cx_skip (ex_then (cx_seq (cx_block (cx_seq (cx_region ?_)))))
   refine ox_y rfl (y_move_int rfl) ?_
   obtain ⟨hg8,h⟩:=guardO_some h
   refine ox_y rfl (y_indexR sl_23 (by decide) hg8.1 hg8.2 (RdL.arg hr0_1) (encL_len TClaim_cells2_len (NestP.hn hN0_1.p rfl)) rfl rfl) ?_
   refine ox_y rfl (y_loadRN (A:=A0_1) (j:=(Int.toNat s5.1 * 2)) [.int .i64 ((rdL p0.fClaims s5.1).fID),.slice ((rdL ys0_1 s5.1).1.1) ((rdL p0.fClaims s5.1).fOptions.length) ((rdL ys0_1 s5.1).1.2.2)] ag_35 (Nat.succ_pos _) (RdL.arg hr0_1) rfl (gets_eq (TClaim_cells2_eq (NestP.snd hN0_1.p s5.1) (NestP.len hN0_1.p hg8.1 (lt_nat hg8.2 rfl))).symm (encL_gets TClaim_cells2_len hg8.1 (lt_nat hg8.2 (NestP.hn hN0_1.p rfl))))) ?_
   refine ox_alloc ze_35 rfl (fun b9 => ?_)
   refine ox_y rfl (y_assign_int rfl) ?_
   refine ox_n rfl (y_storeN 3 [.int .i64 ((rdL p0.fClaims s5.1).fID),.slice ((rdL ys0_1 s5.1).1.1) ((rdL p0.fClaims s5.1).fOptions.length) ((rdL ys0_1 s5.1).1.2.2)] sz_35 rfl (Nat.le_of_ble_eq_true rfl) rfl rfl rfl) ?_
   refine ox_nil (ex_then (cx_seq (cx_region ?_)))
   refine ox_y rfl (y_fieldAddr fo_35_1 rfl) ?_
   refine ox_y rfl (y_load1 3 (v:=.slice ((rdL ys0_1 s5.1).1.1) ((rdL p0.fClaims s5.1).fOptions.length) ((rdL ys0_1 s5.1).1.2.2)) sc_33 rfl rfl rfl) ?_
   refine ox_y rfl (y_len (us:=[]) us_33 rfl) ?_
   refine ox_y rfl (y_move_int rfl) ?_
   refine ox_nil (ex_then (cx_block ?_))
   obtain ⟨u13,hl27,h⟩:=bind_some h
   refine cx_loop (fun (s:(Int × (List (Int × (List Int))))) L tm => ∃ (tm0:Nat → Value) (h1_s:List (Int × Hd)),HsOk h1_s s.2 ∧ L = [cellsR b1 25 [.slice A0_0 p0.fNodes.length c0_0,.slice A0_1 p0.fClaims.length c0_1],mapV Try.prog 3 kI rngB hdV nilHd b2 h1_s,rowsS 3 1 cI h1_s s.2,cellsR b9 35 [.int .i64 ((rdL p0.fClaims s5.1).fID),.slice ((rdL ys0_1 s5.1).1.1) ((rdL p0.fClaims s5.1).fOptions.length) ((rdL ys0_1 s5.1).1.2.2)]] ∧ tm = (upd (upd (upd (upd (upd (upd (upd (upd (upd (upd (upd (upd (upd (upd (upd tm0 0 (.agg #[.slice A0_0 p0.fNodes.length c0_0,.slice A0_1 p0.fClaims.length c0_1])) 1 (.slice A1_0 p1.length c1_0)) 2 (.func (.func fid2) fst2.toArray caps2.toArray)) 3 (.pointer (some ⟨b1,0,none⟩))) 6 (.map none)) 7 (.map (some b2))) 22 (.slice A0_1 p0.fClaims.length c0_1)) 23 (.int .i64 (p0.fClaims.length:Int))) 24 (.int .i64 s5.1)) 25 (.bool (decide (s5.1 < (p0.fClaims.length:Int))))) 9 (.pointer (some ⟨b9,0,none⟩))) 8 (.int .i64 s5.1)) 30 (.slice ((rdL ys0_1 s5.1).1.1) ((rdL p0.fClaims s5.1).fOptions.length) ((rdL ys0_1 s5.1).1.2.2))) 31 (.int .i64 (((rdL p0.fClaims s5.1).fOptions.length : Nat) : Int))) 32 (.int .i64 s.1))) (fun s e L tm => e = .exit 2 ∧ ∃ (tm0:Nat → Value) (h1_s:List (Int × Hd)),HsOk h1_s s.2 ∧ L = [cellsR b1 25 [.slice A0_0 p0.fNodes.length c0_0,.slice A0_1 p0.fClaims.length c0_1],mapV Try.prog 3 kI rngB hdV nilHd b2 h1_s,rowsS 3 1 cI h1_s s.2,cellsR b9 35 [.int .i64 ((rdL p0.fClaims s5.1).fID),.slice ((rdL ys0_1 s5.1).1.1) ((rdL p0.fClaims s5.1).fOptions.length) ((rdL ys0_1 s5.1).1.2.2)]] ∧ tm = (upd (upd (upd (upd (upd (upd (upd (upd (upd (upd (upd (upd (upd (upd (upd tm0 0 (.agg #[.slice A0_0 p0.fNodes.length c0_0,.slice A0_1 p0.fClaims.length c0_1])) 1 (.slice A1_0 p1.length c1_0)) 2 (.func (.func fid2) fst2.toArray caps2.toArray)) 3 (.pointer (some ⟨b1,0,none⟩))) 6 (.map none)) 7 (.map (some b2))) 22 (.slice A0_1 p0.fClaims.length c0_1)) 23 (.int .i64 (p0.fClaims.length:Int))) 24 (.int .i64 s5.1)) 25 (.bool (decide (s5.1 < (p0.fClaims.length:Int))))) 9 (.pointer (some ⟨b9,0,none⟩))) 8 (.int .i64 s5.1)) 30 (.slice ((rdL ys0_1 s5.1).1.1) ((rdL p0.fClaims s5.1).fOptions.length) ((rdL ys0_1 s5.1).1.2.2))) 31 (.int .i64 (((rdL p0.fClaims s5.1).fOptions.length : Nat) : Int))) 32 (.int .i64 s.1))) hl27 ⟨_,h1_s5,hk1_s5,rfl,(keep (keep (keep (keep (keep (keep (keep (keep (keep (keep (keep (keep (keep (keep (keep rfl rfl) rfl) rfl) rfl) rfl) rfl) rfl) rfl) rfl) rfl) rfl) rfl) rfl) rfl) rfl)⟩ ?_ ?_
   ·rintro s12 L tm st ⟨tm0_s12,h1_s12,hk1_s12,rfl,rfl⟩ h
    unfold recall_reach_l2 at h
    refine cx_seq (cx_region ?_)
    refine ox_y rfl (y_lss rfl rfl) ?_
    refine ox_nil (ex_then (cx_seq ?_))
    rcases ite_some h with ⟨hp14,h⟩ | ⟨hp14,h⟩
    ·refine cx_true (congrArg Value.bool hp14) ?_
     refine cx_skip (ex_then (cx_seq (cx_block (cx_seq (cx_region ?_)))))
     refine ox_y rfl (y_move_int rfl) ?_
     obtain ⟨hg15,h⟩:=guardO_some h
     refine ox_y rfl (y_indexR sl_33 (by decide) hg15.1 hg15.2 (NestL.rd (NestL.arg hN0_1) hg8.1 (lt_nat hg8.2 rfl)) (encL_len THop_cells_len rfl) rfl rfl) ?_
     refine ox_y rfl (y_loadRN (A:=((rdL ys0_1 s5.1).1.1)) (j:=(Int.toNat s12.1 * 2)) [.int .i64 ((rdL ((rdL p0.fClaims s5.1).fOptions) s12.1).fFrom),.int .i64 ((rdL ((rdL p0.fClaims s5.1).fOptions) s12.1).fTo)] ag_93 (Nat.succ_pos _) (NestL.rd (NestL.arg hN0_1) hg8.1 (lt_nat hg8.2 rfl)) rfl (encL_gets THop_cells_len hg15.1 (lt_nat hg15.2 rfl))) ?_
     refine ox_alloc ze_93 rfl (fun b16 => ?_)
     refine ox_y rfl (y_assign_int rfl) ?_
     refine ox_n rfl (y_storeN 4 [.int .i64 ((rdL ((rdL p0.fClaims s5.1).fOptions) s12.1).fFrom),.int .i64 ((rdL ((rdL p0.fClaims s5.1).fOptions) s12.1).fTo)] sz_93 rfl (Nat.le_of_ble_eq_true rfl) rfl rfl rfl) ?_
     refine ox_nil (ex_then (cx_seq (cx_region ?_)))
     refine ox_y rfl (y_move (v:=.func (.func fid2) fst2.toArray caps2.toArray) rfl) ?_
     refine ox_y rfl (y_move_int rfl) ?_
     refine ox_y rfl (y_move_int rfl) ?_
     obtain ⟨y17,hy18,h⟩:=bind_some h
     refine ox_y rfl (y_callvF [.int .i64 s5.1,.int .i64 s12.1] hgo2 rfl rfl (fun W2 hW2 => hof2 W2 hW2.below s5.1 s12.1 y17 hy18)) ?_
     refine ox_nil (ex_then ?_)
     rcases ite_some h with ⟨hp19,h⟩ | ⟨hp19,h⟩
     ·refine cx_true (congrArg Value.bool hp19) ?_
      obtain ⟨hg21,h⟩:=guardO_some h
      obtain ⟨hg25,h⟩:=guardO_some h
      obtain ⟨hg26,h⟩:=guardO_some h
      refine cx_drawsG [[],[],[1],[],[],[4],[3,4,5],[],[7],[7,8],[3,4,5,6,7,8,9],[0,1,2,3,4,5,6,7,8,9,10]] [(none,0,[true,true,false,true,true]),(none,0,[true,true,false,true,true]),(none,0,[true,true,false,true,true]),(none,0,[true,true,true,true,true]),(none,0,[true,true,true,true,true]),(none,0,[true,true,true,true,true]),(none,0,[true,true,true,true,true]),(none,0,[true,true,true,true,true]),(none,0,[true,true,true,true,true]),(none,1,[true,true,true,true,true]),(some 2,0,[true,true,true,true,true,true]),(some 1,0,[true,true,true,true,true,true])] [⟨fun _ => .map (some b2),fun _ => noR,fun _ => []⟩,⟨fun _ => .pointer (some ⟨b16,0 + 0,none⟩),fun _ => noR,fun _ => []⟩,⟨fun _ => .int .i64 ((rdL ((rdL p0.fClaims s5.1).fOptions) s12.1).fFrom),fun _ => noR,fun _ => []⟩,⟨fun _ => .map (some b2),fun _ => noR,fun _ => []⟩,⟨fun _ => .pointer (some ⟨b16,0 + 0,none⟩),fun _ => noR,fun _ => []⟩,⟨fun _ => .int .i64 ((rdL ((rdL p0.fClaims s5.1).fOptions) s12.1).fFrom),fun _ => noR,fun _ => []⟩,⟨fun _ => .slice ((mgetV nilHd h1_s12 ((rdL ((rdL p0.fClaims s5.1).fOptions) s12.1).fFrom)).1) ((mgetV [] s12.2 ((rdL ((rdL p0.fClaims s5.1).fOptions) s12.1).fFrom)).length) ((mgetV nilHd h1_s12 ((rdL ((rdL p0.fClaims s5.1).fOptions) s12.1).fFrom)).2.2),fun _ => noR,fun _ => []⟩,⟨fun _ => .pointer (some ⟨b16,0 + 1,none⟩),fun _ => noR,fun _ => []⟩,⟨fun _ => .int .i64 ((rdL ((rdL p0.fClaims s5.1).fOptions) s12.1).fTo),fun _ => noR,fun _ => []⟩,⟨fun ξ20 => .slice (some ⟨(ξ20 9 0).2.1,0,none⟩) 1 1,fun _ => noR,fun ξ20 => [rowR (some ⟨(ξ20 9 0).2.1,0,none⟩) 1 3 1 1 (encL cI [(rdL ((rdL p0.fClaims s5.1).fOptions) s12.1).fTo])]⟩,⟨fun ξ20 => .slice (ξ20 10 0).1 ((mgetV [] s12.2 ((rdL ((rdL p0.fClaims s5.1).fOptions) s12.1).fFrom)).length + 1) (ξ20 10 0).2.2,fun ξ20 => rowsS 3 1 cI (((rdL ((rdL p0.fClaims s5.1).fOptions) s12.1).fFrom,((ξ20 10 0).1,((mgetV [] s12.2 ((rdL ((rdL p0.fClaims s5.1).fOptions) s12.1).fFrom)).length + 1),(ξ20 10 0).2.2)) :: h1_s12) (((rdL ((rdL p0.fClaims s5.1).fOptions) s12.1).fFrom,((mgetV [] s12.2 ((rdL ((rdL p0.fClaims s5.1).fOptions) s12.1).fFrom)) ++ [(rdL ((rdL p0.fClaims s5.1).fOptions) s12.1).fTo])) :: s12.2),fun _ => []⟩,⟨fun _ => undef,fun ξ20 => mapV Try.prog 3 kI rngB hdV nilHd b2 (((rdL ((rdL p0.fClaims s5.1).fOptions) s12.1).fFrom,((ξ20 10 0).1,((mgetV [] s12.2 ((rdL ((rdL p0.fClaims s5.1).fOptions) s12.1).fFrom)).length + 1),(ξ20 10 0).2.2)) :: h1_s12),fun _ => []⟩] 5 mixed (by kernel_rfl) (by kernel_rfl) ⟨⟨fun ξ20 ξ20' h => ⟨rfl,rfl,rfl⟩,fun _ => rfl⟩,⟨fun ξ20 ξ20' h => ⟨rfl,rfl,rfl⟩,fun _ => rfl⟩,⟨fun ξ20 ξ20' h => ⟨rfl,rfl,rfl⟩,fun _ => rfl⟩,⟨fun ξ20 ξ20' h => ⟨rfl,rfl,rfl⟩,fun _ => rfl⟩,⟨fun ξ20 ξ20' h => ⟨rfl,rfl,rfl⟩,fun _ => rfl⟩,⟨fun ξ20 ξ20' h => ⟨rfl,rfl,rfl⟩,fun _ => rfl⟩,⟨fun ξ20 ξ20' h => ⟨rfl,rfl,rfl⟩,fun _ => rfl⟩,⟨fun ξ20 ξ20' h => ⟨rfl,rfl,rfl⟩,fun _ => rfl⟩,⟨fun ξ20 ξ20' h => ⟨rfl,rfl,rfl⟩,fun _ => rfl⟩,⟨fun ξ20 ξ20' h => ⟨by simp only [h 9 (.inl rfl)],rfl,by simp only [h 9 (.inl rfl)]⟩,fun _ => rfl⟩,⟨fun ξ20 ξ20' h => ⟨by simp only [h 10 (.inl rfl)],by simp only [h 10 (.inl rfl)],rfl⟩,fun _ => rfl⟩,⟨fun ξ20 ξ20' h => ⟨rfl,by simp only [h 10 (.inr rfl)],rfl⟩,fun _ => rfl⟩,trivial⟩ rfl (fun ξ20 => ?_)
      refine gx_o rfl (fun L2 => ?_) ?_
      ·dsimp only [maskL,lca,lna]
       refine ox_y rfl (y_move_map rfl) ?_
       refine ox_nil ?_
       exact ex_capG (fun _ => (none,0,0)) rfl (List.append_nil _)
      dsimp only [aftL,lsz,lss,lna,lca,List.append_nil]
      refine gx_o rfl (fun L2 => ?_) ?_
      ·dsimp only [maskL,lca,lna]
       refine ox_y rfl (y_fieldAddr fo_93_0 rfl) ?_
       refine ox_nil ?_
       exact ex_capG (fun _ => (none,0,0)) rfl (List.append_nil _)
      dsimp only [aftL,lsz,lss,lna,lca,List.append_nil]
      refine gx_o rfl (fun L2 => ?_) ?_
      ·dsimp only [maskL,lca,lna]
       refine ox_y rfl (y_load1 4 (v:=.int .i64 ((rdL ((rdL p0.fClaims s5.1).fOptions) s12.1).fFrom)) sc_3 rfl rfl rfl) ?_
       refine ox_nil ?_
       exact ex_capG (fun _ => (none,0,0)) rfl (List.append_nil _)
      dsimp only [aftL,lsz,lss,lna,lca,List.append_nil]
      refine gx_o rfl (fun L2 => ?_) ?_
      ·dsimp only [maskL,lca,lna]
       refine ox_y rfl (y_move_map rfl) ?_
       refine ox_nil ?_
       exact ex_capG (fun _ => (none,0,0)) rfl (List.append_nil _)
      dsimp only [aftL,lsz,lss,lna,lca,List.append_nil]
      refine gx_o rfl (fun L2 => ?_) ?_
      ·dsimp only [maskL,lca,lna]
       refine ox_y rfl (y_fieldAddr fo_93_0 rfl) ?_
       refine ox_nil ?_
       exact ex_capG (fun _ => (none,0,0)) rfl (List.append_nil _)
      dsimp only [aftL,lsz,lss,lna,lca,List.append_nil]
      refine gx_o rfl (fun L2 => ?_) ?_
      ·dsimp only [maskL,lca,lna]
       refine ox_y rfl (y_load1 4 (v:=.int .i64 ((rdL ((rdL p0.fClaims s5.1).fOptions) s12.1).fFrom)) sc_3 rfl rfl rfl) ?_
       refine ox_nil ?_
       exact ex_capG (fun _ => (none,0,0)) rfl (List.append_nil _)
      dsimp only [aftL,lsz,lss,lna,lca,List.append_nil]
      refine gx_o rfl (fun L2 => ?_) ?_
      ·dsimp only [maskL,lca,lna]
       refine ox_y rfl (y_lookupS (k:=(rdL ((rdL p0.fClaims s5.1).fOptions) s12.1).fFrom) hk1_s12 (MpL.own 1 rfl) ke_3 um_107 ze_32 rfl rfl hg21) ?_
       refine ox_nil ?_
       exact ex_capG (fun _ => (none,0,0)) rfl (List.append_nil _)
      dsimp only [aftL,lsz,lss,lna,lca,List.append_nil]
      refine gx_o rfl (fun L2 => ?_) ?_
      ·dsimp only [maskL,lca,lna]
       refine ox_y rfl (y_fieldAddr fo_93_1 rfl) ?_
       refine ox_nil ?_
       exact ex_capG (fun _ => (none,0,0)) rfl (List.append_nil _)
      dsimp only [aftL,lsz,lss,lna,lca,List.append_nil]
      refine gx_o rfl (fun L2 => ?_) ?_
      ·dsimp only [maskL,lca,lna]
       refine ox_y rfl (y_load1 4 (v:=.int .i64 ((rdL ((rdL p0.fClaims s5.1).fOptions) s12.1).fTo)) sc_3 rfl rfl rfl) ?_
       refine ox_nil ?_
       exact ex_capG (fun _ => (none,0,0)) rfl (List.append_nil _)
      dsimp only [aftL,lsz,lss,lna,lca,List.append_nil]
      refine gx_o rfl (fun L2 => ?_) ?_
      ·dsimp only [maskL,lca,lna]
       refine ox_buildSliceE 1 (encL cI [(rdL ((rdL p0.fClaims s5.1).fOptions) s12.1).fTo]) _ mc_3_1 us_32 ze_3 by_3 (by decide) (by decide) (by kernel_rfl) (encL_len cI_len rfl) rfl (fun b22 => ?_)
       refine ox_nil ?_
       exact ex_capG (fun _ => (none,b22,0)) rfl rfl
      dsimp only [aftL,lsz,lss,lna,lca,List.append_nil]
      refine gx_o rfl (fun L2 => ?_) ?_
      ·dsimp only [maskL,lca,lna]
       refine ox_appendS 2 ((rdL ((rdL p0.fClaims s5.1).fOptions) s12.1).fFrom) us_32 ze_3 by_3 hk1_s12 rfl rfl rfl (RdL.row 5 rfl) (encL_len cI_len rfl) (encL_one cI_one _) (app_room hg25 (by decide)) rfl (fun A23 c24 => ?_)
       refine ox_nil ?_
       exact ex_capG (fun _ => (A23,0,c24)) rfl (List.append_nil _)
      dsimp only [aftL,lsz,lss,lna,lca,List.append_nil]
      refine gx_n rfl (fun L2 => ?_) ?_
      ·dsimp only [maskL,lca,lna]
       refine ox_n rfl (y_updateV 1 (k:=(rdL ((rdL p0.fClaims s5.1).fOptions) s12.1).fFrom) (v:=((ξ20 10 0).1,((mgetV [] s12.2 ((rdL ((rdL p0.fClaims s5.1).fOptions) s12.1).fFrom)).length + 1),(ξ20 10 0).2.2)) rfl ke_3 um_107 rfl rfl rfl ⟨hg26.1,(by rw [HsOk.len hk1_s12]; exact hg26.2)⟩) ?_
       refine ox_nil ?_
       exact ex_capGn (fun _ => (none,0,0)) (List.append_nil _)
      dsimp only [aftL,lsz,lss,lna,lca,List.append_nil]
      refine gx_nil ?_
      refine ex_block ?_
      refine ex_then (cx_region ?_)
      try dsimp only [lna,lca,lsz,lss]
      refine ox_y rfl (y_add rfl rfl) ?_
      refine ox_y rfl (y_move_int rfl) ?_
      refine ox_nil ?_
      refine ex_take 4 ?_
      obtain rfl:=Option.some.inj h
      exact ex_next ⟨_,(((rdL ((rdL p0.fClaims s5.1).fOptions) s12.1).fFrom,((ξ20 10 0).1,((mgetV [] s12.2 ((rdL ((rdL p0.fClaims s5.1).fOptions) s12.1).fFrom)).length + 1),(ξ20 10 0).2.2)) :: h1_s12),(HsOk.cons hk1_s12 (hn_app rfl rfl)),rfl,(keep (keep (keep (keep (keep (keep (keep (keep (keep (keep (keep (keep (keep (keep (keep rfl rfl) rfl) rfl) rfl) rfl) rfl) rfl) rfl) rfl) rfl) rfl) rfl) rfl) rfl) rfl)⟩
     ·refine cx_false (congrArg Value.bool hp19) ?_
      refine cx_skip ?_
      refine ex_block ?_
      refine ex_then (cx_region ?_)
      refine ox_y rfl (y_add rfl rfl) ?_
      refine ox_y rfl (y_move_int rfl) ?_
      refine ox_nil ?_
      refine ex_take 4 ?_
      obtain rfl:=Option.some.inj h
      exact ex_next ⟨_,h1_s12,hk1_s12,rfl,(keep (keep (keep (keep (keep (keep (keep (keep (keep (keep (keep (keep (keep (keep (keep rfl rfl) rfl) rfl) rfl) rfl) rfl) rfl) rfl) rfl) rfl) rfl) rfl) rfl) rfl) rfl)⟩
    ·refine cx_false (congrArg Value.bool hp14) ?_
     refine cx_exit ?_
     refine ex_then_exit ?_
     obtain rfl:=Option.some.inj h
     exact ex_stop ⟨rfl,_,h1_s12,hk1_s12,rfl,(keep (keep (keep (keep (keep (keep (keep (keep (keep (keep (keep (keep (keep (keep (keep rfl rfl) rfl) rfl) rfl) rfl) rfl) rfl) rfl) rfl) rfl) rfl) rfl) rfl) rfl) rfl)⟩
   ·intro e L tm hJ
    obtain ⟨rfl,tm0_u13,h1_u13,hk1_u13,rfl,rfl⟩:=hJ
    refine ⟨(by intro hc; cases hc),?_⟩
    refine ex_block_here ?_
    refine ex_block ?_
    refine ex_then (cx_region ?_)
    refine ox_y rfl (y_add rfl rfl) ?_
    refine ox_y rfl (y_move_int rfl) ?_
    refine ox_nil ?_
    refine ex_take 3 ?_
    obtain rfl:=Option.some.inj h
    exact ex_next ⟨_,h1_u13,hk1_u13,rfl,(keep (keep (keep (keep (keep (keep (keep (keep (keep rfl rfl) rfl) rfl) rfl) rfl) rfl) rfl) rfl) rfl)⟩
  ·refine cx_false (congrArg Value.bool hp7) ?_
   refine cx_exit ?_
   refine ex_then_exit ?_
   obtain rfl:=Option.some.inj h
   exact ex_stop ⟨rfl,_,h1_s5,hk1_s5,rfl,(keep (keep (keep (keep (keep (keep (keep (keep (keep rfl rfl) rfl) rfl) rfl) rfl) rfl) rfl) rfl) rfl)⟩
 ·intro e L tm hJ
  obtain ⟨rfl,tm0_u6,h1_u6,hk1_u6,rfl,rfl⟩:=hJ
  refine ⟨(by intro hc; cases hc),?_⟩
  refine ex_block_here ?_
  refine ex_then (cx_seq (cx_region ?_))
  refine ox_makeMapV 3 kI rngB kB false rfl (fun b29 => ?_)
  refine ox_y rfl (y_assign_map rfl) ?_
  refine ox_nil (ex_then (cx_seq (cx_seq (cx_region ?_))))
  refine ox_y rfl (y_move_slice rfl) ?_
  refine ox_y rfl (y_len (us:=[]) us_32 rfl) ?_
  refine ox_y rfl (y_move_int rfl) ?_
  refine ox_nil (ex_then (cx_block ?_))
  obtain ⟨u33,hl37,h⟩:=bind_some h
  refine cx_loop (fun (s:(Int × (List (Int × Bool)))) L tm => ∃ (tm0:Nat → Value),L = [cellsR b1 25 [.slice A0_0 p0.fNodes.length c0_0,.slice A0_1 p0.fClaims.length c0_1],mapV Try.prog 3 kI rngB hdV nilHd b2 h1_u6,rowsS 3 1 cI h1_u6 u6.2,mapV Try.prog 3 kI rngB kB false b29 s.2] ∧ tm = (upd (upd (upd (upd (upd (upd (upd (upd (upd (upd (upd (upd (upd tm0 0 (.agg #[.slice A0_0 p0.fNodes.length c0_0,.slice A0_1 p0.fClaims.length c0_1])) 1 (.slice A1_0 p1.length c1_0)) 2 (.func (.func fid2) fst2.toArray caps2.toArray)) 3 (.pointer (some ⟨b1,0,none⟩))) 6 (.map none)) 7 (.map (some b2))) 22 (.slice A0_1 p0.fClaims.length c0_1)) 23 (.int .i64 (p0.fClaims.length:Int))) 24 (.int .i64 u6.1)) 12 (.map (some b29))) 55 (.slice A1_0 p1.length c1_0)) 56 (.int .i64 (p1.length:Int))) 57 (.int .i64 s.1))) (fun s e L tm => e = .exit 4 ∧ ∃ (tm0:Nat → Value),L = [cellsR b1 25 [.slice A0_0 p0.fNodes.length c0_0,.slice A0_1 p0.fClaims.length c0_1],mapV Try.prog 3 kI rngB hdV nilHd b2 h1_u6,rowsS 3 1 cI h1_u6 u6.2,mapV Try.prog 3 kI rngB kB false b29 s.2] ∧ tm = (upd (upd (upd (upd (upd (upd (upd (upd (upd (upd (upd (upd (upd tm0 0 (.agg #[.slice A0_0 p0.fNodes.length c0_0,.slice A0_1 p0.fClaims.length c0_1])) 1 (.slice A1_0 p1.length c1_0)) 2 (.func (.func fid2) fst2.toArray caps2.toArray)) 3 (.pointer (some ⟨b1,0,none⟩))) 6 (.map none)) 7 (.map (some b2))) 22 (.slice A0_1 p0.fClaims.length c0_1)) 23 (.int .i64 (p0.fClaims.length:Int))) 24 (.int .i64 u6.1)) 12 (.map (some b29))) 55 (.slice A1_0 p1.length c1_0)) 56 (.int .i64 (p1.length:Int))) 57 (.int .i64 s.1))) hl37 ⟨_,rfl,(keep (keep (keep (keep (keep (keep (keep (keep (keep (keep (keep (keep (keep rfl rfl) rfl) rfl) rfl) rfl) rfl) rfl) rfl) rfl) rfl) rfl) rfl) rfl)⟩ ?_ ?_
  ·rintro s32 L tm st ⟨tm0_s32,rfl,rfl⟩ h
   unfold recall_reach_l3 at h
   refine cx_seq (cx_region ?_)
   refine ox_y rfl (y_lss rfl rfl) ?_
   refine ox_nil (ex_then (cx_seq ?_))
   rcases ite_some h with ⟨hp34,h⟩ | ⟨hp34,h⟩
   ·refine cx_true (congrArg Value.bool hp34) ?_
    refine cx_skip (ex_then (cx_seq (cx_block (cx_seq (cx_region ?_)))))
    obtain ⟨hg35,h⟩:=guardO_some h
    refine ox_y rfl (y_indexR sl_32 (by decide) hg35.1 hg35.2 (RdL.arg hr1_0) (encL_len cI_len rfl) rfl rfl) ?_
    refine ox_y rfl (y_loadR1 (A:=A1_0) (j:=(Int.toNat s32.1 * 1)) (v:=.int .i64 (rdL p1 s32.1)) sc_3 (RdL.arg hr1_0) rfl (encL_get0 cI_len hg35.1 (lt_nat hg35.2 rfl) rfl)) ?_
    refine ox_y rfl (y_assign_int rfl) ?_
    refine ox_nil (ex_then (cx_region ?_))
    refine ox_y rfl (y_move_map rfl) ?_
    refine ox_y rfl (y_move_int rfl) ?_
    obtain ⟨hg36,h⟩:=guardO_some h
    refine ox_n rfl (y_updateV 3 (k:=(rdL p1 s32.1)) (v:=true) rfl ke_3 um_74 rfl rfl rfl hg36) ?_
    refine ox_nil ?_
    refine ex_block ?_
    refine ex_then (cx_region ?_)
    refine ox_y rfl (y_add rfl rfl) ?_
    refine ox_y rfl (y_move_int rfl) ?_
    refine ox_nil ?_
    obtain rfl:=Option.some.inj h
    exact ex_next ⟨_,rfl,(keep (keep (keep (keep (keep (keep (keep (keep (keep (keep (keep (keep (keep rfl rfl) rfl) rfl) rfl) rfl) rfl) rfl) rfl) rfl) rfl) rfl) rfl) rfl)⟩
   ·refine cx_false (congrArg Value.bool hp34) ?_
    refine cx_exit ?_
    refine ex_then_exit ?_
    obtain rfl:=Option.some.inj h
    exact ex_stop ⟨rfl,_,rfl,(keep (keep (keep (keep (keep (keep (keep (keep (keep (keep (keep (keep (keep rfl rfl) rfl) rfl) rfl) rfl) rfl) rfl) rfl) rfl) rfl) rfl) rfl) rfl)⟩
  ·intro e L tm hJ
   obtain ⟨rfl,tm0_u33,rfl,rfl⟩:=hJ
   refine ⟨(by intro hc; cases hc),?_⟩
   refine ex_block_here ?_
   refine ex_then (cx_seq (cx_seq (cx_region ?_)))
   refine ox_y rfl (y_loadN 0 [.slice A0_0 p0.fNodes.length c0_0,.slice A0_1 p0.fClaims.length c0_1] ag_25 rfl rfl rfl) ?_
   obtain ⟨y38,hy39,h⟩:=bind_some h
   refine ox_call [.agg #[.slice A0_0 p0.fNodes.length c0_0,.slice A0_1 p0.fClaims.length c0_1]] _ _ _ rfl go_77 rfl (fun W2 hW2 => recall_levels_ok p0 y38 hy39 W2 A0_0 p0.fNodes.length c0_0 rfl ((RdL.arg hr0_0) W2 hW2) A0_1 p0.fClaims.length c0_1 ys0_1 rfl ((RdL.arg hr0_1) W2 hW2) (NestL.at (NestL.arg hN0_1) W2 hW2)) ?_
   rintro ⟨A40,n42,c41⟩ hn43
   replace hn43 : n42 = y38.length:=hn43; subst hn43
   refine ox_y rfl (y_len (us:=[]) us_32 rfl) ?_
   refine ox_y rfl (y_move_int rfl) ?_
   refine ox_nil (ex_then (cx_block ?_))
   obtain ⟨u47,hl62,h⟩:=bind_some h
   refine cx_loop (fun (s:(Int × (List (Int × Bool)))) L tm => ∃ (tm0:Nat → Value),L = [cellsR b1 25 [.slice A0_0 p0.fNodes.length c0_0,.slice A0_1 p0.fClaims.length c0_1],mapV Try.prog 3 kI rngB hdV nilHd b2 h1_u6,rowsS 3 1 cI h1_u6 u6.2,mapV Try.prog 3 kI rngB kB false b29 s.2,rowR A40 c41 3 1 y38.length (encL cI y38)] ∧ tm = (upd (upd (upd (upd (upd (upd (upd (upd (upd (upd (upd (upd (upd (upd (upd (upd tm0 0 (.agg #[.slice A0_0 p0.fNodes.length c0_0,.slice A0_1 p0.fClaims.length c0_1])) 1 (.slice A1_0 p1.length c1_0)) 2 (.func (.func fid2) fst2.toArray caps2.toArray)) 3 (.pointer (some ⟨b1,0,none⟩))) 6 (.map none)) 7 (.map (some b2))) 22 (.slice A0_1 p0.fClaims.length c0_1)) 23 (.int .i64 (p0.fClaims.length:Int))) 24 (.int .i64 u6.1)) 12 (.map (some b29))) 55 (.slice A1_0 p1.length c1_0)) 56 (.int .i64 (p1.length:Int))) 57 (.int .i64 u33.1)) 65 (.slice A40 y38.length c41)) 66 (.int .i64 (y38.length:Int))) 67 (.int .i64 s.1))) (fun s e L tm => e = .exit 6 ∧ ∃ (tm0:Nat → Value),L = [cellsR b1 25 [.slice A0_0 p0.fNodes.length c0_0,.slice A0_1 p0.fClaims.length c0_1],mapV Try.prog 3 kI rngB hdV nilHd b2 h1_u6,rowsS 3 1 cI h1_u6 u6.2,mapV Try.prog 3 kI rngB kB false b29 s.2,rowR A40 c41 3 1 y38.length (encL cI y38)] ∧ tm = (upd (upd (upd (upd (upd (upd (upd (upd (upd (upd (upd (upd (upd (upd (upd (upd tm0 0 (.agg #[.slice A0_0 p0.fNodes.length c0_0,.slice A0_1 p0.fClaims.length c0_1])) 1 (.slice A1_0 p1.length c1_0)) 2 (.func (.func fid2) fst2.toArray caps2.toArray)) 3 (.pointer (some ⟨b1,0,none⟩))) 6 (.map none)) 7 (.map (some b2))) 22 (.slice A0_1 p0.fClaims.length c0_1)) 23 (.int .i64 (p0.fClaims.length:Int))) 24 (.int .i64 u6.1)) 12 (.map (some b29))) 55 (.slice A1_0 p1.length c1_0)) 56 (.int .i64 (p1.length:Int))) 57 (.int .i64 u33.1)) 65 (.slice A40 y38.length c41)) 66 (.int .i64 (y38.length:Int))) 67 (.int .i64 s.1))) hl62 ⟨_,rfl,(keep (keep (keep (keep (keep (keep (keep (keep (keep (keep (keep (keep (keep (keep (keep (keep rfl rfl) rfl) rfl) rfl) rfl) rfl) rfl) rfl) rfl) rfl) rfl) rfl) rfl) rfl) rfl) rfl)⟩ ?_ ?_
   ·rintro s46 L tm st ⟨tm0_s46,rfl,rfl⟩ h
    unfold recall_reach_l4 at h
    refine cx_seq (cx_region ?_)
    refine ox_y rfl (y_lss rfl rfl) ?_
    refine ox_nil (ex_then (cx_seq ?_))
    rcases ite_some h with ⟨hp48,h⟩ | ⟨hp48,h⟩
    ·refine cx_true (congrArg Value.bool hp48) ?_
     refine cx_skip (ex_then (cx_seq (cx_block (cx_seq (cx_region ?_)))))
     obtain ⟨hg49,h⟩:=guardO_some h
     refine ox_y rfl (y_indexR sl_32 (by decide) hg49.1 hg49.2 (RdL.row 4 rfl) (encL_len cI_len rfl) rfl rfl) ?_
     refine ox_y rfl (y_loadR1 (A:=A40) (j:=(Int.toNat s46.1 * 1)) (v:=.int .i64 (rdL y38 s46.1)) sc_3 (RdL.row 4 rfl) rfl (encL_get0 cI_len hg49.1 (lt_nat hg49.2 rfl) rfl)) ?_
     refine ox_y rfl (y_assign_int rfl) ?_
     refine ox_nil (ex_then (cx_seq (cx_region ?_)))
     refine ox_y rfl (y_fieldAddr fo_25_0 rfl) ?_
     refine ox_y rfl (y_load1 0 (v:=.slice A0_0 p0.fNodes.length c0_0) sc_22 rfl rfl rfl) ?_
     refine ox_y rfl (y_move_int rfl) ?_
     obtain ⟨hg50,h⟩:=guardO_some h
     refine ox_y rfl (y_indexR sl_22 (by decide) hg50.1 hg50.2 (RdL.arg hr0_0) (encL_len TNode_cells_len rfl) rfl rfl) ?_
     refine ox_y rfl (y_fieldAddrR (A:=A0_0) (j:=(Int.toNat (rdL y38 s46.1) * 3)) fo_41_0 rfl) ?_
     refine ox_y rfl (y_loadR1 (A:=A0_0) (j:=((Int.toNat (rdL y38 s46.1) * 3) + 0)) (v:=.int .i64 ((rdL p0.fNodes (rdL y38 s46.1)).fID)) sc_3 (RdL.arg hr0_0) rfl (encL_get TNode_cells_len hg50.1 (lt_nat hg50.2 rfl) rfl)) ?_
     refine ox_y rfl (y_assign_int rfl) ?_
     refine ox_nil (ex_then (cx_seq (cx_seq (cx_region ?_))))
     refine ox_y rfl (y_move_map rfl) ?_
     refine ox_y rfl (y_move_int rfl) ?_
     obtain ⟨hg51,h⟩:=guardO_some h
     refine ox_y rfl (y_lookupV (k:=(rdL p0.fNodes (rdL y38 s46.1)).fID) (MpL.own 3 rfl) ke_3 um_74 ze_4 rfl rfl hg51) ?_
     refine ox_y rfl (y_not rfl) ?_
     refine ox_nil (ex_then ?_)
     rcases ite_some h with ⟨hp52,h⟩ | ⟨hp52,h⟩
     ·refine cx_true (congrArg Value.bool hp52) ?_
      refine cx_exit ?_
      refine ex_then_exit ?_
      refine ex_block_here ?_
      refine ex_then (cx_region ?_)
      refine ox_y rfl (y_add rfl rfl) ?_
      refine ox_y rfl (y_move_int rfl) ?_
      refine ox_nil ?_
      obtain rfl:=Option.some.inj h
      exact ex_next ⟨_,rfl,(keep (keep (keep (keep (keep (keep (keep (keep (keep (keep (keep (keep (keep (keep (keep (keep rfl rfl) rfl) rfl) rfl) rfl) rfl) rfl) rfl) rfl) rfl) rfl) rfl) rfl) rfl) rfl) rfl)⟩
     ·refine cx_false (congrArg Value.bool hp52) ?_
      refine cx_skip (ex_then (cx_seq (cx_region ?_)))
      refine ox_y rfl (y_move_map rfl) ?_
      refine ox_y rfl (y_move_int rfl) ?_
      obtain ⟨hg53,h⟩:=guardO_some h
      refine ox_y rfl (y_lookupS (k:=(rdL p0.fNodes (rdL y38 s46.1)).fID) hk1_u6 (MpL.own 1 rfl) ke_3 um_107 ze_32 rfl rfl hg53) ?_
      refine ox_y rfl (y_len (us:=[]) us_32 rfl) ?_
      refine ox_y rfl (y_move_int rfl) ?_
      refine ox_nil (ex_then (cx_block ?_))
      obtain ⟨u57,hl61,h⟩:=bind_some h
      refine cx_loop (fun (s:(Int × (List (Int × Bool)))) L tm => ∃ (tm0:Nat → Value),L = [cellsR b1 25 [.slice A0_0 p0.fNodes.length c0_0,.slice A0_1 p0.fClaims.length c0_1],mapV Try.prog 3 kI rngB hdV nilHd b2 h1_u6,rowsS 3 1 cI h1_u6 u6.2,mapV Try.prog 3 kI rngB kB false b29 s.2,rowR A40 c41 3 1 y38.length (encL cI y38)] ∧ tm = (upd (upd (upd (upd (upd (upd (upd (upd (upd (upd (upd (upd (upd (upd (upd (upd (upd (upd (upd (upd (upd (upd (upd tm0 0 (.agg #[.slice A0_0 p0.fNodes.length c0_0,.slice A0_1 p0.fClaims.length c0_1])) 1 (.slice A1_0 p1.length c1_0)) 2 (.func (.func fid2) fst2.toArray caps2.toArray)) 3 (.pointer (some ⟨b1,0,none⟩))) 6 (.map none)) 7 (.map (some b2))) 22 (.slice A0_1 p0.fClaims.length c0_1)) 23 (.int .i64 (p0.fClaims.length:Int))) 24 (.int .i64 u6.1)) 12 (.map (some b29))) 55 (.slice A1_0 p1.length c1_0)) 56 (.int .i64 (p1.length:Int))) 57 (.int .i64 u33.1)) 65 (.slice A40 y38.length c41)) 66 (.int .i64 (y38.length:Int))) 67 (.int .i64 s46.1)) 68 (.bool (decide (s46.1 < (y38.length:Int))))) 16 (.int .i64 (rdL y38 s46.1))) 17 (.int .i64 ((rdL p0.fNodes (rdL y38 s46.1)).fID))) 80 (.bool (!(mgetV false s46.2 ((rdL p0.fNodes (rdL y38 s46.1)).fID))))) 83 (.slice ((mgetV nilHd h1_u6 ((rdL p0.fNodes (rdL y38 s46.1)).fID)).1) ((mgetV [] u6.2 ((rdL p0.fNodes (rdL y38 s46.1)).fID)).length) ((mgetV nilHd h1_u6 ((rdL p0.fNodes (rdL y38 s46.1)).fID)).2.2))) 84 (.int .i64 (((mgetV [] u6.2 ((rdL p0.fNodes (rdL y38 s46.1)).fID)).length : Nat) : Int))) 85 (.int .i64 s.1))) (fun s e L tm => e = .exit 8 ∧ ∃ (tm0:Nat → Value),L = [cellsR b1 25 [.slice A0_0 p0.fNodes.length c0_0,.slice A0_1 p0.fClaims.length c0_1],mapV Try.prog 3 kI rngB hdV nilHd b2 h1_u6,rowsS 3 1 cI h1_u6 u6.2,mapV Try.prog 3 kI rngB kB false b29 s.2,rowR A40 c41 3 1 y38.length (encL cI y38)] ∧ tm = (upd (upd (upd (upd (upd (upd (upd (upd (upd (upd (upd (upd (upd (upd (upd (upd (upd (upd (upd (upd (upd (upd (upd tm0 0 (.agg #[.slice A0_0 p0.fNodes.length c0_0,.slice A0_1 p0.fClaims.length c0_1])) 1 (.slice A1_0 p1.length c1_0)) 2 (.func (.func fid2) fst2.toArray caps2.toArray)) 3 (.pointer (some ⟨b1,0,none⟩))) 6 (.map none)) 7 (.map (some b2))) 22 (.slice A0_1 p0.fClaims.length c0_1)) 23 (.int .i64 (p0.fClaims.length:Int))) 24 (.int .i64 u6.1)) 12 (.map (some b29))) 55 (.slice A1_0 p1.length c1_0)) 56 (.int .i64 (p1.length:Int))) 57 (.int .i64 u33.1)) 65 (.slice A40 y38.length c41)) 66 (.int .i64 (y38.length:Int))) 67 (.int .i64 s46.1)) 68 (.bool (decide (s46.1 < (y38.length:Int))))) 16 (.int .i64 (rdL y38 s46.1))) 17 (.int .i64 ((rdL p0.fNodes (rdL y38 s46.1)).fID))) 80 (.bool (!(mgetV false s46.2 ((rdL p0.fNodes (rdL y38 s46.1)).fID))))) 83 (.slice ((mgetV nilHd h1_u6 ((rdL p0.fNodes (rdL y38 s46.1)).fID)).1) ((mgetV [] u6.2 ((rdL p0.fNodes (rdL y38 s46.1)).fID)).length) ((mgetV nilHd h1_u6 ((rdL p0.fNodes (rdL y38 s46.1)).fID)).2.2))) 84 (.int .i64 (((mgetV [] u6.2 ((rdL p0.fNodes (rdL y38 s46.1)).fID)).length : Nat) : Int))) 85 (.int .i64 s.1))) hl61 ⟨_,rfl,(keep (keep (keep (keep (keep (keep (keep (keep (keep (keep (keep (keep (keep (keep (keep (keep (keep (keep (keep (keep (keep (keep (keep rfl rfl) rfl) rfl) rfl) rfl) rfl) rfl) rfl) rfl) rfl) rfl) rfl) rfl) rfl) rfl) rfl) rfl) rfl) rfl) rfl) rfl) rfl) rfl)⟩ ?_ ?_
      ·rintro s56 L tm st ⟨tm0_s56,rfl,rfl⟩ h
       unfold recall_reach_l5 at h
       refine cx_seq (cx_region ?_)
       refine ox_y rfl (y_lss rfl rfl) ?_
       refine ox_nil (ex_then (cx_seq ?_))
       rcases ite_some h with ⟨hp58,h⟩ | ⟨hp58,h⟩
       ·refine cx_true (congrArg Value.bool hp58) ?_
        refine cx_skip (ex_then (cx_seq (cx_block (cx_seq (cx_region ?_)))))
        obtain ⟨hg59,h⟩:=guardO_some h
        refine ox_y rfl (y_indexR sl_32 (by decide) hg59.1 hg59.2 (RdL.rows hk1_u6 2 rfl ((rdL p0.fNodes (rdL y38 s46.1)).fID)) (encL_len cI_len rfl) rfl rfl) ?_
        refine ox_y rfl (y_loadR1 (A:=((mgetV nilHd h1_u6 ((rdL p0.fNodes (rdL y38 s46.1)).fID)).1)) (j:=(Int.toNat s56.1 * 1)) (v:=.int .i64 (rdL (mgetV [] u6.2 ((rdL p0.fNodes (rdL y38 s46.1)).fID)) s56.1)) sc_3 (RdL.rows hk1_u6 2 rfl ((rdL p0.fNodes (rdL y38 s46.1)).fID)) rfl (encL_get0 cI_len hg59.1 (lt_nat hg59.2 rfl) rfl)) ?_
        refine ox_y rfl (y_assign_int rfl) ?_
        refine ox_nil (ex_then (cx_region ?_))
        refine ox_y rfl (y_move_map rfl) ?_
        refine ox_y rfl (y_move_int rfl) ?_
        obtain ⟨hg60,h⟩:=guardO_some h
        refine ox_n rfl (y_updateV 3 (k:=(rdL (mgetV [] u6.2 ((rdL p0.fNodes (rdL y38 s46.1)).fID)) s56.1)) (v:=true) rfl ke_3 um_74 rfl rfl rfl hg60) ?_
        refine ox_nil ?_
        refine ex_block ?_
        refine ex_then (cx_region ?_)
        refine ox_y rfl (y_add rfl rfl) ?_
        refine ox_y rfl (y_move_int rfl) ?_
        refine ox_nil ?_
        obtain rfl:=Option.some.inj h
        exact ex_next ⟨_,rfl,(keep (keep (keep (keep (keep (keep (keep (keep (keep (keep (keep (keep (keep (keep (keep (keep (keep (keep (keep (keep (keep (keep (keep rfl rfl) rfl) rfl) rfl) rfl) rfl) rfl) rfl) rfl) rfl) rfl) rfl) rfl) rfl) rfl) rfl) rfl) rfl) rfl) rfl) rfl) rfl) rfl)⟩
       ·refine cx_false (congrArg Value.bool hp58) ?_
        refine cx_exit ?_
        refine ex_then_exit ?_
        obtain rfl:=Option.some.inj h
        exact ex_stop ⟨rfl,_,rfl,(keep (keep (keep (keep (keep (keep (keep (keep (keep (keep (keep (keep (keep (keep (keep (keep (keep (keep (keep (keep (keep (keep (keep rfl rfl) rfl) rfl) rfl) rfl) rfl) rfl) rfl) rfl) rfl) rfl) rfl) rfl) rfl) rfl) rfl) rfl) rfl) rfl) rfl) rfl) rfl) rfl)⟩
      ·intro e L tm hJ
       obtain ⟨rfl,tm0_u57,rfl,rfl⟩:=hJ
       refine ⟨(by intro hc; cases hc),?_⟩
       refine ex_block_here ?_
       refine ex_block ?_
       refine ex_then (cx_region ?_)
       refine ox_y rfl (y_add rfl rfl) ?_
       refine ox_y rfl (y_move_int rfl) ?_
       refine ox_nil ?_
       obtain rfl:=Option.some.inj h
       exact ex_next ⟨_,rfl,(keep (keep (keep (keep (keep (keep (keep (keep (keep (keep (keep (keep (keep (keep (keep (keep rfl rfl) rfl) rfl) rfl) rfl) rfl) rfl) rfl) rfl) rfl) rfl) rfl) rfl) rfl) rfl) rfl)⟩
    ·refine cx_false (congrArg Value.bool hp48) ?_
     refine cx_exit ?_
     refine ex_then_exit ?_
     obtain rfl:=Option.some.inj h
     exact ex_stop ⟨rfl,_,rfl,(keep (keep (keep (keep (keep (keep (keep (keep (keep (keep (keep (keep (keep (keep (keep (keep rfl rfl) rfl) rfl) rfl) rfl) rfl) rfl) rfl) rfl) rfl) rfl) rfl) rfl) rfl) rfl) rfl)⟩
   ·intro e L tm hJ
    obtain ⟨rfl,tm0_u47,rfl,rfl⟩:=hJ
    refine ⟨(by intro hc; cases hc),?_⟩
    refine ex_block_here ?_
    refine ex_then (cx_seq (cx_region ?_))
    refine ox_y rfl (y_move_map rfl) ?_
    refine ox_y rfl (y_assign_map rfl) ?_
    refine ox_nil (ex_then (cx_ret ?_))
    obtain rfl:=Option.some.inj h
    exact ex_res1 (.inl rfl) rfl (resV_tmp (v:=.map (some b29)) rfl) (fun W2 hW2 => ⟨b29,rfl,(hW2.pick 3 rfl)⟩)

theorem recall_fixed_has_ok (p0_c:(List Int)) (p1_link:Int) (p2_h:Int) (res:Bool) (h:recall_fixed_has p0_c p1_link p2_h = some res) (W:World) (A0_0:Option Addr) (n0_0 c0_0 : Nat) (hn0_0:n0_0 = p0_c.length) (hr0_0:Rd W A0_0 n0_0 c0_0 (encL cI p0_c)) :
  Calls Try.prog 78 [.slice A0_0 n0_0 c0_0,.int .i64 p1_link,.int .i64 p2_h].toArray W fun e W2 => e = .returned (.bool res) ∧ Ext W W2 []:=by
 subst hn0_0
 unfold recall_fixed_has at h
 refine calls_enter (m:=13) Try.func78 rfl rfl (Nat.le_of_ble_eq_true rfl) ?_
 refine cx_seq (cx_region ?_)
 refine ox_y rfl (y_assign_bool rfl) ?_
 refine ox_nil (ex_then (cx_seq (cx_region ?_)))
 refine ox_y rfl (y_move_slice rfl) ?_
 refine ox_y rfl (y_move_int rfl) ?_
 obtain ⟨hg1,h⟩:=guardO_some h
 refine ox_y rfl (y_indexR sl_108 (by decide) hg1.1 hg1.2 (RdL.arg hr0_0) (encL_len cI_len rfl) rfl rfl) ?_
 refine ox_y rfl (y_loadR1 (A:=A0_0) (j:=(Int.toNat p1_link * 1)) (v:=.int .i64 (rdL p0_c p1_link)) sc_3 (RdL.arg hr0_0) rfl (encL_get0 cI_len hg1.1 (lt_nat hg1.2 rfl) rfl)) ?_
 refine ox_y rfl (y_move_int rfl) ?_
 refine ox_y rfl (y_eql rfl rfl) ?_
 refine ox_y rfl (y_assign_bool rfl) ?_
 refine ox_nil (ex_then (cx_ret ?_))
 obtain rfl:=Option.some.inj h
 exact ex_res1 (.inl rfl) rfl (resV_tmp (v:=.bool ((rdL p0_c p1_link) == p2_h)) rfl) (fun W2 hW2 => ⟨rfl,hW2.none⟩)

theorem recall_inCase_ok (p0_c:(List Int)) (res:Unit) (h:recall_inCase p0_c = some res) (W:World) (A0_0:Option Addr) (n0_0 c0_0 : Nat) (hn0_0:n0_0 = p0_c.length) (hr0_0:Rd W A0_0 n0_0 c0_0 (encL cI p0_c)) :
  Calls Try.prog 49 [.slice A0_0 n0_0 c0_0].toArray W fun e W2 => e = .returned (.func (.func 78) #[.slice A0_0 p0_c.length c0_0] #[]) ∧ Ext W W2 []:=by
 subst hn0_0
 unfold recall_inCase at h
 refine calls_enter (m:=5) Try.func49 rfl rfl (Nat.le_of_ble_eq_true rfl) ?_
 refine cx_seq (cx_region ?_)
 refine ox_y rfl (y_assign_nilFunc rfl) ?_
 refine ox_nil (ex_then (cx_seq (cx_region ?_)))
 refine ox_y rfl (y_move_slice rfl) ?_
 refine ox_y rfl (y_makeFuncF [.slice A0_0 p0_c.length c0_0] [] rfl rfl) ?_
 refine ox_y rfl (y_assign_func rfl) ?_
 refine ox_nil (ex_then (cx_ret ?_))
 obtain rfl:=Option.some.inj h
 exact ex_res1 (.inl rfl) rfl (resV_tmp (v:=.func (.func 78) #[.slice A0_0 p0_c.length c0_0] #[]) rfl) (fun W2 hW2 => ⟨rfl,hW2.none⟩)

theorem recall_possible_ok (p0_l:TLineage) (p1_from:(List Int)) (res:(List (Int × Bool))) (h:recall_possible p0_l p1_from = some res) (W:World) (A0_0:Option Addr) (n0_0 c0_0 : Nat) (hn0_0:n0_0 = p0_l.fNodes.length) (hr0_0:Rd W A0_0 n0_0 c0_0 (encL TNode_cells p0_l.fNodes)) (A0_1:Option Addr) (n0_1 c0_1 : Nat) (ys0_1:List (Hd × TClaim)) (hn0_1:n0_1 = p0_l.fClaims.length) (hr0_1:Rd W A0_1 n0_1 c0_1 (encL TClaim_cells2 ys0_1)) (hN0_1:NestW W (fun z : TClaim => z.fOptions) THop_cells ys0_1 p0_l.fClaims) (A1_0:Option Addr) (n1_0 c1_0 : Nat) (hn1_0:n1_0 = p1_from.length) (hr1_0:Rd W A1_0 n1_0 c1_0 (encL cI p1_from)) :
  Calls Try.prog 46 [.agg #[.slice A0_0 n0_0 c0_0,.slice A0_1 n0_1 c0_1],.slice A1_0 n1_0 c1_0].toArray W fun e W2 => ∃ x : Nat,e = .returned (.map (some x)) ∧ Ext W W2 [mapV Try.prog 3 kI rngB kB false x res]:=by
 subst hn0_0
 subst hn0_1
 subst hn1_0
 unfold recall_possible at h
 refine calls_enterM (m:=25) Try.func46 rfl rfl (Nat.le_of_ble_eq_true rfl) ?_
 refine cx_seq (cx_region ?_)
 refine ox_box [.slice A0_0 p0_l.fNodes.length c0_0,.slice A0_1 p0_l.fClaims.length c0_1] rfl rfl rfl (fun b1 => ?_)
 refine ox_box [.slice A1_0 p1_from.length c1_0] rfl rfl rfl (fun b2 => ?_)
 refine ox_y rfl (y_assign_map rfl) ?_
 refine ox_nil (ex_then (cx_seq (cx_region ?_)))
 refine ox_makeMapV 3 kI rngB kB false rfl (fun b3 => ?_)
 refine ox_alloc ze_74 rfl (fun b4 => ?_)
 refine ox_n rfl (y_store1 3 (v:=.map (some b3)) sz_74 rfl (Nat.lt_of_lt_of_le (Nat.lt_succ_self _) (Nat.le_of_ble_eq_true rfl)) rfl rfl rfl) ?_
 refine ox_nil (ex_then (cx_seq (cx_seq (cx_region ?_))))
 refine ox_y rfl (y_loadN 0 [.slice A0_0 p0_l.fNodes.length c0_0,.slice A0_1 p0_l.fClaims.length c0_1] ag_25 rfl rfl rfl) ?_
 obtain ⟨y5,hy6,h⟩:=bind_some h
 refine ox_call1 [.agg #[.slice A0_0 p0_l.fNodes.length c0_0,.slice A0_1 p0_l.fClaims.length c0_1]] _ _ rfl go_33 rfl (fun W2 hW2 => recall_cases_ok p0_l y5 hy6 W2 A0_0 p0_l.fNodes.length c0_0 rfl ((RdL.arg hr0_0) W2 hW2) A0_1 p0_l.fClaims.length c0_1 ys0_1 rfl ((RdL.arg hr0_1) W2 hW2) (NestL.at (NestL.arg hN0_1) W2 hW2)) ?_
 rintro b7
 refine ox_nil (ex_then (cx_block ?_))
 obtain ⟨hok44,h⟩:=guardO_some h
 obtain ⟨u20,hl43,h⟩:=bind_some h
 refine cx_rangeC (caps:=[.pointer (some ⟨b7,0,none⟩)]) (fun (s:(List (Int × Bool))) L => L = [cellsR b1 25 [.slice A0_0 p0_l.fNodes.length c0_0,.slice A0_1 p0_l.fClaims.length c0_1],cellsR b2 32 [.slice A1_0 p1_from.length c1_0],mapV Try.prog 3 kI rngB kB false b3 s,cellsR b4 74 [.map (some b3)],cellsR b7 25 [.slice A0_0 p0_l.fNodes.length c0_0,.slice A0_1 p0_l.fClaims.length c0_1]]) (fun (_:Unit) _ _ => False) hl43 rfl go_70 (recall_cases_1_seq p0_l hok44 b7 A0_0 p0_l.fNodes.length c0_0 A0_1 p0_l.fClaims.length c0_1 rfl ys0_1 hN0_1.p) (fun W2 s L hI hW2 => by obtain rfl:=hI; exact ⟨(RdL.cells 4 rfl) W2 hW2,(RdL.arg hr0_1) W2 hW2⟩) rfl (fun _ _ _ h => h.elim) ?_ ?_ ?_
 ·rintro D8 l9 rec10 A12 c13 s18 x19 L st hrec11 rfl h
  unfold recall_possible_r1 at h
  refine cx_region ?_
  try dsimp only [lna,lca,lsz,lss]
  refine ox_y rfl (y_assign_slice rfl) ?_
  refine ox_nil ?_
  refine ex_begin 6 rfl hrec11 ?_
  refine cx_block (cx_seq ?_)
  refine cx_draws 4 mixed (by kernel_rfl) (by kernel_rfl) ?_
  refine qx_y rfl (y_loadN 0 [.slice A0_0 p0_l.fNodes.length c0_0,.slice A0_1 p0_l.fClaims.length c0_1] ag_25 rfl rfl rfl) ?_
  refine qx_y rfl (y_load1 1 (v:=.slice A1_0 p1_from.length c1_0) sc_32 rfl rfl rfl) ?_
  refine qx_y rfl (y_move_slice rfl) ?_
  obtain ⟨y21,hy22,h⟩:=bind_some h
  refine qx_y rfl (y_call [.slice A12 x19.length c13] go_49 rfl (fun W2 hW2 => recall_inCase_ok x19 y21 hy22 W2 A12 x19.length c13 rfl ((RdL.row 7 rfl) W2 hW2)) rfl) ?_
  refine qx_nil ?_
  obtain ⟨y25,hy26,h⟩:=bind_some h
  refine ox_call1 [.agg #[.slice A0_0 p0_l.fNodes.length c0_0,.slice A0_1 p0_l.fClaims.length c0_1],.slice A1_0 p1_from.length c1_0,.func (.func 78) #[.slice A12 x19.length c13] #[]] _ _ rfl go_48 rfl (fun W2 hW2 => recall_reach_ok p0_l p1_from (fun x23 x24 => recall_fixed_has x19 x23 x24) y25 hy26 W2 A0_0 p0_l.fNodes.length c0_0 rfl ((RdL.arg hr0_0) W2 hW2) A0_1 p0_l.fClaims.length c0_1 ys0_1 rfl ((RdL.arg hr0_1) W2 hW2) (NestL.at (NestL.arg hN0_1) W2 hW2) A1_0 p1_from.length c1_0 rfl ((RdL.arg hr1_0) W2 hW2) 78 [.slice A12 x19.length c13] [] go_78 (fun W3 hb x0 x1 y hxy => recall_fixed_has_ok x19 x0 x1  y hxy W3 A12 x19.length c13 rfl (((RdL.row 7 rfl) W2 hW2).later hb))) ?_
  rintro b27
  try dsimp only [lna,lca,lsz,lss]
  refine ox_rangeV 8 rfl ke_3 um_74 rfl rfl (fun b28 k29 hk30 => ?_)
  refine ox_nil (ex_then ?_)
  obtain ⟨hg42,h⟩:=guardO_some h
  refine cx_block ?_
  refine cx_loopM (fun (s40:Nat × (Int → Bool) × (List (Int × Bool))) L tm => UnionI rngB false true y25 s18 s40 ∧ ∃ (tm0:Nat → Value),L = [cellsR b1 25 [.slice A0_0 p0_l.fNodes.length c0_0,.slice A0_1 p0_l.fClaims.length c0_1],cellsR b2 32 [.slice A1_0 p1_from.length c1_0],mapV Try.prog 3 kI rngB kB false b3 s40.2.2,cellsR b4 74 [.map (some b3)],cellsR b7 25 [.slice A0_0 p0_l.fNodes.length c0_0,.slice A0_1 p0_l.fClaims.length c0_1],dfR D8,lpR l9 { rec10 with state:=.busy },rowR A12 c13 3 1 x19.length (encL cI x19),rngV Try.prog 3 kI rngB kB false b27 b28 y25 s40.2.1 s40.1 none] ∧ tm = (upd (upd (upd (upd (upd (upd (upd (upd (upd tm0 0 (.agg #[.slice A0_0 p0_l.fNodes.length c0_0,.slice A0_1 p0_l.fClaims.length c0_1])) 1 (.slice A1_0 p1_from.length c1_0)) 2 (.pointer (some ⟨b1,0,none⟩))) 3 (.pointer (some ⟨b2,0,none⟩))) 4 (.map none)) 5 (.pointer (some ⟨b4,0,none⟩))) 10 (.func (.func 70) #[] #[.pointer (some ⟨b7,0,none⟩)])) 6 (.slice A12 x19.length c13)) 17 (.pointer (some ⟨b28,0,none⟩)))) (fun s => s.1) (k29,(fun y => mhasV y25 y),s18) ⟨(UnionI.start hk30),_,rfl,(keep (keep (keep (keep (keep (keep (keep (keep (keep rfl rfl) rfl) rfl) rfl) rfl) rfl) rfl) rfl) rfl)⟩ ?_
  rintro s40 L tm ⟨hI41,tm0,rfl,rfl⟩
  refine cx_seq (cx_region ?_)
  refine ox_nextV 8 rfl ke_3 rfl rfl (fun hno37 => ?_) (fun y31 k32 hy33 hly34 hM35 hk36 => ?_)
  ·refine ox_y rfl (y_extract (vs:=[.bool false]) (v:=.bool false) rfl rfl) ?_
   refine ox_nil (ex_then (cx_seq ?_))
   refine cx_false rfl ?_
   refine cx_exit ?_
   refine ex_then_exit ?_
   refine ex_outM (by intro h; cases h) ?_
   refine ex_mapExt 2 (unionV true y25 s18) ke_3 rfl (hI41.done hno37) ?_
   refine ex_rngEnd 8 rfl ?_
   try dsimp only [lsz,lss]
   refine ex_block_here ?_
   refine ex_block ?_
   refine ex_take 8 ?_
   obtain rfl:=Option.some.inj h
   exact ex_cnext [cellsR b1 25 [.slice A0_0 p0_l.fNodes.length c0_0,.slice A0_1 p0_l.fClaims.length c0_1],cellsR b2 32 [.slice A1_0 p1_from.length c1_0],mapV Try.prog 3 kI rngB kB false b3 (unionV true y25 s18),cellsR b4 74 [.map (some b3)],cellsR b7 25 [.slice A0_0 p0_l.fNodes.length c0_0,.slice A0_1 p0_l.fClaims.length c0_1]] rfl
  ·refine ox_y rfl (y_extract (vs:=[.bool true,.int .i64 y31,.bool (mgetV false y25 y31)]) (v:=.bool true) rfl rfl) ?_
   refine ox_nil (ex_then (cx_seq ?_))
   refine cx_true rfl ?_
   refine cx_skip (ex_then (cx_block (cx_seq (cx_region ?_))))
   refine ox_y rfl (y_entryV 8 rfl rfl) ?_
   refine ox_y rfl (y_extract (vs:=[.int .i64 y31,.bool (mgetV false y25 y31)]) (v:=.int .i64 y31) rfl rfl) ?_
   refine ox_y rfl (y_assign_int rfl) ?_
   refine ox_nil (ex_then (cx_region ?_))
   refine ox_y rfl (y_load1 3 (v:=.map (some b3)) sc_74 rfl rfl rfl) ?_
   refine ox_y rfl (y_move_int rfl) ?_
   refine ox_n rfl (y_updateV 2 (k:=y31) (v:=true) rfl ke_3 um_74 rfl rfl rfl ⟨hy33,hI41.room hk36 hg42⟩) ?_
   refine ox_nil ?_
   refine ex_block ?_
   refine ex_rngNone 8 rfl ?_
   exact ex_nextM (k32,(fun q => s40.2.1 q && !decide (q = y31)),((y31,true) :: s40.2.2)) ⟨hI41.step hy33 hM35 hk36,_,rfl,(keep (keep (keep (keep (keep (keep (keep (keep (keep rfl rfl) rfl) rfl) rfl) rfl) rfl) rfl) rfl) rfl)⟩ hk36
 ·rintro D8 u45 L hst rfl
  subst hst
  dsimp only at h
  refine ex_block ?_
  refine ex_then (cx_seq (cx_region ?_))
  try dsimp only [lna,lca,lsz,lss]
  refine ox_y rfl (y_load1 3 (v:=.map (some b3)) sc_74 rfl rfl rfl) ?_
  refine ox_y rfl (y_assign_map rfl) ?_
  refine ox_nil (ex_then (cx_ret ?_))
  refine ex_M1 5 rfl (.inl rfl) ?_
  obtain rfl:=Option.some.inj h
  exact ex_res1 (.inl rfl) rfl (resV_tmp (v:=.map (some b3)) rfl) (fun W2 hW2 => ⟨b3,rfl,(hW2.pick 2 rfl)⟩)
 ·intro D8 t e L _ hh
  exact hh.elim

theorem recall_sure_ok (p0_l:TLineage) (p1_from:(List Int)) (res:(List (Int × Bool))) (h:recall_sure p0_l p1_from = some res) (W:World) (A0_0:Option Addr) (n0_0 c0_0 : Nat) (hn0_0:n0_0 = p0_l.fNodes.length) (hr0_0:Rd W A0_0 n0_0 c0_0 (encL TNode_cells p0_l.fNodes)) (A0_1:Option Addr) (n0_1 c0_1 : Nat) (ys0_1:List (Hd × TClaim)) (hn0_1:n0_1 = p0_l.fClaims.length) (hr0_1:Rd W A0_1 n0_1 c0_1 (encL TClaim_cells2 ys0_1)) (hN0_1:NestW W (fun z : TClaim => z.fOptions) THop_cells ys0_1 p0_l.fClaims) (A1_0:Option Addr) (n1_0 c1_0 : Nat) (hn1_0:n1_0 = p1_from.length) (hr1_0:Rd W A1_0 n1_0 c1_0 (encL cI p1_from)) :
  Calls Try.prog 45 [.agg #[.slice A0_0 n0_0 c0_0,.slice A0_1 n0_1 c0_1],.slice A1_0 n1_0 c1_0].toArray W fun e W2 => ∃ x : Nat,e = .returned (.map (some x)) ∧ Ext W W2 [mapV Try.prog 3 kI rngB kB false x res]:=by
 subst hn0_0
 subst hn0_1
 subst hn1_0
 unfold recall_sure at h
 refine calls_enterM (m:=33) Try.func45 rfl rfl (Nat.le_of_ble_eq_true rfl) ?_
 refine cx_seq (cx_region ?_)
 refine ox_box [.slice A0_0 p0_l.fNodes.length c0_0,.slice A0_1 p0_l.fClaims.length c0_1] rfl rfl rfl (fun b1 => ?_)
 refine ox_box [.slice A1_0 p1_from.length c1_0] rfl rfl rfl (fun b2 => ?_)
 refine ox_y rfl (y_assign_map rfl) ?_
 refine ox_nil (ex_then (cx_seq (cx_region ?_)))
 refine ox_y rfl (y_loadN 0 [.slice A0_0 p0_l.fNodes.length c0_0,.slice A0_1 p0_l.fClaims.length c0_1] ag_25 rfl rfl rfl) ?_
 refine ox_y rfl (y_load1 1 (v:=.slice A1_0 p1_from.length c1_0) sc_32 rfl rfl rfl) ?_
 obtain ⟨y3,hy4,h⟩:=bind_some h
 refine ox_call1 [.agg #[.slice A0_0 p0_l.fNodes.length c0_0,.slice A0_1 p0_l.fClaims.length c0_1],.slice A1_0 p1_from.length c1_0] _ _ rfl go_46 rfl (fun W2 hW2 => recall_possible_ok p0_l p1_from y3 hy4 W2 A0_0 p0_l.fNodes.length c0_0 rfl ((RdL.arg hr0_0) W2 hW2) A0_1 p0_l.fClaims.length c0_1 ys0_1 rfl ((RdL.arg hr0_1) W2 hW2) (NestL.at (NestL.arg hN0_1) W2 hW2) A1_0 p1_from.length c1_0 rfl ((RdL.arg hr1_0) W2 hW2)) ?_
 rintro b5
 refine ox_alloc ze_74 rfl (fun b6 => ?_)
 refine ox_n rfl (y_store1 3 (v:=.map (some b5)) sz_74 rfl (Nat.lt_of_lt_of_le (Nat.lt_succ_self _) (Nat.le_of_ble_eq_true rfl)) rfl rfl rfl) ?_
 refine ox_nil (ex_then (cx_seq (cx_seq (cx_region ?_))))
 refine ox_y rfl (y_loadN 0 [.slice A0_0 p0_l.fNodes.length c0_0,.slice A0_1 p0_l.fClaims.length c0_1] ag_25 rfl rfl rfl) ?_
 obtain ⟨y7,hy8,h⟩:=bind_some h
 refine ox_call1 [.agg #[.slice A0_0 p0_l.fNodes.length c0_0,.slice A0_1 p0_l.fClaims.length c0_1]] _ _ rfl go_33 rfl (fun W2 hW2 => recall_cases_ok p0_l y7 hy8 W2 A0_0 p0_l.fNodes.length c0_0 rfl ((RdL.arg hr0_0) W2 hW2) A0_1 p0_l.fClaims.length c0_1 ys0_1 rfl ((RdL.arg hr0_1) W2 hW2) (NestL.at (NestL.arg hN0_1) W2 hW2)) ?_
 rintro b9
 refine ox_nil (ex_then (cx_block ?_))
 obtain ⟨hok47,h⟩:=guardO_some h
 obtain ⟨u22,hl46,h⟩:=bind_some h
 refine cx_rangeC (caps:=[.pointer (some ⟨b9,0,none⟩)]) (fun (s:(List (Int × Bool))) L => L = [cellsR b1 25 [.slice A0_0 p0_l.fNodes.length c0_0,.slice A0_1 p0_l.fClaims.length c0_1],cellsR b2 32 [.slice A1_0 p1_from.length c1_0],mapV Try.prog 3 kI rngB kB false b5 s,cellsR b6 74 [.map (some b5)],cellsR b9 25 [.slice A0_0 p0_l.fNodes.length c0_0,.slice A0_1 p0_l.fClaims.length c0_1]]) (fun (_:Unit) _ _ => False) hl46 rfl go_70 (recall_cases_1_seq p0_l hok47 b9 A0_0 p0_l.fNodes.length c0_0 A0_1 p0_l.fClaims.length c0_1 rfl ys0_1 hN0_1.p) (fun W2 s L hI hW2 => by obtain rfl:=hI; exact ⟨(RdL.cells 4 rfl) W2 hW2,(RdL.arg hr0_1) W2 hW2⟩) rfl (fun _ _ _ h => h.elim) ?_ ?_ ?_
 ·rintro D10 l11 rec12 A14 c15 s20 x21 L st hrec13 rfl h
  unfold recall_sure_r1 at h
  refine cx_region ?_
  try dsimp only [lna,lca,lsz,lss]
  refine ox_y rfl (y_assign_slice rfl) ?_
  refine ox_nil ?_
  refine ex_begin 6 rfl hrec13 ?_
  refine cx_block (cx_seq ?_)
  refine cx_draws 4 mixed (by kernel_rfl) (by kernel_rfl) ?_
  refine qx_y rfl (y_loadN 0 [.slice A0_0 p0_l.fNodes.length c0_0,.slice A0_1 p0_l.fClaims.length c0_1] ag_25 rfl rfl rfl) ?_
  refine qx_y rfl (y_load1 1 (v:=.slice A1_0 p1_from.length c1_0) sc_32 rfl rfl rfl) ?_
  refine qx_y rfl (y_move_slice rfl) ?_
  obtain ⟨y23,hy24,h⟩:=bind_some h
  refine qx_y rfl (y_call [.slice A14 x21.length c15] go_49 rfl (fun W2 hW2 => recall_inCase_ok x21 y23 hy24 W2 A14 x21.length c15 rfl ((RdL.row 7 rfl) W2 hW2)) rfl) ?_
  refine qx_nil ?_
  obtain ⟨y27,hy28,h⟩:=bind_some h
  refine ox_call1 [.agg #[.slice A0_0 p0_l.fNodes.length c0_0,.slice A0_1 p0_l.fClaims.length c0_1],.slice A1_0 p1_from.length c1_0,.func (.func 78) #[.slice A14 x21.length c15] #[]] _ _ rfl go_48 rfl (fun W2 hW2 => recall_reach_ok p0_l p1_from (fun x25 x26 => recall_fixed_has x21 x25 x26) y27 hy28 W2 A0_0 p0_l.fNodes.length c0_0 rfl ((RdL.arg hr0_0) W2 hW2) A0_1 p0_l.fClaims.length c0_1 ys0_1 rfl ((RdL.arg hr0_1) W2 hW2) (NestL.at (NestL.arg hN0_1) W2 hW2) A1_0 p1_from.length c1_0 rfl ((RdL.arg hr1_0) W2 hW2) 78 [.slice A14 x21.length c15] [] go_78 (fun W3 hb x0 x1 y hxy => recall_fixed_has_ok x21 x0 x1  y hxy W3 A14 x21.length c15 rfl (((RdL.row 7 rfl) W2 hW2).later hb))) ?_
  rintro b29
  try dsimp only [lna,lca,lsz,lss]
  refine ox_y rfl (y_assign_map rfl) ?_
  refine ox_nil (ex_then (cx_seq (cx_region ?_)))
  refine ox_y rfl (y_load1 3 (v:=.map (some b5)) sc_74 rfl rfl rfl) ?_
  refine ox_rangeV 2 rfl ke_3 um_74 rfl rfl (fun b30 k31 hk32 => ?_)
  refine ox_nil (ex_then (cx_block ?_))
  refine cx_loopM (fun (s42:Nat × (Int → Bool) × (List (Int × Bool))) L tm => DropI rngB false (fun y33 => (!(mgetV false y27 y33))) s20 s42 ∧ ∃ (tm0:Nat → Value),L = [cellsR b1 25 [.slice A0_0 p0_l.fNodes.length c0_0,.slice A0_1 p0_l.fClaims.length c0_1],cellsR b2 32 [.slice A1_0 p1_from.length c1_0],rngV Try.prog 3 kI rngB kB false b5 b30 s42.2.2 s42.2.1 s42.1 none,cellsR b6 74 [.map (some b5)],cellsR b9 25 [.slice A0_0 p0_l.fNodes.length c0_0,.slice A0_1 p0_l.fClaims.length c0_1],dfR D10,lpR l11 { rec12 with state:=.busy },rowR A14 c15 3 1 x21.length (encL cI x21),mapV Try.prog 3 kI rngB kB false b29 y27] ∧ tm = (upd (upd (upd (upd (upd (upd (upd (upd (upd (upd tm0 0 (.agg #[.slice A0_0 p0_l.fNodes.length c0_0,.slice A0_1 p0_l.fClaims.length c0_1])) 1 (.slice A1_0 p1_from.length c1_0)) 2 (.pointer (some ⟨b1,0,none⟩))) 3 (.pointer (some ⟨b2,0,none⟩))) 4 (.map none)) 5 (.pointer (some ⟨b6,0,none⟩))) 13 (.func (.func 70) #[] #[.pointer (some ⟨b9,0,none⟩)])) 6 (.slice A14 x21.length c15)) 7 (.map (some b29))) 21 (.pointer (some ⟨b30,0,none⟩)))) (fun s => s.1) (k31,(fun y => mhasV s20 y),s20) ⟨DropI.start,_,rfl,(keep (keep (keep (keep (keep (keep (keep (keep (keep (keep rfl rfl) rfl) rfl) rfl) rfl) rfl) rfl) rfl) rfl) rfl)⟩ ?_
  rintro s42 L tm ⟨hI43,tm0,rfl,rfl⟩
  refine cx_seq (cx_region ?_)
  refine ox_nextV 2 rfl ke_3 rfl rfl (fun hno39 => ?_) (fun y33 k34 hy35 hly36 hM37 hk38 => ?_)
  ·refine ox_y rfl (y_extract (vs:=[.bool false]) (v:=.bool false) rfl rfl) ?_
   refine ox_nil (ex_then (cx_seq ?_))
   refine cx_false rfl ?_
   refine cx_exit ?_
   refine ex_then_exit ?_
   refine ex_outM (by intro h; cases h) ?_
   refine ex_rngEnd 2 rfl ?_
   refine ex_mapExt 2 (s20.filter (fun p => !(fun y33 => (!(mgetV false y27 y33))) p.1)) ke_3 rfl (hI43.done hno39) ?_
   try dsimp only [lsz,lss]
   refine ex_block_here ?_
   refine ex_block ?_
   refine ex_take 8 ?_
   obtain rfl:=Option.some.inj h
   exact ex_cnext [cellsR b1 25 [.slice A0_0 p0_l.fNodes.length c0_0,.slice A0_1 p0_l.fClaims.length c0_1],cellsR b2 32 [.slice A1_0 p1_from.length c1_0],mapV Try.prog 3 kI rngB kB false b5 (s20.filter (fun p => !(fun y33 => (!(mgetV false y27 y33))) p.1)),cellsR b6 74 [.map (some b5)],cellsR b9 25 [.slice A0_0 p0_l.fNodes.length c0_0,.slice A0_1 p0_l.fClaims.length c0_1]] rfl
  ·refine ox_y rfl (y_extract (vs:=[.bool true,.int .i64 y33,.bool (mgetV false s42.2.2 y33)]) (v:=.bool true) rfl rfl) ?_
   refine ox_nil (ex_then (cx_seq ?_))
   refine cx_true rfl ?_
   refine cx_skip (ex_then (cx_block (cx_seq (cx_region ?_))))
   refine ox_y rfl (y_entryV 2 rfl rfl) ?_
   refine ox_y rfl (y_extract (vs:=[.int .i64 y33,.bool (mgetV false s42.2.2 y33)]) (v:=.int .i64 y33) rfl rfl) ?_
   refine ox_y rfl (y_assign_int rfl) ?_
   refine ox_nil (ex_then (cx_seq (cx_region ?_)))
   refine ox_y rfl (y_move_map rfl) ?_
   refine ox_y rfl (y_move_int rfl) ?_
   refine ox_y rfl (y_lookupV (k:=y33) (MpL.own 8 rfl) ke_3 um_74 ze_4 rfl rfl hy35) ?_
   refine ox_y rfl (y_not rfl) ?_
   refine ox_nil (ex_then ?_)
   rcases bool_cases (!(mgetV false y27 y33)) with hp45 | hp45
   ·refine cx_true (congrArg Value.bool hp45) ?_
    refine cx_region ?_
    refine ox_y rfl (y_load1 3 (v:=.map (some b5)) sc_74 rfl rfl rfl) ?_
    refine ox_y rfl (y_move_int rfl) ?_
    refine ox_deleteR 2 (k:=y33) rfl ke_3 um_74 rfl rfl hy35 (by simp) rfl (fun c240 hc241 => ?_)
    refine ox_nil ?_
    refine ex_block ?_
    refine ex_rngNone 2 rfl ?_
    exact ex_nextM (c240,(fun q => s42.2.1 q && !decide (q = y33)),(mdelV s42.2.2 y33)) ⟨hI43.del hp45 hM37,_,rfl,(keep (keep (keep (keep (keep (keep (keep (keep (keep (keep rfl rfl) rfl) rfl) rfl) rfl) rfl) rfl) rfl) rfl) rfl)⟩ (Nat.lt_of_le_of_lt hc241 hk38)
   ·refine cx_false (congrArg Value.bool hp45) ?_
    refine cx_skip ?_
    refine ex_block ?_
    refine ex_rngNone 2 rfl ?_
    exact ex_nextM (k34,(fun q => s42.2.1 q && !decide (q = y33)),s42.2.2) ⟨hI43.keep hp45,_,rfl,(keep (keep (keep (keep (keep (keep (keep (keep (keep (keep rfl rfl) rfl) rfl) rfl) rfl) rfl) rfl) rfl) rfl) rfl)⟩ hk38
 ·rintro D10 u48 L hst rfl
  subst hst
  dsimp only at h
  refine ex_block ?_
  refine ex_then (cx_seq (cx_region ?_))
  try dsimp only [lna,lca,lsz,lss]
  refine ox_y rfl (y_load1 3 (v:=.map (some b5)) sc_74 rfl rfl rfl) ?_
  refine ox_y rfl (y_assign_map rfl) ?_
  refine ox_nil (ex_then (cx_ret ?_))
  refine ex_M1 5 rfl (.inl rfl) ?_
  obtain rfl:=Option.some.inj h
  exact ex_res1 (.inl rfl) rfl (resV_tmp (v:=.map (some b5)) rfl) (fun W2 hW2 => ⟨b5,rfl,(hW2.pick 2 rfl)⟩)
 ·intro D10 t e L _ hh
  exact hh.elim

theorem recall_Surely_ok (p0_l:TLineage) (p1_from:(List Int)) (res:((List Int) × Int)) (h:recall_Surely p0_l p1_from = some res) (W:World) (A0_0:Option Addr) (n0_0 c0_0 : Nat) (hn0_0:n0_0 = p0_l.fNodes.length) (hr0_0:Rd W A0_0 n0_0 c0_0 (encL TNode_cells p0_l.fNodes)) (A0_1:Option Addr) (n0_1 c0_1 : Nat) (ys0_1:List (Hd × TClaim)) (hn0_1:n0_1 = p0_l.fClaims.length) (hr0_1:Rd W A0_1 n0_1 c0_1 (encL TClaim_cells2 ys0_1)) (hN0_1:NestW W (fun z : TClaim => z.fOptions) THop_cells ys0_1 p0_l.fClaims) (A1_0:Option Addr) (n1_0 c1_0 : Nat) (hn1_0:n1_0 = p1_from.length) (hr1_0:Rd W A1_0 n1_0 c1_0 (encL cI p1_from)) :
  Calls Try.prog 16 [.agg #[.slice A0_0 n0_0 c0_0,.slice A0_1 n0_1 c0_1],.slice A1_0 n1_0 c1_0].toArray W fun e W2 => ∃ x : Option Addr × Nat × Nat,x.2.1 = res.1.length ∧ e = .returned (.tuple #[.slice x.1 x.2.1 x.2.2,.int .i64 res.2]) ∧ Ext W W2 [rowR x.1 x.2.2 3 1 x.2.1 (encL cI res.1)]:=by
 subst hn0_0
 subst hn0_1
 subst hn1_0
 unfold recall_Surely at h
 refine calls_enter (m:=17) Try.func16 rfl rfl (Nat.le_of_ble_eq_true rfl) ?_
 refine cx_seq (cx_region ?_)
 refine ox_box [.slice A0_0 p0_l.fNodes.length c0_0,.slice A0_1 p0_l.fClaims.length c0_1] rfl rfl rfl (fun b1 => ?_)
 refine ox_y rfl (y_assign_slice rfl) ?_
 refine ox_y rfl (y_assign_int rfl) ?_
 refine ox_nil (ex_then (cx_seq (cx_seq (cx_region ?_))))
 refine ox_y rfl (y_loadN 0 [.slice A0_0 p0_l.fNodes.length c0_0,.slice A0_1 p0_l.fClaims.length c0_1] ag_25 rfl rfl rfl) ?_
 refine ox_y rfl (y_move_slice rfl) ?_
 obtain ⟨y2,hy3,h⟩:=bind_some h
 refine ox_y rfl (y_call [.agg #[.slice A0_0 p0_l.fNodes.length c0_0,.slice A0_1 p0_l.fClaims.length c0_1],.slice A1_0 p1_from.length c1_0] go_43 rfl (fun W2 hW2 => recall_asked_ok p0_l p1_from y2 hy3 W2 A0_0 p0_l.fNodes.length c0_0 rfl ((RdL.arg hr0_0) W2 hW2) A0_1 p0_l.fClaims.length c0_1 ys0_1 rfl ((RdL.arg hr0_1) W2 hW2) (NestL.at (NestL.arg hN0_1) W2 hW2) A1_0 p1_from.length c1_0 rfl ((RdL.arg hr1_0) W2 hW2)) rfl) ?_
 refine ox_y rfl (y_assign_int rfl) ?_
 refine ox_nil (ex_then (cx_seq (cx_region ?_)))
 refine ox_y rfl (y_move_int rfl) ?_
 refine ox_y rfl (y_neq rfl rfl) ?_
 refine ox_nil (ex_then ?_)
 rcases ite_some h with ⟨hp4,h⟩ | ⟨hp4,h⟩
 ·refine cx_true (congrArg Value.bool hp4) ?_
  refine cx_seq (cx_region ?_)
  refine ox_y rfl (y_move_int rfl) ?_
  refine ox_y rfl (y_assign_slice rfl) ?_
  refine ox_y rfl (y_assign_int rfl) ?_
  refine ox_nil (ex_then (cx_ret (ex_then_ret ?_)))
  obtain rfl:=Option.some.inj h
  exact ex_res2 (.inl rfl) rfl (resV_tmp (v:=.slice none 0 0) rfl) (resV_tmp (v:=.int .i64 y2) rfl) (fun W2 hW2 => ⟨(none,0,0),rfl,rfl,((hW2.nilrow 3 1).pick 1 rfl)⟩)
 ·refine cx_false (congrArg Value.bool hp4) ?_
  refine cx_skip (ex_then (cx_seq (cx_region ?_)))
  refine ox_y rfl (y_loadN 0 [.slice A0_0 p0_l.fNodes.length c0_0,.slice A0_1 p0_l.fClaims.length c0_1] ag_25 rfl rfl rfl) ?_
  refine ox_y rfl (y_move_slice rfl) ?_
  obtain ⟨y5,hy6,h⟩:=bind_some h
  refine ox_call1 [.agg #[.slice A0_0 p0_l.fNodes.length c0_0,.slice A0_1 p0_l.fClaims.length c0_1],.slice A1_0 p1_from.length c1_0] _ _ rfl go_45 rfl (fun W2 hW2 => recall_sure_ok p0_l p1_from y5 hy6 W2 A0_0 p0_l.fNodes.length c0_0 rfl ((RdL.arg hr0_0) W2 hW2) A0_1 p0_l.fClaims.length c0_1 ys0_1 rfl ((RdL.arg hr0_1) W2 hW2) (NestL.at (NestL.arg hN0_1) W2 hW2) A1_0 p1_from.length c1_0 rfl ((RdL.arg hr1_0) W2 hW2)) ?_
  rintro b7
  obtain ⟨y8,hy9,h⟩:=bind_some h
  refine ox_call [.map (some b7)] _ _ _ rfl go_44 rfl (fun W2 hW2 => recall_listed_ok y5 y8 hy9 W2 b7 ((MpL.own 1 rfl) W2 hW2)) ?_
  rintro ⟨A10,n12,c11⟩ hn13
  replace hn13 : n12 = y8.length:=hn13; subst hn13
  refine ox_y rfl (y_assign_slice rfl) ?_
  refine ox_y rfl (y_assign_int rfl) ?_
  refine ox_nil (ex_then (cx_ret ?_))
  obtain rfl:=Option.some.inj h
  exact ex_res2 (.inl rfl) rfl (resV_tmp (v:=.slice A10 y8.length c11) rfl) (resV_tmp (v:=.int .i64 0) rfl) (fun W2 hW2 => ⟨(A10,y8.length,c11),rfl,rfl,(hW2.pick 2 rfl)⟩)

theorem recall_Possibly_ok (p0_l:TLineage) (p1_from:(List Int)) (res:((List Int) × Int)) (h:recall_Possibly p0_l p1_from = some res) (W:World) (A0_0:Option Addr) (n0_0 c0_0 : Nat) (hn0_0:n0_0 = p0_l.fNodes.length) (hr0_0:Rd W A0_0 n0_0 c0_0 (encL TNode_cells p0_l.fNodes)) (A0_1:Option Addr) (n0_1 c0_1 : Nat) (ys0_1:List (Hd × TClaim)) (hn0_1:n0_1 = p0_l.fClaims.length) (hr0_1:Rd W A0_1 n0_1 c0_1 (encL TClaim_cells2 ys0_1)) (hN0_1:NestW W (fun z : TClaim => z.fOptions) THop_cells ys0_1 p0_l.fClaims) (A1_0:Option Addr) (n1_0 c1_0 : Nat) (hn1_0:n1_0 = p1_from.length) (hr1_0:Rd W A1_0 n1_0 c1_0 (encL cI p1_from)) :
  Calls Try.prog 17 [.agg #[.slice A0_0 n0_0 c0_0,.slice A0_1 n0_1 c0_1],.slice A1_0 n1_0 c1_0].toArray W fun e W2 => ∃ x : Option Addr × Nat × Nat,x.2.1 = res.1.length ∧ e = .returned (.tuple #[.slice x.1 x.2.1 x.2.2,.int .i64 res.2]) ∧ Ext W W2 [rowR x.1 x.2.2 3 1 x.2.1 (encL cI res.1)]:=by
 subst hn0_0
 subst hn0_1
 subst hn1_0
 unfold recall_Possibly at h
 refine calls_enter (m:=17) Try.func17 rfl rfl (Nat.le_of_ble_eq_true rfl) ?_
 refine cx_seq (cx_region ?_)
 refine ox_box [.slice A0_0 p0_l.fNodes.length c0_0,.slice A0_1 p0_l.fClaims.length c0_1] rfl rfl rfl (fun b1 => ?_)
 refine ox_y rfl (y_assign_slice rfl) ?_
 refine ox_y rfl (y_assign_int rfl) ?_
 refine ox_nil (ex_then (cx_seq (cx_seq (cx_region ?_))))
 refine ox_y rfl (y_loadN 0 [.slice A0_0 p0_l.fNodes.length c0_0,.slice A0_1 p0_l.fClaims.length c0_1] ag_25 rfl rfl rfl) ?_
 refine ox_y rfl (y_move_slice rfl) ?_
 obtain ⟨y2,hy3,h⟩:=bind_some h
 refine ox_y rfl (y_call [.agg #[.slice A0_0 p0_l.fNodes.length c0_0,.slice A0_1 p0_l.fClaims.length c0_1],.slice A1_0 p1_from.length c1_0] go_43 rfl (fun W2 hW2 => recall_asked_ok p0_l p1_from y2 hy3 W2 A0_0 p0_l.fNodes.length c0_0 rfl ((RdL.arg hr0_0) W2 hW2) A0_1 p0_l.fClaims.length c0_1 ys0_1 rfl ((RdL.arg hr0_1) W2 hW2) (NestL.at (NestL.arg hN0_1) W2 hW2) A1_0 p1_from.length c1_0 rfl ((RdL.arg hr1_0) W2 hW2)) rfl) ?_
 refine ox_y rfl (y_assign_int rfl) ?_
 refine ox_nil (ex_then (cx_seq (cx_region ?_)))
 refine ox_y rfl (y_move_int rfl) ?_
 refine ox_y rfl (y_neq rfl rfl) ?_
 refine ox_nil (ex_then ?_)
 rcases ite_some h with ⟨hp4,h⟩ | ⟨hp4,h⟩
 ·refine cx_true (congrArg Value.bool hp4) ?_
  refine cx_seq (cx_region ?_)
  refine ox_y rfl (y_move_int rfl) ?_
  refine ox_y rfl (y_assign_slice rfl) ?_
  refine ox_y rfl (y_assign_int rfl) ?_
  refine ox_nil (ex_then (cx_ret (ex_then_ret ?_)))
  obtain rfl:=Option.some.inj h
  exact ex_res2 (.inl rfl) rfl (resV_tmp (v:=.slice none 0 0) rfl) (resV_tmp (v:=.int .i64 y2) rfl) (fun W2 hW2 => ⟨(none,0,0),rfl,rfl,((hW2.nilrow 3 1).pick 1 rfl)⟩)
 ·refine cx_false (congrArg Value.bool hp4) ?_
  refine cx_skip (ex_then (cx_seq (cx_region ?_)))
  refine ox_y rfl (y_loadN 0 [.slice A0_0 p0_l.fNodes.length c0_0,.slice A0_1 p0_l.fClaims.length c0_1] ag_25 rfl rfl rfl) ?_
  refine ox_y rfl (y_move_slice rfl) ?_
  obtain ⟨y5,hy6,h⟩:=bind_some h
  refine ox_call1 [.agg #[.slice A0_0 p0_l.fNodes.length c0_0,.slice A0_1 p0_l.fClaims.length c0_1],.slice A1_0 p1_from.length c1_0] _ _ rfl go_46 rfl (fun W2 hW2 => recall_possible_ok p0_l p1_from y5 hy6 W2 A0_0 p0_l.fNodes.length c0_0 rfl ((RdL.arg hr0_0) W2 hW2) A0_1 p0_l.fClaims.length c0_1 ys0_1 rfl ((RdL.arg hr0_1) W2 hW2) (NestL.at (NestL.arg hN0_1) W2 hW2) A1_0 p1_from.length c1_0 rfl ((RdL.arg hr1_0) W2 hW2)) ?_
  rintro b7
  obtain ⟨y8,hy9,h⟩:=bind_some h
  refine ox_call [.map (some b7)] _ _ _ rfl go_44 rfl (fun W2 hW2 => recall_listed_ok y5 y8 hy9 W2 b7 ((MpL.own 1 rfl) W2 hW2)) ?_
  rintro ⟨A10,n12,c11⟩ hn13
  replace hn13 : n12 = y8.length:=hn13; subst hn13
  refine ox_y rfl (y_assign_slice rfl) ?_
  refine ox_y rfl (y_assign_int rfl) ?_
  refine ox_nil (ex_then (cx_ret ?_))
  obtain rfl:=Option.some.inj h
  exact ex_res2 (.inl rfl) rfl (resV_tmp (v:=.slice A10 y8.length c11) rfl) (resV_tmp (v:=.int .i64 0) rfl) (fun W2 hW2 => ⟨(A10,y8.length,c11),rfl,rfl,(hW2.pick 2 rfl)⟩)

theorem recall_askedTo_ok (p0_l:TLineage) (p1_from:(List Int)) (p2_to:Int) (res:Int) (h:recall_askedTo p0_l p1_from p2_to = some res) (W:World) (A0_0:Option Addr) (n0_0 c0_0 : Nat) (hn0_0:n0_0 = p0_l.fNodes.length) (hr0_0:Rd W A0_0 n0_0 c0_0 (encL TNode_cells p0_l.fNodes)) (A0_1:Option Addr) (n0_1 c0_1 : Nat) (ys0_1:List (Hd × TClaim)) (hn0_1:n0_1 = p0_l.fClaims.length) (hr0_1:Rd W A0_1 n0_1 c0_1 (encL TClaim_cells2 ys0_1)) (hN0_1:NestW W (fun z : TClaim => z.fOptions) THop_cells ys0_1 p0_l.fClaims) (A1_0:Option Addr) (n1_0 c1_0 : Nat) (hn1_0:n1_0 = p1_from.length) (hr1_0:Rd W A1_0 n1_0 c1_0 (encL cI p1_from)) :
  Calls Try.prog 47 [.agg #[.slice A0_0 n0_0 c0_0,.slice A0_1 n0_1 c0_1],.slice A1_0 n1_0 c1_0,.int .i64 p2_to].toArray W fun e W2 => e = .returned (.int .i64 res) ∧ Ext W W2 []:=by
 subst hn0_0
 subst hn0_1
 subst hn1_0
 unfold recall_askedTo at h
 refine calls_enter (m:=18) Try.func47 rfl rfl (Nat.le_of_ble_eq_true rfl) ?_
 refine cx_seq (cx_region ?_)
 refine ox_box [.slice A0_0 p0_l.fNodes.length c0_0,.slice A0_1 p0_l.fClaims.length c0_1] rfl rfl rfl (fun b1 => ?_)
 refine ox_y rfl (y_assign_int rfl) ?_
 refine ox_nil (ex_then (cx_seq (cx_seq (cx_region ?_))))
 refine ox_y rfl (y_loadN 0 [.slice A0_0 p0_l.fNodes.length c0_0,.slice A0_1 p0_l.fClaims.length c0_1] ag_25 rfl rfl rfl) ?_
 refine ox_y rfl (y_move_slice rfl) ?_
 obtain ⟨y2,hy3,h⟩:=bind_some h
 refine ox_y rfl (y_call [.agg #[.slice A0_0 p0_l.fNodes.length c0_0,.slice A0_1 p0_l.fClaims.length c0_1],.slice A1_0 p1_from.length c1_0] go_43 rfl (fun W2 hW2 => recall_asked_ok p0_l p1_from y2 hy3 W2 A0_0 p0_l.fNodes.length c0_0 rfl ((RdL.arg hr0_0) W2 hW2) A0_1 p0_l.fClaims.length c0_1 ys0_1 rfl ((RdL.arg hr0_1) W2 hW2) (NestL.at (NestL.arg hN0_1) W2 hW2) A1_0 p1_from.length c1_0 rfl ((RdL.arg hr1_0) W2 hW2)) rfl) ?_
 refine ox_y rfl (y_assign_int rfl) ?_
 refine ox_nil (ex_then (cx_seq (cx_region ?_)))
 refine ox_y rfl (y_move_int rfl) ?_
 refine ox_y rfl (y_neq rfl rfl) ?_
 refine ox_nil (ex_then ?_)
 rcases ite_some h with ⟨hp4,h⟩ | ⟨hp4,h⟩
 ·refine cx_true (congrArg Value.bool hp4) ?_
  refine cx_seq (cx_region ?_)
  refine ox_y rfl (y_move_int rfl) ?_
  refine ox_y rfl (y_assign_int rfl) ?_
  refine ox_nil (ex_then (cx_ret (ex_then_ret ?_)))
  obtain rfl:=Option.some.inj h
  exact ex_res1 (.inl rfl) rfl (resV_tmp (v:=.int .i64 y2) rfl) (fun W2 hW2 => ⟨rfl,hW2.none⟩)
 ·refine cx_false (congrArg Value.bool hp4) ?_
  refine cx_skip (ex_then (cx_seq (cx_seq (cx_region ?_))))
  refine ox_y rfl (y_loadN 0 [.slice A0_0 p0_l.fNodes.length c0_0,.slice A0_1 p0_l.fClaims.length c0_1] ag_25 rfl rfl rfl) ?_
  refine ox_y rfl (y_move_int rfl) ?_
  obtain ⟨y5,hy6,h⟩:=bind_some h
  refine ox_y rfl (y_call [.agg #[.slice A0_0 p0_l.fNodes.length c0_0,.slice A0_1 p0_l.fClaims.length c0_1],.int .i64 p2_to] go_36 rfl (fun W2 hW2 => recall_nodeOf_ok p0_l p2_to y5 hy6 W2 A0_0 p0_l.fNodes.length c0_0 rfl ((RdL.arg hr0_0) W2 hW2) A0_1 p0_l.fClaims.length c0_1 ys0_1 rfl ((RdL.arg hr0_1) W2 hW2) (NestL.at (NestL.arg hN0_1) W2 hW2)) rfl) ?_
  refine ox_y rfl (y_lss rfl rfl) ?_
  refine ox_nil (ex_then ?_)
  rcases ite_some h with ⟨hp7,h⟩ | ⟨hp7,h⟩
  ·refine cx_true (congrArg Value.bool hp7) ?_
   refine cx_seq (cx_region ?_)
   refine ox_y rfl (y_assign_int rfl) ?_
   refine ox_nil (ex_then (cx_ret (ex_then_ret ?_)))
   obtain rfl:=Option.some.inj h
   exact ex_res1 (.inl rfl) rfl (resV_tmp (v:=.int .i64 5) rfl) (fun W2 hW2 => ⟨rfl,hW2.none⟩)
  ·refine cx_false (congrArg Value.bool hp7) ?_
   refine cx_skip (ex_then (cx_seq (cx_region ?_)))
   refine ox_y rfl (y_assign_int rfl) ?_
   refine ox_nil (ex_then (cx_ret ?_))
   obtain rfl:=Option.some.inj h
   exact ex_res1 (.inl rfl) rfl (resV_tmp (v:=.int .i64 0) rfl) (fun W2 hW2 => ⟨rfl,hW2.none⟩)

theorem recall_Share_ok (p0_l:TLineage) (p1_from:(List Int)) (p2_to:Int) (res:(TRatio × Int)) (h:recall_Share p0_l p1_from p2_to = some res) (W:World) (A0_0:Option Addr) (n0_0 c0_0 : Nat) (hn0_0:n0_0 = p0_l.fNodes.length) (hr0_0:Rd W A0_0 n0_0 c0_0 (encL TNode_cells p0_l.fNodes)) (A0_1:Option Addr) (n0_1 c0_1 : Nat) (ys0_1:List (Hd × TClaim)) (hn0_1:n0_1 = p0_l.fClaims.length) (hr0_1:Rd W A0_1 n0_1 c0_1 (encL TClaim_cells2 ys0_1)) (hN0_1:NestW W (fun z : TClaim => z.fOptions) THop_cells ys0_1 p0_l.fClaims) (A1_0:Option Addr) (n1_0 c1_0 : Nat) (hn1_0:n1_0 = p1_from.length) (hr1_0:Rd W A1_0 n1_0 c1_0 (encL cI p1_from)) :
  Calls Try.prog 19 [.agg #[.slice A0_0 n0_0 c0_0,.slice A0_1 n0_1 c0_1],.slice A1_0 n1_0 c1_0,.int .i64 p2_to].toArray W fun e W2 => e = .returned (.tuple #[.agg #[.int .i64 res.1.fNum,.int .i64 res.1.fDen],.int .i64 res.2]) ∧ Ext W W2 []:=by
 subst hn0_0
 subst hn0_1
 subst hn1_0
 unfold recall_Share at h
 refine calls_enterM (m:=51) Try.func19 rfl rfl (Nat.le_of_ble_eq_true rfl) ?_
 refine cx_seq (cx_region ?_)
 refine ox_box [.slice A0_0 p0_l.fNodes.length c0_0,.slice A0_1 p0_l.fClaims.length c0_1] rfl rfl rfl (fun b1 => ?_)
 refine ox_box [.slice A1_0 p1_from.length c1_0] rfl rfl rfl (fun b2 => ?_)
 refine ox_box [.int .i64 p2_to] rfl rfl rfl (fun b3 => ?_)
 refine ox_alloc ze_43 rfl (fun b4 => ?_)
 refine ox_y rfl (y_assign_int rfl) ?_
 refine ox_nil (ex_then (cx_seq (cx_seq (cx_region ?_))))
 refine ox_y rfl (y_loadN 0 [.slice A0_0 p0_l.fNodes.length c0_0,.slice A0_1 p0_l.fClaims.length c0_1] ag_25 rfl rfl rfl) ?_
 refine ox_y rfl (y_load1 1 (v:=.slice A1_0 p1_from.length c1_0) sc_32 rfl rfl rfl) ?_
 refine ox_y rfl (y_load1 2 (v:=.int .i64 p2_to) sc_3 rfl rfl rfl) ?_
 obtain ⟨y5,hy6,h⟩:=bind_some h
 refine ox_y rfl (y_call [.agg #[.slice A0_0 p0_l.fNodes.length c0_0,.slice A0_1 p0_l.fClaims.length c0_1],.slice A1_0 p1_from.length c1_0,.int .i64 p2_to] go_47 rfl (fun W2 hW2 => recall_askedTo_ok p0_l p1_from p2_to y5 hy6 W2 A0_0 p0_l.fNodes.length c0_0 rfl ((RdL.arg hr0_0) W2 hW2) A0_1 p0_l.fClaims.length c0_1 ys0_1 rfl ((RdL.arg hr0_1) W2 hW2) (NestL.at (NestL.arg hN0_1) W2 hW2) A1_0 p1_from.length c1_0 rfl ((RdL.arg hr1_0) W2 hW2)) rfl) ?_
 refine ox_y rfl (y_assign_int rfl) ?_
 refine ox_nil (ex_then (cx_seq (cx_region ?_)))
 refine ox_y rfl (y_move_int rfl) ?_
 refine ox_y rfl (y_neq rfl rfl) ?_
 refine ox_nil (ex_then ?_)
 rcases ite_some h with ⟨hp7,h⟩ | ⟨hp7,h⟩
 ·refine cx_true (congrArg Value.bool hp7) ?_
  refine cx_seq (cx_region ?_)
  refine ox_y rfl (y_buildS [.int .i64 0,.int .i64 0] [(0,1),(1,1)] ust_43 ze_43 (by kernel_rfl)) ?_
  refine ox_y rfl (y_move_int rfl) ?_
  refine ox_n rfl (y_storeN 3 [.int .i64 0,.int .i64 0] sz_43 rfl (Nat.le_of_ble_eq_true rfl) rfl rfl rfl) ?_
  refine ox_y rfl (y_assign_int rfl) ?_
  refine ox_nil (ex_then (cx_ret (ex_then_ret ?_)))
  refine ex_M0 (.inl rfl) ?_
  obtain rfl:=Option.some.inj h
  exact ex_res2 (.inl rfl) rfl (resV_cellN 3 [.int .i64 0,.int .i64 0] ag_43 rfl rfl rfl) (resV_tmp (v:=.int .i64 y5) rfl) (fun W2 hW2 => ⟨rfl,hW2.none⟩)
 ·refine cx_false (congrArg Value.bool hp7) ?_
  refine cx_skip (ex_then (cx_seq (cx_region ?_)))
  refine ox_alloc ze_3 rfl (fun b8 => ?_)
  refine ox_alloc ze_3 rfl (fun b9 => ?_)
  try dsimp only [lna,lca,lsz,lss]
  refine ox_n rfl (y_store1 4 (v:=.int .i64 0) sz_3 rfl (Nat.lt_of_lt_of_le (Nat.lt_succ_self _) (Nat.le_of_ble_eq_true rfl)) rfl rfl rfl) ?_
  refine ox_n rfl (y_store1 5 (v:=.int .i64 0) sz_3 rfl (Nat.lt_of_lt_of_le (Nat.lt_succ_self _) (Nat.le_of_ble_eq_true rfl)) rfl rfl rfl) ?_
  refine ox_nil (ex_then (cx_seq (cx_seq (cx_region ?_))))
  refine ox_y rfl (y_loadN 0 [.slice A0_0 p0_l.fNodes.length c0_0,.slice A0_1 p0_l.fClaims.length c0_1] ag_25 rfl rfl rfl) ?_
  obtain ⟨y10,hy11,h⟩:=bind_some h
  refine ox_call1 [.agg #[.slice A0_0 p0_l.fNodes.length c0_0,.slice A0_1 p0_l.fClaims.length c0_1]] _ _ rfl go_33 rfl (fun W2 hW2 => recall_cases_ok p0_l y10 hy11 W2 A0_0 p0_l.fNodes.length c0_0 rfl ((RdL.arg hr0_0) W2 hW2) A0_1 p0_l.fClaims.length c0_1 ys0_1 rfl ((RdL.arg hr0_1) W2 hW2) (NestL.at (NestL.arg hN0_1) W2 hW2)) ?_
  rintro b12
  try dsimp only [lna,lca,lsz,lss]
  refine ox_nil (ex_then (cx_block ?_))
  obtain ⟨hok37,h⟩:=guardO_some h
  obtain ⟨u25,hl36,h⟩:=bind_some h
  refine cx_rangeC (caps:=[.pointer (some ⟨b12,0,none⟩)]) (fun (s:(Int × Int)) L => L = [cellsR b1 25 [.slice A0_0 p0_l.fNodes.length c0_0,.slice A0_1 p0_l.fClaims.length c0_1],cellsR b2 32 [.slice A1_0 p1_from.length c1_0],cellsR b3 3 [.int .i64 p2_to],cellsR b4 43 [.int .i64 0,.int .i64 0],cellsR b8 3 [.int .i64 s.1],cellsR b9 3 [.int .i64 s.2],cellsR b12 25 [.slice A0_0 p0_l.fNodes.length c0_0,.slice A0_1 p0_l.fClaims.length c0_1]]) (fun (_:Unit) _ _ => False) hl36 rfl go_70 (recall_cases_1_seq p0_l hok37 b12 A0_0 p0_l.fNodes.length c0_0 A0_1 p0_l.fClaims.length c0_1 rfl ys0_1 hN0_1.p) (fun W2 s L hI hW2 => by obtain rfl:=hI; exact ⟨(RdL.cells 6 rfl) W2 hW2,(RdL.arg hr0_1) W2 hW2⟩) rfl (fun _ _ _ h => h.elim) ?_ ?_ ?_
  ·rintro D13 l14 rec15 A17 c18 s23 x24 L st hrec16 rfl h
   unfold recall_Share_r1 at h
   refine cx_region ?_
   try dsimp only [lna,lca,lsz,lss]
   refine ox_y rfl (y_assign_slice rfl) ?_
   refine ox_nil ?_
   refine ex_begin 8 rfl hrec16 ?_
   refine cx_block (cx_seq (cx_region ?_))
   refine ox_y rfl (y_load1 5 (v:=.int .i64 s23.2) sc_3 rfl rfl rfl) ?_
   refine ox_y rfl (y_add rfl rfl) ?_
   refine ox_n rfl (y_store1 5 (v:=.int .i64 (w64 (s23.2 + 1))) sz_3 rfl (Nat.lt_of_lt_of_le (Nat.lt_succ_self _) (Nat.le_of_ble_eq_true rfl)) rfl rfl rfl) ?_
   refine ox_nil (ex_then (cx_seq ?_))
   obtain ⟨y27,hy28,h⟩:=bind_some h
   obtain ⟨y31,hy32,h⟩:=bind_some h
   obtain ⟨hg34,h⟩:=guardO_some h
   refine cx_drawsG [[],[],[],[2],[0,1,2,3],[],[0,1,2,3,4,5]] [(none,0,[true,true,true,true,true,true,true,true,true,true]),(none,0,[true,true,true,true,true,true,true,true,true,true]),(none,0,[true,true,true,true,true,true,true,true,true,true]),(none,0,[true,true,true,true,true,true,true,true,true,true]),(none,1,[true,true,true,true,true,true,true,true,true,true]),(none,0,[true,true,true,true,true,true,true,true,true,true,false]),(none,0,[true,true,true,true,true,true,true,true,true,true,true])] [⟨fun _ => .agg #[.slice A0_0 p0_l.fNodes.length c0_0,.slice A0_1 p0_l.fClaims.length c0_1],fun _ => noR,fun _ => []⟩,⟨fun _ => .slice A1_0 p1_from.length c1_0,fun _ => noR,fun _ => []⟩,⟨fun _ => .slice A17 x24.length c18,fun _ => noR,fun _ => []⟩,⟨fun _ => .func (.func 78) #[.slice A17 x24.length c18] #[],fun _ => noR,fun _ => []⟩,⟨fun ξ26 => .map (some (ξ26 4 0).2.1),fun _ => noR,fun ξ26 => [mapV Try.prog 3 kI rngB kB false (ξ26 4 0).2.1 y31]⟩,⟨fun _ => .int .i64 p2_to,fun _ => noR,fun _ => []⟩,⟨fun _ => .bool (mgetV false y31 p2_to),fun _ => noR,fun _ => []⟩] 10 mixed (by kernel_rfl) (by kernel_rfl) ⟨⟨fun ξ26 ξ26' h => ⟨rfl,rfl,rfl⟩,fun _ => rfl⟩,⟨fun ξ26 ξ26' h => ⟨rfl,rfl,rfl⟩,fun _ => rfl⟩,⟨fun ξ26 ξ26' h => ⟨rfl,rfl,rfl⟩,fun _ => rfl⟩,⟨fun ξ26 ξ26' h => ⟨rfl,rfl,rfl⟩,fun _ => rfl⟩,⟨fun ξ26 ξ26' h => ⟨by simp only [h 4 (.inl rfl)],rfl,by simp only [h 4 (.inl rfl)]⟩,fun _ => rfl⟩,⟨fun ξ26 ξ26' h => ⟨rfl,rfl,rfl⟩,fun _ => rfl⟩,⟨fun ξ26 ξ26' h => ⟨rfl,rfl,rfl⟩,fun _ => rfl⟩,trivial⟩ rfl (fun ξ26 => ?_)
   refine gx_o rfl (fun L2 => ?_) ?_
   ·dsimp only [maskL,lca,lna]
    refine ox_y rfl (y_loadN 0 [.slice A0_0 p0_l.fNodes.length c0_0,.slice A0_1 p0_l.fClaims.length c0_1] ag_25 rfl rfl rfl) ?_
    refine ox_nil ?_
    exact ex_capG (fun _ => (none,0,0)) rfl (List.append_nil _)
   dsimp only [aftL,lsz,lss,lna,lca,List.append_nil]
   refine gx_o rfl (fun L2 => ?_) ?_
   ·dsimp only [maskL,lca,lna]
    refine ox_y rfl (y_load1 1 (v:=.slice A1_0 p1_from.length c1_0) sc_32 rfl rfl rfl) ?_
    refine ox_nil ?_
    exact ex_capG (fun _ => (none,0,0)) rfl (List.append_nil _)
   dsimp only [aftL,lsz,lss,lna,lca,List.append_nil]
   refine gx_o rfl (fun L2 => ?_) ?_
   ·dsimp only [maskL,lca,lna]
    refine ox_y rfl (y_move_slice rfl) ?_
    refine ox_nil ?_
    exact ex_capG (fun _ => (none,0,0)) rfl (List.append_nil _)
   dsimp only [aftL,lsz,lss,lna,lca,List.append_nil]
   refine gx_o rfl (fun L2 => ?_) ?_
   ·dsimp only [maskL,lca,lna]
    refine ox_y rfl (y_call [.slice A17 x24.length c18] go_49 rfl (fun W2 hW2 => recall_inCase_ok x24 y27 hy28 W2 A17 x24.length c18 rfl ((RdL.row 9 rfl) W2 hW2)) rfl) ?_
    refine ox_nil ?_
    exact ex_capG (fun _ => (none,0,0)) rfl (List.append_nil _)
   dsimp only [aftL,lsz,lss,lna,lca,List.append_nil]
   refine gx_o rfl (fun L2 => ?_) ?_
   ·dsimp only [maskL,lca,lna]
    refine ox_call1 [.agg #[.slice A0_0 p0_l.fNodes.length c0_0,.slice A0_1 p0_l.fClaims.length c0_1],.slice A1_0 p1_from.length c1_0,.func (.func 78) #[.slice A17 x24.length c18] #[]] _ _ rfl go_48 rfl (fun W2 hW2 => recall_reach_ok p0_l p1_from (fun x29 x30 => recall_fixed_has x24 x29 x30) y31 hy32 W2 A0_0 p0_l.fNodes.length c0_0 rfl ((RdL.arg hr0_0) W2 hW2) A0_1 p0_l.fClaims.length c0_1 ys0_1 rfl ((RdL.arg hr0_1) W2 hW2) (NestL.at (NestL.arg hN0_1) W2 hW2) A1_0 p1_from.length c1_0 rfl ((RdL.arg hr1_0) W2 hW2) 78 [.slice A17 x24.length c18] [] go_78 (fun W3 hb x0 x1 y hxy => recall_fixed_has_ok x24 x0 x1  y hxy W3 A17 x24.length c18 rfl (((RdL.row 9 rfl) W2 hW2).later hb))) ?_
    rintro b33
    refine ox_nil ?_
    exact ex_capG (fun _ => (none,b33,0)) rfl rfl
   dsimp only [aftL,lsz,lss,lna,lca,List.append_nil]
   refine gx_o rfl (fun L2 => ?_) ?_
   ·dsimp only [maskL,lca,lna]
    refine ox_y rfl (y_load1 2 (v:=.int .i64 p2_to) sc_3 rfl rfl rfl) ?_
    refine ox_nil ?_
    exact ex_capG (fun _ => (none,0,0)) rfl (List.append_nil _)
   dsimp only [aftL,lsz,lss,lna,lca,List.append_nil]
   refine gx_o rfl (fun L2 => ?_) ?_
   ·dsimp only [maskL,lca,lna]
    refine ox_y rfl (y_lookupV (k:=p2_to) (MpL.own 10 rfl) ke_3 um_74 ze_4 rfl rfl hg34) ?_
    refine ox_nil ?_
    exact ex_capG (fun _ => (none,0,0)) rfl (List.append_nil _)
   dsimp only [aftL,lsz,lss,lna,lca,List.append_nil]
   refine gx_nil ?_
   refine ex_then ?_
   rcases ite_some h with ⟨hp35,h⟩ | ⟨hp35,h⟩
   ·refine cx_true (congrArg Value.bool hp35) ?_
    refine cx_region ?_
    try dsimp only [lna,lca,lsz,lss]
    refine ox_y rfl (y_load1 4 (v:=.int .i64 s23.1) sc_3 rfl rfl rfl) ?_
    refine ox_y rfl (y_add rfl rfl) ?_
    refine ox_n rfl (y_store1 4 (v:=.int .i64 (w64 (s23.1 + 1))) sz_3 rfl (Nat.lt_of_lt_of_le (Nat.lt_succ_self _) (Nat.le_of_ble_eq_true rfl)) rfl rfl rfl) ?_
    refine ox_nil ?_
    refine ex_block ?_
    refine ex_take 10 ?_
    obtain rfl:=Option.some.inj h
    exact ex_cnext [cellsR b1 25 [.slice A0_0 p0_l.fNodes.length c0_0,.slice A0_1 p0_l.fClaims.length c0_1],cellsR b2 32 [.slice A1_0 p1_from.length c1_0],cellsR b3 3 [.int .i64 p2_to],cellsR b4 43 [.int .i64 0,.int .i64 0],cellsR b8 3 [.int .i64 (w64 (s23.1 + 1))],cellsR b9 3 [.int .i64 (w64 (s23.2 + 1))],cellsR b12 25 [.slice A0_0 p0_l.fNodes.length c0_0,.slice A0_1 p0_l.fClaims.length c0_1]] rfl
   ·refine cx_false (congrArg Value.bool hp35) ?_
    refine cx_skip ?_
    refine ex_block ?_
    refine ex_take 10 ?_
    obtain rfl:=Option.some.inj h
    exact ex_cnext [cellsR b1 25 [.slice A0_0 p0_l.fNodes.length c0_0,.slice A0_1 p0_l.fClaims.length c0_1],cellsR b2 32 [.slice A1_0 p1_from.length c1_0],cellsR b3 3 [.int .i64 p2_to],cellsR b4 43 [.int .i64 0,.int .i64 0],cellsR b8 3 [.int .i64 s23.1],cellsR b9 3 [.int .i64 (w64 (s23.2 + 1))],cellsR b12 25 [.slice A0_0 p0_l.fNodes.length c0_0,.slice A0_1 p0_l.fClaims.length c0_1]] rfl
  ·rintro D13 u38 L hst rfl
   subst hst
   dsimp only at h
   refine ex_block ?_
   refine ex_then (cx_seq ?_)
   refine cx_draws 4 mixed (by kernel_rfl) (by kernel_rfl) ?_
   try dsimp only [lna,lca,lsz,lss]
   refine qx_y rfl (y_load1 4 (v:=.int .i64 u38.1) sc_3 rfl rfl rfl) ?_
   refine qx_y rfl (y_load1 5 (v:=.int .i64 u38.2) sc_3 rfl rfl rfl) ?_
   refine qx_y rfl (y_assign_int rfl) ?_
   refine qx_y rfl (y_assign_int rfl) ?_
   refine qx_nil ?_
   refine ox_nil (ex_then (cx_seq (cx_block ?_)))
   obtain ⟨u41,hl44,h⟩:=bind_some h
   refine cx_loop (fun (s:(Int × Int)) L tm => ∃ (tm0:Nat → Value),L = [cellsR b1 25 [.slice A0_0 p0_l.fNodes.length c0_0,.slice A0_1 p0_l.fClaims.length c0_1],cellsR b2 32 [.slice A1_0 p1_from.length c1_0],cellsR b3 3 [.int .i64 p2_to],cellsR b4 43 [.int .i64 0,.int .i64 0],cellsR b8 3 [.int .i64 u38.1],cellsR b9 3 [.int .i64 u38.2],cellsR b12 25 [.slice A0_0 p0_l.fNodes.length c0_0,.slice A0_1 p0_l.fClaims.length c0_1],dfR D13] ∧ tm = (upd (upd (upd (upd (upd (upd (upd (upd (upd (upd (upd (upd (upd (upd (upd tm0 0 (.agg #[.slice A0_0 p0_l.fNodes.length c0_0,.slice A0_1 p0_l.fClaims.length c0_1])) 1 (.slice A1_0 p1_from.length c1_0)) 2 (.int .i64 p2_to)) 3 (.pointer (some ⟨b1,0,none⟩))) 4 (.pointer (some ⟨b2,0,none⟩))) 5 (.pointer (some ⟨b3,0,none⟩))) 6 (.pointer (some ⟨b4,0,none⟩))) 7 (.int .i64 0)) 8 (.int .i64 y5)) 19 (.bool (y5 != 0))) 9 (.pointer (some ⟨b8,0,none⟩))) 10 (.pointer (some ⟨b9,0,none⟩))) 23 (.func (.func 70) #[] #[.pointer (some ⟨b12,0,none⟩)])) 12 (.int .i64 s.1)) 13 (.int .i64 s.2))) (fun s e L tm => e = .exit 2 ∧ ∃ (tm0:Nat → Value),L = [cellsR b1 25 [.slice A0_0 p0_l.fNodes.length c0_0,.slice A0_1 p0_l.fClaims.length c0_1],cellsR b2 32 [.slice A1_0 p1_from.length c1_0],cellsR b3 3 [.int .i64 p2_to],cellsR b4 43 [.int .i64 0,.int .i64 0],cellsR b8 3 [.int .i64 u38.1],cellsR b9 3 [.int .i64 u38.2],cellsR b12 25 [.slice A0_0 p0_l.fNodes.length c0_0,.slice A0_1 p0_l.fClaims.length c0_1],dfR D13] ∧ tm = (upd (upd (upd (upd (upd (upd (upd (upd (upd (upd (upd (upd (upd (upd (upd tm0 0 (.agg #[.slice A0_0 p0_l.fNodes.length c0_0,.slice A0_1 p0_l.fClaims.length c0_1])) 1 (.slice A1_0 p1_from.length c1_0)) 2 (.int .i64 p2_to)) 3 (.pointer (some ⟨b1,0,none⟩))) 4 (.pointer (some ⟨b2,0,none⟩))) 5 (.pointer (some ⟨b3,0,none⟩))) 6 (.pointer (some ⟨b4,0,none⟩))) 7 (.int .i64 0)) 8 (.int .i64 y5)) 19 (.bool (y5 != 0))) 9 (.pointer (some ⟨b8,0,none⟩))) 10 (.pointer (some ⟨b9,0,none⟩))) 23 (.func (.func 70) #[] #[.pointer (some ⟨b12,0,none⟩)])) 12 (.int .i64 s.1)) 13 (.int .i64 s.2))) hl44 ⟨_,rfl,(keep (keep (keep (keep (keep (keep (keep (keep (keep (keep (keep (keep (keep (keep (keep rfl rfl) rfl) rfl) rfl) rfl) rfl) rfl) rfl) rfl) rfl) rfl) rfl) rfl) rfl) rfl)⟩ ?_ ?_
   ·rintro s40 L tm st ⟨tm0_s40,rfl,rfl⟩ h
    unfold recall_Share_l2 at h
    refine cx_seq (cx_seq (cx_region ?_))
    refine ox_y rfl (y_move_int rfl) ?_
    refine ox_y rfl (y_gtr rfl rfl) ?_
    refine ox_nil (ex_then ?_)
    rcases ite_some h with ⟨hp42,h⟩ | ⟨hp42,h⟩
    ·refine cx_true (congrArg Value.bool hp42) ?_
     refine cx_skip (ex_then (cx_block ?_))
     refine cx_draws 6 mixed (by kernel_rfl) (by kernel_rfl) ?_
     refine qx_y rfl (y_move_int rfl) ?_
     refine qx_y rfl (y_move_int rfl) ?_
     refine qx_y rfl (y_move_int rfl) ?_
     obtain ⟨hg43,h⟩:=guardO_some h
     refine qx_y rfl (y_rem hg43 rfl rfl) ?_
     refine qx_y rfl (y_assign_int rfl) ?_
     refine qx_y rfl (y_assign_int rfl) ?_
     refine qx_nil ?_
     refine ox_nil ?_
     refine ex_block ?_
     obtain rfl:=Option.some.inj h
     exact ex_next ⟨_,rfl,(keep (keep (keep (keep (keep (keep (keep (keep (keep (keep (keep (keep (keep (keep (keep rfl rfl) rfl) rfl) rfl) rfl) rfl) rfl) rfl) rfl) rfl) rfl) rfl) rfl) rfl) rfl)⟩
    ·refine cx_false (congrArg Value.bool hp42) ?_
     refine cx_exit ?_
     refine ex_then_exit ?_
     obtain rfl:=Option.some.inj h
     exact ex_stop ⟨rfl,_,rfl,(keep (keep (keep (keep (keep (keep (keep (keep (keep (keep (keep (keep (keep (keep (keep rfl rfl) rfl) rfl) rfl) rfl) rfl) rfl) rfl) rfl) rfl) rfl) rfl) rfl) rfl) rfl)⟩
   ·intro e L tm hJ
    obtain ⟨rfl,tm0_u41,rfl,rfl⟩:=hJ
    refine ⟨(by intro hc; cases hc),?_⟩
    refine ex_block_here ?_
    refine ex_then (cx_seq ?_)
    refine cx_draws 7 mixed (by kernel_rfl) (by kernel_rfl) ?_
    refine qx_y rfl (y_load1 4 (v:=.int .i64 u38.1) sc_3 rfl rfl rfl) ?_
    refine qx_y rfl (y_move_int rfl) ?_
    obtain ⟨hg45,h⟩:=guardO_some h
    refine qx_y rfl (y_quo hg45 rfl rfl) ?_
    refine qx_y rfl (y_load1 5 (v:=.int .i64 u38.2) sc_3 rfl rfl rfl) ?_
    refine qx_y rfl (y_move_int rfl) ?_
    obtain ⟨hg46,h⟩:=guardO_some h
    refine qx_y rfl (y_quo hg46 rfl rfl) ?_
    refine qx_y rfl (y_buildS [.int .i64 (w64 (Int.tdiv u38.1 u41.1)),.int .i64 (w64 (Int.tdiv u38.2 u41.1))] [(0,1),(1,1)] ust_43 ze_43 (by kernel_rfl)) ?_
    refine qx_nil ?_
    refine ox_n rfl (y_storeN 3 [.int .i64 (w64 (Int.tdiv u38.1 u41.1)),.int .i64 (w64 (Int.tdiv u38.2 u41.1))] sz_43 rfl (Nat.le_of_ble_eq_true rfl) rfl rfl rfl) ?_
    refine ox_y rfl (y_assign_int rfl) ?_
    refine ox_nil (ex_then (cx_ret ?_))
    refine ex_M1 7 rfl (.inl rfl) ?_
    obtain rfl:=Option.some.inj h
    exact ex_res2 (.inl rfl) rfl (resV_cellN 3 [.int .i64 (w64 (Int.tdiv u38.1 u41.1)),.int .i64 (w64 (Int.tdiv u38.2 u41.1))] ag_43 rfl rfl rfl) (resV_tmp (v:=.int .i64 0) rfl) (fun W2 hW2 => ⟨rfl,hW2.none⟩)
  ·intro D13 t e L _ hh
   exact hh.elim

theorem ref09_SameInts_ok (p0_a:(List Int)) (p1_b:(List Int)) (res:Bool) (h:ref09_SameInts p0_a p1_b = some res) (W:World) (A0_0:Option Addr) (n0_0 c0_0 : Nat) (hn0_0:n0_0 = p0_a.length) (hr0_0:Rd W A0_0 n0_0 c0_0 (encL cI p0_a)) (A1_0:Option Addr) (n1_0 c1_0 : Nat) (hn1_0:n1_0 = p1_b.length) (hr1_0:Rd W A1_0 n1_0 c1_0 (encL cI p1_b)) :
  Calls Try.prog 20 [.slice A0_0 n0_0 c0_0,.slice A1_0 n1_0 c1_0].toArray W fun e W2 => e = .returned (.bool res) ∧ Ext W W2 []:=by
 subst hn0_0
 subst hn1_0
 unfold ref09_SameInts at h
 refine calls_enter (m:=26) Try.func20 rfl rfl (Nat.le_of_ble_eq_true rfl) ?_
 refine cx_seq (cx_region ?_)
 refine ox_y rfl (y_assign_bool rfl) ?_
 refine ox_nil (ex_then (cx_seq (cx_seq (cx_region ?_))))
 refine ox_y rfl (y_move_slice rfl) ?_
 refine ox_y rfl (y_len (us:=[]) us_32 rfl) ?_
 refine ox_y rfl (y_move_slice rfl) ?_
 refine ox_y rfl (y_len (us:=[]) us_32 rfl) ?_
 refine ox_y rfl (y_neq rfl rfl) ?_
 refine ox_nil (ex_then ?_)
 rcases ite_some h with ⟨hp1,h⟩ | ⟨hp1,h⟩
 ·refine cx_true (congrArg Value.bool hp1) ?_
  refine cx_seq (cx_region ?_)
  refine ox_y rfl (y_assign_bool rfl) ?_
  refine ox_nil (ex_then (cx_ret (ex_then_ret ?_)))
  obtain rfl:=Option.some.inj h
  exact ex_res1 (.inl rfl) rfl (resV_tmp (v:=.bool false) rfl) (fun W2 hW2 => ⟨rfl,hW2.none⟩)
 ·refine cx_false (congrArg Value.bool hp1) ?_
  refine cx_skip (ex_then (cx_seq (cx_seq (cx_region ?_))))
  refine ox_y rfl (y_assign_int rfl) ?_
  refine ox_nil (ex_then (cx_block ?_))
  obtain ⟨u4,hl9,h⟩:=bind_some h
  refine cx_loop (fun (s:(Bool × Int)) L tm => ∃ (tm0:Nat → Value),L = [] ∧ tm = (upd (upd (upd (upd (upd tm0 0 (.slice A0_0 p0_a.length c0_0)) 1 (.slice A1_0 p1_b.length c1_0)) 4 (.bool s.1)) 10 (.bool ((p0_a.length:Int) != (p1_b.length:Int)))) 5 (.int .i64 s.2))) (fun | (.inl s),e,L,tm => e = .ret ∧ ∃ (tm0:Nat → Value),L = [] ∧ tm = (upd (upd (upd (upd (upd tm0 0 (.slice A0_0 p0_a.length c0_0)) 1 (.slice A1_0 p1_b.length c1_0)) 4 (.bool s.1)) 10 (.bool ((p0_a.length:Int) != (p1_b.length:Int)))) 5 (.int .i64 s.2)) | (.inr s),e,L,tm => e = .exit 0 ∧ ∃ (tm0:Nat → Value),L = [] ∧ tm = (upd (upd (upd (upd (upd tm0 0 (.slice A0_0 p0_a.length c0_0)) 1 (.slice A1_0 p1_b.length c1_0)) 4 (.bool s.1)) 10 (.bool ((p0_a.length:Int) != (p1_b.length:Int)))) 5 (.int .i64 s.2))) hl9 ⟨_,rfl,(keep (keep (keep (keep (keep rfl rfl) rfl) rfl) rfl) rfl)⟩ ?_ ?_
  ·rintro s3 L tm st ⟨tm0_s3,rfl,rfl⟩ h
   unfold ref09_SameInts_l1 at h
   refine cx_seq (cx_seq (cx_region ?_))
   refine ox_y rfl (y_move_int rfl) ?_
   refine ox_y rfl (y_move_slice rfl) ?_
   refine ox_y rfl (y_len (us:=[]) us_32 rfl) ?_
   refine ox_y rfl (y_lss rfl rfl) ?_
   refine ox_nil (ex_then ?_)
   rcases ite_some h with ⟨hp5,h⟩ | ⟨hp5,h⟩
   ·refine cx_true (congrArg Value.bool hp5) ?_
    refine cx_skip (ex_then (cx_seq (cx_block (cx_seq ?_))))
    refine cx_draws 9 mixed (by kernel_rfl) (by kernel_rfl) ?_
    refine qx_y rfl (y_move_slice rfl) ?_
    refine qx_y rfl (y_move_int rfl) ?_
    obtain ⟨hg6,h⟩:=guardO_some h
    refine qx_y rfl (y_indexR sl_32 (by decide) hg6.1 hg6.2 (RdL.arg hr0_0) (encL_len cI_len rfl) rfl rfl) ?_
    refine qx_y rfl (y_loadR1 (A:=A0_0) (j:=(Int.toNat s3.2 * 1)) (v:=.int .i64 (rdL p0_a s3.2)) sc_3 (RdL.arg hr0_0) rfl (encL_get0 cI_len hg6.1 (lt_nat hg6.2 rfl) rfl)) ?_
    refine qx_y rfl (y_move_slice rfl) ?_
    refine qx_y rfl (y_move_int rfl) ?_
    obtain ⟨hg7,h⟩:=guardO_some h
    refine qx_y rfl (y_indexR sl_32 (by decide) hg7.1 hg7.2 (RdL.arg hr1_0) (encL_len cI_len rfl) rfl rfl) ?_
    refine qx_y rfl (y_loadR1 (A:=A1_0) (j:=(Int.toNat s3.2 * 1)) (v:=.int .i64 (rdL p1_b s3.2)) sc_3 (RdL.arg hr1_0) rfl (encL_get0 cI_len hg7.1 (lt_nat hg7.2 rfl) rfl)) ?_
    refine qx_y rfl (y_neq rfl rfl) ?_
    refine qx_nil ?_
    refine ox_nil (ex_then ?_)
    rcases ite_some h with ⟨hp8,h⟩ | ⟨hp8,h⟩
    ·refine cx_true (congrArg Value.bool hp8) ?_
     refine cx_seq (cx_region ?_)
     refine ox_y rfl (y_assign_bool rfl) ?_
     refine ox_nil (ex_then (cx_ret (ex_block_ret (ex_then_ret ?_))))
     obtain rfl:=Option.some.inj h
     exact ex_stop ⟨rfl,_,rfl,(keep (keep (keep (keep (keep rfl rfl) rfl) rfl) rfl) rfl)⟩
    ·refine cx_false (congrArg Value.bool hp8) ?_
     refine cx_skip ?_
     refine ex_block ?_
     refine ex_then (cx_region ?_)
     refine ox_y rfl (y_move_int rfl) ?_
     refine ox_y rfl (y_add rfl rfl) ?_
     refine ox_y rfl (y_assign_int rfl) ?_
     refine ox_nil ?_
     obtain rfl:=Option.some.inj h
     exact ex_next ⟨_,rfl,(keep (keep (keep (keep (keep rfl rfl) rfl) rfl) rfl) rfl)⟩
   ·refine cx_false (congrArg Value.bool hp5) ?_
    refine cx_exit ?_
    refine ex_then_exit ?_
    obtain rfl:=Option.some.inj h
    exact ex_stop ⟨rfl,_,rfl,(keep (keep (keep (keep (keep rfl rfl) rfl) rfl) rfl) rfl)⟩
  ·intro e L tm hJ
   rcases u4 with u10 | u11
   ·dsimp only at h hJ
    obtain ⟨rfl,tm0_u10,rfl,rfl⟩:=hJ
    refine ⟨(by intro hc; cases hc),?_⟩
    refine ex_block_ret (ex_then_ret ?_)
    obtain rfl:=Option.some.inj h
    exact ex_res1 (.inl rfl) rfl (resV_tmp (v:=.bool u10.1) rfl) (fun W2 hW2 => ⟨rfl,hW2.none⟩)
   ·dsimp only at h hJ
    obtain ⟨rfl,tm0_u11,rfl,rfl⟩:=hJ
    refine ⟨(by intro hc; cases hc),?_⟩
    refine ex_block_here ?_
    refine ex_then (cx_seq (cx_region ?_))
    refine ox_y rfl (y_assign_bool rfl) ?_
    refine ox_nil (ex_then (cx_ret ?_))
    obtain rfl:=Option.some.inj h
    exact ex_res1 (.inl rfl) rfl (resV_tmp (v:=.bool true) rfl) (fun W2 hW2 => ⟨rfl,hW2.none⟩)

theorem recall_walls_ok (p0_l:TLineage) (p1_set:(List (Int × Bool))) (res:((List Int) × Int)) (h:recall_walls p0_l p1_set = some res) (W:World) (A0_0:Option Addr) (n0_0 c0_0 : Nat) (hn0_0:n0_0 = p0_l.fNodes.length) (hr0_0:Rd W A0_0 n0_0 c0_0 (encL TNode_cells p0_l.fNodes)) (A0_1:Option Addr) (n0_1 c0_1 : Nat) (ys0_1:List (Hd × TClaim)) (hn0_1:n0_1 = p0_l.fClaims.length) (hr0_1:Rd W A0_1 n0_1 c0_1 (encL TClaim_cells2 ys0_1)) (hN0_1:NestW W (fun z : TClaim => z.fOptions) THop_cells ys0_1 p0_l.fClaims) (bm1_0:Nat) (hm1_0:(mapV Try.prog 3 kI rngB kB false bm1_0 p1_set).holds W) :
  Calls Try.prog 52 [.agg #[.slice A0_0 n0_0 c0_0,.slice A0_1 n0_1 c0_1],.map (some bm1_0)].toArray W fun e W2 => ∃ x : Option Addr × Nat × Nat,x.2.1 = res.1.length ∧ e = .returned (.tuple #[.slice x.1 x.2.1 x.2.2,.int .i64 res.2]) ∧ Ext W W2 [rowR x.1 x.2.2 3 1 x.2.1 (encL cI res.1)]:=by
 subst hn0_0
 subst hn0_1
 unfold recall_walls at h
 refine calls_enter (m:=38) Try.func52 rfl rfl (Nat.le_of_ble_eq_true rfl) ?_
 refine cx_seq (cx_region ?_)
 refine ox_box [.slice A0_0 p0_l.fNodes.length c0_0,.slice A0_1 p0_l.fClaims.length c0_1] rfl rfl rfl (fun b1 => ?_)
 refine ox_y rfl (y_assign_slice rfl) ?_
 refine ox_y rfl (y_assign_int rfl) ?_
 refine ox_nil (ex_then (cx_seq (cx_region ?_)))
 refine ox_makeMapV 3 kI rngB kB false rfl (fun b2 => ?_)
 refine ox_y rfl (y_assign_map rfl) ?_
 refine ox_nil (ex_then (cx_seq (cx_region ?_)))
 refine ox_y rfl (y_assign_int rfl) ?_
 refine ox_nil (ex_then (cx_seq (cx_seq (cx_region ?_))))
 refine ox_y rfl (y_fieldAddr fo_25_0 rfl) ?_
 refine ox_y rfl (y_load1 0 (v:=.slice A0_0 p0_l.fNodes.length c0_0) sc_22 rfl rfl rfl) ?_
 refine ox_y rfl (y_len (us:=[]) us_22 rfl) ?_
 refine ox_y rfl (y_move_int rfl) ?_
 refine ox_nil (ex_then (cx_block ?_))
 obtain ⟨u6,hl16,h⟩:=bind_some h
 refine cx_loop (fun (s:(Int × Int × (List (Int × Bool)))) L tm => ∃ (tm0:Nat → Value),L = [cellsR b1 25 [.slice A0_0 p0_l.fNodes.length c0_0,.slice A0_1 p0_l.fClaims.length c0_1],mapV Try.prog 3 kI rngB kB false b2 s.2.2] ∧ tm = (upd (upd (upd (upd (upd (upd (upd (upd (upd (upd tm0 0 (.agg #[.slice A0_0 p0_l.fNodes.length c0_0,.slice A0_1 p0_l.fClaims.length c0_1])) 1 (.map (some bm1_0))) 2 (.pointer (some ⟨b1,0,none⟩))) 4 (.slice none 0 0)) 5 (.int .i64 0)) 6 (.map (some b2))) 7 (.int .i64 s.1)) 12 (.slice A0_0 p0_l.fNodes.length c0_0)) 13 (.int .i64 (p0_l.fNodes.length:Int))) 14 (.int .i64 s.2.1))) (fun s e L tm => e = .exit 0 ∧ ∃ (tm0:Nat → Value),L = [cellsR b1 25 [.slice A0_0 p0_l.fNodes.length c0_0,.slice A0_1 p0_l.fClaims.length c0_1],mapV Try.prog 3 kI rngB kB false b2 s.2.2] ∧ tm = (upd (upd (upd (upd (upd (upd (upd (upd (upd (upd tm0 0 (.agg #[.slice A0_0 p0_l.fNodes.length c0_0,.slice A0_1 p0_l.fClaims.length c0_1])) 1 (.map (some bm1_0))) 2 (.pointer (some ⟨b1,0,none⟩))) 4 (.slice none 0 0)) 5 (.int .i64 0)) 6 (.map (some b2))) 7 (.int .i64 s.1)) 12 (.slice A0_0 p0_l.fNodes.length c0_0)) 13 (.int .i64 (p0_l.fNodes.length:Int))) 14 (.int .i64 s.2.1))) hl16 ⟨_,rfl,(keep (keep (keep (keep (keep (keep (keep (keep (keep (keep rfl rfl) rfl) rfl) rfl) rfl) rfl) rfl) rfl) rfl) rfl)⟩ ?_ ?_
 ·rintro s5 L tm st ⟨tm0_s5,rfl,rfl⟩ h
  unfold recall_walls_l1 at h
  refine cx_seq (cx_region ?_)
  refine ox_y rfl (y_lss rfl rfl) ?_
  refine ox_nil (ex_then (cx_seq ?_))
  rcases ite_some h with ⟨hp7,h⟩ | ⟨hp7,h⟩
  ·refine cx_true (congrArg Value.bool hp7) ?_
   refine cx_skip (ex_then (cx_seq (cx_block (cx_seq (cx_region ?_)))))
   obtain ⟨hg8,h⟩:=guardO_some h
   refine ox_y rfl (y_indexR sl_22 (by decide) hg8.1 hg8.2 (RdL.arg hr0_0) (encL_len TNode_cells_len rfl) rfl rfl) ?_
   refine ox_y rfl (y_loadRN (A:=A0_0) (j:=(Int.toNat s5.2.1 * 3)) [.int .i64 ((rdL p0_l.fNodes s5.2.1).fID),.int .i64 ((rdL p0_l.fNodes s5.2.1).fLevel),.int .i64 ((rdL p0_l.fNodes s5.2.1).fCost)] ag_41 (Nat.succ_pos _) (RdL.arg hr0_0) rfl (encL_gets TNode_cells_len hg8.1 (lt_nat hg8.2 rfl))) ?_
   refine ox_alloc ze_41 rfl (fun b9 => ?_)
   refine ox_n rfl (y_storeN 2 [.int .i64 ((rdL p0_l.fNodes s5.2.1).fID),.int .i64 ((rdL p0_l.fNodes s5.2.1).fLevel),.int .i64 ((rdL p0_l.fNodes s5.2.1).fCost)] sz_41 rfl (Nat.le_of_ble_eq_true rfl) rfl rfl rfl) ?_
   refine ox_nil (ex_then (cx_seq (cx_region ?_)))
   refine ox_y rfl (y_fieldAddr fo_41_1 rfl) ?_
   refine ox_y rfl (y_load1 2 (v:=.int .i64 ((rdL p0_l.fNodes s5.2.1).fLevel)) sc_3 rfl rfl rfl) ?_
   refine ox_y rfl (y_eql rfl rfl) ?_
   refine ox_y rfl (y_move_bool rfl) ?_
   obtain ⟨b11,hb12,h⟩:=bind_some h
   refine ox_join 5 (fun tm0 => (upd (upd (upd (upd (upd (upd (upd (upd (upd (upd (upd (upd (upd tm0 0 (.agg #[.slice A0_0 p0_l.fNodes.length c0_0,.slice A0_1 p0_l.fClaims.length c0_1])) 1 (.map (some bm1_0))) 2 (.pointer (some ⟨b1,0,none⟩))) 4 (.slice none 0 0)) 5 (.int .i64 0)) 6 (.map (some b2))) 7 (.int .i64 s5.1)) 12 (.slice A0_0 p0_l.fNodes.length c0_0)) 13 (.int .i64 (p0_l.fNodes.length:Int))) 14 (.int .i64 s5.2.1)) 15 (.bool (decide (s5.2.1 < (p0_l.fNodes.length:Int))))) 9 (.pointer (some ⟨b9,0,none⟩))) 26 (.bool b11))) (fun tm0 => ?_) (fun key => ?_)
   ·refine ox_nil (ex_then ?_)
    rcases ite_some h with ⟨hp13,h⟩ | ⟨hp13,h⟩
    ·refine cx_true (congrArg Value.bool hp13) ?_
     refine cx_seq (cx_region ?_)
     refine ox_y rfl (y_move_map rfl) ?_
     refine ox_y rfl (y_fieldAddr fo_41_0 rfl) ?_
     refine ox_y rfl (y_load1 2 (v:=.int .i64 ((rdL p0_l.fNodes s5.2.1).fID)) sc_3 rfl rfl rfl) ?_
     obtain ⟨hg14,h⟩:=guardO_some h
     refine ox_n rfl (y_updateV 1 (k:=(rdL p0_l.fNodes s5.2.1).fID) (v:=true) rfl ke_3 um_74 rfl rfl rfl hg14) ?_
     refine ox_nil (ex_then (cx_region ?_))
     refine ox_y rfl (y_move_int rfl) ?_
     refine ox_y rfl (y_fieldAddr fo_41_2 rfl) ?_
     refine ox_y rfl (y_load1 2 (v:=.int .i64 ((rdL p0_l.fNodes s5.2.1).fCost)) sc_3 rfl rfl rfl) ?_
     refine ox_y rfl (y_add rfl rfl) ?_
     refine ox_y rfl (y_assign_int rfl) ?_
     refine ox_nil ?_
     refine ex_block ?_
     refine ex_then (cx_region ?_)
     refine ox_y rfl (y_add rfl rfl) ?_
     refine ox_y rfl (y_move_int rfl) ?_
     refine ox_nil ?_
     refine ex_take 2 ?_
     obtain rfl:=Option.some.inj h
     exact ex_next ⟨_,rfl,(keep (keep (keep (keep (keep (keep (keep (keep (keep (keep rfl rfl) rfl) rfl) rfl) rfl) rfl) rfl) rfl) rfl) rfl)⟩
    ·refine cx_false (congrArg Value.bool hp13) ?_
     refine cx_skip ?_
     refine ex_block ?_
     refine ex_then (cx_region ?_)
     refine ox_y rfl (y_add rfl rfl) ?_
     refine ox_y rfl (y_move_int rfl) ?_
     refine ox_nil ?_
     refine ex_take 2 ?_
     obtain rfl:=Option.some.inj h
     exact ex_next ⟨_,rfl,(keep (keep (keep (keep (keep (keep (keep (keep (keep (keep rfl rfl) rfl) rfl) rfl) rfl) rfl) rfl) rfl) rfl) rfl)⟩
   ·clear h; rcases ite_some hb12 with ⟨hp10,h⟩ | ⟨hp10,h⟩
    ·refine ox_y (sees_t rfl rfl rfl rfl hp10) (y_move_map rfl) ?_
     refine ox_y (sees_t rfl rfl rfl rfl hp10) (y_fieldAddr fo_41_0 rfl) ?_
     refine ox_y (sees_t rfl rfl rfl rfl hp10) (y_load1 2 (v:=.int .i64 ((rdL p0_l.fNodes s5.2.1).fID)) sc_3 rfl rfl rfl) ?_
     obtain ⟨hg15,h⟩:=guardO_some h
     refine ox_y (sees_t rfl rfl rfl rfl hp10) (y_lookupV (k:=(rdL p0_l.fNodes s5.2.1).fID) (MpL.arg hm1_0) ke_3 um_74 ze_4 rfl rfl hg15) ?_
     refine ox_y rfl (y_pick_tb (congrArg Value.bool hp10) rfl) ?_
     obtain rfl:=Option.some.inj h
     exact key _ _ (keep (keep (keep (keep (keep (keep (keep (keep (keep (keep (keep (keep (keep rfl rfl) rfl) rfl) rfl) rfl) rfl) rfl) rfl) rfl) rfl) rfl) rfl) rfl)
    ·refine ox_skip (sees_f rfl rfl rfl rfl hp10) ?_
     refine ox_skip (sees_f rfl rfl rfl rfl hp10) ?_
     refine ox_skip (sees_f rfl rfl rfl rfl hp10) ?_
     refine ox_skip (sees_f rfl rfl rfl rfl hp10) ?_
     refine ox_y rfl (y_pick_fb (congrArg Value.bool hp10) rfl) ?_
     obtain rfl:=Option.some.inj h
     exact key _ _ (keep (keep (keep (keep (keep (keep (keep (keep (keep (keep (keep (keep (keep rfl rfl) rfl) rfl) rfl) rfl) rfl) rfl) rfl) rfl) rfl) rfl) rfl) rfl)
  ·refine cx_false (congrArg Value.bool hp7) ?_
   refine cx_exit ?_
   refine ex_then_exit ?_
   obtain rfl:=Option.some.inj h
   exact ex_stop ⟨rfl,_,rfl,(keep (keep (keep (keep (keep (keep (keep (keep (keep (keep rfl rfl) rfl) rfl) rfl) rfl) rfl) rfl) rfl) rfl) rfl)⟩
 ·intro e L tm hJ
  obtain ⟨rfl,tm0_u6,rfl,rfl⟩:=hJ
  refine ⟨(by intro hc; cases hc),?_⟩
  refine ex_block_here ?_
  refine ex_then (cx_seq (cx_region ?_))
  refine ox_y rfl (y_move_map rfl) ?_
  obtain ⟨y17,hy18,h⟩:=bind_some h
  refine ox_call [.map (some b2)] _ _ _ rfl go_44 rfl (fun W2 hW2 => recall_listed_ok u6.2.2 y17 hy18 W2 b2 ((MpL.own 1 rfl) W2 hW2)) ?_
  rintro ⟨A19,n21,c20⟩ hn22
  replace hn22 : n21 = y17.length:=hn22; subst hn22
  refine ox_y rfl (y_move_int rfl) ?_
  refine ox_y rfl (y_assign_slice rfl) ?_
  refine ox_y rfl (y_assign_int rfl) ?_
  refine ox_nil (ex_then (cx_ret ?_))
  obtain rfl:=Option.some.inj h
  exact ex_res2 (.inl rfl) rfl (resV_tmp (v:=.slice A19 y17.length c20) rfl) (resV_tmp (v:=.int .i64 u6.1) rfl) (fun W2 hW2 => ⟨(A19,y17.length,c20),rfl,rfl,(hW2.pick 2 rfl)⟩)

theorem recall_Recall_ok (p0_l:TLineage) (p1_from:(List Int)) (p2_surely:Bool) (res:((List Int) × Int × Int)) (h:recall_Recall p0_l p1_from p2_surely = some res) (W:World) (A0_0:Option Addr) (n0_0 c0_0 : Nat) (hn0_0:n0_0 = p0_l.fNodes.length) (hr0_0:Rd W A0_0 n0_0 c0_0 (encL TNode_cells p0_l.fNodes)) (A0_1:Option Addr) (n0_1 c0_1 : Nat) (ys0_1:List (Hd × TClaim)) (hn0_1:n0_1 = p0_l.fClaims.length) (hr0_1:Rd W A0_1 n0_1 c0_1 (encL TClaim_cells2 ys0_1)) (hN0_1:NestW W (fun z : TClaim => z.fOptions) THop_cells ys0_1 p0_l.fClaims) (A1_0:Option Addr) (n1_0 c1_0 : Nat) (hn1_0:n1_0 = p1_from.length) (hr1_0:Rd W A1_0 n1_0 c1_0 (encL cI p1_from)) :
  Calls Try.prog 23 [.agg #[.slice A0_0 n0_0 c0_0,.slice A0_1 n0_1 c0_1],.slice A1_0 n1_0 c1_0,.bool p2_surely].toArray W fun e W2 => ∃ x : Option Addr × Nat × Nat,x.2.1 = res.1.length ∧ e = .returned (.tuple #[.slice x.1 x.2.1 x.2.2,.int .i64 res.2.1,.int .i64 res.2.2]) ∧ Ext W W2 [rowR x.1 x.2.2 3 1 x.2.1 (encL cI res.1)]:=by
 subst hn0_0
 subst hn0_1
 subst hn1_0
 unfold recall_Recall at h
 refine calls_enter (m:=34) Try.func23 rfl rfl (Nat.le_of_ble_eq_true rfl) ?_
 refine cx_seq (cx_region ?_)
 refine ox_box [.slice A0_0 p0_l.fNodes.length c0_0,.slice A0_1 p0_l.fClaims.length c0_1] rfl rfl rfl (fun b1 => ?_)
 refine ox_y rfl (y_assign_slice rfl) ?_
 refine ox_y rfl (y_assign_int rfl) ?_
 refine ox_y rfl (y_assign_int rfl) ?_
 refine ox_nil (ex_then (cx_seq (cx_seq (cx_region ?_))))
 refine ox_y rfl (y_loadN 0 [.slice A0_0 p0_l.fNodes.length c0_0,.slice A0_1 p0_l.fClaims.length c0_1] ag_25 rfl rfl rfl) ?_
 refine ox_y rfl (y_move_slice rfl) ?_
 obtain ⟨y2,hy3,h⟩:=bind_some h
 refine ox_y rfl (y_call [.agg #[.slice A0_0 p0_l.fNodes.length c0_0,.slice A0_1 p0_l.fClaims.length c0_1],.slice A1_0 p1_from.length c1_0] go_43 rfl (fun W2 hW2 => recall_asked_ok p0_l p1_from y2 hy3 W2 A0_0 p0_l.fNodes.length c0_0 rfl ((RdL.arg hr0_0) W2 hW2) A0_1 p0_l.fClaims.length c0_1 ys0_1 rfl ((RdL.arg hr0_1) W2 hW2) (NestL.at (NestL.arg hN0_1) W2 hW2) A1_0 p1_from.length c1_0 rfl ((RdL.arg hr1_0) W2 hW2)) rfl) ?_
 refine ox_y rfl (y_assign_int rfl) ?_
 refine ox_nil (ex_then (cx_seq (cx_region ?_)))
 refine ox_y rfl (y_move_int rfl) ?_
 refine ox_y rfl (y_neq rfl rfl) ?_
 refine ox_nil (ex_then ?_)
 rcases ite_some h with ⟨hp4,h⟩ | ⟨hp4,h⟩
 ·refine cx_true (congrArg Value.bool hp4) ?_
  refine cx_seq (cx_region ?_)
  refine ox_y rfl (y_move_int rfl) ?_
  refine ox_y rfl (y_assign_slice rfl) ?_
  refine ox_y rfl (y_assign_int rfl) ?_
  refine ox_y rfl (y_assign_int rfl) ?_
  refine ox_nil (ex_then (cx_ret (ex_then_ret ?_)))
  obtain rfl:=Option.some.inj h
  exact ex_res3 (.inl rfl) rfl (resV_tmp (v:=.slice none 0 0) rfl) (resV_tmp (v:=.int .i64 0) rfl) (resV_tmp (v:=.int .i64 y2) rfl) (fun W2 hW2 => ⟨(none,0,0),rfl,rfl,((hW2.nilrow 3 1).pick 1 rfl)⟩)
 ·refine cx_false (congrArg Value.bool hp4) ?_
  refine cx_skip (ex_then (cx_seq (cx_region ?_)))
  refine ox_y rfl (y_loadN 0 [.slice A0_0 p0_l.fNodes.length c0_0,.slice A0_1 p0_l.fClaims.length c0_1] ag_25 rfl rfl rfl) ?_
  refine ox_y rfl (y_move_slice rfl) ?_
  obtain ⟨y5,hy6,h⟩:=bind_some h
  refine ox_call1 [.agg #[.slice A0_0 p0_l.fNodes.length c0_0,.slice A0_1 p0_l.fClaims.length c0_1],.slice A1_0 p1_from.length c1_0] _ _ rfl go_46 rfl (fun W2 hW2 => recall_possible_ok p0_l p1_from y5 hy6 W2 A0_0 p0_l.fNodes.length c0_0 rfl ((RdL.arg hr0_0) W2 hW2) A0_1 p0_l.fClaims.length c0_1 ys0_1 rfl ((RdL.arg hr0_1) W2 hW2) (NestL.at (NestL.arg hN0_1) W2 hW2) A1_0 p1_from.length c1_0 rfl ((RdL.arg hr1_0) W2 hW2)) ?_
  rintro b7
  refine ox_y rfl (y_assign_map rfl) ?_
  refine ox_nil (ex_then (cx_seq (cx_seq (cx_region ?_))))
  refine ox_y rfl (y_move_bool rfl) ?_
  refine ox_nil (ex_then ?_)
  rcases ite_some h with ⟨hp8,h⟩ | ⟨hp8,h⟩
  ·refine cx_true (congrArg Value.bool hp8) ?_
   refine cx_region ?_
   refine ox_y rfl (y_loadN 0 [.slice A0_0 p0_l.fNodes.length c0_0,.slice A0_1 p0_l.fClaims.length c0_1] ag_25 rfl rfl rfl) ?_
   refine ox_y rfl (y_move_slice rfl) ?_
   obtain ⟨y9,hy10,h⟩:=bind_some h
   refine ox_call1 [.agg #[.slice A0_0 p0_l.fNodes.length c0_0,.slice A0_1 p0_l.fClaims.length c0_1],.slice A1_0 p1_from.length c1_0] _ _ rfl go_45 rfl (fun W2 hW2 => recall_sure_ok p0_l p1_from y9 hy10 W2 A0_0 p0_l.fNodes.length c0_0 rfl ((RdL.arg hr0_0) W2 hW2) A0_1 p0_l.fClaims.length c0_1 ys0_1 rfl ((RdL.arg hr0_1) W2 hW2) (NestL.at (NestL.arg hN0_1) W2 hW2) A1_0 p1_from.length c1_0 rfl ((RdL.arg hr1_0) W2 hW2)) ?_
   rintro b11
   refine ox_y rfl (y_assign_map rfl) ?_
   refine ox_nil (ex_then (cx_seq (cx_region ?_)))
   refine ox_y rfl (y_loadN 0 [.slice A0_0 p0_l.fNodes.length c0_0,.slice A0_1 p0_l.fClaims.length c0_1] ag_25 rfl rfl rfl) ?_
   refine ox_y rfl (y_move_map rfl) ?_
   obtain ⟨y12,hy13,h⟩:=bind_some h
   refine ox_call [.agg #[.slice A0_0 p0_l.fNodes.length c0_0,.slice A0_1 p0_l.fClaims.length c0_1],.map (some b11)] _ _ _ rfl go_52 rfl (fun W2 hW2 => recall_walls_ok p0_l y9 y12 hy13 W2 A0_0 p0_l.fNodes.length c0_0 rfl ((RdL.arg hr0_0) W2 hW2) A0_1 p0_l.fClaims.length c0_1 ys0_1 rfl ((RdL.arg hr0_1) W2 hW2) (NestL.at (NestL.arg hN0_1) W2 hW2) b11 ((MpL.own 2 rfl) W2 hW2)) ?_
   rintro ⟨A14,n16,c15⟩ hn17
   replace hn17 : n16 = y12.1.length:=hn17; subst hn17
   refine ox_y rfl (y_move_tuple rfl) ?_
   refine ox_y rfl (y_extract (vs:=[.slice A14 y12.1.length c15,.int .i64 y12.2]) (v:=.slice A14 y12.1.length c15) rfl rfl) ?_
   refine ox_y rfl (y_extract (vs:=[.slice A14 y12.1.length c15,.int .i64 y12.2]) (v:=.int .i64 y12.2) rfl rfl) ?_
   refine ox_y rfl (y_assign_slice rfl) ?_
   refine ox_y rfl (y_assign_int rfl) ?_
   refine ox_nil (ex_then (cx_seq (cx_region ?_)))
   refine ox_y rfl (y_move_slice rfl) ?_
   refine ox_y rfl (y_move_int rfl) ?_
   refine ox_y rfl (y_assign_slice rfl) ?_
   refine ox_y rfl (y_assign_int rfl) ?_
   refine ox_y rfl (y_assign_int rfl) ?_
   refine ox_nil (ex_then (cx_ret ?_))
   obtain rfl:=Option.some.inj h
   exact ex_res3 (.inl rfl) rfl (resV_tmp (v:=.slice A14 y12.1.length c15) rfl) (resV_tmp (v:=.int .i64 y12.2) rfl) (resV_tmp (v:=.int .i64 0) rfl) (fun W2 hW2 => ⟨(A14,y12.1.length,c15),rfl,rfl,(hW2.pick 3 rfl)⟩)
  ·refine cx_false (congrArg Value.bool hp8) ?_
   refine cx_skip (ex_then (cx_seq (cx_region ?_)))
   refine ox_y rfl (y_loadN 0 [.slice A0_0 p0_l.fNodes.length c0_0,.slice A0_1 p0_l.fClaims.length c0_1] ag_25 rfl rfl rfl) ?_
   refine ox_y rfl (y_move_map rfl) ?_
   obtain ⟨y18,hy19,h⟩:=bind_some h
   refine ox_call [.agg #[.slice A0_0 p0_l.fNodes.length c0_0,.slice A0_1 p0_l.fClaims.length c0_1],.map (some b7)] _ _ _ rfl go_52 rfl (fun W2 hW2 => recall_walls_ok p0_l y5 y18 hy19 W2 A0_0 p0_l.fNodes.length c0_0 rfl ((RdL.arg hr0_0) W2 hW2) A0_1 p0_l.fClaims.length c0_1 ys0_1 rfl ((RdL.arg hr0_1) W2 hW2) (NestL.at (NestL.arg hN0_1) W2 hW2) b7 ((MpL.own 1 rfl) W2 hW2)) ?_
   rintro ⟨A20,n22,c21⟩ hn23
   replace hn23 : n22 = y18.1.length:=hn23; subst hn23
   refine ox_y rfl (y_move_tuple rfl) ?_
   refine ox_y rfl (y_extract (vs:=[.slice A20 y18.1.length c21,.int .i64 y18.2]) (v:=.slice A20 y18.1.length c21) rfl rfl) ?_
   refine ox_y rfl (y_extract (vs:=[.slice A20 y18.1.length c21,.int .i64 y18.2]) (v:=.int .i64 y18.2) rfl rfl) ?_
   refine ox_y rfl (y_assign_slice rfl) ?_
   refine ox_y rfl (y_assign_int rfl) ?_
   refine ox_nil (ex_then (cx_seq (cx_region ?_)))
   refine ox_y rfl (y_move_slice rfl) ?_
   refine ox_y rfl (y_move_int rfl) ?_
   refine ox_y rfl (y_assign_slice rfl) ?_
   refine ox_y rfl (y_assign_int rfl) ?_
   refine ox_y rfl (y_assign_int rfl) ?_
   refine ox_nil (ex_then (cx_ret ?_))
   obtain rfl:=Option.some.inj h
   exact ex_res3 (.inl rfl) rfl (resV_tmp (v:=.slice A20 y18.1.length c21) rfl) (resV_tmp (v:=.int .i64 y18.2) rfl) (resV_tmp (v:=.int .i64 0) rfl) (fun W2 hW2 => ⟨(A20,y18.1.length,c21),rfl,rfl,(hW2.pick 2 rfl)⟩)

theorem slices_Clone_Hop_Hop_ok (p0_s:(List THop)) (res:(List THop)) (h:slices_Clone_Hop_Hop p0_s = some res) (W:World) (A0_0:Option Addr) (n0_0 c0_0 : Nat) (hn0_0:n0_0 = p0_s.length) (hr0_0:Rd W A0_0 n0_0 c0_0 (encL THop_cells p0_s)) :
  Calls Try.prog 57 [.slice A0_0 n0_0 c0_0].toArray W fun e W2 => ∃ x : Option Addr × Nat × Nat,x.2.1 = res.length ∧ e = .returned (.slice x.1 x.2.1 x.2.2) ∧ Ext W W2 [rowR x.1 x.2.2 93 2 x.2.1 (encL THop_cells res)]:=by
 subst hn0_0
 unfold slices_Clone_Hop_Hop at h
 refine calls_enter (m:=8) Try.func57 rfl rfl (Nat.le_of_ble_eq_true rfl) ?_
 refine cx_seq (cx_region ?_)
 refine ox_y rfl (y_assign_slice rfl) ?_
 refine ox_nil (ex_then (cx_seq (cx_seq (cx_region ?_))))
 refine ox_y rfl (y_move_slice rfl) ?_
 refine ox_y rfl (y_eqnil us_33 rfl rfl) ?_
 refine ox_nil (ex_then ?_)
 rcases bool_cases (Option.isNone A0_0) with hp1 | hp1
 ·refine cx_true (congrArg Value.bool hp1) ?_
  have z6:=rd_none (Option.isNone_iff_eq_none.1 hp1 ▸ hr0_0) THop_cells_len (by decide)
  replace h:=(guardO_some h).2
  rw [z6] at h
  refine cx_seq (cx_region ?_)
  refine ox_y rfl (y_assign_slice rfl) ?_
  refine ox_nil (ex_then (cx_ret (ex_then_ret ?_)))
  obtain rfl:=Option.some.inj h
  exact ex_res1 (.inl rfl) rfl (resV_tmp (v:=.slice none 0 0) rfl) (fun W2 hW2 => ⟨(none,0,0),rfl,rfl,((hW2.nilrow 93 2).pick 0 rfl)⟩)
 ·refine cx_false (congrArg Value.bool hp1) ?_
  refine cx_skip (ex_then (cx_seq (cx_region ?_)))
  refine ox_buildSlice0 THop_cells us_33 ze_93 by_93 rfl (fun b2 => ?_)
  refine ox_y rfl (y_move_slice rfl) ?_
  obtain ⟨hg5,h⟩:=guardO_some h
  refine ox_append0 0 us_33 ze_93 by_93 rfl rfl rfl (RdL.arg hr0_0) (encL_len THop_cells_len rfl) (encL_one THop_cells_one _) (app_room hg5 (by decide)) rfl (fun A3 c4 => ?_)
  refine ox_y rfl (y_assign_slice rfl) ?_
  refine ox_nil (ex_then (cx_ret ?_))
  obtain rfl:=Option.some.inj h
  exact ex_res1 (.inl rfl) rfl (resV_tmp (v:=.slice A3 (0 + p0_s.length) c4) rfl) (fun W2 hW2 => ⟨(A3,(0 + p0_s.length),c4),(hn_app rfl rfl),rfl,(hW2.pick 0 rfl)⟩)

theorem slices_Clone_Node_Node_ok (p0_s:(List TNode)) (res:(List TNode)) (h:slices_Clone_Node_Node p0_s = some res) (W:World) (A0_0:Option Addr) (n0_0 c0_0 : Nat) (hn0_0:n0_0 = p0_s.length) (hr0_0:Rd W A0_0 n0_0 c0_0 (encL TNode_cells p0_s)) :
  Calls Try.prog 84 [.slice A0_0 n0_0 c0_0].toArray W fun e W2 => ∃ x : Option Addr × Nat × Nat,x.2.1 = res.length ∧ e = .returned (.slice x.1 x.2.1 x.2.2) ∧ Ext W W2 [rowR x.1 x.2.2 41 3 x.2.1 (encL TNode_cells res)]:=by
 subst hn0_0
 unfold slices_Clone_Node_Node at h
 refine calls_enter (m:=8) Try.func84 rfl rfl (Nat.le_of_ble_eq_true rfl) ?_
 refine cx_seq (cx_region ?_)
 refine ox_y rfl (y_assign_slice rfl) ?_
 refine ox_nil (ex_then (cx_seq (cx_seq (cx_region ?_))))
 refine ox_y rfl (y_move_slice rfl) ?_
 refine ox_y rfl (y_eqnil us_22 rfl rfl) ?_
 refine ox_nil (ex_then ?_)
 rcases bool_cases (Option.isNone A0_0) with hp1 | hp1
 ·refine cx_true (congrArg Value.bool hp1) ?_
  have z6:=rd_none (Option.isNone_iff_eq_none.1 hp1 ▸ hr0_0) TNode_cells_len (by decide)
  replace h:=(guardO_some h).2
  rw [z6] at h
  refine cx_seq (cx_region ?_)
  refine ox_y rfl (y_assign_slice rfl) ?_
  refine ox_nil (ex_then (cx_ret (ex_then_ret ?_)))
  obtain rfl:=Option.some.inj h
  exact ex_res1 (.inl rfl) rfl (resV_tmp (v:=.slice none 0 0) rfl) (fun W2 hW2 => ⟨(none,0,0),rfl,rfl,((hW2.nilrow 41 3).pick 0 rfl)⟩)
 ·refine cx_false (congrArg Value.bool hp1) ?_
  refine cx_skip (ex_then (cx_seq (cx_region ?_)))
  refine ox_buildSlice0 TNode_cells us_22 ze_41 by_41 rfl (fun b2 => ?_)
  refine ox_y rfl (y_move_slice rfl) ?_
  obtain ⟨hg5,h⟩:=guardO_some h
  refine ox_append0 0 us_22 ze_41 by_41 rfl rfl rfl (RdL.arg hr0_0) (encL_len TNode_cells_len rfl) (encL_one TNode_cells_one _) (app_room hg5 (by decide)) rfl (fun A3 c4 => ?_)
  refine ox_y rfl (y_assign_slice rfl) ?_
  refine ox_nil (ex_then (cx_ret ?_))
  obtain rfl:=Option.some.inj h
  exact ex_res1 (.inl rfl) rfl (resV_tmp (v:=.slice A3 (0 + p0_s.length) c4) rfl) (fun W2 hW2 => ⟨(A3,(0 + p0_s.length),c4),(hn_app rfl rfl),rfl,(hW2.pick 0 rfl)⟩)

end Go.Proofs.Ytbblpokfbmekfaa
