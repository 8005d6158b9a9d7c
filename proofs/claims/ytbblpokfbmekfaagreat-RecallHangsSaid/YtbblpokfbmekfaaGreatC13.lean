import Derived.Test.YtbblpokfbmekfaaGreatF
import Derived.Test.YtbblpokfbmekfaaGreatG8
import Derived.Test.YtbblpokfbmekfaaGreatGv
import Derived.Test.YtbblpokfbmekfaaGreatC4
import Derived.Test.YtbblpokfbmekfaaGreatC9
import Derived.Test.YtbblpokfbmekfaaGreatC2
import Derived.Test.YtbblpokfbmekfaaGreatC3
set_option maxHeartbeats 4000000
set_option maxRecDepth 100000
set_option linter.unusedVariables false
namespace Go.Proofs.YtbblpokfbmekfaaGreat
open Go.RowKit (Below)
attribute [local irreducible] OX QX CX EX OpY Calls CallsIn
theorem ref09_Possible_ok (p0:TL) (p1:(List Int)) (p2:Int) (res:Bool) (h:ref09_Possible p0 p1 p2 = some res) (W:World) (Aa:Option Addr) (n0_0 ca : Nat) (hn0_0:n0_0 = p0.fNo.length) (hr0_0:Rd W Aa n0_0 ca (encL TNode_cells p0.fNo)) (Ab:Option Addr) (n0_1 cb : Nat) (ys0_1:List (Hd × TC)) (hn0_1:n0_1 = p0.fC.length) (hr0_1:Rd W Ab n0_1 cb (encL TClaim_cells2 ys0_1)) (hN0_1:NestW W (fun z : TC => z.fO) THop_cells ys0_1 p0.fC) (Ac:Option Addr) (n1_0 cc : Nat) (hn1_0:n1_0 = p1.length) (hr1_0:Rd W Ac n1_0 cc (encL cI p1)) :
  Calls Tryz.prog 43 [.agg #[.slice Aa n0_0 ca,.slice Ab n0_1 cb],.slice Ac n1_0 cc,.int .i64 p2].toArray W fun e W2 => e = .returned (.bool res) ∧ Ext W W2 []:=by
 subst hn0_0
 subst hn0_1
 subst hn1_0
 unfold ref09_Possible at h
 refine calls_enter (m:=21) Tryz.func43 rfl rfl (nB rfl) ?_
 refine cS (cR ?_)
 refine ox_box [.slice Aa p0.fNo.length ca,.slice Ab p0.fC.length cb] rfl rfl rfl (fun b1 => ?_)
 refine ox_y rfl (y_assign_bool rfl) ?_
 refine oN (eT (cS (cR ?_)))
 refine ox_y rfl (y_loadN 0 [.slice Aa p0.fNo.length ca,.slice Ab p0.fC.length cb] ag_25 rfl rfl rfl) (ox_y rfl (yMS rfl) ?_)
 obtain ⟨y2,hy3,h⟩:=bOs h
 refine ox_call [.agg #[.slice Aa p0.fNo.length ca,.slice Ab p0.fC.length cb],.slice Ac p1.length cc] _ _ _ rfl go_68 rfl (fun W2 hW2 => ref09_both_ok p0 p1 y2 hy3 W2 Aa p0.fNo.length ca rfl ((RdL.arg hr0_0) W2 hW2) Ab p0.fC.length cb ys0_1 rfl ((RdL.arg hr0_1) W2 hW2) (NestL.at (NestL.arg hN0_1) W2 hW2) Ac p1.length cc rfl ((RdL.arg hr1_0) W2 hW2)) ?_
 rintro ⟨⟨A4,n8,c5⟩,⟨A6,n10,c7⟩⟩ ⟨hn9,hn11⟩
 replace hn9 : n8 = y2.1.length:=hn9; subst hn9
 replace hn11 : n10 = y2.2.length:=hn11; subst hn11
 refine ox_y rfl (y_move_tuple rfl) (ox_y rfl (y_extract (vs:=[.slice A4 y2.1.length c5,.slice A6 y2.2.length c7]) (v:=.slice A4 y2.1.length c5) rfl rfl) (ox_y rfl (y_extract (vs:=[.slice A4 y2.1.length c5,.slice A6 y2.2.length c7]) (v:=.slice A6 y2.2.length c7) rfl rfl) (ox_y rfl (yAS rfl) (ox_y rfl (yAS rfl) ?_))))
 refine oN (eT (cS (cR ?_)))
 refine ox_y rfl (yMS rfl) (ox_y rfl (y_loadN 0 [.slice Aa p0.fNo.length ca,.slice Ab p0.fC.length cb] ag_25 rfl rfl rfl) (ox_y rfl (yMI rfl) ?_))
 obtain ⟨y12,hy13,h⟩:=bOs h
 refine ox_y rfl (y_call [.agg #[.slice Aa p0.fNo.length ca,.slice Ab p0.fC.length cb],.int .i64 p2] go_67 rfl (fun W2 hW2 => ref09_Node_ok p0 p2 y12 hy13 W2 Aa p0.fNo.length ca rfl ((RdL.arg hr0_0) W2 hW2) Ab p0.fC.length cb ys0_1 rfl ((RdL.arg hr0_1) W2 hW2) (NestL.at (NestL.arg hN0_1) W2 hW2)) rfl) ?_
 obtain ⟨hg14,h⟩:=gOs h
 refine ox_y rfl (y_indexR sl_98 (by decide) hg14.1 hg14.2 (RdL.row 2 rfl) (encL_len cB_len rfl) rfl rfl) ?_
 refine ox_y rfl (y_loadR1 (A:=A6) (j:=(Int.toNat y12 * 1)) (v:=.bool (rdL y2.2 y12)) sc_4 (RdL.row 2 rfl) rfl (encL_get0 cB_len hg14.1 (lt_nat hg14.2 rfl) rfl)) (ox_y rfl (y_assign_bool rfl) ?_)
 refine oN (eT (cx_ret ?_))
 obtain rfl:=sI h
 exact ex_res1 (.inl rfl) rfl (rVt (v:=.bool (rdL y2.2 y12)) rfl) (fun W2 hW2 => ⟨rfl,hW2.none⟩)
theorem ref09_without_ok (p0:TL) (p1:(List Int)) (res:TL) (h:ref09_without p0 p1 = some res) (W:World) (Aa:Option Addr) (n0_0 ca : Nat) (hn0_0:n0_0 = p0.fNo.length) (hr0_0:Rd W Aa n0_0 ca (encL TNode_cells p0.fNo)) (Ab:Option Addr) (n0_1 cb : Nat) (ys0_1:List (Hd × TC)) (hn0_1:n0_1 = p0.fC.length) (hr0_1:Rd W Ab n0_1 cb (encL TClaim_cells2 ys0_1)) (hN0_1:NestW W (fun z : TC => z.fO) THop_cells ys0_1 p0.fC) (Ac:Option Addr) (n1_0 cc : Nat) (hn1_0:n1_0 = p1.length) (hr1_0:Rd W Ac n1_0 cc (encL cI p1)) (wb:World) (Hb:World → Prop) (hB:∀ W3,Below W.heap.size W W3 → Below wb.heap.size wb W3 ∧ Hb W3) (hp0_1:PvL (fun z : TC => z.fO) THop_cells wb Hb ys0_1) :
  Calls Tryz.prog 79 [.agg #[.slice Aa n0_0 ca,.slice Ab n0_1 cb],.slice Ac n1_0 cc].toArray W fun e W2 => ∃ x : ((Option Addr × Nat × Nat) × (List (Hd × TC)) × Res),(x.1.2.1 = res.fC.length ∧ NestP (fun z : TC => z.fO) x.2.1 res.fC ∧ PvL (fun z : TC => z.fO) THop_cells wb (fun W4 => Hb W4 ∧ Res.holds x.2.2 W4) x.2.1) ∧ e = .returned (.agg #[.slice Aa n0_0 ca,.slice x.1.1 x.1.2.1 x.1.2.2]) ∧ Ext W W2 [rowR x.1.1 x.1.2.2 90 2 x.1.2.1 (encL TClaim_cells2 x.2.1),x.2.2]:=by
 subst hn0_0
 subst hn0_1
 subst hn1_0
 unfold ref09_without at h
 refine calls_enter (m:=37) Tryz.func79 rfl rfl (nB rfl) ?_
 refine cS (cR ?_)
 refine ox_box [.slice Aa p0.fNo.length ca,.slice Ab p0.fC.length cb] rfl rfl rfl (fun b1 => ?_)
 refine ox_alloc ze_25 rfl (fun b2 => ?_)
 refine oN (eT (cS (cR ?_)))
 refine ox_y rfl (yFA fo_25_0 rfl) (ox_y rfl (y_load1 0 (v:=.slice Aa p0.fNo.length ca) sc_22 rfl rfl rfl) ?_)
 refine ox_y rfl (y_buildS [.slice Aa p0.fNo.length ca,.slice none 0 0] [(0,1),(1,1)] ust_25 ze_25 (by kernel_rfl)) ?_
 refine ox_alloc ze_25 rfl (fun b3 => ?_)
 refine ox_n rfl (y_storeN 2 [.slice Aa p0.fNo.length ca,.slice none 0 0] sz_25 rfl (nB rfl) rfl rfl rfl) ?_
 refine oN (eT (cS (cS (cR ?_))))
 refine ox_y rfl (yAI rfl) ?_
 refine oN (eT (cx_block ?_))
 obtain ⟨u7,hl19,h⟩:=bOs h
 refine cx_nilrow 97 3 (cx_nilrow 90 2 (cx_nilrow 90 2 (cx_addNo (cx_addNo ?_))))
 refine cx_loop (fun (s:(Int × (List TC))) L tm => ∃ (tm0:Nat → Value) (A5_s:Option Addr) (c5_s:Nat) (n5_s:Nat) (ys5_s:List (Hd × TC)) (F5_s:Res),n5_s = s.2.length ∧ NestP (fun z : TC => z.fO) ys5_s s.2 ∧ PvL (fun z : TC => z.fO) THop_cells wb (fun W4 => Hb W4 ∧ Res.holds F5_s W4) ys5_s ∧ L = [cellsR b1 25 [.slice Aa p0.fNo.length ca,.slice Ab p0.fC.length cb],cellsR b2 25 [.slice none 0 0,.slice none 0 0],cellsR b3 25 [.slice Aa p0.fNo.length ca,.slice A5_s n5_s c5_s],rowR none 0 97 3 0 (encL TNode_cells ([]:List TN)),rowR none 0 90 2 0 (encL TClaim_cells2 ([]:List (Hd × TC))),rowR A5_s c5_s 90 2 n5_s (encL TClaim_cells2 ys5_s),noR,F5_s] ∧ tm = (upd (upd (upd (upd (upd (upd tm0 0 (.agg #[.slice Aa p0.fNo.length ca,.slice Ab p0.fC.length cb])) 1 (.slice Ac p1.length cc)) 2 (.pointer (some ⟨b1,0,none⟩))) 4 (.pointer (some ⟨b2,0,none⟩))) 5 (.pointer (some ⟨b3,0,none⟩))) 6 (.int .i64 s.1))) (fun s e L tm => e = .exit 0 ∧ ∃ (tm0:Nat → Value) (A5_s:Option Addr) (c5_s:Nat) (n5_s:Nat) (ys5_s:List (Hd × TC)) (F5_s:Res),n5_s = s.2.length ∧ NestP (fun z : TC => z.fO) ys5_s s.2 ∧ PvL (fun z : TC => z.fO) THop_cells wb (fun W4 => Hb W4 ∧ Res.holds F5_s W4) ys5_s ∧ L = [cellsR b1 25 [.slice Aa p0.fNo.length ca,.slice Ab p0.fC.length cb],cellsR b2 25 [.slice none 0 0,.slice none 0 0],cellsR b3 25 [.slice Aa p0.fNo.length ca,.slice A5_s n5_s c5_s],rowR none 0 97 3 0 (encL TNode_cells ([]:List TN)),rowR none 0 90 2 0 (encL TClaim_cells2 ([]:List (Hd × TC))),rowR A5_s c5_s 90 2 n5_s (encL TClaim_cells2 ys5_s),noR,F5_s] ∧ tm = (upd (upd (upd (upd (upd (upd tm0 0 (.agg #[.slice Aa p0.fNo.length ca,.slice Ab p0.fC.length cb])) 1 (.slice Ac p1.length cc)) 2 (.pointer (some ⟨b1,0,none⟩))) 4 (.pointer (some ⟨b2,0,none⟩))) 5 (.pointer (some ⟨b3,0,none⟩))) 6 (.int .i64 s.1))) hl19 ⟨_,none,0,0,([]:List (Hd × TC)),noR,rfl,NestP.nil,(PvL.mono (Hb:=Hb) PvL.nil (fun _ _ h => h.1)),rfl,(kp4 (kp (kp rfl)))⟩ ?_ ?_
 ·rintro s6 L tm st ⟨tm0_s6,A5_s6,c5_s6,n5_s6,ys5_s6,F5_s6,rfl,hP5_s6,hV5_s6,rfl,rfl⟩ h
  unfold ref09_without_l1 at h
  refine cS (cS (cR ?_))
  try dsimp only [lna,lca,lsz,lss]
  refine ox_y rfl (yMI rfl) (ox_y rfl (yFA fo_25_1 rfl) (ox_y rfl (y_load1 0 (v:=.slice Ab p0.fC.length cb) sc_23 rfl rfl rfl) (ox_y rfl (y_len (us:=[]) us_23 rfl) (ox_y rfl (y_lss rfl rfl) ?_))))
  refine oN (eT ?_)
  rcases iOs h with ⟨hp8,h⟩ | ⟨hp8,h⟩
  ·refine cx_true (vB hp8) ?_
   refine cx_skip (eT (cS (cx_block (cS (cR ?_)))))
   refine ox_y rfl (yMS rfl) (ox_y rfl (yFA fo_25_1 rfl) (ox_y rfl (y_load1 0 (v:=.slice Ab p0.fC.length cb) sc_23 rfl rfl rfl) (ox_y rfl (yMI rfl) ?_)))
   obtain ⟨hg9,h⟩:=gOs h
   refine ox_y rfl (y_indexR sl_23 (by decide) hg9.1 hg9.2 (RdL.arg hr0_1) (encL_len TClaim_cells2_len (NestP.hn hN0_1.p rfl)) rfl rfl) ?_
   refine ox_y rfl (y_fieldAddrR (A:=Ab) (j:=(Int.toNat s6.1 * 2)) fo_90_0 rfl) (ox_y rfl (y_loadR1 (A:=Ab) (j:=((Int.toNat s6.1 * 2) + 0)) (v:=.int .i64 ((rdL p0.fC s6.1).fID)) sc_3 (RdL.arg hr0_1) rfl (encL_get TClaim_cells2_len hg9.1 (lt_nat hg9.2 (NestP.hn hN0_1.p rfl)) (congrArg (fun z : TC => some (Value.int .i64 z.fID)) (NestP.snd hN0_1.p s6.1)))) ?_)
   obtain ⟨y10,hy11,h⟩:=bOs h
   refine ox_y rfl (y_call [.slice Ac p1.length cc,.int .i64 ((rdL p0.fC s6.1).fID)] go_82 rfl (fun W2 hW2 => ref09_has_ok p1 ((rdL p0.fC s6.1).fID) y10 hy11 W2 Ac p1.length cc rfl ((RdL.arg hr1_0) W2 hW2)) rfl) (ox_y rfl (y_not rfl) ?_)
   refine oN (eT ?_)
   rcases iOs h with ⟨hp12,h⟩ | ⟨hp12,h⟩
   ·refine cx_true (vB hp12) ?_
    obtain ⟨hg14,h⟩:=gOs h
    obtain ⟨hg18,h⟩:=gOs h
    refine cx_drawsG [[],[0],[],[2],[],[2,3,4],[2,3,4,5],[2,3,4,5,6],[0,1,2,3,4,5,6,7],[0,1,2,3,4,5,6,7,8],[0,1,2,3,4,5,6,7,8,9]] [(none,0,[true,true,true,true,true,true,true,true]),(none,0,[true,true,true,true,true,true,true,true]),(none,0,[true,true,true,true,true,true,true,true]),(none,0,[true,true,true,true,true,true,true,true]),(none,0,[true,true,true,true,true,true,true,true]),(none,0,[true,true,true,true,true,true,true,true]),(none,0,[true,true,true,true,true,true,true,true]),(none,1,[true,true,true,true,true,true,true,true]),(some 5,0,[true,true,true,true,true,true,true,true,true]),(none,0,[true,true,true,true,true,true,true,true,true]),(some 2,0,[true,true,true,true,true,true,true,true,true])] [⟨fun _ => .pointer (some ⟨b3,0 + 1,none⟩),fun _ => noR,fun _ => []⟩,⟨fun _ => .slice A5_s6 s6.2.length c5_s6,fun _ => noR,fun _ => []⟩,⟨fun _ => .pointer (some ⟨b1,0 + 1,none⟩),fun _ => noR,fun _ => []⟩,⟨fun _ => .slice Ab p0.fC.length cb,fun _ => noR,fun _ => []⟩,⟨fun _ => .int .i64 s6.1,fun _ => noR,fun _ => []⟩,⟨fun _ => slA Ab (Int.toNat s6.1 * 2),fun _ => noR,fun _ => []⟩,⟨fun _ => .agg #[.int .i64 ((rdL p0.fC s6.1).fID),.slice ((rdL ys0_1 s6.1).1.1) ((rdL p0.fC s6.1).fO.length) ((rdL ys0_1 s6.1).1.2.2)],fun _ => noR,fun _ => []⟩,⟨fun ξ13 => .slice (some ⟨(ξ13 7 0).2.1,0,none⟩) 1 1,fun _ => noR,fun ξ13 => [rowR (some ⟨(ξ13 7 0).2.1,0,none⟩) 1 90 2 1 (encL TClaim_cells2 [(((rdL ys0_1 s6.1).1.1,(rdL p0.fC s6.1).fO.length,(rdL ys0_1 s6.1).1.2.2),(TC.mk ((rdL p0.fC s6.1).fID) ((rdL p0.fC s6.1).fO)))])]⟩,⟨fun ξ13 => .slice (ξ13 8 0).1 (s6.2.length + 1) (ξ13 8 0).2.2.1,fun ξ13 => rowR (ξ13 8 0).1 (ξ13 8 0).2.2.1 90 2 (s6.2.length + 1) (encL TClaim_cells2 (ys5_s6 ++ [(((rdL ys0_1 s6.1).1.1,(rdL p0.fC s6.1).fO.length,(rdL ys0_1 s6.1).1.2.2),(TC.mk ((rdL p0.fC s6.1).fID) ((rdL p0.fC s6.1).fO)))])),fun _ => []⟩,⟨fun _ => .pointer (some ⟨b3,0 + 1,none⟩),fun _ => noR,fun _ => []⟩,⟨fun _ => undef,fun ξ13 => cellsR b3 25 [.slice Aa p0.fNo.length ca,.slice (ξ13 8 0).1 (s6.2.length + 1) (ξ13 8 0).2.2.1],fun _ => []⟩] 8 mixed (by kernel_rfl) (by kernel_rfl) ⟨⟨fun ξ13 ξ13' h => ⟨rfl,rfl,rfl⟩,fun _ => rfl⟩,⟨fun ξ13 ξ13' h => ⟨rfl,rfl,rfl⟩,fun _ => rfl⟩,⟨fun ξ13 ξ13' h => ⟨rfl,rfl,rfl⟩,fun _ => rfl⟩,⟨fun ξ13 ξ13' h => ⟨rfl,rfl,rfl⟩,fun _ => rfl⟩,⟨fun ξ13 ξ13' h => ⟨rfl,rfl,rfl⟩,fun _ => rfl⟩,⟨fun ξ13 ξ13' h => ⟨rfl,rfl,rfl⟩,fun _ => rfl⟩,⟨fun ξ13 ξ13' h => ⟨rfl,rfl,rfl⟩,fun _ => rfl⟩,⟨fun ξ13 ξ13' h => ⟨by simp only [h 7 (.inl rfl)],rfl,by simp only [h 7 (.inl rfl)]⟩,fun _ => rfl⟩,⟨fun ξ13 ξ13' h => ⟨by simp only [h 8 (.inl rfl)],by simp only [h 8 (.inl rfl)],rfl⟩,fun _ => rfl⟩,⟨fun ξ13 ξ13' h => ⟨rfl,rfl,rfl⟩,fun _ => rfl⟩,⟨fun ξ13 ξ13' h => ⟨rfl,by simp only [h 8 (.inr rfl)],rfl⟩,fun _ => rfl⟩,trivial⟩ rfl (fun ξ13 => ?_)
    refine gx_o rfl (fun L2 => ?_) ?_
    ·dsimp only [maskL,lca,lna]
     refine ox_y rfl (yFA fo_25_1 rfl) (oN ?_)
     exact ex_capG (fun _ => (none,0,0,[],noR)) rfl (List.append_nil _)
    dsimp only [aftL,lsz,lss,lna,lca,List.append_nil]
    refine gx_o rfl (fun L2 => ?_) ?_
    ·dsimp only [maskL,lca,lna]
     refine ox_y rfl (y_load1 2 (v:=.slice A5_s6 s6.2.length c5_s6) sc_23 rfl rfl rfl) (oN ?_)
     exact ex_capG (fun _ => (none,0,0,[],noR)) rfl (List.append_nil _)
    dsimp only [aftL,lsz,lss,lna,lca,List.append_nil]
    refine gx_o rfl (fun L2 => ?_) ?_
    ·dsimp only [maskL,lca,lna]
     refine ox_y rfl (yFA fo_25_1 rfl) (oN ?_)
     exact ex_capG (fun _ => (none,0,0,[],noR)) rfl (List.append_nil _)
    dsimp only [aftL,lsz,lss,lna,lca,List.append_nil]
    refine gx_o rfl (fun L2 => ?_) ?_
    ·dsimp only [maskL,lca,lna]
     refine ox_y rfl (y_load1 0 (v:=.slice Ab p0.fC.length cb) sc_23 rfl rfl rfl) (oN ?_)
     exact ex_capG (fun _ => (none,0,0,[],noR)) rfl (List.append_nil _)
    dsimp only [aftL,lsz,lss,lna,lca,List.append_nil]
    refine gx_o rfl (fun L2 => ?_) ?_
    ·dsimp only [maskL,lca,lna]
     refine ox_y rfl (yMI rfl) (oN ?_)
     exact ex_capG (fun _ => (none,0,0,[],noR)) rfl (List.append_nil _)
    dsimp only [aftL,lsz,lss,lna,lca,List.append_nil]
    refine gx_o rfl (fun L2 => ?_) ?_
    ·dsimp only [maskL,lca,lna]
     refine ox_y rfl (y_indexR sl_23 (by decide) hg14.1 hg14.2 (RdL.arg hr0_1) (encL_len TClaim_cells2_len (NestP.hn hN0_1.p rfl)) rfl rfl) ?_
     refine oN ?_
     exact ex_capG (fun _ => (none,0,0,[],noR)) rfl (List.append_nil _)
    dsimp only [aftL,lsz,lss,lna,lca,List.append_nil]
    refine gx_o rfl (fun L2 => ?_) ?_
    ·dsimp only [maskL,lca,lna]
     refine ox_y rfl (y_loadRN (A:=Ab) (j:=(Int.toNat s6.1 * 2)) [.int .i64 ((rdL p0.fC s6.1).fID),.slice ((rdL ys0_1 s6.1).1.1) ((rdL p0.fC s6.1).fO.length) ((rdL ys0_1 s6.1).1.2.2)] ag_90 (Nat.succ_pos _) (RdL.arg hr0_1) rfl (gets_eq (TClaim_cells2_eq (NestP.snd hN0_1.p s6.1) (NestP.len hN0_1.p hg14.1 (lt_nat hg14.2 rfl))).symm (encL_gets TClaim_cells2_len hg14.1 (lt_nat hg14.2 (NestP.hn hN0_1.p rfl))))) (oN ?_)
     exact ex_capG (fun _ => (none,0,0,[],noR)) rfl (List.append_nil _)
    dsimp only [aftL,lsz,lss,lna,lca,List.append_nil]
    refine gx_o rfl (fun L2 => ?_) ?_
    ·dsimp only [maskL,lca,lna]
     refine ox_buildSliceE 1 (encL TClaim_cells2 [(((rdL ys0_1 s6.1).1.1,(rdL p0.fC s6.1).fO.length,(rdL ys0_1 s6.1).1.2.2),(TC.mk ((rdL p0.fC s6.1).fID) ((rdL p0.fC s6.1).fO)))]) _ mc_90_1 us_23 ze_90 by_90 (by decide) (by decide) (by kernel_rfl) (encL_len TClaim_cells2_len rfl) rfl (fun b15 => ?_)
     refine oN ?_
     exact ex_capG (fun _ => (none,b15,0,[],noR)) rfl rfl
    dsimp only [aftL,lsz,lss,lna,lca,List.append_nil]
    refine gx_o rfl (fun L2 => ?_) ?_
    ·dsimp only [maskL,lca,lna]
     refine ox_append0 5 us_23 ze_90 by_90 rfl rfl rfl (RdL.row 8 rfl) (encL_len TClaim_cells2_len (NestP.hn (NestP.cons (sel:=(fun z : TC => z.fO)) rfl NestP.nil) rfl)) (encL_one TClaim_cells2_one _) (app_room hg18 (by decide)) rfl (fun A16 c17 => ?_)
     refine oN ?_
     exact ex_capG (fun _ => (A16,0,c17,[],noR)) rfl (List.append_nil _)
    dsimp only [aftL,lsz,lss,lna,lca,List.append_nil]
    refine gx_o rfl (fun L2 => ?_) ?_
    ·dsimp only [maskL,lca,lna]
     refine ox_y rfl (yFA fo_25_1 rfl) (oN ?_)
     exact ex_capG (fun _ => (none,0,0,[],noR)) rfl (List.append_nil _)
    dsimp only [aftL,lsz,lss,lna,lca,List.append_nil]
    refine gx_n rfl (fun L2 => ?_) ?_
    ·dsimp only [maskL,lca,lna]
     refine ox_n rfl (y_store1 2 (v:=.slice (ξ13 8 0).1 (s6.2.length + 1) (ξ13 8 0).2.2.1) sz_23 rfl (Nat.lt_of_lt_of_le (Nat.lt_succ_self _) (nB rfl)) rfl rfl rfl) (oN ?_)
     exact ex_capGn (fun _ => (none,0,0,[],noR)) (List.append_nil _)
    dsimp only [aftL,lsz,lss,lna,lca,List.append_nil]
    refine gx_nil (ex_block ?_)
    refine eT (cR ?_)
    try dsimp only [lna,lca,lsz,lss]
    refine ox_y rfl (yMI rfl) (ox_y rfl (y_add rfl rfl) (ox_y rfl (yAI rfl) (oN (ex_take 8 ?_))))
    obtain rfl:=sI h
    exact ex_next ⟨_,(ξ13 8 0).1,(ξ13 8 0).2.2.1,(s6.2.length + 1),(ys5_s6 ++ [(((rdL ys0_1 s6.1).1.1,(rdL p0.fC s6.1).fO.length,(rdL ys0_1 s6.1).1.2.2),(TC.mk ((rdL p0.fC s6.1).fID) ((rdL p0.fC s6.1).fO)))]),F5_s6,(hn_app rfl rfl),(NestP.app hP5_s6 (NestP.cons (sel:=(fun z : TC => z.fO)) rfl NestP.nil)),(PvL.app hV5_s6 (PvL.mono (Hb:=Hb) (PvL.cons (PvL.get hp0_1 hN0_1.p hg14.1 (lt_nat hg14.2 rfl)) PvL.nil) (fun _ _ h => h.1))),rfl,(kp4 (kp (kp rfl)))⟩
   ·refine cx_false (vB hp12) (cx_skip (ex_block ?_))
    refine eT (cR ?_)
    refine ox_y rfl (yMI rfl) (ox_y rfl (y_add rfl rfl) (ox_y rfl (yAI rfl) (oN ?_)))
    obtain rfl:=sI h
    exact ex_next ⟨_,A5_s6,c5_s6,s6.2.length,ys5_s6,F5_s6,rfl,hP5_s6,hV5_s6,rfl,(kp4 (kp (kp rfl)))⟩
  ·refine cx_false (vB hp8) (cx_exit (ex_then_exit ?_))
   obtain rfl:=sI h
   exact ex_stop ⟨rfl,_,A5_s6,c5_s6,s6.2.length,ys5_s6,F5_s6,rfl,hP5_s6,hV5_s6,rfl,(kp4 (kp (kp rfl)))⟩
 ·intro e L tm hJ
  obtain ⟨rfl,tm0_u7,A5_u7,c5_u7,n5_u7,ys5_u7,F5_u7,rfl,hP5_u7,hV5_u7,rfl,rfl⟩:=hJ
  refine ⟨(by intro hc; cases hc),?_⟩
  refine ex_block_here ?_
  refine eT (cS (cR ?_))
  try dsimp only [lna,lca,lsz,lss]
  refine ox_y rfl (y_loadN 2 [.slice Aa p0.fNo.length ca,.slice A5_u7 u7.2.length c5_u7] ag_25 rfl rfl rfl) (ox_n rfl (y_storeN 1 [.slice Aa p0.fNo.length ca,.slice A5_u7 u7.2.length c5_u7] sz_25 rfl (nB rfl) rfl rfl rfl) ?_)
  refine oN (eT (cx_ret ?_))
  obtain rfl:=sI h
  exact ex_res1 (.inl rfl) rfl (resV_cellN 1 [.slice Aa p0.fNo.length ca,.slice A5_u7 u7.2.length c5_u7] ag_25 rfl rfl rfl) (fun W2 hW2 => ⟨((A5_u7,u7.2.length,c5_u7),ys5_u7,F5_u7),⟨rfl,hP5_u7,hV5_u7⟩,rfl,hW2.pickL [5,7] (by decide) rfl⟩)
theorem ref09_Hangs_ok (p0:TL) (p1:(List Int)) (p2:Int) (res:TInts) (h:ref09_Hangs p0 p1 p2 = some res) (W:World) (Aa:Option Addr) (n0_0 ca : Nat) (hn0_0:n0_0 = p0.fNo.length) (hr0_0:Rd W Aa n0_0 ca (encL TNode_cells p0.fNo)) (Ab:Option Addr) (n0_1 cb : Nat) (ys0_1:List (Hd × TC)) (hn0_1:n0_1 = p0.fC.length) (hr0_1:Rd W Ab n0_1 cb (encL TClaim_cells2 ys0_1)) (hN0_1:NestW W (fun z : TC => z.fO) THop_cells ys0_1 p0.fC) (Ac:Option Addr) (n1_0 cc : Nat) (hn1_0:n1_0 = p1.length) (hr1_0:Rd W Ac n1_0 cc (encL cI p1)) :
  Calls Tryz.prog 21 [.agg #[.slice Aa n0_0 ca,.slice Ab n0_1 cb],.slice Ac n1_0 cc,.int .i64 p2].toArray W fun e W2 => ∃ x : Option Addr × Nat × Nat,x.2.1 = res.fL.length ∧ e = .returned (.agg #[.slice x.1 x.2.1 x.2.2,.int .i64 res.fE]) ∧ Ext W W2 [rowR x.1 x.2.2 3 1 x.2.1 (encL cI res.fL)]:=by
 subst hn0_0
 subst hn0_1
 subst hn1_0
 unfold ref09_Hangs at h
 refine calls_enter (m:=57) Tryz.func21 rfl rfl (nB rfl) ?_
 refine cS (cR ?_)
 refine ox_box [.slice Aa p0.fNo.length ca,.slice Ab p0.fC.length cb] rfl rfl rfl (fun b1 => ?_)
 refine ox_alloc ze_45 rfl (fun b2 => ?_)
 refine oN (eT (cS (cR ?_)))
 refine ox_y rfl (y_loadN 0 [.slice Aa p0.fNo.length ca,.slice Ab p0.fC.length cb] ag_25 rfl rfl rfl) (ox_y rfl (yMS rfl) (ox_y rfl (yMI rfl) ?_))
 obtain ⟨y3,hy4,h⟩:=bOs h
 refine ox_y rfl (y_call [.agg #[.slice Aa p0.fNo.length ca,.slice Ab p0.fC.length cb],.slice Ac p1.length cc,.int .i64 p2] go_38 rfl (fun W2 hW2 => ref09_To_ok p0 p1 p2 y3 hy4 W2 Aa p0.fNo.length ca rfl ((RdL.arg hr0_0) W2 hW2) Ab p0.fC.length cb ys0_1 rfl ((RdL.arg hr0_1) W2 hW2) (NestL.at (NestL.arg hN0_1) W2 hW2) Ac p1.length cc rfl ((RdL.arg hr1_0) W2 hW2)) rfl) (ox_y rfl (yAI rfl) ?_)
 refine oN (eT (cS (cS (cR ?_))))
 refine ox_y rfl (yMI rfl) (ox_y rfl (y_eql rfl rfl) (ox_y rfl (y_move_bool rfl) ?_))
 obtain ⟨b6,hb7,h⟩:=bOs h
 refine ox_join 6 (fun tm0 => (upd (upd (upd (upd (upd (upd tm0 1 (.slice Ac p1.length cc)) 2 (.int .i64 p2)) 3 (.pointer (some ⟨b1,0,none⟩))) 6 (.pointer (some ⟨b2,0,none⟩))) 7 (.int .i64 y3)) 22 (.bool b6))) (fun tm0 => ?_) (fun key => ?_)
 ·refine oN (eT ?_)
  rcases iOs h with ⟨hp8,h⟩ | ⟨hp8,h⟩
  ·refine cx_true (vB hp8) (cR (ox_y rfl (yAI rfl) ?_))
   refine oN (eT (cS (cS (cR ?_))))
   refine ox_y rfl (yMI rfl) (ox_y rfl (y_neq rfl rfl) ?_)
   refine oN (eT ?_)
   refine cx_true rfl ?_
   refine cS (cR ?_)
   refine ox_y rfl (yMI rfl) ?_
   refine ox_y rfl (y_buildS [.slice none 0 0,.int .i64 5] [(0,1),(1,1)] ust_45 ze_45 (by kernel_rfl)) ?_
   refine ox_n rfl (y_storeN 1 [.slice none 0 0,.int .i64 5] sz_45 rfl (nB rfl) rfl rfl rfl) ?_
   refine oN (eT (cx_ret (ex_then_ret ?_)))
   obtain rfl:=sI h
   exact ex_res1 (.inl rfl) rfl (resV_cellN 1 [.slice none 0 0,.int .i64 5] ag_45 rfl rfl rfl) (fun W2 hW2 => ⟨(none,0,0),rfl,rfl,((hW2.nilrow 3 1).pick 2 rfl)⟩)
  ·refine cx_false (vB hp8) ?_
   refine cx_skip (eT (cS (cS (cR ?_))))
   refine ox_y rfl (yMI rfl) (ox_y rfl (y_neq rfl rfl) ?_)
   refine oN (eT ?_)
   rcases iOs h with ⟨hp9,h⟩ | ⟨hp9,h⟩
   ·refine cx_true (vB hp9) ?_
    refine cS (cR ?_)
    refine ox_y rfl (yMI rfl) ?_
    refine ox_y rfl (y_buildS [.slice none 0 0,.int .i64 y3] [(0,1),(1,1)] ust_45 ze_45 (by kernel_rfl)) ?_
    refine ox_n rfl (y_storeN 1 [.slice none 0 0,.int .i64 y3] sz_45 rfl (nB rfl) rfl rfl rfl) ?_
    refine oN (eT (cx_ret (ex_then_ret ?_)))
    obtain rfl:=sI h
    exact ex_res1 (.inl rfl) rfl (resV_cellN 1 [.slice none 0 0,.int .i64 y3] ag_45 rfl rfl rfl) (fun W2 hW2 => ⟨(none,0,0),rfl,rfl,((hW2.nilrow 3 1).pick 2 rfl)⟩)
   ·refine cx_false (vB hp9) ?_
    refine cx_skip (eT (cS (cR ?_)))
    refine ox_y rfl (yAS rfl) ?_
    refine oN (eT (cS (cS (cR ?_))))
    refine ox_y rfl (yAI rfl) ?_
    refine oN (eT (cx_block ?_))
    obtain ⟨u13,hl43,h⟩:=bOs h
    refine cx_nilrow 3 1 ?_
    refine cx_loop (fun (s:(Int × (List Int))) L tm => ∃ (tm0:Nat → Value) (A2_s:Option Addr) (c2_s:Nat) (n2_s:Nat),n2_s = s.2.length ∧ L = [cellsR b1 25 [.slice Aa p0.fNo.length ca,.slice Ab p0.fC.length cb],cellsR b2 45 [.slice none 0 0,.int .i64 0],rowR A2_s c2_s 3 1 n2_s (encL cI s.2)] ∧ tm = (upd (upd (upd (upd (upd (upd (upd (upd (upd tm0 1 (.slice Ac p1.length cc)) 2 (.int .i64 p2)) 3 (.pointer (some ⟨b1,0,none⟩))) 6 (.pointer (some ⟨b2,0,none⟩))) 7 (.int .i64 y3)) 22 (.bool b6)) 24 (.bool (y3 != 0))) 8 (.slice A2_s n2_s c2_s)) 9 (.int .i64 s.1))) (fun s e L tm => e = .exit 0 ∧ ∃ (tm0:Nat → Value) (A2_s:Option Addr) (c2_s:Nat) (n2_s:Nat),n2_s = s.2.length ∧ L = [cellsR b1 25 [.slice Aa p0.fNo.length ca,.slice Ab p0.fC.length cb],cellsR b2 45 [.slice none 0 0,.int .i64 0],rowR A2_s c2_s 3 1 n2_s (encL cI s.2)] ∧ tm = (upd (upd (upd (upd (upd (upd (upd (upd (upd tm0 1 (.slice Ac p1.length cc)) 2 (.int .i64 p2)) 3 (.pointer (some ⟨b1,0,none⟩))) 6 (.pointer (some ⟨b2,0,none⟩))) 7 (.int .i64 y3)) 22 (.bool b6)) 24 (.bool (y3 != 0))) 8 (.slice A2_s n2_s c2_s)) 9 (.int .i64 s.1))) hl43 ⟨_,none,0,0,rfl,rfl,(kp4 (kp4 (kp rfl)))⟩ ?_ ?_
    ·rintro s12 L tm st ⟨tm0_s12,A2_s12,c2_s12,n2_s12,rfl,rfl,rfl⟩ h
     unfold ref09_Hangs_l1 at h
     refine cS (cS (cR ?_))
     refine ox_y rfl (yMI rfl) (ox_y rfl (yFA fo_25_1 rfl) (ox_y rfl (y_load1 0 (v:=.slice Ab p0.fC.length cb) sc_23 rfl rfl rfl) (ox_y rfl (y_len (us:=[]) us_23 rfl) (ox_y rfl (y_lss rfl rfl) ?_))))
     refine oN (eT ?_)
     rcases iOs h with ⟨hp14,h⟩ | ⟨hp14,h⟩
     ·refine cx_true (vB hp14) ?_
      refine cx_skip (eT (cS (cx_block (cS ?_))))
      obtain ⟨hg16,h⟩:=gOs h
      obtain ⟨y18,hy19,h⟩:=bOs h
      obtain ⟨y33,hy34,h⟩:=bOs h
      refine cx_drawsG [[],[],[1],[],[1,2,3],[1,2,3,4],[1,2,3,4,5],[1,2,3,4,5,6],[0,1,2,3,4,5,6,7],[],[],[0,1,2,3,4,5,6,7,8,9,10],[0,1,2,3,4,5,6,7,8,9,10,11]] [(none,0,[true,true,true]),(none,0,[true,true,true]),(none,0,[true,true,true]),(none,0,[true,true,true]),(none,0,[true,true,true]),(none,0,[true,true,true]),(none,0,[true,true,true]),(none,1,[true,true,true]),(none,3,[true,true,true,true]),(none,0,[true,true,true,false,false,false,false]),(none,0,[true,true,true,false,false,false,false]),(none,0,[true,true,true,true,true,true,true]),(none,0,[true,true,true,true,true,true,true])] [⟨fun _ => .agg #[.slice Aa p0.fNo.length ca,.slice Ab p0.fC.length cb],fun _ => noR,fun _ => []⟩,⟨fun _ => .pointer (some ⟨b1,0 + 1,none⟩),fun _ => noR,fun _ => []⟩,⟨fun _ => .slice Ab p0.fC.length cb,fun _ => noR,fun _ => []⟩,⟨fun _ => .int .i64 s12.1,fun _ => noR,fun _ => []⟩,⟨fun _ => slA Ab (Int.toNat s12.1 * 2),fun _ => noR,fun _ => []⟩,⟨fun _ => slA Ab ((Int.toNat s12.1 * 2) + 0),fun _ => noR,fun _ => []⟩,⟨fun _ => .int .i64 ((rdL p0.fC s12.1).fID),fun _ => noR,fun _ => []⟩,⟨fun ξ15 => .slice (some ⟨(ξ15 7 0).2.1,0,none⟩) 1 1,fun _ => noR,fun ξ15 => [rowR (some ⟨(ξ15 7 0).2.1,0,none⟩) 1 3 1 1 (encL cI [(rdL p0.fC s12.1).fID])]⟩,⟨fun ξ15 => .agg #[.slice Aa p0.fNo.length ca,.slice (ξ15 8 0).1 y18.fC.length (ξ15 8 0).2.2.1],fun _ => noR,fun ξ15 => [rowR (ξ15 8 0).1 (ξ15 8 0).2.2.1 90 2 y18.fC.length (encL TClaim_cells2 (List.zip (ξ15 8 0).2.2.2.1 y18.fC)),(ξ15 8 0).2.2.2.2,factR (NestP (fun z : TC => z.fO) (List.zip (ξ15 8 0).2.2.2.1 y18.fC) y18.fC ∧ PvL (fun z : TC => z.fO) THop_cells W (fun W4 => (fun _ => True) W4 ∧ Res.holds (ξ15 8 0).2.2.2.2 W4) (List.zip (ξ15 8 0).2.2.2.1 y18.fC))]⟩,⟨fun _ => .slice Ac p1.length cc,fun _ => noR,fun _ => []⟩,⟨fun _ => .int .i64 p2,fun _ => noR,fun _ => []⟩,⟨fun _ => .bool y33,fun _ => noR,fun _ => []⟩,⟨fun _ => .bool (!y33),fun _ => noR,fun _ => []⟩] 3 mixed (by kernel_rfl) (by kernel_rfl) ⟨⟨fun ξ15 ξ15' h => ⟨rfl,rfl,rfl⟩,fun _ => rfl⟩,⟨fun ξ15 ξ15' h => ⟨rfl,rfl,rfl⟩,fun _ => rfl⟩,⟨fun ξ15 ξ15' h => ⟨rfl,rfl,rfl⟩,fun _ => rfl⟩,⟨fun ξ15 ξ15' h => ⟨rfl,rfl,rfl⟩,fun _ => rfl⟩,⟨fun ξ15 ξ15' h => ⟨rfl,rfl,rfl⟩,fun _ => rfl⟩,⟨fun ξ15 ξ15' h => ⟨rfl,rfl,rfl⟩,fun _ => rfl⟩,⟨fun ξ15 ξ15' h => ⟨rfl,rfl,rfl⟩,fun _ => rfl⟩,⟨fun ξ15 ξ15' h => ⟨by simp only [h 7 (.inl rfl)],rfl,by simp only [h 7 (.inl rfl)]⟩,fun _ => rfl⟩,⟨fun ξ15 ξ15' h => ⟨by simp only [h 8 (.inl rfl)],rfl,by simp only [h 8 (.inl rfl)]⟩,fun _ => rfl⟩,⟨fun ξ15 ξ15' h => ⟨rfl,rfl,rfl⟩,fun _ => rfl⟩,⟨fun ξ15 ξ15' h => ⟨rfl,rfl,rfl⟩,fun _ => rfl⟩,⟨fun ξ15 ξ15' h => ⟨rfl,rfl,rfl⟩,fun _ => rfl⟩,⟨fun ξ15 ξ15' h => ⟨rfl,rfl,rfl⟩,fun _ => rfl⟩,trivial⟩ rfl (fun ξ15 => ?_)
      refine gx_o rfl (fun L2 => ?_) ?_
      ·dsimp only [maskL,lca,lna]
       refine ox_y rfl (y_loadN 0 [.slice Aa p0.fNo.length ca,.slice Ab p0.fC.length cb] ag_25 rfl rfl rfl) (oN ?_)
       exact ex_capG (fun _ => (none,0,0,[],noR)) rfl (List.append_nil _)
      dsimp only [aftL,lsz,lss,lna,lca,List.append_nil]
      refine gx_o rfl (fun L2 => ?_) ?_
      ·dsimp only [maskL,lca,lna]
       refine ox_y rfl (yFA fo_25_1 rfl) (oN ?_)
       exact ex_capG (fun _ => (none,0,0,[],noR)) rfl (List.append_nil _)
      dsimp only [aftL,lsz,lss,lna,lca,List.append_nil]
      refine gx_o rfl (fun L2 => ?_) ?_
      ·dsimp only [maskL,lca,lna]
       refine ox_y rfl (y_load1 0 (v:=.slice Ab p0.fC.length cb) sc_23 rfl rfl rfl) (oN ?_)
       exact ex_capG (fun _ => (none,0,0,[],noR)) rfl (List.append_nil _)
      dsimp only [aftL,lsz,lss,lna,lca,List.append_nil]
      refine gx_o rfl (fun L2 => ?_) ?_
      ·dsimp only [maskL,lca,lna]
       refine ox_y rfl (yMI rfl) (oN ?_)
       exact ex_capG (fun _ => (none,0,0,[],noR)) rfl (List.append_nil _)
      dsimp only [aftL,lsz,lss,lna,lca,List.append_nil]
      refine gx_o rfl (fun L2 => ?_) ?_
      ·dsimp only [maskL,lca,lna]
       refine ox_y rfl (y_indexR sl_23 (by decide) hg16.1 hg16.2 (RdL.arg hr0_1) (encL_len TClaim_cells2_len (NestP.hn hN0_1.p rfl)) rfl rfl) ?_
       refine oN ?_
       exact ex_capG (fun _ => (none,0,0,[],noR)) rfl (List.append_nil _)
      dsimp only [aftL,lsz,lss,lna,lca,List.append_nil]
      refine gx_o rfl (fun L2 => ?_) ?_
      ·dsimp only [maskL,lca,lna]
       refine ox_y rfl (y_fieldAddrR (A:=Ab) (j:=(Int.toNat s12.1 * 2)) fo_90_0 rfl) (oN ?_)
       exact ex_capG (fun _ => (none,0,0,[],noR)) rfl (List.append_nil _)
      dsimp only [aftL,lsz,lss,lna,lca,List.append_nil]
      refine gx_o rfl (fun L2 => ?_) ?_
      ·dsimp only [maskL,lca,lna]
       refine ox_y rfl (y_loadR1 (A:=Ab) (j:=((Int.toNat s12.1 * 2) + 0)) (v:=.int .i64 ((rdL p0.fC s12.1).fID)) sc_3 (RdL.arg hr0_1) rfl (encL_get TClaim_cells2_len hg16.1 (lt_nat hg16.2 (NestP.hn hN0_1.p rfl)) (congrArg (fun z : TC => some (Value.int .i64 z.fID)) (NestP.snd hN0_1.p s12.1)))) (oN ?_)
       exact ex_capG (fun _ => (none,0,0,[],noR)) rfl (List.append_nil _)
      dsimp only [aftL,lsz,lss,lna,lca,List.append_nil]
      refine gx_o rfl (fun L2 => ?_) ?_
      ·dsimp only [maskL,lca,lna]
       refine ox_buildSliceE 1 (encL cI [(rdL p0.fC s12.1).fID]) _ mc_3_1 us_26 ze_3 by_3 (by decide) (by decide) (by kernel_rfl) (encL_len cI_len rfl) rfl (fun b17 => ?_)
       refine oN ?_
       exact ex_capG (fun _ => (none,b17,0,[],noR)) rfl rfl
      dsimp only [aftL,lsz,lss,lna,lca,List.append_nil]
      refine gx_o rfl (fun L2 => ?_) ?_
      ·dsimp only [maskL,lca,lna]
       refine ox_call [.agg #[.slice Aa p0.fNo.length ca,.slice Ab p0.fC.length cb],.slice (some ⟨(ξ15 7 0).2.1,0,none⟩) 1 1] _ _ _ rfl go_79 rfl (fun W2 hW2 => ref09_without_ok p0 [(rdL p0.fC s12.1).fID] y18 hy19 W2 Aa p0.fNo.length ca rfl ((RdL.arg hr0_0) W2 hW2) Ab p0.fC.length cb ys0_1 rfl ((RdL.arg hr0_1) W2 hW2) (NestL.at (NestL.arg hN0_1) W2 hW2) (some ⟨(ξ15 7 0).2.1,0,none⟩) 1 1 rfl ((RdL.row 3 rfl) W2 hW2) W (fun _ => True) (fun W3 hb => ⟨belowT hW2.below hb,trivial⟩) (PvL.of_nest hN0_1)) ?_
       rintro ⟨⟨A24,n26,c25⟩,ys29,F30⟩ ⟨hn27,hP28,hV31⟩
       replace hn27 : n26 = y18.fC.length:=hn27; subst hn27
       obtain ⟨hs32,rfl⟩ : ∃ hs32 : List Hd,ys29 = List.zip hs32 y18.fC:=⟨_,NestP.zip hP28⟩
       refine ox_addFact (p:=(NestP (fun z : TC => z.fO) (List.zip hs32 y18.fC) y18.fC ∧ PvL (fun z : TC => z.fO) THop_cells W (fun W4 => (fun _ => True) W4 ∧ Res.holds F30 W4) (List.zip hs32 y18.fC))) ⟨hP28,hV31⟩ ?_
       try dsimp only [lna,lca]
       rw [List.append_assoc]
       dsimp only [lna,lca]
       refine oN ?_
       exact ex_capG (fun _ => (A24,0,c25,hs32,F30)) rfl rfl
      dsimp only [aftL,lsz,lss,lna,lca,List.append_nil]
      refine gx_o rfl (fun L2 => ?_) ?_
      ·dsimp only [maskL,lca,lna]
       refine ox_y rfl (yMS rfl) (oN ?_)
       exact ex_capG (fun _ => (none,0,0,[],noR)) rfl (List.append_nil _)
      dsimp only [aftL,lsz,lss,lna,lca,List.append_nil]
      refine gx_o rfl (fun L2 => ?_) ?_
      ·dsimp only [maskL,lca,lna]
       refine ox_y rfl (yMI rfl) (oN ?_)
       exact ex_capG (fun _ => (none,0,0,[],noR)) rfl (List.append_nil _)
      dsimp only [aftL,lsz,lss,lna,lca,List.append_nil]
      refine gx_o rfl (fun L2 => ?_) ?_
      ·dsimp only [maskL,lca,lna]
       refine ox_fact 6 rfl (fun hF => ?_)
       obtain ⟨hP28,hV31⟩:=hF
       refine ox_y rfl (y_call [.agg #[.slice Aa p0.fNo.length ca,.slice (ξ15 8 0).1 y18.fC.length (ξ15 8 0).2.2.1],.slice Ac p1.length cc,.int .i64 p2] go_43 rfl (fun W2 hW2 => ref09_Possible_ok (TL.mk p0.fNo y18.fC) p1 p2 y33 hy34 W2 Aa p0.fNo.length ca rfl ((RdL.arg hr0_0) W2 hW2) (ξ15 8 0).1 y18.fC.length (ξ15 8 0).2.2.1 (List.zip (ξ15 8 0).2.2.2.1 y18.fC) rfl ((RdL.row 4 rfl) W2 hW2) (NestL.at (PvL.nestL hP28 hV31 (fun W2 hW2 => ⟨hW2.below,trivial,hW2.mem (i:=5) rfl⟩)) W2 hW2) Ac p1.length cc rfl ((RdL.arg hr1_0) W2 hW2)) rfl) (oN ?_)
       exact ex_capG (fun _ => (none,0,0,[],noR)) rfl (List.append_nil _)
      dsimp only [aftL,lsz,lss,lna,lca,List.append_nil]
      refine gx_o rfl (fun L2 => ?_) ?_
      ·dsimp only [maskL,lca,lna]
       refine ox_y rfl (y_not rfl) (oN ?_)
       exact ex_capG (fun _ => (none,0,0,[],noR)) rfl (List.append_nil _)
      dsimp only [aftL,lsz,lss,lna,lca,List.append_nil]
      refine gx_nil ?_
      refine ex_fact 6 rfl (fun hF => ?_)
      obtain ⟨hP28,hV31⟩:=hF
      refine eT ?_
      rcases iOs h with ⟨hp35,h⟩ | ⟨hp35,h⟩
      ·refine cx_true (vB hp35) (cR ?_)
       try dsimp only [lna,lca,lsz,lss]
       refine ox_y rfl (yMS rfl) (ox_y rfl (yFA fo_25_1 rfl) (ox_y rfl (y_load1 0 (v:=.slice Ab p0.fC.length cb) sc_23 rfl rfl rfl) (ox_y rfl (yMI rfl) ?_)))
       obtain ⟨hg36,h⟩:=gOs h
       refine ox_y rfl (y_indexR sl_23 (by decide) hg36.1 hg36.2 (RdL.arg hr0_1) (encL_len TClaim_cells2_len (NestP.hn hN0_1.p rfl)) rfl rfl) ?_
       refine ox_y rfl (y_fieldAddrR (A:=Ab) (j:=(Int.toNat s12.1 * 2)) fo_90_0 rfl) (ox_y rfl (y_loadR1 (A:=Ab) (j:=((Int.toNat s12.1 * 2) + 0)) (v:=.int .i64 ((rdL p0.fC s12.1).fID)) sc_3 (RdL.arg hr0_1) rfl (encL_get TClaim_cells2_len hg36.1 (lt_nat hg36.2 (NestP.hn hN0_1.p rfl)) (congrArg (fun z : TC => some (Value.int .i64 z.fID)) (NestP.snd hN0_1.p s12.1)))) ?_)
       obtain ⟨y37,hy38,h⟩:=bOs h
       refine ox_call [.slice A2_s12 s12.2.length c2_s12,.int .i64 ((rdL p0.fC s12.1).fID)] _ _ _ rfl go_69 rfl (fun W2 hW2 => ref09_put_ok s12.2 ((rdL p0.fC s12.1).fID) y37 hy38 W2 A2_s12 s12.2.length c2_s12 rfl ((RdL.row 2 rfl) W2 hW2)) ?_
       rintro ⟨A39,n41,c40⟩ hn42
       replace hn42 : n41 = y37.length:=hn42; subst hn42
       try dsimp only [lna,lca,lsz,lss]
       refine ox_y rfl (yAS rfl) (oN (ex_block ?_))
       refine eT (cR ?_)
       refine ox_y rfl (yMI rfl) (ox_y rfl (y_add rfl rfl) (ox_y rfl (yAI rfl) (oN ?_)))
       refine ex_mv 2 7 (by decide) rfl ?_
       try dsimp only [lsz,lss]
       refine ex_take 3 ?_
       obtain rfl:=sI h
       exact ex_next ⟨_,A39,c40,y37.length,rfl,rfl,(kp4 (kp4 (kp rfl)))⟩
      ·refine cx_false (vB hp35) (cx_skip (ex_block ?_))
       refine eT (cR ?_)
       try dsimp only [lna,lca,lsz,lss]
       refine ox_y rfl (yMI rfl) (ox_y rfl (y_add rfl rfl) (ox_y rfl (yAI rfl) (oN (ex_take 3 ?_))))
       obtain rfl:=sI h
       exact ex_next ⟨_,A2_s12,c2_s12,s12.2.length,rfl,rfl,(kp4 (kp4 (kp rfl)))⟩
     ·refine cx_false (vB hp14) (cx_exit (ex_then_exit ?_))
      obtain rfl:=sI h
      exact ex_stop ⟨rfl,_,A2_s12,c2_s12,s12.2.length,rfl,rfl,(kp4 (kp4 (kp rfl)))⟩
    ·intro e L tm hJ
     obtain ⟨rfl,tm0_u13,A2_u13,c2_u13,n2_u13,rfl,rfl,rfl⟩:=hJ
     refine ⟨(by intro hc; cases hc),?_⟩
     refine ex_block_here ?_
     refine eT (cS (cR ?_))
     refine ox_y rfl (yMS rfl) ?_
     refine ox_y rfl (y_buildS [.slice A2_u13 u13.2.length c2_u13,.int .i64 0] [(0,1),(1,1)] ust_45 ze_45 (by kernel_rfl)) ?_
     refine ox_n rfl (y_storeN 1 [.slice A2_u13 u13.2.length c2_u13,.int .i64 0] sz_45 rfl (nB rfl) rfl rfl rfl) ?_
     refine oN (eT (cx_ret ?_))
     obtain rfl:=sI h
     exact ex_res1 (.inl rfl) rfl (resV_cellN 1 [.slice A2_u13 u13.2.length c2_u13,.int .i64 0] ag_45 rfl rfl rfl) (fun W2 hW2 => ⟨(A2_u13,u13.2.length,c2_u13),rfl,rfl,(hW2.pick 2 rfl)⟩)
 ·clear h; rcases iOs hb7 with ⟨hp5,h⟩ | ⟨hp5,h⟩
  ·refine ox_y (sT rfl rfl rfl rfl hp5) (y_loadN 0 [.slice Aa p0.fNo.length ca,.slice Ab p0.fC.length cb] ag_25 rfl rfl rfl) (ox_y (sT rfl rfl rfl rfl hp5) (yMS rfl) (ox_y (sT rfl rfl rfl rfl hp5) (yMI rfl) ?_))
   obtain ⟨y44,hy45,h⟩:=bOs h
   refine ox_y (sT rfl rfl rfl rfl hp5) (y_call [.agg #[.slice Aa p0.fNo.length ca,.slice Ab p0.fC.length cb],.slice Ac p1.length cc,.int .i64 p2] go_43 rfl (fun W2 hW2 => ref09_Possible_ok p0 p1 p2 y44 hy45 W2 Aa p0.fNo.length ca rfl ((RdL.arg hr0_0) W2 hW2) Ab p0.fC.length cb ys0_1 rfl ((RdL.arg hr0_1) W2 hW2) (NestL.at (NestL.arg hN0_1) W2 hW2) Ac p1.length cc rfl ((RdL.arg hr1_0) W2 hW2)) rfl) (ox_y (sT rfl rfl rfl rfl hp5) (y_not rfl) (ox_y rfl (y_pick_tb (vB hp5) rfl) ?_))
   obtain rfl:=sI h
   exact key _ _ (kp4 (kp (kp rfl)))
  ·refine oSk (sF rfl rfl rfl rfl hp5) (oSk (sF rfl rfl rfl rfl hp5) (oSk (sF rfl rfl rfl rfl hp5) (oSk (sF rfl rfl rfl rfl hp5) (oSk (sF rfl rfl rfl rfl hp5) (ox_y rfl (y_pick_fb (vB hp5) rfl) ?_)))))
   obtain rfl:=sI h
   exact key _ _ (kp4 (kp (kp rfl)))
theorem ref09_passed_ok (p0:TL) (p1:(List Int)) (p2:Int) (p3:Int) (p4:(List Int)) (res:Bool) (h:ref09_passed p0 p1 p2 p3 p4 = some res) (W:World) (Aa:Option Addr) (n0_0 ca : Nat) (hn0_0:n0_0 = p0.fNo.length) (hr0_0:Rd W Aa n0_0 ca (encL TNode_cells p0.fNo)) (Ab:Option Addr) (n0_1 cb : Nat) (ys0_1:List (Hd × TC)) (hn0_1:n0_1 = p0.fC.length) (hr0_1:Rd W Ab n0_1 cb (encL TClaim_cells2 ys0_1)) (hN0_1:NestW W (fun z : TC => z.fO) THop_cells ys0_1 p0.fC) (Ac:Option Addr) (n1_0 cc : Nat) (hn1_0:n1_0 = p1.length) (hr1_0:Rd W Ac n1_0 cc (encL cI p1)) (A4_0:Option Addr) (n4_0 c4_0 : Nat) (hn4_0:n4_0 = p4.length) (hr4_0:Rd W A4_0 n4_0 c4_0 (encL cI p4)) :
  Calls Tryz.prog 84 [.agg #[.slice Aa n0_0 ca,.slice Ab n0_1 cb],.slice Ac n1_0 cc,.int .i64 p2,.int .i64 p3,.slice A4_0 n4_0 c4_0].toArray W fun e W2 => e = .returned (.bool res) ∧ Ext W W2 []:=by
 subst hn0_0
 subst hn0_1
 subst hn1_0
 subst hn4_0
 unfold ref09_passed at h
 refine calls_enter (m:=94) Tryz.func84 rfl rfl (nB rfl) ?_
 refine cS (cR ?_)
 refine ox_box [.slice Aa p0.fNo.length ca,.slice Ab p0.fC.length cb] rfl rfl rfl (fun b1 => ?_)
 refine ox_y rfl (y_assign_bool rfl) ?_
 refine oN (eT (cS (cR ?_)))
 refine ox_y rfl (yFA fo_25_0 rfl) (ox_y rfl (y_load1 0 (v:=.slice Aa p0.fNo.length ca) sc_22 rfl rfl rfl) (ox_y rfl (y_len (us:=[]) us_22 rfl) ?_))
 obtain ⟨hg3,h⟩:=gOs h
 refine ox_make (encL cB (List.replicate (Int.toNat (p0.fNo.length:Int)) false)) us_98 ze_4 by_4 hg3.1 hg3.2 rfl (made_enc _ _ _ rfl rfl) rfl (fun b2 => ?_)
 refine ox_y rfl (yAS rfl) ?_
 refine oN (eT (cS (cS (cR ?_))))
 refine ox_y rfl (yAI rfl) ?_
 refine oN (eT (cx_block ?_))
 obtain ⟨u7,hl13,h⟩:=bOs h
 refine cx_loop (fun (s:(Int × (List Bool))) L tm => ∃ (tm0:Nat → Value),Int.toNat (p0.fNo.length:Int) = s.2.length ∧ L = [cellsR b1 25 [.slice Aa p0.fNo.length ca,.slice Ab p0.fC.length cb],rowR (some ⟨b2,0,none⟩) (Int.toNat (p0.fNo.length:Int)) 4 1 (Int.toNat (p0.fNo.length:Int)) (encL cB s.2)] ∧ tm = (upd (upd (upd (upd (upd (upd (upd (upd (upd tm0 0 (.agg #[.slice Aa p0.fNo.length ca,.slice Ab p0.fC.length cb])) 1 (.slice Ac p1.length cc)) 2 (.int .i64 p2)) 3 (.int .i64 p3)) 4 (.slice A4_0 p4.length c4_0)) 5 (.pointer (some ⟨b1,0,none⟩))) 10 (.bool false)) 11 (.slice (some ⟨b2,0,none⟩) (Int.toNat (p0.fNo.length:Int)) (Int.toNat (p0.fNo.length:Int)))) 12 (.int .i64 s.1))) (fun s e L tm => e = .exit 0 ∧ ∃ (tm0:Nat → Value),Int.toNat (p0.fNo.length:Int) = s.2.length ∧ L = [cellsR b1 25 [.slice Aa p0.fNo.length ca,.slice Ab p0.fC.length cb],rowR (some ⟨b2,0,none⟩) (Int.toNat (p0.fNo.length:Int)) 4 1 (Int.toNat (p0.fNo.length:Int)) (encL cB s.2)] ∧ tm = (upd (upd (upd (upd (upd (upd (upd (upd (upd tm0 0 (.agg #[.slice Aa p0.fNo.length ca,.slice Ab p0.fC.length cb])) 1 (.slice Ac p1.length cc)) 2 (.int .i64 p2)) 3 (.int .i64 p3)) 4 (.slice A4_0 p4.length c4_0)) 5 (.pointer (some ⟨b1,0,none⟩))) 10 (.bool false)) 11 (.slice (some ⟨b2,0,none⟩) (Int.toNat (p0.fNo.length:Int)) (Int.toNat (p0.fNo.length:Int)))) 12 (.int .i64 s.1))) hl13 ⟨_,(List.length_replicate).symm,rfl,(kp4 (kp4 (kp rfl)))⟩ ?_ ?_
 ·rintro s6 L tm st ⟨tm0_s6,hn1_s6,rfl,rfl⟩ h
  unfold ref09_passed_l1 at h
  refine cS (cS (cR ?_))
  refine ox_y rfl (yMI rfl) (ox_y rfl (yFA fo_25_0 rfl) (ox_y rfl (y_load1 0 (v:=.slice Aa p0.fNo.length ca) sc_22 rfl rfl rfl) (ox_y rfl (y_len (us:=[]) us_22 rfl) (ox_y rfl (y_lss rfl rfl) ?_))))
  refine oN (eT ?_)
  rcases iOs h with ⟨hp8,h⟩ | ⟨hp8,h⟩
  ·refine cx_true (vB hp8) ?_
   refine cx_skip (eT (cS (cx_block (cR ?_))))
   refine ox_y rfl (yMS rfl) (ox_y rfl (yMI rfl) (ox_y rfl (yMS rfl) (ox_y rfl (yFA fo_25_0 rfl) (ox_y rfl (y_load1 0 (v:=.slice Aa p0.fNo.length ca) sc_22 rfl rfl rfl) (ox_y rfl (yMI rfl) ?_)))))
   obtain ⟨hg9,h⟩:=gOs h
   refine ox_y rfl (y_indexR sl_22 (by decide) hg9.1 hg9.2 (RdL.arg hr0_0) (encL_len TNode_cells_len rfl) rfl rfl) ?_
   refine ox_y rfl (y_fieldAddrR (A:=Aa) (j:=(Int.toNat s6.1 * 3)) fo_97_0 rfl) (ox_y rfl (y_loadR1 (A:=Aa) (j:=((Int.toNat s6.1 * 3) + 0)) (v:=.int .i64 ((rdL p0.fNo s6.1).fID)) sc_3 (RdL.arg hr0_0) rfl (encL_get TNode_cells_len hg9.1 (lt_nat hg9.2 rfl) rfl)) ?_)
   obtain ⟨y10,hy11,h⟩:=bOs h
   refine ox_y rfl (y_call [.slice Ac p1.length cc,.int .i64 ((rdL p0.fNo s6.1).fID)] go_82 rfl (fun W2 hW2 => ref09_has_ok p1 ((rdL p0.fNo s6.1).fID) y10 hy11 W2 Ac p1.length cc rfl ((RdL.arg hr1_0) W2 hW2)) rfl) ?_
   obtain ⟨hg12,h⟩:=gOs h
   refine ox_y rfl (y_indexR sl_98 (by decide) hg12.1 hg12.2 (RdL.row 1 rfl) (encL_len cB_len hn1_s6) rfl rfl) ?_
   refine ox_n rfl (y_storeR1 1 (xs:=s6.2) cB_len y10 sz_4 rfl hg12.1 (lt_nat hg12.2 hn1_s6) rfl rfl rfl rfl) (oN (ex_block ?_))
   refine eT (cR ?_)
   refine ox_y rfl (yMI rfl) (ox_y rfl (y_add rfl rfl) (ox_y rfl (yAI rfl) (oN ?_)))
   obtain rfl:=sI h
   exact ex_next ⟨_,(hn_set hn1_s6),rfl,(kp4 (kp4 (kp rfl)))⟩
  ·refine cx_false (vB hp8) (cx_exit (ex_then_exit ?_))
   obtain rfl:=sI h
   exact ex_stop ⟨rfl,_,hn1_s6,rfl,(kp4 (kp4 (kp rfl)))⟩
 ·intro e L tm hJ
  obtain ⟨rfl,tm0_u7,hn1_u7,rfl,rfl⟩:=hJ
  refine ⟨(by intro hc; cases hc),?_⟩
  refine ex_block_here ?_
  refine eT (cS (cS (cR ?_)))
  refine ox_y rfl (y_assign_bool rfl) ?_
  refine oN (eT (cx_block ?_))
  obtain ⟨u17,hl43,h⟩:=bOs h
  refine cx_loop (fun (s:(Bool × (List Bool))) L tm => ∃ (tm0:Nat → Value),Int.toNat (p0.fNo.length:Int) = s.2.length ∧ L = [cellsR b1 25 [.slice Aa p0.fNo.length ca,.slice Ab p0.fC.length cb],rowR (some ⟨b2,0,none⟩) (Int.toNat (p0.fNo.length:Int)) 4 1 (Int.toNat (p0.fNo.length:Int)) (encL cB s.2)] ∧ tm = (upd (upd (upd (upd (upd (upd (upd (upd (upd (upd tm0 0 (.agg #[.slice Aa p0.fNo.length ca,.slice Ab p0.fC.length cb])) 1 (.slice Ac p1.length cc)) 2 (.int .i64 p2)) 3 (.int .i64 p3)) 4 (.slice A4_0 p4.length c4_0)) 5 (.pointer (some ⟨b1,0,none⟩))) 10 (.bool false)) 11 (.slice (some ⟨b2,0,none⟩) (Int.toNat (p0.fNo.length:Int)) (Int.toNat (p0.fNo.length:Int)))) 12 (.int .i64 u7.1)) 13 (.bool s.1))) (fun s e L tm => e = .exit 2 ∧ ∃ (tm0:Nat → Value),Int.toNat (p0.fNo.length:Int) = s.2.length ∧ L = [cellsR b1 25 [.slice Aa p0.fNo.length ca,.slice Ab p0.fC.length cb],rowR (some ⟨b2,0,none⟩) (Int.toNat (p0.fNo.length:Int)) 4 1 (Int.toNat (p0.fNo.length:Int)) (encL cB s.2)] ∧ tm = (upd (upd (upd (upd (upd (upd (upd (upd (upd (upd tm0 0 (.agg #[.slice Aa p0.fNo.length ca,.slice Ab p0.fC.length cb])) 1 (.slice Ac p1.length cc)) 2 (.int .i64 p2)) 3 (.int .i64 p3)) 4 (.slice A4_0 p4.length c4_0)) 5 (.pointer (some ⟨b1,0,none⟩))) 10 (.bool false)) 11 (.slice (some ⟨b2,0,none⟩) (Int.toNat (p0.fNo.length:Int)) (Int.toNat (p0.fNo.length:Int)))) 12 (.int .i64 u7.1)) 13 (.bool s.1))) hl43 ⟨_,hn1_u7,rfl,(kp4 (kp4 (kp (kp rfl))))⟩ ?_ ?_
  ·rintro s16 L tm st ⟨tm0_s16,hn1_s16,rfl,rfl⟩ h
   unfold ref09_passed_l2 at h
   refine cS (cS (cR ?_))
   refine ox_y rfl (y_move_bool rfl) ?_
   refine oN (eT ?_)
   rcases iOs h with ⟨hp18,h⟩ | ⟨hp18,h⟩
   ·refine cx_true (vB hp18) ?_
    refine cx_skip (eT (cx_block (cS (cR ?_))))
    refine ox_y rfl (y_assign_bool rfl) ?_
    refine oN (eT (cS (cR ?_)))
    refine ox_y rfl (yAI rfl) ?_
    refine oN (eT (cx_block ?_))
    obtain ⟨u22,hl42,h⟩:=bOs h
    refine cx_loop (fun (s:(Bool × Int × (List Bool))) L tm => ∃ (tm0:Nat → Value),Int.toNat (p0.fNo.length:Int) = s.2.2.length ∧ L = [cellsR b1 25 [.slice Aa p0.fNo.length ca,.slice Ab p0.fC.length cb],rowR (some ⟨b2,0,none⟩) (Int.toNat (p0.fNo.length:Int)) 4 1 (Int.toNat (p0.fNo.length:Int)) (encL cB s.2.2)] ∧ tm = (upd (upd (upd (upd (upd (upd (upd (upd (upd (upd (upd (upd tm0 0 (.agg #[.slice Aa p0.fNo.length ca,.slice Ab p0.fC.length cb])) 1 (.slice Ac p1.length cc)) 2 (.int .i64 p2)) 3 (.int .i64 p3)) 4 (.slice A4_0 p4.length c4_0)) 5 (.pointer (some ⟨b1,0,none⟩))) 10 (.bool false)) 11 (.slice (some ⟨b2,0,none⟩) (Int.toNat (p0.fNo.length:Int)) (Int.toNat (p0.fNo.length:Int)))) 12 (.int .i64 u7.1)) 13 (.bool s.1)) 40 (.bool s16.1)) 14 (.int .i64 s.2.1))) (fun s e L tm => e = .exit 4 ∧ ∃ (tm0:Nat → Value),Int.toNat (p0.fNo.length:Int) = s.2.2.length ∧ L = [cellsR b1 25 [.slice Aa p0.fNo.length ca,.slice Ab p0.fC.length cb],rowR (some ⟨b2,0,none⟩) (Int.toNat (p0.fNo.length:Int)) 4 1 (Int.toNat (p0.fNo.length:Int)) (encL cB s.2.2)] ∧ tm = (upd (upd (upd (upd (upd (upd (upd (upd (upd (upd (upd (upd tm0 0 (.agg #[.slice Aa p0.fNo.length ca,.slice Ab p0.fC.length cb])) 1 (.slice Ac p1.length cc)) 2 (.int .i64 p2)) 3 (.int .i64 p3)) 4 (.slice A4_0 p4.length c4_0)) 5 (.pointer (some ⟨b1,0,none⟩))) 10 (.bool false)) 11 (.slice (some ⟨b2,0,none⟩) (Int.toNat (p0.fNo.length:Int)) (Int.toNat (p0.fNo.length:Int)))) 12 (.int .i64 u7.1)) 13 (.bool s.1)) 40 (.bool s16.1)) 14 (.int .i64 s.2.1))) hl42 ⟨_,hn1_s16,rfl,(kp4 (kp4 (kp4 rfl)))⟩ ?_ ?_
    ·rintro s21 L tm st ⟨tm0_s21,hn1_s21,rfl,rfl⟩ h
     unfold ref09_passed_l3 at h
     refine cS (cS (cR ?_))
     refine ox_y rfl (yMI rfl) (ox_y rfl (yFA fo_25_1 rfl) (ox_y rfl (y_load1 0 (v:=.slice Ab p0.fC.length cb) sc_23 rfl rfl rfl) (ox_y rfl (y_len (us:=[]) us_23 rfl) (ox_y rfl (y_lss rfl rfl) ?_))))
     refine oN (eT ?_)
     rcases iOs h with ⟨hp23,h⟩ | ⟨hp23,h⟩
     ·refine cx_true (vB hp23) ?_
      refine cx_skip (eT (cS (cx_block (cS ?_))))
      refine cx_drawsA 12 mixed (by kernel_rfl) (by kernel_rfl) (by kernel_rfl) ?_
      refine ax_y rfl (fun _ => yFA fo_25_1 rfl) (ax_y rfl (fun _ => y_load1 0 (v:=.slice Ab p0.fC.length cb) sc_23 rfl rfl rfl) (ax_y rfl (fun _ => yMI rfl) ?_))
      obtain ⟨hg24,h⟩:=gOs h
      refine ax_y rfl (fun _ => y_indexR sl_23 (by decide) hg24.1 hg24.2 (RdL.arg hr0_1) (encL_len TClaim_cells2_len (NestP.hn hN0_1.p rfl)) rfl rfl) ?_
      refine ax_y rfl (fun _ => y_fieldAddrR (A:=Ab) (j:=(Int.toNat s21.2.1 * 2)) fo_90_1 rfl) (ax_y rfl (fun _ => y_loadR1 (A:=Ab) (j:=((Int.toNat s21.2.1 * 2) + 1)) (v:=.slice ((rdL ys0_1 s21.2.1).1.1) ((rdL p0.fC s21.2.1).fO.length) ((rdL ys0_1 s21.2.1).1.2.2)) sc_88 (RdL.arg hr0_1) rfl (encL_get TClaim_cells2_len hg24.1 (lt_nat hg24.2 (NestP.hn hN0_1.p rfl)) (congrArg (fun n : Nat => some (Value.slice (rdL ys0_1 s21.2.1).1.1 n (rdL ys0_1 s21.2.1).1.2.2)) (NestP.len hN0_1.p hg24.1 (lt_nat hg24.2 rfl))))) (ax_y rfl (fun _ => yMS rfl) (ax_y rfl (fun _ => yMI rfl) ?_)))
      obtain ⟨hg25,h⟩:=gOs h
      refine ax_y rfl (fun _ => y_indexR sl_26 (by decide) hg25.1 hg25.2 (RdL.arg hr4_0) (encL_len cI_len rfl) rfl rfl) ?_
      refine ax_y rfl (fun _ => y_loadR1 (A:=A4_0) (j:=(Int.toNat s21.2.1 * 1)) (v:=.int .i64 (rdL p4 s21.2.1)) sc_3 (RdL.arg hr4_0) rfl (encL_get0 cI_len hg25.1 (lt_nat hg25.2 rfl) rfl)) ?_
      obtain ⟨hg26,h⟩:=gOs h
      refine ax_y rfl (fun _ => y_indexR sl_88 (by decide) hg26.1 hg26.2 (NestL.rd (NestL.arg hN0_1) hg24.1 (lt_nat hg24.2 rfl)) (encL_len THop_cells_len rfl) rfl rfl) ?_
      refine ax_y rfl (fun _ => y_loadRN (A:=((rdL ys0_1 s21.2.1).1.1)) (j:=(Int.toNat (rdL p4 s21.2.1) * 2)) [.int .i64 ((rdL ((rdL p0.fC s21.2.1).fO) (rdL p4 s21.2.1)).fFrom),.int .i64 ((rdL ((rdL p0.fC s21.2.1).fO) (rdL p4 s21.2.1)).fTo)] ag_111 (Nat.succ_pos _) (NestL.rd (NestL.arg hN0_1) hg24.1 (lt_nat hg24.2 rfl)) rfl (encL_gets THop_cells_len hg26.1 (lt_nat hg26.2 rfl))) ?_
      refine ax_nil rfl ze_111 (fun b27 => ?_)
      refine ox_n rfl (y_storeN 2 [.int .i64 ((rdL ((rdL p0.fC s21.2.1).fO) (rdL p4 s21.2.1)).fFrom),.int .i64 ((rdL ((rdL p0.fC s21.2.1).fO) (rdL p4 s21.2.1)).fTo)] sz_111 rfl (nB rfl) rfl rfl rfl) (oN (ex_only ?_))
      refine eT (cS (cR ?_))
      refine ox_y rfl (y_loadN 0 [.slice Aa p0.fNo.length ca,.slice Ab p0.fC.length cb] ag_25 rfl rfl rfl) (ox_y rfl (yFA fo_111_0 rfl) (ox_y rfl (y_load1 2 (v:=.int .i64 ((rdL ((rdL p0.fC s21.2.1).fO) (rdL p4 s21.2.1)).fFrom)) sc_3 rfl rfl rfl) ?_))
      obtain ⟨y28,hy29,h⟩:=bOs h
      refine ox_y rfl (y_call [.agg #[.slice Aa p0.fNo.length ca,.slice Ab p0.fC.length cb],.int .i64 ((rdL ((rdL p0.fC s21.2.1).fO) (rdL p4 s21.2.1)).fFrom)] go_67 rfl (fun W2 hW2 => ref09_Node_ok p0 ((rdL ((rdL p0.fC s21.2.1).fO) (rdL p4 s21.2.1)).fFrom) y28 hy29 W2 Aa p0.fNo.length ca rfl ((RdL.arg hr0_0) W2 hW2) Ab p0.fC.length cb ys0_1 rfl ((RdL.arg hr0_1) W2 hW2) (NestL.at (NestL.arg hN0_1) W2 hW2)) rfl) (ox_y rfl (yAI rfl) ?_)
      refine oN (eT (cS (cR ?_)))
      refine ox_y rfl (y_loadN 0 [.slice Aa p0.fNo.length ca,.slice Ab p0.fC.length cb] ag_25 rfl rfl rfl) (ox_y rfl (yFA fo_111_1 rfl) (ox_y rfl (y_load1 2 (v:=.int .i64 ((rdL ((rdL p0.fC s21.2.1).fO) (rdL p4 s21.2.1)).fTo)) sc_3 rfl rfl rfl) ?_))
      obtain ⟨y30,hy31,h⟩:=bOs h
      refine ox_y rfl (y_call [.agg #[.slice Aa p0.fNo.length ca,.slice Ab p0.fC.length cb],.int .i64 ((rdL ((rdL p0.fC s21.2.1).fO) (rdL p4 s21.2.1)).fTo)] go_67 rfl (fun W2 hW2 => ref09_Node_ok p0 ((rdL ((rdL p0.fC s21.2.1).fO) (rdL p4 s21.2.1)).fTo) y30 hy31 W2 Aa p0.fNo.length ca rfl ((RdL.arg hr0_0) W2 hW2) Ab p0.fC.length cb ys0_1 rfl ((RdL.arg hr0_1) W2 hW2) (NestL.at (NestL.arg hN0_1) W2 hW2)) rfl) (ox_y rfl (yAI rfl) ?_)
      refine oN (eT (cS (cR ?_)))
      refine ox_y rfl (yFA fo_111_1 rfl) (ox_y rfl (y_load1 2 (v:=.int .i64 ((rdL ((rdL p0.fC s21.2.1).fO) (rdL p4 s21.2.1)).fTo)) sc_3 rfl rfl rfl) (ox_y rfl (yMI rfl) (ox_y rfl (y_neq rfl rfl) (ox_y rfl (y_move_bool rfl) ?_))))
      obtain ⟨b33,hb34,h⟩:=bOs h
      refine ox_join 5 (fun tm0 => (upd (upd (upd (upd (upd (upd (upd (upd (upd (upd (upd (upd (upd (upd (upd (upd (upd tm0 0 (.agg #[.slice Aa p0.fNo.length ca,.slice Ab p0.fC.length cb])) 1 (.slice Ac p1.length cc)) 2 (.int .i64 p2)) 3 (.int .i64 p3)) 4 (.slice A4_0 p4.length c4_0)) 5 (.pointer (some ⟨b1,0,none⟩))) 10 (.bool false)) 11 (.slice (some ⟨b2,0,none⟩) (Int.toNat (p0.fNo.length:Int)) (Int.toNat (p0.fNo.length:Int)))) 12 (.int .i64 u7.1)) 13 (.bool s21.1)) 40 (.bool s16.1)) 14 (.int .i64 s21.2.1)) 45 (.bool (decide (s21.2.1 < (p0.fC.length:Int))))) 15 (.pointer (some ⟨b27,0,none⟩))) 16 (.int .i64 y28)) 17 (.int .i64 y30)) 77 (.bool b33))) (fun tm0 => ?_) (fun key => ?_)
      ·refine ox_y rfl (y_move_bool rfl) ?_
       obtain ⟨b36,hb37,h⟩:=bOs h
       refine ox_join 6 (fun tm0 => (upd (upd (upd (upd (upd (upd (upd (upd (upd (upd (upd (upd (upd (upd (upd (upd (upd tm0 0 (.agg #[.slice Aa p0.fNo.length ca,.slice Ab p0.fC.length cb])) 1 (.slice Ac p1.length cc)) 2 (.int .i64 p2)) 3 (.int .i64 p3)) 4 (.slice A4_0 p4.length c4_0)) 5 (.pointer (some ⟨b1,0,none⟩))) 10 (.bool false)) 11 (.slice (some ⟨b2,0,none⟩) (Int.toNat (p0.fNo.length:Int)) (Int.toNat (p0.fNo.length:Int)))) 12 (.int .i64 u7.1)) 13 (.bool s21.1)) 40 (.bool s16.1)) 14 (.int .i64 s21.2.1)) 45 (.bool (decide (s21.2.1 < (p0.fC.length:Int))))) 15 (.pointer (some ⟨b27,0,none⟩))) 16 (.int .i64 y28)) 17 (.int .i64 y30)) 84 (.bool b36))) (fun tm0 => ?_) (fun key => ?_)
       ·refine oN (eT ?_)
        rcases iOs h with ⟨hp38,h⟩ | ⟨hp38,h⟩
        ·refine cx_true (vB hp38) ?_
         refine cS (cR ?_)
         refine ox_y rfl (yMS rfl) (ox_y rfl (yMI rfl) ?_)
         obtain ⟨hg39,h⟩:=gOs h
         refine ox_y rfl (y_indexR sl_98 (by decide) hg39.1 hg39.2 (RdL.row 1 rfl) (encL_len cB_len hn1_s21) rfl rfl) ?_
         refine ox_n rfl (y_storeR1 1 (xs:=s21.2.2) cB_len true sz_4 rfl hg39.1 (lt_nat hg39.2 hn1_s21) rfl rfl rfl rfl) ?_
         refine oN (eT (cR ?_))
         refine ox_y rfl (y_assign_bool rfl) (oN (ex_block ?_))
         refine eT (cR ?_)
         refine ox_y rfl (yMI rfl) (ox_y rfl (y_add rfl rfl) (ox_y rfl (yAI rfl) (oN (ex_take 2 ?_))))
         obtain rfl:=sI h
         exact ex_next ⟨_,(hn_set hn1_s21),rfl,(kp4 (kp4 (kp4 rfl)))⟩
        ·refine cx_false (vB hp38) (cx_skip (ex_block ?_))
         refine eT (cR ?_)
         refine ox_y rfl (yMI rfl) (ox_y rfl (y_add rfl rfl) (ox_y rfl (yAI rfl) (oN (ex_take 2 ?_))))
         obtain rfl:=sI h
         exact ex_next ⟨_,hn1_s21,rfl,(kp4 (kp4 (kp4 rfl)))⟩
       ·clear h; rcases iOs hb37 with ⟨hp35,h⟩ | ⟨hp35,h⟩
        ·refine ox_y (sT rfl rfl rfl rfl hp35) (yMS rfl) (ox_y (sT rfl rfl rfl rfl hp35) (yMI rfl) ?_)
         obtain ⟨hg40,h⟩:=gOs h
         refine ox_y (sT rfl rfl rfl rfl hp35) (y_indexR sl_98 (by decide) hg40.1 hg40.2 (RdL.row 1 rfl) (encL_len cB_len hn1_s21) rfl rfl) ?_
         refine ox_y (sT rfl rfl rfl rfl hp35) (y_loadR1 (A:=(some ⟨b2,0,none⟩)) (j:=(Int.toNat y30 * 1)) (v:=.bool (rdL s21.2.2 y30)) sc_4 (RdL.row 1 rfl) rfl (encL_get0 cB_len hg40.1 (lt_nat hg40.2 hn1_s21) rfl)) (ox_y (sT rfl rfl rfl rfl hp35) (y_not rfl) (ox_y rfl (y_pick_tb (vB hp35) rfl) ?_))
         obtain rfl:=sI h
         exact key _ _ (kp4 (kp4 (kp4 (kp4 (kp rfl)))))
        ·refine oSk (sF rfl rfl rfl rfl hp35) (oSk (sF rfl rfl rfl rfl hp35) (oSk (sF rfl rfl rfl rfl hp35) (oSk (sF rfl rfl rfl rfl hp35) (oSk (sF rfl rfl rfl rfl hp35) (ox_y rfl (y_pick_fb (vB hp35) rfl) ?_)))))
         obtain rfl:=sI h
         exact key _ _ (kp4 (kp4 (kp4 (kp4 (kp rfl)))))
      ·clear h; rcases iOs hb34 with ⟨hp32,h⟩ | ⟨hp32,h⟩
       ·refine ox_y (sT rfl rfl rfl rfl hp32) (yMS rfl) (ox_y (sT rfl rfl rfl rfl hp32) (yMI rfl) ?_)
        obtain ⟨hg41,h⟩:=gOs h
        refine ox_y (sT rfl rfl rfl rfl hp32) (y_indexR sl_98 (by decide) hg41.1 hg41.2 (RdL.row 1 rfl) (encL_len cB_len hn1_s21) rfl rfl) ?_
        refine ox_y (sT rfl rfl rfl rfl hp32) (y_loadR1 (A:=(some ⟨b2,0,none⟩)) (j:=(Int.toNat y28 * 1)) (v:=.bool (rdL s21.2.2 y28)) sc_4 (RdL.row 1 rfl) rfl (encL_get0 cB_len hg41.1 (lt_nat hg41.2 hn1_s21) rfl)) (ox_y rfl (y_pick_tb (vB hp32) rfl) ?_)
        obtain rfl:=sI h
        exact key _ _ (kp4 (kp4 (kp4 (kp4 (kp rfl)))))
       ·refine oSk (sF rfl rfl rfl rfl hp32) (oSk (sF rfl rfl rfl rfl hp32) (oSk (sF rfl rfl rfl rfl hp32) (oSk (sF rfl rfl rfl rfl hp32) (ox_y rfl (y_pick_fb (vB hp32) rfl) ?_))))
        obtain rfl:=sI h
        exact key _ _ (kp4 (kp4 (kp4 (kp4 (kp rfl)))))
     ·refine cx_false (vB hp23) (cx_exit (ex_then_exit ?_))
      obtain rfl:=sI h
      exact ex_stop ⟨rfl,_,hn1_s21,rfl,(kp4 (kp4 (kp4 rfl)))⟩
    ·intro e L tm hJ
     obtain ⟨rfl,tm0_u22,hn1_u22,rfl,rfl⟩:=hJ
     refine ⟨(by intro hc; cases hc),?_⟩
     refine ex_block_here (ex_block ?_)
     obtain rfl:=sI h
     exact ex_next ⟨_,hn1_u22,rfl,(kp4 (kp4 (kp (kp rfl))))⟩
   ·refine cx_false (vB hp18) (cx_exit (ex_then_exit ?_))
    obtain rfl:=sI h
    exact ex_stop ⟨rfl,_,hn1_s16,rfl,(kp4 (kp4 (kp (kp rfl))))⟩
  ·intro e L tm hJ
   obtain ⟨rfl,tm0_u17,hn1_u17,rfl,rfl⟩:=hJ
   refine ⟨(by intro hc; cases hc),?_⟩
   refine ex_block_here ?_
   refine eT (cS (cR ?_))
   refine ox_y rfl (yMS rfl) (ox_y rfl (y_loadN 0 [.slice Aa p0.fNo.length ca,.slice Ab p0.fC.length cb] ag_25 rfl rfl rfl) (ox_y rfl (yMI rfl) ?_))
   obtain ⟨y44,hy45,h⟩:=bOs h
   refine ox_y rfl (y_call [.agg #[.slice Aa p0.fNo.length ca,.slice Ab p0.fC.length cb],.int .i64 p2] go_67 rfl (fun W2 hW2 => ref09_Node_ok p0 p2 y44 hy45 W2 Aa p0.fNo.length ca rfl ((RdL.arg hr0_0) W2 hW2) Ab p0.fC.length cb ys0_1 rfl ((RdL.arg hr0_1) W2 hW2) (NestL.at (NestL.arg hN0_1) W2 hW2)) rfl) ?_
   obtain ⟨hg46,h⟩:=gOs h
   refine ox_y rfl (y_indexR sl_98 (by decide) hg46.1 hg46.2 (RdL.row 1 rfl) (encL_len cB_len hn1_u17) rfl rfl) ?_
   refine ox_y rfl (y_loadR1 (A:=(some ⟨b2,0,none⟩)) (j:=(Int.toNat y44 * 1)) (v:=.bool (rdL u17.2 y44)) sc_4 (RdL.row 1 rfl) rfl (encL_get0 cB_len hg46.1 (lt_nat hg46.2 hn1_u17) rfl)) (ox_y rfl (y_assign_bool rfl) ?_)
   refine oN (eT (cx_ret ?_))
   obtain rfl:=sI h
   exact ex_res1 (.inl rfl) rfl (rVt (v:=.bool (rdL u17.2 y44)) rfl) (fun W2 hW2 => ⟨rfl,hW2.none⟩)
theorem ref09_Gates_ok (p0:TL) (p1:(List Int)) (p2:Int) (res:TInts) (h:ref09_Gates p0 p1 p2 = some res) (W:World) (Aa:Option Addr) (n0_0 ca : Nat) (hn0_0:n0_0 = p0.fNo.length) (hr0_0:Rd W Aa n0_0 ca (encL TNode_cells p0.fNo)) (Ab:Option Addr) (n0_1 cb : Nat) (ys0_1:List (Hd × TC)) (hn0_1:n0_1 = p0.fC.length) (hr0_1:Rd W Ab n0_1 cb (encL TClaim_cells2 ys0_1)) (hN0_1:NestW W (fun z : TC => z.fO) THop_cells ys0_1 p0.fC) (Ac:Option Addr) (n1_0 cc : Nat) (hn1_0:n1_0 = p1.length) (hr1_0:Rd W Ac n1_0 cc (encL cI p1)) :
  Calls Tryz.prog 23 [.agg #[.slice Aa n0_0 ca,.slice Ab n0_1 cb],.slice Ac n1_0 cc,.int .i64 p2].toArray W fun e W2 => ∃ x : Option Addr × Nat × Nat,x.2.1 = res.fL.length ∧ e = .returned (.agg #[.slice x.1 x.2.1 x.2.2,.int .i64 res.fE]) ∧ Ext W W2 [rowR x.1 x.2.2 3 1 x.2.1 (encL cI res.fL)]:=by
 subst hn0_0
 subst hn0_1
 subst hn1_0
 unfold ref09_Gates at h
 refine calls_enter (m:=76) Tryz.func23 rfl rfl (nB rfl) ?_
 refine cS (cR ?_)
 refine ox_box [.slice Aa p0.fNo.length ca,.slice Ab p0.fC.length cb] rfl rfl rfl (fun b1 => ?_)
 refine ox_alloc ze_45 rfl (fun b2 => ?_)
 refine oN (eT (cS (cR ?_)))
 refine ox_y rfl (y_loadN 0 [.slice Aa p0.fNo.length ca,.slice Ab p0.fC.length cb] ag_25 rfl rfl rfl) (ox_y rfl (yMS rfl) (ox_y rfl (yMI rfl) ?_))
 obtain ⟨y3,hy4,h⟩:=bOs h
 refine ox_y rfl (y_call [.agg #[.slice Aa p0.fNo.length ca,.slice Ab p0.fC.length cb],.slice Ac p1.length cc,.int .i64 p2] go_38 rfl (fun W2 hW2 => ref09_To_ok p0 p1 p2 y3 hy4 W2 Aa p0.fNo.length ca rfl ((RdL.arg hr0_0) W2 hW2) Ab p0.fC.length cb ys0_1 rfl ((RdL.arg hr0_1) W2 hW2) (NestL.at (NestL.arg hN0_1) W2 hW2) Ac p1.length cc rfl ((RdL.arg hr1_0) W2 hW2)) rfl) (ox_y rfl (yAI rfl) ?_)
 refine oN (eT (cS (cS (cR ?_))))
 refine ox_y rfl (yMI rfl) (ox_y rfl (y_eql rfl rfl) (ox_y rfl (y_move_bool rfl) ?_))
 obtain ⟨b6,hb7,h⟩:=bOs h
 refine ox_join 6 (fun tm0 => (upd (upd (upd (upd (upd (upd tm0 1 (.slice Ac p1.length cc)) 2 (.int .i64 p2)) 3 (.pointer (some ⟨b1,0,none⟩))) 6 (.pointer (some ⟨b2,0,none⟩))) 7 (.int .i64 y3)) 25 (.bool b6))) (fun tm0 => ?_) (fun key => ?_)
 ·refine oN (eT ?_)
  rcases iOs h with ⟨hp8,h⟩ | ⟨hp8,h⟩
  ·refine cx_true (vB hp8) (cR (ox_y rfl (yAI rfl) ?_))
   refine oN (eT (cS (cS (cR ?_))))
   refine ox_y rfl (yMI rfl) (ox_y rfl (y_neq rfl rfl) ?_)
   refine oN (eT ?_)
   refine cx_true rfl ?_
   refine cS (cR ?_)
   refine ox_y rfl (yMI rfl) ?_
   refine ox_y rfl (y_buildS [.slice none 0 0,.int .i64 5] [(0,1),(1,1)] ust_45 ze_45 (by kernel_rfl)) ?_
   refine ox_n rfl (y_storeN 1 [.slice none 0 0,.int .i64 5] sz_45 rfl (nB rfl) rfl rfl rfl) ?_
   refine oN (eT (cx_ret (ex_then_ret ?_)))
   obtain rfl:=sI h
   exact ex_res1 (.inl rfl) rfl (resV_cellN 1 [.slice none 0 0,.int .i64 5] ag_45 rfl rfl rfl) (fun W2 hW2 => ⟨(none,0,0),rfl,rfl,((hW2.nilrow 3 1).pick 2 rfl)⟩)
  ·refine cx_false (vB hp8) ?_
   refine cx_skip (eT (cS (cS (cR ?_))))
   refine ox_y rfl (yMI rfl) (ox_y rfl (y_neq rfl rfl) ?_)
   refine oN (eT ?_)
   rcases iOs h with ⟨hp9,h⟩ | ⟨hp9,h⟩
   ·refine cx_true (vB hp9) ?_
    refine cS (cR ?_)
    refine ox_y rfl (yMI rfl) ?_
    refine ox_y rfl (y_buildS [.slice none 0 0,.int .i64 y3] [(0,1),(1,1)] ust_45 ze_45 (by kernel_rfl)) ?_
    refine ox_n rfl (y_storeN 1 [.slice none 0 0,.int .i64 y3] sz_45 rfl (nB rfl) rfl rfl rfl) ?_
    refine oN (eT (cx_ret (ex_then_ret ?_)))
    obtain rfl:=sI h
    exact ex_res1 (.inl rfl) rfl (resV_cellN 1 [.slice none 0 0,.int .i64 y3] ag_45 rfl rfl rfl) (fun W2 hW2 => ⟨(none,0,0),rfl,rfl,((hW2.nilrow 3 1).pick 2 rfl)⟩)
   ·refine cx_false (vB hp9) ?_
    refine cx_skip (eT (cS (cR ?_)))
    refine ox_y rfl (yAS rfl) ?_
    refine oN (eT (cS (cS (cR ?_))))
    refine ox_y rfl (yAI rfl) ?_
    refine oN (eT (cx_block ?_))
    obtain ⟨u13,hl45,h⟩:=bOs h
    refine cx_nilrow 3 1 ?_
    refine cx_loop (fun (s:(Int × (List Int))) L tm => ∃ (tm0:Nat → Value) (A2_s:Option Addr) (c2_s:Nat) (n2_s:Nat),n2_s = s.2.length ∧ L = [cellsR b1 25 [.slice Aa p0.fNo.length ca,.slice Ab p0.fC.length cb],cellsR b2 45 [.slice none 0 0,.int .i64 0],rowR A2_s c2_s 3 1 n2_s (encL cI s.2)] ∧ tm = (upd (upd (upd (upd (upd (upd (upd (upd (upd tm0 1 (.slice Ac p1.length cc)) 2 (.int .i64 p2)) 3 (.pointer (some ⟨b1,0,none⟩))) 6 (.pointer (some ⟨b2,0,none⟩))) 7 (.int .i64 y3)) 25 (.bool b6)) 27 (.bool (y3 != 0))) 8 (.slice A2_s n2_s c2_s)) 9 (.int .i64 s.1))) (fun s e L tm => e = .exit 0 ∧ ∃ (tm0:Nat → Value) (A2_s:Option Addr) (c2_s:Nat) (n2_s:Nat),n2_s = s.2.length ∧ L = [cellsR b1 25 [.slice Aa p0.fNo.length ca,.slice Ab p0.fC.length cb],cellsR b2 45 [.slice none 0 0,.int .i64 0],rowR A2_s c2_s 3 1 n2_s (encL cI s.2)] ∧ tm = (upd (upd (upd (upd (upd (upd (upd (upd (upd tm0 1 (.slice Ac p1.length cc)) 2 (.int .i64 p2)) 3 (.pointer (some ⟨b1,0,none⟩))) 6 (.pointer (some ⟨b2,0,none⟩))) 7 (.int .i64 y3)) 25 (.bool b6)) 27 (.bool (y3 != 0))) 8 (.slice A2_s n2_s c2_s)) 9 (.int .i64 s.1))) hl45 ⟨_,none,0,0,rfl,rfl,(kp4 (kp4 (kp rfl)))⟩ ?_ ?_
    ·rintro s12 L tm st ⟨tm0_s12,A2_s12,c2_s12,n2_s12,rfl,rfl,rfl⟩ h
     unfold ref09_Gates_l1 at h
     refine cS (cS (cR ?_))
     refine ox_y rfl (yMI rfl) (ox_y rfl (yFA fo_25_0 rfl) (ox_y rfl (y_load1 0 (v:=.slice Aa p0.fNo.length ca) sc_22 rfl rfl rfl) (ox_y rfl (y_len (us:=[]) us_22 rfl) (ox_y rfl (y_lss rfl rfl) ?_))))
     refine oN (eT ?_)
     rcases iOs h with ⟨hp14,h⟩ | ⟨hp14,h⟩
     ·refine cx_true (vB hp14) ?_
      refine cx_skip (eT (cS (cx_block (cS (cR ?_)))))
      refine ox_y rfl (yFA fo_25_0 rfl) (ox_y rfl (y_load1 0 (v:=.slice Aa p0.fNo.length ca) sc_22 rfl rfl rfl) (ox_y rfl (yMI rfl) ?_))
      obtain ⟨hg15,h⟩:=gOs h
      refine ox_y rfl (y_indexR sl_22 (by decide) hg15.1 hg15.2 (RdL.arg hr0_0) (encL_len TNode_cells_len rfl) rfl rfl) ?_
      refine ox_y rfl (y_fieldAddrR (A:=Aa) (j:=(Int.toNat s12.1 * 3)) fo_97_0 rfl) (ox_y rfl (y_loadR1 (A:=Aa) (j:=((Int.toNat s12.1 * 3) + 0)) (v:=.int .i64 ((rdL p0.fNo s12.1).fID)) sc_3 (RdL.arg hr0_0) rfl (encL_get TNode_cells_len hg15.1 (lt_nat hg15.2 rfl) rfl)) (ox_y rfl (yAI rfl) ?_))
      refine oN (eT (cS (cS (cR ?_))))
      refine ox_y rfl (yMI rfl) (ox_y rfl (yMI rfl) (ox_y rfl (y_eql rfl rfl) (ox_y rfl (y_move_bool rfl) ?_)))
      obtain ⟨b17,hb18,h⟩:=bOs h
      refine ox_join 4 (fun tm0 => (upd (upd (upd (upd (upd (upd (upd (upd (upd (upd (upd (upd tm0 1 (.slice Ac p1.length cc)) 2 (.int .i64 p2)) 3 (.pointer (some ⟨b1,0,none⟩))) 6 (.pointer (some ⟨b2,0,none⟩))) 7 (.int .i64 y3)) 25 (.bool b6)) 27 (.bool (y3 != 0))) 8 (.slice A2_s12 s12.2.length c2_s12)) 9 (.int .i64 s12.1)) 34 (.bool (decide (s12.1 < (p0.fNo.length:Int))))) 10 (.int .i64 ((rdL p0.fNo s12.1).fID))) 50 (.bool b17))) (fun tm0 => ?_) (fun key => ?_)
      ·refine oN (eT ?_)
       rcases iOs h with ⟨hp19,h⟩ | ⟨hp19,h⟩
       ·refine cx_true (vB hp19) (cx_exit (ex_then_exit (ex_block_here ?_)))
        refine eT (cR ?_)
        refine ox_y rfl (yMI rfl) (ox_y rfl (y_add rfl rfl) (ox_y rfl (yAI rfl) (oN ?_)))
        obtain rfl:=sI h
        exact ex_next ⟨_,A2_s12,c2_s12,s12.2.length,rfl,rfl,(kp4 (kp4 (kp rfl)))⟩
       ·refine cx_false (vB hp19) ?_
        refine cx_skip (eT (cS (cR ?_)))
        refine ox_y rfl (y_assign_bool rfl) ?_
        refine oN (eT (cS (cS (cR ?_))))
        refine ox_y rfl (yAI rfl) ?_
        refine oN (eT (cx_block ?_))
        obtain ⟨u22,hl35,h⟩:=bOs h
        refine cx_loop (fun (s:(Bool × Int)) L tm => ∃ (tm0:Nat → Value),L = [cellsR b1 25 [.slice Aa p0.fNo.length ca,.slice Ab p0.fC.length cb],cellsR b2 45 [.slice none 0 0,.int .i64 0],rowR A2_s12 c2_s12 3 1 s12.2.length (encL cI s12.2)] ∧ tm = (upd (upd (upd (upd (upd (upd (upd (upd (upd (upd (upd (upd (upd (upd tm0 1 (.slice Ac p1.length cc)) 2 (.int .i64 p2)) 3 (.pointer (some ⟨b1,0,none⟩))) 6 (.pointer (some ⟨b2,0,none⟩))) 7 (.int .i64 y3)) 25 (.bool b6)) 27 (.bool (y3 != 0))) 8 (.slice A2_s12 s12.2.length c2_s12)) 9 (.int .i64 s12.1)) 34 (.bool (decide (s12.1 < (p0.fNo.length:Int))))) 10 (.int .i64 ((rdL p0.fNo s12.1).fID))) 50 (.bool b17)) 11 (.bool s.1)) 12 (.int .i64 s.2))) (fun s e L tm => e = .exit 2 ∧ ∃ (tm0:Nat → Value),L = [cellsR b1 25 [.slice Aa p0.fNo.length ca,.slice Ab p0.fC.length cb],cellsR b2 45 [.slice none 0 0,.int .i64 0],rowR A2_s12 c2_s12 3 1 s12.2.length (encL cI s12.2)] ∧ tm = (upd (upd (upd (upd (upd (upd (upd (upd (upd (upd (upd (upd (upd (upd tm0 1 (.slice Ac p1.length cc)) 2 (.int .i64 p2)) 3 (.pointer (some ⟨b1,0,none⟩))) 6 (.pointer (some ⟨b2,0,none⟩))) 7 (.int .i64 y3)) 25 (.bool b6)) 27 (.bool (y3 != 0))) 8 (.slice A2_s12 s12.2.length c2_s12)) 9 (.int .i64 s12.1)) 34 (.bool (decide (s12.1 < (p0.fNo.length:Int))))) 10 (.int .i64 ((rdL p0.fNo s12.1).fID))) 50 (.bool b17)) 11 (.bool s.1)) 12 (.int .i64 s.2))) hl35 ⟨_,rfl,(kp4 (kp4 (kp4 (kp (kp rfl)))))⟩ ?_ ?_
        ·rintro s21 L tm st ⟨tm0_s21,rfl,rfl⟩ h
         unfold ref09_Gates_l2 at h
         refine cS (cS (cR ?_))
         refine ox_y rfl (yMI rfl) (ox_y rfl (y_loadN 0 [.slice Aa p0.fNo.length ca,.slice Ab p0.fC.length cb] ag_25 rfl rfl rfl) ?_)
         obtain ⟨y23,hy24,h⟩:=bOs h
         refine ox_y rfl (y_call [.agg #[.slice Aa p0.fNo.length ca,.slice Ab p0.fC.length cb]] go_83 rfl (fun W2 hW2 => ref09_count_ok p0 y23 hy24 W2 Aa p0.fNo.length ca rfl ((RdL.arg hr0_0) W2 hW2) Ab p0.fC.length cb ys0_1 rfl ((RdL.arg hr0_1) W2 hW2) (NestL.at (NestL.arg hN0_1) W2 hW2)) rfl) (ox_y rfl (y_lss rfl rfl) (ox_y rfl (y_move_bool rfl) ?_))
         refine ox_join 3 (fun tm0 => (upd (upd (upd (upd (upd (upd (upd (upd (upd (upd (upd (upd (upd (upd (upd tm0 1 (.slice Ac p1.length cc)) 2 (.int .i64 p2)) 3 (.pointer (some ⟨b1,0,none⟩))) 6 (.pointer (some ⟨b2,0,none⟩))) 7 (.int .i64 y3)) 25 (.bool b6)) 27 (.bool (y3 != 0))) 8 (.slice A2_s12 s12.2.length c2_s12)) 9 (.int .i64 s12.1)) 34 (.bool (decide (s12.1 < (p0.fNo.length:Int))))) 10 (.int .i64 ((rdL p0.fNo s12.1).fID))) 50 (.bool b17)) 11 (.bool s21.1)) 12 (.int .i64 s21.2)) 58 (.bool ((decide (s21.2 < y23)) && (!s21.1))))) (fun tm0 => ?_) (fun key => ?_)
         ·refine oN (eT ?_)
          rcases iOs h with ⟨hp26,h⟩ | ⟨hp26,h⟩
          ·refine cx_true (vB hp26) ?_
           refine cx_skip (eT (cS (cx_block ?_)))
           obtain ⟨y27,hy28,h⟩:=bOs h
           refine cx_drawsQ 6 7 (fun v L1 => ∃ x : (Option Addr × Nat × Nat),x.2.1 = y27.length ∧ v = .slice x.1 x.2.1 x.2.2 ∧ L1 = [rowR x.1 x.2.2 3 1 x.2.1 (encL cI y27)]) mixed (by kernel_rfl) (by kernel_rfl) (by kernel_rfl) ?_
           refine bx_y rfl (fun _ => y_loadN 0 [.slice Aa p0.fNo.length ca,.slice Ab p0.fC.length cb] ag_25 rfl rfl rfl) (bx_y rfl (fun _ => yMS rfl) (bx_y rfl (fun _ => yMI rfl) (bx_y rfl (fun _ => yMI rfl) (bx_y rfl (fun _ => y_loadN 0 [.slice Aa p0.fNo.length ca,.slice Ab p0.fC.length cb] ag_25 rfl rfl rfl) (bx_y rfl (fun _ => yMI rfl) (bx_q rfl (ox_call [.agg #[.slice Aa p0.fNo.length ca,.slice Ab p0.fC.length cb],.int .i64 s21.2] _ _ _ rfl go_85 rfl (fun W2 hW2 => ref09_numbered_ok p0 s21.2 y27 hy28 W2 Aa p0.fNo.length ca rfl ((RdL.arg hr0_0) W2 hW2) Ab p0.fC.length cb ys0_1 rfl ((RdL.arg hr0_1) W2 hW2) (NestL.at (NestL.arg hN0_1) W2 hW2)) (fun x hx => oN (ex_cap ⟨x,hx,rfl,rfl⟩))) (kx_nil rfl ?_)))))))
           rintro v L1 ⟨⟨A29,n31,c30⟩,hn32,rfl,rfl⟩
           replace hn32 : n31 = y27.length:=hn32; subst hn32
           obtain ⟨y33,hy34,h⟩:=bOs h
           refine ox_y rfl (y_call [.agg #[.slice Aa p0.fNo.length ca,.slice Ab p0.fC.length cb],.slice Ac p1.length cc,.int .i64 p2,.int .i64 ((rdL p0.fNo s12.1).fID),.slice A29 y27.length c30] go_84 rfl (fun W2 hW2 => ref09_passed_ok p0 p1 p2 ((rdL p0.fNo s12.1).fID) y27 y33 hy34 W2 Aa p0.fNo.length ca rfl ((RdL.arg hr0_0) W2 hW2) Ab p0.fC.length cb ys0_1 rfl ((RdL.arg hr0_1) W2 hW2) (NestL.at (NestL.arg hN0_1) W2 hW2) Ac p1.length cc rfl ((RdL.arg hr1_0) W2 hW2) A29 y27.length c30 rfl ((RdL.row 3 rfl) W2 hW2)) rfl) (ox_y rfl (y_assign_bool rfl) (oN (ex_only (ex_block ?_))))
           refine eT (cR ?_)
           refine ox_y rfl (yMI rfl) (ox_y rfl (y_add rfl rfl) (ox_y rfl (yAI rfl) (oN (ex_take 3 ?_))))
           obtain rfl:=sI h
           exact ex_next ⟨_,rfl,(kp4 (kp4 (kp4 (kp (kp rfl)))))⟩
          ·refine cx_false (vB hp26) (cx_exit (ex_then_exit ?_))
           obtain rfl:=sI h
           exact ex_stop ⟨rfl,_,rfl,(kp4 (kp4 (kp4 (kp (kp rfl)))))⟩
         ·rcases bool_cases (decide (s21.2 < y23)) with hp25 | hp25
          ·refine ox_y (sT rfl rfl rfl rfl hp25) (y_move_bool rfl) (ox_y (sT rfl rfl rfl rfl hp25) (y_not rfl) (ox_y rfl (y_pick_tb (vB hp25) rfl) ?_))
           exact key _ _ (keep (keep (keep (keep (keep (keep (keep (keep (keep (keep (keep (keep (keep (keep (keep rfl rfl) rfl) rfl) rfl) rfl) rfl) rfl) rfl) rfl) rfl) rfl) rfl) rfl) rfl) (vB (and_t hp25)))
          ·refine oSk (sF rfl rfl rfl rfl hp25) (oSk (sF rfl rfl rfl rfl hp25) (ox_y rfl (y_pick_fb (vB hp25) rfl) ?_))
           exact key _ _ (keep (keep (keep (keep (keep (keep (keep (keep (keep (keep (keep (keep (keep (keep (keep rfl rfl) rfl) rfl) rfl) rfl) rfl) rfl) rfl) rfl) rfl) rfl) rfl) rfl) rfl) (vB (and_f hp25)))
        ·intro e L tm hJ
         obtain ⟨rfl,tm0_u22,rfl,rfl⟩:=hJ
         refine ⟨(by intro hc; cases hc),?_⟩
         refine ex_block_here ?_
         refine eT (cS (cR ?_))
         refine ox_y rfl (y_move_bool rfl) (ox_y rfl (y_not rfl) ?_)
         refine oN (eT ?_)
         rcases iOs h with ⟨hp36,h⟩ | ⟨hp36,h⟩
         ·refine cx_true (vB hp36) (cR (ox_y rfl (yMS rfl) (ox_y rfl (yMI rfl) ?_)))
          obtain ⟨y37,hy38,h⟩:=bOs h
          refine ox_call [.slice A2_s12 s12.2.length c2_s12,.int .i64 ((rdL p0.fNo s12.1).fID)] _ _ _ rfl go_69 rfl (fun W2 hW2 => ref09_put_ok s12.2 ((rdL p0.fNo s12.1).fID) y37 hy38 W2 A2_s12 s12.2.length c2_s12 rfl ((RdL.row 2 rfl) W2 hW2)) ?_
          rintro ⟨A39,n41,c40⟩ hn42
          replace hn42 : n41 = y37.length:=hn42; subst hn42
          refine ox_y rfl (yAS rfl) (oN (ex_block ?_))
          refine eT (cR ?_)
          refine ox_y rfl (yMI rfl) (ox_y rfl (y_add rfl rfl) (ox_y rfl (yAI rfl) (oN ?_)))
          refine ex_mv 2 3 (by decide) rfl ?_
          try dsimp only [lsz,lss]
          refine ex_take 3 ?_
          obtain rfl:=sI h
          exact ex_next ⟨_,A39,c40,y37.length,rfl,rfl,(kp4 (kp4 (kp rfl)))⟩
         ·refine cx_false (vB hp36) (cx_skip (ex_block ?_))
          refine eT (cR ?_)
          refine ox_y rfl (yMI rfl) (ox_y rfl (y_add rfl rfl) (ox_y rfl (yAI rfl) (oN ?_)))
          obtain rfl:=sI h
          exact ex_next ⟨_,A2_s12,c2_s12,s12.2.length,rfl,rfl,(kp4 (kp4 (kp rfl)))⟩
      ·clear h; rcases iOs hb18 with ⟨hp16,h⟩ | ⟨hp16,h⟩
       ·refine oSk (sF rfl rfl rfl rfl hp16) (oSk (sF rfl rfl rfl rfl hp16) (oSk (sF rfl rfl rfl rfl hp16) (ox_y rfl (y_pick_tb (vB hp16) rfl) ?_)))
        obtain rfl:=sI h
        exact key _ _ (kp4 (kp4 (kp4 rfl)))
       ·refine ox_y (sT rfl rfl rfl rfl hp16) (yMS rfl) (ox_y (sT rfl rfl rfl rfl hp16) (yMI rfl) ?_)
        obtain ⟨y43,hy44,h⟩:=bOs h
        refine ox_y (sT rfl rfl rfl rfl hp16) (y_call [.slice Ac p1.length cc,.int .i64 ((rdL p0.fNo s12.1).fID)] go_82 rfl (fun W2 hW2 => ref09_has_ok p1 ((rdL p0.fNo s12.1).fID) y43 hy44 W2 Ac p1.length cc rfl ((RdL.arg hr1_0) W2 hW2)) rfl) (ox_y rfl (y_pick_fb (vB hp16) rfl) ?_)
        obtain rfl:=sI h
        exact key _ _ (kp4 (kp4 (kp4 rfl)))
     ·refine cx_false (vB hp14) (cx_exit (ex_then_exit ?_))
      obtain rfl:=sI h
      exact ex_stop ⟨rfl,_,A2_s12,c2_s12,s12.2.length,rfl,rfl,(kp4 (kp4 (kp rfl)))⟩
    ·intro e L tm hJ
     obtain ⟨rfl,tm0_u13,A2_u13,c2_u13,n2_u13,rfl,rfl,rfl⟩:=hJ
     refine ⟨(by intro hc; cases hc),?_⟩
     refine ex_block_here ?_
     refine eT (cS (cR ?_))
     refine ox_y rfl (yMS rfl) ?_
     refine ox_y rfl (y_buildS [.slice A2_u13 u13.2.length c2_u13,.int .i64 0] [(0,1),(1,1)] ust_45 ze_45 (by kernel_rfl)) ?_
     refine ox_n rfl (y_storeN 1 [.slice A2_u13 u13.2.length c2_u13,.int .i64 0] sz_45 rfl (nB rfl) rfl rfl rfl) ?_
     refine oN (eT (cx_ret ?_))
     obtain rfl:=sI h
     exact ex_res1 (.inl rfl) rfl (resV_cellN 1 [.slice A2_u13 u13.2.length c2_u13,.int .i64 0] ag_45 rfl rfl rfl) (fun W2 hW2 => ⟨(A2_u13,u13.2.length,c2_u13),rfl,rfl,(hW2.pick 2 rfl)⟩)
 ·clear h; rcases iOs hb7 with ⟨hp5,h⟩ | ⟨hp5,h⟩
  ·refine ox_y (sT rfl rfl rfl rfl hp5) (y_loadN 0 [.slice Aa p0.fNo.length ca,.slice Ab p0.fC.length cb] ag_25 rfl rfl rfl) (ox_y (sT rfl rfl rfl rfl hp5) (yMS rfl) (ox_y (sT rfl rfl rfl rfl hp5) (yMI rfl) ?_))
   obtain ⟨y46,hy47,h⟩:=bOs h
   refine ox_y (sT rfl rfl rfl rfl hp5) (y_call [.agg #[.slice Aa p0.fNo.length ca,.slice Ab p0.fC.length cb],.slice Ac p1.length cc,.int .i64 p2] go_43 rfl (fun W2 hW2 => ref09_Possible_ok p0 p1 p2 y46 hy47 W2 Aa p0.fNo.length ca rfl ((RdL.arg hr0_0) W2 hW2) Ab p0.fC.length cb ys0_1 rfl ((RdL.arg hr0_1) W2 hW2) (NestL.at (NestL.arg hN0_1) W2 hW2) Ac p1.length cc rfl ((RdL.arg hr1_0) W2 hW2)) rfl) (ox_y (sT rfl rfl rfl rfl hp5) (y_not rfl) (ox_y rfl (y_pick_tb (vB hp5) rfl) ?_))
   obtain rfl:=sI h
   exact key _ _ (kp4 (kp (kp rfl)))
  ·refine oSk (sF rfl rfl rfl rfl hp5) (oSk (sF rfl rfl rfl rfl hp5) (oSk (sF rfl rfl rfl rfl hp5) (oSk (sF rfl rfl rfl rfl hp5) (oSk (sF rfl rfl rfl rfl hp5) (ox_y rfl (y_pick_fb (vB hp5) rfl) ?_)))))
   obtain rfl:=sI h
   exact key _ _ (kp4 (kp (kp rfl)))
theorem ref09_Share_ok (p0:TL) (p1:(List Int)) (p2:Int) (res:(TRatio × Int)) (h:ref09_Share p0 p1 p2 = some res) (W:World) (Aa:Option Addr) (n0_0 ca : Nat) (hn0_0:n0_0 = p0.fNo.length) (hr0_0:Rd W Aa n0_0 ca (encL TNode_cells p0.fNo)) (Ab:Option Addr) (n0_1 cb : Nat) (ys0_1:List (Hd × TC)) (hn0_1:n0_1 = p0.fC.length) (hr0_1:Rd W Ab n0_1 cb (encL TClaim_cells2 ys0_1)) (hN0_1:NestW W (fun z : TC => z.fO) THop_cells ys0_1 p0.fC) (Ac:Option Addr) (n1_0 cc : Nat) (hn1_0:n1_0 = p1.length) (hr1_0:Rd W Ac n1_0 cc (encL cI p1)) :
  Calls Tryz.prog 25 [.agg #[.slice Aa n0_0 ca,.slice Ab n0_1 cb],.slice Ac n1_0 cc,.int .i64 p2].toArray W fun e W2 => e = .returned (.tuple #[.agg #[.int .i64 res.1.fNum,.int .i64 res.1.fDen],.int .i64 res.2]) ∧ Ext W W2 []:=by
 subst hn0_0
 subst hn0_1
 subst hn1_0
 unfold ref09_Share at h
 refine calls_enter (m:=59) Tryz.func25 rfl rfl (nB rfl) ?_
 refine cS (cR ?_)
 refine ox_box [.slice Aa p0.fNo.length ca,.slice Ab p0.fC.length cb] rfl rfl rfl (fun b1 => ?_)
 refine ox_alloc ze_48 rfl (fun b2 => ?_)
 refine ox_y rfl (yAI rfl) ?_
 refine oN (eT (cS (cR ?_)))
 refine ox_y rfl (y_loadN 0 [.slice Aa p0.fNo.length ca,.slice Ab p0.fC.length cb] ag_25 rfl rfl rfl) (ox_y rfl (yMS rfl) (ox_y rfl (yMI rfl) ?_))
 obtain ⟨y3,hy4,h⟩:=bOs h
 refine ox_y rfl (y_call [.agg #[.slice Aa p0.fNo.length ca,.slice Ab p0.fC.length cb],.slice Ac p1.length cc,.int .i64 p2] go_38 rfl (fun W2 hW2 => ref09_To_ok p0 p1 p2 y3 hy4 W2 Aa p0.fNo.length ca rfl ((RdL.arg hr0_0) W2 hW2) Ab p0.fC.length cb ys0_1 rfl ((RdL.arg hr0_1) W2 hW2) (NestL.at (NestL.arg hN0_1) W2 hW2) Ac p1.length cc rfl ((RdL.arg hr1_0) W2 hW2)) rfl) (ox_y rfl (yAI rfl) ?_)
 refine oN (eT (cS (cS (cR ?_))))
 refine ox_y rfl (yMI rfl) (ox_y rfl (y_neq rfl rfl) ?_)
 refine oN (eT ?_)
 rcases iOs h with ⟨hp5,h⟩ | ⟨hp5,h⟩
 ·refine cx_true (vB hp5) ?_
  refine cS (cR ?_)
  refine ox_y rfl (y_buildS [.int .i64 0,.int .i64 0] [(0,1),(1,1)] ust_48 ze_48 (by kernel_rfl)) ?_
  refine ox_y rfl (yMI rfl) (ox_n rfl (y_storeN 1 [.int .i64 0,.int .i64 0] sz_48 rfl (nB rfl) rfl rfl rfl) (ox_y rfl (yAI rfl) ?_))
  refine oN (eT (cx_ret (ex_then_ret ?_)))
  obtain rfl:=sI h
  exact ex_res2 (.inl rfl) rfl (resV_cellN 1 [.int .i64 0,.int .i64 0] ag_48 rfl rfl rfl) (rVt (v:=.int .i64 y3) rfl) (fun W2 hW2 => ⟨rfl,hW2.none⟩)
 ·refine cx_false (vB hp5) ?_
  refine cx_skip (eT (cS (cR ?_)))
  refine ox_y rfl (yAI rfl) ?_
  refine oN (eT (cS (cS (cR ?_))))
  refine ox_y rfl (yAI rfl) ?_
  refine oN (eT (cx_block ?_))
  obtain ⟨u8,hl29,h⟩:=bOs h
  refine cx_loop (fun (s:(Int × Int)) L tm => ∃ (tm0:Nat → Value),L = [cellsR b1 25 [.slice Aa p0.fNo.length ca,.slice Ab p0.fC.length cb],cellsR b2 48 [.int .i64 0,.int .i64 0]] ∧ tm = (upd (upd (upd (upd (upd (upd (upd (upd (upd (upd tm0 0 (.agg #[.slice Aa p0.fNo.length ca,.slice Ab p0.fC.length cb])) 1 (.slice Ac p1.length cc)) 2 (.int .i64 p2)) 3 (.pointer (some ⟨b1,0,none⟩))) 6 (.pointer (some ⟨b2,0,none⟩))) 7 (.int .i64 0)) 8 (.int .i64 y3)) 19 (.bool (y3 != 0))) 9 (.int .i64 s.1)) 10 (.int .i64 s.2))) (fun s e L tm => e = .exit 0 ∧ ∃ (tm0:Nat → Value),L = [cellsR b1 25 [.slice Aa p0.fNo.length ca,.slice Ab p0.fC.length cb],cellsR b2 48 [.int .i64 0,.int .i64 0]] ∧ tm = (upd (upd (upd (upd (upd (upd (upd (upd (upd (upd tm0 0 (.agg #[.slice Aa p0.fNo.length ca,.slice Ab p0.fC.length cb])) 1 (.slice Ac p1.length cc)) 2 (.int .i64 p2)) 3 (.pointer (some ⟨b1,0,none⟩))) 6 (.pointer (some ⟨b2,0,none⟩))) 7 (.int .i64 0)) 8 (.int .i64 y3)) 19 (.bool (y3 != 0))) 9 (.int .i64 s.1)) 10 (.int .i64 s.2))) hl29 ⟨_,rfl,(kp4 (kp4 (kp (kp rfl))))⟩ ?_ ?_
  ·rintro s7 L tm st ⟨tm0_s7,rfl,rfl⟩ h
   unfold ref09_Share_l1 at h
   refine cS (cS (cR ?_))
   refine ox_y rfl (yMI rfl) (ox_y rfl (y_loadN 0 [.slice Aa p0.fNo.length ca,.slice Ab p0.fC.length cb] ag_25 rfl rfl rfl) ?_)
   obtain ⟨y9,hy10,h⟩:=bOs h
   refine ox_y rfl (y_call [.agg #[.slice Aa p0.fNo.length ca,.slice Ab p0.fC.length cb]] go_83 rfl (fun W2 hW2 => ref09_count_ok p0 y9 hy10 W2 Aa p0.fNo.length ca rfl ((RdL.arg hr0_0) W2 hW2) Ab p0.fC.length cb ys0_1 rfl ((RdL.arg hr0_1) W2 hW2) (NestL.at (NestL.arg hN0_1) W2 hW2)) rfl) (ox_y rfl (y_lss rfl rfl) ?_)
   refine oN (eT ?_)
   rcases iOs h with ⟨hp11,h⟩ | ⟨hp11,h⟩
   ·refine cx_true (vB hp11) ?_
    refine cx_skip (eT (cS (cx_block (cS ?_))))
    obtain ⟨y13,hy14,h⟩:=bOs h
    obtain ⟨y19,hy20,h⟩:=bOs h
    obtain ⟨y25,hy26,h⟩:=bOs h
    obtain ⟨hg27,h⟩:=gOs h
    refine cx_drawsG [[],[],[],[],[2,3],[0,1,2,3,4],[],[],[0,1,2,3,4,5,6,7],[0,1,2,3,4,5,6,7,8],[0,1,2,3,4,5,6,7,8,9]] [(none,0,[true,true]),(none,0,[true,true]),(none,0,[true,true]),(none,0,[true,true]),(none,1,[true,true]),(none,1,[true,true,true]),(none,0,[true,true,false,false]),(none,0,[true,true,false,false]),(none,0,[true,true,true,true]),(none,0,[true,true,true,true]),(none,0,[true,true,true,true])] [⟨fun _ => .agg #[.slice Aa p0.fNo.length ca,.slice Ab p0.fC.length cb],fun _ => noR,fun _ => []⟩,⟨fun _ => .slice Ac p1.length cc,fun _ => noR,fun _ => []⟩,⟨fun _ => .agg #[.slice Aa p0.fNo.length ca,.slice Ab p0.fC.length cb],fun _ => noR,fun _ => []⟩,⟨fun _ => .int .i64 s7.2,fun _ => noR,fun _ => []⟩,⟨fun ξ12 => .slice (ξ12 4 0).1 y13.length (ξ12 4 0).2.2.1,fun _ => noR,fun ξ12 => [rowR (ξ12 4 0).1 (ξ12 4 0).2.2.1 3 1 y13.length (encL cI y13)]⟩,⟨fun ξ12 => .slice (ξ12 5 0).1 y19.length (ξ12 5 0).2.2.1,fun _ => noR,fun ξ12 => [rowR (ξ12 5 0).1 (ξ12 5 0).2.2.1 4 1 y19.length (encL cB y19)]⟩,⟨fun _ => .agg #[.slice Aa p0.fNo.length ca,.slice Ab p0.fC.length cb],fun _ => noR,fun _ => []⟩,⟨fun _ => .int .i64 p2,fun _ => noR,fun _ => []⟩,⟨fun _ => .int .i64 y25,fun _ => noR,fun _ => []⟩,⟨fun ξ12 => slA (ξ12 5 0).1 (Int.toNat y25 * 1),fun _ => noR,fun _ => []⟩,⟨fun _ => .bool (rdL y19 y25),fun _ => noR,fun _ => []⟩] 2 mixed (by kernel_rfl) (by kernel_rfl) ⟨⟨fun ξ12 ξ12' h => ⟨rfl,rfl,rfl⟩,fun _ => rfl⟩,⟨fun ξ12 ξ12' h => ⟨rfl,rfl,rfl⟩,fun _ => rfl⟩,⟨fun ξ12 ξ12' h => ⟨rfl,rfl,rfl⟩,fun _ => rfl⟩,⟨fun ξ12 ξ12' h => ⟨rfl,rfl,rfl⟩,fun _ => rfl⟩,⟨fun ξ12 ξ12' h => ⟨by simp only [h 4 (.inl rfl)],rfl,by simp only [h 4 (.inl rfl)]⟩,fun _ => rfl⟩,⟨fun ξ12 ξ12' h => ⟨by simp only [h 5 (.inl rfl)],rfl,by simp only [h 5 (.inl rfl)]⟩,fun _ => rfl⟩,⟨fun ξ12 ξ12' h => ⟨rfl,rfl,rfl⟩,fun _ => rfl⟩,⟨fun ξ12 ξ12' h => ⟨rfl,rfl,rfl⟩,fun _ => rfl⟩,⟨fun ξ12 ξ12' h => ⟨rfl,rfl,rfl⟩,fun _ => rfl⟩,⟨fun ξ12 ξ12' h => ⟨by simp only [h 5 (.inr rfl)],rfl,rfl⟩,fun _ => rfl⟩,⟨fun ξ12 ξ12' h => ⟨rfl,rfl,rfl⟩,fun _ => rfl⟩,trivial⟩ rfl (fun ξ12 => ?_)
    refine gx_o rfl (fun L2 => ?_) ?_
    ·dsimp only [maskL,lca,lna]
     refine ox_y rfl (y_loadN 0 [.slice Aa p0.fNo.length ca,.slice Ab p0.fC.length cb] ag_25 rfl rfl rfl) (oN ?_)
     exact ex_capG (fun _ => (none,0,0,[],noR)) rfl (List.append_nil _)
    dsimp only [aftL,lsz,lss,lna,lca,List.append_nil]
    refine gx_o rfl (fun L2 => ?_) ?_
    ·dsimp only [maskL,lca,lna]
     refine ox_y rfl (yMS rfl) (oN ?_)
     exact ex_capG (fun _ => (none,0,0,[],noR)) rfl (List.append_nil _)
    dsimp only [aftL,lsz,lss,lna,lca,List.append_nil]
    refine gx_o rfl (fun L2 => ?_) ?_
    ·dsimp only [maskL,lca,lna]
     refine ox_y rfl (y_loadN 0 [.slice Aa p0.fNo.length ca,.slice Ab p0.fC.length cb] ag_25 rfl rfl rfl) (oN ?_)
     exact ex_capG (fun _ => (none,0,0,[],noR)) rfl (List.append_nil _)
    dsimp only [aftL,lsz,lss,lna,lca,List.append_nil]
    refine gx_o rfl (fun L2 => ?_) ?_
    ·dsimp only [maskL,lca,lna]
     refine ox_y rfl (yMI rfl) (oN ?_)
     exact ex_capG (fun _ => (none,0,0,[],noR)) rfl (List.append_nil _)
    dsimp only [aftL,lsz,lss,lna,lca,List.append_nil]
    refine gx_o rfl (fun L2 => ?_) ?_
    ·dsimp only [maskL,lca,lna]
     refine ox_call [.agg #[.slice Aa p0.fNo.length ca,.slice Ab p0.fC.length cb],.int .i64 s7.2] _ _ _ rfl go_85 rfl (fun W2 hW2 => ref09_numbered_ok p0 s7.2 y13 hy14 W2 Aa p0.fNo.length ca rfl ((RdL.arg hr0_0) W2 hW2) Ab p0.fC.length cb ys0_1 rfl ((RdL.arg hr0_1) W2 hW2) (NestL.at (NestL.arg hN0_1) W2 hW2)) ?_
     rintro ⟨A15,n17,c16⟩ hn18
     replace hn18 : n17 = y13.length:=hn18; subst hn18
     refine oN ?_
     exact ex_capG (fun _ => (A15,0,c16,[],noR)) rfl rfl
    dsimp only [aftL,lsz,lss,lna,lca,List.append_nil]
    refine gx_o rfl (fun L2 => ?_) ?_
    ·dsimp only [maskL,lca,lna]
     refine ox_call [.agg #[.slice Aa p0.fNo.length ca,.slice Ab p0.fC.length cb],.slice Ac p1.length cc,.slice (ξ12 4 0).1 y13.length (ξ12 4 0).2.2.1] _ _ _ rfl go_89 rfl (fun W2 hW2 => ref09_reached_ok p0 p1 y13 y19 hy20 W2 Aa p0.fNo.length ca rfl ((RdL.arg hr0_0) W2 hW2) Ab p0.fC.length cb ys0_1 rfl ((RdL.arg hr0_1) W2 hW2) (NestL.at (NestL.arg hN0_1) W2 hW2) Ac p1.length cc rfl ((RdL.arg hr1_0) W2 hW2) (ξ12 4 0).1 y13.length (ξ12 4 0).2.2.1 rfl ((RdL.row 2 rfl) W2 hW2)) ?_
     rintro ⟨A21,n23,c22⟩ hn24
     replace hn24 : n23 = y19.length:=hn24; subst hn24
     refine oN ?_
     exact ex_capG (fun _ => (A21,0,c22,[],noR)) rfl rfl
    dsimp only [aftL,lsz,lss,lna,lca,List.append_nil]
    refine gx_o rfl (fun L2 => ?_) ?_
    ·dsimp only [maskL,lca,lna]
     refine ox_y rfl (y_loadN 0 [.slice Aa p0.fNo.length ca,.slice Ab p0.fC.length cb] ag_25 rfl rfl rfl) (oN ?_)
     exact ex_capG (fun _ => (none,0,0,[],noR)) rfl (List.append_nil _)
    dsimp only [aftL,lsz,lss,lna,lca,List.append_nil]
    refine gx_o rfl (fun L2 => ?_) ?_
    ·dsimp only [maskL,lca,lna]
     refine ox_y rfl (yMI rfl) (oN ?_)
     exact ex_capG (fun _ => (none,0,0,[],noR)) rfl (List.append_nil _)
    dsimp only [aftL,lsz,lss,lna,lca,List.append_nil]
    refine gx_o rfl (fun L2 => ?_) ?_
    ·dsimp only [maskL,lca,lna]
     refine ox_y rfl (y_call [.agg #[.slice Aa p0.fNo.length ca,.slice Ab p0.fC.length cb],.int .i64 p2] go_67 rfl (fun W2 hW2 => ref09_Node_ok p0 p2 y25 hy26 W2 Aa p0.fNo.length ca rfl ((RdL.arg hr0_0) W2 hW2) Ab p0.fC.length cb ys0_1 rfl ((RdL.arg hr0_1) W2 hW2) (NestL.at (NestL.arg hN0_1) W2 hW2)) rfl) (oN ?_)
     exact ex_capG (fun _ => (none,0,0,[],noR)) rfl (List.append_nil _)
    dsimp only [aftL,lsz,lss,lna,lca,List.append_nil]
    refine gx_o rfl (fun L2 => ?_) ?_
    ·dsimp only [maskL,lca,lna]
     refine ox_y rfl (y_indexR sl_98 (by decide) hg27.1 hg27.2 (RdL.row 3 rfl) (encL_len cB_len rfl) rfl rfl) ?_
     refine oN ?_
     exact ex_capG (fun _ => (none,0,0,[],noR)) rfl (List.append_nil _)
    dsimp only [aftL,lsz,lss,lna,lca,List.append_nil]
    refine gx_o rfl (fun L2 => ?_) ?_
    ·dsimp only [maskL,lca,lna]
     refine ox_y rfl (y_loadR1 (A:=(ξ12 5 0).1) (j:=(Int.toNat y25 * 1)) (v:=.bool (rdL y19 y25)) sc_4 (RdL.row 3 rfl) rfl (encL_get0 cB_len hg27.1 (lt_nat hg27.2 rfl) rfl)) (oN ?_)
     exact ex_capG (fun _ => (none,0,0,[],noR)) rfl (List.append_nil _)
    dsimp only [aftL,lsz,lss,lna,lca,List.append_nil]
    refine gx_nil (eT ?_)
    rcases iOs h with ⟨hp28,h⟩ | ⟨hp28,h⟩
    ·refine cx_true (vB hp28) (cR (ox_y rfl (yMI rfl) (ox_y rfl (y_add rfl rfl) (ox_y rfl (yAI rfl) (oN (ex_block ?_))))))
     refine eT (cR ?_)
     refine ox_y rfl (yMI rfl) (ox_y rfl (y_add rfl rfl) (ox_y rfl (yAI rfl) (oN (ex_take 2 ?_))))
     obtain rfl:=sI h
     exact ex_next ⟨_,rfl,(kp4 (kp4 (kp (kp rfl))))⟩
    ·refine cx_false (vB hp28) (cx_skip (ex_block ?_))
     refine eT (cR ?_)
     refine ox_y rfl (yMI rfl) (ox_y rfl (y_add rfl rfl) (ox_y rfl (yAI rfl) (oN (ex_take 2 ?_))))
     obtain rfl:=sI h
     exact ex_next ⟨_,rfl,(kp4 (kp4 (kp (kp rfl))))⟩
   ·refine cx_false (vB hp11) (cx_exit (ex_then_exit ?_))
    obtain rfl:=sI h
    exact ex_stop ⟨rfl,_,rfl,(kp4 (kp4 (kp (kp rfl))))⟩
  ·intro e L tm hJ
   obtain ⟨rfl,tm0_u8,rfl,rfl⟩:=hJ
   refine ⟨(by intro hc; cases hc),?_⟩
   refine ex_block_here ?_
   refine eT (cS (cR ?_))
   refine ox_y rfl (yMI rfl) (ox_y rfl (yAI rfl) ?_)
   refine oN (eT (cS (cR ?_)))
   refine ox_y rfl (y_loadN 0 [.slice Aa p0.fNo.length ca,.slice Ab p0.fC.length cb] ag_25 rfl rfl rfl) ?_
   obtain ⟨y30,hy31,h⟩:=bOs h
   refine ox_y rfl (y_call [.agg #[.slice Aa p0.fNo.length ca,.slice Ab p0.fC.length cb]] go_83 rfl (fun W2 hW2 => ref09_count_ok p0 y30 hy31 W2 Aa p0.fNo.length ca rfl ((RdL.arg hr0_0) W2 hW2) Ab p0.fC.length cb ys0_1 rfl ((RdL.arg hr0_1) W2 hW2) (NestL.at (NestL.arg hN0_1) W2 hW2)) rfl) (ox_y rfl (yAI rfl) ?_)
   refine oN (eT (cS (cx_block ?_)))
   obtain ⟨u34,hl37,h⟩:=bOs h
   refine cx_loop (fun (s:(Int × Int)) L tm => ∃ (tm0:Nat → Value),L = [cellsR b1 25 [.slice Aa p0.fNo.length ca,.slice Ab p0.fC.length cb],cellsR b2 48 [.int .i64 0,.int .i64 0]] ∧ tm = (upd (upd (upd (upd (upd (upd (upd (upd (upd (upd (upd (upd tm0 0 (.agg #[.slice Aa p0.fNo.length ca,.slice Ab p0.fC.length cb])) 1 (.slice Ac p1.length cc)) 2 (.int .i64 p2)) 3 (.pointer (some ⟨b1,0,none⟩))) 6 (.pointer (some ⟨b2,0,none⟩))) 7 (.int .i64 0)) 8 (.int .i64 y3)) 19 (.bool (y3 != 0))) 9 (.int .i64 u8.1)) 10 (.int .i64 u8.2)) 11 (.int .i64 s.1)) 12 (.int .i64 s.2))) (fun s e L tm => e = .exit 2 ∧ ∃ (tm0:Nat → Value),L = [cellsR b1 25 [.slice Aa p0.fNo.length ca,.slice Ab p0.fC.length cb],cellsR b2 48 [.int .i64 0,.int .i64 0]] ∧ tm = (upd (upd (upd (upd (upd (upd (upd (upd (upd (upd (upd (upd tm0 0 (.agg #[.slice Aa p0.fNo.length ca,.slice Ab p0.fC.length cb])) 1 (.slice Ac p1.length cc)) 2 (.int .i64 p2)) 3 (.pointer (some ⟨b1,0,none⟩))) 6 (.pointer (some ⟨b2,0,none⟩))) 7 (.int .i64 0)) 8 (.int .i64 y3)) 19 (.bool (y3 != 0))) 9 (.int .i64 u8.1)) 10 (.int .i64 u8.2)) 11 (.int .i64 s.1)) 12 (.int .i64 s.2))) hl37 ⟨_,rfl,(kp4 (kp4 (kp4 rfl)))⟩ ?_ ?_
   ·rintro s33 L tm st ⟨tm0_s33,rfl,rfl⟩ h
    unfold ref09_Share_l2 at h
    refine cS (cS (cR ?_))
    refine ox_y rfl (yMI rfl) (ox_y rfl (y_neq rfl rfl) ?_)
    refine oN (eT ?_)
    rcases iOs h with ⟨hp35,h⟩ | ⟨hp35,h⟩
    ·refine cx_true (vB hp35) ?_
     refine cx_skip (eT (cx_block (cS (cR ?_))))
     refine ox_y rfl (yMI rfl) (ox_y rfl (yMI rfl) ?_)
     obtain ⟨hg36,h⟩:=gOs h
     refine ox_y rfl (y_rem hg36 rfl rfl) (ox_y rfl (yAI rfl) ?_)
     refine oN (eT (cS (cR ?_)))
     refine ox_y rfl (yMI rfl) (ox_y rfl (yAI rfl) ?_)
     refine oN (eT (cR ?_))
     refine ox_y rfl (yMI rfl) (ox_y rfl (yAI rfl) (oN (ex_block ?_)))
     obtain rfl:=sI h
     exact ex_next ⟨_,rfl,(kp4 (kp4 (kp4 rfl)))⟩
    ·refine cx_false (vB hp35) (cx_exit (ex_then_exit ?_))
     obtain rfl:=sI h
     exact ex_stop ⟨rfl,_,rfl,(kp4 (kp4 (kp4 rfl)))⟩
   ·intro e L tm hJ
    obtain ⟨rfl,tm0_u34,rfl,rfl⟩:=hJ
    refine ⟨(by intro hc; cases hc),?_⟩
    refine ex_block_here ?_
    refine eT (cS ?_)
    refine cx_draws 8 mixed (by kernel_rfl) (by kernel_rfl) ?_
    refine qx_y rfl (yMI rfl) (qx_y rfl (yMI rfl) ?_)
    obtain ⟨hg38,h⟩:=gOs h
    refine qx_y rfl (y_quo hg38 rfl rfl) (qx_y rfl (y_loadN 0 [.slice Aa p0.fNo.length ca,.slice Ab p0.fC.length cb] ag_25 rfl rfl rfl) ?_)
    obtain ⟨y39,hy40,h⟩:=bOs h
    refine qx_y rfl (y_call [.agg #[.slice Aa p0.fNo.length ca,.slice Ab p0.fC.length cb]] go_83 rfl (fun W2 hW2 => ref09_count_ok p0 y39 hy40 W2 Aa p0.fNo.length ca rfl ((RdL.arg hr0_0) W2 hW2) Ab p0.fC.length cb ys0_1 rfl ((RdL.arg hr0_1) W2 hW2) (NestL.at (NestL.arg hN0_1) W2 hW2)) rfl) (qx_y rfl (yMI rfl) ?_)
    obtain ⟨hg41,h⟩:=gOs h
    refine qx_y rfl (y_quo hg41 rfl rfl) ?_
    refine qx_y rfl (y_buildS [.int .i64 (w64 (Int.tdiv u8.1 u34.1)),.int .i64 (w64 (Int.tdiv y39 u34.1))] [(0,1),(1,1)] ust_48 ze_48 (by kernel_rfl)) ?_
    refine qx_nil (ox_n rfl (y_storeN 1 [.int .i64 (w64 (Int.tdiv u8.1 u34.1)),.int .i64 (w64 (Int.tdiv y39 u34.1))] sz_48 rfl (nB rfl) rfl rfl rfl) (ox_y rfl (yAI rfl) ?_))
    refine oN (eT (cx_ret ?_))
    obtain rfl:=sI h
    exact ex_res2 (.inl rfl) rfl (resV_cellN 1 [.int .i64 (w64 (Int.tdiv u8.1 u34.1)),.int .i64 (w64 (Int.tdiv y39 u34.1))] ag_48 rfl rfl rfl) (rVt (v:=.int .i64 0) rfl) (fun W2 hW2 => ⟨rfl,hW2.none⟩)
end Go.Proofs.YtbblpokfbmekfaaGreat
set_option maxHeartbeats 4000000
set_option maxRecDepth 100000
namespace Go.Proofs.YtbblpokfbmekfaaGreat
open Go.RowKit (Below)
attribute [local irreducible] OX QX CX EX OpY Calls CallsIn
theorem calxlaw09_RecallHangs_ok (p0:TL) (p1:(List Int)) (p2:Int) (res:Bool) (h:calxlaw09_RecallHangs p0 p1 p2 = some res) (W:World) (Aa:Option Addr) (n0_0 ca : Nat) (hn0_0:n0_0 = p0.fNo.length) (hr0_0:Rd W Aa n0_0 ca (encL TNode_cells p0.fNo)) (Ab:Option Addr) (n0_1 cb : Nat) (ys0_1:List (Hd × TC)) (hn0_1:n0_1 = p0.fC.length) (hr0_1:Rd W Ab n0_1 cb (encL TClaim_cells2 ys0_1)) (hN0_1:NestW W (fun z : TC => z.fO) THop_cells ys0_1 p0.fC) (Ac:Option Addr) (n1_0 cc : Nat) (hn1_0:n1_0 = p1.length) (hr1_0:Rd W Ac n1_0 cc (encL cI p1)) :
  Calls Tryz.prog 4 [.agg #[.slice Aa n0_0 ca,.slice Ab n0_1 cb],.slice Ac n1_0 cc,.int .i64 p2].toArray W fun e W2 => e = .returned (.bool res) ∧ Ext W W2 []:=by
 subst hn0_0
 subst hn0_1
 subst hn1_0
 unfold calxlaw09_RecallHangs at h
 refine calls_enter (m:=101) Tryz.func4 rfl rfl (nB rfl) ?_
 refine cS (cR ?_)
 refine ox_box [.slice Aa p0.fNo.length ca,.slice Ab p0.fC.length cb] rfl rfl rfl (fun b1 => ?_)
 refine ox_y rfl (y_assign_bool rfl) ?_
 refine oN (eT (cS (cR ?_)))
 obtain ⟨y2,hy3,h⟩:=bOs h
 refine ox_y rfl (y_call [] go_13 rfl (fun W2 hW2 => calxlaw09_head_ok  y2 hy3 W2 ) rfl) (ox_y rfl (y_assign_bool rfl) ?_)
 refine oN (eT (cS (cS (cR ?_))))
 refine ox_y rfl (y_loadN 0 [.slice Aa p0.fNo.length ca,.slice Ab p0.fC.length cb] ag_25 rfl rfl rfl) ?_
 obtain ⟨y4,hy5,h⟩:=bOs h
 refine ox_y rfl (y_call [.agg #[.slice Aa p0.fNo.length ca,.slice Ab p0.fC.length cb]] go_14 rfl (fun W2 hW2 => calxlaw09_few_ok p0 y4 hy5 W2 Aa p0.fNo.length ca rfl ((RdL.arg hr0_0) W2 hW2) Ab p0.fC.length cb ys0_1 rfl ((RdL.arg hr0_1) W2 hW2) (NestL.at (NestL.arg hN0_1) W2 hW2)) rfl) (ox_y rfl (y_not rfl) (ox_y rfl (y_move_bool rfl) ?_))
 refine ox_join 4 (fun tm0 => (upd (upd (upd (upd (upd (upd tm0 1 (.slice Ac p1.length cc)) 2 (.int .i64 p2)) 3 (.pointer (some ⟨b1,0,none⟩))) 6 (.bool false)) 7 (.bool y2)) 27 (.bool ((!y4) || (decide (30 < (p1.length:Int))))))) (fun tm0 => ?_) (fun key => ?_)
 ·refine oN (eT ?_)
  rcases iOs h with ⟨hp7,h⟩ | ⟨hp7,h⟩
  ·refine cx_true (vB hp7) ?_
   refine cS (cR ?_)
   refine ox_y rfl (y_move_bool rfl) (ox_y rfl (y_assign_bool rfl) ?_)
   refine oN (eT (cx_ret (ex_then_ret ?_)))
   obtain rfl:=sI h
   exact ex_res1 (.inl rfl) rfl (rVt (v:=.bool y2) rfl) (fun W2 hW2 => ⟨rfl,hW2.none⟩)
  ·refine cx_false (vB hp7) ?_
   refine cx_skip (eT (cS (cR ?_)))
   refine ox_y rfl (y_loadN 0 [.slice Aa p0.fNo.length ca,.slice Ab p0.fC.length cb] ag_25 rfl rfl rfl) (ox_y rfl (yMS rfl) (ox_y rfl (yMI rfl) ?_))
   obtain ⟨y8,hy9,h⟩:=bOs h
   refine ox_call [.agg #[.slice Aa p0.fNo.length ca,.slice Ab p0.fC.length cb],.slice Ac p1.length cc,.int .i64 p2] _ _ _ rfl go_20 rfl (fun W2 hW2 => recall_Hangs_ok p0 p1 p2 y8 hy9 W2 Aa p0.fNo.length ca rfl ((RdL.arg hr0_0) W2 hW2) Ab p0.fC.length cb ys0_1 rfl ((RdL.arg hr0_1) W2 hW2) (NestL.at (NestL.arg hN0_1) W2 hW2) Ac p1.length cc rfl ((RdL.arg hr1_0) W2 hW2)) ?_
   rintro ⟨A10,n12,c11⟩ hn13
   replace hn13 : n12 = y8.1.length:=hn13; subst hn13
   refine ox_y rfl (y_move_tuple rfl) (ox_y rfl (y_extract (vs:=[.slice A10 y8.1.length c11,.int .i64 y8.2]) (v:=.slice A10 y8.1.length c11) rfl rfl) (ox_y rfl (y_extract (vs:=[.slice A10 y8.1.length c11,.int .i64 y8.2]) (v:=.int .i64 y8.2) rfl rfl) (ox_y rfl (yAS rfl) (ox_y rfl (yAI rfl) ?_))))
   refine oN (eT (cS (cR ?_)))
   refine ox_y rfl (y_loadN 0 [.slice Aa p0.fNo.length ca,.slice Ab p0.fC.length cb] ag_25 rfl rfl rfl) (ox_y rfl (yMS rfl) (ox_y rfl (yMI rfl) ?_))
   obtain ⟨y14,hy15,h⟩:=bOs h
   refine ox_call [.agg #[.slice Aa p0.fNo.length ca,.slice Ab p0.fC.length cb],.slice Ac p1.length cc,.int .i64 p2] _ _ _ rfl go_21 rfl (fun W2 hW2 => ref09_Hangs_ok p0 p1 p2 y14 hy15 W2 Aa p0.fNo.length ca rfl ((RdL.arg hr0_0) W2 hW2) Ab p0.fC.length cb ys0_1 rfl ((RdL.arg hr0_1) W2 hW2) (NestL.at (NestL.arg hN0_1) W2 hW2) Ac p1.length cc rfl ((RdL.arg hr1_0) W2 hW2)) ?_
   rintro ⟨A16,n18,c17⟩ hn19
   replace hn19 : n18 = y14.fL.length:=hn19; subst hn19
   refine ox_alloc ze_45 rfl (fun b20 => ?_)
   refine ox_n rfl (y_storeN 3 [.slice A16 y14.fL.length c17,.int .i64 y14.fE] sz_45 rfl (nB rfl) rfl rfl rfl) ?_
   refine oN (eT (cS (cR ?_)))
   refine ox_y rfl (y_loadN 0 [.slice Aa p0.fNo.length ca,.slice Ab p0.fC.length cb] ag_25 rfl rfl rfl) (ox_y rfl (yMS rfl) (ox_y rfl (yMI rfl) ?_))
   obtain ⟨y21,hy22,h⟩:=bOs h
   refine ox_call [.agg #[.slice Aa p0.fNo.length ca,.slice Ab p0.fC.length cb],.slice Ac p1.length cc,.int .i64 p2] _ _ _ rfl go_22 rfl (fun W2 hW2 => recall_Gates_ok p0 p1 p2 y21 hy22 W2 Aa p0.fNo.length ca rfl ((RdL.arg hr0_0) W2 hW2) Ab p0.fC.length cb ys0_1 rfl ((RdL.arg hr0_1) W2 hW2) (NestL.at (NestL.arg hN0_1) W2 hW2) Ac p1.length cc rfl ((RdL.arg hr1_0) W2 hW2)) ?_
   rintro ⟨A23,n25,c24⟩ hn26
   replace hn26 : n25 = y21.1.length:=hn26; subst hn26
   refine ox_y rfl (y_move_tuple rfl) (ox_y rfl (y_extract (vs:=[.slice A23 y21.1.length c24,.int .i64 y21.2]) (v:=.slice A23 y21.1.length c24) rfl rfl) (ox_y rfl (y_extract (vs:=[.slice A23 y21.1.length c24,.int .i64 y21.2]) (v:=.int .i64 y21.2) rfl rfl) (ox_y rfl (yAS rfl) (ox_y rfl (yAI rfl) ?_))))
   refine oN (eT (cS (cR ?_)))
   refine ox_y rfl (y_loadN 0 [.slice Aa p0.fNo.length ca,.slice Ab p0.fC.length cb] ag_25 rfl rfl rfl) (ox_y rfl (yMS rfl) (ox_y rfl (yMI rfl) ?_))
   obtain ⟨y27,hy28,h⟩:=bOs h
   refine ox_call [.agg #[.slice Aa p0.fNo.length ca,.slice Ab p0.fC.length cb],.slice Ac p1.length cc,.int .i64 p2] _ _ _ rfl go_23 rfl (fun W2 hW2 => ref09_Gates_ok p0 p1 p2 y27 hy28 W2 Aa p0.fNo.length ca rfl ((RdL.arg hr0_0) W2 hW2) Ab p0.fC.length cb ys0_1 rfl ((RdL.arg hr0_1) W2 hW2) (NestL.at (NestL.arg hN0_1) W2 hW2) Ac p1.length cc rfl ((RdL.arg hr1_0) W2 hW2)) ?_
   rintro ⟨A29,n31,c30⟩ hn32
   replace hn32 : n31 = y27.fL.length:=hn32; subst hn32
   try dsimp only [lna,lca,lsz,lss]
   refine ox_alloc ze_45 rfl (fun b33 => ?_)
   try dsimp only [lna,lca,lsz,lss]
   refine ox_n rfl (y_storeN 6 [.slice A29 y27.fL.length c30,.int .i64 y27.fE] sz_45 rfl (nB rfl) rfl rfl rfl) ?_
   refine oN (eT (cS (cR ?_)))
   refine ox_y rfl (y_loadN 0 [.slice Aa p0.fNo.length ca,.slice Ab p0.fC.length cb] ag_25 rfl rfl rfl) (ox_y rfl (yMS rfl) (ox_y rfl (yMI rfl) ?_))
   obtain ⟨y34,hy35,h⟩:=bOs h
   refine ox_y rfl (y_call [.agg #[.slice Aa p0.fNo.length ca,.slice Ab p0.fC.length cb],.slice Ac p1.length cc,.int .i64 p2] go_24 rfl (fun W2 hW2 => recall_Share_ok p0 p1 p2 y34 hy35 W2 Aa p0.fNo.length ca rfl ((RdL.arg hr0_0) W2 hW2) Ab p0.fC.length cb ys0_1 rfl ((RdL.arg hr0_1) W2 hW2) (NestL.at (NestL.arg hN0_1) W2 hW2) Ac p1.length cc rfl ((RdL.arg hr1_0) W2 hW2)) rfl) (ox_y rfl (y_move_tuple rfl) (ox_y rfl (y_extract (vs:=[.agg #[.int .i64 y34.1.fNum,.int .i64 y34.1.fDen],.int .i64 y34.2]) (v:=.agg #[.int .i64 y34.1.fNum,.int .i64 y34.1.fDen]) rfl rfl) (ox_y rfl (y_extract (vs:=[.agg #[.int .i64 y34.1.fNum,.int .i64 y34.1.fDen],.int .i64 y34.2]) (v:=.int .i64 y34.2) rfl rfl) ?_)))
   refine ox_alloc ze_48 rfl (fun b36 => ?_)
   try dsimp only [lna,lca,lsz,lss]
   refine ox_n rfl (y_storeN 7 [.int .i64 y34.1.fNum,.int .i64 y34.1.fDen] sz_48 rfl (nB rfl) rfl rfl rfl) (ox_y rfl (yAI rfl) ?_)
   refine oN (eT (cS (cR ?_)))
   refine ox_y rfl (y_loadN 0 [.slice Aa p0.fNo.length ca,.slice Ab p0.fC.length cb] ag_25 rfl rfl rfl) (ox_y rfl (yMS rfl) (ox_y rfl (yMI rfl) ?_))
   obtain ⟨y37,hy38,h⟩:=bOs h
   refine ox_y rfl (y_call [.agg #[.slice Aa p0.fNo.length ca,.slice Ab p0.fC.length cb],.slice Ac p1.length cc,.int .i64 p2] go_25 rfl (fun W2 hW2 => ref09_Share_ok p0 p1 p2 y37 hy38 W2 Aa p0.fNo.length ca rfl ((RdL.arg hr0_0) W2 hW2) Ab p0.fC.length cb ys0_1 rfl ((RdL.arg hr0_1) W2 hW2) (NestL.at (NestL.arg hN0_1) W2 hW2) Ac p1.length cc rfl ((RdL.arg hr1_0) W2 hW2)) rfl) (ox_y rfl (y_move_tuple rfl) (ox_y rfl (y_extract (vs:=[.agg #[.int .i64 y37.1.fNum,.int .i64 y37.1.fDen],.int .i64 y37.2]) (v:=.agg #[.int .i64 y37.1.fNum,.int .i64 y37.1.fDen]) rfl rfl) (ox_y rfl (y_extract (vs:=[.agg #[.int .i64 y37.1.fNum,.int .i64 y37.1.fDen],.int .i64 y37.2]) (v:=.int .i64 y37.2) rfl rfl) ?_)))
   refine ox_alloc ze_48 rfl (fun b39 => ?_)
   try dsimp only [lna,lca,lsz,lss]
   refine ox_n rfl (y_storeN 8 [.int .i64 y37.1.fNum,.int .i64 y37.1.fDen] sz_48 rfl (nB rfl) rfl rfl rfl) (ox_y rfl (yAI rfl) ?_)
   refine oN (eT (cS (cR ?_)))
   refine ox_y rfl (yMS rfl) (ox_y rfl (yFA fo_45_0 rfl) (ox_y rfl (y_load1 3 (v:=.slice A16 y14.fL.length c17) sc_26 rfl rfl rfl) ?_))
   obtain ⟨y40,hy41,h⟩:=bOs h
   refine ox_y rfl (y_call [.slice A10 y8.1.length c11,.slice A16 y14.fL.length c17] go_19 rfl (fun W2 hW2 => ref09_SameInts_ok y8.1 y14.fL y40 hy41 W2 A10 y8.1.length c11 rfl ((RdL.row 1 rfl) W2 hW2) A16 y14.fL.length c17 rfl ((RdL.row 2 rfl) W2 hW2)) rfl) (ox_y rfl (y_move_bool rfl) ?_)
   obtain ⟨b43,hb44,h⟩:=bOs h
   refine ox_join 5 (fun tm0 => (upd (upd (upd (upd (upd (upd (upd (upd (upd (upd (upd tm0 6 (.bool false)) 7 (.bool y2)) 9 (.int .i64 y8.2)) 10 (.pointer (some ⟨b20,0,none⟩))) 12 (.int .i64 y21.2)) 13 (.pointer (some ⟨b33,0,none⟩))) 14 (.pointer (some ⟨b36,0,none⟩))) 15 (.int .i64 y34.2)) 16 (.pointer (some ⟨b39,0,none⟩))) 17 (.int .i64 y37.2)) 74 (.bool b43))) (fun tm0 => ?_) (fun key => ?_)
   ·refine ox_y rfl (y_assign_bool rfl) ?_
    refine oN (eT (cS (cR ?_)))
    refine ox_y rfl (y_move_bool rfl) (ox_y rfl (y_move_bool rfl) ?_)
    refine ox_join 2 (fun tm0 => (upd (upd (upd (upd (upd (upd (upd (upd (upd (upd tm0 6 (.bool false)) 9 (.int .i64 y8.2)) 10 (.pointer (some ⟨b20,0,none⟩))) 12 (.int .i64 y21.2)) 13 (.pointer (some ⟨b33,0,none⟩))) 14 (.pointer (some ⟨b36,0,none⟩))) 15 (.int .i64 y34.2)) 16 (.pointer (some ⟨b39,0,none⟩))) 17 (.int .i64 y37.2)) 78 (.bool (y2 && b43)))) (fun tm0 => ?_) (fun key => ?_)
    ·refine ox_y rfl (y_move_bool rfl) ?_
     refine ox_join 5 (fun tm0 => (upd (upd (upd (upd (upd (upd (upd (upd tm0 6 (.bool false)) 12 (.int .i64 y21.2)) 13 (.pointer (some ⟨b33,0,none⟩))) 14 (.pointer (some ⟨b36,0,none⟩))) 15 (.int .i64 y34.2)) 16 (.pointer (some ⟨b39,0,none⟩))) 17 (.int .i64 y37.2)) 84 (.bool ((y2 && b43) && (y8.2 == y14.fE))))) (fun tm0 => ?_) (fun key => ?_)
     ·refine ox_y rfl (y_move_bool rfl) ?_
      refine ox_join 5 (fun tm0 => (upd (upd (upd (upd (upd (upd tm0 6 (.bool false)) 14 (.pointer (some ⟨b36,0,none⟩))) 15 (.int .i64 y34.2)) 16 (.pointer (some ⟨b39,0,none⟩))) 17 (.int .i64 y37.2)) 90 (.bool (((y2 && b43) && (y8.2 == y14.fE)) && (y21.2 == y27.fE))))) (fun tm0 => ?_) (fun key => ?_)
      ·refine ox_y rfl (y_move_bool rfl) ?_
       refine ox_join 4 (fun tm0 => (upd (upd (upd (upd tm0 6 (.bool false)) 15 (.int .i64 y34.2)) 17 (.int .i64 y37.2)) 95 (.bool ((((y2 && b43) && (y8.2 == y14.fE)) && (y21.2 == y27.fE)) && ((y34.1.fNum == y37.1.fNum) && (y34.1.fDen == y37.1.fDen)))))) (fun tm0 => ?_) (fun key => ?_)
       ·refine ox_y rfl (y_move_bool rfl) ?_
        refine ox_join 4 (fun tm0 => (upd (upd tm0 6 (.bool false)) 100 (.bool (((((y2 && b43) && (y8.2 == y14.fE)) && (y21.2 == y27.fE)) && ((y34.1.fNum == y37.1.fNum) && (y34.1.fDen == y37.1.fDen))) && (y34.2 == y37.2))))) (fun tm0 => ?_) (fun key => ?_)
        ·refine ox_y rfl (y_assign_bool rfl) ?_
         refine oN (eT (cx_ret ?_))
         obtain rfl:=sI h
         exact ex_res1 (.inl rfl) rfl (rVt (v:=.bool (((((y2 && b43) && (y8.2 == y14.fE)) && (y21.2 == y27.fE)) && ((y34.1.fNum == y37.1.fNum) && (y34.1.fDen == y37.1.fDen))) && (y34.2 == y37.2))) rfl) (fun W2 hW2 => ⟨rfl,hW2.none⟩)
        ·rcases bool_cases ((((y2 && b43) && (y8.2 == y14.fE)) && (y21.2 == y27.fE)) && ((y34.1.fNum == y37.1.fNum) && (y34.1.fDen == y37.1.fDen))) with hp49 | hp49
         ·refine ox_y (sT rfl rfl rfl rfl hp49) (yMI rfl) (ox_y (sT rfl rfl rfl rfl hp49) (yMI rfl) (ox_y (sT rfl rfl rfl rfl hp49) (y_eql rfl rfl) (ox_y rfl (y_pick_tb (vB hp49) rfl) ?_)))
          exact key _ _ (keep (keep rfl rfl) (vB (and_t hp49)))
         ·refine oSk (sF rfl rfl rfl rfl hp49) (oSk (sF rfl rfl rfl rfl hp49) (oSk (sF rfl rfl rfl rfl hp49) (ox_y rfl (y_pick_fb (vB hp49) rfl) ?_)))
          exact key _ _ (keep (keep rfl rfl) (vB (and_f hp49)))
       ·rcases bool_cases (((y2 && b43) && (y8.2 == y14.fE)) && (y21.2 == y27.fE)) with hp48 | hp48
        ·refine ox_y (sT rfl rfl rfl rfl hp48) (y_loadN 7 [.int .i64 y34.1.fNum,.int .i64 y34.1.fDen] ag_48 rfl rfl rfl) (ox_y (sT rfl rfl rfl rfl hp48) (y_loadN 8 [.int .i64 y37.1.fNum,.int .i64 y37.1.fDen] ag_48 rfl rfl rfl) (ox_y (sT rfl rfl rfl rfl hp48) (y_eqla (b:=((y34.1.fNum == y37.1.fNum) && (y34.1.fDen == y37.1.fDen))) eg_48 rfl rfl (fun _ => (eqS2 fl_48 (part1 sc_3 rfl) (part1 sc_3 rfl) (part1 sc_3 rfl) (part1 sc_3 rfl) (run_equalIn_int _ _ _ _ _ _ _ ui_3) (run_equalIn_int _ _ _ _ _ _ _ ui_3)))) (ox_y rfl (y_pick_tb (vB hp48) rfl) ?_)))
         exact key _ _ (keep (keep (keep (keep rfl rfl) rfl) rfl) (vB (and_t hp48)))
        ·refine oSk (sF rfl rfl rfl rfl hp48) (oSk (sF rfl rfl rfl rfl hp48) (oSk (sF rfl rfl rfl rfl hp48) (ox_y rfl (y_pick_fb (vB hp48) rfl) ?_)))
         exact key _ _ (keep (keep (keep (keep rfl rfl) rfl) rfl) (vB (and_f hp48)))
      ·rcases bool_cases ((y2 && b43) && (y8.2 == y14.fE)) with hp47 | hp47
       ·refine ox_y (sT rfl rfl rfl rfl hp47) (yMI rfl) (ox_y (sT rfl rfl rfl rfl hp47) (yFA fo_45_1 rfl) (ox_y (sT rfl rfl rfl rfl hp47) (y_load1 6 (v:=.int .i64 y27.fE) sc_29 rfl rfl rfl) (ox_y (sT rfl rfl rfl rfl hp47) (y_eql rfl rfl) (ox_y rfl (y_pick_tb (vB hp47) rfl) ?_))))
        exact key _ _ (keep (keep (keep (keep (keep (keep rfl rfl) rfl) rfl) rfl) rfl) (vB (and_t hp47)))
       ·refine oSk (sF rfl rfl rfl rfl hp47) (oSk (sF rfl rfl rfl rfl hp47) (oSk (sF rfl rfl rfl rfl hp47) (oSk (sF rfl rfl rfl rfl hp47) (ox_y rfl (y_pick_fb (vB hp47) rfl) ?_))))
        exact key _ _ (keep (keep (keep (keep (keep (keep rfl rfl) rfl) rfl) rfl) rfl) (vB (and_f hp47)))
     ·rcases bool_cases (y2 && b43) with hp46 | hp46
      ·refine ox_y (sT rfl rfl rfl rfl hp46) (yMI rfl) (ox_y (sT rfl rfl rfl rfl hp46) (yFA fo_45_1 rfl) (ox_y (sT rfl rfl rfl rfl hp46) (y_load1 3 (v:=.int .i64 y14.fE) sc_29 rfl rfl rfl) (ox_y (sT rfl rfl rfl rfl hp46) (y_eql rfl rfl) (ox_y rfl (y_pick_tb (vB hp46) rfl) ?_))))
       exact key _ _ (keep (keep (keep (keep (keep (keep (keep (keep rfl rfl) rfl) rfl) rfl) rfl) rfl) rfl) (vB (and_t hp46)))
      ·refine oSk (sF rfl rfl rfl rfl hp46) (oSk (sF rfl rfl rfl rfl hp46) (oSk (sF rfl rfl rfl rfl hp46) (oSk (sF rfl rfl rfl rfl hp46) (ox_y rfl (y_pick_fb (vB hp46) rfl) ?_))))
       exact key _ _ (keep (keep (keep (keep (keep (keep (keep (keep rfl rfl) rfl) rfl) rfl) rfl) rfl) rfl) (vB (and_f hp46)))
    ·rcases bool_cases y2 with hp45 | hp45
     ·refine ox_y (sT rfl rfl rfl rfl hp45) (y_move_bool rfl) (ox_y rfl (y_pick_tb (vB hp45) rfl) ?_)
      exact key _ _ (keep (keep (keep (keep (keep (keep (keep (keep (keep (keep rfl rfl) rfl) rfl) rfl) rfl) rfl) rfl) rfl) rfl) (vB (and_t hp45)))
     ·refine oSk (sF rfl rfl rfl rfl hp45) (ox_y rfl (y_pick_fb (vB hp45) rfl) ?_)
      exact key _ _ (keep (keep (keep (keep (keep (keep (keep (keep (keep (keep rfl rfl) rfl) rfl) rfl) rfl) rfl) rfl) rfl) rfl) (vB (and_f hp45)))
   ·clear h; rcases iOs hb44 with ⟨hp42,h⟩ | ⟨hp42,h⟩
    ·refine ox_y (sT rfl rfl rfl rfl hp42) (yMS rfl) (ox_y (sT rfl rfl rfl rfl hp42) (yFA fo_45_0 rfl) (ox_y (sT rfl rfl rfl rfl hp42) (y_load1 6 (v:=.slice A29 y27.fL.length c30) sc_26 rfl rfl rfl) ?_))
     obtain ⟨y50,hy51,h⟩:=bOs h
     refine ox_y (sT rfl rfl rfl rfl hp42) (y_call [.slice A23 y21.1.length c24,.slice A29 y27.fL.length c30] go_19 rfl (fun W2 hW2 => ref09_SameInts_ok y21.1 y27.fL y50 hy51 W2 A23 y21.1.length c24 rfl ((RdL.row 4 rfl) W2 hW2) A29 y27.fL.length c30 rfl ((RdL.row 5 rfl) W2 hW2)) rfl) (ox_y rfl (y_pick_tb (vB hp42) rfl) ?_)
     obtain rfl:=sI h
     exact key _ _ (kp4 (kp4 (kp (kp (kp rfl)))))
    ·refine oSk (sF rfl rfl rfl rfl hp42) (oSk (sF rfl rfl rfl rfl hp42) (oSk (sF rfl rfl rfl rfl hp42) (oSk (sF rfl rfl rfl rfl hp42) (ox_y rfl (y_pick_fb (vB hp42) rfl) ?_))))
     obtain rfl:=sI h
     exact key _ _ (kp4 (kp4 (kp (kp (kp rfl)))))
 ·rcases bool_cases (!y4) with hp6 | hp6
  ·refine oSk (sF rfl rfl rfl rfl hp6) (oSk (sF rfl rfl rfl rfl hp6) (oSk (sF rfl rfl rfl rfl hp6) (ox_y rfl (y_pick_tb (vB hp6) rfl) ?_)))
   exact key _ _ (keep (keep (keep (keep (keep (keep rfl rfl) rfl) rfl) rfl) rfl) (vB (or_t hp6)))
  ·refine ox_y (sT rfl rfl rfl rfl hp6) (yMS rfl) (ox_y (sT rfl rfl rfl rfl hp6) (y_len (us:=[]) us_26 rfl) (ox_y (sT rfl rfl rfl rfl hp6) (y_gtr rfl rfl) (ox_y rfl (y_pick_fb (vB hp6) rfl) ?_)))
   exact key _ _ (keep (keep (keep (keep (keep (keep rfl rfl) rfl) rfl) rfl) rfl) (vB (or_f hp6)))
end Go.Proofs.YtbblpokfbmekfaaGreat
