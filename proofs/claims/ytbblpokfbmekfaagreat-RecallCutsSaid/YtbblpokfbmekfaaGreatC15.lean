import Derived.Test.YtbblpokfbmekfaaGreatF
import Derived.Test.YtbblpokfbmekfaaGreatGj
import Derived.Test.YtbblpokfbmekfaaGreatC0
import Derived.Test.YtbblpokfbmekfaaGreatC2
import Derived.Test.YtbblpokfbmekfaaGreatC3
import Derived.Test.YtbblpokfbmekfaaGreatC4
import Derived.Test.YtbblpokfbmekfaaGreatC10
set_option maxHeartbeats 4000000
set_option maxRecDepth 100000
set_option linter.unusedVariables false
namespace Go.Proofs.YtbblpokfbmekfaaGreat
open Go.RowKit (Below)
attribute [local irreducible] OX QX CX EX OpY Calls CallsIn
theorem ref09_Cut_ok (p0:TL) (p1:(List Int)) (p2:Int) (res:TInts) (h:ref09_Cut p0 p1 p2 = some res) (W:World) (Aa:Option Addr) (n0_0 ca : Nat) (hn0_0:n0_0 = p0.fNo.length) (hr0_0:Rd W Aa n0_0 ca (encL TNode_cells p0.fNo)) (Ab:Option Addr) (n0_1 cb : Nat) (ys0_1:List (Hd × TC)) (hn0_1:n0_1 = p0.fC.length) (hr0_1:Rd W Ab n0_1 cb (encL TClaim_cells2 ys0_1)) (hN0_1:NestW W (fun z : TC => z.fO) THop_cells ys0_1 p0.fC) (Ac:Option Addr) (n1_0 cc : Nat) (hn1_0:n1_0 = p1.length) (hr1_0:Rd W Ac n1_0 cc (encL cI p1)) :
  Calls Tryz.prog 29 [.agg #[.slice Aa n0_0 ca,.slice Ab n0_1 cb],.slice Ac n1_0 cc,.int .i64 p2].toArray W fun e W2 => ∃ x : Option Addr × Nat × Nat,x.2.1 = res.fL.length ∧ e = .returned (.agg #[.slice x.1 x.2.1 x.2.2,.int .i64 res.fE]) ∧ Ext W W2 [rowR x.1 x.2.2 3 1 x.2.1 (encL cI res.fL)]:=by
 subst hn0_0
 subst hn0_1
 subst hn1_0
 unfold ref09_Cut at h
 refine calls_enter (m:=83) Tryz.func29 rfl rfl (nB rfl) ?_
 refine cS (cR ?_)
 refine ox_box [.slice Aa p0.fNo.length ca,.slice Ab p0.fC.length cb] rfl rfl rfl (fun b1 => ?_)
 refine ox_alloc ze_45 rfl (fun b2 => ?_)
 refine oN (eT (cS (cR ?_)))
 refine ox_y rfl (y_loadN 0 [.slice Aa p0.fNo.length ca,.slice Ab p0.fC.length cb] ag_25 rfl rfl rfl) (ox_y rfl (yMS rfl) (ox_y rfl (yMI rfl) ?_))
 obtain ⟨y3,hy4,h⟩:=bOs h
 refine ox_y rfl (y_call [.agg #[.slice Aa p0.fNo.length ca,.slice Ab p0.fC.length cb],.slice Ac p1.length cc,.int .i64 p2] go_38 rfl (fun W2 hW2 => ref09_To_ok p0 p1 p2 y3 hy4 W2 Aa p0.fNo.length ca rfl ((RdL.arg hr0_0) W2 hW2) Ab p0.fC.length cb ys0_1 rfl ((RdL.arg hr0_1) W2 hW2) (NestL.at (NestL.arg hN0_1) W2 hW2) Ac p1.length cc rfl ((RdL.arg hr1_0) W2 hW2)) rfl) (ox_y rfl (yAI rfl) ?_)
 refine oN (eT (cS (cS (cR ?_))))
 refine ox_y rfl (yMI rfl) (ox_y rfl (y_eql rfl rfl) (ox_y rfl (y_move_bool rfl) ?_))
 obtain ⟨b6,hb7,h⟩:=bOs h
 refine ox_join 4 (fun tm0 => (upd (upd (upd (upd (upd (upd tm0 1 (.slice Ac p1.length cc)) 2 (.int .i64 p2)) 3 (.pointer (some ⟨b1,0,none⟩))) 6 (.pointer (some ⟨b2,0,none⟩))) 7 (.int .i64 y3)) 24 (.bool b6))) (fun tm0 => ?_) (fun key => ?_)
 ·refine oN (eT ?_)
  rcases iOs h with ⟨hp8,h⟩ | ⟨hp8,h⟩
  ·refine cx_true (vB hp8) (cR (ox_y rfl (yAI rfl) ?_))
   refine oN (eT (cS (cS (cR ?_))))
   refine ox_y rfl (yMI rfl) (ox_y rfl (y_neq rfl rfl) ?_)
   refine oN (eT ?_)
   refine cx_true rfl ?_
   refine cS (cR ?_)
   refine ox_y rfl (yMI rfl) ?_
   refine ox_y rfl (y_buildS [.slice none 0 0,.int .i64 5] [(0,1),(1,1)] ust_45 ze_45 (by kernel_rfl)) ?_
   refine ox_n rfl (y_storeN 1 [.slice none 0 0,.int .i64 5] sz_45 rfl (nB rfl) rfl rfl rfl) ?_
   refine oN (eT (cx_ret (ex_then_ret ?_)))
   obtain rfl:=sI h
   exact ex_res1 (.inl rfl) rfl (resV_cellN 1 [.slice none 0 0,.int .i64 5] ag_45 rfl rfl rfl) (fun W2 hW2 => ⟨(none,0,0),rfl,rfl,((hW2.nilrow 3 1).pick 2 rfl)⟩)
  ·refine cx_false (vB hp8) ?_
   refine cx_skip (eT (cS (cS (cR ?_))))
   refine ox_y rfl (yMI rfl) (ox_y rfl (y_neq rfl rfl) ?_)
   refine oN (eT ?_)
   rcases iOs h with ⟨hp9,h⟩ | ⟨hp9,h⟩
   ·refine cx_true (vB hp9) ?_
    refine cS (cR ?_)
    refine ox_y rfl (yMI rfl) ?_
    refine ox_y rfl (y_buildS [.slice none 0 0,.int .i64 y3] [(0,1),(1,1)] ust_45 ze_45 (by kernel_rfl)) ?_
    refine ox_n rfl (y_storeN 1 [.slice none 0 0,.int .i64 y3] sz_45 rfl (nB rfl) rfl rfl rfl) ?_
    refine oN (eT (cx_ret (ex_then_ret ?_)))
    obtain rfl:=sI h
    exact ex_res1 (.inl rfl) rfl (resV_cellN 1 [.slice none 0 0,.int .i64 y3] ag_45 rfl rfl rfl) (fun W2 hW2 => ⟨(none,0,0),rfl,rfl,((hW2.nilrow 3 1).pick 2 rfl)⟩)
   ·refine cx_false (vB hp9) ?_
    refine cx_skip (eT (cS (cR ?_)))
    refine ox_y rfl (yAS rfl) ?_
    refine oN (eT (cS (cS (cR ?_))))
    refine ox_y rfl (yAI rfl) ?_
    refine oN (eT (cx_block ?_))
    obtain ⟨u13,hl22,h⟩:=bOs h
    refine cx_nilrow 3 1 ?_
    refine cx_loop (fun (s:(Int × (List Int))) L tm => ∃ (tm0:Nat → Value) (A2_s:Option Addr) (c2_s:Nat) (n2_s:Nat),n2_s = s.2.length ∧ L = [cellsR b1 25 [.slice Aa p0.fNo.length ca,.slice Ab p0.fC.length cb],cellsR b2 45 [.slice none 0 0,.int .i64 0],rowR A2_s c2_s 3 1 n2_s (encL cI s.2)] ∧ tm = (upd (upd (upd (upd (upd (upd (upd (upd (upd tm0 1 (.slice Ac p1.length cc)) 2 (.int .i64 p2)) 3 (.pointer (some ⟨b1,0,none⟩))) 6 (.pointer (some ⟨b2,0,none⟩))) 7 (.int .i64 y3)) 24 (.bool b6)) 26 (.bool (y3 != 0))) 8 (.slice A2_s n2_s c2_s)) 9 (.int .i64 s.1))) (fun s e L tm => e = .exit 0 ∧ ∃ (tm0:Nat → Value) (A2_s:Option Addr) (c2_s:Nat) (n2_s:Nat),n2_s = s.2.length ∧ L = [cellsR b1 25 [.slice Aa p0.fNo.length ca,.slice Ab p0.fC.length cb],cellsR b2 45 [.slice none 0 0,.int .i64 0],rowR A2_s c2_s 3 1 n2_s (encL cI s.2)] ∧ tm = (upd (upd (upd (upd (upd (upd (upd (upd (upd tm0 1 (.slice Ac p1.length cc)) 2 (.int .i64 p2)) 3 (.pointer (some ⟨b1,0,none⟩))) 6 (.pointer (some ⟨b2,0,none⟩))) 7 (.int .i64 y3)) 24 (.bool b6)) 26 (.bool (y3 != 0))) 8 (.slice A2_s n2_s c2_s)) 9 (.int .i64 s.1))) hl22 ⟨_,none,0,0,rfl,rfl,(kp4 (kp4 (kp rfl)))⟩ ?_ ?_
    ·rintro s12 L tm st ⟨tm0_s12,A2_s12,c2_s12,n2_s12,rfl,rfl,rfl⟩ h
     unfold ref09_Cut_l1 at h
     refine cS (cS (cR ?_))
     refine ox_y rfl (yMI rfl) (ox_y rfl (yFA fo_25_1 rfl) (ox_y rfl (y_load1 0 (v:=.slice Ab p0.fC.length cb) sc_23 rfl rfl rfl) (ox_y rfl (y_len (us:=[]) us_23 rfl) (ox_y rfl (y_lss rfl rfl) ?_))))
     refine oN (eT ?_)
     rcases iOs h with ⟨hp14,h⟩ | ⟨hp14,h⟩
     ·refine cx_true (vB hp14) ?_
      refine cx_skip (eT (cS (cx_block (cR ?_))))
      refine ox_y rfl (yMS rfl) (ox_y rfl (yFA fo_25_1 rfl) (ox_y rfl (y_load1 0 (v:=.slice Ab p0.fC.length cb) sc_23 rfl rfl rfl) (ox_y rfl (yMI rfl) ?_)))
      obtain ⟨hg15,h⟩:=gOs h
      refine ox_y rfl (y_indexR sl_23 (by decide) hg15.1 hg15.2 (RdL.arg hr0_1) (encL_len TClaim_cells2_len (NestP.hn hN0_1.p rfl)) rfl rfl) ?_
      refine ox_y rfl (y_fieldAddrR (A:=Ab) (j:=(Int.toNat s12.1 * 2)) fo_90_0 rfl) (ox_y rfl (y_loadR1 (A:=Ab) (j:=((Int.toNat s12.1 * 2) + 0)) (v:=.int .i64 ((rdL p0.fC s12.1).fID)) sc_3 (RdL.arg hr0_1) rfl (encL_get TClaim_cells2_len hg15.1 (lt_nat hg15.2 (NestP.hn hN0_1.p rfl)) (congrArg (fun z : TC => some (Value.int .i64 z.fID)) (NestP.snd hN0_1.p s12.1)))) ?_)
      obtain ⟨y16,hy17,h⟩:=bOs h
      refine ox_call [.slice A2_s12 s12.2.length c2_s12,.int .i64 ((rdL p0.fC s12.1).fID)] _ _ _ rfl go_69 rfl (fun W2 hW2 => ref09_put_ok s12.2 ((rdL p0.fC s12.1).fID) y16 hy17 W2 A2_s12 s12.2.length c2_s12 rfl ((RdL.row 2 rfl) W2 hW2)) ?_
      rintro ⟨A18,n20,c19⟩ hn21
      replace hn21 : n20 = y16.length:=hn21; subst hn21
      refine ox_y rfl (yAS rfl) (oN (ex_block ?_))
      refine eT (cR ?_)
      refine ox_y rfl (yMI rfl) (ox_y rfl (y_add rfl rfl) (ox_y rfl (yAI rfl) (oN ?_)))
      refine ex_mv 2 3 (by decide) rfl ?_
      try dsimp only [lsz,lss]
      refine ex_take 3 ?_
      obtain rfl:=sI h
      exact ex_next ⟨_,A18,c19,y16.length,rfl,rfl,(kp4 (kp4 (kp rfl)))⟩
     ·refine cx_false (vB hp14) (cx_exit (ex_then_exit ?_))
      obtain rfl:=sI h
      exact ex_stop ⟨rfl,_,A2_s12,c2_s12,s12.2.length,rfl,rfl,(kp4 (kp4 (kp rfl)))⟩
    ·intro e L tm hJ
     obtain ⟨rfl,tm0_u13,A2_u13,c2_u13,n2_u13,rfl,rfl,rfl⟩:=hJ
     refine ⟨(by intro hc; cases hc),?_⟩
     refine ex_block_here ?_
     refine eT (cS (cR ?_))
     refine ox_y rfl (yMS rfl) (ox_y rfl (yAS rfl) ?_)
     refine oN (eT (cS (cS (cR ?_))))
     refine ox_y rfl (yAI rfl) ?_
     refine oN (eT (cx_block ?_))
     obtain ⟨u26,hl59,h⟩:=bOs h
     refine cx_addNo ?_
     refine cx_loop (fun (s:(Int × (List Int))) L tm => ∃ (tm0:Nat → Value) (A2_s:Option Addr) (c2_s:Nat) (n2_s:Nat) (F3_s:Res),n2_s = s.2.length ∧ Pv cI W (fun W4 => ((fun _ => True) W4 ∧ Res.holds (rowR A2_s c2_s 3 1 s.2.length (encL cI s.2)) W4) ∧ Res.holds F3_s W4) (A2_u13,u13.2.length,c2_u13) u13.2 ∧ L = [cellsR b1 25 [.slice Aa p0.fNo.length ca,.slice Ab p0.fC.length cb],cellsR b2 45 [.slice none 0 0,.int .i64 0],rowR A2_s c2_s 3 1 n2_s (encL cI s.2),F3_s] ∧ tm = (upd (upd (upd (upd (upd (upd (upd (upd (upd (upd (upd tm0 1 (.slice Ac p1.length cc)) 2 (.int .i64 p2)) 3 (.pointer (some ⟨b1,0,none⟩))) 6 (.pointer (some ⟨b2,0,none⟩))) 7 (.int .i64 y3)) 24 (.bool b6)) 26 (.bool (y3 != 0))) 8 (.slice A2_u13 u13.2.length c2_u13)) 9 (.int .i64 u13.1)) 10 (.slice A2_s n2_s c2_s)) 11 (.int .i64 s.1))) (fun s e L tm => e = .exit 2 ∧ ∃ (tm0:Nat → Value) (A2_s:Option Addr) (c2_s:Nat) (n2_s:Nat) (F3_s:Res),n2_s = s.2.length ∧ Pv cI W (fun W4 => ((fun _ => True) W4 ∧ Res.holds (rowR A2_s c2_s 3 1 s.2.length (encL cI s.2)) W4) ∧ Res.holds F3_s W4) (A2_u13,u13.2.length,c2_u13) u13.2 ∧ L = [cellsR b1 25 [.slice Aa p0.fNo.length ca,.slice Ab p0.fC.length cb],cellsR b2 45 [.slice none 0 0,.int .i64 0],rowR A2_s c2_s 3 1 n2_s (encL cI s.2),F3_s] ∧ tm = (upd (upd (upd (upd (upd (upd (upd (upd (upd (upd (upd tm0 1 (.slice Ac p1.length cc)) 2 (.int .i64 p2)) 3 (.pointer (some ⟨b1,0,none⟩))) 6 (.pointer (some ⟨b2,0,none⟩))) 7 (.int .i64 y3)) 24 (.bool b6)) 26 (.bool (y3 != 0))) 8 (.slice A2_u13 u13.2.length c2_u13)) 9 (.int .i64 u13.1)) 10 (.slice A2_s n2_s c2_s)) 11 (.int .i64 s.1))) hl59 ⟨_,A2_u13,c2_u13,u13.2.length,noR,rfl,(fun _ _ h => rowR_rd h.1.2),rfl,(kp4 (kp4 (kp (kp (kp rfl)))))⟩ ?_ ?_
     ·rintro s25 L tm st ⟨tm0_s25,A2_s25,c2_s25,n2_s25,F3_s25,rfl,hA3_s25,rfl,rfl⟩ h
      unfold ref09_Cut_l2 at h
      refine cS (cS (cR ?_))
      refine ox_y rfl (yMI rfl) (ox_y rfl (yMS rfl) (ox_y rfl (y_len (us:=[]) us_26 rfl) (ox_y rfl (y_lss rfl rfl) ?_)))
      refine oN (eT ?_)
      rcases iOs h with ⟨hp27,h⟩ | ⟨hp27,h⟩
      ·refine cx_true (vB hp27) ?_
       refine cx_skip (eT (cS (cx_block (cS (cR ?_)))))
       refine ox_y rfl (yAS rfl) ?_
       refine oN (eT (cS (cS (cR ?_))))
       refine ox_y rfl (yAI rfl) ?_
       refine oN (eT (cx_block ?_))
       obtain ⟨u31,hl41,h⟩:=bOs h
       refine cx_nilrow 3 1 ?_
       refine cx_loop (fun (s:(Int × (List Int))) L tm => ∃ (tm0:Nat → Value) (A4_s:Option Addr) (c4_s:Nat) (n4_s:Nat),n4_s = s.2.length ∧ L = [cellsR b1 25 [.slice Aa p0.fNo.length ca,.slice Ab p0.fC.length cb],cellsR b2 45 [.slice none 0 0,.int .i64 0],rowR A2_s25 c2_s25 3 1 s25.2.length (encL cI s25.2),F3_s25,rowR A4_s c4_s 3 1 n4_s (encL cI s.2)] ∧ tm = (upd (upd (upd (upd (upd (upd (upd (upd (upd (upd (upd (upd (upd (upd tm0 1 (.slice Ac p1.length cc)) 2 (.int .i64 p2)) 3 (.pointer (some ⟨b1,0,none⟩))) 6 (.pointer (some ⟨b2,0,none⟩))) 7 (.int .i64 y3)) 24 (.bool b6)) 26 (.bool (y3 != 0))) 8 (.slice A2_u13 u13.2.length c2_u13)) 9 (.int .i64 u13.1)) 10 (.slice A2_s25 s25.2.length c2_s25)) 11 (.int .i64 s25.1)) 48 (.bool (decide (s25.1 < (u13.2.length:Int))))) 12 (.slice A4_s n4_s c4_s)) 13 (.int .i64 s.1))) (fun s e L tm => e = .exit 4 ∧ ∃ (tm0:Nat → Value) (A4_s:Option Addr) (c4_s:Nat) (n4_s:Nat),n4_s = s.2.length ∧ L = [cellsR b1 25 [.slice Aa p0.fNo.length ca,.slice Ab p0.fC.length cb],cellsR b2 45 [.slice none 0 0,.int .i64 0],rowR A2_s25 c2_s25 3 1 s25.2.length (encL cI s25.2),F3_s25,rowR A4_s c4_s 3 1 n4_s (encL cI s.2)] ∧ tm = (upd (upd (upd (upd (upd (upd (upd (upd (upd (upd (upd (upd (upd (upd tm0 1 (.slice Ac p1.length cc)) 2 (.int .i64 p2)) 3 (.pointer (some ⟨b1,0,none⟩))) 6 (.pointer (some ⟨b2,0,none⟩))) 7 (.int .i64 y3)) 24 (.bool b6)) 26 (.bool (y3 != 0))) 8 (.slice A2_u13 u13.2.length c2_u13)) 9 (.int .i64 u13.1)) 10 (.slice A2_s25 s25.2.length c2_s25)) 11 (.int .i64 s25.1)) 48 (.bool (decide (s25.1 < (u13.2.length:Int))))) 12 (.slice A4_s n4_s c4_s)) 13 (.int .i64 s.1))) hl41 ⟨_,none,0,0,rfl,rfl,(kp4 (kp4 (kp4 (kp (kp rfl)))))⟩ ?_ ?_
       ·rintro s30 L tm st ⟨tm0_s30,A4_s30,c4_s30,n4_s30,rfl,rfl,rfl⟩ h
        unfold ref09_Cut_l3 at h
        refine cS (cS (cR ?_))
        refine ox_y rfl (yMI rfl) (ox_y rfl (yMS rfl) (ox_y rfl (y_len (us:=[]) us_26 rfl) (ox_y rfl (y_lss rfl rfl) ?_)))
        refine oN (eT ?_)
        rcases iOs h with ⟨hp32,h⟩ | ⟨hp32,h⟩
        ·refine cx_true (vB hp32) ?_
         refine cx_skip (eT (cS (cx_block (cS ?_))))
         refine cx_draws 9 mixed (by kernel_rfl) (by kernel_rfl) ?_
         refine qx_y rfl (yMS rfl) (qx_y rfl (yMI rfl) ?_)
         obtain ⟨hg33,h⟩:=gOs h
         refine qx_y rfl (y_indexR sl_26 (by decide) hg33.1 hg33.2 (RdL.row 2 rfl) (encL_len cI_len rfl) rfl rfl) ?_
         refine qx_y rfl (y_loadR1 (A:=A2_s25) (j:=(Int.toNat s30.1 * 1)) (v:=.int .i64 (rdL s25.2 s30.1)) sc_3 (RdL.row 2 rfl) rfl (encL_get0 cI_len hg33.1 (lt_nat hg33.2 rfl) rfl)) (qx_y rfl (yMS rfl) (qx_y rfl (yMI rfl) ?_))
         obtain ⟨hg34,h⟩:=gOs h
         refine qx_y rfl (y_indexR sl_26 (by decide) hg34.1 hg34.2 (Pv.rdl hA3_s25 (fun W2 hW2 => ⟨hW2.below,⟨trivial,hW2.mem (i:=2) rfl⟩,hW2.mem (i:=3) rfl⟩)) (encL_len cI_len rfl) rfl rfl) ?_
         refine qx_y rfl (y_loadR1 (A:=A2_u13) (j:=(Int.toNat s25.1 * 1)) (v:=.int .i64 (rdL u13.2 s25.1)) sc_3 (Pv.rdl hA3_s25 (fun W2 hW2 => ⟨hW2.below,⟨trivial,hW2.mem (i:=2) rfl⟩,hW2.mem (i:=3) rfl⟩)) rfl (encL_get0 cI_len hg34.1 (lt_nat hg34.2 rfl) rfl)) (qx_y rfl (y_neq rfl rfl) (qx_nil ?_))
         refine oN (eT ?_)
         rcases iOs h with ⟨hp35,h⟩ | ⟨hp35,h⟩
         ·refine cx_true (vB hp35) (cR (ox_y rfl (yMS rfl) (ox_y rfl (yMS rfl) (ox_y rfl (yMI rfl) ?_))))
          obtain ⟨hg36,h⟩:=gOs h
          refine ox_y rfl (y_indexR sl_26 (by decide) hg36.1 hg36.2 (RdL.row 2 rfl) (encL_len cI_len rfl) rfl rfl) ?_
          refine ox_y rfl (y_loadR1 (A:=A2_s25) (j:=(Int.toNat s30.1 * 1)) (v:=.int .i64 (rdL s25.2 s30.1)) sc_3 (RdL.row 2 rfl) rfl (encL_get0 cI_len hg36.1 (lt_nat hg36.2 rfl) rfl)) ?_
          refine ox_buildSliceE 1 (encL cI [(rdL s25.2 s30.1)]) _ mc_3_1 us_26 ze_3 by_3 (by decide) (by decide) (by kernel_rfl) (encL_len cI_len rfl) rfl (fun b37 => ?_)
          try dsimp only [lna,lca,lsz,lss]
          obtain ⟨hg40,h⟩:=gOs h
          refine ox_append0 4 us_26 ze_3 by_3 rfl rfl rfl (RdL.row 5 rfl) (encL_len cI_len rfl) (encL_one cI_one _) (app_room hg40 (by decide)) rfl (fun A38 c39 => ?_)
          refine ox_y rfl (yAS rfl) (oN (ex_block ?_))
          refine eT (cR ?_)
          refine ox_y rfl (yMI rfl) (ox_y rfl (y_add rfl rfl) (ox_y rfl (yAI rfl) (oN (ex_take 5 ?_))))
          obtain rfl:=sI h
          exact ex_next ⟨_,A38,c39,(s30.2.length + 1),(hn_app rfl rfl),rfl,(kp4 (kp4 (kp4 (kp (kp rfl)))))⟩
         ·refine cx_false (vB hp35) (cx_skip (ex_block ?_))
          refine eT (cR ?_)
          refine ox_y rfl (yMI rfl) (ox_y rfl (y_add rfl rfl) (ox_y rfl (yAI rfl) (oN ?_)))
          obtain rfl:=sI h
          exact ex_next ⟨_,A4_s30,c4_s30,s30.2.length,rfl,rfl,(kp4 (kp4 (kp4 (kp (kp rfl)))))⟩
        ·refine cx_false (vB hp32) (cx_exit (ex_then_exit ?_))
         obtain rfl:=sI h
         exact ex_stop ⟨rfl,_,A4_s30,c4_s30,s30.2.length,rfl,rfl,(kp4 (kp4 (kp4 (kp (kp rfl)))))⟩
       ·intro e L tm hJ
        obtain ⟨rfl,tm0_u31,A4_u31,c4_u31,n4_u31,rfl,rfl,rfl⟩:=hJ
        refine ⟨(by intro hc; cases hc),?_⟩
        refine ex_block_here ?_
        refine eT (cS (cR ?_))
        refine ox_y rfl (y_loadN 0 [.slice Aa p0.fNo.length ca,.slice Ab p0.fC.length cb] ag_25 rfl rfl rfl) (ox_y rfl (yMS rfl) ?_)
        obtain ⟨y42,hy43,h⟩:=bOs h
        refine ox_call [.agg #[.slice Aa p0.fNo.length ca,.slice Ab p0.fC.length cb],.slice A4_u31 u31.2.length c4_u31] _ _ _ rfl go_79 rfl (fun W2 hW2 => ref09_without_ok p0 u31.2 y42 hy43 W2 Aa p0.fNo.length ca rfl ((RdL.arg hr0_0) W2 hW2) Ab p0.fC.length cb ys0_1 rfl ((RdL.arg hr0_1) W2 hW2) (NestL.at (NestL.arg hN0_1) W2 hW2) A4_u31 u31.2.length c4_u31 rfl ((RdL.row 4 rfl) W2 hW2) W (fun _ => True) (fun W3 hb => ⟨belowT hW2.below hb,trivial⟩) (PvL.of_nest hN0_1)) ?_
        rintro ⟨⟨A48,n50,c49⟩,ys53,F54⟩ ⟨hn51,hP52,hV55⟩
        replace hn51 : n50 = y42.fC.length:=hn51; subst hn51
        try dsimp only [lna,lca,lsz,lss]
        refine ox_y rfl (yMS rfl) (ox_y rfl (yMI rfl) ?_)
        obtain ⟨y56,hy57,h⟩:=bOs h
        refine ox_y rfl (y_call [.agg #[.slice Aa p0.fNo.length ca,.slice A48 y42.fC.length c49],.slice Ac p1.length cc,.int .i64 p2] go_43 rfl (fun W2 hW2 => ref09_Possible_ok (TL.mk p0.fNo y42.fC) p1 p2 y56 hy57 W2 Aa p0.fNo.length ca rfl ((RdL.arg hr0_0) W2 hW2) A48 y42.fC.length c49 ys53 rfl ((RdL.row 5 rfl) W2 hW2) (NestL.at (PvL.nestL hP52 hV55 (fun W2 hW2 => ⟨hW2.below,trivial,hW2.mem (i:=6) rfl⟩)) W2 hW2) Ac p1.length cc rfl ((RdL.arg hr1_0) W2 hW2)) rfl) (ox_y rfl (y_not rfl) ?_)
        refine oN (eT ?_)
        rcases iOs h with ⟨hp58,h⟩ | ⟨hp58,h⟩
        ·refine cx_true (vB hp58) (cR (ox_y rfl (yMS rfl) (ox_y rfl (yAS rfl) (oN (ex_block ?_)))))
         refine eT (cR ?_)
         refine ox_y rfl (yMI rfl) (ox_y rfl (y_add rfl rfl) (ox_y rfl (yAI rfl) (oN ?_)))
         refine ex_joinF 3 2 (by decide) rfl rfl ?_
         try dsimp only [lsz,lss]
         refine ex_mv 2 4 (by decide) rfl ?_
         try dsimp only [lsz,lss]
         refine ex_take 4 ?_
         obtain rfl:=sI h
         exact ex_next ⟨_,A4_u31,c4_u31,u31.2.length,andR F3_s25 (rowR A2_s25 c2_s25 3 1 s25.2.length (encL cI s25.2)),rfl,(Pv.mono (Hb:=(fun W4 => ((fun _ => True) W4 ∧ Res.holds (rowR A2_s25 c2_s25 3 1 s25.2.length (encL cI s25.2)) W4) ∧ Res.holds F3_s25 W4)) hA3_s25 (fun _ _ h => ⟨⟨h.1.1,h.2.2.1⟩,h.2.1⟩)),rfl,(kp4 (kp4 (kp (kp (kp rfl)))))⟩
        ·refine cx_false (vB hp58) (cx_skip (ex_block ?_))
         refine eT (cR ?_)
         refine ox_y rfl (yMI rfl) (ox_y rfl (y_add rfl rfl) (ox_y rfl (yAI rfl) (oN (ex_take 4 ?_))))
         obtain rfl:=sI h
         exact ex_next ⟨_,A2_s25,c2_s25,s25.2.length,F3_s25,rfl,hA3_s25,rfl,(kp4 (kp4 (kp (kp (kp rfl)))))⟩
      ·refine cx_false (vB hp27) (cx_exit (ex_then_exit ?_))
       obtain rfl:=sI h
       exact ex_stop ⟨rfl,_,A2_s25,c2_s25,s25.2.length,F3_s25,rfl,hA3_s25,rfl,(kp4 (kp4 (kp (kp (kp rfl)))))⟩
     ·intro e L tm hJ
      obtain ⟨rfl,tm0_u26,A2_u26,c2_u26,n2_u26,F3_u26,rfl,hA3_u26,rfl,rfl⟩:=hJ
      refine ⟨(by intro hc; cases hc),?_⟩
      refine ex_block_here ?_
      refine eT (cS (cR ?_))
      refine ox_y rfl (yMS rfl) ?_
      refine ox_y rfl (y_buildS [.slice A2_u26 u26.2.length c2_u26,.int .i64 0] [(0,1),(1,1)] ust_45 ze_45 (by kernel_rfl)) ?_
      refine ox_n rfl (y_storeN 1 [.slice A2_u26 u26.2.length c2_u26,.int .i64 0] sz_45 rfl (nB rfl) rfl rfl rfl) ?_
      refine oN (eT (cx_ret ?_))
      obtain rfl:=sI h
      exact ex_res1 (.inl rfl) rfl (resV_cellN 1 [.slice A2_u26 u26.2.length c2_u26,.int .i64 0] ag_45 rfl rfl rfl) (fun W2 hW2 => ⟨(A2_u26,u26.2.length,c2_u26),rfl,rfl,(hW2.pick 2 rfl)⟩)
 ·clear h; rcases iOs hb7 with ⟨hp5,h⟩ | ⟨hp5,h⟩
  ·refine ox_y (sT rfl rfl rfl rfl hp5) (yMS rfl) (ox_y (sT rfl rfl rfl rfl hp5) (yMI rfl) ?_)
   obtain ⟨y60,hy61,h⟩:=bOs h
   refine ox_y (sT rfl rfl rfl rfl hp5) (y_call [.slice Ac p1.length cc,.int .i64 p2] go_82 rfl (fun W2 hW2 => ref09_has_ok p1 p2 y60 hy61 W2 Ac p1.length cc rfl ((RdL.arg hr1_0) W2 hW2)) rfl) (ox_y rfl (y_pick_tb (vB hp5) rfl) ?_)
   obtain rfl:=sI h
   exact key _ _ (kp4 (kp (kp rfl)))
  ·refine oSk (sF rfl rfl rfl rfl hp5) (oSk (sF rfl rfl rfl rfl hp5) (oSk (sF rfl rfl rfl rfl hp5) (ox_y rfl (y_pick_fb (vB hp5) rfl) ?_)))
   obtain rfl:=sI h
   exact key _ _ (kp4 (kp (kp rfl)))
theorem recall_isLinks_1_ok (p0:Int) (cap0:TL) (res:Bool) (h:recall_isLinks_1 p0 cap0 = some res) (W:World) (bc0:Nat) (A100_0:Option Addr) (n100_0 c100_0 : Nat) (hn100_0:n100_0 = cap0.fNo.length) (hr100_0:Rd W A100_0 n100_0 c100_0 (encL TNode_cells cap0.fNo)) (A100_1:Option Addr) (n100_1 c100_1 : Nat) (ys100_1:List (Hd × TC)) (hn100_1:n100_1 = cap0.fC.length) (hr100_1:Rd W A100_1 n100_1 c100_1 (encL TClaim_cells2 ys100_1)) (hN100_1:NestW W (fun z : TC => z.fO) THop_cells ys100_1 cap0.fC) (hcap0:Rd W (some ⟨bc0,0,none⟩) 1 1 [.slice A100_0 n100_0 c100_0,.slice A100_1 n100_1 c100_1]) :
  Calls Tryz.prog 136 [.int .i64 p0,.pointer (some ⟨bc0,0,none⟩)].toArray W fun e W2 => e = .returned (.bool res) ∧ Ext W W2 []:=by
 subst hn100_0
 subst hn100_1
 unfold recall_isLinks_1 at h
 refine calls_enter (m:=8) Tryz.func136 rfl rfl (nB rfl) ?_
 refine cS (cR ?_)
 refine ox_y rfl (y_assign_bool rfl) ?_
 refine oN (eT (cS (cR ?_)))
 refine ox_y rfl (y_loadRN (A:=(some ⟨bc0,0,none⟩)) (j:=0) [.slice A100_0 cap0.fNo.length c100_0,.slice A100_1 cap0.fC.length c100_1] ag_25 (Nat.succ_pos _) (RdL.arg hcap0) rfl (gets_all rfl)) (ox_y rfl (yMI rfl) ?_)
 obtain ⟨y1,hy2,h⟩:=bOs h
 refine ox_y rfl (y_call [.agg #[.slice A100_0 cap0.fNo.length c100_0,.slice A100_1 cap0.fC.length c100_1],.int .i64 p0] go_114 rfl (fun W2 hW2 => recall_linkOf_ok cap0 p0 y1 hy2 W2 A100_0 cap0.fNo.length c100_0 rfl ((RdL.arg hr100_0) W2 hW2) A100_1 cap0.fC.length c100_1 ys100_1 rfl ((RdL.arg hr100_1) W2 hW2) (NestL.at (NestL.arg hN100_1) W2 hW2)) rfl) (ox_y rfl (y_geq rfl rfl) (ox_y rfl (y_assign_bool rfl) ?_))
 refine oN (eT (cx_ret ?_))
 obtain rfl:=sI h
 exact ex_res1 (.inl rfl) rfl (rVt (v:=.bool (decide (0 ≤ y1))) rfl) (fun W2 hW2 => ⟨rfl,hW2.none⟩)
theorem recall_isLinks_ok (p0:TL) (p1:(List Int)) (res:Bool) (h:recall_isLinks p0 p1 = some res) (W:World) (Aa:Option Addr) (n0_0 ca : Nat) (hn0_0:n0_0 = p0.fNo.length) (hr0_0:Rd W Aa n0_0 ca (encL TNode_cells p0.fNo)) (Ab:Option Addr) (n0_1 cb : Nat) (ys0_1:List (Hd × TC)) (hn0_1:n0_1 = p0.fC.length) (hr0_1:Rd W Ab n0_1 cb (encL TClaim_cells2 ys0_1)) (hN0_1:NestW W (fun z : TC => z.fO) THop_cells ys0_1 p0.fC) (Ac:Option Addr) (n1_0 cc : Nat) (hn1_0:n1_0 = p1.length) (hr1_0:Rd W Ac n1_0 cc (encL cI p1)) :
  Calls Tryz.prog 98 [.agg #[.slice Aa n0_0 ca,.slice Ab n0_1 cb],.slice Ac n1_0 cc].toArray W fun e W2 => e = .returned (.bool res) ∧ Ext W W2 []:=by
 subst hn0_0
 subst hn0_1
 subst hn1_0
 unfold recall_isLinks at h
 refine calls_enter (m:=8) Tryz.func98 rfl rfl (nB rfl) ?_
 refine cS (cR ?_)
 refine ox_box [.slice Aa p0.fNo.length ca,.slice Ab p0.fC.length cb] rfl rfl rfl (fun b1 => ?_)
 refine ox_y rfl (y_assign_bool rfl) ?_
 refine oN (eT (cS (cR ?_)))
 refine ox_y rfl (yMS rfl) (ox_y rfl (y_makeFunc [.pointer (some ⟨b1,0,none⟩)] rfl rfl) ?_)
 obtain ⟨y4,hy5,h⟩:=bOs h
 refine ox_y rfl (y_call [.slice Ac p1.length cc,.func (.func 135) #[] #[],.func (.func 136) #[] #[.pointer (some ⟨b1,0,none⟩)]] go_134 rfl (fun W2 hW2 => recall_increasing_int_ok p1 (fun x2 => recall_own x2) (fun x3 => recall_isLinks_1 x3 p0) y4 hy5 W2 Ac p1.length cc rfl ((RdL.arg hr1_0) W2 hW2) 135 [] [] go_135 (fun W3 hb x y hxy => recall_own_ok  x  y hxy W3 ) 136 [] [.pointer (some ⟨b1,0,none⟩)] go_136 (fun W3 hb x y hxy => recall_isLinks_1_ok  x p0 y hxy W3 b1 Aa p0.fNo.length ca rfl (((RdL.arg hr0_0) W2 hW2).later hb) Ab p0.fC.length cb ys0_1 rfl (((RdL.arg hr0_1) W2 hW2).later hb) ((NestL.at (NestL.arg hN0_1) W2 hW2).later hb) (((RdL.cells 0 rfl) W2 hW2).later hb))) rfl) (ox_y rfl (y_assign_bool rfl) ?_)
 refine oN (eT (cx_ret ?_))
 obtain rfl:=sI h
 exact ex_res1 (.inl rfl) rfl (rVt (v:=.bool y4) rfl) (fun W2 hW2 => ⟨rfl,hW2.none⟩)
theorem recall_CheckCut_ok (p0:TL) (p1:(List Int)) (p2:Int) (p3:(List Int)) (res:Int) (h:recall_CheckCut p0 p1 p2 p3 = some res) (W:World) (Aa:Option Addr) (n0_0 ca : Nat) (hn0_0:n0_0 = p0.fNo.length) (hr0_0:Rd W Aa n0_0 ca (encL TNode_cells p0.fNo)) (Ab:Option Addr) (n0_1 cb : Nat) (ys0_1:List (Hd × TC)) (hn0_1:n0_1 = p0.fC.length) (hr0_1:Rd W Ab n0_1 cb (encL TClaim_cells2 ys0_1)) (hN0_1:NestW W (fun z : TC => z.fO) THop_cells ys0_1 p0.fC) (Ac:Option Addr) (n1_0 cc : Nat) (hn1_0:n1_0 = p1.length) (hr1_0:Rd W Ac n1_0 cc (encL cI p1)) (A3_0:Option Addr) (n3_0 c3_0 : Nat) (hn3_0:n3_0 = p3.length) (hr3_0:Rd W A3_0 n3_0 c3_0 (encL cI p3)) :
  Calls Tryz.prog 30 [.agg #[.slice Aa n0_0 ca,.slice Ab n0_1 cb],.slice Ac n1_0 cc,.int .i64 p2,.slice A3_0 n3_0 c3_0].toArray W fun e W2 => e = .returned (.int .i64 res) ∧ Ext W W2 []:=by
 subst hn0_0
 subst hn0_1
 subst hn1_0
 subst hn3_0
 unfold recall_CheckCut at h
 refine calls_enter (m:=40) Tryz.func30 rfl rfl (nB rfl) ?_
 refine cS (cR ?_)
 refine ox_box [.slice Aa p0.fNo.length ca,.slice Ab p0.fC.length cb] rfl rfl rfl (fun b1 => ?_)
 refine ox_y rfl (yAI rfl) ?_
 refine oN (eT (cS (cS (cR ?_))))
 refine ox_y rfl (y_loadN 0 [.slice Aa p0.fNo.length ca,.slice Ab p0.fC.length cb] ag_25 rfl rfl rfl) (ox_y rfl (yMS rfl) (ox_y rfl (yMI rfl) ?_))
 obtain ⟨y2,hy3,h⟩:=bOs h
 refine ox_y rfl (y_call [.agg #[.slice Aa p0.fNo.length ca,.slice Ab p0.fC.length cb],.slice Ac p1.length cc,.int .i64 p2] go_74 rfl (fun W2 hW2 => recall_askedTo_ok p0 p1 p2 y2 hy3 W2 Aa p0.fNo.length ca rfl ((RdL.arg hr0_0) W2 hW2) Ab p0.fC.length cb ys0_1 rfl ((RdL.arg hr0_1) W2 hW2) (NestL.at (NestL.arg hN0_1) W2 hW2) Ac p1.length cc rfl ((RdL.arg hr1_0) W2 hW2)) rfl) (ox_y rfl (yAI rfl) ?_)
 refine oN (eT (cS (cR ?_)))
 refine ox_y rfl (yMI rfl) (ox_y rfl (y_neq rfl rfl) ?_)
 refine oN (eT ?_)
 rcases iOs h with ⟨hp4,h⟩ | ⟨hp4,h⟩
 ·refine cx_true (vB hp4) ?_
  refine cS (cR ?_)
  refine ox_y rfl (yMI rfl) (ox_y rfl (yAI rfl) ?_)
  refine oN (eT (cx_ret (ex_then_ret ?_)))
  obtain rfl:=sI h
  exact ex_res1 (.inl rfl) rfl (rVt (v:=.int .i64 y2) rfl) (fun W2 hW2 => ⟨rfl,hW2.none⟩)
 ·refine cx_false (vB hp4) ?_
  refine cx_skip (eT (cS (cS (cR ?_))))
  refine ox_y rfl (y_loadN 0 [.slice Aa p0.fNo.length ca,.slice Ab p0.fC.length cb] ag_25 rfl rfl rfl) (ox_y rfl (yMS rfl) ?_)
  obtain ⟨y5,hy6,h⟩:=bOs h
  refine ox_y rfl (y_call [.agg #[.slice Aa p0.fNo.length ca,.slice Ab p0.fC.length cb],.slice A3_0 p3.length c3_0] go_98 rfl (fun W2 hW2 => recall_isLinks_ok p0 p3 y5 hy6 W2 Aa p0.fNo.length ca rfl ((RdL.arg hr0_0) W2 hW2) Ab p0.fC.length cb ys0_1 rfl ((RdL.arg hr0_1) W2 hW2) (NestL.at (NestL.arg hN0_1) W2 hW2) A3_0 p3.length c3_0 rfl ((RdL.arg hr3_0) W2 hW2)) rfl) (ox_y rfl (y_not rfl) ?_)
  refine oN (eT ?_)
  rcases iOs h with ⟨hp7,h⟩ | ⟨hp7,h⟩
  ·refine cx_true (vB hp7) ?_
   refine cS (cR ?_)
   refine ox_y rfl (yAI rfl) ?_
   refine oN (eT (cx_ret (ex_then_ret ?_)))
   obtain rfl:=sI h
   exact ex_res1 (.inl rfl) rfl (rVt (v:=.int .i64 1) rfl) (fun W2 hW2 => ⟨rfl,hW2.none⟩)
  ·refine cx_false (vB hp7) ?_
   refine cx_skip (eT (cS (cR ?_)))
   refine ox_makeMapV 3 kI rngB kB false rfl (fun b8 => ?_)
   refine ox_y rfl (y_assign_map rfl) ?_
   refine oN (eT (cS (cS (cR ?_))))
   refine ox_y rfl (yMS rfl) (ox_y rfl (y_len (us:=[]) us_26 rfl) (ox_y rfl (yMI rfl) ?_))
   refine oN (eT (cx_block ?_))
   obtain ⟨u12,hl16,h⟩:=bOs h
   refine cx_loop (fun (s:(Int × (List (Int × Bool)))) L tm => ∃ (tm0:Nat → Value),L = [cellsR b1 25 [.slice Aa p0.fNo.length ca,.slice Ab p0.fC.length cb],mapV Tryz.prog 3 kI rngB kB false b8 s.2] ∧ tm = (upd (upd (upd (upd (upd (upd (upd (upd (upd (upd (upd (upd (upd tm0 0 (.agg #[.slice Aa p0.fNo.length ca,.slice Ab p0.fC.length cb])) 1 (.slice Ac p1.length cc)) 2 (.int .i64 p2)) 3 (.slice A3_0 p3.length c3_0)) 4 (.pointer (some ⟨b1,0,none⟩))) 8 (.int .i64 0)) 9 (.int .i64 y2)) 18 (.bool (y2 != 0))) 23 (.bool (!y5))) 10 (.map (some b8))) 25 (.slice A3_0 p3.length c3_0)) 26 (.int .i64 (p3.length:Int))) 27 (.int .i64 s.1))) (fun s e L tm => e = .exit 0 ∧ ∃ (tm0:Nat → Value),L = [cellsR b1 25 [.slice Aa p0.fNo.length ca,.slice Ab p0.fC.length cb],mapV Tryz.prog 3 kI rngB kB false b8 s.2] ∧ tm = (upd (upd (upd (upd (upd (upd (upd (upd (upd (upd (upd (upd (upd tm0 0 (.agg #[.slice Aa p0.fNo.length ca,.slice Ab p0.fC.length cb])) 1 (.slice Ac p1.length cc)) 2 (.int .i64 p2)) 3 (.slice A3_0 p3.length c3_0)) 4 (.pointer (some ⟨b1,0,none⟩))) 8 (.int .i64 0)) 9 (.int .i64 y2)) 18 (.bool (y2 != 0))) 23 (.bool (!y5))) 10 (.map (some b8))) 25 (.slice A3_0 p3.length c3_0)) 26 (.int .i64 (p3.length:Int))) 27 (.int .i64 s.1))) hl16 ⟨_,rfl,(kp4 (kp4 (kp4 (kp rfl))))⟩ ?_ ?_
   ·rintro s11 L tm st ⟨tm0_s11,rfl,rfl⟩ h
    unfold recall_CheckCut_l1 at h
    refine cS (cR ?_)
    refine ox_y rfl (y_lss rfl rfl) ?_
    refine oN (eT (cS ?_))
    rcases iOs h with ⟨hp13,h⟩ | ⟨hp13,h⟩
    ·refine cx_true (vB hp13) ?_
     refine cx_skip (eT (cS (cx_block (cS (cR ?_)))))
     obtain ⟨hg14,h⟩:=gOs h
     refine ox_y rfl (y_indexR sl_26 (by decide) hg14.1 hg14.2 (RdL.arg hr3_0) (encL_len cI_len rfl) rfl rfl) ?_
     refine ox_y rfl (y_loadR1 (A:=A3_0) (j:=(Int.toNat s11.1 * 1)) (v:=.int .i64 (rdL p3 s11.1)) sc_3 (RdL.arg hr3_0) rfl (encL_get0 cI_len hg14.1 (lt_nat hg14.2 rfl) rfl)) (ox_y rfl (yAI rfl) ?_)
     refine oN (eT (cR ?_))
     refine ox_y rfl (y_move_map rfl) (ox_y rfl (yMI rfl) ?_)
     obtain ⟨hg15,h⟩:=gOs h
     refine ox_n rfl (y_updateV 1 (k:=(rdL p3 s11.1)) (v:=true) rfl ke_3 um_94 rfl rfl rfl hg15) (oN (ex_block ?_))
     refine eT (cR ?_)
     refine ox_y rfl (y_add rfl rfl) (ox_y rfl (yMI rfl) (oN ?_))
     obtain rfl:=sI h
     exact ex_next ⟨_,rfl,(kp4 (kp4 (kp4 (kp rfl))))⟩
    ·refine cx_false (vB hp13) (cx_exit (ex_then_exit ?_))
     obtain rfl:=sI h
     exact ex_stop ⟨rfl,_,rfl,(kp4 (kp4 (kp4 (kp rfl))))⟩
   ·intro e L tm hJ
    obtain ⟨rfl,tm0_u12,rfl,rfl⟩:=hJ
    refine ⟨(by intro hc; cases hc),?_⟩
    refine ex_block_here ?_
    refine eT (cS (cS (cR ?_)))
    refine ox_y rfl (y_loadN 0 [.slice Aa p0.fNo.length ca,.slice Ab p0.fC.length cb] ag_25 rfl rfl rfl) (ox_y rfl (yMS rfl) (ox_y rfl (yMI rfl) (ox_y rfl (y_move_map rfl) ?_)))
    obtain ⟨y17,hy18,h⟩:=bOs h
    refine ox_y rfl (y_call [.agg #[.slice Aa p0.fNo.length ca,.slice Ab p0.fC.length cb],.slice Ac p1.length cc,.int .i64 p2,.map (some b8)] go_97 rfl (fun W2 hW2 => recall_isCut_ok p0 p1 p2 u12.2 y17 hy18 W2 Aa p0.fNo.length ca rfl ((RdL.arg hr0_0) W2 hW2) Ab p0.fC.length cb ys0_1 rfl ((RdL.arg hr0_1) W2 hW2) (NestL.at (NestL.arg hN0_1) W2 hW2) Ac p1.length cc rfl ((RdL.arg hr1_0) W2 hW2) b8 ((MpL.own 1 rfl) W2 hW2)) rfl) (ox_y rfl (y_not rfl) ?_)
    refine oN (eT ?_)
    rcases iOs h with ⟨hp19,h⟩ | ⟨hp19,h⟩
    ·refine cx_true (vB hp19) ?_
     refine cS (cR ?_)
     refine ox_y rfl (yAI rfl) ?_
     refine oN (eT (cx_ret (ex_then_ret ?_)))
     obtain rfl:=sI h
     exact ex_res1 (.inl rfl) rfl (rVt (v:=.int .i64 8) rfl) (fun W2 hW2 => ⟨rfl,hW2.none⟩)
    ·refine cx_false (vB hp19) ?_
     refine cx_skip (eT (cS (cR ?_)))
     refine ox_y rfl (yAI rfl) ?_
     refine oN (eT (cx_ret ?_))
     obtain rfl:=sI h
     exact ex_res1 (.inl rfl) rfl (rVt (v:=.int .i64 0) rfl) (fun W2 hW2 => ⟨rfl,hW2.none⟩)
theorem ref09_claims_ok (p0:TL) (p1:(List Int)) (res:Bool) (h:ref09_claims p0 p1 = some res) (W:World) (Aa:Option Addr) (n0_0 ca : Nat) (hn0_0:n0_0 = p0.fNo.length) (hr0_0:Rd W Aa n0_0 ca (encL TNode_cells p0.fNo)) (Ab:Option Addr) (n0_1 cb : Nat) (ys0_1:List (Hd × TC)) (hn0_1:n0_1 = p0.fC.length) (hr0_1:Rd W Ab n0_1 cb (encL TClaim_cells2 ys0_1)) (hN0_1:NestW W (fun z : TC => z.fO) THop_cells ys0_1 p0.fC) (Ac:Option Addr) (n1_0 cc : Nat) (hn1_0:n1_0 = p1.length) (hr1_0:Rd W Ac n1_0 cc (encL cI p1)) :
  Calls Tryz.prog 99 [.agg #[.slice Aa n0_0 ca,.slice Ab n0_1 cb],.slice Ac n1_0 cc].toArray W fun e W2 => e = .returned (.bool res) ∧ Ext W W2 []:=by
 subst hn0_0
 subst hn0_1
 subst hn1_0
 unfold ref09_claims at h
 refine calls_enter (m:=21) Tryz.func99 rfl rfl (nB rfl) ?_
 refine cS (cR ?_)
 refine ox_box [.slice Aa p0.fNo.length ca,.slice Ab p0.fC.length cb] rfl rfl rfl (fun b1 => ?_)
 refine ox_y rfl (y_assign_bool rfl) ?_
 refine oN (eT (cS (cS (cR ?_))))
 refine ox_y rfl (yAI rfl) ?_
 refine oN (eT (cx_block ?_))
 obtain ⟨u4,hl10,h⟩:=bOs h
 refine cx_loop (fun (s:(Bool × Int)) L tm => ∃ (tm0:Nat → Value),L = [cellsR b1 25 [.slice Aa p0.fNo.length ca,.slice Ab p0.fC.length cb]] ∧ tm = (upd (upd (upd (upd (upd tm0 0 (.agg #[.slice Aa p0.fNo.length ca,.slice Ab p0.fC.length cb])) 1 (.slice Ac p1.length cc)) 2 (.pointer (some ⟨b1,0,none⟩))) 4 (.bool s.1)) 5 (.int .i64 s.2))) (fun | (.inl s),e,L,tm => e = .ret ∧ ∃ (tm0:Nat → Value),L = [cellsR b1 25 [.slice Aa p0.fNo.length ca,.slice Ab p0.fC.length cb]] ∧ tm = (upd (upd (upd (upd (upd tm0 0 (.agg #[.slice Aa p0.fNo.length ca,.slice Ab p0.fC.length cb])) 1 (.slice Ac p1.length cc)) 2 (.pointer (some ⟨b1,0,none⟩))) 4 (.bool s.1)) 5 (.int .i64 s.2)) | (.inr s),e,L,tm => e = .exit 0 ∧ ∃ (tm0:Nat → Value),L = [cellsR b1 25 [.slice Aa p0.fNo.length ca,.slice Ab p0.fC.length cb]] ∧ tm = (upd (upd (upd (upd (upd tm0 0 (.agg #[.slice Aa p0.fNo.length ca,.slice Ab p0.fC.length cb])) 1 (.slice Ac p1.length cc)) 2 (.pointer (some ⟨b1,0,none⟩))) 4 (.bool s.1)) 5 (.int .i64 s.2))) hl10 ⟨_,rfl,(kp4 (kp rfl))⟩ ?_ ?_
 ·rintro s3 L tm st ⟨tm0_s3,rfl,rfl⟩ h
  unfold ref09_claims_l1 at h
  refine cS (cS (cR ?_))
  refine ox_y rfl (yMI rfl) (ox_y rfl (yMS rfl) (ox_y rfl (y_len (us:=[]) us_26 rfl) (ox_y rfl (y_lss rfl rfl) ?_)))
  refine oN (eT ?_)
  rcases iOs h with ⟨hp5,h⟩ | ⟨hp5,h⟩
  ·refine cx_true (vB hp5) ?_
   refine cx_skip (eT (cS (cx_block (cS ?_))))
   refine cx_draws 7 mixed (by kernel_rfl) (by kernel_rfl) ?_
   refine qx_y rfl (y_loadN 0 [.slice Aa p0.fNo.length ca,.slice Ab p0.fC.length cb] ag_25 rfl rfl rfl) (qx_y rfl (yMS rfl) (qx_y rfl (yMI rfl) ?_))
   obtain ⟨hg6,h⟩:=gOs h
   refine qx_y rfl (y_indexR sl_26 (by decide) hg6.1 hg6.2 (RdL.arg hr1_0) (encL_len cI_len rfl) rfl rfl) ?_
   refine qx_y rfl (y_loadR1 (A:=Ac) (j:=(Int.toNat s3.2 * 1)) (v:=.int .i64 (rdL p1 s3.2)) sc_3 (RdL.arg hr1_0) rfl (encL_get0 cI_len hg6.1 (lt_nat hg6.2 rfl) rfl)) ?_
   obtain ⟨y7,hy8,h⟩:=bOs h
   refine qx_y rfl (y_call [.agg #[.slice Aa p0.fNo.length ca,.slice Ab p0.fC.length cb],.int .i64 (rdL p1 s3.2)] go_105 rfl (fun W2 hW2 => ref09_Claim_ok p0 (rdL p1 s3.2) y7 hy8 W2 Aa p0.fNo.length ca rfl ((RdL.arg hr0_0) W2 hW2) Ab p0.fC.length cb ys0_1 rfl ((RdL.arg hr0_1) W2 hW2) (NestL.at (NestL.arg hN0_1) W2 hW2)) rfl) (qx_y rfl (y_lss rfl rfl) (qx_nil ?_))
   refine oN (eT ?_)
   rcases iOs h with ⟨hp9,h⟩ | ⟨hp9,h⟩
   ·refine cx_true (vB hp9) ?_
    refine cS (cR ?_)
    refine ox_y rfl (y_assign_bool rfl) ?_
    refine oN (eT (cx_ret (ex_block_ret (ex_then_ret ?_))))
    obtain rfl:=sI h
    exact ex_stop ⟨rfl,_,rfl,(kp4 (kp rfl))⟩
   ·refine cx_false (vB hp9) (cx_skip (ex_block ?_))
    refine eT (cR ?_)
    refine ox_y rfl (yMI rfl) (ox_y rfl (y_add rfl rfl) (ox_y rfl (yAI rfl) (oN ?_)))
    obtain rfl:=sI h
    exact ex_next ⟨_,rfl,(kp4 (kp rfl))⟩
  ·refine cx_false (vB hp5) (cx_exit (ex_then_exit ?_))
   obtain rfl:=sI h
   exact ex_stop ⟨rfl,_,rfl,(kp4 (kp rfl))⟩
 ·intro e L tm hJ
  rcases u4 with u11 | u12
  ·dsimp only at h hJ
   obtain ⟨rfl,tm0_u11,rfl,rfl⟩:=hJ
   refine ⟨(by intro hc; cases hc),?_⟩
   refine ex_block_ret (ex_then_ret ?_)
   obtain rfl:=sI h
   exact ex_res1 (.inl rfl) rfl (rVt (v:=.bool u11.1) rfl) (fun W2 hW2 => ⟨rfl,hW2.none⟩)
  ·dsimp only at h hJ
   obtain ⟨rfl,tm0_u12,rfl,rfl⟩:=hJ
   refine ⟨(by intro hc; cases hc),?_⟩
   refine ex_block_here ?_
   refine eT (cS (cR ?_))
   refine ox_y rfl (yMS rfl) ?_
   obtain ⟨y13,hy14,h⟩:=bOs h
   refine ox_y rfl (y_call [.slice Ac p1.length cc] go_137 rfl (fun W2 hW2 => ref09_rising_ok p1 y13 hy14 W2 Ac p1.length cc rfl ((RdL.arg hr1_0) W2 hW2)) rfl) (ox_y rfl (y_assign_bool rfl) ?_)
   refine oN (eT (cx_ret ?_))
   obtain rfl:=sI h
   exact ex_res1 (.inl rfl) rfl (rVt (v:=.bool y13) rfl) (fun W2 hW2 => ⟨rfl,hW2.none⟩)
theorem ref09_CheckCut_ok (p0:TL) (p1:(List Int)) (p2:Int) (p3:(List Int)) (res:Int) (h:ref09_CheckCut p0 p1 p2 p3 = some res) (W:World) (Aa:Option Addr) (n0_0 ca : Nat) (hn0_0:n0_0 = p0.fNo.length) (hr0_0:Rd W Aa n0_0 ca (encL TNode_cells p0.fNo)) (Ab:Option Addr) (n0_1 cb : Nat) (ys0_1:List (Hd × TC)) (hn0_1:n0_1 = p0.fC.length) (hr0_1:Rd W Ab n0_1 cb (encL TClaim_cells2 ys0_1)) (hN0_1:NestW W (fun z : TC => z.fO) THop_cells ys0_1 p0.fC) (Ac:Option Addr) (n1_0 cc : Nat) (hn1_0:n1_0 = p1.length) (hr1_0:Rd W Ac n1_0 cc (encL cI p1)) (A3_0:Option Addr) (n3_0 c3_0 : Nat) (hn3_0:n3_0 = p3.length) (hr3_0:Rd W A3_0 n3_0 c3_0 (encL cI p3)) :
  Calls Tryz.prog 31 [.agg #[.slice Aa n0_0 ca,.slice Ab n0_1 cb],.slice Ac n1_0 cc,.int .i64 p2,.slice A3_0 n3_0 c3_0].toArray W fun e W2 => e = .returned (.int .i64 res) ∧ Ext W W2 []:=by
 subst hn0_0
 subst hn0_1
 subst hn1_0
 subst hn3_0
 unfold ref09_CheckCut at h
 refine calls_enter (m:=33) Tryz.func31 rfl rfl (nB rfl) ?_
 refine cS (cR ?_)
 refine ox_box [.slice Aa p0.fNo.length ca,.slice Ab p0.fC.length cb] rfl rfl rfl (fun b1 => ?_)
 refine ox_y rfl (yAI rfl) ?_
 refine oN (eT (cS (cR ?_)))
 refine ox_y rfl (y_loadN 0 [.slice Aa p0.fNo.length ca,.slice Ab p0.fC.length cb] ag_25 rfl rfl rfl) (ox_y rfl (yMS rfl) (ox_y rfl (yMI rfl) ?_))
 obtain ⟨y2,hy3,h⟩:=bOs h
 refine ox_y rfl (y_call [.agg #[.slice Aa p0.fNo.length ca,.slice Ab p0.fC.length cb],.slice Ac p1.length cc,.int .i64 p2] go_38 rfl (fun W2 hW2 => ref09_To_ok p0 p1 p2 y2 hy3 W2 Aa p0.fNo.length ca rfl ((RdL.arg hr0_0) W2 hW2) Ab p0.fC.length cb ys0_1 rfl ((RdL.arg hr0_1) W2 hW2) (NestL.at (NestL.arg hN0_1) W2 hW2) Ac p1.length cc rfl ((RdL.arg hr1_0) W2 hW2)) rfl) (ox_y rfl (yAI rfl) ?_)
 refine oN (eT (cS (cS (cR ?_))))
 refine ox_y rfl (yMI rfl) (ox_y rfl (y_eql rfl rfl) (ox_y rfl (y_move_bool rfl) ?_))
 obtain ⟨b5,hb6,h⟩:=bOs h
 refine ox_join 5 (fun tm0 => (upd (upd (upd (upd (upd (upd (upd tm0 1 (.slice Ac p1.length cc)) 2 (.int .i64 p2)) 3 (.slice A3_0 p3.length c3_0)) 4 (.pointer (some ⟨b1,0,none⟩))) 8 (.int .i64 0)) 9 (.int .i64 y2)) 21 (.bool b5))) (fun tm0 => ?_) (fun key => ?_)
 ·refine oN (eT ?_)
  rcases iOs h with ⟨hp7,h⟩ | ⟨hp7,h⟩
  ·refine cx_true (vB hp7) (cR (ox_y rfl (yAI rfl) ?_))
   refine oN (eT (cS (cS (cR ?_))))
   refine ox_y rfl (yMI rfl) (ox_y rfl (y_eql rfl rfl) (ox_y rfl (y_move_bool rfl) ?_))
   obtain ⟨b9,hb10,h⟩:=bOs h
   refine ox_join 7 (fun tm0 => (upd (upd (upd tm0 8 (.int .i64 0)) 9 (.int .i64 1)) 31 (.bool b9))) (fun tm0 => ?_) (fun key => ?_)
   ·refine oN (eT ?_)
    rcases iOs h with ⟨hp11,h⟩ | ⟨hp11,h⟩
    ·refine cx_true (vB hp11) (cR (ox_y rfl (yAI rfl) ?_))
     refine oN (eT (cS (cR ?_)))
     refine ox_y rfl (yMI rfl) (ox_y rfl (yAI rfl) ?_)
     refine oN (eT (cx_ret ?_))
     obtain rfl:=sI h
     exact ex_res1 (.inl rfl) rfl (rVt (v:=.int .i64 8) rfl) (fun W2 hW2 => ⟨rfl,hW2.none⟩)
    ·refine cx_false (vB hp11) ?_
     refine cx_skip (eT (cS (cR ?_)))
     refine ox_y rfl (yMI rfl) (ox_y rfl (yAI rfl) ?_)
     refine oN (eT (cx_ret ?_))
     obtain rfl:=sI h
     exact ex_res1 (.inl rfl) rfl (rVt (v:=.int .i64 1) rfl) (fun W2 hW2 => ⟨rfl,hW2.none⟩)
   ·clear h; rcases iOs hb10 with ⟨hp8,h⟩ | ⟨hp8,h⟩
    ·refine ox_y (sT rfl rfl rfl rfl hp8) (y_loadN 0 [.slice Aa p0.fNo.length ca,.slice Ab p0.fC.length cb] ag_25 rfl rfl rfl) (ox_y (sT rfl rfl rfl rfl hp8) (yMS rfl) ?_)
     obtain ⟨y12,hy13,h⟩:=bOs h
     refine ox_call [.agg #[.slice Aa p0.fNo.length ca,.slice Ab p0.fC.length cb],.slice A3_0 p3.length c3_0] _ _ _ (sT rfl rfl rfl rfl hp8) go_79 rfl (fun W2 hW2 => ref09_without_ok p0 p3 y12 hy13 W2 Aa p0.fNo.length ca rfl ((RdL.arg hr0_0) W2 hW2) Ab p0.fC.length cb ys0_1 rfl ((RdL.arg hr0_1) W2 hW2) (NestL.at (NestL.arg hN0_1) W2 hW2) A3_0 p3.length c3_0 rfl ((RdL.arg hr3_0) W2 hW2) W (fun _ => True) (fun W3 hb => ⟨belowT hW2.below hb,trivial⟩) (PvL.of_nest hN0_1)) ?_
     rintro ⟨⟨A18,n20,c19⟩,ys23,F24⟩ ⟨hn21,hP22,hV25⟩
     replace hn21 : n20 = y12.fC.length:=hn21; subst hn21
     refine ox_y (sT rfl rfl rfl rfl hp8) (yMS rfl) (ox_y (sT rfl rfl rfl rfl hp8) (yMI rfl) ?_)
     obtain ⟨y26,hy27,h⟩:=bOs h
     refine ox_y (sT rfl rfl rfl rfl hp8) (y_call [.agg #[.slice Aa p0.fNo.length ca,.slice A18 y12.fC.length c19],.slice Ac p1.length cc,.int .i64 p2] go_43 rfl (fun W2 hW2 => ref09_Possible_ok (TL.mk p0.fNo y12.fC) p1 p2 y26 hy27 W2 Aa p0.fNo.length ca rfl ((RdL.arg hr0_0) W2 hW2) A18 y12.fC.length c19 ys23 rfl ((RdL.row 1 rfl) W2 hW2) (NestL.at (PvL.nestL hP22 hV25 (fun W2 hW2 => ⟨hW2.below,trivial,hW2.mem (i:=2) rfl⟩)) W2 hW2) Ac p1.length cc rfl ((RdL.arg hr1_0) W2 hW2)) rfl) (ox_y rfl (y_pick_tb (vB hp8) rfl) ?_)
     obtain rfl:=sI h
     refine ox_take 1 ?_
     exact key _ _ (kp (kp (kp rfl)))
    ·refine oSk (sF rfl rfl rfl rfl hp8) (oSk (sF rfl rfl rfl rfl hp8) (oSk (sF rfl rfl rfl rfl hp8) (oSk (sF rfl rfl rfl rfl hp8) (oSk (sF rfl rfl rfl rfl hp8) (oSk (sF rfl rfl rfl rfl hp8) (ox_y rfl (y_pick_fb (vB hp8) rfl) ?_))))))
     obtain rfl:=sI h
     exact key _ _ (kp (kp (kp rfl)))
  ·refine cx_false (vB hp7) ?_
   refine cx_skip (eT (cS (cS (cR ?_))))
   refine ox_y rfl (yMI rfl) (ox_y rfl (y_eql rfl rfl) (ox_y rfl (y_move_bool rfl) ?_))
   obtain ⟨b29,hb30,h⟩:=bOs h
   refine ox_join 7 (fun tm0 => (upd (upd (upd tm0 8 (.int .i64 0)) 9 (.int .i64 y2)) 31 (.bool b29))) (fun tm0 => ?_) (fun key => ?_)
   ·refine oN (eT ?_)
    rcases iOs h with ⟨hp31,h⟩ | ⟨hp31,h⟩
    ·refine cx_true (vB hp31) (cR (ox_y rfl (yAI rfl) ?_))
     refine oN (eT (cS (cR ?_)))
     refine ox_y rfl (yMI rfl) (ox_y rfl (yAI rfl) ?_)
     refine oN (eT (cx_ret ?_))
     obtain rfl:=sI h
     exact ex_res1 (.inl rfl) rfl (rVt (v:=.int .i64 8) rfl) (fun W2 hW2 => ⟨rfl,hW2.none⟩)
    ·refine cx_false (vB hp31) ?_
     refine cx_skip (eT (cS (cR ?_)))
     refine ox_y rfl (yMI rfl) (ox_y rfl (yAI rfl) ?_)
     refine oN (eT (cx_ret ?_))
     obtain rfl:=sI h
     exact ex_res1 (.inl rfl) rfl (rVt (v:=.int .i64 y2) rfl) (fun W2 hW2 => ⟨rfl,hW2.none⟩)
   ·clear h; rcases iOs hb30 with ⟨hp28,h⟩ | ⟨hp28,h⟩
    ·refine ox_y (sT rfl rfl rfl rfl hp28) (y_loadN 0 [.slice Aa p0.fNo.length ca,.slice Ab p0.fC.length cb] ag_25 rfl rfl rfl) (ox_y (sT rfl rfl rfl rfl hp28) (yMS rfl) ?_)
     obtain ⟨y32,hy33,h⟩:=bOs h
     refine ox_call [.agg #[.slice Aa p0.fNo.length ca,.slice Ab p0.fC.length cb],.slice A3_0 p3.length c3_0] _ _ _ (sT rfl rfl rfl rfl hp28) go_79 rfl (fun W2 hW2 => ref09_without_ok p0 p3 y32 hy33 W2 Aa p0.fNo.length ca rfl ((RdL.arg hr0_0) W2 hW2) Ab p0.fC.length cb ys0_1 rfl ((RdL.arg hr0_1) W2 hW2) (NestL.at (NestL.arg hN0_1) W2 hW2) A3_0 p3.length c3_0 rfl ((RdL.arg hr3_0) W2 hW2) W (fun _ => True) (fun W3 hb => ⟨belowT hW2.below hb,trivial⟩) (PvL.of_nest hN0_1)) ?_
     rintro ⟨⟨A38,n40,c39⟩,ys43,F44⟩ ⟨hn41,hP42,hV45⟩
     replace hn41 : n40 = y32.fC.length:=hn41; subst hn41
     refine ox_y (sT rfl rfl rfl rfl hp28) (yMS rfl) (ox_y (sT rfl rfl rfl rfl hp28) (yMI rfl) ?_)
     obtain ⟨y46,hy47,h⟩:=bOs h
     refine ox_y (sT rfl rfl rfl rfl hp28) (y_call [.agg #[.slice Aa p0.fNo.length ca,.slice A38 y32.fC.length c39],.slice Ac p1.length cc,.int .i64 p2] go_43 rfl (fun W2 hW2 => ref09_Possible_ok (TL.mk p0.fNo y32.fC) p1 p2 y46 hy47 W2 Aa p0.fNo.length ca rfl ((RdL.arg hr0_0) W2 hW2) A38 y32.fC.length c39 ys43 rfl ((RdL.row 1 rfl) W2 hW2) (NestL.at (PvL.nestL hP42 hV45 (fun W2 hW2 => ⟨hW2.below,trivial,hW2.mem (i:=2) rfl⟩)) W2 hW2) Ac p1.length cc rfl ((RdL.arg hr1_0) W2 hW2)) rfl) (ox_y rfl (y_pick_tb (vB hp28) rfl) ?_)
     obtain rfl:=sI h
     refine ox_take 1 ?_
     exact key _ _ (kp (kp (kp rfl)))
    ·refine oSk (sF rfl rfl rfl rfl hp28) (oSk (sF rfl rfl rfl rfl hp28) (oSk (sF rfl rfl rfl rfl hp28) (oSk (sF rfl rfl rfl rfl hp28) (oSk (sF rfl rfl rfl rfl hp28) (oSk (sF rfl rfl rfl rfl hp28) (ox_y rfl (y_pick_fb (vB hp28) rfl) ?_))))))
     obtain rfl:=sI h
     exact key _ _ (kp (kp (kp rfl)))
 ·clear h; rcases iOs hb6 with ⟨hp4,h⟩ | ⟨hp4,h⟩
  ·refine ox_y (sT rfl rfl rfl rfl hp4) (y_loadN 0 [.slice Aa p0.fNo.length ca,.slice Ab p0.fC.length cb] ag_25 rfl rfl rfl) (ox_y (sT rfl rfl rfl rfl hp4) (yMS rfl) ?_)
   obtain ⟨y48,hy49,h⟩:=bOs h
   refine ox_y (sT rfl rfl rfl rfl hp4) (y_call [.agg #[.slice Aa p0.fNo.length ca,.slice Ab p0.fC.length cb],.slice A3_0 p3.length c3_0] go_99 rfl (fun W2 hW2 => ref09_claims_ok p0 p3 y48 hy49 W2 Aa p0.fNo.length ca rfl ((RdL.arg hr0_0) W2 hW2) Ab p0.fC.length cb ys0_1 rfl ((RdL.arg hr0_1) W2 hW2) (NestL.at (NestL.arg hN0_1) W2 hW2) A3_0 p3.length c3_0 rfl ((RdL.arg hr3_0) W2 hW2)) rfl) (ox_y (sT rfl rfl rfl rfl hp4) (y_not rfl) (ox_y rfl (y_pick_tb (vB hp4) rfl) ?_))
   obtain rfl:=sI h
   exact key _ _ (kp4 (kp (kp (kp rfl))))
  ·refine oSk (sF rfl rfl rfl rfl hp4) (oSk (sF rfl rfl rfl rfl hp4) (oSk (sF rfl rfl rfl rfl hp4) (oSk (sF rfl rfl rfl rfl hp4) (ox_y rfl (y_pick_fb (vB hp4) rfl) ?_))))
   obtain rfl:=sI h
   exact key _ _ (kp4 (kp (kp (kp rfl))))
theorem calxlaw09_RecallCuts_ok (p0:TL) (p1:(List Int)) (p2:Int) (p3:(List Int)) (res:Bool) (h:calxlaw09_RecallCuts p0 p1 p2 p3 = some res) (W:World) (Aa:Option Addr) (n0_0 ca : Nat) (hn0_0:n0_0 = p0.fNo.length) (hr0_0:Rd W Aa n0_0 ca (encL TNode_cells p0.fNo)) (Ab:Option Addr) (n0_1 cb : Nat) (ys0_1:List (Hd × TC)) (hn0_1:n0_1 = p0.fC.length) (hr0_1:Rd W Ab n0_1 cb (encL TClaim_cells2 ys0_1)) (hN0_1:NestW W (fun z : TC => z.fO) THop_cells ys0_1 p0.fC) (Ac:Option Addr) (n1_0 cc : Nat) (hn1_0:n1_0 = p1.length) (hr1_0:Rd W Ac n1_0 cc (encL cI p1)) (A3_0:Option Addr) (n3_0 c3_0 : Nat) (hn3_0:n3_0 = p3.length) (hr3_0:Rd W A3_0 n3_0 c3_0 (encL cI p3)) :
  Calls Tryz.prog 6 [.agg #[.slice Aa n0_0 ca,.slice Ab n0_1 cb],.slice Ac n1_0 cc,.int .i64 p2,.slice A3_0 n3_0 c3_0].toArray W fun e W2 => e = .returned (.bool res) ∧ Ext W W2 []:=by
 subst hn0_0
 subst hn0_1
 subst hn1_0
 subst hn3_0
 unfold calxlaw09_RecallCuts at h
 refine calls_enter (m:=67) Tryz.func6 rfl rfl (nB rfl) ?_
 refine cS (cR ?_)
 refine ox_box [.slice Aa p0.fNo.length ca,.slice Ab p0.fC.length cb] rfl rfl rfl (fun b1 => ?_)
 refine ox_y rfl (y_assign_bool rfl) ?_
 refine oN (eT (cS (cR ?_)))
 obtain ⟨y2,hy3,h⟩:=bOs h
 refine ox_y rfl (y_call [] go_13 rfl (fun W2 hW2 => calxlaw09_head_ok  y2 hy3 W2 ) rfl) (ox_y rfl (y_assign_bool rfl) ?_)
 refine oN (eT (cS (cS (cR ?_))))
 refine ox_y rfl (y_loadN 0 [.slice Aa p0.fNo.length ca,.slice Ab p0.fC.length cb] ag_25 rfl rfl rfl) ?_
 obtain ⟨y4,hy5,h⟩:=bOs h
 refine ox_y rfl (y_call [.agg #[.slice Aa p0.fNo.length ca,.slice Ab p0.fC.length cb]] go_14 rfl (fun W2 hW2 => calxlaw09_few_ok p0 y4 hy5 W2 Aa p0.fNo.length ca rfl ((RdL.arg hr0_0) W2 hW2) Ab p0.fC.length cb ys0_1 rfl ((RdL.arg hr0_1) W2 hW2) (NestL.at (NestL.arg hN0_1) W2 hW2)) rfl) (ox_y rfl (y_not rfl) (ox_y rfl (y_move_bool rfl) ?_))
 refine ox_join 4 (fun tm0 => (upd (upd (upd (upd (upd (upd (upd tm0 1 (.slice Ac p1.length cc)) 2 (.int .i64 p2)) 3 (.slice A3_0 p3.length c3_0)) 4 (.pointer (some ⟨b1,0,none⟩))) 8 (.bool false)) 9 (.bool y2)) 22 (.bool ((!y4) || (decide (30 < (p1.length:Int))))))) (fun tm0 => ?_) (fun key => ?_)
 ·refine ox_y rfl (y_move_bool rfl) ?_
  refine ox_join 4 (fun tm0 => (upd (upd (upd (upd (upd (upd (upd tm0 1 (.slice Ac p1.length cc)) 2 (.int .i64 p2)) 3 (.slice A3_0 p3.length c3_0)) 4 (.pointer (some ⟨b1,0,none⟩))) 8 (.bool false)) 9 (.bool y2)) 27 (.bool (((!y4) || (decide (30 < (p1.length:Int)))) || (decide (100 < (p3.length:Int))))))) (fun tm0 => ?_) (fun key => ?_)
  ·refine oN (eT ?_)
   rcases iOs h with ⟨hp8,h⟩ | ⟨hp8,h⟩
   ·refine cx_true (vB hp8) ?_
    refine cS (cR ?_)
    refine ox_y rfl (y_move_bool rfl) (ox_y rfl (y_assign_bool rfl) ?_)
    refine oN (eT (cx_ret (ex_then_ret ?_)))
    obtain rfl:=sI h
    exact ex_res1 (.inl rfl) rfl (rVt (v:=.bool y2) rfl) (fun W2 hW2 => ⟨rfl,hW2.none⟩)
   ·refine cx_false (vB hp8) ?_
    refine cx_skip (eT (cS (cR ?_)))
    refine ox_y rfl (y_loadN 0 [.slice Aa p0.fNo.length ca,.slice Ab p0.fC.length cb] ag_25 rfl rfl rfl) (ox_y rfl (yMS rfl) (ox_y rfl (yMI rfl) ?_))
    obtain ⟨y9,hy10,h⟩:=bOs h
    refine ox_call [.agg #[.slice Aa p0.fNo.length ca,.slice Ab p0.fC.length cb],.slice Ac p1.length cc,.int .i64 p2] _ _ _ rfl go_28 rfl (fun W2 hW2 => recall_Cut_ok p0 p1 p2 y9 hy10 W2 Aa p0.fNo.length ca rfl ((RdL.arg hr0_0) W2 hW2) Ab p0.fC.length cb ys0_1 rfl ((RdL.arg hr0_1) W2 hW2) (NestL.at (NestL.arg hN0_1) W2 hW2) Ac p1.length cc rfl ((RdL.arg hr1_0) W2 hW2)) ?_
    rintro ⟨A11,n13,c12⟩ hn14
    replace hn14 : n13 = y9.1.length:=hn14; subst hn14
    refine ox_y rfl (y_move_tuple rfl) (ox_y rfl (y_extract (vs:=[.slice A11 y9.1.length c12,.int .i64 y9.2]) (v:=.slice A11 y9.1.length c12) rfl rfl) (ox_y rfl (y_extract (vs:=[.slice A11 y9.1.length c12,.int .i64 y9.2]) (v:=.int .i64 y9.2) rfl rfl) (ox_y rfl (yAS rfl) (ox_y rfl (yAI rfl) ?_))))
    refine oN (eT (cS (cR ?_)))
    refine ox_y rfl (y_loadN 0 [.slice Aa p0.fNo.length ca,.slice Ab p0.fC.length cb] ag_25 rfl rfl rfl) (ox_y rfl (yMS rfl) (ox_y rfl (yMI rfl) ?_))
    obtain ⟨y15,hy16,h⟩:=bOs h
    refine ox_call [.agg #[.slice Aa p0.fNo.length ca,.slice Ab p0.fC.length cb],.slice Ac p1.length cc,.int .i64 p2] _ _ _ rfl go_29 rfl (fun W2 hW2 => ref09_Cut_ok p0 p1 p2 y15 hy16 W2 Aa p0.fNo.length ca rfl ((RdL.arg hr0_0) W2 hW2) Ab p0.fC.length cb ys0_1 rfl ((RdL.arg hr0_1) W2 hW2) (NestL.at (NestL.arg hN0_1) W2 hW2) Ac p1.length cc rfl ((RdL.arg hr1_0) W2 hW2)) ?_
    rintro ⟨A17,n19,c18⟩ hn20
    replace hn20 : n19 = y15.fL.length:=hn20; subst hn20
    refine ox_alloc ze_45 rfl (fun b21 => ?_)
    refine ox_n rfl (y_storeN 3 [.slice A17 y15.fL.length c18,.int .i64 y15.fE] sz_45 rfl (nB rfl) rfl rfl rfl) ?_
    refine oN (eT (cS (cR ?_)))
    refine ox_y rfl (yMS rfl) (ox_y rfl (yFA fo_45_0 rfl) (ox_y rfl (y_load1 3 (v:=.slice A17 y15.fL.length c18) sc_26 rfl rfl rfl) ?_))
    obtain ⟨y22,hy23,h⟩:=bOs h
    refine ox_y rfl (y_call [.slice A11 y9.1.length c12,.slice A17 y15.fL.length c18] go_19 rfl (fun W2 hW2 => ref09_SameInts_ok y9.1 y15.fL y22 hy23 W2 A11 y9.1.length c12 rfl ((RdL.row 1 rfl) W2 hW2) A17 y15.fL.length c18 rfl ((RdL.row 2 rfl) W2 hW2)) rfl) (ox_y rfl (y_assign_bool rfl) ?_)
    refine oN (eT (cS ?_))
    refine cx_draws 24 mixed (by kernel_rfl) (by kernel_rfl) ?_
    refine qx_y rfl (y_move_bool rfl) (qx_y rfl (y_move_bool rfl) ?_)
    refine qx_join 2 (fun tm0 => (upd (upd (upd (upd (upd (upd (upd (upd tm0 1 (.slice Ac p1.length cc)) 2 (.int .i64 p2)) 3 (.slice A3_0 p3.length c3_0)) 4 (.pointer (some ⟨b1,0,none⟩))) 8 (.bool false)) 11 (.int .i64 y9.2)) 12 (.pointer (some ⟨b21,0,none⟩))) 47 (.bool (y2 && y22)))) (fun tm0 => ?_) (fun key => ?_)
    ·refine qx_y rfl (y_move_bool rfl) ?_
     refine qx_join 5 (fun tm0 => (upd (upd (upd (upd (upd (upd tm0 1 (.slice Ac p1.length cc)) 2 (.int .i64 p2)) 3 (.slice A3_0 p3.length c3_0)) 4 (.pointer (some ⟨b1,0,none⟩))) 8 (.bool false)) 53 (.bool ((y2 && y22) && (y9.2 == y15.fE))))) (fun tm0 => ?_) (fun key => ?_)
     ·refine qx_y rfl (y_move_bool rfl) ?_
      obtain ⟨b27,hb28,h⟩:=bOs h
      refine qx_join 12 (fun tm0 => (upd (upd tm0 8 (.bool false)) 66 (.bool b27))) (fun tm0 => ?_) (fun key => ?_)
      ·refine qx_y rfl (y_assign_bool rfl) (qx_nil ?_)
       refine oN (eT (cx_ret ?_))
       obtain rfl:=sI h
       exact ex_res1 (.inl rfl) rfl (rVt (v:=.bool b27) rfl) (fun W2 hW2 => ⟨rfl,hW2.none⟩)
      ·clear h; rcases iOs hb28 with ⟨hp26,h⟩ | ⟨hp26,h⟩
       ·refine qx_y (sT rfl rfl rfl rfl hp26) (y_loadN 0 [.slice Aa p0.fNo.length ca,.slice Ab p0.fC.length cb] ag_25 rfl rfl rfl) (qx_y (sT rfl rfl rfl rfl hp26) (yMS rfl) (qx_y (sT rfl rfl rfl rfl hp26) (yMI rfl) (qx_y (sT rfl rfl rfl rfl hp26) (yMS rfl) ?_)))
        obtain ⟨y29,hy30,h⟩:=bOs h
        refine qx_y (sT rfl rfl rfl rfl hp26) (y_call [.agg #[.slice Aa p0.fNo.length ca,.slice Ab p0.fC.length cb],.slice Ac p1.length cc,.int .i64 p2,.slice A3_0 p3.length c3_0] go_30 rfl (fun W2 hW2 => recall_CheckCut_ok p0 p1 p2 p3 y29 hy30 W2 Aa p0.fNo.length ca rfl ((RdL.arg hr0_0) W2 hW2) Ab p0.fC.length cb ys0_1 rfl ((RdL.arg hr0_1) W2 hW2) (NestL.at (NestL.arg hN0_1) W2 hW2) Ac p1.length cc rfl ((RdL.arg hr1_0) W2 hW2) A3_0 p3.length c3_0 rfl ((RdL.arg hr3_0) W2 hW2)) rfl) (qx_y (sT rfl rfl rfl rfl hp26) (y_loadN 0 [.slice Aa p0.fNo.length ca,.slice Ab p0.fC.length cb] ag_25 rfl rfl rfl) (qx_y (sT rfl rfl rfl rfl hp26) (yMS rfl) (qx_y (sT rfl rfl rfl rfl hp26) (yMI rfl) (qx_y (sT rfl rfl rfl rfl hp26) (yMS rfl) ?_))))
        obtain ⟨y31,hy32,h⟩:=bOs h
        refine qx_y (sT rfl rfl rfl rfl hp26) (y_call [.agg #[.slice Aa p0.fNo.length ca,.slice Ab p0.fC.length cb],.slice Ac p1.length cc,.int .i64 p2,.slice A3_0 p3.length c3_0] go_31 rfl (fun W2 hW2 => ref09_CheckCut_ok p0 p1 p2 p3 y31 hy32 W2 Aa p0.fNo.length ca rfl ((RdL.arg hr0_0) W2 hW2) Ab p0.fC.length cb ys0_1 rfl ((RdL.arg hr0_1) W2 hW2) (NestL.at (NestL.arg hN0_1) W2 hW2) Ac p1.length cc rfl ((RdL.arg hr1_0) W2 hW2) A3_0 p3.length c3_0 rfl ((RdL.arg hr3_0) W2 hW2)) rfl) (qx_y (sT rfl rfl rfl rfl hp26) (y_eql rfl rfl) (qx_y rfl (y_pick_tb (vB hp26) rfl) ?_))
        obtain rfl:=sI h
        exact key _ _ (kp (kp rfl))
       ·refine qx_skip (sF rfl rfl rfl rfl hp26) (qx_skip (sF rfl rfl rfl rfl hp26) (qx_skip (sF rfl rfl rfl rfl hp26) (qx_skip (sF rfl rfl rfl rfl hp26) (qx_skip (sF rfl rfl rfl rfl hp26) (qx_skip (sF rfl rfl rfl rfl hp26) (qx_skip (sF rfl rfl rfl rfl hp26) (qx_skip (sF rfl rfl rfl rfl hp26) (qx_skip (sF rfl rfl rfl rfl hp26) (qx_skip (sF rfl rfl rfl rfl hp26) (qx_skip (sF rfl rfl rfl rfl hp26) (qx_y rfl (y_pick_fb (vB hp26) rfl) ?_)))))))))))
        obtain rfl:=sI h
        exact key _ _ (kp (kp rfl))
     ·rcases bool_cases (y2 && y22) with hp25 | hp25
      ·refine qx_y (sT rfl rfl rfl rfl hp25) (yMI rfl) (qx_y (sT rfl rfl rfl rfl hp25) (yFA fo_45_1 rfl) (qx_y (sT rfl rfl rfl rfl hp25) (y_load1 3 (v:=.int .i64 y15.fE) sc_29 rfl rfl rfl) (qx_y (sT rfl rfl rfl rfl hp25) (y_eql rfl rfl) (qx_y rfl (y_pick_tb (vB hp25) rfl) ?_))))
       exact key _ _ (keep (keep (keep (keep (keep (keep rfl rfl) rfl) rfl) rfl) rfl) (vB (and_t hp25)))
      ·refine qx_skip (sF rfl rfl rfl rfl hp25) (qx_skip (sF rfl rfl rfl rfl hp25) (qx_skip (sF rfl rfl rfl rfl hp25) (qx_skip (sF rfl rfl rfl rfl hp25) (qx_y rfl (y_pick_fb (vB hp25) rfl) ?_))))
       exact key _ _ (keep (keep (keep (keep (keep (keep rfl rfl) rfl) rfl) rfl) rfl) (vB (and_f hp25)))
    ·rcases bool_cases y2 with hp24 | hp24
     ·refine qx_y (sT rfl rfl rfl rfl hp24) (y_move_bool rfl) (qx_y rfl (y_pick_tb (vB hp24) rfl) ?_)
      exact key _ _ (keep (keep (keep (keep (keep (keep (keep (keep rfl rfl) rfl) rfl) rfl) rfl) rfl) rfl) (vB (and_t hp24)))
     ·refine qx_skip (sF rfl rfl rfl rfl hp24) (qx_y rfl (y_pick_fb (vB hp24) rfl) ?_)
      exact key _ _ (keep (keep (keep (keep (keep (keep (keep (keep rfl rfl) rfl) rfl) rfl) rfl) rfl) rfl) (vB (and_f hp24)))
  ·rcases bool_cases ((!y4) || (decide (30 < (p1.length:Int)))) with hp7 | hp7
   ·refine oSk (sF rfl rfl rfl rfl hp7) (oSk (sF rfl rfl rfl rfl hp7) (oSk (sF rfl rfl rfl rfl hp7) (ox_y rfl (y_pick_tb (vB hp7) rfl) ?_)))
    exact key _ _ (keep (keep (keep (keep (keep (keep (keep rfl rfl) rfl) rfl) rfl) rfl) rfl) (vB (or_t hp7)))
   ·refine ox_y (sT rfl rfl rfl rfl hp7) (yMS rfl) (ox_y (sT rfl rfl rfl rfl hp7) (y_len (us:=[]) us_26 rfl) (ox_y (sT rfl rfl rfl rfl hp7) (y_gtr rfl rfl) (ox_y rfl (y_pick_fb (vB hp7) rfl) ?_)))
    exact key _ _ (keep (keep (keep (keep (keep (keep (keep rfl rfl) rfl) rfl) rfl) rfl) rfl) (vB (or_f hp7)))
 ·rcases bool_cases (!y4) with hp6 | hp6
  ·refine oSk (sF rfl rfl rfl rfl hp6) (oSk (sF rfl rfl rfl rfl hp6) (oSk (sF rfl rfl rfl rfl hp6) (ox_y rfl (y_pick_tb (vB hp6) rfl) ?_)))
   exact key _ _ (keep (keep (keep (keep (keep (keep (keep rfl rfl) rfl) rfl) rfl) rfl) rfl) (vB (or_t hp6)))
  ·refine ox_y (sT rfl rfl rfl rfl hp6) (yMS rfl) (ox_y (sT rfl rfl rfl rfl hp6) (y_len (us:=[]) us_26 rfl) (ox_y (sT rfl rfl rfl rfl hp6) (y_gtr rfl rfl) (ox_y rfl (y_pick_fb (vB hp6) rfl) ?_)))
   exact key _ _ (keep (keep (keep (keep (keep (keep (keep rfl rfl) rfl) rfl) rfl) rfl) rfl) (vB (or_f hp6)))
end Go.Proofs.YtbblpokfbmekfaaGreat
