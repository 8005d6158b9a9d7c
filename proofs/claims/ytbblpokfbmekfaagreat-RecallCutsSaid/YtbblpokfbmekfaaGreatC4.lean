import Derived.Test.YtbblpokfbmekfaaGreatF
import Derived.Test.YtbblpokfbmekfaaGreatGj
import Derived.Test.YtbblpokfbmekfaaGreatC0
import Derived.Test.YtbblpokfbmekfaaGreatC1
import Derived.Test.YtbblpokfbmekfaaGreatC2
import Derived.Test.YtbblpokfbmekfaaGreatC3
set_option maxHeartbeats 4000000
set_option maxRecDepth 100000
set_option linter.unusedVariables false
namespace Go.Proofs.YtbblpokfbmekfaaGreat
open Go.RowKit (Below)
attribute [local irreducible] OX QX CX EX OpY Calls CallsIn
theorem recall_Cut_ok (p0:TL) (p1:(List Int)) (p2:Int) (res:((List Int) × Int)) (h:recall_Cut p0 p1 p2 = some res) (W:World) (Aa:Option Addr) (n0_0 ca : Nat) (hn0_0:n0_0 = p0.fNo.length) (hr0_0:Rd W Aa n0_0 ca (encL TNode_cells p0.fNo)) (Ab:Option Addr) (n0_1 cb : Nat) (ys0_1:List (Hd × TC)) (hn0_1:n0_1 = p0.fC.length) (hr0_1:Rd W Ab n0_1 cb (encL TClaim_cells2 ys0_1)) (hN0_1:NestW W (fun z : TC => z.fO) THop_cells ys0_1 p0.fC) (Ac:Option Addr) (n1_0 cc : Nat) (hn1_0:n1_0 = p1.length) (hr1_0:Rd W Ac n1_0 cc (encL cI p1)) :
  Calls Tryz.prog 28 [.agg #[.slice Aa n0_0 ca,.slice Ab n0_1 cb],.slice Ac n1_0 cc,.int .i64 p2].toArray W fun e W2 => ∃ x : Option Addr × Nat × Nat,x.2.1 = res.1.length ∧ e = .returned (.tuple #[.slice x.1 x.2.1 x.2.2,.int .i64 res.2]) ∧ Ext W W2 [rowR x.1 x.2.2 3 1 x.2.1 (encL cI res.1)]:=by
 subst hn0_0
 subst hn0_1
 subst hn1_0
 unfold recall_Cut at h
 refine calls_enter (m:=56) Tryz.func28 rfl rfl (nB rfl) ?_
 refine cS (cR ?_)
 refine ox_box [.slice Aa p0.fNo.length ca,.slice Ab p0.fC.length cb] rfl rfl rfl (fun b1 => ?_)
 refine ox_y rfl (yAS rfl) (ox_y rfl (yAI rfl) ?_)
 refine oN (eT (cS (cS (cR ?_))))
 refine ox_y rfl (y_loadN 0 [.slice Aa p0.fNo.length ca,.slice Ab p0.fC.length cb] ag_25 rfl rfl rfl) (ox_y rfl (yMS rfl) (ox_y rfl (yMI rfl) ?_))
 obtain ⟨y2,hy3,h⟩:=bOs h
 refine ox_y rfl (y_call [.agg #[.slice Aa p0.fNo.length ca,.slice Ab p0.fC.length cb],.slice Ac p1.length cc,.int .i64 p2] go_74 rfl (fun W2 hW2 => recall_askedTo_ok p0 p1 p2 y2 hy3 W2 Aa p0.fNo.length ca rfl ((RdL.arg hr0_0) W2 hW2) Ab p0.fC.length cb ys0_1 rfl ((RdL.arg hr0_1) W2 hW2) (NestL.at (NestL.arg hN0_1) W2 hW2) Ac p1.length cc rfl ((RdL.arg hr1_0) W2 hW2)) rfl) (ox_y rfl (yAI rfl) ?_)
 refine oN (eT (cS (cR ?_)))
 refine ox_y rfl (yMI rfl) (ox_y rfl (y_neq rfl rfl) ?_)
 refine oN (eT ?_)
 rcases iOs h with ⟨hp4,h⟩ | ⟨hp4,h⟩
 ·refine cx_true (vB hp4) ?_
  refine cS (cR ?_)
  refine ox_y rfl (yMI rfl) (ox_y rfl (yAS rfl) (ox_y rfl (yAI rfl) ?_))
  refine oN (eT (cx_ret (ex_then_ret ?_)))
  obtain rfl:=sI h
  exact ex_res2 (.inl rfl) rfl (rVt (v:=.slice none 0 0) rfl) (rVt (v:=.int .i64 y2) rfl) (fun W2 hW2 => ⟨(none,0,0),rfl,rfl,((hW2.nilrow 3 1).pick 1 rfl)⟩)
 ·refine cx_false (vB hp4) ?_
  refine cx_skip (eT (cS (cS (cR ?_))))
  refine ox_y rfl (yMS rfl) (ox_y rfl (yMI rfl) ?_)
  obtain ⟨y5,hy6,h⟩:=bOs h
  refine ox_y rfl (y_call [.slice Ac p1.length cc,.int .i64 p2] go_80 rfl (fun W2 hW2 => slices_Contains_int_int_ok p1 p2 y5 hy6 W2 Ac p1.length cc rfl ((RdL.arg hr1_0) W2 hW2)) rfl) ?_
  refine oN (eT ?_)
  rcases iOs h with ⟨hp7,h⟩ | ⟨hp7,h⟩
  ·refine cx_true (vB hp7) ?_
   refine cS (cR ?_)
   refine ox_y rfl (yAS rfl) (ox_y rfl (yAI rfl) ?_)
   refine oN (eT (cx_ret (ex_then_ret ?_)))
   obtain rfl:=sI h
   exact ex_res2 (.inl rfl) rfl (rVt (v:=.slice none 0 0) rfl) (rVt (v:=.int .i64 5) rfl) (fun W2 hW2 => ⟨(none,0,0),rfl,rfl,((hW2.nilrow 3 1).pick 1 rfl)⟩)
  ·refine cx_false (vB hp7) ?_
   refine cx_skip (eT (cS (cR ?_)))
   refine ox_makeMapV 3 kI rngB kB false rfl (fun b8 => ?_)
   refine ox_y rfl (y_assign_map rfl) ?_
   refine oN (eT (cS (cS (cR ?_))))
   refine ox_y rfl (yFA fo_25_1 rfl) (ox_y rfl (y_load1 0 (v:=.slice Ab p0.fC.length cb) sc_23 rfl rfl rfl) (ox_y rfl (y_len (us:=[]) us_23 rfl) (ox_y rfl (yMI rfl) ?_)))
   refine oN (eT (cx_block ?_))
   obtain ⟨u12,hl17,h⟩:=bOs h
   refine cx_loop (fun (s:(Int × (List (Int × Bool)))) L tm => ∃ (tm0:Nat → Value),L = [cellsR b1 25 [.slice Aa p0.fNo.length ca,.slice Ab p0.fC.length cb],mapV Tryz.prog 3 kI rngB kB false b8 s.2] ∧ tm = (upd (upd (upd (upd (upd (upd (upd (upd (upd (upd (upd (upd (upd tm0 0 (.agg #[.slice Aa p0.fNo.length ca,.slice Ab p0.fC.length cb])) 1 (.slice Ac p1.length cc)) 2 (.int .i64 p2)) 3 (.pointer (some ⟨b1,0,none⟩))) 6 (.slice none 0 0)) 7 (.int .i64 0)) 8 (.int .i64 y2)) 19 (.bool (y2 != 0))) 23 (.bool y5)) 9 (.map (some b8))) 26 (.slice Ab p0.fC.length cb)) 27 (.int .i64 (p0.fC.length:Int))) 28 (.int .i64 s.1))) (fun s e L tm => e = .exit 0 ∧ ∃ (tm0:Nat → Value),L = [cellsR b1 25 [.slice Aa p0.fNo.length ca,.slice Ab p0.fC.length cb],mapV Tryz.prog 3 kI rngB kB false b8 s.2] ∧ tm = (upd (upd (upd (upd (upd (upd (upd (upd (upd (upd (upd (upd (upd tm0 0 (.agg #[.slice Aa p0.fNo.length ca,.slice Ab p0.fC.length cb])) 1 (.slice Ac p1.length cc)) 2 (.int .i64 p2)) 3 (.pointer (some ⟨b1,0,none⟩))) 6 (.slice none 0 0)) 7 (.int .i64 0)) 8 (.int .i64 y2)) 19 (.bool (y2 != 0))) 23 (.bool y5)) 9 (.map (some b8))) 26 (.slice Ab p0.fC.length cb)) 27 (.int .i64 (p0.fC.length:Int))) 28 (.int .i64 s.1))) hl17 ⟨_,rfl,(kp4 (kp4 (kp4 (kp rfl))))⟩ ?_ ?_
   ·rintro s11 L tm st ⟨tm0_s11,rfl,rfl⟩ h
    unfold recall_Cut_l1 at h
    refine cS (cR ?_)
    refine ox_y rfl (y_lss rfl rfl) ?_
    refine oN (eT (cS ?_))
    rcases iOs h with ⟨hp13,h⟩ | ⟨hp13,h⟩
    ·refine cx_true (vB hp13) ?_
     refine cx_skip (eT (cS (cx_block (cS (cR ?_)))))
     obtain ⟨hg14,h⟩:=gOs h
     refine ox_y rfl (y_indexR sl_23 (by decide) hg14.1 hg14.2 (RdL.arg hr0_1) (encL_len TClaim_cells2_len (NestP.hn hN0_1.p rfl)) rfl rfl) ?_
     refine ox_y rfl (y_loadRN (A:=Ab) (j:=(Int.toNat s11.1 * 2)) [.int .i64 ((rdL p0.fC s11.1).fID),.slice ((rdL ys0_1 s11.1).1.1) ((rdL p0.fC s11.1).fO.length) ((rdL ys0_1 s11.1).1.2.2)] ag_90 (Nat.succ_pos _) (RdL.arg hr0_1) rfl (gets_eq (TClaim_cells2_eq (NestP.snd hN0_1.p s11.1) (NestP.len hN0_1.p hg14.1 (lt_nat hg14.2 rfl))).symm (encL_gets TClaim_cells2_len hg14.1 (lt_nat hg14.2 (NestP.hn hN0_1.p rfl))))) ?_
     refine ox_alloc ze_90 rfl (fun b15 => ?_)
     refine ox_n rfl (y_storeN 2 [.int .i64 ((rdL p0.fC s11.1).fID),.slice ((rdL ys0_1 s11.1).1.1) ((rdL p0.fC s11.1).fO.length) ((rdL ys0_1 s11.1).1.2.2)] sz_90 rfl (nB rfl) rfl rfl rfl) ?_
     refine oN (eT (cR ?_))
     refine ox_y rfl (y_move_map rfl) (ox_y rfl (yFA fo_90_0 rfl) (ox_y rfl (y_load1 2 (v:=.int .i64 ((rdL p0.fC s11.1).fID)) sc_3 rfl rfl rfl) ?_))
     obtain ⟨hg16,h⟩:=gOs h
     refine ox_n rfl (y_updateV 1 (k:=(rdL p0.fC s11.1).fID) (v:=true) rfl ke_3 um_94 rfl rfl rfl hg16) (oN (ex_block ?_))
     refine eT (cR ?_)
     refine ox_y rfl (y_add rfl rfl) (ox_y rfl (yMI rfl) (oN (ex_take 2 ?_)))
     obtain rfl:=sI h
     exact ex_next ⟨_,rfl,(kp4 (kp4 (kp4 (kp rfl))))⟩
    ·refine cx_false (vB hp13) (cx_exit (ex_then_exit ?_))
     obtain rfl:=sI h
     exact ex_stop ⟨rfl,_,rfl,(kp4 (kp4 (kp4 (kp rfl))))⟩
   ·intro e L tm hJ
    obtain ⟨rfl,tm0_u12,rfl,rfl⟩:=hJ
    refine ⟨(by intro hc; cases hc),?_⟩
    refine ex_block_here ?_
    refine eT (cS (cS (cR ?_)))
    refine ox_y rfl (y_move_map rfl) ?_
    obtain ⟨y18,hy19,h⟩:=bOs h
    refine ox_call [.map (some b8)] _ _ _ rfl go_96 rfl (fun W2 hW2 => recall_listed_ok u12.2 y18 hy19 W2 b8 ((MpL.own 1 rfl) W2 hW2)) ?_
    rintro ⟨A20,n22,c21⟩ hn23
    replace hn23 : n22 = y18.length:=hn23; subst hn23
    refine ox_y rfl (y_len (us:=[]) us_26 rfl) (ox_y rfl (yMI rfl) ?_)
    refine oN (eT (cx_block ?_))
    obtain ⟨u27,hl35,h⟩:=bOs h
    refine cx_loop (fun (s:(Int × (List (Int × Bool)))) L tm => ∃ (tm0:Nat → Value),L = [cellsR b1 25 [.slice Aa p0.fNo.length ca,.slice Ab p0.fC.length cb],mapV Tryz.prog 3 kI rngB kB false b8 s.2,rowR A20 c21 3 1 y18.length (encL cI y18)] ∧ tm = (upd (upd (upd (upd (upd (upd (upd (upd (upd (upd (upd (upd (upd (upd (upd (upd tm0 0 (.agg #[.slice Aa p0.fNo.length ca,.slice Ab p0.fC.length cb])) 1 (.slice Ac p1.length cc)) 2 (.int .i64 p2)) 3 (.pointer (some ⟨b1,0,none⟩))) 6 (.slice none 0 0)) 7 (.int .i64 0)) 8 (.int .i64 y2)) 19 (.bool (y2 != 0))) 23 (.bool y5)) 9 (.map (some b8))) 26 (.slice Ab p0.fC.length cb)) 27 (.int .i64 (p0.fC.length:Int))) 28 (.int .i64 u12.1)) 37 (.slice A20 y18.length c21)) 38 (.int .i64 (y18.length:Int))) 39 (.int .i64 s.1))) (fun s e L tm => e = .exit 2 ∧ ∃ (tm0:Nat → Value),L = [cellsR b1 25 [.slice Aa p0.fNo.length ca,.slice Ab p0.fC.length cb],mapV Tryz.prog 3 kI rngB kB false b8 s.2,rowR A20 c21 3 1 y18.length (encL cI y18)] ∧ tm = (upd (upd (upd (upd (upd (upd (upd (upd (upd (upd (upd (upd (upd (upd (upd (upd tm0 0 (.agg #[.slice Aa p0.fNo.length ca,.slice Ab p0.fC.length cb])) 1 (.slice Ac p1.length cc)) 2 (.int .i64 p2)) 3 (.pointer (some ⟨b1,0,none⟩))) 6 (.slice none 0 0)) 7 (.int .i64 0)) 8 (.int .i64 y2)) 19 (.bool (y2 != 0))) 23 (.bool y5)) 9 (.map (some b8))) 26 (.slice Ab p0.fC.length cb)) 27 (.int .i64 (p0.fC.length:Int))) 28 (.int .i64 u12.1)) 37 (.slice A20 y18.length c21)) 38 (.int .i64 (y18.length:Int))) 39 (.int .i64 s.1))) hl35 ⟨_,rfl,(kp4 (kp4 (kp4 (kp4 rfl))))⟩ ?_ ?_
    ·rintro s26 L tm st ⟨tm0_s26,rfl,rfl⟩ h
     unfold recall_Cut_l2 at h
     refine cS (cR ?_)
     refine ox_y rfl (y_lss rfl rfl) ?_
     refine oN (eT (cS ?_))
     rcases iOs h with ⟨hp28,h⟩ | ⟨hp28,h⟩
     ·refine cx_true (vB hp28) ?_
      refine cx_skip (eT (cS (cx_block (cS (cR ?_)))))
      obtain ⟨hg29,h⟩:=gOs h
      refine ox_y rfl (y_indexR sl_26 (by decide) hg29.1 hg29.2 (RdL.row 2 rfl) (encL_len cI_len rfl) rfl rfl) ?_
      refine ox_y rfl (y_loadR1 (A:=A20) (j:=(Int.toNat s26.1 * 1)) (v:=.int .i64 (rdL y18 s26.1)) sc_3 (RdL.row 2 rfl) rfl (encL_get0 cI_len hg29.1 (lt_nat hg29.2 rfl) rfl)) (ox_y rfl (yAI rfl) ?_)
      refine oN (eT (cS (cR ?_)))
      refine ox_y rfl (y_move_map rfl) (ox_y rfl (yMI rfl) ?_)
      obtain ⟨hg30,h⟩:=gOs h
      refine ox_n rfl (y_updateV 1 (k:=(rdL y18 s26.1)) (v:=false) rfl ke_3 um_94 rfl rfl rfl hg30) ?_
      refine oN (eT (cS (cR ?_)))
      refine ox_y rfl (y_loadN 0 [.slice Aa p0.fNo.length ca,.slice Ab p0.fC.length cb] ag_25 rfl rfl rfl) (ox_y rfl (yMS rfl) (ox_y rfl (yMI rfl) (ox_y rfl (y_move_map rfl) ?_)))
      obtain ⟨y31,hy32,h⟩:=bOs h
      refine ox_y rfl (y_call [.agg #[.slice Aa p0.fNo.length ca,.slice Ab p0.fC.length cb],.slice Ac p1.length cc,.int .i64 p2,.map (some b8)] go_97 rfl (fun W2 hW2 => recall_isCut_ok p0 p1 p2 (((rdL y18 s26.1),false) :: s26.2) y31 hy32 W2 Aa p0.fNo.length ca rfl ((RdL.arg hr0_0) W2 hW2) Ab p0.fC.length cb ys0_1 rfl ((RdL.arg hr0_1) W2 hW2) (NestL.at (NestL.arg hN0_1) W2 hW2) Ac p1.length cc rfl ((RdL.arg hr1_0) W2 hW2) b8 ((MpL.own 1 rfl) W2 hW2)) rfl) (ox_y rfl (y_not rfl) ?_)
      refine oN (eT ?_)
      rcases iOs h with ⟨hp33,h⟩ | ⟨hp33,h⟩
      ·refine cx_true (vB hp33) (cR (ox_y rfl (y_move_map rfl) (ox_y rfl (yMI rfl) ?_)))
       obtain ⟨hg34,h⟩:=gOs h
       refine ox_n rfl (y_updateV 1 (k:=(rdL y18 s26.1)) (v:=true) rfl ke_3 um_94 rfl rfl rfl hg34) (oN (ex_block ?_))
       refine eT (cR ?_)
       refine ox_y rfl (y_add rfl rfl) (ox_y rfl (yMI rfl) (oN ?_))
       obtain rfl:=sI h
       exact ex_next ⟨_,rfl,(kp4 (kp4 (kp4 (kp4 rfl))))⟩
      ·refine cx_false (vB hp33) (cx_skip (ex_block ?_))
       refine eT (cR ?_)
       refine ox_y rfl (y_add rfl rfl) (ox_y rfl (yMI rfl) (oN ?_))
       obtain rfl:=sI h
       exact ex_next ⟨_,rfl,(kp4 (kp4 (kp4 (kp4 rfl))))⟩
     ·refine cx_false (vB hp28) (cx_exit (ex_then_exit ?_))
      obtain rfl:=sI h
      exact ex_stop ⟨rfl,_,rfl,(kp4 (kp4 (kp4 (kp4 rfl))))⟩
    ·intro e L tm hJ
     obtain ⟨rfl,tm0_u27,rfl,rfl⟩:=hJ
     refine ⟨(by intro hc; cases hc),?_⟩
     refine ex_block_here ?_
     refine eT (cS (cR ?_))
     refine ox_y rfl (y_move_map rfl) ?_
     obtain ⟨y36,hy37,h⟩:=bOs h
     refine ox_call [.map (some b8)] _ _ _ rfl go_96 rfl (fun W2 hW2 => recall_listed_ok u27.2 y36 hy37 W2 b8 ((MpL.own 1 rfl) W2 hW2)) ?_
     rintro ⟨A38,n40,c39⟩ hn41
     replace hn41 : n40 = y36.length:=hn41; subst hn41
     refine ox_y rfl (yAS rfl) (ox_y rfl (yAI rfl) ?_)
     refine oN (eT (cx_ret ?_))
     obtain rfl:=sI h
     exact ex_res2 (.inl rfl) rfl (rVt (v:=.slice A38 y36.length c39) rfl) (rVt (v:=.int .i64 0) rfl) (fun W2 hW2 => ⟨(A38,y36.length,c39),rfl,rfl,(hW2.pick 3 rfl)⟩)
theorem recall_Surely_ok (p0:TL) (p1:(List Int)) (res:((List Int) × Int)) (h:recall_Surely p0 p1 = some res) (W:World) (Aa:Option Addr) (n0_0 ca : Nat) (hn0_0:n0_0 = p0.fNo.length) (hr0_0:Rd W Aa n0_0 ca (encL TNode_cells p0.fNo)) (Ab:Option Addr) (n0_1 cb : Nat) (ys0_1:List (Hd × TC)) (hn0_1:n0_1 = p0.fC.length) (hr0_1:Rd W Ab n0_1 cb (encL TClaim_cells2 ys0_1)) (hN0_1:NestW W (fun z : TC => z.fO) THop_cells ys0_1 p0.fC) (Ac:Option Addr) (n1_0 cc : Nat) (hn1_0:n1_0 = p1.length) (hr1_0:Rd W Ac n1_0 cc (encL cI p1)) :
  Calls Tryz.prog 34 [.agg #[.slice Aa n0_0 ca,.slice Ab n0_1 cb],.slice Ac n1_0 cc].toArray W fun e W2 => ∃ x : Option Addr × Nat × Nat,x.2.1 = res.1.length ∧ e = .returned (.tuple #[.slice x.1 x.2.1 x.2.2,.int .i64 res.2]) ∧ Ext W W2 [rowR x.1 x.2.2 3 1 x.2.1 (encL cI res.1)]:=by
 subst hn0_0
 subst hn0_1
 subst hn1_0
 unfold recall_Surely at h
 refine calls_enter (m:=17) Tryz.func34 rfl rfl (nB rfl) ?_
 refine cS (cR ?_)
 refine ox_box [.slice Aa p0.fNo.length ca,.slice Ab p0.fC.length cb] rfl rfl rfl (fun b1 => ?_)
 refine ox_y rfl (yAS rfl) (ox_y rfl (yAI rfl) ?_)
 refine oN (eT (cS (cS (cR ?_))))
 refine ox_y rfl (y_loadN 0 [.slice Aa p0.fNo.length ca,.slice Ab p0.fC.length cb] ag_25 rfl rfl rfl) (ox_y rfl (yMS rfl) ?_)
 obtain ⟨y2,hy3,h⟩:=bOs h
 refine ox_y rfl (y_call [.agg #[.slice Aa p0.fNo.length ca,.slice Ab p0.fC.length cb],.slice Ac p1.length cc] go_70 rfl (fun W2 hW2 => recall_asked_ok p0 p1 y2 hy3 W2 Aa p0.fNo.length ca rfl ((RdL.arg hr0_0) W2 hW2) Ab p0.fC.length cb ys0_1 rfl ((RdL.arg hr0_1) W2 hW2) (NestL.at (NestL.arg hN0_1) W2 hW2) Ac p1.length cc rfl ((RdL.arg hr1_0) W2 hW2)) rfl) (ox_y rfl (yAI rfl) ?_)
 refine oN (eT (cS (cR ?_)))
 refine ox_y rfl (yMI rfl) (ox_y rfl (y_neq rfl rfl) ?_)
 refine oN (eT ?_)
 rcases iOs h with ⟨hp4,h⟩ | ⟨hp4,h⟩
 ·refine cx_true (vB hp4) ?_
  refine cS (cR ?_)
  refine ox_y rfl (yMI rfl) (ox_y rfl (yAS rfl) (ox_y rfl (yAI rfl) ?_))
  refine oN (eT (cx_ret (ex_then_ret ?_)))
  obtain rfl:=sI h
  exact ex_res2 (.inl rfl) rfl (rVt (v:=.slice none 0 0) rfl) (rVt (v:=.int .i64 y2) rfl) (fun W2 hW2 => ⟨(none,0,0),rfl,rfl,((hW2.nilrow 3 1).pick 1 rfl)⟩)
 ·refine cx_false (vB hp4) ?_
  refine cx_skip (eT (cS (cR ?_)))
  refine ox_y rfl (y_loadN 0 [.slice Aa p0.fNo.length ca,.slice Ab p0.fC.length cb] ag_25 rfl rfl rfl) (ox_y rfl (yMS rfl) ?_)
  obtain ⟨y5,hy6,h⟩:=bOs h
  refine ox_call1 [.agg #[.slice Aa p0.fNo.length ca,.slice Ab p0.fC.length cb],.slice Ac p1.length cc] _ _ rfl go_64 rfl (fun W2 hW2 => recall_sure_ok p0 p1 y5 hy6 W2 Aa p0.fNo.length ca rfl ((RdL.arg hr0_0) W2 hW2) Ab p0.fC.length cb ys0_1 rfl ((RdL.arg hr0_1) W2 hW2) (NestL.at (NestL.arg hN0_1) W2 hW2) Ac p1.length cc rfl ((RdL.arg hr1_0) W2 hW2)) ?_
  rintro b7
  obtain ⟨y8,hy9,h⟩:=bOs h
  refine ox_call [.map (some b7)] _ _ _ rfl go_96 rfl (fun W2 hW2 => recall_listed_ok y5 y8 hy9 W2 b7 ((MpL.own 1 rfl) W2 hW2)) ?_
  rintro ⟨A10,n12,c11⟩ hn13
  replace hn13 : n12 = y8.length:=hn13; subst hn13
  refine ox_y rfl (yAS rfl) (ox_y rfl (yAI rfl) ?_)
  refine oN (eT (cx_ret ?_))
  obtain rfl:=sI h
  exact ex_res2 (.inl rfl) rfl (rVt (v:=.slice A10 y8.length c11) rfl) (rVt (v:=.int .i64 0) rfl) (fun W2 hW2 => ⟨(A10,y8.length,c11),rfl,rfl,(hW2.pick 2 rfl)⟩)
theorem recall_Possibly_ok (p0:TL) (p1:(List Int)) (res:((List Int) × Int)) (h:recall_Possibly p0 p1 = some res) (W:World) (Aa:Option Addr) (n0_0 ca : Nat) (hn0_0:n0_0 = p0.fNo.length) (hr0_0:Rd W Aa n0_0 ca (encL TNode_cells p0.fNo)) (Ab:Option Addr) (n0_1 cb : Nat) (ys0_1:List (Hd × TC)) (hn0_1:n0_1 = p0.fC.length) (hr0_1:Rd W Ab n0_1 cb (encL TClaim_cells2 ys0_1)) (hN0_1:NestW W (fun z : TC => z.fO) THop_cells ys0_1 p0.fC) (Ac:Option Addr) (n1_0 cc : Nat) (hn1_0:n1_0 = p1.length) (hr1_0:Rd W Ac n1_0 cc (encL cI p1)) :
  Calls Tryz.prog 36 [.agg #[.slice Aa n0_0 ca,.slice Ab n0_1 cb],.slice Ac n1_0 cc].toArray W fun e W2 => ∃ x : Option Addr × Nat × Nat,x.2.1 = res.1.length ∧ e = .returned (.tuple #[.slice x.1 x.2.1 x.2.2,.int .i64 res.2]) ∧ Ext W W2 [rowR x.1 x.2.2 3 1 x.2.1 (encL cI res.1)]:=by
 subst hn0_0
 subst hn0_1
 subst hn1_0
 unfold recall_Possibly at h
 refine calls_enter (m:=17) Tryz.func36 rfl rfl (nB rfl) ?_
 refine cS (cR ?_)
 refine ox_box [.slice Aa p0.fNo.length ca,.slice Ab p0.fC.length cb] rfl rfl rfl (fun b1 => ?_)
 refine ox_y rfl (yAS rfl) (ox_y rfl (yAI rfl) ?_)
 refine oN (eT (cS (cS (cR ?_))))
 refine ox_y rfl (y_loadN 0 [.slice Aa p0.fNo.length ca,.slice Ab p0.fC.length cb] ag_25 rfl rfl rfl) (ox_y rfl (yMS rfl) ?_)
 obtain ⟨y2,hy3,h⟩:=bOs h
 refine ox_y rfl (y_call [.agg #[.slice Aa p0.fNo.length ca,.slice Ab p0.fC.length cb],.slice Ac p1.length cc] go_70 rfl (fun W2 hW2 => recall_asked_ok p0 p1 y2 hy3 W2 Aa p0.fNo.length ca rfl ((RdL.arg hr0_0) W2 hW2) Ab p0.fC.length cb ys0_1 rfl ((RdL.arg hr0_1) W2 hW2) (NestL.at (NestL.arg hN0_1) W2 hW2) Ac p1.length cc rfl ((RdL.arg hr1_0) W2 hW2)) rfl) (ox_y rfl (yAI rfl) ?_)
 refine oN (eT (cS (cR ?_)))
 refine ox_y rfl (yMI rfl) (ox_y rfl (y_neq rfl rfl) ?_)
 refine oN (eT ?_)
 rcases iOs h with ⟨hp4,h⟩ | ⟨hp4,h⟩
 ·refine cx_true (vB hp4) ?_
  refine cS (cR ?_)
  refine ox_y rfl (yMI rfl) (ox_y rfl (yAS rfl) (ox_y rfl (yAI rfl) ?_))
  refine oN (eT (cx_ret (ex_then_ret ?_)))
  obtain rfl:=sI h
  exact ex_res2 (.inl rfl) rfl (rVt (v:=.slice none 0 0) rfl) (rVt (v:=.int .i64 y2) rfl) (fun W2 hW2 => ⟨(none,0,0),rfl,rfl,((hW2.nilrow 3 1).pick 1 rfl)⟩)
 ·refine cx_false (vB hp4) ?_
  refine cx_skip (eT (cS (cR ?_)))
  refine ox_y rfl (y_loadN 0 [.slice Aa p0.fNo.length ca,.slice Ab p0.fC.length cb] ag_25 rfl rfl rfl) (ox_y rfl (yMS rfl) ?_)
  obtain ⟨y5,hy6,h⟩:=bOs h
  refine ox_call1 [.agg #[.slice Aa p0.fNo.length ca,.slice Ab p0.fC.length cb],.slice Ac p1.length cc] _ _ rfl go_65 rfl (fun W2 hW2 => recall_possible_ok p0 p1 y5 hy6 W2 Aa p0.fNo.length ca rfl ((RdL.arg hr0_0) W2 hW2) Ab p0.fC.length cb ys0_1 rfl ((RdL.arg hr0_1) W2 hW2) (NestL.at (NestL.arg hN0_1) W2 hW2) Ac p1.length cc rfl ((RdL.arg hr1_0) W2 hW2)) ?_
  rintro b7
  obtain ⟨y8,hy9,h⟩:=bOs h
  refine ox_call [.map (some b7)] _ _ _ rfl go_96 rfl (fun W2 hW2 => recall_listed_ok y5 y8 hy9 W2 b7 ((MpL.own 1 rfl) W2 hW2)) ?_
  rintro ⟨A10,n12,c11⟩ hn13
  replace hn13 : n12 = y8.length:=hn13; subst hn13
  refine ox_y rfl (yAS rfl) (ox_y rfl (yAI rfl) ?_)
  refine oN (eT (cx_ret ?_))
  obtain rfl:=sI h
  exact ex_res2 (.inl rfl) rfl (rVt (v:=.slice A10 y8.length c11) rfl) (rVt (v:=.int .i64 0) rfl) (fun W2 hW2 => ⟨(A10,y8.length,c11),rfl,rfl,(hW2.pick 2 rfl)⟩)
theorem calxlaw09_Example_ok  (res:TL) (h:calxlaw09_Example = some res) (W:World) (wb:World) (Hb:World → Prop) (hB:∀ W3,Below W.heap.size W W3 → Below wb.heap.size wb W3 ∧ Hb W3) :
  Calls Tryz.prog 59 [].toArray W fun e W2 => ∃ x : ((Option Addr × Nat × Nat) × (Option Addr × Nat × Nat) × (List (Hd × TC)) × Res),(x.1.2.1 = res.fNo.length ∧ x.2.1.2.1 = res.fC.length ∧ NestP (fun z : TC => z.fO) x.2.2.1 res.fC ∧ PvL (fun z : TC => z.fO) THop_cells wb (fun W4 => Hb W4 ∧ Res.holds x.2.2.2 W4) x.2.2.1) ∧ e = .returned (.agg #[.slice x.1.1 x.1.2.1 x.1.2.2,.slice x.2.1.1 x.2.1.2.1 x.2.1.2.2]) ∧ Ext W W2 [rowR x.1.1 x.1.2.2 97 3 x.1.2.1 (encL TNode_cells res.fNo),rowR x.2.1.1 x.2.1.2.2 90 2 x.2.1.2.1 (encL TClaim_cells2 x.2.2.1),x.2.2.2]:=by
 unfold calxlaw09_Example at h
 refine calls_enter (m:=24) Tryz.func59 rfl rfl (nB rfl) ?_
 refine cS (cR ?_)
 refine ox_alloc ze_25 rfl (fun b1 => ?_)
 refine oN (eT (cS (cR ?_)))
 refine ox_y rfl (y_buildS [.int .i64 1,.int .i64 0,.int .i64 0] [(0,1),(1,1),(2,1)] ust_97 ze_97 (by kernel_rfl)) ?_
 refine ox_y rfl (y_buildS [.int .i64 2,.int .i64 0,.int .i64 0] [(0,1),(1,1),(2,1)] ust_97 ze_97 (by kernel_rfl)) ?_
 refine ox_y rfl (y_buildS [.int .i64 3,.int .i64 3,.int .i64 0] [(0,1),(1,1),(2,1)] ust_97 ze_97 (by kernel_rfl)) ?_
 refine ox_y rfl (y_buildS [.int .i64 4,.int .i64 3,.int .i64 0] [(0,1),(1,1),(2,1)] ust_97 ze_97 (by kernel_rfl)) ?_
 refine ox_y rfl (y_buildS [.int .i64 5,.int .i64 9,.int .i64 10] [(0,1),(1,1),(2,1)] ust_97 ze_97 (by kernel_rfl)) ?_
 refine ox_y rfl (y_buildS [.int .i64 6,.int .i64 9,.int .i64 7] [(0,1),(1,1),(2,1)] ust_97 ze_97 (by kernel_rfl)) ?_
 refine ox_buildSliceE 6 (encL TNode_cells [(TN.mk 1 0 0),(TN.mk 2 0 0),(TN.mk 3 3 0),(TN.mk 4 3 0),(TN.mk 5 9 10),(TN.mk 6 9 7)]) _ mc_97_6 us_22 ze_97 by_97 (by decide) (by decide) (by kernel_rfl) (encL_len TNode_cells_len rfl) rfl (fun b2 => ?_)
 refine ox_y rfl (y_buildS [.int .i64 1,.int .i64 3] [(0,1),(1,1)] ust_111 ze_111 (by kernel_rfl)) ?_
 refine ox_buildSliceE 1 (encL THop_cells [(TH.mk 1 3)]) _ mc_111_1 us_88 ze_111 by_111 (by decide) (by decide) (by kernel_rfl) (encL_len THop_cells_len rfl) rfl (fun b3 => ?_)
 refine ox_y rfl (y_buildS [.int .i64 11,.slice (some ⟨b3,0,none⟩) 1 1] [(0,1),(1,1)] ust_90 ze_90 (by kernel_rfl)) ?_
 refine ox_y rfl (y_buildS [.int .i64 1,.int .i64 4] [(0,1),(1,1)] ust_111 ze_111 (by kernel_rfl)) ?_
 refine ox_y rfl (y_buildS [.int .i64 2,.int .i64 4] [(0,1),(1,1)] ust_111 ze_111 (by kernel_rfl)) ?_
 refine ox_buildSliceE 2 (encL THop_cells [(TH.mk 1 4),(TH.mk 2 4)]) _ mc_111_2 us_88 ze_111 by_111 (by decide) (by decide) (by kernel_rfl) (encL_len THop_cells_len rfl) rfl (fun b4 => ?_)
 refine ox_y rfl (y_buildS [.int .i64 12,.slice (some ⟨b4,0,none⟩) 2 2] [(0,1),(1,1)] ust_90 ze_90 (by kernel_rfl)) ?_
 refine ox_y rfl (y_buildS [.int .i64 3,.int .i64 5] [(0,1),(1,1)] ust_111 ze_111 (by kernel_rfl)) ?_
 refine ox_buildSliceE 1 (encL THop_cells [(TH.mk 3 5)]) _ mc_111_1 us_88 ze_111 by_111 (by decide) (by decide) (by kernel_rfl) (encL_len THop_cells_len rfl) rfl (fun b5 => ?_)
 refine ox_y rfl (y_buildS [.int .i64 13,.slice (some ⟨b5,0,none⟩) 1 1] [(0,1),(1,1)] ust_90 ze_90 (by kernel_rfl)) ?_
 refine ox_y rfl (y_buildS [.int .i64 4,.int .i64 5] [(0,1),(1,1)] ust_111 ze_111 (by kernel_rfl)) ?_
 refine ox_y rfl (y_buildS [.int .i64 4,.int .i64 6] [(0,1),(1,1)] ust_111 ze_111 (by kernel_rfl)) ?_
 refine ox_buildSliceE 2 (encL THop_cells [(TH.mk 4 5),(TH.mk 4 6)]) _ mc_111_2 us_88 ze_111 by_111 (by decide) (by decide) (by kernel_rfl) (encL_len THop_cells_len rfl) rfl (fun b6 => ?_)
 try dsimp only [lna,lca,lsz,lss]
 refine ox_y rfl (y_buildS [.int .i64 14,.slice (some ⟨b6,0,none⟩) 2 2] [(0,1),(1,1)] ust_90 ze_90 (by kernel_rfl)) ?_
 refine ox_addNo ?_
 refine ox_joinF 6 5 (by decide) rfl rfl ?_
 refine ox_joinF 6 4 (by decide) rfl rfl ?_
 refine ox_joinF 6 3 (by decide) rfl rfl ?_
 refine ox_joinF 6 2 (by decide) rfl rfl ?_
 refine ox_buildSliceE 4 (encL TClaim_cells2 [(((some ⟨b3,0,none⟩),1,1),(TC.mk 11 [(TH.mk 1 3)])),(((some ⟨b4,0,none⟩),2,2),(TC.mk 12 [(TH.mk 1 4),(TH.mk 2 4)])),(((some ⟨b5,0,none⟩),1,1),(TC.mk 13 [(TH.mk 3 5)])),(((some ⟨b6,0,none⟩),2,2),(TC.mk 14 [(TH.mk 4 5),(TH.mk 4 6)]))]) _ mc_90_4 us_23 ze_90 by_90 (by decide) (by decide) (by kernel_rfl) (encL_len TClaim_cells2_len rfl) rfl (fun b7 => ?_)
 try dsimp only [lna,lca,lsz,lss]
 refine ox_y rfl (y_buildS [.slice (some ⟨b2,0,none⟩) 6 6,.slice (some ⟨b7,0,none⟩) 4 4] [(0,1),(1,1)] ust_25 ze_25 (by kernel_rfl)) ?_
 refine ox_n rfl (y_storeN 0 [.slice (some ⟨b2,0,none⟩) 6 6,.slice (some ⟨b7,0,none⟩) 4 4] sz_25 rfl (nB rfl) rfl rfl rfl) ?_
 refine oN (eT (cx_ret ?_))
 obtain rfl:=sI h
 exact ex_res1 (.inl rfl) rfl (resV_cellN 0 [.slice (some ⟨b2,0,none⟩) 6 6,.slice (some ⟨b7,0,none⟩) 4 4] ag_25 rfl rfl rfl) (fun W2 hW2 => ⟨(((some ⟨b2,0,none⟩),6,6),((some ⟨b7,0,none⟩),4,4),[(((some ⟨b3,0,none⟩),1,1),(TC.mk 11 [(TH.mk 1 3)])),(((some ⟨b4,0,none⟩),2,2),(TC.mk 12 [(TH.mk 1 4),(TH.mk 2 4)])),(((some ⟨b5,0,none⟩),1,1),(TC.mk 13 [(TH.mk 3 5)])),(((some ⟨b6,0,none⟩),2,2),(TC.mk 14 [(TH.mk 4 5),(TH.mk 4 6)]))],andR (andR (andR (andR noR (rowR (some ⟨b6,0,none⟩) 2 111 2 2 (encL THop_cells [(TH.mk 4 5),(TH.mk 4 6)]))) (rowR (some ⟨b5,0,none⟩) 1 111 2 1 (encL THop_cells [(TH.mk 3 5)]))) (rowR (some ⟨b4,0,none⟩) 2 111 2 2 (encL THop_cells [(TH.mk 1 4),(TH.mk 2 4)]))) (rowR (some ⟨b3,0,none⟩) 1 111 2 1 (encL THop_cells [(TH.mk 1 3)]))),⟨rfl,rfl,(NestP.cons (sel:=(fun z : TC => z.fO)) rfl (NestP.cons (sel:=(fun z : TC => z.fO)) rfl (NestP.cons (sel:=(fun z : TC => z.fO)) rfl (NestP.cons (sel:=(fun z : TC => z.fO)) rfl NestP.nil)))),(PvL.cons (fun _ _ h => rowR_rd h.2.2.1) (PvL.mono (Hb:=(fun W4 => Hb W4 ∧ Res.holds (andR (andR (andR noR (rowR (some ⟨b6,0,none⟩) 2 111 2 2 (encL THop_cells [(TH.mk 4 5),(TH.mk 4 6)]))) (rowR (some ⟨b5,0,none⟩) 1 111 2 1 (encL THop_cells [(TH.mk 3 5)]))) (rowR (some ⟨b4,0,none⟩) 2 111 2 2 (encL THop_cells [(TH.mk 1 4),(TH.mk 2 4)]))) W4)) (PvL.cons (fun _ _ h => rowR_rd h.2.2.1) (PvL.mono (Hb:=(fun W4 => Hb W4 ∧ Res.holds (andR (andR noR (rowR (some ⟨b6,0,none⟩) 2 111 2 2 (encL THop_cells [(TH.mk 4 5),(TH.mk 4 6)]))) (rowR (some ⟨b5,0,none⟩) 1 111 2 1 (encL THop_cells [(TH.mk 3 5)]))) W4)) (PvL.cons (fun _ _ h => rowR_rd h.2.2.1) (PvL.mono (Hb:=(fun W4 => Hb W4 ∧ Res.holds (andR noR (rowR (some ⟨b6,0,none⟩) 2 111 2 2 (encL THop_cells [(TH.mk 4 5),(TH.mk 4 6)]))) W4)) (PvL.cons (fun _ _ h => rowR_rd h.2.2.1) (PvL.mono (Hb:=(fun W4 => Hb W4 ∧ Res.holds noR W4)) PvL.nil (fun _ _ h => ⟨h.1,h.2.1⟩))) (fun _ _ h => ⟨h.1,h.2.1⟩))) (fun _ _ h => ⟨h.1,h.2.1⟩))) (fun _ _ h => ⟨h.1,h.2.1⟩)))⟩,rfl,hW2.pickL [1,7,6] (by decide) rfl⟩)
theorem recall_Cases_ok (p0:TL) (res:(Int × Int)) (h:recall_Cases p0 = some res) (W:World) (Aa:Option Addr) (n0_0 ca : Nat) (hn0_0:n0_0 = p0.fNo.length) (hr0_0:Rd W Aa n0_0 ca (encL TNode_cells p0.fNo)) (Ab:Option Addr) (n0_1 cb : Nat) (ys0_1:List (Hd × TC)) (hn0_1:n0_1 = p0.fC.length) (hr0_1:Rd W Ab n0_1 cb (encL TClaim_cells2 ys0_1)) (hN0_1:NestW W (fun z : TC => z.fO) THop_cells ys0_1 p0.fC) :
  Calls Tryz.prog 60 [.agg #[.slice Aa n0_0 ca,.slice Ab n0_1 cb]].toArray W fun e W2 => e = .returned (.tuple #[.int .i64 res.1,.int .i64 res.2]) ∧ Ext W W2 []:=by
 subst hn0_0
 subst hn0_1
 unfold recall_Cases at h
 refine calls_enterM (m:=17) Tryz.func60 rfl rfl (nB rfl) ?_
 refine cS (cR ?_)
 refine ox_box [.slice Aa p0.fNo.length ca,.slice Ab p0.fC.length cb] rfl rfl rfl (fun b1 => ?_)
 refine ox_y rfl (yAI rfl) (ox_y rfl (yAI rfl) ?_)
 refine oN (eT (cS (cS (cR ?_))))
 refine ox_y rfl (y_loadN 0 [.slice Aa p0.fNo.length ca,.slice Ab p0.fC.length cb] ag_25 rfl rfl rfl) ?_
 obtain ⟨y2,hy3,h⟩:=bOs h
 refine ox_y rfl (y_call [.agg #[.slice Aa p0.fNo.length ca,.slice Ab p0.fC.length cb]] go_61 rfl (fun W2 hW2 => recall_Check_ok p0 y2 hy3 W2 Aa p0.fNo.length ca rfl ((RdL.arg hr0_0) W2 hW2) Ab p0.fC.length cb ys0_1 rfl ((RdL.arg hr0_1) W2 hW2) (NestL.at (NestL.arg hN0_1) W2 hW2)) rfl) (ox_y rfl (yAI rfl) ?_)
 refine oN (eT (cS (cR ?_)))
 refine ox_y rfl (yMI rfl) (ox_y rfl (y_neq rfl rfl) ?_)
 refine oN (eT ?_)
 rcases iOs h with ⟨hp4,h⟩ | ⟨hp4,h⟩
 ·refine cx_true (vB hp4) ?_
  refine cS (cR ?_)
  refine ox_y rfl (yMI rfl) (ox_y rfl (yAI rfl) (ox_y rfl (yAI rfl) ?_))
  refine oN (eT (cx_ret (ex_then_ret ?_)))
  refine ex_M0 (.inl rfl) ?_
  obtain rfl:=sI h
  exact ex_res2 (.inl rfl) rfl (rVt (v:=.int .i64 0) rfl) (rVt (v:=.int .i64 y2) rfl) (fun W2 hW2 => ⟨rfl,hW2.none⟩)
 ·refine cx_false (vB hp4) ?_
  refine cx_skip (eT (cS (cR ?_)))
  refine ox_alloc ze_3 rfl (fun b5 => ?_)
  refine ox_n rfl (y_store1 1 (v:=.int .i64 0) sz_3 rfl (Nat.lt_of_lt_of_le (Nat.lt_succ_self _) (nB rfl)) rfl rfl rfl) ?_
  refine oN (eT (cS (cS (cR ?_))))
  refine ox_y rfl (y_loadN 0 [.slice Aa p0.fNo.length ca,.slice Ab p0.fC.length cb] ag_25 rfl rfl rfl) ?_
  obtain ⟨y6,hy7,h⟩:=bOs h
  refine ox_call1 [.agg #[.slice Aa p0.fNo.length ca,.slice Ab p0.fC.length cb]] _ _ rfl go_86 rfl (fun W2 hW2 => recall_cases_ok p0 y6 hy7 W2 Aa p0.fNo.length ca rfl ((RdL.arg hr0_0) W2 hW2) Ab p0.fC.length cb ys0_1 rfl ((RdL.arg hr0_1) W2 hW2) (NestL.at (NestL.arg hN0_1) W2 hW2)) ?_
  rintro b8
  refine oN (eT (cx_block ?_))
  obtain ⟨hok23,h⟩:=gOs h
  obtain ⟨u21,hl22,h⟩:=bOs h
  refine cx_rangeC (caps:=[.pointer (some ⟨b8,0,none⟩)]) (fun (s:Int) L => L = [cellsR b1 25 [.slice Aa p0.fNo.length ca,.slice Ab p0.fC.length cb],cellsR b5 3 [.int .i64 s],cellsR b8 25 [.slice Aa p0.fNo.length ca,.slice Ab p0.fC.length cb]]) (fun (_:Unit) _ _ => False) hl22 rfl go_130 (recall_cases_1_seq p0 hok23 b8 Aa p0.fNo.length ca Ab p0.fC.length cb rfl ys0_1 hN0_1.p) (fun W2 s L hI hW2 => by obtain rfl:=hI; exact ⟨(RdL.cells 2 rfl) W2 hW2,(RdL.arg hr0_1) W2 hW2⟩) rfl (fun _ _ _ h => h.elim) ?_ ?_ ?_
  ·rintro D9 l10 rec11 A13 c14 s19 x20 L st hrec12 rfl h
   unfold recall_Cases_r1 at h
   refine cx_skip (ex_begin 4 rfl hrec12 ?_)
   refine cx_block (cR ?_)
   try dsimp only [lna,lca,lsz,lss]
   refine ox_y rfl (y_load1 1 (v:=.int .i64 s19) sc_3 rfl rfl rfl) (ox_y rfl (y_add rfl rfl) (ox_n rfl (y_store1 1 (v:=.int .i64 (w64 (s19 + 1))) sz_3 rfl (Nat.lt_of_lt_of_le (Nat.lt_succ_self _) (nB rfl)) rfl rfl rfl) (oN (ex_block ?_))))
   obtain rfl:=sI h
   exact ex_cnext [cellsR b1 25 [.slice Aa p0.fNo.length ca,.slice Ab p0.fC.length cb],cellsR b5 3 [.int .i64 (w64 (s19 + 1))],cellsR b8 25 [.slice Aa p0.fNo.length ca,.slice Ab p0.fC.length cb]] rfl
  ·rintro D9 u24 L hst rfl
   subst hst
   dsimp only at h
   refine ex_block ?_
   refine eT (cS (cR ?_))
   refine ox_y rfl (y_load1 1 (v:=.int .i64 u24) sc_3 rfl rfl rfl) (ox_y rfl (yAI rfl) (ox_y rfl (yAI rfl) ?_))
   refine oN (eT (cx_ret ?_))
   refine ex_M1 3 rfl (.inl rfl) ?_
   obtain rfl:=sI h
   exact ex_res2 (.inl rfl) rfl (rVt (v:=.int .i64 u24) rfl) (rVt (v:=.int .i64 0) rfl) (fun W2 hW2 => ⟨rfl,hW2.none⟩)
  ·intro D9 t e L _ hh
   exact hh.elim
theorem calxlaw09_head_ok  (res:Bool) (h:calxlaw09_head = some res) (W:World)  :
  Calls Tryz.prog 13 [].toArray W fun e W2 => e = .returned (.bool res) ∧ Ext W W2 []:=by
 unfold calxlaw09_head at h
 refine calls_enter (m:=188) Tryz.func13 rfl rfl (nB rfl) ?_
 refine cS (cR ?_)
 refine ox_y rfl (y_assign_bool rfl) ?_
 refine oN (eT (cS (cR ?_)))
 obtain ⟨y1,hy2,h⟩:=bOs h
 refine ox_call [] _ _ _ rfl go_59 rfl (fun W2 hW2 => calxlaw09_Example_ok  y1 hy2 W2 W (fun _ => True) (fun W3 hb => ⟨belowT hW2.below hb,trivial⟩) ) ?_
 rintro ⟨⟨A7,n9,c8⟩,⟨A11,n13,c12⟩,ys16,F17⟩ ⟨hn10,hn14,hP15,hV18⟩
 replace hn10 : n9 = y1.fNo.length:=hn10; subst hn10
 replace hn14 : n13 = y1.fC.length:=hn14; subst hn14
 refine ox_alloc ze_25 rfl (fun b19 => ?_)
 refine ox_n rfl (y_storeN 3 [.slice A7 y1.fNo.length c8,.slice A11 y1.fC.length c12] sz_25 rfl (nB rfl) rfl rfl rfl) ?_
 refine oN (eT (cS (cR ?_)))
 refine ox_y rfl (y_loadN 3 [.slice A7 y1.fNo.length c8,.slice A11 y1.fC.length c12] ag_25 rfl rfl rfl) ?_
 obtain ⟨y20,hy21,h⟩:=bOs h
 refine ox_y rfl (y_call [.agg #[.slice A7 y1.fNo.length c8,.slice A11 y1.fC.length c12]] go_60 rfl (fun W2 hW2 => recall_Cases_ok y1 y20 hy21 W2 A7 y1.fNo.length c8 rfl ((RdL.row 0 rfl) W2 hW2) A11 y1.fC.length c12 ys16 rfl ((RdL.row 1 rfl) W2 hW2) (NestL.at (PvL.nestL hP15 hV18 (fun W2 hW2 => ⟨hW2.below,trivial,hW2.mem (i:=2) rfl⟩)) W2 hW2)) rfl) (ox_y rfl (y_move_tuple rfl) (ox_y rfl (y_extract (vs:=[.int .i64 y20.1,.int .i64 y20.2]) (v:=.int .i64 y20.1) rfl rfl) (ox_y rfl (y_extract (vs:=[.int .i64 y20.1,.int .i64 y20.2]) (v:=.int .i64 y20.2) rfl rfl) (ox_y rfl (yAI rfl) (ox_y rfl (yAI rfl) ?_)))))
 refine oN (eT (cS (cR ?_)))
 refine ox_y rfl (y_loadN 3 [.slice A7 y1.fNo.length c8,.slice A11 y1.fC.length c12] ag_25 rfl rfl rfl) ?_
 refine ox_buildSliceE 1 (encL cI [1]) _ mc_3_1 us_26 ze_3 by_3 (by decide) (by decide) (by kernel_rfl) (encL_len cI_len rfl) rfl (fun b22 => ?_)
 obtain ⟨y23,hy24,h⟩:=bOs h
 refine ox_call [.agg #[.slice A7 y1.fNo.length c8,.slice A11 y1.fC.length c12],.slice (some ⟨b22,0,none⟩) 1 1] _ _ _ rfl go_34 rfl (fun W2 hW2 => recall_Surely_ok y1 [1] y23 hy24 W2 A7 y1.fNo.length c8 rfl ((RdL.row 0 rfl) W2 hW2) A11 y1.fC.length c12 ys16 rfl ((RdL.row 1 rfl) W2 hW2) (NestL.at (PvL.nestL hP15 hV18 (fun W2 hW2 => ⟨hW2.below,trivial,hW2.mem (i:=2) rfl⟩)) W2 hW2) (some ⟨b22,0,none⟩) 1 1 rfl ((RdL.row 4 rfl) W2 hW2)) ?_
 rintro ⟨A25,n27,c26⟩ hn28
 replace hn28 : n27 = y23.1.length:=hn28; subst hn28
 try dsimp only [lna,lca,lsz,lss]
 refine ox_y rfl (y_move_tuple rfl) (ox_y rfl (y_extract (vs:=[.slice A25 y23.1.length c26,.int .i64 y23.2]) (v:=.slice A25 y23.1.length c26) rfl rfl) (ox_y rfl (y_extract (vs:=[.slice A25 y23.1.length c26,.int .i64 y23.2]) (v:=.int .i64 y23.2) rfl rfl) (ox_y rfl (yAS rfl) (ox_y rfl (yAI rfl) ?_))))
 refine oN (eT (cS (cR ?_)))
 refine ox_y rfl (y_loadN 3 [.slice A7 y1.fNo.length c8,.slice A11 y1.fC.length c12] ag_25 rfl rfl rfl) ?_
 refine ox_buildSliceE 1 (encL cI [2]) _ mc_3_1 us_26 ze_3 by_3 (by decide) (by decide) (by kernel_rfl) (encL_len cI_len rfl) rfl (fun b29 => ?_)
 try dsimp only [lna,lca,lsz,lss]
 obtain ⟨y30,hy31,h⟩:=bOs h
 refine ox_call [.agg #[.slice A7 y1.fNo.length c8,.slice A11 y1.fC.length c12],.slice (some ⟨b29,0,none⟩) 1 1] _ _ _ rfl go_36 rfl (fun W2 hW2 => recall_Possibly_ok y1 [2] y30 hy31 W2 A7 y1.fNo.length c8 rfl ((RdL.row 0 rfl) W2 hW2) A11 y1.fC.length c12 ys16 rfl ((RdL.row 1 rfl) W2 hW2) (NestL.at (PvL.nestL hP15 hV18 (fun W2 hW2 => ⟨hW2.below,trivial,hW2.mem (i:=2) rfl⟩)) W2 hW2) (some ⟨b29,0,none⟩) 1 1 rfl ((RdL.row 6 rfl) W2 hW2)) ?_
 rintro ⟨A32,n34,c33⟩ hn35
 replace hn35 : n34 = y30.1.length:=hn35; subst hn35
 try dsimp only [lna,lca,lsz,lss]
 refine ox_y rfl (y_move_tuple rfl) (ox_y rfl (y_extract (vs:=[.slice A32 y30.1.length c33,.int .i64 y30.2]) (v:=.slice A32 y30.1.length c33) rfl rfl) (ox_y rfl (y_extract (vs:=[.slice A32 y30.1.length c33,.int .i64 y30.2]) (v:=.int .i64 y30.2) rfl rfl) (ox_y rfl (yAS rfl) (ox_y rfl (yAI rfl) ?_))))
 refine oN (eT (cS (cR ?_)))
 refine ox_y rfl (y_loadN 3 [.slice A7 y1.fNo.length c8,.slice A11 y1.fC.length c12] ag_25 rfl rfl rfl) ?_
 refine ox_buildSliceE 1 (encL cI [1]) _ mc_3_1 us_26 ze_3 by_3 (by decide) (by decide) (by kernel_rfl) (encL_len cI_len rfl) rfl (fun b36 => ?_)
 try dsimp only [lna,lca,lsz,lss]
 obtain ⟨y37,hy38,h⟩:=bOs h
 refine ox_call [.agg #[.slice A7 y1.fNo.length c8,.slice A11 y1.fC.length c12],.slice (some ⟨b36,0,none⟩) 1 1,.int .i64 6] _ _ _ rfl go_20 rfl (fun W2 hW2 => recall_Hangs_ok y1 [1] 6 y37 hy38 W2 A7 y1.fNo.length c8 rfl ((RdL.row 0 rfl) W2 hW2) A11 y1.fC.length c12 ys16 rfl ((RdL.row 1 rfl) W2 hW2) (NestL.at (PvL.nestL hP15 hV18 (fun W2 hW2 => ⟨hW2.below,trivial,hW2.mem (i:=2) rfl⟩)) W2 hW2) (some ⟨b36,0,none⟩) 1 1 rfl ((RdL.row 8 rfl) W2 hW2)) ?_
 rintro ⟨A39,n41,c40⟩ hn42
 replace hn42 : n41 = y37.1.length:=hn42; subst hn42
 try dsimp only [lna,lca,lsz,lss]
 refine ox_y rfl (y_move_tuple rfl) (ox_y rfl (y_extract (vs:=[.slice A39 y37.1.length c40,.int .i64 y37.2]) (v:=.slice A39 y37.1.length c40) rfl rfl) (ox_y rfl (y_extract (vs:=[.slice A39 y37.1.length c40,.int .i64 y37.2]) (v:=.int .i64 y37.2) rfl rfl) (ox_y rfl (yAS rfl) (ox_y rfl (yAI rfl) ?_))))
 refine oN (eT (cS (cR ?_)))
 refine ox_y rfl (y_loadN 3 [.slice A7 y1.fNo.length c8,.slice A11 y1.fC.length c12] ag_25 rfl rfl rfl) ?_
 refine ox_buildSliceE 1 (encL cI [1]) _ mc_3_1 us_26 ze_3 by_3 (by decide) (by decide) (by kernel_rfl) (encL_len cI_len rfl) rfl (fun b43 => ?_)
 try dsimp only [lna,lca,lsz,lss]
 obtain ⟨y44,hy45,h⟩:=bOs h
 refine ox_call [.agg #[.slice A7 y1.fNo.length c8,.slice A11 y1.fC.length c12],.slice (some ⟨b43,0,none⟩) 1 1,.int .i64 6] _ _ _ rfl go_22 rfl (fun W2 hW2 => recall_Gates_ok y1 [1] 6 y44 hy45 W2 A7 y1.fNo.length c8 rfl ((RdL.row 0 rfl) W2 hW2) A11 y1.fC.length c12 ys16 rfl ((RdL.row 1 rfl) W2 hW2) (NestL.at (PvL.nestL hP15 hV18 (fun W2 hW2 => ⟨hW2.below,trivial,hW2.mem (i:=2) rfl⟩)) W2 hW2) (some ⟨b43,0,none⟩) 1 1 rfl ((RdL.row 10 rfl) W2 hW2)) ?_
 rintro ⟨A46,n48,c47⟩ hn49
 replace hn49 : n48 = y44.1.length:=hn49; subst hn49
 try dsimp only [lna,lca,lsz,lss]
 refine ox_y rfl (y_move_tuple rfl) (ox_y rfl (y_extract (vs:=[.slice A46 y44.1.length c47,.int .i64 y44.2]) (v:=.slice A46 y44.1.length c47) rfl rfl) (ox_y rfl (y_extract (vs:=[.slice A46 y44.1.length c47,.int .i64 y44.2]) (v:=.int .i64 y44.2) rfl rfl) (ox_y rfl (yAS rfl) (ox_y rfl (yAI rfl) ?_))))
 refine oN (eT (cS (cR ?_)))
 refine ox_y rfl (y_loadN 3 [.slice A7 y1.fNo.length c8,.slice A11 y1.fC.length c12] ag_25 rfl rfl rfl) ?_
 refine ox_buildSliceE 1 (encL cI [1]) _ mc_3_1 us_26 ze_3 by_3 (by decide) (by decide) (by kernel_rfl) (encL_len cI_len rfl) rfl (fun b50 => ?_)
 try dsimp only [lna,lca,lsz,lss]
 obtain ⟨y51,hy52,h⟩:=bOs h
 refine ox_call [.agg #[.slice A7 y1.fNo.length c8,.slice A11 y1.fC.length c12],.slice (some ⟨b50,0,none⟩) 1 1,.int .i64 5] _ _ _ rfl go_28 rfl (fun W2 hW2 => recall_Cut_ok y1 [1] 5 y51 hy52 W2 A7 y1.fNo.length c8 rfl ((RdL.row 0 rfl) W2 hW2) A11 y1.fC.length c12 ys16 rfl ((RdL.row 1 rfl) W2 hW2) (NestL.at (PvL.nestL hP15 hV18 (fun W2 hW2 => ⟨hW2.below,trivial,hW2.mem (i:=2) rfl⟩)) W2 hW2) (some ⟨b50,0,none⟩) 1 1 rfl ((RdL.row 12 rfl) W2 hW2)) ?_
 rintro ⟨A53,n55,c54⟩ hn56
 replace hn56 : n55 = y51.1.length:=hn56; subst hn56
 try dsimp only [lna,lca,lsz,lss]
 refine ox_y rfl (y_move_tuple rfl) (ox_y rfl (y_extract (vs:=[.slice A53 y51.1.length c54,.int .i64 y51.2]) (v:=.slice A53 y51.1.length c54) rfl rfl) (ox_y rfl (y_extract (vs:=[.slice A53 y51.1.length c54,.int .i64 y51.2]) (v:=.int .i64 y51.2) rfl rfl) (ox_y rfl (yAS rfl) (ox_y rfl (yAI rfl) ?_))))
 refine oN (eT (cS (cR ?_)))
 refine ox_y rfl (y_loadN 3 [.slice A7 y1.fNo.length c8,.slice A11 y1.fC.length c12] ag_25 rfl rfl rfl) ?_
 refine ox_buildSliceE 1 (encL cI [2]) _ mc_3_1 us_26 ze_3 by_3 (by decide) (by decide) (by kernel_rfl) (encL_len cI_len rfl) rfl (fun b57 => ?_)
 try dsimp only [lna,lca,lsz,lss]
 obtain ⟨y58,hy59,h⟩:=bOs h
 refine ox_y rfl (y_call [.agg #[.slice A7 y1.fNo.length c8,.slice A11 y1.fC.length c12],.slice (some ⟨b57,0,none⟩) 1 1,.int .i64 5] go_24 rfl (fun W2 hW2 => recall_Share_ok y1 [2] 5 y58 hy59 W2 A7 y1.fNo.length c8 rfl ((RdL.row 0 rfl) W2 hW2) A11 y1.fC.length c12 ys16 rfl ((RdL.row 1 rfl) W2 hW2) (NestL.at (PvL.nestL hP15 hV18 (fun W2 hW2 => ⟨hW2.below,trivial,hW2.mem (i:=2) rfl⟩)) W2 hW2) (some ⟨b57,0,none⟩) 1 1 rfl ((RdL.row 14 rfl) W2 hW2)) rfl) (ox_y rfl (y_move_tuple rfl) (ox_y rfl (y_extract (vs:=[.agg #[.int .i64 y58.1.fNum,.int .i64 y58.1.fDen],.int .i64 y58.2]) (v:=.agg #[.int .i64 y58.1.fNum,.int .i64 y58.1.fDen]) rfl rfl) (ox_y rfl (y_extract (vs:=[.agg #[.int .i64 y58.1.fNum,.int .i64 y58.1.fDen],.int .i64 y58.2]) (v:=.int .i64 y58.2) rfl rfl) ?_)))
 refine ox_alloc ze_48 rfl (fun b60 => ?_)
 try dsimp only [lna,lca,lsz,lss]
 refine ox_n rfl (y_storeN 15 [.int .i64 y58.1.fNum,.int .i64 y58.1.fDen] sz_48 rfl (nB rfl) rfl rfl rfl) (ox_y rfl (yAI rfl) ?_)
 refine oN (eT (cS (cR ?_)))
 refine ox_y rfl (y_loadN 3 [.slice A7 y1.fNo.length c8,.slice A11 y1.fC.length c12] ag_25 rfl rfl rfl) ?_
 refine ox_buildSliceE 1 (encL cI [1]) _ mc_3_1 us_26 ze_3 by_3 (by decide) (by decide) (by kernel_rfl) (encL_len cI_len rfl) rfl (fun b61 => ?_)
 try dsimp only [lna,lca,lsz,lss]
 obtain ⟨y62,hy63,h⟩:=bOs h
 refine ox_call [.agg #[.slice A7 y1.fNo.length c8,.slice A11 y1.fC.length c12],.slice (some ⟨b61,0,none⟩) 1 1,.bool false] _ _ _ rfl go_17 rfl (fun W2 hW2 => recall_Recall_ok y1 [1] false y62 hy63 W2 A7 y1.fNo.length c8 rfl ((RdL.row 0 rfl) W2 hW2) A11 y1.fC.length c12 ys16 rfl ((RdL.row 1 rfl) W2 hW2) (NestL.at (PvL.nestL hP15 hV18 (fun W2 hW2 => ⟨hW2.below,trivial,hW2.mem (i:=2) rfl⟩)) W2 hW2) (some ⟨b61,0,none⟩) 1 1 rfl ((RdL.row 16 rfl) W2 hW2)) ?_
 rintro ⟨A64,n66,c65⟩ hn67
 replace hn67 : n66 = y62.1.length:=hn67; subst hn67
 try dsimp only [lna,lca,lsz,lss]
 refine ox_y rfl (y_move_tuple rfl) (ox_y rfl (y_extract (vs:=[.slice A64 y62.1.length c65,.int .i64 y62.2.1,.int .i64 y62.2.2]) (v:=.slice A64 y62.1.length c65) rfl rfl) (ox_y rfl (y_extract (vs:=[.slice A64 y62.1.length c65,.int .i64 y62.2.1,.int .i64 y62.2.2]) (v:=.int .i64 y62.2.1) rfl rfl) (ox_y rfl (y_extract (vs:=[.slice A64 y62.1.length c65,.int .i64 y62.2.1,.int .i64 y62.2.2]) (v:=.int .i64 y62.2.2) rfl rfl) (ox_y rfl (yAS rfl) (ox_y rfl (yAI rfl) (ox_y rfl (yAI rfl) ?_))))))
 refine oN (eT (cS (cR ?_)))
 refine ox_y rfl (y_loadN 3 [.slice A7 y1.fNo.length c8,.slice A11 y1.fC.length c12] ag_25 rfl rfl rfl) ?_
 refine ox_buildSliceE 1 (encL cI [1]) _ mc_3_1 us_26 ze_3 by_3 (by decide) (by decide) (by kernel_rfl) (encL_len cI_len rfl) rfl (fun b68 => ?_)
 try dsimp only [lna,lca,lsz,lss]
 obtain ⟨y69,hy70,h⟩:=bOs h
 refine ox_y rfl (y_call [.agg #[.slice A7 y1.fNo.length c8,.slice A11 y1.fC.length c12],.slice (some ⟨b68,0,none⟩) 1 1] go_26 rfl (fun W2 hW2 => recall_Ask_ok y1 [1] y69 hy70 W2 A7 y1.fNo.length c8 rfl ((RdL.row 0 rfl) W2 hW2) A11 y1.fC.length c12 ys16 rfl ((RdL.row 1 rfl) W2 hW2) (NestL.at (PvL.nestL hP15 hV18 (fun W2 hW2 => ⟨hW2.below,trivial,hW2.mem (i:=2) rfl⟩)) W2 hW2) (some ⟨b68,0,none⟩) 1 1 rfl ((RdL.row 18 rfl) W2 hW2)) rfl) (ox_y rfl (y_move_tuple rfl) (ox_y rfl (y_extract (vs:=[.int .i64 y69.1,.int .i64 y69.2.1,.int .i64 y69.2.2]) (v:=.int .i64 y69.1) rfl rfl) (ox_y rfl (y_extract (vs:=[.int .i64 y69.1,.int .i64 y69.2.1,.int .i64 y69.2.2]) (v:=.int .i64 y69.2.1) rfl rfl) (ox_y rfl (y_extract (vs:=[.int .i64 y69.1,.int .i64 y69.2.1,.int .i64 y69.2.2]) (v:=.int .i64 y69.2.2) rfl rfl) (ox_y rfl (yAI rfl) (ox_y rfl (yAI rfl) (ox_y rfl (yAI rfl) ?_)))))))
 refine oN (eT (cS (cR ?_)))
 refine ox_y rfl (y_loadN 3 [.slice A7 y1.fNo.length c8,.slice A11 y1.fC.length c12] ag_25 rfl rfl rfl) ?_
 obtain ⟨y71,hy72,h⟩:=bOs h
 refine ox_call [.agg #[.slice A7 y1.fNo.length c8,.slice A11 y1.fC.length c12],.int .i64 5] _ _ _ rfl go_15 rfl (fun W2 hW2 => recall_Origins_ok y1 5 y71 hy72 W2 A7 y1.fNo.length c8 rfl ((RdL.row 0 rfl) W2 hW2) A11 y1.fC.length c12 ys16 rfl ((RdL.row 1 rfl) W2 hW2) (NestL.at (PvL.nestL hP15 hV18 (fun W2 hW2 => ⟨hW2.below,trivial,hW2.mem (i:=2) rfl⟩)) W2 hW2)) ?_
 rintro ⟨⟨A73,n77,c74⟩,⟨A75,n79,c76⟩⟩ ⟨hn78,hn80⟩
 replace hn78 : n77 = y71.1.length:=hn78; subst hn78
 replace hn80 : n79 = y71.2.1.length:=hn80; subst hn80
 try dsimp only [lna,lca,lsz,lss]
 refine ox_y rfl (y_move_tuple rfl) (ox_y rfl (y_extract (vs:=[.slice A73 y71.1.length c74,.slice A75 y71.2.1.length c76,.int .i64 y71.2.2]) (v:=.slice A73 y71.1.length c74) rfl rfl) (ox_y rfl (y_extract (vs:=[.slice A73 y71.1.length c74,.slice A75 y71.2.1.length c76,.int .i64 y71.2.2]) (v:=.slice A75 y71.2.1.length c76) rfl rfl) (ox_y rfl (y_extract (vs:=[.slice A73 y71.1.length c74,.slice A75 y71.2.1.length c76,.int .i64 y71.2.2]) (v:=.int .i64 y71.2.2) rfl rfl) (ox_y rfl (yAS rfl) (ox_y rfl (yAS rfl) (ox_y rfl (yAI rfl) ?_))))))
 refine oN (eT (cS (cS (cR ?_))))
 refine ox_y rfl (yMI rfl) (ox_y rfl (y_neq rfl rfl) (ox_y rfl (y_move_bool rfl) ?_))
 refine ox_join 3 (fun tm0 => (upd (upd (upd (upd (upd (upd (upd (upd (upd (upd (upd (upd (upd (upd (upd (upd (upd (upd (upd (upd (upd (upd (upd tm0 0 (.bool false)) 2 (.int .i64 y20.1)) 4 (.slice A25 y23.1.length c26)) 6 (.slice A32 y30.1.length c33)) 7 (.int .i64 y30.2)) 8 (.slice A39 y37.1.length c40)) 9 (.int .i64 y37.2)) 10 (.slice A46 y44.1.length c47)) 11 (.int .i64 y44.2)) 12 (.slice A53 y51.1.length c54)) 13 (.int .i64 y51.2)) 14 (.pointer (some ⟨b60,0,none⟩))) 15 (.int .i64 y58.2)) 16 (.slice A64 y62.1.length c65)) 17 (.int .i64 y62.2.1)) 18 (.int .i64 y62.2.2)) 19 (.int .i64 y69.1)) 20 (.int .i64 y69.2.1)) 21 (.int .i64 y69.2.2)) 22 (.slice A73 y71.1.length c74)) 23 (.slice A75 y71.2.1.length c76)) 24 (.int .i64 y71.2.2)) 94 (.bool ((y20.2 != 0) || (y23.2 != 0))))) (fun tm0 => ?_) (fun key => ?_)
 ·refine ox_y rfl (y_move_bool rfl) ?_
  refine ox_join 3 (fun tm0 => (upd (upd (upd (upd (upd (upd (upd (upd (upd (upd (upd (upd (upd (upd (upd (upd (upd (upd (upd (upd (upd (upd tm0 0 (.bool false)) 2 (.int .i64 y20.1)) 4 (.slice A25 y23.1.length c26)) 6 (.slice A32 y30.1.length c33)) 8 (.slice A39 y37.1.length c40)) 9 (.int .i64 y37.2)) 10 (.slice A46 y44.1.length c47)) 11 (.int .i64 y44.2)) 12 (.slice A53 y51.1.length c54)) 13 (.int .i64 y51.2)) 14 (.pointer (some ⟨b60,0,none⟩))) 15 (.int .i64 y58.2)) 16 (.slice A64 y62.1.length c65)) 17 (.int .i64 y62.2.1)) 18 (.int .i64 y62.2.2)) 19 (.int .i64 y69.1)) 20 (.int .i64 y69.2.1)) 21 (.int .i64 y69.2.2)) 22 (.slice A73 y71.1.length c74)) 23 (.slice A75 y71.2.1.length c76)) 24 (.int .i64 y71.2.2)) 98 (.bool (((y20.2 != 0) || (y23.2 != 0)) || (y30.2 != 0))))) (fun tm0 => ?_) (fun key => ?_)
  ·refine ox_y rfl (y_move_bool rfl) ?_
   refine ox_join 3 (fun tm0 => (upd (upd (upd (upd (upd (upd (upd (upd (upd (upd (upd (upd (upd (upd (upd (upd (upd (upd (upd (upd (upd tm0 0 (.bool false)) 2 (.int .i64 y20.1)) 4 (.slice A25 y23.1.length c26)) 6 (.slice A32 y30.1.length c33)) 8 (.slice A39 y37.1.length c40)) 10 (.slice A46 y44.1.length c47)) 11 (.int .i64 y44.2)) 12 (.slice A53 y51.1.length c54)) 13 (.int .i64 y51.2)) 14 (.pointer (some ⟨b60,0,none⟩))) 15 (.int .i64 y58.2)) 16 (.slice A64 y62.1.length c65)) 17 (.int .i64 y62.2.1)) 18 (.int .i64 y62.2.2)) 19 (.int .i64 y69.1)) 20 (.int .i64 y69.2.1)) 21 (.int .i64 y69.2.2)) 22 (.slice A73 y71.1.length c74)) 23 (.slice A75 y71.2.1.length c76)) 24 (.int .i64 y71.2.2)) 102 (.bool ((((y20.2 != 0) || (y23.2 != 0)) || (y30.2 != 0)) || (y37.2 != 0))))) (fun tm0 => ?_) (fun key => ?_)
   ·refine ox_y rfl (y_move_bool rfl) ?_
    refine ox_join 3 (fun tm0 => (upd (upd (upd (upd (upd (upd (upd (upd (upd (upd (upd (upd (upd (upd (upd (upd (upd (upd (upd (upd tm0 0 (.bool false)) 2 (.int .i64 y20.1)) 4 (.slice A25 y23.1.length c26)) 6 (.slice A32 y30.1.length c33)) 8 (.slice A39 y37.1.length c40)) 10 (.slice A46 y44.1.length c47)) 12 (.slice A53 y51.1.length c54)) 13 (.int .i64 y51.2)) 14 (.pointer (some ⟨b60,0,none⟩))) 15 (.int .i64 y58.2)) 16 (.slice A64 y62.1.length c65)) 17 (.int .i64 y62.2.1)) 18 (.int .i64 y62.2.2)) 19 (.int .i64 y69.1)) 20 (.int .i64 y69.2.1)) 21 (.int .i64 y69.2.2)) 22 (.slice A73 y71.1.length c74)) 23 (.slice A75 y71.2.1.length c76)) 24 (.int .i64 y71.2.2)) 106 (.bool (((((y20.2 != 0) || (y23.2 != 0)) || (y30.2 != 0)) || (y37.2 != 0)) || (y44.2 != 0))))) (fun tm0 => ?_) (fun key => ?_)
    ·refine ox_y rfl (y_move_bool rfl) ?_
     refine ox_join 3 (fun tm0 => (upd (upd (upd (upd (upd (upd (upd (upd (upd (upd (upd (upd (upd (upd (upd (upd (upd (upd (upd tm0 0 (.bool false)) 2 (.int .i64 y20.1)) 4 (.slice A25 y23.1.length c26)) 6 (.slice A32 y30.1.length c33)) 8 (.slice A39 y37.1.length c40)) 10 (.slice A46 y44.1.length c47)) 12 (.slice A53 y51.1.length c54)) 14 (.pointer (some ⟨b60,0,none⟩))) 15 (.int .i64 y58.2)) 16 (.slice A64 y62.1.length c65)) 17 (.int .i64 y62.2.1)) 18 (.int .i64 y62.2.2)) 19 (.int .i64 y69.1)) 20 (.int .i64 y69.2.1)) 21 (.int .i64 y69.2.2)) 22 (.slice A73 y71.1.length c74)) 23 (.slice A75 y71.2.1.length c76)) 24 (.int .i64 y71.2.2)) 110 (.bool ((((((y20.2 != 0) || (y23.2 != 0)) || (y30.2 != 0)) || (y37.2 != 0)) || (y44.2 != 0)) || (y51.2 != 0))))) (fun tm0 => ?_) (fun key => ?_)
     ·refine ox_y rfl (y_move_bool rfl) ?_
      refine ox_join 3 (fun tm0 => (upd (upd (upd (upd (upd (upd (upd (upd (upd (upd (upd (upd (upd (upd (upd (upd (upd (upd tm0 0 (.bool false)) 2 (.int .i64 y20.1)) 4 (.slice A25 y23.1.length c26)) 6 (.slice A32 y30.1.length c33)) 8 (.slice A39 y37.1.length c40)) 10 (.slice A46 y44.1.length c47)) 12 (.slice A53 y51.1.length c54)) 14 (.pointer (some ⟨b60,0,none⟩))) 16 (.slice A64 y62.1.length c65)) 17 (.int .i64 y62.2.1)) 18 (.int .i64 y62.2.2)) 19 (.int .i64 y69.1)) 20 (.int .i64 y69.2.1)) 21 (.int .i64 y69.2.2)) 22 (.slice A73 y71.1.length c74)) 23 (.slice A75 y71.2.1.length c76)) 24 (.int .i64 y71.2.2)) 114 (.bool (((((((y20.2 != 0) || (y23.2 != 0)) || (y30.2 != 0)) || (y37.2 != 0)) || (y44.2 != 0)) || (y51.2 != 0)) || (y58.2 != 0))))) (fun tm0 => ?_) (fun key => ?_)
      ·refine ox_y rfl (y_move_bool rfl) ?_
       refine ox_join 3 (fun tm0 => (upd (upd (upd (upd (upd (upd (upd (upd (upd (upd (upd (upd (upd (upd (upd (upd (upd tm0 0 (.bool false)) 2 (.int .i64 y20.1)) 4 (.slice A25 y23.1.length c26)) 6 (.slice A32 y30.1.length c33)) 8 (.slice A39 y37.1.length c40)) 10 (.slice A46 y44.1.length c47)) 12 (.slice A53 y51.1.length c54)) 14 (.pointer (some ⟨b60,0,none⟩))) 16 (.slice A64 y62.1.length c65)) 17 (.int .i64 y62.2.1)) 19 (.int .i64 y69.1)) 20 (.int .i64 y69.2.1)) 21 (.int .i64 y69.2.2)) 22 (.slice A73 y71.1.length c74)) 23 (.slice A75 y71.2.1.length c76)) 24 (.int .i64 y71.2.2)) 118 (.bool ((((((((y20.2 != 0) || (y23.2 != 0)) || (y30.2 != 0)) || (y37.2 != 0)) || (y44.2 != 0)) || (y51.2 != 0)) || (y58.2 != 0)) || (y62.2.2 != 0))))) (fun tm0 => ?_) (fun key => ?_)
       ·refine ox_y rfl (y_move_bool rfl) ?_
        refine ox_join 3 (fun tm0 => (upd (upd (upd (upd (upd (upd (upd (upd (upd (upd (upd (upd (upd (upd (upd (upd tm0 0 (.bool false)) 2 (.int .i64 y20.1)) 4 (.slice A25 y23.1.length c26)) 6 (.slice A32 y30.1.length c33)) 8 (.slice A39 y37.1.length c40)) 10 (.slice A46 y44.1.length c47)) 12 (.slice A53 y51.1.length c54)) 14 (.pointer (some ⟨b60,0,none⟩))) 16 (.slice A64 y62.1.length c65)) 17 (.int .i64 y62.2.1)) 19 (.int .i64 y69.1)) 20 (.int .i64 y69.2.1)) 22 (.slice A73 y71.1.length c74)) 23 (.slice A75 y71.2.1.length c76)) 24 (.int .i64 y71.2.2)) 122 (.bool (((((((((y20.2 != 0) || (y23.2 != 0)) || (y30.2 != 0)) || (y37.2 != 0)) || (y44.2 != 0)) || (y51.2 != 0)) || (y58.2 != 0)) || (y62.2.2 != 0)) || (y69.2.2 != 0))))) (fun tm0 => ?_) (fun key => ?_)
        ·refine ox_y rfl (y_move_bool rfl) ?_
         refine ox_join 3 (fun tm0 => (upd (upd (upd (upd (upd (upd (upd (upd (upd (upd (upd (upd (upd (upd (upd tm0 0 (.bool false)) 2 (.int .i64 y20.1)) 4 (.slice A25 y23.1.length c26)) 6 (.slice A32 y30.1.length c33)) 8 (.slice A39 y37.1.length c40)) 10 (.slice A46 y44.1.length c47)) 12 (.slice A53 y51.1.length c54)) 14 (.pointer (some ⟨b60,0,none⟩))) 16 (.slice A64 y62.1.length c65)) 17 (.int .i64 y62.2.1)) 19 (.int .i64 y69.1)) 20 (.int .i64 y69.2.1)) 22 (.slice A73 y71.1.length c74)) 23 (.slice A75 y71.2.1.length c76)) 126 (.bool ((((((((((y20.2 != 0) || (y23.2 != 0)) || (y30.2 != 0)) || (y37.2 != 0)) || (y44.2 != 0)) || (y51.2 != 0)) || (y58.2 != 0)) || (y62.2.2 != 0)) || (y69.2.2 != 0)) || (y71.2.2 != 0))))) (fun tm0 => ?_) (fun key => ?_)
         ·refine oN (eT ?_)
          rcases iOs h with ⟨hp90,h⟩ | ⟨hp90,h⟩
          ·refine cx_true (vB hp90) ?_
           refine cS (cR ?_)
           refine ox_y rfl (y_assign_bool rfl) ?_
           refine oN (eT (cx_ret (ex_then_ret ?_)))
           obtain rfl:=sI h
           exact ex_res1 (.inl rfl) rfl (rVt (v:=.bool false) rfl) (fun W2 hW2 => ⟨rfl,hW2.none⟩)
          ·refine cx_false (vB hp90) ?_
           refine cx_skip (eT (cS (cR ?_)))
           refine ox_y rfl (yMS rfl) ?_
           refine ox_buildSliceE 3 (encL cI [1,3,5]) _ mc_3_3 us_26 ze_3 by_3 (by decide) (by decide) (by kernel_rfl) (encL_len cI_len rfl) rfl (fun b91 => ?_)
           try dsimp only [lna,lca,lsz,lss]
           obtain ⟨y92,hy93,h⟩:=bOs h
           refine ox_y rfl (y_call [.slice A25 y23.1.length c26,.slice (some ⟨b91,0,none⟩) 3 3] go_19 rfl (fun W2 hW2 => ref09_SameInts_ok y23.1 [1,3,5] y92 hy93 W2 A25 y23.1.length c26 rfl ((RdL.row 5 rfl) W2 hW2) (some ⟨b91,0,none⟩) 3 3 rfl ((RdL.row 21 rfl) W2 hW2)) rfl) (ox_y rfl (y_move_bool rfl) ?_)
           obtain ⟨b95,hb96,h⟩:=bOs h
           refine ox_join 4 (fun tm0 => (upd (upd (upd (upd (upd (upd (upd (upd (upd (upd (upd (upd (upd tm0 0 (.bool false)) 2 (.int .i64 y20.1)) 8 (.slice A39 y37.1.length c40)) 10 (.slice A46 y44.1.length c47)) 12 (.slice A53 y51.1.length c54)) 14 (.pointer (some ⟨b60,0,none⟩))) 16 (.slice A64 y62.1.length c65)) 17 (.int .i64 y62.2.1)) 19 (.int .i64 y69.1)) 20 (.int .i64 y69.2.1)) 22 (.slice A73 y71.1.length c74)) 23 (.slice A75 y71.2.1.length c76)) 134 (.bool b95))) (fun tm0 => ?_) (fun key => ?_)
           ·refine ox_y rfl (y_move_bool rfl) ?_
            obtain ⟨b98,hb99,h⟩:=bOs h
            refine ox_join 4 (fun tm0 => (upd (upd (upd (upd (upd (upd (upd (upd (upd (upd (upd (upd tm0 0 (.bool false)) 2 (.int .i64 y20.1)) 10 (.slice A46 y44.1.length c47)) 12 (.slice A53 y51.1.length c54)) 14 (.pointer (some ⟨b60,0,none⟩))) 16 (.slice A64 y62.1.length c65)) 17 (.int .i64 y62.2.1)) 19 (.int .i64 y69.1)) 20 (.int .i64 y69.2.1)) 22 (.slice A73 y71.1.length c74)) 23 (.slice A75 y71.2.1.length c76)) 139 (.bool b98))) (fun tm0 => ?_) (fun key => ?_)
            ·refine ox_y rfl (y_move_bool rfl) ?_
             obtain ⟨b101,hb102,h⟩:=bOs h
             refine ox_join 4 (fun tm0 => (upd (upd (upd (upd (upd (upd (upd (upd (upd (upd (upd tm0 0 (.bool false)) 2 (.int .i64 y20.1)) 12 (.slice A53 y51.1.length c54)) 14 (.pointer (some ⟨b60,0,none⟩))) 16 (.slice A64 y62.1.length c65)) 17 (.int .i64 y62.2.1)) 19 (.int .i64 y69.1)) 20 (.int .i64 y69.2.1)) 22 (.slice A73 y71.1.length c74)) 23 (.slice A75 y71.2.1.length c76)) 144 (.bool b101))) (fun tm0 => ?_) (fun key => ?_)
             ·refine ox_y rfl (y_assign_bool rfl) ?_
              refine oN (eT (cS (cR ?_)))
              refine ox_y rfl (yMS rfl) ?_
              refine ox_buildSliceE 2 (encL cI [13,14]) _ mc_3_2 us_26 ze_3 by_3 (by decide) (by decide) (by kernel_rfl) (encL_len cI_len rfl) rfl (fun b103 => ?_)
              try dsimp only [lna,lca,lsz,lss]
              obtain ⟨y104,hy105,h⟩:=bOs h
              refine ox_y rfl (y_call [.slice A53 y51.1.length c54,.slice (some ⟨b103,0,none⟩) 2 2] go_19 rfl (fun W2 hW2 => ref09_SameInts_ok y51.1 [13,14] y104 hy105 W2 A53 y51.1.length c54 rfl ((RdL.row 13 rfl) W2 hW2) (some ⟨b103,0,none⟩) 2 2 rfl ((RdL.row 22 rfl) W2 hW2)) rfl) (ox_y rfl (y_move_bool rfl) ?_)
              obtain ⟨b107,hb108,h⟩:=bOs h
              refine ox_join 4 (fun tm0 => (upd (upd (upd (upd (upd (upd (upd (upd (upd (upd tm0 0 (.bool false)) 2 (.int .i64 y20.1)) 14 (.pointer (some ⟨b60,0,none⟩))) 17 (.int .i64 y62.2.1)) 19 (.int .i64 y69.1)) 20 (.int .i64 y69.2.1)) 22 (.slice A73 y71.1.length c74)) 23 (.slice A75 y71.2.1.length c76)) 25 (.bool b101)) 152 (.bool b107))) (fun tm0 => ?_) (fun key => ?_)
              ·refine ox_y rfl (y_move_bool rfl) ?_
               obtain ⟨b110,hb111,h⟩:=bOs h
               refine ox_join 4 (fun tm0 => (upd (upd (upd (upd (upd (upd (upd (upd (upd tm0 0 (.bool false)) 2 (.int .i64 y20.1)) 14 (.pointer (some ⟨b60,0,none⟩))) 17 (.int .i64 y62.2.1)) 19 (.int .i64 y69.1)) 20 (.int .i64 y69.2.1)) 23 (.slice A75 y71.2.1.length c76)) 25 (.bool b101)) 157 (.bool b110))) (fun tm0 => ?_) (fun key => ?_)
               ·refine ox_y rfl (y_move_bool rfl) ?_
                obtain ⟨b113,hb114,h⟩:=bOs h
                refine ox_join 4 (fun tm0 => (upd (upd (upd (upd (upd (upd (upd (upd tm0 0 (.bool false)) 2 (.int .i64 y20.1)) 14 (.pointer (some ⟨b60,0,none⟩))) 17 (.int .i64 y62.2.1)) 19 (.int .i64 y69.1)) 20 (.int .i64 y69.2.1)) 25 (.bool b101)) 162 (.bool b113))) (fun tm0 => ?_) (fun key => ?_)
                ·refine ox_y rfl (y_assign_bool rfl) ?_
                 refine oN (eT (cS (cR ?_)))
                 refine ox_y rfl (y_move_bool rfl) (ox_y rfl (y_move_bool rfl) ?_)
                 refine ox_join 2 (fun tm0 => (upd (upd (upd (upd (upd (upd (upd tm0 0 (.bool false)) 2 (.int .i64 y20.1)) 14 (.pointer (some ⟨b60,0,none⟩))) 17 (.int .i64 y62.2.1)) 19 (.int .i64 y69.1)) 20 (.int .i64 y69.2.1)) 166 (.bool (b101 && b113)))) (fun tm0 => ?_) (fun key => ?_)
                 ·refine ox_y rfl (y_move_bool rfl) ?_
                  refine ox_join 3 (fun tm0 => (upd (upd (upd (upd (upd (upd tm0 0 (.bool false)) 14 (.pointer (some ⟨b60,0,none⟩))) 17 (.int .i64 y62.2.1)) 19 (.int .i64 y69.1)) 20 (.int .i64 y69.2.1)) 170 (.bool ((b101 && b113) && (y20.1 == 4))))) (fun tm0 => ?_) (fun key => ?_)
                  ·refine ox_y rfl (y_move_bool rfl) ?_
                   refine ox_join 4 (fun tm0 => (upd (upd (upd (upd (upd tm0 0 (.bool false)) 17 (.int .i64 y62.2.1)) 19 (.int .i64 y69.1)) 20 (.int .i64 y69.2.1)) 175 (.bool (((b101 && b113) && (y20.1 == 4)) && ((y58.1.fNum == 1) && (y58.1.fDen == 4)))))) (fun tm0 => ?_) (fun key => ?_)
                   ·refine ox_y rfl (y_move_bool rfl) ?_
                    refine ox_join 3 (fun tm0 => (upd (upd (upd (upd tm0 0 (.bool false)) 19 (.int .i64 y69.1)) 20 (.int .i64 y69.2.1)) 179 (.bool ((((b101 && b113) && (y20.1 == 4)) && ((y58.1.fNum == 1) && (y58.1.fDen == 4))) && (y62.2.1 == 17))))) (fun tm0 => ?_) (fun key => ?_)
                    ·refine ox_y rfl (y_move_bool rfl) ?_
                     refine ox_join 3 (fun tm0 => (upd (upd (upd tm0 0 (.bool false)) 20 (.int .i64 y69.2.1)) 183 (.bool (((((b101 && b113) && (y20.1 == 4)) && ((y58.1.fNum == 1) && (y58.1.fDen == 4))) && (y62.2.1 == 17)) && (y69.1 == 12))))) (fun tm0 => ?_) (fun key => ?_)
                     ·refine ox_y rfl (y_move_bool rfl) ?_
                      refine ox_join 3 (fun tm0 => (upd (upd tm0 0 (.bool false)) 187 (.bool ((((((b101 && b113) && (y20.1 == 4)) && ((y58.1.fNum == 1) && (y58.1.fDen == 4))) && (y62.2.1 == 17)) && (y69.1 == 12)) && (y69.2.1 == 7))))) (fun tm0 => ?_) (fun key => ?_)
                      ·refine ox_y rfl (y_assign_bool rfl) ?_
                       refine oN (eT (cx_ret ?_))
                       obtain rfl:=sI h
                       exact ex_res1 (.inl rfl) rfl (rVt (v:=.bool ((((((b101 && b113) && (y20.1 == 4)) && ((y58.1.fNum == 1) && (y58.1.fDen == 4))) && (y62.2.1 == 17)) && (y69.1 == 12)) && (y69.2.1 == 7))) rfl) (fun W2 hW2 => ⟨rfl,hW2.none⟩)
                      ·rcases bool_cases (((((b101 && b113) && (y20.1 == 4)) && ((y58.1.fNum == 1) && (y58.1.fDen == 4))) && (y62.2.1 == 17)) && (y69.1 == 12)) with hp120 | hp120
                       ·refine ox_y (sT rfl rfl rfl rfl hp120) (yMI rfl) (ox_y (sT rfl rfl rfl rfl hp120) (y_eql rfl rfl) (ox_y rfl (y_pick_tb (vB hp120) rfl) ?_))
                        exact key _ _ (keep (keep rfl rfl) (vB (and_t hp120)))
                       ·refine oSk (sF rfl rfl rfl rfl hp120) (oSk (sF rfl rfl rfl rfl hp120) (ox_y rfl (y_pick_fb (vB hp120) rfl) ?_))
                        exact key _ _ (keep (keep rfl rfl) (vB (and_f hp120)))
                     ·rcases bool_cases ((((b101 && b113) && (y20.1 == 4)) && ((y58.1.fNum == 1) && (y58.1.fDen == 4))) && (y62.2.1 == 17)) with hp119 | hp119
                      ·refine ox_y (sT rfl rfl rfl rfl hp119) (yMI rfl) (ox_y (sT rfl rfl rfl rfl hp119) (y_eql rfl rfl) (ox_y rfl (y_pick_tb (vB hp119) rfl) ?_))
                       exact key _ _ (keep (keep (keep rfl rfl) rfl) (vB (and_t hp119)))
                      ·refine oSk (sF rfl rfl rfl rfl hp119) (oSk (sF rfl rfl rfl rfl hp119) (ox_y rfl (y_pick_fb (vB hp119) rfl) ?_))
                       exact key _ _ (keep (keep (keep rfl rfl) rfl) (vB (and_f hp119)))
                    ·rcases bool_cases (((b101 && b113) && (y20.1 == 4)) && ((y58.1.fNum == 1) && (y58.1.fDen == 4))) with hp118 | hp118
                     ·refine ox_y (sT rfl rfl rfl rfl hp118) (yMI rfl) (ox_y (sT rfl rfl rfl rfl hp118) (y_eql rfl rfl) (ox_y rfl (y_pick_tb (vB hp118) rfl) ?_))
                      exact key _ _ (keep (keep (keep (keep rfl rfl) rfl) rfl) (vB (and_t hp118)))
                     ·refine oSk (sF rfl rfl rfl rfl hp118) (oSk (sF rfl rfl rfl rfl hp118) (ox_y rfl (y_pick_fb (vB hp118) rfl) ?_))
                      exact key _ _ (keep (keep (keep (keep rfl rfl) rfl) rfl) (vB (and_f hp118)))
                   ·rcases bool_cases ((b101 && b113) && (y20.1 == 4)) with hp117 | hp117
                    ·refine ox_y (sT rfl rfl rfl rfl hp117) (y_loadN 15 [.int .i64 y58.1.fNum,.int .i64 y58.1.fDen] ag_48 rfl rfl rfl) ?_
                     refine ox_y (sT rfl rfl rfl rfl hp117) (y_buildS [.int .i64 1,.int .i64 4] [(0,1),(1,1)] ust_48 ze_48 (by kernel_rfl)) ?_
                     refine ox_y (sT rfl rfl rfl rfl hp117) (y_eqla (b:=((y58.1.fNum == 1) && (y58.1.fDen == 4))) eg_48 rfl rfl (fun _ => (eqS2 fl_48 (part1 sc_3 rfl) (part1 sc_3 rfl) (part1 sc_3 rfl) (part1 sc_3 rfl) (run_equalIn_int _ _ _ _ _ _ _ ui_3) (run_equalIn_int _ _ _ _ _ _ _ ui_3)))) (ox_y rfl (y_pick_tb (vB hp117) rfl) ?_)
                     exact key _ _ (keep (keep (keep (keep (keep rfl rfl) rfl) rfl) rfl) (vB (and_t hp117)))
                    ·refine oSk (sF rfl rfl rfl rfl hp117) (oSk (sF rfl rfl rfl rfl hp117) (oSk (sF rfl rfl rfl rfl hp117) (ox_y rfl (y_pick_fb (vB hp117) rfl) ?_)))
                     exact key _ _ (keep (keep (keep (keep (keep rfl rfl) rfl) rfl) rfl) (vB (and_f hp117)))
                  ·rcases bool_cases (b101 && b113) with hp116 | hp116
                   ·refine ox_y (sT rfl rfl rfl rfl hp116) (yMI rfl) (ox_y (sT rfl rfl rfl rfl hp116) (y_eql rfl rfl) (ox_y rfl (y_pick_tb (vB hp116) rfl) ?_))
                    exact key _ _ (keep (keep (keep (keep (keep (keep rfl rfl) rfl) rfl) rfl) rfl) (vB (and_t hp116)))
                   ·refine oSk (sF rfl rfl rfl rfl hp116) (oSk (sF rfl rfl rfl rfl hp116) (ox_y rfl (y_pick_fb (vB hp116) rfl) ?_))
                    exact key _ _ (keep (keep (keep (keep (keep (keep rfl rfl) rfl) rfl) rfl) rfl) (vB (and_f hp116)))
                 ·rcases bool_cases b101 with hp115 | hp115
                  ·refine ox_y (sT rfl rfl rfl rfl hp115) (y_move_bool rfl) (ox_y rfl (y_pick_tb (vB hp115) rfl) ?_)
                   exact key _ _ (keep (keep (keep (keep (keep (keep (keep rfl rfl) rfl) rfl) rfl) rfl) rfl) (vB (and_t hp115)))
                  ·refine oSk (sF rfl rfl rfl rfl hp115) (ox_y rfl (y_pick_fb (vB hp115) rfl) ?_)
                   exact key _ _ (keep (keep (keep (keep (keep (keep (keep rfl rfl) rfl) rfl) rfl) rfl) rfl) (vB (and_f hp115)))
                ·clear h; rcases iOs hb114 with ⟨hp112,h⟩ | ⟨hp112,h⟩
                 ·refine ox_y (sT rfl rfl rfl rfl hp112) (yMS rfl) ?_
                  refine ox_buildSliceE 2 (encL cI [1,2]) _ mc_3_2 us_26 ze_3 by_3 (by decide) (by decide) (by kernel_rfl) (encL_len cI_len rfl) (sT rfl rfl rfl rfl hp112) (fun b121 => ?_)
                  try dsimp only [lna,lca,lsz,lss]
                  obtain ⟨y122,hy123,h⟩:=bOs h
                  refine ox_y (sT rfl rfl rfl rfl hp112) (y_call [.slice A75 y71.2.1.length c76,.slice (some ⟨b121,0,none⟩) 2 2] go_19 rfl (fun W2 hW2 => ref09_SameInts_ok y71.2.1 [1,2] y122 hy123 W2 A75 y71.2.1.length c76 rfl ((RdL.row 20 rfl) W2 hW2) (some ⟨b121,0,none⟩) 2 2 rfl ((RdL.row 23 rfl) W2 hW2)) rfl) (ox_y rfl (y_pick_tb (vB hp112) rfl) ?_)
                  obtain rfl:=sI h
                  refine ox_take 23 ?_
                  exact key _ _ (kp4 (kp4 rfl))
                 ·refine oSk (sF rfl rfl rfl rfl hp112) (oSk (sF rfl rfl rfl rfl hp112) (oSk (sF rfl rfl rfl rfl hp112) (ox_y rfl (y_pick_fb (vB hp112) rfl) ?_)))
                  obtain rfl:=sI h
                  exact key _ _ (kp4 (kp4 rfl))
               ·clear h; rcases iOs hb111 with ⟨hp109,h⟩ | ⟨hp109,h⟩
                ·refine ox_y (sT rfl rfl rfl rfl hp109) (yMS rfl) ?_
                 refine ox_buildSliceE 1 (encL cI [1]) _ mc_3_1 us_26 ze_3 by_3 (by decide) (by decide) (by kernel_rfl) (encL_len cI_len rfl) (sT rfl rfl rfl rfl hp109) (fun b124 => ?_)
                 try dsimp only [lna,lca,lsz,lss]
                 obtain ⟨y125,hy126,h⟩:=bOs h
                 refine ox_y (sT rfl rfl rfl rfl hp109) (y_call [.slice A73 y71.1.length c74,.slice (some ⟨b124,0,none⟩) 1 1] go_19 rfl (fun W2 hW2 => ref09_SameInts_ok y71.1 [1] y125 hy126 W2 A73 y71.1.length c74 rfl ((RdL.row 19 rfl) W2 hW2) (some ⟨b124,0,none⟩) 1 1 rfl ((RdL.row 23 rfl) W2 hW2)) rfl) (ox_y rfl (y_pick_tb (vB hp109) rfl) ?_)
                 obtain rfl:=sI h
                 refine ox_take 23 ?_
                 exact key _ _ (kp4 (kp4 (kp rfl)))
                ·refine oSk (sF rfl rfl rfl rfl hp109) (oSk (sF rfl rfl rfl rfl hp109) (oSk (sF rfl rfl rfl rfl hp109) (ox_y rfl (y_pick_fb (vB hp109) rfl) ?_)))
                 obtain rfl:=sI h
                 exact key _ _ (kp4 (kp4 (kp rfl)))
              ·clear h; rcases iOs hb108 with ⟨hp106,h⟩ | ⟨hp106,h⟩
               ·refine ox_y (sT rfl rfl rfl rfl hp106) (yMS rfl) ?_
                refine ox_buildSliceE 2 (encL cI [5,6]) _ mc_3_2 us_26 ze_3 by_3 (by decide) (by decide) (by kernel_rfl) (encL_len cI_len rfl) (sT rfl rfl rfl rfl hp106) (fun b127 => ?_)
                try dsimp only [lna,lca,lsz,lss]
                obtain ⟨y128,hy129,h⟩:=bOs h
                refine ox_y (sT rfl rfl rfl rfl hp106) (y_call [.slice A64 y62.1.length c65,.slice (some ⟨b127,0,none⟩) 2 2] go_19 rfl (fun W2 hW2 => ref09_SameInts_ok y62.1 [5,6] y128 hy129 W2 A64 y62.1.length c65 rfl ((RdL.row 17 rfl) W2 hW2) (some ⟨b127,0,none⟩) 2 2 rfl ((RdL.row 23 rfl) W2 hW2)) rfl) (ox_y rfl (y_pick_tb (vB hp106) rfl) ?_)
                obtain rfl:=sI h
                refine ox_take 23 ?_
                exact key _ _ (kp4 (kp4 (kp (kp rfl))))
               ·refine oSk (sF rfl rfl rfl rfl hp106) (oSk (sF rfl rfl rfl rfl hp106) (oSk (sF rfl rfl rfl rfl hp106) (ox_y rfl (y_pick_fb (vB hp106) rfl) ?_)))
                obtain rfl:=sI h
                exact key _ _ (kp4 (kp4 (kp (kp rfl))))
             ·clear h; rcases iOs hb102 with ⟨hp100,h⟩ | ⟨hp100,h⟩
              ·refine ox_y (sT rfl rfl rfl rfl hp100) (yMS rfl) ?_
               refine ox_buildSliceE 1 (encL cI [4]) _ mc_3_1 us_26 ze_3 by_3 (by decide) (by decide) (by kernel_rfl) (encL_len cI_len rfl) (sT rfl rfl rfl rfl hp100) (fun b130 => ?_)
               try dsimp only [lna,lca,lsz,lss]
               obtain ⟨y131,hy132,h⟩:=bOs h
               refine ox_y (sT rfl rfl rfl rfl hp100) (y_call [.slice A46 y44.1.length c47,.slice (some ⟨b130,0,none⟩) 1 1] go_19 rfl (fun W2 hW2 => ref09_SameInts_ok y44.1 [4] y131 hy132 W2 A46 y44.1.length c47 rfl ((RdL.row 11 rfl) W2 hW2) (some ⟨b130,0,none⟩) 1 1 rfl ((RdL.row 22 rfl) W2 hW2)) rfl) (ox_y rfl (y_pick_tb (vB hp100) rfl) ?_)
               obtain rfl:=sI h
               refine ox_take 22 ?_
               exact key _ _ (kp4 (kp4 (kp (kp (kp rfl)))))
              ·refine oSk (sF rfl rfl rfl rfl hp100) (oSk (sF rfl rfl rfl rfl hp100) (oSk (sF rfl rfl rfl rfl hp100) (ox_y rfl (y_pick_fb (vB hp100) rfl) ?_)))
               obtain rfl:=sI h
               exact key _ _ (kp4 (kp4 (kp (kp (kp rfl)))))
            ·clear h; rcases iOs hb99 with ⟨hp97,h⟩ | ⟨hp97,h⟩
             ·refine ox_y (sT rfl rfl rfl rfl hp97) (yMS rfl) ?_
              refine ox_buildSliceE 2 (encL cI [12,14]) _ mc_3_2 us_26 ze_3 by_3 (by decide) (by decide) (by kernel_rfl) (encL_len cI_len rfl) (sT rfl rfl rfl rfl hp97) (fun b133 => ?_)
              try dsimp only [lna,lca,lsz,lss]
              obtain ⟨y134,hy135,h⟩:=bOs h
              refine ox_y (sT rfl rfl rfl rfl hp97) (y_call [.slice A39 y37.1.length c40,.slice (some ⟨b133,0,none⟩) 2 2] go_19 rfl (fun W2 hW2 => ref09_SameInts_ok y37.1 [12,14] y134 hy135 W2 A39 y37.1.length c40 rfl ((RdL.row 9 rfl) W2 hW2) (some ⟨b133,0,none⟩) 2 2 rfl ((RdL.row 22 rfl) W2 hW2)) rfl) (ox_y rfl (y_pick_tb (vB hp97) rfl) ?_)
              obtain rfl:=sI h
              refine ox_take 22 ?_
              exact key _ _ (kp4 (kp4 (kp4 rfl)))
             ·refine oSk (sF rfl rfl rfl rfl hp97) (oSk (sF rfl rfl rfl rfl hp97) (oSk (sF rfl rfl rfl rfl hp97) (ox_y rfl (y_pick_fb (vB hp97) rfl) ?_)))
              obtain rfl:=sI h
              exact key _ _ (kp4 (kp4 (kp4 rfl)))
           ·clear h; rcases iOs hb96 with ⟨hp94,h⟩ | ⟨hp94,h⟩
            ·refine ox_y (sT rfl rfl rfl rfl hp94) (yMS rfl) ?_
             refine ox_buildSliceE 4 (encL cI [2,4,5,6]) _ mc_3_4 us_26 ze_3 by_3 (by decide) (by decide) (by kernel_rfl) (encL_len cI_len rfl) (sT rfl rfl rfl rfl hp94) (fun b136 => ?_)
             try dsimp only [lna,lca,lsz,lss]
             obtain ⟨y137,hy138,h⟩:=bOs h
             refine ox_y (sT rfl rfl rfl rfl hp94) (y_call [.slice A32 y30.1.length c33,.slice (some ⟨b136,0,none⟩) 4 4] go_19 rfl (fun W2 hW2 => ref09_SameInts_ok y30.1 [2,4,5,6] y137 hy138 W2 A32 y30.1.length c33 rfl ((RdL.row 7 rfl) W2 hW2) (some ⟨b136,0,none⟩) 4 4 rfl ((RdL.row 22 rfl) W2 hW2)) rfl) (ox_y rfl (y_pick_tb (vB hp94) rfl) ?_)
             obtain rfl:=sI h
             refine ox_take 22 ?_
             exact key _ _ (kp4 (kp4 (kp4 (kp rfl))))
            ·refine oSk (sF rfl rfl rfl rfl hp94) (oSk (sF rfl rfl rfl rfl hp94) (oSk (sF rfl rfl rfl rfl hp94) (ox_y rfl (y_pick_fb (vB hp94) rfl) ?_)))
             obtain rfl:=sI h
             exact key _ _ (kp4 (kp4 (kp4 (kp rfl))))
         ·rcases bool_cases (((((((((y20.2 != 0) || (y23.2 != 0)) || (y30.2 != 0)) || (y37.2 != 0)) || (y44.2 != 0)) || (y51.2 != 0)) || (y58.2 != 0)) || (y62.2.2 != 0)) || (y69.2.2 != 0)) with hp89 | hp89
          ·refine oSk (sF rfl rfl rfl rfl hp89) (oSk (sF rfl rfl rfl rfl hp89) (ox_y rfl (y_pick_tb (vB hp89) rfl) ?_))
           exact key _ _ (keep (keep (keep (keep (keep (keep (keep (keep (keep (keep (keep (keep (keep (keep (keep rfl rfl) rfl) rfl) rfl) rfl) rfl) rfl) rfl) rfl) rfl) rfl) rfl) rfl) rfl) (vB (or_t hp89)))
          ·refine ox_y (sT rfl rfl rfl rfl hp89) (yMI rfl) (ox_y (sT rfl rfl rfl rfl hp89) (y_neq rfl rfl) (ox_y rfl (y_pick_fb (vB hp89) rfl) ?_))
           exact key _ _ (keep (keep (keep (keep (keep (keep (keep (keep (keep (keep (keep (keep (keep (keep (keep rfl rfl) rfl) rfl) rfl) rfl) rfl) rfl) rfl) rfl) rfl) rfl) rfl) rfl) rfl) (vB (or_f hp89)))
        ·rcases bool_cases ((((((((y20.2 != 0) || (y23.2 != 0)) || (y30.2 != 0)) || (y37.2 != 0)) || (y44.2 != 0)) || (y51.2 != 0)) || (y58.2 != 0)) || (y62.2.2 != 0)) with hp88 | hp88
         ·refine oSk (sF rfl rfl rfl rfl hp88) (oSk (sF rfl rfl rfl rfl hp88) (ox_y rfl (y_pick_tb (vB hp88) rfl) ?_))
          exact key _ _ (keep (keep (keep (keep (keep (keep (keep (keep (keep (keep (keep (keep (keep (keep (keep (keep rfl rfl) rfl) rfl) rfl) rfl) rfl) rfl) rfl) rfl) rfl) rfl) rfl) rfl) rfl) rfl) (vB (or_t hp88)))
         ·refine ox_y (sT rfl rfl rfl rfl hp88) (yMI rfl) (ox_y (sT rfl rfl rfl rfl hp88) (y_neq rfl rfl) (ox_y rfl (y_pick_fb (vB hp88) rfl) ?_))
          exact key _ _ (keep (keep (keep (keep (keep (keep (keep (keep (keep (keep (keep (keep (keep (keep (keep (keep rfl rfl) rfl) rfl) rfl) rfl) rfl) rfl) rfl) rfl) rfl) rfl) rfl) rfl) rfl) rfl) (vB (or_f hp88)))
       ·rcases bool_cases (((((((y20.2 != 0) || (y23.2 != 0)) || (y30.2 != 0)) || (y37.2 != 0)) || (y44.2 != 0)) || (y51.2 != 0)) || (y58.2 != 0)) with hp87 | hp87
        ·refine oSk (sF rfl rfl rfl rfl hp87) (oSk (sF rfl rfl rfl rfl hp87) (ox_y rfl (y_pick_tb (vB hp87) rfl) ?_))
         exact key _ _ (keep (keep (keep (keep (keep (keep (keep (keep (keep (keep (keep (keep (keep (keep (keep (keep (keep rfl rfl) rfl) rfl) rfl) rfl) rfl) rfl) rfl) rfl) rfl) rfl) rfl) rfl) rfl) rfl) rfl) (vB (or_t hp87)))
        ·refine ox_y (sT rfl rfl rfl rfl hp87) (yMI rfl) (ox_y (sT rfl rfl rfl rfl hp87) (y_neq rfl rfl) (ox_y rfl (y_pick_fb (vB hp87) rfl) ?_))
         exact key _ _ (keep (keep (keep (keep (keep (keep (keep (keep (keep (keep (keep (keep (keep (keep (keep (keep (keep rfl rfl) rfl) rfl) rfl) rfl) rfl) rfl) rfl) rfl) rfl) rfl) rfl) rfl) rfl) rfl) rfl) (vB (or_f hp87)))
      ·rcases bool_cases ((((((y20.2 != 0) || (y23.2 != 0)) || (y30.2 != 0)) || (y37.2 != 0)) || (y44.2 != 0)) || (y51.2 != 0)) with hp86 | hp86
       ·refine oSk (sF rfl rfl rfl rfl hp86) (oSk (sF rfl rfl rfl rfl hp86) (ox_y rfl (y_pick_tb (vB hp86) rfl) ?_))
        exact key _ _ (keep (keep (keep (keep (keep (keep (keep (keep (keep (keep (keep (keep (keep (keep (keep (keep (keep (keep rfl rfl) rfl) rfl) rfl) rfl) rfl) rfl) rfl) rfl) rfl) rfl) rfl) rfl) rfl) rfl) rfl) rfl) (vB (or_t hp86)))
       ·refine ox_y (sT rfl rfl rfl rfl hp86) (yMI rfl) (ox_y (sT rfl rfl rfl rfl hp86) (y_neq rfl rfl) (ox_y rfl (y_pick_fb (vB hp86) rfl) ?_))
        exact key _ _ (keep (keep (keep (keep (keep (keep (keep (keep (keep (keep (keep (keep (keep (keep (keep (keep (keep (keep rfl rfl) rfl) rfl) rfl) rfl) rfl) rfl) rfl) rfl) rfl) rfl) rfl) rfl) rfl) rfl) rfl) rfl) (vB (or_f hp86)))
     ·rcases bool_cases (((((y20.2 != 0) || (y23.2 != 0)) || (y30.2 != 0)) || (y37.2 != 0)) || (y44.2 != 0)) with hp85 | hp85
      ·refine oSk (sF rfl rfl rfl rfl hp85) (oSk (sF rfl rfl rfl rfl hp85) (ox_y rfl (y_pick_tb (vB hp85) rfl) ?_))
       exact key _ _ (keep (keep (keep (keep (keep (keep (keep (keep (keep (keep (keep (keep (keep (keep (keep (keep (keep (keep (keep rfl rfl) rfl) rfl) rfl) rfl) rfl) rfl) rfl) rfl) rfl) rfl) rfl) rfl) rfl) rfl) rfl) rfl) rfl) (vB (or_t hp85)))
      ·refine ox_y (sT rfl rfl rfl rfl hp85) (yMI rfl) (ox_y (sT rfl rfl rfl rfl hp85) (y_neq rfl rfl) (ox_y rfl (y_pick_fb (vB hp85) rfl) ?_))
       exact key _ _ (keep (keep (keep (keep (keep (keep (keep (keep (keep (keep (keep (keep (keep (keep (keep (keep (keep (keep (keep rfl rfl) rfl) rfl) rfl) rfl) rfl) rfl) rfl) rfl) rfl) rfl) rfl) rfl) rfl) rfl) rfl) rfl) rfl) (vB (or_f hp85)))
    ·rcases bool_cases ((((y20.2 != 0) || (y23.2 != 0)) || (y30.2 != 0)) || (y37.2 != 0)) with hp84 | hp84
     ·refine oSk (sF rfl rfl rfl rfl hp84) (oSk (sF rfl rfl rfl rfl hp84) (ox_y rfl (y_pick_tb (vB hp84) rfl) ?_))
      exact key _ _ (keep (keep (keep (keep (keep (keep (keep (keep (keep (keep (keep (keep (keep (keep (keep (keep (keep (keep (keep (keep rfl rfl) rfl) rfl) rfl) rfl) rfl) rfl) rfl) rfl) rfl) rfl) rfl) rfl) rfl) rfl) rfl) rfl) rfl) rfl) (vB (or_t hp84)))
     ·refine ox_y (sT rfl rfl rfl rfl hp84) (yMI rfl) (ox_y (sT rfl rfl rfl rfl hp84) (y_neq rfl rfl) (ox_y rfl (y_pick_fb (vB hp84) rfl) ?_))
      exact key _ _ (keep (keep (keep (keep (keep (keep (keep (keep (keep (keep (keep (keep (keep (keep (keep (keep (keep (keep (keep (keep rfl rfl) rfl) rfl) rfl) rfl) rfl) rfl) rfl) rfl) rfl) rfl) rfl) rfl) rfl) rfl) rfl) rfl) rfl) rfl) (vB (or_f hp84)))
   ·rcases bool_cases (((y20.2 != 0) || (y23.2 != 0)) || (y30.2 != 0)) with hp83 | hp83
    ·refine oSk (sF rfl rfl rfl rfl hp83) (oSk (sF rfl rfl rfl rfl hp83) (ox_y rfl (y_pick_tb (vB hp83) rfl) ?_))
     exact key _ _ (keep (keep (keep (keep (keep (keep (keep (keep (keep (keep (keep (keep (keep (keep (keep (keep (keep (keep (keep (keep (keep rfl rfl) rfl) rfl) rfl) rfl) rfl) rfl) rfl) rfl) rfl) rfl) rfl) rfl) rfl) rfl) rfl) rfl) rfl) rfl) rfl) (vB (or_t hp83)))
    ·refine ox_y (sT rfl rfl rfl rfl hp83) (yMI rfl) (ox_y (sT rfl rfl rfl rfl hp83) (y_neq rfl rfl) (ox_y rfl (y_pick_fb (vB hp83) rfl) ?_))
     exact key _ _ (keep (keep (keep (keep (keep (keep (keep (keep (keep (keep (keep (keep (keep (keep (keep (keep (keep (keep (keep (keep (keep rfl rfl) rfl) rfl) rfl) rfl) rfl) rfl) rfl) rfl) rfl) rfl) rfl) rfl) rfl) rfl) rfl) rfl) rfl) rfl) rfl) (vB (or_f hp83)))
  ·rcases bool_cases ((y20.2 != 0) || (y23.2 != 0)) with hp82 | hp82
   ·refine oSk (sF rfl rfl rfl rfl hp82) (oSk (sF rfl rfl rfl rfl hp82) (ox_y rfl (y_pick_tb (vB hp82) rfl) ?_))
    exact key _ _ (keep (keep (keep (keep (keep (keep (keep (keep (keep (keep (keep (keep (keep (keep (keep (keep (keep (keep (keep (keep (keep (keep rfl rfl) rfl) rfl) rfl) rfl) rfl) rfl) rfl) rfl) rfl) rfl) rfl) rfl) rfl) rfl) rfl) rfl) rfl) rfl) rfl) rfl) (vB (or_t hp82)))
   ·refine ox_y (sT rfl rfl rfl rfl hp82) (yMI rfl) (ox_y (sT rfl rfl rfl rfl hp82) (y_neq rfl rfl) (ox_y rfl (y_pick_fb (vB hp82) rfl) ?_))
    exact key _ _ (keep (keep (keep (keep (keep (keep (keep (keep (keep (keep (keep (keep (keep (keep (keep (keep (keep (keep (keep (keep (keep (keep rfl rfl) rfl) rfl) rfl) rfl) rfl) rfl) rfl) rfl) rfl) rfl) rfl) rfl) rfl) rfl) rfl) rfl) rfl) rfl) rfl) rfl) (vB (or_f hp82)))
 ·rcases bool_cases (y20.2 != 0) with hp81 | hp81
  ·refine oSk (sF rfl rfl rfl rfl hp81) (oSk (sF rfl rfl rfl rfl hp81) (ox_y rfl (y_pick_tb (vB hp81) rfl) ?_))
   exact key _ _ (keep (keep (keep (keep (keep (keep (keep (keep (keep (keep (keep (keep (keep (keep (keep (keep (keep (keep (keep (keep (keep (keep (keep rfl rfl) rfl) rfl) rfl) rfl) rfl) rfl) rfl) rfl) rfl) rfl) rfl) rfl) rfl) rfl) rfl) rfl) rfl) rfl) rfl) rfl) rfl) (vB (or_t hp81)))
  ·refine ox_y (sT rfl rfl rfl rfl hp81) (yMI rfl) (ox_y (sT rfl rfl rfl rfl hp81) (y_neq rfl rfl) (ox_y rfl (y_pick_fb (vB hp81) rfl) ?_))
   exact key _ _ (keep (keep (keep (keep (keep (keep (keep (keep (keep (keep (keep (keep (keep (keep (keep (keep (keep (keep (keep (keep (keep (keep (keep rfl rfl) rfl) rfl) rfl) rfl) rfl) rfl) rfl) rfl) rfl) rfl) rfl) rfl) rfl) rfl) rfl) rfl) rfl) rfl) rfl) rfl) rfl) (vB (or_f hp81)))
theorem calxlaw09_few_ok (p0:TL) (res:Bool) (h:calxlaw09_few p0 = some res) (W:World) (Aa:Option Addr) (n0_0 ca : Nat) (hn0_0:n0_0 = p0.fNo.length) (hr0_0:Rd W Aa n0_0 ca (encL TNode_cells p0.fNo)) (Ab:Option Addr) (n0_1 cb : Nat) (ys0_1:List (Hd × TC)) (hn0_1:n0_1 = p0.fC.length) (hr0_1:Rd W Ab n0_1 cb (encL TClaim_cells2 ys0_1)) (hN0_1:NestW W (fun z : TC => z.fO) THop_cells ys0_1 p0.fC) :
  Calls Tryz.prog 14 [.agg #[.slice Aa n0_0 ca,.slice Ab n0_1 cb]].toArray W fun e W2 => e = .returned (.bool res) ∧ Ext W W2 []:=by
 subst hn0_0
 subst hn0_1
 unfold calxlaw09_few at h
 refine calls_enter (m:=73) Tryz.func14 rfl rfl (nB rfl) ?_
 refine cS (cR ?_)
 refine ox_box [.slice Aa p0.fNo.length ca,.slice Ab p0.fC.length cb] rfl rfl rfl (fun b1 => ?_)
 refine ox_y rfl (y_assign_bool rfl) ?_
 refine oN (eT (cS (cR ?_)))
 refine ox_y rfl (yAI rfl) ?_
 refine oN (eT (cS (cS (cR ?_))))
 refine ox_y rfl (yAI rfl) ?_
 refine oN (eT (cx_block ?_))
 obtain ⟨u4,hl8,h⟩:=bOs h
 refine cx_loop (fun (s:(Bool × Int × Int)) L tm => ∃ (tm0:Nat → Value),L = [cellsR b1 25 [.slice Aa p0.fNo.length ca,.slice Ab p0.fC.length cb]] ∧ tm = (upd (upd (upd (upd (upd tm0 0 (.agg #[.slice Aa p0.fNo.length ca,.slice Ab p0.fC.length cb])) 1 (.pointer (some ⟨b1,0,none⟩))) 2 (.bool s.1)) 3 (.int .i64 s.2.1)) 4 (.int .i64 s.2.2))) (fun | (.inl s),e,L,tm => e = .ret ∧ ∃ (tm0:Nat → Value),L = [cellsR b1 25 [.slice Aa p0.fNo.length ca,.slice Ab p0.fC.length cb]] ∧ tm = (upd (upd (upd (upd (upd tm0 0 (.agg #[.slice Aa p0.fNo.length ca,.slice Ab p0.fC.length cb])) 1 (.pointer (some ⟨b1,0,none⟩))) 2 (.bool s.1)) 3 (.int .i64 s.2.1)) 4 (.int .i64 s.2.2)) | (.inr s),e,L,tm => e = .exit 0 ∧ ∃ (tm0:Nat → Value),L = [cellsR b1 25 [.slice Aa p0.fNo.length ca,.slice Ab p0.fC.length cb]] ∧ tm = (upd (upd (upd (upd (upd tm0 0 (.agg #[.slice Aa p0.fNo.length ca,.slice Ab p0.fC.length cb])) 1 (.pointer (some ⟨b1,0,none⟩))) 2 (.bool s.1)) 3 (.int .i64 s.2.1)) 4 (.int .i64 s.2.2))) hl8 ⟨_,rfl,(kp4 (kp rfl))⟩ ?_ ?_
 ·rintro s3 L tm st ⟨tm0_s3,rfl,rfl⟩ h
  unfold calxlaw09_few_l1 at h
  refine cS (cS (cR ?_))
  refine ox_y rfl (yMI rfl) (ox_y rfl (yFA fo_25_1 rfl) (ox_y rfl (y_load1 0 (v:=.slice Ab p0.fC.length cb) sc_23 rfl rfl rfl) (ox_y rfl (y_len (us:=[]) us_23 rfl) (ox_y rfl (y_lss rfl rfl) ?_))))
  refine oN (eT ?_)
  rcases iOs h with ⟨hp5,h⟩ | ⟨hp5,h⟩
  ·refine cx_true (vB hp5) ?_
   refine cx_skip (eT (cS (cx_block (cS (cR ?_)))))
   refine ox_y rfl (yFA fo_25_1 rfl) (ox_y rfl (y_load1 0 (v:=.slice Ab p0.fC.length cb) sc_23 rfl rfl rfl) (ox_y rfl (yMI rfl) ?_))
   obtain ⟨hg6,h⟩:=gOs h
   refine ox_y rfl (y_indexR sl_23 (by decide) hg6.1 hg6.2 (RdL.arg hr0_1) (encL_len TClaim_cells2_len (NestP.hn hN0_1.p rfl)) rfl rfl) ?_
   refine ox_y rfl (y_fieldAddrR (A:=Ab) (j:=(Int.toNat s3.2.2 * 2)) fo_90_1 rfl) (ox_y rfl (y_loadR1 (A:=Ab) (j:=((Int.toNat s3.2.2 * 2) + 1)) (v:=.slice ((rdL ys0_1 s3.2.2).1.1) ((rdL p0.fC s3.2.2).fO.length) ((rdL ys0_1 s3.2.2).1.2.2)) sc_88 (RdL.arg hr0_1) rfl (encL_get TClaim_cells2_len hg6.1 (lt_nat hg6.2 (NestP.hn hN0_1.p rfl)) (congrArg (fun n : Nat => some (Value.slice (rdL ys0_1 s3.2.2).1.1 n (rdL ys0_1 s3.2.2).1.2.2)) (NestP.len hN0_1.p hg6.1 (lt_nat hg6.2 rfl))))) (ox_y rfl (y_len (us:=[]) us_88 rfl) (ox_y rfl (yAI rfl) ?_)))
   refine oN (eT (cS (cS (cR ?_))))
   refine ox_y rfl (yMI rfl) (ox_y rfl (y_gtr rfl rfl) ?_)
   refine oN (eT ?_)
   rcases iOs h with ⟨hp7,h⟩ | ⟨hp7,h⟩
   ·refine cx_true (vB hp7) ?_
    refine cS (cR ?_)
    refine ox_y rfl (y_assign_bool rfl) ?_
    refine oN (eT (cx_ret (ex_then_ret (ex_block_ret (ex_then_ret ?_)))))
    obtain rfl:=sI h
    exact ex_stop ⟨rfl,_,rfl,(kp4 (kp rfl))⟩
   ·refine cx_false (vB hp7) ?_
    refine cx_skip (eT (cR ?_))
    refine ox_y rfl (yMI rfl) (ox_y rfl (yMI rfl) (ox_y rfl (y_max rfl rfl) (ox_y rfl (y_mul rfl rfl) (ox_y rfl (y_min rfl rfl) (ox_y rfl (yAI rfl) (oN (ex_block ?_)))))))
    refine eT (cR ?_)
    refine ox_y rfl (yMI rfl) (ox_y rfl (y_add rfl rfl) (ox_y rfl (yAI rfl) (oN ?_)))
    obtain rfl:=sI h
    exact ex_next ⟨_,rfl,(kp4 (kp rfl))⟩
  ·refine cx_false (vB hp5) (cx_exit (ex_then_exit ?_))
   obtain rfl:=sI h
   exact ex_stop ⟨rfl,_,rfl,(kp4 (kp rfl))⟩
 ·intro e L tm hJ
  rcases u4 with u9 | u10
  ·dsimp only at h hJ
   obtain ⟨rfl,tm0_u9,rfl,rfl⟩:=hJ
   refine ⟨(by intro hc; cases hc),?_⟩
   refine ex_block_ret (ex_then_ret ?_)
   obtain rfl:=sI h
   exact ex_res1 (.inl rfl) rfl (rVt (v:=.bool u9.1) rfl) (fun W2 hW2 => ⟨rfl,hW2.none⟩)
  ·dsimp only at h hJ
   obtain ⟨rfl,tm0_u10,rfl,rfl⟩:=hJ
   refine ⟨(by intro hc; cases hc),?_⟩
   refine ex_block_here ?_
   refine eT (cS (cR ?_))
   refine ox_y rfl (yFA fo_25_0 rfl) (ox_y rfl (y_load1 0 (v:=.slice Aa p0.fNo.length ca) sc_22 rfl rfl rfl) (ox_y rfl (y_len (us:=[]) us_22 rfl) (ox_y rfl (y_leq rfl rfl) (ox_y rfl (y_move_bool rfl) ?_))))
   refine ox_join 11 (fun tm0 => (upd (upd (upd (upd tm0 1 (.pointer (some ⟨b1,0,none⟩))) 2 (.bool u10.1)) 3 (.int .i64 u10.2.1)) 44 (.bool ((decide ((p0.fNo.length:Int) ≤ 12)) || ((decide (60 < (p0.fNo.length:Int))) && (decide ((p0.fNo.length:Int) ≤ 80))))))) (fun tm0 => ?_) (fun key => ?_)
   ·refine ox_y rfl (y_assign_bool rfl) ?_
    refine oN (eT (cS (cR ?_)))
    refine ox_y rfl (yFA fo_25_1 rfl) (ox_y rfl (y_load1 0 (v:=.slice Ab p0.fC.length cb) sc_23 rfl rfl rfl) (ox_y rfl (y_len (us:=[]) us_23 rfl) (ox_y rfl (y_leq rfl rfl) (ox_y rfl (y_move_bool rfl) ?_))))
    refine ox_join 11 (fun tm0 => (upd (upd (upd (upd tm0 2 (.bool u10.1)) 3 (.int .i64 u10.2.1)) 6 (.bool ((decide ((p0.fNo.length:Int) ≤ 12)) || ((decide (60 < (p0.fNo.length:Int))) && (decide ((p0.fNo.length:Int) ≤ 80)))))) 60 (.bool ((decide ((p0.fC.length:Int) ≤ 12)) || ((decide (80 < (p0.fC.length:Int))) && (decide ((p0.fC.length:Int) ≤ 100))))))) (fun tm0 => ?_) (fun key => ?_)
    ·refine ox_y rfl (y_assign_bool rfl) ?_
     refine oN (eT (cS (cR ?_)))
     refine ox_y rfl (y_move_bool rfl) (ox_y rfl (y_move_bool rfl) ?_)
     refine ox_join 2 (fun tm0 => (upd (upd (upd tm0 2 (.bool u10.1)) 3 (.int .i64 u10.2.1)) 64 (.bool (((decide ((p0.fNo.length:Int) ≤ 12)) || ((decide (60 < (p0.fNo.length:Int))) && (decide ((p0.fNo.length:Int) ≤ 80)))) && ((decide ((p0.fC.length:Int) ≤ 12)) || ((decide (80 < (p0.fC.length:Int))) && (decide ((p0.fC.length:Int) ≤ 100)))))))) (fun tm0 => ?_) (fun key => ?_)
     ·refine ox_y rfl (y_move_bool rfl) ?_
      refine ox_join 7 (fun tm0 => (upd (upd tm0 2 (.bool u10.1)) 72 (.bool ((((decide ((p0.fNo.length:Int) ≤ 12)) || ((decide (60 < (p0.fNo.length:Int))) && (decide ((p0.fNo.length:Int) ≤ 80)))) && ((decide ((p0.fC.length:Int) ≤ 12)) || ((decide (80 < (p0.fC.length:Int))) && (decide ((p0.fC.length:Int) ≤ 100))))) && ((decide (u10.2.1 ≤ 64)) || (decide (4096 < u10.2.1))))))) (fun tm0 => ?_) (fun key => ?_)
      ·refine ox_y rfl (y_assign_bool rfl) ?_
       refine oN (eT (cx_ret ?_))
       obtain rfl:=sI h
       exact ex_res1 (.inl rfl) rfl (rVt (v:=.bool ((((decide ((p0.fNo.length:Int) ≤ 12)) || ((decide (60 < (p0.fNo.length:Int))) && (decide ((p0.fNo.length:Int) ≤ 80)))) && ((decide ((p0.fC.length:Int) ≤ 12)) || ((decide (80 < (p0.fC.length:Int))) && (decide ((p0.fC.length:Int) ≤ 100))))) && ((decide (u10.2.1 ≤ 64)) || (decide (4096 < u10.2.1))))) rfl) (fun W2 hW2 => ⟨rfl,hW2.none⟩)
      ·rcases bool_cases (((decide ((p0.fNo.length:Int) ≤ 12)) || ((decide (60 < (p0.fNo.length:Int))) && (decide ((p0.fNo.length:Int) ≤ 80)))) && ((decide ((p0.fC.length:Int) ≤ 12)) || ((decide (80 < (p0.fC.length:Int))) && (decide ((p0.fC.length:Int) ≤ 100))))) with hp14 | hp14
       ·refine ox_y (sT rfl rfl rfl rfl hp14) (yMI rfl) (ox_y (sT rfl rfl rfl rfl hp14) (y_leq rfl rfl) (ox_y (sT rfl rfl rfl rfl hp14) (y_move_bool rfl) ?_))
        refine ox_join 3 (fun tm0 => (upd (upd (upd tm0 2 (.bool u10.1)) 65 (.bool (((decide ((p0.fNo.length:Int) ≤ 12)) || ((decide (60 < (p0.fNo.length:Int))) && (decide ((p0.fNo.length:Int) ≤ 80)))) && ((decide ((p0.fC.length:Int) ≤ 12)) || ((decide (80 < (p0.fC.length:Int))) && (decide ((p0.fC.length:Int) ≤ 100))))))) 71 (.bool ((decide (u10.2.1 ≤ 64)) || (decide (4096 < u10.2.1)))))) (fun tm0 => ?_) (fun key => ?_)
        ·refine ox_y rfl (y_pick_tb (vB hp14) rfl) ?_
         exact key _ _ (keep (keep rfl rfl) (vB (and_t hp14)))
        ·rcases bool_cases (decide (u10.2.1 ≤ 64)) with hp15 | hp15
         ·refine oSk (sF rfl rfl rfl rfl hp15) (oSk (sF rfl rfl rfl rfl hp15) (ox_y (sT rfl rfl rfl rfl hp14) (y_pick_tb (vB hp15) rfl) ?_))
          exact key _ _ (keep (keep (keep rfl rfl) rfl) (vB (or_t hp15)))
         ·refine ox_y (sT rfl rfl rfl rfl hp15) (yMI rfl) (ox_y (sT rfl rfl rfl rfl hp15) (y_gtr rfl rfl) (ox_y (sT rfl rfl rfl rfl hp14) (y_pick_fb (vB hp15) rfl) ?_))
          exact key _ _ (keep (keep (keep rfl rfl) rfl) (vB (or_f hp15)))
       ·refine oSk (sF rfl rfl rfl rfl hp14) (oSk (sF rfl rfl rfl rfl hp14) (oSk (sF rfl rfl rfl rfl hp14) (oSk rfl (oSk rfl (oSk (sF rfl rfl rfl rfl hp14) (ox_y rfl (y_pick_fb (vB hp14) rfl) ?_))))))
        exact key _ _ (keep (keep rfl rfl) (vB (and_f hp14)))
     ·rcases bool_cases ((decide ((p0.fNo.length:Int) ≤ 12)) || ((decide (60 < (p0.fNo.length:Int))) && (decide ((p0.fNo.length:Int) ≤ 80)))) with hp13 | hp13
      ·refine ox_y (sT rfl rfl rfl rfl hp13) (y_move_bool rfl) (ox_y rfl (y_pick_tb (vB hp13) rfl) ?_)
       exact key _ _ (keep (keep (keep rfl rfl) rfl) (vB (and_t hp13)))
      ·refine oSk (sF rfl rfl rfl rfl hp13) (ox_y rfl (y_pick_fb (vB hp13) rfl) ?_)
       exact key _ _ (keep (keep (keep rfl rfl) rfl) (vB (and_f hp13)))
    ·rcases bool_cases (decide ((p0.fC.length:Int) ≤ 12)) with hp12 | hp12
     ·refine oSk (sF rfl rfl rfl rfl hp12) (oSk (sF rfl rfl rfl rfl hp12) (oSk (sF rfl rfl rfl rfl hp12) (oSk (sF rfl rfl rfl rfl hp12) (oSk (sF rfl rfl rfl rfl hp12) (oSk rfl (oSk rfl (oSk rfl (oSk rfl (oSk (sF rfl rfl rfl rfl hp12) (ox_y rfl (y_pick_tb (vB hp12) rfl) ?_))))))))))
      exact key _ _ (keep (keep (keep (keep rfl rfl) rfl) rfl) (vB (or_t hp12)))
     ·refine ox_y (sT rfl rfl rfl rfl hp12) (yFA fo_25_1 rfl) (ox_y (sT rfl rfl rfl rfl hp12) (y_load1 0 (v:=.slice Ab p0.fC.length cb) sc_23 rfl rfl rfl) (ox_y (sT rfl rfl rfl rfl hp12) (y_len (us:=[]) us_23 rfl) (ox_y (sT rfl rfl rfl rfl hp12) (y_gtr rfl rfl) (ox_y (sT rfl rfl rfl rfl hp12) (y_move_bool rfl) ?_))))
      refine ox_join 5 (fun tm0 => (upd (upd (upd (upd (upd tm0 2 (.bool u10.1)) 3 (.int .i64 u10.2.1)) 6 (.bool ((decide ((p0.fNo.length:Int) ≤ 12)) || ((decide (60 < (p0.fNo.length:Int))) && (decide ((p0.fNo.length:Int) ≤ 80)))))) 49 (.bool (decide ((p0.fC.length:Int) ≤ 12)))) 59 (.bool ((decide (80 < (p0.fC.length:Int))) && (decide ((p0.fC.length:Int) ≤ 100)))))) (fun tm0 => ?_) (fun key => ?_)
      ·refine ox_y rfl (y_pick_fb (vB hp12) rfl) ?_
       exact key _ _ (keep (keep (keep (keep rfl rfl) rfl) rfl) (vB (or_f hp12)))
      ·rcases bool_cases (decide (80 < (p0.fC.length:Int))) with hp16 | hp16
       ·refine ox_y (sT rfl rfl rfl rfl hp16) (yFA fo_25_1 rfl) (ox_y (sT rfl rfl rfl rfl hp16) (y_load1 0 (v:=.slice Ab p0.fC.length cb) sc_23 rfl rfl rfl) (ox_y (sT rfl rfl rfl rfl hp16) (y_len (us:=[]) us_23 rfl) (ox_y (sT rfl rfl rfl rfl hp16) (y_leq rfl rfl) (ox_y (sT rfl rfl rfl rfl hp12) (y_pick_tb (vB hp16) rfl) ?_))))
        exact key _ _ (keep (keep (keep (keep (keep rfl rfl) rfl) rfl) rfl) (vB (and_t hp16)))
       ·refine oSk (sF rfl rfl rfl rfl hp16) (oSk (sF rfl rfl rfl rfl hp16) (oSk (sF rfl rfl rfl rfl hp16) (oSk (sF rfl rfl rfl rfl hp16) (ox_y (sT rfl rfl rfl rfl hp12) (y_pick_fb (vB hp16) rfl) ?_))))
        exact key _ _ (keep (keep (keep (keep (keep rfl rfl) rfl) rfl) rfl) (vB (and_f hp16)))
   ·rcases bool_cases (decide ((p0.fNo.length:Int) ≤ 12)) with hp11 | hp11
    ·refine oSk (sF rfl rfl rfl rfl hp11) (oSk (sF rfl rfl rfl rfl hp11) (oSk (sF rfl rfl rfl rfl hp11) (oSk (sF rfl rfl rfl rfl hp11) (oSk (sF rfl rfl rfl rfl hp11) (oSk rfl (oSk rfl (oSk rfl (oSk rfl (oSk (sF rfl rfl rfl rfl hp11) (ox_y rfl (y_pick_tb (vB hp11) rfl) ?_))))))))))
     exact key _ _ (keep (keep (keep (keep rfl rfl) rfl) rfl) (vB (or_t hp11)))
    ·refine ox_y (sT rfl rfl rfl rfl hp11) (yFA fo_25_0 rfl) (ox_y (sT rfl rfl rfl rfl hp11) (y_load1 0 (v:=.slice Aa p0.fNo.length ca) sc_22 rfl rfl rfl) (ox_y (sT rfl rfl rfl rfl hp11) (y_len (us:=[]) us_22 rfl) (ox_y (sT rfl rfl rfl rfl hp11) (y_gtr rfl rfl) (ox_y (sT rfl rfl rfl rfl hp11) (y_move_bool rfl) ?_))))
     refine ox_join 5 (fun tm0 => (upd (upd (upd (upd (upd tm0 1 (.pointer (some ⟨b1,0,none⟩))) 2 (.bool u10.1)) 3 (.int .i64 u10.2.1)) 33 (.bool (decide ((p0.fNo.length:Int) ≤ 12)))) 43 (.bool ((decide (60 < (p0.fNo.length:Int))) && (decide ((p0.fNo.length:Int) ≤ 80)))))) (fun tm0 => ?_) (fun key => ?_)
     ·refine ox_y rfl (y_pick_fb (vB hp11) rfl) ?_
      exact key _ _ (keep (keep (keep (keep rfl rfl) rfl) rfl) (vB (or_f hp11)))
     ·rcases bool_cases (decide (60 < (p0.fNo.length:Int))) with hp17 | hp17
      ·refine ox_y (sT rfl rfl rfl rfl hp17) (yFA fo_25_0 rfl) (ox_y (sT rfl rfl rfl rfl hp17) (y_load1 0 (v:=.slice Aa p0.fNo.length ca) sc_22 rfl rfl rfl) (ox_y (sT rfl rfl rfl rfl hp17) (y_len (us:=[]) us_22 rfl) (ox_y (sT rfl rfl rfl rfl hp17) (y_leq rfl rfl) (ox_y (sT rfl rfl rfl rfl hp11) (y_pick_tb (vB hp17) rfl) ?_))))
       exact key _ _ (keep (keep (keep (keep (keep rfl rfl) rfl) rfl) rfl) (vB (and_t hp17)))
      ·refine oSk (sF rfl rfl rfl rfl hp17) (oSk (sF rfl rfl rfl rfl hp17) (oSk (sF rfl rfl rfl rfl hp17) (oSk (sF rfl rfl rfl rfl hp17) (ox_y (sT rfl rfl rfl rfl hp11) (y_pick_fb (vB hp17) rfl) ?_))))
       exact key _ _ (keep (keep (keep (keep (keep rfl rfl) rfl) rfl) rfl) (vB (and_f hp17)))
theorem ref09_Node_ok (p0:TL) (p1:Int) (res:Int) (h:ref09_Node p0 p1 = some res) (W:World) (Aa:Option Addr) (n0_0 ca : Nat) (hn0_0:n0_0 = p0.fNo.length) (hr0_0:Rd W Aa n0_0 ca (encL TNode_cells p0.fNo)) (Ab:Option Addr) (n0_1 cb : Nat) (ys0_1:List (Hd × TC)) (hn0_1:n0_1 = p0.fC.length) (hr0_1:Rd W Ab n0_1 cb (encL TClaim_cells2 ys0_1)) (hN0_1:NestW W (fun z : TC => z.fO) THop_cells ys0_1 p0.fC) :
  Calls Tryz.prog 67 [.agg #[.slice Aa n0_0 ca,.slice Ab n0_1 cb],.int .i64 p1].toArray W fun e W2 => e = .returned (.int .i64 res) ∧ Ext W W2 []:=by
 subst hn0_0
 subst hn0_1
 unfold ref09_Node at h
 refine calls_enter (m:=22) Tryz.func67 rfl rfl (nB rfl) ?_
 refine cS (cR ?_)
 refine ox_box [.slice Aa p0.fNo.length ca,.slice Ab p0.fC.length cb] rfl rfl rfl (fun b1 => ?_)
 refine ox_y rfl (yAI rfl) ?_
 refine oN (eT (cS (cS (cR ?_))))
 refine ox_y rfl (yAI rfl) ?_
 refine oN (eT (cx_block ?_))
 obtain ⟨u4,hl8,h⟩:=bOs h
 refine cx_loop (fun (s:(Int × Int)) L tm => ∃ (tm0:Nat → Value),L = [cellsR b1 25 [.slice Aa p0.fNo.length ca,.slice Ab p0.fC.length cb]] ∧ tm = (upd (upd (upd (upd (upd tm0 0 (.agg #[.slice Aa p0.fNo.length ca,.slice Ab p0.fC.length cb])) 1 (.int .i64 p1)) 2 (.pointer (some ⟨b1,0,none⟩))) 4 (.int .i64 s.1)) 5 (.int .i64 s.2))) (fun | (.inl s),e,L,tm => e = .ret ∧ ∃ (tm0:Nat → Value),L = [cellsR b1 25 [.slice Aa p0.fNo.length ca,.slice Ab p0.fC.length cb]] ∧ tm = (upd (upd (upd (upd (upd tm0 0 (.agg #[.slice Aa p0.fNo.length ca,.slice Ab p0.fC.length cb])) 1 (.int .i64 p1)) 2 (.pointer (some ⟨b1,0,none⟩))) 4 (.int .i64 s.1)) 5 (.int .i64 s.2)) | (.inr s),e,L,tm => e = .exit 0 ∧ ∃ (tm0:Nat → Value),L = [cellsR b1 25 [.slice Aa p0.fNo.length ca,.slice Ab p0.fC.length cb]] ∧ tm = (upd (upd (upd (upd (upd tm0 0 (.agg #[.slice Aa p0.fNo.length ca,.slice Ab p0.fC.length cb])) 1 (.int .i64 p1)) 2 (.pointer (some ⟨b1,0,none⟩))) 4 (.int .i64 s.1)) 5 (.int .i64 s.2))) hl8 ⟨_,rfl,(kp4 (kp rfl))⟩ ?_ ?_
 ·rintro s3 L tm st ⟨tm0_s3,rfl,rfl⟩ h
  unfold ref09_Node_l1 at h
  refine cS (cS (cR ?_))
  refine ox_y rfl (yMI rfl) (ox_y rfl (yFA fo_25_0 rfl) (ox_y rfl (y_load1 0 (v:=.slice Aa p0.fNo.length ca) sc_22 rfl rfl rfl) (ox_y rfl (y_len (us:=[]) us_22 rfl) (ox_y rfl (y_lss rfl rfl) ?_))))
  refine oN (eT ?_)
  rcases iOs h with ⟨hp5,h⟩ | ⟨hp5,h⟩
  ·refine cx_true (vB hp5) ?_
   refine cx_skip (eT (cS (cx_block (cS (cR ?_)))))
   refine ox_y rfl (yFA fo_25_0 rfl) (ox_y rfl (y_load1 0 (v:=.slice Aa p0.fNo.length ca) sc_22 rfl rfl rfl) (ox_y rfl (yMI rfl) ?_))
   obtain ⟨hg6,h⟩:=gOs h
   refine ox_y rfl (y_indexR sl_22 (by decide) hg6.1 hg6.2 (RdL.arg hr0_0) (encL_len TNode_cells_len rfl) rfl rfl) ?_
   refine ox_y rfl (y_fieldAddrR (A:=Aa) (j:=(Int.toNat s3.2 * 3)) fo_97_0 rfl) (ox_y rfl (y_loadR1 (A:=Aa) (j:=((Int.toNat s3.2 * 3) + 0)) (v:=.int .i64 ((rdL p0.fNo s3.2).fID)) sc_3 (RdL.arg hr0_0) rfl (encL_get TNode_cells_len hg6.1 (lt_nat hg6.2 rfl) rfl)) (ox_y rfl (yMI rfl) (ox_y rfl (y_eql rfl rfl) ?_)))
   refine oN (eT ?_)
   rcases iOs h with ⟨hp7,h⟩ | ⟨hp7,h⟩
   ·refine cx_true (vB hp7) ?_
    refine cS (cR ?_)
    refine ox_y rfl (yMI rfl) (ox_y rfl (yAI rfl) ?_)
    refine oN (eT (cx_ret (ex_block_ret (ex_then_ret ?_))))
    obtain rfl:=sI h
    exact ex_stop ⟨rfl,_,rfl,(kp4 (kp rfl))⟩
   ·refine cx_false (vB hp7) (cx_skip (ex_block ?_))
    refine eT (cR ?_)
    refine ox_y rfl (yMI rfl) (ox_y rfl (y_add rfl rfl) (ox_y rfl (yAI rfl) (oN ?_)))
    obtain rfl:=sI h
    exact ex_next ⟨_,rfl,(kp4 (kp rfl))⟩
  ·refine cx_false (vB hp5) (cx_exit (ex_then_exit ?_))
   obtain rfl:=sI h
   exact ex_stop ⟨rfl,_,rfl,(kp4 (kp rfl))⟩
 ·intro e L tm hJ
  rcases u4 with u9 | u10
  ·dsimp only at h hJ
   obtain ⟨rfl,tm0_u9,rfl,rfl⟩:=hJ
   refine ⟨(by intro hc; cases hc),?_⟩
   refine ex_block_ret (ex_then_ret ?_)
   obtain rfl:=sI h
   exact ex_res1 (.inl rfl) rfl (rVt (v:=.int .i64 u9.1) rfl) (fun W2 hW2 => ⟨rfl,hW2.none⟩)
  ·dsimp only at h hJ
   obtain ⟨rfl,tm0_u10,rfl,rfl⟩:=hJ
   refine ⟨(by intro hc; cases hc),?_⟩
   refine ex_block_here ?_
   refine eT (cS (cR ?_))
   refine ox_y rfl (yAI rfl) ?_
   refine oN (eT (cx_ret ?_))
   obtain rfl:=sI h
   exact ex_res1 (.inl rfl) rfl (rVt (v:=.int .i64 (-1)) rfl) (fun W2 hW2 => ⟨rfl,hW2.none⟩)
end Go.Proofs.YtbblpokfbmekfaaGreat
