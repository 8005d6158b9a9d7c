import Derived.Test.YtbblpokfbmekfaaGreatF
import Derived.Test.YtbblpokfbmekfaaGreatGv
import Derived.Test.YtbblpokfbmekfaaGreatGj
import Derived.Test.YtbblpokfbmekfaaGreatC4
set_option maxHeartbeats 4000000
set_option maxRecDepth 100000
set_option linter.unusedVariables false
namespace Go.Proofs.YtbblpokfbmekfaaGreat
open Go.RowKit (Below)
attribute [local irreducible] OX QX CX EX OpY Calls CallsIn
theorem ref09_count_ok (p0:TL) (res:Int) (h:ref09_count p0 = some res) (W:World) (Aa:Option Addr) (n0_0 ca : Nat) (hn0_0:n0_0 = p0.fNo.length) (hr0_0:Rd W Aa n0_0 ca (encL TNode_cells p0.fNo)) (Ab:Option Addr) (n0_1 cb : Nat) (ys0_1:List (Hd × TC)) (hn0_1:n0_1 = p0.fC.length) (hr0_1:Rd W Ab n0_1 cb (encL TClaim_cells2 ys0_1)) (hN0_1:NestW W (fun z : TC => z.fO) THop_cells ys0_1 p0.fC) :
  Calls Tryz.prog 83 [.agg #[.slice Aa n0_0 ca,.slice Ab n0_1 cb]].toArray W fun e W2 => e = .returned (.int .i64 res) ∧ Ext W W2 []:=by
 subst hn0_0
 subst hn0_1
 unfold ref09_count at h
 refine calls_enter (m:=23) Tryz.func83 rfl rfl (nB rfl) ?_
 refine cS (cR ?_)
 refine ox_box [.slice Aa p0.fNo.length ca,.slice Ab p0.fC.length cb] rfl rfl rfl (fun b1 => ?_)
 refine ox_y rfl (yAI rfl) ?_
 refine oN (eT (cS (cR ?_)))
 refine ox_y rfl (yAI rfl) ?_
 refine oN (eT (cS (cS (cR ?_))))
 refine ox_y rfl (yAI rfl) ?_
 refine oN (eT (cx_block ?_))
 obtain ⟨u4,hl7,h⟩:=bOs h
 refine cx_loop (fun (s:(Int × Int)) L tm => ∃ (tm0:Nat → Value),L = [cellsR b1 25 [.slice Aa p0.fNo.length ca,.slice Ab p0.fC.length cb]] ∧ tm = (upd (upd (upd (upd (upd tm0 0 (.agg #[.slice Aa p0.fNo.length ca,.slice Ab p0.fC.length cb])) 1 (.pointer (some ⟨b1,0,none⟩))) 2 (.int .i64 0)) 3 (.int .i64 s.1)) 4 (.int .i64 s.2))) (fun s e L tm => e = .exit 0 ∧ ∃ (tm0:Nat → Value),L = [cellsR b1 25 [.slice Aa p0.fNo.length ca,.slice Ab p0.fC.length cb]] ∧ tm = (upd (upd (upd (upd (upd tm0 0 (.agg #[.slice Aa p0.fNo.length ca,.slice Ab p0.fC.length cb])) 1 (.pointer (some ⟨b1,0,none⟩))) 2 (.int .i64 0)) 3 (.int .i64 s.1)) 4 (.int .i64 s.2))) hl7 ⟨_,rfl,(kp4 (kp rfl))⟩ ?_ ?_
 ·rintro s3 L tm st ⟨tm0_s3,rfl,rfl⟩ h
  unfold ref09_count_l1 at h
  refine cS (cS (cR ?_))
  refine ox_y rfl (yMI rfl) (ox_y rfl (yFA fo_25_1 rfl) (ox_y rfl (y_load1 0 (v:=.slice Ab p0.fC.length cb) sc_23 rfl rfl rfl) (ox_y rfl (y_len (us:=[]) us_23 rfl) (ox_y rfl (y_lss rfl rfl) ?_))))
  refine oN (eT ?_)
  rcases iOs h with ⟨hp5,h⟩ | ⟨hp5,h⟩
  ·refine cx_true (vB hp5) ?_
   refine cx_skip (eT (cS (cx_block (cR ?_))))
   refine ox_y rfl (yMI rfl) (ox_y rfl (yFA fo_25_1 rfl) (ox_y rfl (y_load1 0 (v:=.slice Ab p0.fC.length cb) sc_23 rfl rfl rfl) (ox_y rfl (yMI rfl) ?_)))
   obtain ⟨hg6,h⟩:=gOs h
   refine ox_y rfl (y_indexR sl_23 (by decide) hg6.1 hg6.2 (RdL.arg hr0_1) (encL_len TClaim_cells2_len (NestP.hn hN0_1.p rfl)) rfl rfl) ?_
   refine ox_y rfl (y_fieldAddrR (A:=Ab) (j:=(Int.toNat s3.2 * 2)) fo_90_1 rfl) (ox_y rfl (y_loadR1 (A:=Ab) (j:=((Int.toNat s3.2 * 2) + 1)) (v:=.slice ((rdL ys0_1 s3.2).1.1) ((rdL p0.fC s3.2).fO.length) ((rdL ys0_1 s3.2).1.2.2)) sc_88 (RdL.arg hr0_1) rfl (encL_get TClaim_cells2_len hg6.1 (lt_nat hg6.2 (NestP.hn hN0_1.p rfl)) (congrArg (fun n : Nat => some (Value.slice (rdL ys0_1 s3.2).1.1 n (rdL ys0_1 s3.2).1.2.2)) (NestP.len hN0_1.p hg6.1 (lt_nat hg6.2 rfl))))) (ox_y rfl (y_len (us:=[]) us_88 rfl) (ox_y rfl (y_mul rfl rfl) (ox_y rfl (y_min rfl rfl) (ox_y rfl (yAI rfl) (oN (ex_block ?_)))))))
   refine eT (cR ?_)
   refine ox_y rfl (yMI rfl) (ox_y rfl (y_add rfl rfl) (ox_y rfl (yAI rfl) (oN ?_)))
   obtain rfl:=sI h
   exact ex_next ⟨_,rfl,(kp4 (kp rfl))⟩
  ·refine cx_false (vB hp5) (cx_exit (ex_then_exit ?_))
   obtain rfl:=sI h
   exact ex_stop ⟨rfl,_,rfl,(kp4 (kp rfl))⟩
 ·intro e L tm hJ
  obtain ⟨rfl,tm0_u4,rfl,rfl⟩:=hJ
  refine ⟨(by intro hc; cases hc),?_⟩
  refine ex_block_here ?_
  refine eT (cS (cR ?_))
  refine ox_y rfl (yMI rfl) (ox_y rfl (yAI rfl) ?_)
  refine oN (eT (cx_ret ?_))
  obtain rfl:=sI h
  exact ex_res1 (.inl rfl) rfl (rVt (v:=.int .i64 u4.1) rfl) (fun W2 hW2 => ⟨rfl,hW2.none⟩)
theorem ref09_Claim_ok (p0:TL) (p1:Int) (res:Int) (h:ref09_Claim p0 p1 = some res) (W:World) (Aa:Option Addr) (n0_0 ca : Nat) (hn0_0:n0_0 = p0.fNo.length) (hr0_0:Rd W Aa n0_0 ca (encL TNode_cells p0.fNo)) (Ab:Option Addr) (n0_1 cb : Nat) (ys0_1:List (Hd × TC)) (hn0_1:n0_1 = p0.fC.length) (hr0_1:Rd W Ab n0_1 cb (encL TClaim_cells2 ys0_1)) (hN0_1:NestW W (fun z : TC => z.fO) THop_cells ys0_1 p0.fC) :
  Calls Tryz.prog 105 [.agg #[.slice Aa n0_0 ca,.slice Ab n0_1 cb],.int .i64 p1].toArray W fun e W2 => e = .returned (.int .i64 res) ∧ Ext W W2 []:=by
 subst hn0_0
 subst hn0_1
 unfold ref09_Claim at h
 refine calls_enter (m:=22) Tryz.func105 rfl rfl (nB rfl) ?_
 refine cS (cR ?_)
 refine ox_box [.slice Aa p0.fNo.length ca,.slice Ab p0.fC.length cb] rfl rfl rfl (fun b1 => ?_)
 refine ox_y rfl (yAI rfl) ?_
 refine oN (eT (cS (cS (cR ?_))))
 refine ox_y rfl (yAI rfl) ?_
 refine oN (eT (cx_block ?_))
 obtain ⟨u4,hl8,h⟩:=bOs h
 refine cx_loop (fun (s:(Int × Int)) L tm => ∃ (tm0:Nat → Value),L = [cellsR b1 25 [.slice Aa p0.fNo.length ca,.slice Ab p0.fC.length cb]] ∧ tm = (upd (upd (upd (upd (upd tm0 0 (.agg #[.slice Aa p0.fNo.length ca,.slice Ab p0.fC.length cb])) 1 (.int .i64 p1)) 2 (.pointer (some ⟨b1,0,none⟩))) 4 (.int .i64 s.1)) 5 (.int .i64 s.2))) (fun | (.inl s),e,L,tm => e = .ret ∧ ∃ (tm0:Nat → Value),L = [cellsR b1 25 [.slice Aa p0.fNo.length ca,.slice Ab p0.fC.length cb]] ∧ tm = (upd (upd (upd (upd (upd tm0 0 (.agg #[.slice Aa p0.fNo.length ca,.slice Ab p0.fC.length cb])) 1 (.int .i64 p1)) 2 (.pointer (some ⟨b1,0,none⟩))) 4 (.int .i64 s.1)) 5 (.int .i64 s.2)) | (.inr s),e,L,tm => e = .exit 0 ∧ ∃ (tm0:Nat → Value),L = [cellsR b1 25 [.slice Aa p0.fNo.length ca,.slice Ab p0.fC.length cb]] ∧ tm = (upd (upd (upd (upd (upd tm0 0 (.agg #[.slice Aa p0.fNo.length ca,.slice Ab p0.fC.length cb])) 1 (.int .i64 p1)) 2 (.pointer (some ⟨b1,0,none⟩))) 4 (.int .i64 s.1)) 5 (.int .i64 s.2))) hl8 ⟨_,rfl,(kp4 (kp rfl))⟩ ?_ ?_
 ·rintro s3 L tm st ⟨tm0_s3,rfl,rfl⟩ h
  unfold ref09_Claim_l1 at h
  refine cS (cS (cR ?_))
  refine ox_y rfl (yMI rfl) (ox_y rfl (yFA fo_25_1 rfl) (ox_y rfl (y_load1 0 (v:=.slice Ab p0.fC.length cb) sc_23 rfl rfl rfl) (ox_y rfl (y_len (us:=[]) us_23 rfl) (ox_y rfl (y_lss rfl rfl) ?_))))
  refine oN (eT ?_)
  rcases iOs h with ⟨hp5,h⟩ | ⟨hp5,h⟩
  ·refine cx_true (vB hp5) ?_
   refine cx_skip (eT (cS (cx_block (cS (cR ?_)))))
   refine ox_y rfl (yFA fo_25_1 rfl) (ox_y rfl (y_load1 0 (v:=.slice Ab p0.fC.length cb) sc_23 rfl rfl rfl) (ox_y rfl (yMI rfl) ?_))
   obtain ⟨hg6,h⟩:=gOs h
   refine ox_y rfl (y_indexR sl_23 (by decide) hg6.1 hg6.2 (RdL.arg hr0_1) (encL_len TClaim_cells2_len (NestP.hn hN0_1.p rfl)) rfl rfl) ?_
   refine ox_y rfl (y_fieldAddrR (A:=Ab) (j:=(Int.toNat s3.2 * 2)) fo_90_0 rfl) (ox_y rfl (y_loadR1 (A:=Ab) (j:=((Int.toNat s3.2 * 2) + 0)) (v:=.int .i64 ((rdL p0.fC s3.2).fID)) sc_3 (RdL.arg hr0_1) rfl (encL_get TClaim_cells2_len hg6.1 (lt_nat hg6.2 (NestP.hn hN0_1.p rfl)) (congrArg (fun z : TC => some (Value.int .i64 z.fID)) (NestP.snd hN0_1.p s3.2)))) (ox_y rfl (yMI rfl) (ox_y rfl (y_eql rfl rfl) ?_)))
   refine oN (eT ?_)
   rcases iOs h with ⟨hp7,h⟩ | ⟨hp7,h⟩
   ·refine cx_true (vB hp7) ?_
    refine cS (cR ?_)
    refine ox_y rfl (yMI rfl) (ox_y rfl (yAI rfl) ?_)
    refine oN (eT (cx_ret (ex_block_ret (ex_then_ret ?_))))
    obtain rfl:=sI h
    exact ex_stop ⟨rfl,_,rfl,(kp4 (kp rfl))⟩
   ·refine cx_false (vB hp7) (cx_skip (ex_block ?_))
    refine eT (cR ?_)
    refine ox_y rfl (yMI rfl) (ox_y rfl (y_add rfl rfl) (ox_y rfl (yAI rfl) (oN ?_)))
    obtain rfl:=sI h
    exact ex_next ⟨_,rfl,(kp4 (kp rfl))⟩
  ·refine cx_false (vB hp5) (cx_exit (ex_then_exit ?_))
   obtain rfl:=sI h
   exact ex_stop ⟨rfl,_,rfl,(kp4 (kp rfl))⟩
 ·intro e L tm hJ
  rcases u4 with u9 | u10
  ·dsimp only at h hJ
   obtain ⟨rfl,tm0_u9,rfl,rfl⟩:=hJ
   refine ⟨(by intro hc; cases hc),?_⟩
   refine ex_block_ret (ex_then_ret ?_)
   obtain rfl:=sI h
   exact ex_res1 (.inl rfl) rfl (rVt (v:=.int .i64 u9.1) rfl) (fun W2 hW2 => ⟨rfl,hW2.none⟩)
  ·dsimp only at h hJ
   obtain ⟨rfl,tm0_u10,rfl,rfl⟩:=hJ
   refine ⟨(by intro hc; cases hc),?_⟩
   refine ex_block_here ?_
   refine eT (cS (cR ?_))
   refine ox_y rfl (yAI rfl) ?_
   refine oN (eT (cx_ret ?_))
   obtain rfl:=sI h
   exact ex_res1 (.inl rfl) rfl (rVt (v:=.int .i64 (-1)) rfl) (fun W2 hW2 => ⟨rfl,hW2.none⟩)
theorem ref09_in_ok (p0:Int) (p1:Int) (p2:Int) (res:Bool) (h:ref09_in p0 p1 p2 = some res) (W:World)  :
  Calls Tryz.prog 122 [.int .i64 p0,.int .i64 p1,.int .i64 p2].toArray W fun e W2 => e = .returned (.bool res) ∧ Ext W W2 []:=by
 unfold ref09_in at h
 refine calls_enter (m:=15) Tryz.func122 rfl rfl (nB rfl) ?_
 refine cS (cR ?_)
 refine ox_y rfl (y_assign_bool rfl) ?_
 refine oN (eT (cS (cR ?_)))
 refine ox_y rfl (yMI rfl) (ox_y rfl (yMI rfl) (ox_y rfl (y_geq rfl rfl) (ox_y rfl (y_move_bool rfl) ?_)))
 refine ox_join 4 (fun tm0 => (upd (upd tm0 6 (.bool false)) 14 (.bool ((decide (p1 ≤ p0)) && (decide (p0 ≤ p2)))))) (fun tm0 => ?_) (fun key => ?_)
 ·refine ox_y rfl (y_assign_bool rfl) ?_
  refine oN (eT (cx_ret ?_))
  obtain rfl:=sI h
  exact ex_res1 (.inl rfl) rfl (rVt (v:=.bool ((decide (p1 ≤ p0)) && (decide (p0 ≤ p2)))) rfl) (fun W2 hW2 => ⟨rfl,hW2.none⟩)
 ·rcases bool_cases (decide (p1 ≤ p0)) with hp1 | hp1
  ·refine ox_y (sT rfl rfl rfl rfl hp1) (yMI rfl) (ox_y (sT rfl rfl rfl rfl hp1) (yMI rfl) (ox_y (sT rfl rfl rfl rfl hp1) (y_leq rfl rfl) (ox_y rfl (y_pick_tb (vB hp1) rfl) ?_)))
   exact key _ _ (keep (keep rfl rfl) (vB (and_t hp1)))
  ·refine oSk (sF rfl rfl rfl rfl hp1) (oSk (sF rfl rfl rfl rfl hp1) (oSk (sF rfl rfl rfl rfl hp1) (ox_y rfl (y_pick_fb (vB hp1) rfl) ?_)))
   exact key _ _ (keep (keep rfl rfl) (vB (and_f hp1)))
theorem ref09_claim_ok (p0:TL) (p1:TC) (res:Bool) (h:ref09_claim p0 p1 = some res) (W:World) (Aa:Option Addr) (n0_0 ca : Nat) (hn0_0:n0_0 = p0.fNo.length) (hr0_0:Rd W Aa n0_0 ca (encL TNode_cells p0.fNo)) (Ab:Option Addr) (n0_1 cb : Nat) (ys0_1:List (Hd × TC)) (hn0_1:n0_1 = p0.fC.length) (hr0_1:Rd W Ab n0_1 cb (encL TClaim_cells2 ys0_1)) (hN0_1:NestW W (fun z : TC => z.fO) THop_cells ys0_1 p0.fC) (A1_1:Option Addr) (n1_1 c1_1 : Nat) (hn1_1:n1_1 = p1.fO.length) (hr1_1:Rd W A1_1 n1_1 c1_1 (encL THop_cells p1.fO)) :
  Calls Tryz.prog 123 [.agg #[.slice Aa n0_0 ca,.slice Ab n0_1 cb],.agg #[.int .i64 p1.fID,.slice A1_1 n1_1 c1_1]].toArray W fun e W2 => e = .returned (.bool res) ∧ Ext W W2 []:=by
 subst hn0_0
 subst hn0_1
 subst hn1_1
 unfold ref09_claim at h
 refine calls_enter (m:=80) Tryz.func123 rfl rfl (nB rfl) ?_
 refine cS (cR ?_)
 refine ox_box [.slice Aa p0.fNo.length ca,.slice Ab p0.fC.length cb] rfl rfl rfl (fun b1 => ?_)
 refine ox_box [.int .i64 p1.fID,.slice A1_1 p1.fO.length c1_1] rfl rfl rfl (fun b2 => ?_)
 refine ox_y rfl (y_assign_bool rfl) ?_
 refine oN (eT (cS (cS (cR ?_))))
 refine ox_y rfl (yFA fo_90_0 rfl) (ox_y rfl (y_load1 1 (v:=.int .i64 p1.fID) sc_3 rfl rfl rfl) ?_)
 obtain ⟨y3,hy4,h⟩:=bOs h
 refine ox_y rfl (y_call [.int .i64 p1.fID,.int .i64 1,.int .i64 1099511627776] go_122 rfl (fun W2 hW2 => ref09_in_ok p1.fID 1 1099511627776 y3 hy4 W2 ) rfl) (ox_y rfl (y_not rfl) (ox_y rfl (y_move_bool rfl) ?_))
 obtain ⟨b6,hb7,h⟩:=bOs h
 refine ox_join 6 (fun tm0 => (upd (upd (upd (upd tm0 2 (.pointer (some ⟨b1,0,none⟩))) 3 (.pointer (some ⟨b2,0,none⟩))) 4 (.bool false)) 19 (.bool b6))) (fun tm0 => ?_) (fun key => ?_)
 ·refine oN (eT ?_)
  rcases iOs h with ⟨hp8,h⟩ | ⟨hp8,h⟩
  ·refine cx_true (vB hp8) ?_
   refine cS (cR ?_)
   refine ox_y rfl (y_assign_bool rfl) ?_
   refine oN (eT (cx_ret (ex_then_ret ?_)))
   obtain rfl:=sI h
   exact ex_res1 (.inl rfl) rfl (rVt (v:=.bool false) rfl) (fun W2 hW2 => ⟨rfl,hW2.none⟩)
  ·refine cx_false (vB hp8) ?_
   refine cx_skip (eT (cS (cS (cR ?_))))
   refine ox_y rfl (yAI rfl) ?_
   refine oN (eT (cx_block ?_))
   obtain ⟨u11,hl36,h⟩:=bOs h
   refine cx_loop (fun (s:(Bool × Int)) L tm => ∃ (tm0:Nat → Value),L = [cellsR b1 25 [.slice Aa p0.fNo.length ca,.slice Ab p0.fC.length cb],cellsR b2 90 [.int .i64 p1.fID,.slice A1_1 p1.fO.length c1_1]] ∧ tm = (upd (upd (upd (upd (upd tm0 2 (.pointer (some ⟨b1,0,none⟩))) 3 (.pointer (some ⟨b2,0,none⟩))) 4 (.bool s.1)) 19 (.bool b6)) 5 (.int .i64 s.2))) (fun | (.inl s),e,L,tm => e = .ret ∧ ∃ (tm0:Nat → Value),L = [cellsR b1 25 [.slice Aa p0.fNo.length ca,.slice Ab p0.fC.length cb],cellsR b2 90 [.int .i64 p1.fID,.slice A1_1 p1.fO.length c1_1]] ∧ tm = (upd (upd (upd (upd (upd tm0 2 (.pointer (some ⟨b1,0,none⟩))) 3 (.pointer (some ⟨b2,0,none⟩))) 4 (.bool s.1)) 19 (.bool b6)) 5 (.int .i64 s.2)) | (.inr s),e,L,tm => e = .exit 0 ∧ ∃ (tm0:Nat → Value),L = [cellsR b1 25 [.slice Aa p0.fNo.length ca,.slice Ab p0.fC.length cb],cellsR b2 90 [.int .i64 p1.fID,.slice A1_1 p1.fO.length c1_1]] ∧ tm = (upd (upd (upd (upd (upd tm0 2 (.pointer (some ⟨b1,0,none⟩))) 3 (.pointer (some ⟨b2,0,none⟩))) 4 (.bool s.1)) 19 (.bool b6)) 5 (.int .i64 s.2))) hl36 ⟨_,rfl,(kp4 (kp rfl))⟩ ?_ ?_
   ·rintro s10 L tm st ⟨tm0_s10,rfl,rfl⟩ h
    unfold ref09_claim_l1 at h
    refine cS (cS (cR ?_))
    refine ox_y rfl (yMI rfl) (ox_y rfl (yFA fo_90_1 rfl) (ox_y rfl (y_load1 1 (v:=.slice A1_1 p1.fO.length c1_1) sc_88 rfl rfl rfl) (ox_y rfl (y_len (us:=[]) us_88 rfl) (ox_y rfl (y_lss rfl rfl) ?_))))
    refine oN (eT ?_)
    rcases iOs h with ⟨hp12,h⟩ | ⟨hp12,h⟩
    ·refine cx_true (vB hp12) ?_
     refine cx_skip (eT (cS (cx_block (cS ?_))))
     refine cx_draws 9 mixed (by kernel_rfl) (by kernel_rfl) ?_
     refine qx_y rfl (y_loadN 0 [.slice Aa p0.fNo.length ca,.slice Ab p0.fC.length cb] ag_25 rfl rfl rfl) (qx_y rfl (yFA fo_90_1 rfl) (qx_y rfl (y_load1 1 (v:=.slice A1_1 p1.fO.length c1_1) sc_88 rfl rfl rfl) (qx_y rfl (yMI rfl) ?_)))
     obtain ⟨hg13,h⟩:=gOs h
     refine qx_y rfl (y_indexR sl_88 (by decide) hg13.1 hg13.2 (RdL.arg hr1_1) (encL_len THop_cells_len rfl) rfl rfl) ?_
     refine qx_y rfl (y_fieldAddrR (A:=A1_1) (j:=(Int.toNat s10.2 * 2)) fo_111_0 rfl) (qx_y rfl (y_loadR1 (A:=A1_1) (j:=((Int.toNat s10.2 * 2) + 0)) (v:=.int .i64 ((rdL p1.fO s10.2).fFrom)) sc_3 (RdL.arg hr1_1) rfl (encL_get THop_cells_len hg13.1 (lt_nat hg13.2 rfl) rfl)) ?_)
     obtain ⟨y14,hy15,h⟩:=bOs h
     refine qx_y rfl (y_call [.agg #[.slice Aa p0.fNo.length ca,.slice Ab p0.fC.length cb],.int .i64 ((rdL p1.fO s10.2).fFrom)] go_67 rfl (fun W2 hW2 => ref09_Node_ok p0 ((rdL p1.fO s10.2).fFrom) y14 hy15 W2 Aa p0.fNo.length ca rfl ((RdL.arg hr0_0) W2 hW2) Ab p0.fC.length cb ys0_1 rfl ((RdL.arg hr0_1) W2 hW2) (NestL.at (NestL.arg hN0_1) W2 hW2)) rfl) (qx_y rfl (yAI rfl) (qx_nil ?_))
     refine oN (eT (cS ?_))
     refine cx_draws 9 mixed (by kernel_rfl) (by kernel_rfl) ?_
     refine qx_y rfl (y_loadN 0 [.slice Aa p0.fNo.length ca,.slice Ab p0.fC.length cb] ag_25 rfl rfl rfl) (qx_y rfl (yFA fo_90_1 rfl) (qx_y rfl (y_load1 1 (v:=.slice A1_1 p1.fO.length c1_1) sc_88 rfl rfl rfl) (qx_y rfl (yMI rfl) ?_)))
     obtain ⟨hg16,h⟩:=gOs h
     refine qx_y rfl (y_indexR sl_88 (by decide) hg16.1 hg16.2 (RdL.arg hr1_1) (encL_len THop_cells_len rfl) rfl rfl) ?_
     refine qx_y rfl (y_fieldAddrR (A:=A1_1) (j:=(Int.toNat s10.2 * 2)) fo_111_1 rfl) (qx_y rfl (y_loadR1 (A:=A1_1) (j:=((Int.toNat s10.2 * 2) + 1)) (v:=.int .i64 ((rdL p1.fO s10.2).fTo)) sc_3 (RdL.arg hr1_1) rfl (encL_get THop_cells_len hg16.1 (lt_nat hg16.2 rfl) rfl)) ?_)
     obtain ⟨y17,hy18,h⟩:=bOs h
     refine qx_y rfl (y_call [.agg #[.slice Aa p0.fNo.length ca,.slice Ab p0.fC.length cb],.int .i64 ((rdL p1.fO s10.2).fTo)] go_67 rfl (fun W2 hW2 => ref09_Node_ok p0 ((rdL p1.fO s10.2).fTo) y17 hy18 W2 Aa p0.fNo.length ca rfl ((RdL.arg hr0_0) W2 hW2) Ab p0.fC.length cb ys0_1 rfl ((RdL.arg hr0_1) W2 hW2) (NestL.at (NestL.arg hN0_1) W2 hW2)) rfl) (qx_y rfl (yAI rfl) (qx_nil ?_))
     refine oN (eT (cS (cS ?_)))
     refine cx_draws 21 mixed (by kernel_rfl) (by kernel_rfl) ?_
     refine qx_y rfl (yMI rfl) (qx_y rfl (y_lss rfl rfl) (qx_y rfl (y_move_bool rfl) ?_))
     refine qx_join 3 (fun tm0 => (upd (upd (upd (upd (upd (upd (upd (upd (upd tm0 2 (.pointer (some ⟨b1,0,none⟩))) 3 (.pointer (some ⟨b2,0,none⟩))) 4 (.bool s10.1)) 19 (.bool b6)) 5 (.int .i64 s10.2)) 24 (.bool (decide (s10.2 < (p1.fO.length:Int))))) 6 (.int .i64 y14)) 7 (.int .i64 y17)) 48 (.bool ((decide (y14 < 0)) || (decide (y17 < 0)))))) (fun tm0 => ?_) (fun key => ?_)
     ·refine qx_y rfl (y_move_bool rfl) ?_
      obtain ⟨b21,hb22,h⟩:=bOs h
      refine qx_join 14 (fun tm0 => (upd (upd (upd (upd (upd (upd (upd (upd (upd tm0 2 (.pointer (some ⟨b1,0,none⟩))) 3 (.pointer (some ⟨b2,0,none⟩))) 4 (.bool s10.1)) 19 (.bool b6)) 5 (.int .i64 s10.2)) 24 (.bool (decide (s10.2 < (p1.fO.length:Int))))) 6 (.int .i64 y14)) 7 (.int .i64 y17)) 63 (.bool b21))) (fun tm0 => ?_) (fun key => ?_)
      ·refine qx_nil ?_
       refine oN (eT ?_)
       rcases iOs h with ⟨hp23,h⟩ | ⟨hp23,h⟩
       ·refine cx_true (vB hp23) ?_
        refine cS (cR ?_)
        refine ox_y rfl (y_assign_bool rfl) ?_
        refine oN (eT (cx_ret (ex_then_ret (ex_block_ret (ex_then_ret ?_)))))
        obtain rfl:=sI h
        exact ex_stop ⟨rfl,_,rfl,(kp4 (kp rfl))⟩
       ·refine cx_false (vB hp23) ?_
        refine cx_skip (eT (cS (cR ?_)))
        refine ox_y rfl (yAI rfl) ?_
        refine oN (eT (cx_block ?_))
        obtain ⟨u26,hl31,h⟩:=bOs h
        refine cx_loop (fun (s:(Bool × Int)) L tm => ∃ (tm0:Nat → Value),L = [cellsR b1 25 [.slice Aa p0.fNo.length ca,.slice Ab p0.fC.length cb],cellsR b2 90 [.int .i64 p1.fID,.slice A1_1 p1.fO.length c1_1]] ∧ tm = (upd (upd (upd (upd (upd (upd (upd (upd (upd (upd tm0 2 (.pointer (some ⟨b1,0,none⟩))) 3 (.pointer (some ⟨b2,0,none⟩))) 4 (.bool s.1)) 19 (.bool b6)) 5 (.int .i64 s10.2)) 24 (.bool (decide (s10.2 < (p1.fO.length:Int))))) 6 (.int .i64 y14)) 7 (.int .i64 y17)) 63 (.bool b21)) 8 (.int .i64 s.2))) (fun | (.inl s),e,L,tm => e = .ret ∧ ∃ (tm0:Nat → Value),L = [cellsR b1 25 [.slice Aa p0.fNo.length ca,.slice Ab p0.fC.length cb],cellsR b2 90 [.int .i64 p1.fID,.slice A1_1 p1.fO.length c1_1]] ∧ tm = (upd (upd (upd (upd (upd (upd (upd (upd (upd (upd tm0 2 (.pointer (some ⟨b1,0,none⟩))) 3 (.pointer (some ⟨b2,0,none⟩))) 4 (.bool s.1)) 19 (.bool b6)) 5 (.int .i64 s10.2)) 24 (.bool (decide (s10.2 < (p1.fO.length:Int))))) 6 (.int .i64 y14)) 7 (.int .i64 y17)) 63 (.bool b21)) 8 (.int .i64 s.2)) | (.inr s),e,L,tm => e = .exit 2 ∧ ∃ (tm0:Nat → Value),L = [cellsR b1 25 [.slice Aa p0.fNo.length ca,.slice Ab p0.fC.length cb],cellsR b2 90 [.int .i64 p1.fID,.slice A1_1 p1.fO.length c1_1]] ∧ tm = (upd (upd (upd (upd (upd (upd (upd (upd (upd (upd tm0 2 (.pointer (some ⟨b1,0,none⟩))) 3 (.pointer (some ⟨b2,0,none⟩))) 4 (.bool s.1)) 19 (.bool b6)) 5 (.int .i64 s10.2)) 24 (.bool (decide (s10.2 < (p1.fO.length:Int))))) 6 (.int .i64 y14)) 7 (.int .i64 y17)) 63 (.bool b21)) 8 (.int .i64 s.2))) hl31 ⟨_,rfl,(kp4 (kp4 (kp (kp rfl))))⟩ ?_ ?_
        ·rintro s25 L tm st ⟨tm0_s25,rfl,rfl⟩ h
         unfold ref09_claim_l2 at h
         refine cS (cS (cR ?_))
         refine ox_y rfl (yMI rfl) (ox_y rfl (yMI rfl) (ox_y rfl (y_lss rfl rfl) ?_))
         refine oN (eT ?_)
         rcases iOs h with ⟨hp27,h⟩ | ⟨hp27,h⟩
         ·refine cx_true (vB hp27) ?_
          refine cx_skip (eT (cS (cx_block (cS ?_))))
          refine cx_draws 11 mixed (by kernel_rfl) (by kernel_rfl) ?_
          refine qx_y rfl (yFA fo_90_1 rfl) (qx_y rfl (y_load1 1 (v:=.slice A1_1 p1.fO.length c1_1) sc_88 rfl rfl rfl) (qx_y rfl (yMI rfl) ?_))
          obtain ⟨hg28,h⟩:=gOs h
          refine qx_y rfl (y_indexR sl_88 (by decide) hg28.1 hg28.2 (RdL.arg hr1_1) (encL_len THop_cells_len rfl) rfl rfl) ?_
          refine qx_y rfl (y_loadRN (A:=A1_1) (j:=(Int.toNat s25.2 * 2)) [.int .i64 ((rdL p1.fO s25.2).fFrom),.int .i64 ((rdL p1.fO s25.2).fTo)] ag_111 (Nat.succ_pos _) (RdL.arg hr1_1) rfl (encL_gets THop_cells_len hg28.1 (lt_nat hg28.2 rfl))) (qx_y rfl (yFA fo_90_1 rfl) (qx_y rfl (y_load1 1 (v:=.slice A1_1 p1.fO.length c1_1) sc_88 rfl rfl rfl) (qx_y rfl (yMI rfl) ?_)))
          obtain ⟨hg29,h⟩:=gOs h
          refine qx_y rfl (y_indexR sl_88 (by decide) hg29.1 hg29.2 (RdL.arg hr1_1) (encL_len THop_cells_len rfl) rfl rfl) ?_
          refine qx_y rfl (y_loadRN (A:=A1_1) (j:=(Int.toNat s10.2 * 2)) [.int .i64 ((rdL p1.fO s10.2).fFrom),.int .i64 ((rdL p1.fO s10.2).fTo)] ag_111 (Nat.succ_pos _) (RdL.arg hr1_1) rfl (encL_gets THop_cells_len hg29.1 (lt_nat hg29.2 rfl))) (qx_y rfl (y_eqla (b:=(((rdL p1.fO s25.2).fFrom == (rdL p1.fO s10.2).fFrom) && ((rdL p1.fO s25.2).fTo == (rdL p1.fO s10.2).fTo))) eg_111 rfl rfl (fun _ => (eqS2 fl_111 (part1 sc_3 rfl) (part1 sc_3 rfl) (part1 sc_3 rfl) (part1 sc_3 rfl) (run_equalIn_int _ _ _ _ _ _ _ ui_3) (run_equalIn_int _ _ _ _ _ _ _ ui_3)))) (qx_nil ?_))
          refine oN (eT ?_)
          rcases iOs h with ⟨hp30,h⟩ | ⟨hp30,h⟩
          ·refine cx_true (vB hp30) ?_
           refine cS (cR ?_)
           refine ox_y rfl (y_assign_bool rfl) ?_
           refine oN (eT (cx_ret (ex_block_ret (ex_then_ret ?_))))
           obtain rfl:=sI h
           exact ex_stop ⟨rfl,_,rfl,(kp4 (kp4 (kp (kp rfl))))⟩
          ·refine cx_false (vB hp30) (cx_skip (ex_block ?_))
           refine eT (cR ?_)
           refine ox_y rfl (yMI rfl) (ox_y rfl (y_add rfl rfl) (ox_y rfl (yAI rfl) (oN ?_)))
           obtain rfl:=sI h
           exact ex_next ⟨_,rfl,(kp4 (kp4 (kp (kp rfl))))⟩
         ·refine cx_false (vB hp27) (cx_exit (ex_then_exit ?_))
          obtain rfl:=sI h
          exact ex_stop ⟨rfl,_,rfl,(kp4 (kp4 (kp (kp rfl))))⟩
        ·intro e L tm hJ
         rcases u26 with u32 | u33
         ·dsimp only at h hJ
          obtain ⟨rfl,tm0_u32,rfl,rfl⟩:=hJ
          refine ⟨(by intro hc; cases hc),?_⟩
          refine ex_block_ret (ex_block_ret (ex_then_ret ?_))
          obtain rfl:=sI h
          exact ex_stop ⟨rfl,_,rfl,(kp4 (kp rfl))⟩
         ·dsimp only at h hJ
          obtain ⟨rfl,tm0_u33,rfl,rfl⟩:=hJ
          refine ⟨(by intro hc; cases hc),?_⟩
          refine ex_block_here (ex_block ?_)
          refine eT (cR ?_)
          refine ox_y rfl (yMI rfl) (ox_y rfl (y_add rfl rfl) (ox_y rfl (yAI rfl) (oN ?_)))
          obtain rfl:=sI h
          exact ex_next ⟨_,rfl,(kp4 (kp rfl))⟩
      ·clear h; rcases iOs hb22 with ⟨hp20,h⟩ | ⟨hp20,h⟩
       ·refine qx_skip (sF rfl rfl rfl rfl hp20) (qx_skip (sF rfl rfl rfl rfl hp20) (qx_skip (sF rfl rfl rfl rfl hp20) (qx_skip (sF rfl rfl rfl rfl hp20) (qx_skip (sF rfl rfl rfl rfl hp20) (qx_skip (sF rfl rfl rfl rfl hp20) (qx_skip (sF rfl rfl rfl rfl hp20) (qx_skip (sF rfl rfl rfl rfl hp20) (qx_skip (sF rfl rfl rfl rfl hp20) (qx_skip (sF rfl rfl rfl rfl hp20) (qx_skip (sF rfl rfl rfl rfl hp20) (qx_skip (sF rfl rfl rfl rfl hp20) (qx_skip (sF rfl rfl rfl rfl hp20) (qx_y rfl (y_pick_tb (vB hp20) rfl) ?_)))))))))))))
        obtain rfl:=sI h
        exact key _ _ (kp4 (kp4 (kp rfl)))
       ·refine qx_y (sT rfl rfl rfl rfl hp20) (yFA fo_25_0 rfl) (qx_y (sT rfl rfl rfl rfl hp20) (y_load1 0 (v:=.slice Aa p0.fNo.length ca) sc_22 rfl rfl rfl) (qx_y (sT rfl rfl rfl rfl hp20) (yMI rfl) ?_))
        obtain ⟨hg34,h⟩:=gOs h
        refine qx_y (sT rfl rfl rfl rfl hp20) (y_indexR sl_22 (by decide) hg34.1 hg34.2 (RdL.arg hr0_0) (encL_len TNode_cells_len rfl) rfl rfl) ?_
        refine qx_y (sT rfl rfl rfl rfl hp20) (y_fieldAddrR (A:=Aa) (j:=(Int.toNat y14 * 3)) fo_97_1 rfl) (qx_y (sT rfl rfl rfl rfl hp20) (y_loadR1 (A:=Aa) (j:=((Int.toNat y14 * 3) + 1)) (v:=.int .i64 ((rdL p0.fNo y14).fLevel)) sc_3 (RdL.arg hr0_0) rfl (encL_get TNode_cells_len hg34.1 (lt_nat hg34.2 rfl) rfl)) (qx_y (sT rfl rfl rfl rfl hp20) (yFA fo_25_0 rfl) (qx_y (sT rfl rfl rfl rfl hp20) (y_load1 0 (v:=.slice Aa p0.fNo.length ca) sc_22 rfl rfl rfl) (qx_y (sT rfl rfl rfl rfl hp20) (yMI rfl) ?_))))
        obtain ⟨hg35,h⟩:=gOs h
        refine qx_y (sT rfl rfl rfl rfl hp20) (y_indexR sl_22 (by decide) hg35.1 hg35.2 (RdL.arg hr0_0) (encL_len TNode_cells_len rfl) rfl rfl) ?_
        refine qx_y (sT rfl rfl rfl rfl hp20) (y_fieldAddrR (A:=Aa) (j:=(Int.toNat y17 * 3)) fo_97_1 rfl) (qx_y (sT rfl rfl rfl rfl hp20) (y_loadR1 (A:=Aa) (j:=((Int.toNat y17 * 3) + 1)) (v:=.int .i64 ((rdL p0.fNo y17).fLevel)) sc_3 (RdL.arg hr0_0) rfl (encL_get TNode_cells_len hg35.1 (lt_nat hg35.2 rfl) rfl)) (qx_y (sT rfl rfl rfl rfl hp20) (y_geq rfl rfl) (qx_y rfl (y_pick_fb (vB hp20) rfl) ?_)))
        obtain rfl:=sI h
        exact key _ _ (kp4 (kp4 (kp rfl)))
     ·rcases bool_cases (decide (y14 < 0)) with hp19 | hp19
      ·refine qx_skip (sF rfl rfl rfl rfl hp19) (qx_skip (sF rfl rfl rfl rfl hp19) (qx_y rfl (y_pick_tb (vB hp19) rfl) ?_))
       exact key _ _ (keep (keep (keep (keep (keep (keep (keep (keep (keep rfl rfl) rfl) rfl) rfl) rfl) rfl) rfl) rfl) (vB (or_t hp19)))
      ·refine qx_y (sT rfl rfl rfl rfl hp19) (yMI rfl) (qx_y (sT rfl rfl rfl rfl hp19) (y_lss rfl rfl) (qx_y rfl (y_pick_fb (vB hp19) rfl) ?_))
       exact key _ _ (keep (keep (keep (keep (keep (keep (keep (keep (keep rfl rfl) rfl) rfl) rfl) rfl) rfl) rfl) rfl) (vB (or_f hp19)))
    ·refine cx_false (vB hp12) (cx_exit (ex_then_exit ?_))
     obtain rfl:=sI h
     exact ex_stop ⟨rfl,_,rfl,(kp4 (kp rfl))⟩
   ·intro e L tm hJ
    rcases u11 with u37 | u38
    ·dsimp only at h hJ
     obtain ⟨rfl,tm0_u37,rfl,rfl⟩:=hJ
     refine ⟨(by intro hc; cases hc),?_⟩
     refine ex_block_ret (ex_then_ret ?_)
     obtain rfl:=sI h
     exact ex_res1 (.inl rfl) rfl (rVt (v:=.bool u37.1) rfl) (fun W2 hW2 => ⟨rfl,hW2.none⟩)
    ·dsimp only at h hJ
     obtain ⟨rfl,tm0_u38,rfl,rfl⟩:=hJ
     refine ⟨(by intro hc; cases hc),?_⟩
     refine ex_block_here ?_
     refine eT (cS (cR ?_))
     refine ox_y rfl (y_assign_bool rfl) ?_
     refine oN (eT (cx_ret ?_))
     obtain rfl:=sI h
     exact ex_res1 (.inl rfl) rfl (rVt (v:=.bool true) rfl) (fun W2 hW2 => ⟨rfl,hW2.none⟩)
 ·clear h; rcases iOs hb7 with ⟨hp5,h⟩ | ⟨hp5,h⟩
  ·refine oSk (sF rfl rfl rfl rfl hp5) (oSk (sF rfl rfl rfl rfl hp5) (oSk (sF rfl rfl rfl rfl hp5) (oSk (sF rfl rfl rfl rfl hp5) (oSk (sF rfl rfl rfl rfl hp5) (ox_y rfl (y_pick_tb (vB hp5) rfl) ?_)))))
   obtain rfl:=sI h
   exact key _ _ (kp4 rfl)
  ·refine ox_y (sT rfl rfl rfl rfl hp5) (yFA fo_90_1 rfl) (ox_y (sT rfl rfl rfl rfl hp5) (y_load1 1 (v:=.slice A1_1 p1.fO.length c1_1) sc_88 rfl rfl rfl) (ox_y (sT rfl rfl rfl rfl hp5) (y_len (us:=[]) us_88 rfl) ?_))
   obtain ⟨y39,hy40,h⟩:=bOs h
   refine ox_y (sT rfl rfl rfl rfl hp5) (y_call [.int .i64 (p1.fO.length:Int),.int .i64 1,.int .i64 4] go_122 rfl (fun W2 hW2 => ref09_in_ok (p1.fO.length:Int) 1 4 y39 hy40 W2 ) rfl) (ox_y (sT rfl rfl rfl rfl hp5) (y_not rfl) (ox_y rfl (y_pick_fb (vB hp5) rfl) ?_))
   obtain rfl:=sI h
   exact key _ _ (kp4 rfl)
theorem ref09_Check_ok (p0:TL) (res:Int) (h:ref09_Check p0 = some res) (W:World) (Aa:Option Addr) (n0_0 ca : Nat) (hn0_0:n0_0 = p0.fNo.length) (hr0_0:Rd W Aa n0_0 ca (encL TNode_cells p0.fNo)) (Ab:Option Addr) (n0_1 cb : Nat) (ys0_1:List (Hd × TC)) (hn0_1:n0_1 = p0.fC.length) (hr0_1:Rd W Ab n0_1 cb (encL TClaim_cells2 ys0_1)) (hN0_1:NestW W (fun z : TC => z.fO) THop_cells ys0_1 p0.fC) :
  Calls Tryz.prog 66 [.agg #[.slice Aa n0_0 ca,.slice Ab n0_1 cb]].toArray W fun e W2 => e = .returned (.int .i64 res) ∧ Ext W W2 []:=by
 subst hn0_0
 subst hn0_1
 unfold ref09_Check at h
 refine calls_enter (m:=78) Tryz.func66 rfl rfl (nB rfl) ?_
 refine cS (cR ?_)
 refine ox_box [.slice Aa p0.fNo.length ca,.slice Ab p0.fC.length cb] rfl rfl rfl (fun b1 => ?_)
 refine ox_y rfl (yAI rfl) ?_
 refine oN (eT (cS (cS (cR ?_))))
 refine ox_y rfl (yFA fo_25_0 rfl) (ox_y rfl (y_load1 0 (v:=.slice Aa p0.fNo.length ca) sc_22 rfl rfl rfl) (ox_y rfl (y_len (us:=[]) us_22 rfl) (ox_y rfl (y_gtr rfl rfl) (ox_y rfl (y_move_bool rfl) ?_))))
 refine ox_join 5 (fun tm0 => (upd (upd (upd tm0 1 (.pointer (some ⟨b1,0,none⟩))) 2 (.int .i64 0)) 15 (.bool ((decide (60 < (p0.fNo.length:Int))) || (decide (80 < (p0.fC.length:Int))))))) (fun tm0 => ?_) (fun key => ?_)
 ·refine oN (eT ?_)
  rcases iOs h with ⟨hp3,h⟩ | ⟨hp3,h⟩
  ·refine cx_true (vB hp3) ?_
   refine cS (cR ?_)
   refine ox_y rfl (yAI rfl) ?_
   refine oN (eT (cx_ret (ex_then_ret ?_)))
   obtain rfl:=sI h
   exact ex_res1 (.inl rfl) rfl (rVt (v:=.int .i64 2) rfl) (fun W2 hW2 => ⟨rfl,hW2.none⟩)
  ·refine cx_false (vB hp3) ?_
   refine cx_skip (eT (cS (cS (cR ?_))))
   refine ox_y rfl (yAI rfl) ?_
   refine oN (eT (cx_block ?_))
   obtain ⟨u6,hl26,h⟩:=bOs h
   refine cx_loop (fun (s:(Int × Int)) L tm => ∃ (tm0:Nat → Value),L = [cellsR b1 25 [.slice Aa p0.fNo.length ca,.slice Ab p0.fC.length cb]] ∧ tm = (upd (upd (upd (upd tm0 1 (.pointer (some ⟨b1,0,none⟩))) 2 (.int .i64 s.1)) 15 (.bool ((decide (60 < (p0.fNo.length:Int))) || (decide (80 < (p0.fC.length:Int)))))) 3 (.int .i64 s.2))) (fun | (.inl s),e,L,tm => e = .ret ∧ ∃ (tm0:Nat → Value),L = [cellsR b1 25 [.slice Aa p0.fNo.length ca,.slice Ab p0.fC.length cb]] ∧ tm = (upd (upd (upd (upd tm0 1 (.pointer (some ⟨b1,0,none⟩))) 2 (.int .i64 s.1)) 15 (.bool ((decide (60 < (p0.fNo.length:Int))) || (decide (80 < (p0.fC.length:Int)))))) 3 (.int .i64 s.2)) | (.inr s),e,L,tm => e = .exit 0 ∧ ∃ (tm0:Nat → Value),L = [cellsR b1 25 [.slice Aa p0.fNo.length ca,.slice Ab p0.fC.length cb]] ∧ tm = (upd (upd (upd (upd tm0 1 (.pointer (some ⟨b1,0,none⟩))) 2 (.int .i64 s.1)) 15 (.bool ((decide (60 < (p0.fNo.length:Int))) || (decide (80 < (p0.fC.length:Int)))))) 3 (.int .i64 s.2))) hl26 ⟨_,rfl,(kp4 rfl)⟩ ?_ ?_
   ·rintro s5 L tm st ⟨tm0_s5,rfl,rfl⟩ h
    unfold ref09_Check_l1 at h
    refine cS (cS (cR ?_))
    refine ox_y rfl (yMI rfl) (ox_y rfl (yFA fo_25_0 rfl) (ox_y rfl (y_load1 0 (v:=.slice Aa p0.fNo.length ca) sc_22 rfl rfl rfl) (ox_y rfl (y_len (us:=[]) us_22 rfl) (ox_y rfl (y_lss rfl rfl) ?_))))
    refine oN (eT ?_)
    rcases iOs h with ⟨hp7,h⟩ | ⟨hp7,h⟩
    ·refine cx_true (vB hp7) ?_
     refine cx_skip (eT (cS (cx_block (cS (cR ?_)))))
     refine ox_y rfl (yFA fo_25_0 rfl) (ox_y rfl (y_load1 0 (v:=.slice Aa p0.fNo.length ca) sc_22 rfl rfl rfl) (ox_y rfl (yMI rfl) ?_))
     obtain ⟨hg8,h⟩:=gOs h
     refine ox_y rfl (y_indexR sl_22 (by decide) hg8.1 hg8.2 (RdL.arg hr0_0) (encL_len TNode_cells_len rfl) rfl rfl) ?_
     refine ox_y rfl (y_loadRN (A:=Aa) (j:=(Int.toNat s5.2 * 3)) [.int .i64 ((rdL p0.fNo s5.2).fID),.int .i64 ((rdL p0.fNo s5.2).fLevel),.int .i64 ((rdL p0.fNo s5.2).fCost)] ag_97 (Nat.succ_pos _) (RdL.arg hr0_0) rfl (encL_gets TNode_cells_len hg8.1 (lt_nat hg8.2 rfl))) ?_
     refine ox_alloc ze_97 rfl (fun b9 => ?_)
     refine ox_n rfl (y_storeN 1 [.int .i64 ((rdL p0.fNo s5.2).fID),.int .i64 ((rdL p0.fNo s5.2).fLevel),.int .i64 ((rdL p0.fNo s5.2).fCost)] sz_97 rfl (nB rfl) rfl rfl rfl) ?_
     refine oN (eT (cS (cS (cR ?_))))
     refine ox_y rfl (yFA fo_97_0 rfl) (ox_y rfl (y_load1 1 (v:=.int .i64 ((rdL p0.fNo s5.2).fID)) sc_3 rfl rfl rfl) ?_)
     obtain ⟨y10,hy11,h⟩:=bOs h
     refine ox_y rfl (y_call [.int .i64 ((rdL p0.fNo s5.2).fID),.int .i64 1,.int .i64 1099511627776] go_122 rfl (fun W2 hW2 => ref09_in_ok ((rdL p0.fNo s5.2).fID) 1 1099511627776 y10 hy11 W2 ) rfl) (ox_y rfl (y_not rfl) (ox_y rfl (y_move_bool rfl) ?_))
     obtain ⟨b13,hb14,h⟩:=bOs h
     refine ox_join 5 (fun tm0 => (upd (upd (upd (upd (upd (upd (upd tm0 1 (.pointer (some ⟨b1,0,none⟩))) 2 (.int .i64 s5.1)) 15 (.bool ((decide (60 < (p0.fNo.length:Int))) || (decide (80 < (p0.fC.length:Int)))))) 3 (.int .i64 s5.2)) 20 (.bool (decide (s5.2 < (p0.fNo.length:Int))))) 4 (.pointer (some ⟨b9,0,none⟩))) 37 (.bool b13))) (fun tm0 => ?_) (fun key => ?_)
     ·refine ox_y rfl (y_move_bool rfl) ?_
      obtain ⟨b16,hb17,h⟩:=bOs h
      refine ox_join 5 (fun tm0 => (upd (upd (upd (upd (upd (upd (upd tm0 1 (.pointer (some ⟨b1,0,none⟩))) 2 (.int .i64 s5.1)) 15 (.bool ((decide (60 < (p0.fNo.length:Int))) || (decide (80 < (p0.fC.length:Int)))))) 3 (.int .i64 s5.2)) 20 (.bool (decide (s5.2 < (p0.fNo.length:Int))))) 4 (.pointer (some ⟨b9,0,none⟩))) 43 (.bool b16))) (fun tm0 => ?_) (fun key => ?_)
      ·refine oN (eT ?_)
       rcases iOs h with ⟨hp18,h⟩ | ⟨hp18,h⟩
       ·refine cx_true (vB hp18) ?_
        refine cS (cR ?_)
        refine ox_y rfl (yAI rfl) ?_
        refine oN (eT (cx_ret (ex_then_ret (ex_block_ret (ex_then_ret ?_)))))
        refine ex_take 1 ?_
        obtain rfl:=sI h
        exact ex_stop ⟨rfl,_,rfl,(kp4 rfl)⟩
       ·refine cx_false (vB hp18) ?_
        refine cx_skip (eT (cS (cR ?_)))
        refine ox_y rfl (y_loadN 0 [.slice Aa p0.fNo.length ca,.slice Ab p0.fC.length cb] ag_25 rfl rfl rfl) (ox_y rfl (yFA fo_97_0 rfl) (ox_y rfl (y_load1 1 (v:=.int .i64 ((rdL p0.fNo s5.2).fID)) sc_3 rfl rfl rfl) ?_))
        obtain ⟨y19,hy20,h⟩:=bOs h
        refine ox_y rfl (y_call [.agg #[.slice Aa p0.fNo.length ca,.slice Ab p0.fC.length cb],.int .i64 ((rdL p0.fNo s5.2).fID)] go_67 rfl (fun W2 hW2 => ref09_Node_ok p0 ((rdL p0.fNo s5.2).fID) y19 hy20 W2 Aa p0.fNo.length ca rfl ((RdL.arg hr0_0) W2 hW2) Ab p0.fC.length cb ys0_1 rfl ((RdL.arg hr0_1) W2 hW2) (NestL.at (NestL.arg hN0_1) W2 hW2)) rfl) (ox_y rfl (yMI rfl) (ox_y rfl (y_lss rfl rfl) ?_))
        refine oN (eT ?_)
        rcases iOs h with ⟨hp21,h⟩ | ⟨hp21,h⟩
        ·refine cx_true (vB hp21) ?_
         refine cS (cR ?_)
         refine ox_y rfl (yAI rfl) ?_
         refine oN (eT (cx_ret (ex_block_ret (ex_then_ret ?_))))
         refine ex_take 1 ?_
         obtain rfl:=sI h
         exact ex_stop ⟨rfl,_,rfl,(kp4 rfl)⟩
        ·refine cx_false (vB hp21) (cx_skip (ex_block ?_))
         refine eT (cR ?_)
         refine ox_y rfl (yMI rfl) (ox_y rfl (y_add rfl rfl) (ox_y rfl (yAI rfl) (oN (ex_take 1 ?_))))
         obtain rfl:=sI h
         exact ex_next ⟨_,rfl,(kp4 rfl)⟩
      ·clear h; rcases iOs hb17 with ⟨hp15,h⟩ | ⟨hp15,h⟩
       ·refine oSk (sF rfl rfl rfl rfl hp15) (oSk (sF rfl rfl rfl rfl hp15) (oSk (sF rfl rfl rfl rfl hp15) (oSk (sF rfl rfl rfl rfl hp15) (ox_y rfl (y_pick_tb (vB hp15) rfl) ?_))))
        obtain rfl:=sI h
        exact key _ _ (kp4 (kp (kp (kp rfl))))
       ·refine ox_y (sT rfl rfl rfl rfl hp15) (yFA fo_97_2 rfl) (ox_y (sT rfl rfl rfl rfl hp15) (y_load1 1 (v:=.int .i64 ((rdL p0.fNo s5.2).fCost)) sc_3 rfl rfl rfl) ?_)
        obtain ⟨y22,hy23,h⟩:=bOs h
        refine ox_y (sT rfl rfl rfl rfl hp15) (y_call [.int .i64 ((rdL p0.fNo s5.2).fCost),.int .i64 0,.int .i64 1073741824] go_122 rfl (fun W2 hW2 => ref09_in_ok ((rdL p0.fNo s5.2).fCost) 0 1073741824 y22 hy23 W2 ) rfl) (ox_y (sT rfl rfl rfl rfl hp15) (y_not rfl) (ox_y rfl (y_pick_fb (vB hp15) rfl) ?_))
        obtain rfl:=sI h
        exact key _ _ (kp4 (kp (kp (kp rfl))))
     ·clear h; rcases iOs hb14 with ⟨hp12,h⟩ | ⟨hp12,h⟩
      ·refine oSk (sF rfl rfl rfl rfl hp12) (oSk (sF rfl rfl rfl rfl hp12) (oSk (sF rfl rfl rfl rfl hp12) (oSk (sF rfl rfl rfl rfl hp12) (ox_y rfl (y_pick_tb (vB hp12) rfl) ?_))))
       obtain rfl:=sI h
       exact key _ _ (kp4 (kp (kp (kp rfl))))
      ·refine ox_y (sT rfl rfl rfl rfl hp12) (yFA fo_97_1 rfl) (ox_y (sT rfl rfl rfl rfl hp12) (y_load1 1 (v:=.int .i64 ((rdL p0.fNo s5.2).fLevel)) sc_3 rfl rfl rfl) ?_)
       obtain ⟨y24,hy25,h⟩:=bOs h
       refine ox_y (sT rfl rfl rfl rfl hp12) (y_call [.int .i64 ((rdL p0.fNo s5.2).fLevel),.int .i64 0,.int .i64 9] go_122 rfl (fun W2 hW2 => ref09_in_ok ((rdL p0.fNo s5.2).fLevel) 0 9 y24 hy25 W2 ) rfl) (ox_y (sT rfl rfl rfl rfl hp12) (y_not rfl) (ox_y rfl (y_pick_fb (vB hp12) rfl) ?_))
       obtain rfl:=sI h
       exact key _ _ (kp4 (kp (kp (kp rfl))))
    ·refine cx_false (vB hp7) (cx_exit (ex_then_exit ?_))
     obtain rfl:=sI h
     exact ex_stop ⟨rfl,_,rfl,(kp4 rfl)⟩
   ·intro e L tm hJ
    rcases u6 with u27 | u28
    ·dsimp only at h hJ
     obtain ⟨rfl,tm0_u27,rfl,rfl⟩:=hJ
     refine ⟨(by intro hc; cases hc),?_⟩
     refine ex_block_ret (ex_then_ret ?_)
     obtain rfl:=sI h
     exact ex_res1 (.inl rfl) rfl (rVt (v:=.int .i64 u27.1) rfl) (fun W2 hW2 => ⟨rfl,hW2.none⟩)
    ·dsimp only at h hJ
     obtain ⟨rfl,tm0_u28,rfl,rfl⟩:=hJ
     refine ⟨(by intro hc; cases hc),?_⟩
     refine ex_block_here ?_
     refine eT (cS (cS (cR ?_)))
     refine ox_y rfl (yAI rfl) ?_
     refine oN (eT (cx_block ?_))
     obtain ⟨u31,hl41,h⟩:=bOs h
     refine cx_loop (fun (s:(Int × Int)) L tm => ∃ (tm0:Nat → Value),L = [cellsR b1 25 [.slice Aa p0.fNo.length ca,.slice Ab p0.fC.length cb]] ∧ tm = (upd (upd (upd (upd (upd tm0 1 (.pointer (some ⟨b1,0,none⟩))) 2 (.int .i64 s.1)) 15 (.bool ((decide (60 < (p0.fNo.length:Int))) || (decide (80 < (p0.fC.length:Int)))))) 3 (.int .i64 u28.2)) 5 (.int .i64 s.2))) (fun | (.inl s),e,L,tm => e = .ret ∧ ∃ (tm0:Nat → Value),L = [cellsR b1 25 [.slice Aa p0.fNo.length ca,.slice Ab p0.fC.length cb]] ∧ tm = (upd (upd (upd (upd (upd tm0 1 (.pointer (some ⟨b1,0,none⟩))) 2 (.int .i64 s.1)) 15 (.bool ((decide (60 < (p0.fNo.length:Int))) || (decide (80 < (p0.fC.length:Int)))))) 3 (.int .i64 u28.2)) 5 (.int .i64 s.2)) | (.inr s),e,L,tm => e = .exit 2 ∧ ∃ (tm0:Nat → Value),L = [cellsR b1 25 [.slice Aa p0.fNo.length ca,.slice Ab p0.fC.length cb]] ∧ tm = (upd (upd (upd (upd (upd tm0 1 (.pointer (some ⟨b1,0,none⟩))) 2 (.int .i64 s.1)) 15 (.bool ((decide (60 < (p0.fNo.length:Int))) || (decide (80 < (p0.fC.length:Int)))))) 3 (.int .i64 u28.2)) 5 (.int .i64 s.2))) hl41 ⟨_,rfl,(kp4 (kp rfl))⟩ ?_ ?_
     ·rintro s30 L tm st ⟨tm0_s30,rfl,rfl⟩ h
      unfold ref09_Check_l2 at h
      refine cS (cS (cR ?_))
      refine ox_y rfl (yMI rfl) (ox_y rfl (yFA fo_25_1 rfl) (ox_y rfl (y_load1 0 (v:=.slice Ab p0.fC.length cb) sc_23 rfl rfl rfl) (ox_y rfl (y_len (us:=[]) us_23 rfl) (ox_y rfl (y_lss rfl rfl) ?_))))
      refine oN (eT ?_)
      rcases iOs h with ⟨hp32,h⟩ | ⟨hp32,h⟩
      ·refine cx_true (vB hp32) ?_
       refine cx_skip (eT (cS (cx_block (cS (cS ?_)))))
       refine cx_draws 8 mixed (by kernel_rfl) (by kernel_rfl) ?_
       refine qx_y rfl (y_loadN 0 [.slice Aa p0.fNo.length ca,.slice Ab p0.fC.length cb] ag_25 rfl rfl rfl) (qx_y rfl (yFA fo_25_1 rfl) (qx_y rfl (y_load1 0 (v:=.slice Ab p0.fC.length cb) sc_23 rfl rfl rfl) (qx_y rfl (yMI rfl) ?_)))
       obtain ⟨hg33,h⟩:=gOs h
       refine qx_y rfl (y_indexR sl_23 (by decide) hg33.1 hg33.2 (RdL.arg hr0_1) (encL_len TClaim_cells2_len (NestP.hn hN0_1.p rfl)) rfl rfl) ?_
       refine qx_y rfl (y_loadRN (A:=Ab) (j:=(Int.toNat s30.2 * 2)) [.int .i64 ((rdL p0.fC s30.2).fID),.slice ((rdL ys0_1 s30.2).1.1) ((rdL p0.fC s30.2).fO.length) ((rdL ys0_1 s30.2).1.2.2)] ag_90 (Nat.succ_pos _) (RdL.arg hr0_1) rfl (gets_eq (TClaim_cells2_eq (NestP.snd hN0_1.p s30.2) (NestP.len hN0_1.p hg33.1 (lt_nat hg33.2 rfl))).symm (encL_gets TClaim_cells2_len hg33.1 (lt_nat hg33.2 (NestP.hn hN0_1.p rfl))))) ?_
       obtain ⟨y34,hy35,h⟩:=bOs h
       refine qx_y rfl (y_call [.agg #[.slice Aa p0.fNo.length ca,.slice Ab p0.fC.length cb],.agg #[.int .i64 ((rdL p0.fC s30.2).fID),.slice ((rdL ys0_1 s30.2).1.1) ((rdL p0.fC s30.2).fO.length) ((rdL ys0_1 s30.2).1.2.2)]] go_123 rfl (fun W2 hW2 => ref09_claim_ok p0 (TC.mk ((rdL p0.fC s30.2).fID) ((rdL p0.fC s30.2).fO)) y34 hy35 W2 Aa p0.fNo.length ca rfl ((RdL.arg hr0_0) W2 hW2) Ab p0.fC.length cb ys0_1 rfl ((RdL.arg hr0_1) W2 hW2) (NestL.at (NestL.arg hN0_1) W2 hW2) ((rdL ys0_1 s30.2).1.1) ((rdL p0.fC s30.2).fO.length) ((rdL ys0_1 s30.2).1.2.2) rfl ((NestL.rd (NestL.arg hN0_1) hg33.1 (lt_nat hg33.2 rfl)) W2 hW2)) rfl) (qx_y rfl (y_not rfl) (qx_nil ?_))
       refine oN (eT ?_)
       rcases iOs h with ⟨hp36,h⟩ | ⟨hp36,h⟩
       ·refine cx_true (vB hp36) ?_
        refine cS (cR ?_)
        refine ox_y rfl (yAI rfl) ?_
        refine oN (eT (cx_ret (ex_then_ret (ex_block_ret (ex_then_ret ?_)))))
        obtain rfl:=sI h
        exact ex_stop ⟨rfl,_,rfl,(kp4 (kp rfl))⟩
       ·refine cx_false (vB hp36) ?_
        refine cx_skip (eT (cS ?_))
        refine cx_draws 10 mixed (by kernel_rfl) (by kernel_rfl) ?_
        refine qx_y rfl (y_loadN 0 [.slice Aa p0.fNo.length ca,.slice Ab p0.fC.length cb] ag_25 rfl rfl rfl) (qx_y rfl (yFA fo_25_1 rfl) (qx_y rfl (y_load1 0 (v:=.slice Ab p0.fC.length cb) sc_23 rfl rfl rfl) (qx_y rfl (yMI rfl) ?_)))
        obtain ⟨hg37,h⟩:=gOs h
        refine qx_y rfl (y_indexR sl_23 (by decide) hg37.1 hg37.2 (RdL.arg hr0_1) (encL_len TClaim_cells2_len (NestP.hn hN0_1.p rfl)) rfl rfl) ?_
        refine qx_y rfl (y_fieldAddrR (A:=Ab) (j:=(Int.toNat s30.2 * 2)) fo_90_0 rfl) (qx_y rfl (y_loadR1 (A:=Ab) (j:=((Int.toNat s30.2 * 2) + 0)) (v:=.int .i64 ((rdL p0.fC s30.2).fID)) sc_3 (RdL.arg hr0_1) rfl (encL_get TClaim_cells2_len hg37.1 (lt_nat hg37.2 (NestP.hn hN0_1.p rfl)) (congrArg (fun z : TC => some (Value.int .i64 z.fID)) (NestP.snd hN0_1.p s30.2)))) ?_)
        obtain ⟨y38,hy39,h⟩:=bOs h
        refine qx_y rfl (y_call [.agg #[.slice Aa p0.fNo.length ca,.slice Ab p0.fC.length cb],.int .i64 ((rdL p0.fC s30.2).fID)] go_105 rfl (fun W2 hW2 => ref09_Claim_ok p0 ((rdL p0.fC s30.2).fID) y38 hy39 W2 Aa p0.fNo.length ca rfl ((RdL.arg hr0_0) W2 hW2) Ab p0.fC.length cb ys0_1 rfl ((RdL.arg hr0_1) W2 hW2) (NestL.at (NestL.arg hN0_1) W2 hW2)) rfl) (qx_y rfl (yMI rfl) (qx_y rfl (y_lss rfl rfl) (qx_nil ?_)))
        refine oN (eT ?_)
        rcases iOs h with ⟨hp40,h⟩ | ⟨hp40,h⟩
        ·refine cx_true (vB hp40) ?_
         refine cS (cR ?_)
         refine ox_y rfl (yAI rfl) ?_
         refine oN (eT (cx_ret (ex_block_ret (ex_then_ret ?_))))
         obtain rfl:=sI h
         exact ex_stop ⟨rfl,_,rfl,(kp4 (kp rfl))⟩
        ·refine cx_false (vB hp40) (cx_skip (ex_block ?_))
         refine eT (cR ?_)
         refine ox_y rfl (yMI rfl) (ox_y rfl (y_add rfl rfl) (ox_y rfl (yAI rfl) (oN ?_)))
         obtain rfl:=sI h
         exact ex_next ⟨_,rfl,(kp4 (kp rfl))⟩
      ·refine cx_false (vB hp32) (cx_exit (ex_then_exit ?_))
       obtain rfl:=sI h
       exact ex_stop ⟨rfl,_,rfl,(kp4 (kp rfl))⟩
     ·intro e L tm hJ
      rcases u31 with u42 | u43
      ·dsimp only at h hJ
       obtain ⟨rfl,tm0_u42,rfl,rfl⟩:=hJ
       refine ⟨(by intro hc; cases hc),?_⟩
       refine ex_block_ret (ex_then_ret ?_)
       obtain rfl:=sI h
       exact ex_res1 (.inl rfl) rfl (rVt (v:=.int .i64 u42.1) rfl) (fun W2 hW2 => ⟨rfl,hW2.none⟩)
      ·dsimp only at h hJ
       obtain ⟨rfl,tm0_u43,rfl,rfl⟩:=hJ
       refine ⟨(by intro hc; cases hc),?_⟩
       refine ex_block_here ?_
       refine eT (cS (cS (cR ?_)))
       refine ox_y rfl (y_loadN 0 [.slice Aa p0.fNo.length ca,.slice Ab p0.fC.length cb] ag_25 rfl rfl rfl) ?_
       obtain ⟨y44,hy45,h⟩:=bOs h
       refine ox_y rfl (y_call [.agg #[.slice Aa p0.fNo.length ca,.slice Ab p0.fC.length cb]] go_83 rfl (fun W2 hW2 => ref09_count_ok p0 y44 hy45 W2 Aa p0.fNo.length ca rfl ((RdL.arg hr0_0) W2 hW2) Ab p0.fC.length cb ys0_1 rfl ((RdL.arg hr0_1) W2 hW2) (NestL.at (NestL.arg hN0_1) W2 hW2)) rfl) (ox_y rfl (y_gtr rfl rfl) ?_)
       refine oN (eT ?_)
       rcases iOs h with ⟨hp46,h⟩ | ⟨hp46,h⟩
       ·refine cx_true (vB hp46) ?_
        refine cS (cR ?_)
        refine ox_y rfl (yAI rfl) ?_
        refine oN (eT (cx_ret (ex_then_ret ?_)))
        obtain rfl:=sI h
        exact ex_res1 (.inl rfl) rfl (rVt (v:=.int .i64 2) rfl) (fun W2 hW2 => ⟨rfl,hW2.none⟩)
       ·refine cx_false (vB hp46) ?_
        refine cx_skip (eT (cS (cR ?_)))
        refine ox_y rfl (yAI rfl) ?_
        refine oN (eT (cx_ret ?_))
        obtain rfl:=sI h
        exact ex_res1 (.inl rfl) rfl (rVt (v:=.int .i64 0) rfl) (fun W2 hW2 => ⟨rfl,hW2.none⟩)
 ·rcases bool_cases (decide (60 < (p0.fNo.length:Int))) with hp2 | hp2
  ·refine oSk (sF rfl rfl rfl rfl hp2) (oSk (sF rfl rfl rfl rfl hp2) (oSk (sF rfl rfl rfl rfl hp2) (oSk (sF rfl rfl rfl rfl hp2) (ox_y rfl (y_pick_tb (vB hp2) rfl) ?_))))
   exact key _ _ (keep (keep (keep rfl rfl) rfl) (vB (or_t hp2)))
  ·refine ox_y (sT rfl rfl rfl rfl hp2) (yFA fo_25_1 rfl) (ox_y (sT rfl rfl rfl rfl hp2) (y_load1 0 (v:=.slice Ab p0.fC.length cb) sc_23 rfl rfl rfl) (ox_y (sT rfl rfl rfl rfl hp2) (y_len (us:=[]) us_23 rfl) (ox_y (sT rfl rfl rfl rfl hp2) (y_gtr rfl rfl) (ox_y rfl (y_pick_fb (vB hp2) rfl) ?_))))
   exact key _ _ (keep (keep (keep rfl rfl) rfl) (vB (or_f hp2)))
theorem ref09_numbered_ok (p0:TL) (p1:Int) (res:(List Int)) (h:ref09_numbered p0 p1 = some res) (W:World) (Aa:Option Addr) (n0_0 ca : Nat) (hn0_0:n0_0 = p0.fNo.length) (hr0_0:Rd W Aa n0_0 ca (encL TNode_cells p0.fNo)) (Ab:Option Addr) (n0_1 cb : Nat) (ys0_1:List (Hd × TC)) (hn0_1:n0_1 = p0.fC.length) (hr0_1:Rd W Ab n0_1 cb (encL TClaim_cells2 ys0_1)) (hN0_1:NestW W (fun z : TC => z.fO) THop_cells ys0_1 p0.fC) :
  Calls Tryz.prog 85 [.agg #[.slice Aa n0_0 ca,.slice Ab n0_1 cb],.int .i64 p1].toArray W fun e W2 => ∃ x : Option Addr × Nat × Nat,x.2.1 = res.length ∧ e = .returned (.slice x.1 x.2.1 x.2.2) ∧ Ext W W2 [rowR x.1 x.2.2 3 1 x.2.1 (encL cI res)]:=by
 subst hn0_0
 subst hn0_1
 unfold ref09_numbered at h
 refine calls_enter (m:=32) Tryz.func85 rfl rfl (nB rfl) ?_
 refine cS (cR ?_)
 refine ox_box [.slice Aa p0.fNo.length ca,.slice Ab p0.fC.length cb] rfl rfl rfl (fun b1 => ?_)
 refine ox_y rfl (yAS rfl) ?_
 refine oN (eT (cS (cR ?_)))
 refine ox_y rfl (yAS rfl) ?_
 refine oN (eT (cS (cS (cR ?_))))
 refine ox_y rfl (yAI rfl) ?_
 refine oN (eT (cx_block ?_))
 obtain ⟨u5,hl14,h⟩:=bOs h
 refine cx_nilrow 3 1 ?_
 refine cx_loop (fun (s:(Int × Int × (List Int))) L tm => ∃ (tm0:Nat → Value) (A1_s:Option Addr) (c1_s:Nat) (n1_s:Nat),n1_s = s.2.2.length ∧ L = [cellsR b1 25 [.slice Aa p0.fNo.length ca,.slice Ab p0.fC.length cb],rowR A1_s c1_s 3 1 n1_s (encL cI s.2.2)] ∧ tm = (upd (upd (upd (upd (upd (upd tm0 0 (.agg #[.slice Aa p0.fNo.length ca,.slice Ab p0.fC.length cb])) 1 (.int .i64 s.1)) 2 (.pointer (some ⟨b1,0,none⟩))) 4 (.slice none 0 0)) 5 (.slice A1_s n1_s c1_s)) 6 (.int .i64 s.2.1))) (fun s e L tm => e = .exit 0 ∧ ∃ (tm0:Nat → Value) (A1_s:Option Addr) (c1_s:Nat) (n1_s:Nat),n1_s = s.2.2.length ∧ L = [cellsR b1 25 [.slice Aa p0.fNo.length ca,.slice Ab p0.fC.length cb],rowR A1_s c1_s 3 1 n1_s (encL cI s.2.2)] ∧ tm = (upd (upd (upd (upd (upd (upd tm0 0 (.agg #[.slice Aa p0.fNo.length ca,.slice Ab p0.fC.length cb])) 1 (.int .i64 s.1)) 2 (.pointer (some ⟨b1,0,none⟩))) 4 (.slice none 0 0)) 5 (.slice A1_s n1_s c1_s)) 6 (.int .i64 s.2.1))) hl14 ⟨_,none,0,0,rfl,rfl,(kp4 (kp (kp rfl)))⟩ ?_ ?_
 ·rintro s4 L tm st ⟨tm0_s4,A1_s4,c1_s4,n1_s4,rfl,rfl,rfl⟩ h
  unfold ref09_numbered_l1 at h
  refine cS (cS (cR ?_))
  refine ox_y rfl (yMI rfl) (ox_y rfl (yFA fo_25_1 rfl) (ox_y rfl (y_load1 0 (v:=.slice Ab p0.fC.length cb) sc_23 rfl rfl rfl) (ox_y rfl (y_len (us:=[]) us_23 rfl) (ox_y rfl (y_lss rfl rfl) ?_))))
  refine oN (eT ?_)
  rcases iOs h with ⟨hp6,h⟩ | ⟨hp6,h⟩
  ·refine cx_true (vB hp6) ?_
   refine cx_skip (eT (cS (cx_block (cS (cR ?_)))))
   refine ox_y rfl (yFA fo_25_1 rfl) (ox_y rfl (y_load1 0 (v:=.slice Ab p0.fC.length cb) sc_23 rfl rfl rfl) (ox_y rfl (yMI rfl) ?_))
   obtain ⟨hg7,h⟩:=gOs h
   refine ox_y rfl (y_indexR sl_23 (by decide) hg7.1 hg7.2 (RdL.arg hr0_1) (encL_len TClaim_cells2_len (NestP.hn hN0_1.p rfl)) rfl rfl) ?_
   refine ox_y rfl (y_fieldAddrR (A:=Ab) (j:=(Int.toNat s4.2.1 * 2)) fo_90_1 rfl) (ox_y rfl (y_loadR1 (A:=Ab) (j:=((Int.toNat s4.2.1 * 2) + 1)) (v:=.slice ((rdL ys0_1 s4.2.1).1.1) ((rdL p0.fC s4.2.1).fO.length) ((rdL ys0_1 s4.2.1).1.2.2)) sc_88 (RdL.arg hr0_1) rfl (encL_get TClaim_cells2_len hg7.1 (lt_nat hg7.2 (NestP.hn hN0_1.p rfl)) (congrArg (fun n : Nat => some (Value.slice (rdL ys0_1 s4.2.1).1.1 n (rdL ys0_1 s4.2.1).1.2.2)) (NestP.len hN0_1.p hg7.1 (lt_nat hg7.2 rfl))))) (ox_y rfl (y_len (us:=[]) us_88 rfl) (ox_y rfl (yAI rfl) ?_)))
   refine oN (eT (cS (cR ?_)))
   refine ox_y rfl (yMS rfl) (ox_y rfl (yMI rfl) (ox_y rfl (yMI rfl) ?_))
   obtain ⟨hg8,h⟩:=gOs h
   refine ox_y rfl (y_rem hg8 rfl rfl) ?_
   refine ox_buildSliceE 1 (encL cI [Int.tmod s4.1 (((rdL p0.fC s4.2.1).fO.length : Nat) : Int)]) _ mc_3_1 us_26 ze_3 by_3 (by decide) (by decide) (by kernel_rfl) (encL_len cI_len rfl) rfl (fun b9 => ?_)
   obtain ⟨hg12,h⟩:=gOs h
   refine ox_append0 1 us_26 ze_3 by_3 rfl rfl rfl (RdL.row 2 rfl) (encL_len cI_len rfl) (encL_one cI_one _) (app_room hg12 (by decide)) rfl (fun A10 c11 => ?_)
   refine ox_y rfl (yAS rfl) ?_
   refine oN (eT (cR ?_))
   refine ox_y rfl (yMI rfl) (ox_y rfl (yMI rfl) ?_)
   obtain ⟨hg13,h⟩:=gOs h
   refine ox_y rfl (y_quo hg13 rfl rfl) (ox_y rfl (yAI rfl) (oN (ex_block ?_)))
   refine eT (cR ?_)
   refine ox_y rfl (yMI rfl) (ox_y rfl (y_add rfl rfl) (ox_y rfl (yAI rfl) (oN (ex_take 2 ?_))))
   obtain rfl:=sI h
   exact ex_next ⟨_,A10,c11,(s4.2.2.length + 1),(hn_app rfl rfl),rfl,(kp4 (kp (kp rfl)))⟩
  ·refine cx_false (vB hp6) (cx_exit (ex_then_exit ?_))
   obtain rfl:=sI h
   exact ex_stop ⟨rfl,_,A1_s4,c1_s4,s4.2.2.length,rfl,rfl,(kp4 (kp (kp rfl)))⟩
 ·intro e L tm hJ
  obtain ⟨rfl,tm0_u5,A1_u5,c1_u5,n1_u5,rfl,rfl,rfl⟩:=hJ
  refine ⟨(by intro hc; cases hc),?_⟩
  refine ex_block_here ?_
  refine eT (cS (cR ?_))
  refine ox_y rfl (yMS rfl) (ox_y rfl (yAS rfl) ?_)
  refine oN (eT (cx_ret ?_))
  obtain rfl:=sI h
  exact ex_res1 (.inl rfl) rfl (rVt (v:=.slice A1_u5 u5.2.2.length c1_u5) rfl) (fun W2 hW2 => ⟨(A1_u5,u5.2.2.length,c1_u5),rfl,rfl,(hW2.pick 1 rfl)⟩)
theorem ref09_has_ok (p0:(List Int)) (p1:Int) (res:Bool) (h:ref09_has p0 p1 = some res) (W:World) (Aa:Option Addr) (n0_0 ca : Nat) (hn0_0:n0_0 = p0.length) (hr0_0:Rd W Aa n0_0 ca (encL cI p0)) :
  Calls Tryz.prog 82 [.slice Aa n0_0 ca,.int .i64 p1].toArray W fun e W2 => e = .returned (.bool res) ∧ Ext W W2 []:=by
 subst hn0_0
 unfold ref09_has at h
 refine calls_enter (m:=18) Tryz.func82 rfl rfl (nB rfl) ?_
 refine cS (cR ?_)
 refine ox_y rfl (y_assign_bool rfl) ?_
 refine oN (eT (cS (cS (cR ?_))))
 refine ox_y rfl (yAI rfl) ?_
 refine oN (eT (cx_block ?_))
 obtain ⟨u3,hl7,h⟩:=bOs h
 refine cx_loop (fun (s:(Bool × Int)) L tm => ∃ (tm0:Nat → Value),L = [] ∧ tm = (upd (upd (upd (upd tm0 0 (.slice Aa p0.length ca)) 1 (.int .i64 p1)) 4 (.bool s.1)) 5 (.int .i64 s.2))) (fun | (.inl s),e,L,tm => e = .ret ∧ ∃ (tm0:Nat → Value),L = [] ∧ tm = (upd (upd (upd (upd tm0 0 (.slice Aa p0.length ca)) 1 (.int .i64 p1)) 4 (.bool s.1)) 5 (.int .i64 s.2)) | (.inr s),e,L,tm => e = .exit 0 ∧ ∃ (tm0:Nat → Value),L = [] ∧ tm = (upd (upd (upd (upd tm0 0 (.slice Aa p0.length ca)) 1 (.int .i64 p1)) 4 (.bool s.1)) 5 (.int .i64 s.2))) hl7 ⟨_,rfl,(kp4 rfl)⟩ ?_ ?_
 ·rintro s2 L tm st ⟨tm0_s2,rfl,rfl⟩ h
  unfold ref09_has_l1 at h
  refine cS (cS (cR ?_))
  refine ox_y rfl (yMI rfl) (ox_y rfl (yMS rfl) (ox_y rfl (y_len (us:=[]) us_26 rfl) (ox_y rfl (y_lss rfl rfl) ?_)))
  refine oN (eT ?_)
  rcases iOs h with ⟨hp4,h⟩ | ⟨hp4,h⟩
  ·refine cx_true (vB hp4) ?_
   refine cx_skip (eT (cS (cx_block (cS (cR ?_)))))
   refine ox_y rfl (yMS rfl) (ox_y rfl (yMI rfl) ?_)
   obtain ⟨hg5,h⟩:=gOs h
   refine ox_y rfl (y_indexR sl_26 (by decide) hg5.1 hg5.2 (RdL.arg hr0_0) (encL_len cI_len rfl) rfl rfl) ?_
   refine ox_y rfl (y_loadR1 (A:=Aa) (j:=(Int.toNat s2.2 * 1)) (v:=.int .i64 (rdL p0 s2.2)) sc_3 (RdL.arg hr0_0) rfl (encL_get0 cI_len hg5.1 (lt_nat hg5.2 rfl) rfl)) (ox_y rfl (yMI rfl) (ox_y rfl (y_eql rfl rfl) ?_))
   refine oN (eT ?_)
   rcases iOs h with ⟨hp6,h⟩ | ⟨hp6,h⟩
   ·refine cx_true (vB hp6) ?_
    refine cS (cR ?_)
    refine ox_y rfl (y_assign_bool rfl) ?_
    refine oN (eT (cx_ret (ex_block_ret (ex_then_ret ?_))))
    obtain rfl:=sI h
    exact ex_stop ⟨rfl,_,rfl,(kp4 rfl)⟩
   ·refine cx_false (vB hp6) (cx_skip (ex_block ?_))
    refine eT (cR ?_)
    refine ox_y rfl (yMI rfl) (ox_y rfl (y_add rfl rfl) (ox_y rfl (yAI rfl) (oN ?_)))
    obtain rfl:=sI h
    exact ex_next ⟨_,rfl,(kp4 rfl)⟩
  ·refine cx_false (vB hp4) (cx_exit (ex_then_exit ?_))
   obtain rfl:=sI h
   exact ex_stop ⟨rfl,_,rfl,(kp4 rfl)⟩
 ·intro e L tm hJ
  rcases u3 with u8 | u9
  ·dsimp only at h hJ
   obtain ⟨rfl,tm0_u8,rfl,rfl⟩:=hJ
   refine ⟨(by intro hc; cases hc),?_⟩
   refine ex_block_ret (ex_then_ret ?_)
   obtain rfl:=sI h
   exact ex_res1 (.inl rfl) rfl (rVt (v:=.bool u8.1) rfl) (fun W2 hW2 => ⟨rfl,hW2.none⟩)
  ·dsimp only at h hJ
   obtain ⟨rfl,tm0_u9,rfl,rfl⟩:=hJ
   refine ⟨(by intro hc; cases hc),?_⟩
   refine ex_block_here ?_
   refine eT (cS (cR ?_))
   refine ox_y rfl (y_assign_bool rfl) ?_
   refine oN (eT (cx_ret ?_))
   obtain rfl:=sI h
   exact ex_res1 (.inl rfl) rfl (rVt (v:=.bool false) rfl) (fun W2 hW2 => ⟨rfl,hW2.none⟩)
theorem ref09_reached_ok (p0:TL) (p1:(List Int)) (p2:(List Int)) (res:(List Bool)) (h:ref09_reached p0 p1 p2 = some res) (W:World) (Aa:Option Addr) (n0_0 ca : Nat) (hn0_0:n0_0 = p0.fNo.length) (hr0_0:Rd W Aa n0_0 ca (encL TNode_cells p0.fNo)) (Ab:Option Addr) (n0_1 cb : Nat) (ys0_1:List (Hd × TC)) (hn0_1:n0_1 = p0.fC.length) (hr0_1:Rd W Ab n0_1 cb (encL TClaim_cells2 ys0_1)) (hN0_1:NestW W (fun z : TC => z.fO) THop_cells ys0_1 p0.fC) (Ac:Option Addr) (n1_0 cc : Nat) (hn1_0:n1_0 = p1.length) (hr1_0:Rd W Ac n1_0 cc (encL cI p1)) (A2_0:Option Addr) (n2_0 c2_0 : Nat) (hn2_0:n2_0 = p2.length) (hr2_0:Rd W A2_0 n2_0 c2_0 (encL cI p2)) :
  Calls Tryz.prog 89 [.agg #[.slice Aa n0_0 ca,.slice Ab n0_1 cb],.slice Ac n1_0 cc,.slice A2_0 n2_0 c2_0].toArray W fun e W2 => ∃ x : Option Addr × Nat × Nat,x.2.1 = res.length ∧ e = .returned (.slice x.1 x.2.1 x.2.2) ∧ Ext W W2 [rowR x.1 x.2.2 4 1 x.2.1 (encL cB res)]:=by
 subst hn0_0
 subst hn0_1
 subst hn1_0
 subst hn2_0
 unfold ref09_reached at h
 refine calls_enter (m:=79) Tryz.func89 rfl rfl (nB rfl) ?_
 refine cS (cR ?_)
 refine ox_box [.slice Aa p0.fNo.length ca,.slice Ab p0.fC.length cb] rfl rfl rfl (fun b1 => ?_)
 refine ox_y rfl (yAS rfl) ?_
 refine oN (eT (cS (cR ?_)))
 refine ox_y rfl (yFA fo_25_0 rfl) (ox_y rfl (y_load1 0 (v:=.slice Aa p0.fNo.length ca) sc_22 rfl rfl rfl) (ox_y rfl (y_len (us:=[]) us_22 rfl) ?_))
 obtain ⟨hg3,h⟩:=gOs h
 refine ox_make (encL cB (List.replicate (Int.toNat (p0.fNo.length:Int)) false)) us_98 ze_4 by_4 hg3.1 hg3.2 rfl (made_enc _ _ _ rfl rfl) rfl (fun b2 => ?_)
 refine ox_y rfl (yAS rfl) ?_
 refine oN (eT (cS (cS (cR ?_))))
 refine ox_y rfl (yAI rfl) ?_
 refine oN (eT (cx_block ?_))
 obtain ⟨u7,hl13,h⟩:=bOs h
 refine cx_loop (fun (s:(Int × (List Bool))) L tm => ∃ (tm0:Nat → Value),Int.toNat (p0.fNo.length:Int) = s.2.length ∧ L = [cellsR b1 25 [.slice Aa p0.fNo.length ca,.slice Ab p0.fC.length cb],rowR (some ⟨b2,0,none⟩) (Int.toNat (p0.fNo.length:Int)) 4 1 (Int.toNat (p0.fNo.length:Int)) (encL cB s.2)] ∧ tm = (upd (upd (upd (upd (upd (upd (upd tm0 0 (.agg #[.slice Aa p0.fNo.length ca,.slice Ab p0.fC.length cb])) 1 (.slice Ac p1.length cc)) 2 (.slice A2_0 p2.length c2_0)) 3 (.pointer (some ⟨b1,0,none⟩))) 6 (.slice none 0 0)) 7 (.slice (some ⟨b2,0,none⟩) (Int.toNat (p0.fNo.length:Int)) (Int.toNat (p0.fNo.length:Int)))) 8 (.int .i64 s.1))) (fun s e L tm => e = .exit 0 ∧ ∃ (tm0:Nat → Value),Int.toNat (p0.fNo.length:Int) = s.2.length ∧ L = [cellsR b1 25 [.slice Aa p0.fNo.length ca,.slice Ab p0.fC.length cb],rowR (some ⟨b2,0,none⟩) (Int.toNat (p0.fNo.length:Int)) 4 1 (Int.toNat (p0.fNo.length:Int)) (encL cB s.2)] ∧ tm = (upd (upd (upd (upd (upd (upd (upd tm0 0 (.agg #[.slice Aa p0.fNo.length ca,.slice Ab p0.fC.length cb])) 1 (.slice Ac p1.length cc)) 2 (.slice A2_0 p2.length c2_0)) 3 (.pointer (some ⟨b1,0,none⟩))) 6 (.slice none 0 0)) 7 (.slice (some ⟨b2,0,none⟩) (Int.toNat (p0.fNo.length:Int)) (Int.toNat (p0.fNo.length:Int)))) 8 (.int .i64 s.1))) hl13 ⟨_,(List.length_replicate).symm,rfl,(kp4 (kp (kp (kp rfl))))⟩ ?_ ?_
 ·rintro s6 L tm st ⟨tm0_s6,hn1_s6,rfl,rfl⟩ h
  unfold ref09_reached_l1 at h
  refine cS (cS (cR ?_))
  refine ox_y rfl (yMI rfl) (ox_y rfl (yFA fo_25_0 rfl) (ox_y rfl (y_load1 0 (v:=.slice Aa p0.fNo.length ca) sc_22 rfl rfl rfl) (ox_y rfl (y_len (us:=[]) us_22 rfl) (ox_y rfl (y_lss rfl rfl) ?_))))
  refine oN (eT ?_)
  rcases iOs h with ⟨hp8,h⟩ | ⟨hp8,h⟩
  ·refine cx_true (vB hp8) ?_
   refine cx_skip (eT (cS (cx_block (cR ?_))))
   refine ox_y rfl (yMS rfl) (ox_y rfl (yMI rfl) (ox_y rfl (yMS rfl) (ox_y rfl (yFA fo_25_0 rfl) (ox_y rfl (y_load1 0 (v:=.slice Aa p0.fNo.length ca) sc_22 rfl rfl rfl) (ox_y rfl (yMI rfl) ?_)))))
   obtain ⟨hg9,h⟩:=gOs h
   refine ox_y rfl (y_indexR sl_22 (by decide) hg9.1 hg9.2 (RdL.arg hr0_0) (encL_len TNode_cells_len rfl) rfl rfl) ?_
   refine ox_y rfl (y_fieldAddrR (A:=Aa) (j:=(Int.toNat s6.1 * 3)) fo_97_0 rfl) (ox_y rfl (y_loadR1 (A:=Aa) (j:=((Int.toNat s6.1 * 3) + 0)) (v:=.int .i64 ((rdL p0.fNo s6.1).fID)) sc_3 (RdL.arg hr0_0) rfl (encL_get TNode_cells_len hg9.1 (lt_nat hg9.2 rfl) rfl)) ?_)
   obtain ⟨y10,hy11,h⟩:=bOs h
   refine ox_y rfl (y_call [.slice Ac p1.length cc,.int .i64 ((rdL p0.fNo s6.1).fID)] go_82 rfl (fun W2 hW2 => ref09_has_ok p1 ((rdL p0.fNo s6.1).fID) y10 hy11 W2 Ac p1.length cc rfl ((RdL.arg hr1_0) W2 hW2)) rfl) ?_
   obtain ⟨hg12,h⟩:=gOs h
   refine ox_y rfl (y_indexR sl_98 (by decide) hg12.1 hg12.2 (RdL.row 1 rfl) (encL_len cB_len hn1_s6) rfl rfl) ?_
   refine ox_n rfl (y_storeR1 1 (xs:=s6.2) cB_len y10 sz_4 rfl hg12.1 (lt_nat hg12.2 hn1_s6) rfl rfl rfl rfl) (oN (ex_block ?_))
   refine eT (cR ?_)
   refine ox_y rfl (yMI rfl) (ox_y rfl (y_add rfl rfl) (ox_y rfl (yAI rfl) (oN ?_)))
   obtain rfl:=sI h
   exact ex_next ⟨_,(hn_set hn1_s6),rfl,(kp4 (kp (kp (kp rfl))))⟩
  ·refine cx_false (vB hp8) (cx_exit (ex_then_exit ?_))
   obtain rfl:=sI h
   exact ex_stop ⟨rfl,_,hn1_s6,rfl,(kp4 (kp (kp (kp rfl))))⟩
 ·intro e L tm hJ
  obtain ⟨rfl,tm0_u7,hn1_u7,rfl,rfl⟩:=hJ
  refine ⟨(by intro hc; cases hc),?_⟩
  refine ex_block_here ?_
  refine eT (cS (cS (cR ?_)))
  refine ox_y rfl (y_assign_bool rfl) ?_
  refine oN (eT (cx_block ?_))
  obtain ⟨u17,hl40,h⟩:=bOs h
  refine cx_loop (fun (s:(Bool × (List Bool))) L tm => ∃ (tm0:Nat → Value),Int.toNat (p0.fNo.length:Int) = s.2.length ∧ L = [cellsR b1 25 [.slice Aa p0.fNo.length ca,.slice Ab p0.fC.length cb],rowR (some ⟨b2,0,none⟩) (Int.toNat (p0.fNo.length:Int)) 4 1 (Int.toNat (p0.fNo.length:Int)) (encL cB s.2)] ∧ tm = (upd (upd (upd (upd (upd (upd (upd (upd tm0 0 (.agg #[.slice Aa p0.fNo.length ca,.slice Ab p0.fC.length cb])) 1 (.slice Ac p1.length cc)) 2 (.slice A2_0 p2.length c2_0)) 3 (.pointer (some ⟨b1,0,none⟩))) 6 (.slice none 0 0)) 7 (.slice (some ⟨b2,0,none⟩) (Int.toNat (p0.fNo.length:Int)) (Int.toNat (p0.fNo.length:Int)))) 8 (.int .i64 u7.1)) 9 (.bool s.1))) (fun s e L tm => e = .exit 2 ∧ ∃ (tm0:Nat → Value),Int.toNat (p0.fNo.length:Int) = s.2.length ∧ L = [cellsR b1 25 [.slice Aa p0.fNo.length ca,.slice Ab p0.fC.length cb],rowR (some ⟨b2,0,none⟩) (Int.toNat (p0.fNo.length:Int)) 4 1 (Int.toNat (p0.fNo.length:Int)) (encL cB s.2)] ∧ tm = (upd (upd (upd (upd (upd (upd (upd (upd tm0 0 (.agg #[.slice Aa p0.fNo.length ca,.slice Ab p0.fC.length cb])) 1 (.slice Ac p1.length cc)) 2 (.slice A2_0 p2.length c2_0)) 3 (.pointer (some ⟨b1,0,none⟩))) 6 (.slice none 0 0)) 7 (.slice (some ⟨b2,0,none⟩) (Int.toNat (p0.fNo.length:Int)) (Int.toNat (p0.fNo.length:Int)))) 8 (.int .i64 u7.1)) 9 (.bool s.1))) hl40 ⟨_,hn1_u7,rfl,(kp4 (kp4 rfl))⟩ ?_ ?_
  ·rintro s16 L tm st ⟨tm0_s16,hn1_s16,rfl,rfl⟩ h
   unfold ref09_reached_l2 at h
   refine cS (cS (cR ?_))
   refine ox_y rfl (y_move_bool rfl) ?_
   refine oN (eT ?_)
   rcases iOs h with ⟨hp18,h⟩ | ⟨hp18,h⟩
   ·refine cx_true (vB hp18) ?_
    refine cx_skip (eT (cx_block (cS (cR ?_))))
    refine ox_y rfl (y_assign_bool rfl) ?_
    refine oN (eT (cS (cR ?_)))
    refine ox_y rfl (yAI rfl) ?_
    refine oN (eT (cx_block ?_))
    obtain ⟨u22,hl39,h⟩:=bOs h
    refine cx_loop (fun (s:(Bool × Int × (List Bool))) L tm => ∃ (tm0:Nat → Value),Int.toNat (p0.fNo.length:Int) = s.2.2.length ∧ L = [cellsR b1 25 [.slice Aa p0.fNo.length ca,.slice Ab p0.fC.length cb],rowR (some ⟨b2,0,none⟩) (Int.toNat (p0.fNo.length:Int)) 4 1 (Int.toNat (p0.fNo.length:Int)) (encL cB s.2.2)] ∧ tm = (upd (upd (upd (upd (upd (upd (upd (upd (upd (upd tm0 0 (.agg #[.slice Aa p0.fNo.length ca,.slice Ab p0.fC.length cb])) 1 (.slice Ac p1.length cc)) 2 (.slice A2_0 p2.length c2_0)) 3 (.pointer (some ⟨b1,0,none⟩))) 6 (.slice none 0 0)) 7 (.slice (some ⟨b2,0,none⟩) (Int.toNat (p0.fNo.length:Int)) (Int.toNat (p0.fNo.length:Int)))) 8 (.int .i64 u7.1)) 9 (.bool s.1)) 36 (.bool s16.1)) 10 (.int .i64 s.2.1))) (fun s e L tm => e = .exit 4 ∧ ∃ (tm0:Nat → Value),Int.toNat (p0.fNo.length:Int) = s.2.2.length ∧ L = [cellsR b1 25 [.slice Aa p0.fNo.length ca,.slice Ab p0.fC.length cb],rowR (some ⟨b2,0,none⟩) (Int.toNat (p0.fNo.length:Int)) 4 1 (Int.toNat (p0.fNo.length:Int)) (encL cB s.2.2)] ∧ tm = (upd (upd (upd (upd (upd (upd (upd (upd (upd (upd tm0 0 (.agg #[.slice Aa p0.fNo.length ca,.slice Ab p0.fC.length cb])) 1 (.slice Ac p1.length cc)) 2 (.slice A2_0 p2.length c2_0)) 3 (.pointer (some ⟨b1,0,none⟩))) 6 (.slice none 0 0)) 7 (.slice (some ⟨b2,0,none⟩) (Int.toNat (p0.fNo.length:Int)) (Int.toNat (p0.fNo.length:Int)))) 8 (.int .i64 u7.1)) 9 (.bool s.1)) 36 (.bool s16.1)) 10 (.int .i64 s.2.1))) hl39 ⟨_,hn1_s16,rfl,(kp4 (kp4 (kp (kp rfl))))⟩ ?_ ?_
    ·rintro s21 L tm st ⟨tm0_s21,hn1_s21,rfl,rfl⟩ h
     unfold ref09_reached_l3 at h
     refine cS (cS (cR ?_))
     refine ox_y rfl (yMI rfl) (ox_y rfl (yFA fo_25_1 rfl) (ox_y rfl (y_load1 0 (v:=.slice Ab p0.fC.length cb) sc_23 rfl rfl rfl) (ox_y rfl (y_len (us:=[]) us_23 rfl) (ox_y rfl (y_lss rfl rfl) ?_))))
     refine oN (eT ?_)
     rcases iOs h with ⟨hp23,h⟩ | ⟨hp23,h⟩
     ·refine cx_true (vB hp23) ?_
      refine cx_skip (eT (cS (cx_block (cS ?_))))
      refine cx_drawsA 12 mixed (by kernel_rfl) (by kernel_rfl) (by kernel_rfl) ?_
      refine ax_y rfl (fun _ => yFA fo_25_1 rfl) (ax_y rfl (fun _ => y_load1 0 (v:=.slice Ab p0.fC.length cb) sc_23 rfl rfl rfl) (ax_y rfl (fun _ => yMI rfl) ?_))
      obtain ⟨hg24,h⟩:=gOs h
      refine ax_y rfl (fun _ => y_indexR sl_23 (by decide) hg24.1 hg24.2 (RdL.arg hr0_1) (encL_len TClaim_cells2_len (NestP.hn hN0_1.p rfl)) rfl rfl) ?_
      refine ax_y rfl (fun _ => y_fieldAddrR (A:=Ab) (j:=(Int.toNat s21.2.1 * 2)) fo_90_1 rfl) (ax_y rfl (fun _ => y_loadR1 (A:=Ab) (j:=((Int.toNat s21.2.1 * 2) + 1)) (v:=.slice ((rdL ys0_1 s21.2.1).1.1) ((rdL p0.fC s21.2.1).fO.length) ((rdL ys0_1 s21.2.1).1.2.2)) sc_88 (RdL.arg hr0_1) rfl (encL_get TClaim_cells2_len hg24.1 (lt_nat hg24.2 (NestP.hn hN0_1.p rfl)) (congrArg (fun n : Nat => some (Value.slice (rdL ys0_1 s21.2.1).1.1 n (rdL ys0_1 s21.2.1).1.2.2)) (NestP.len hN0_1.p hg24.1 (lt_nat hg24.2 rfl))))) (ax_y rfl (fun _ => yMS rfl) (ax_y rfl (fun _ => yMI rfl) ?_)))
      obtain ⟨hg25,h⟩:=gOs h
      refine ax_y rfl (fun _ => y_indexR sl_26 (by decide) hg25.1 hg25.2 (RdL.arg hr2_0) (encL_len cI_len rfl) rfl rfl) ?_
      refine ax_y rfl (fun _ => y_loadR1 (A:=A2_0) (j:=(Int.toNat s21.2.1 * 1)) (v:=.int .i64 (rdL p2 s21.2.1)) sc_3 (RdL.arg hr2_0) rfl (encL_get0 cI_len hg25.1 (lt_nat hg25.2 rfl) rfl)) ?_
      obtain ⟨hg26,h⟩:=gOs h
      refine ax_y rfl (fun _ => y_indexR sl_88 (by decide) hg26.1 hg26.2 (NestL.rd (NestL.arg hN0_1) hg24.1 (lt_nat hg24.2 rfl)) (encL_len THop_cells_len rfl) rfl rfl) ?_
      refine ax_y rfl (fun _ => y_loadRN (A:=((rdL ys0_1 s21.2.1).1.1)) (j:=(Int.toNat (rdL p2 s21.2.1) * 2)) [.int .i64 ((rdL ((rdL p0.fC s21.2.1).fO) (rdL p2 s21.2.1)).fFrom),.int .i64 ((rdL ((rdL p0.fC s21.2.1).fO) (rdL p2 s21.2.1)).fTo)] ag_111 (Nat.succ_pos _) (NestL.rd (NestL.arg hN0_1) hg24.1 (lt_nat hg24.2 rfl)) rfl (encL_gets THop_cells_len hg26.1 (lt_nat hg26.2 rfl))) ?_
      refine ax_nil rfl ze_111 (fun b27 => ?_)
      refine ox_n rfl (y_storeN 2 [.int .i64 ((rdL ((rdL p0.fC s21.2.1).fO) (rdL p2 s21.2.1)).fFrom),.int .i64 ((rdL ((rdL p0.fC s21.2.1).fO) (rdL p2 s21.2.1)).fTo)] sz_111 rfl (nB rfl) rfl rfl rfl) (oN (ex_only ?_))
      refine eT (cS (cR ?_))
      refine ox_y rfl (y_loadN 0 [.slice Aa p0.fNo.length ca,.slice Ab p0.fC.length cb] ag_25 rfl rfl rfl) (ox_y rfl (yFA fo_111_0 rfl) (ox_y rfl (y_load1 2 (v:=.int .i64 ((rdL ((rdL p0.fC s21.2.1).fO) (rdL p2 s21.2.1)).fFrom)) sc_3 rfl rfl rfl) ?_))
      obtain ⟨y28,hy29,h⟩:=bOs h
      refine ox_y rfl (y_call [.agg #[.slice Aa p0.fNo.length ca,.slice Ab p0.fC.length cb],.int .i64 ((rdL ((rdL p0.fC s21.2.1).fO) (rdL p2 s21.2.1)).fFrom)] go_67 rfl (fun W2 hW2 => ref09_Node_ok p0 ((rdL ((rdL p0.fC s21.2.1).fO) (rdL p2 s21.2.1)).fFrom) y28 hy29 W2 Aa p0.fNo.length ca rfl ((RdL.arg hr0_0) W2 hW2) Ab p0.fC.length cb ys0_1 rfl ((RdL.arg hr0_1) W2 hW2) (NestL.at (NestL.arg hN0_1) W2 hW2)) rfl) (ox_y rfl (yAI rfl) ?_)
      refine oN (eT (cS (cR ?_)))
      refine ox_y rfl (y_loadN 0 [.slice Aa p0.fNo.length ca,.slice Ab p0.fC.length cb] ag_25 rfl rfl rfl) (ox_y rfl (yFA fo_111_1 rfl) (ox_y rfl (y_load1 2 (v:=.int .i64 ((rdL ((rdL p0.fC s21.2.1).fO) (rdL p2 s21.2.1)).fTo)) sc_3 rfl rfl rfl) ?_))
      obtain ⟨y30,hy31,h⟩:=bOs h
      refine ox_y rfl (y_call [.agg #[.slice Aa p0.fNo.length ca,.slice Ab p0.fC.length cb],.int .i64 ((rdL ((rdL p0.fC s21.2.1).fO) (rdL p2 s21.2.1)).fTo)] go_67 rfl (fun W2 hW2 => ref09_Node_ok p0 ((rdL ((rdL p0.fC s21.2.1).fO) (rdL p2 s21.2.1)).fTo) y30 hy31 W2 Aa p0.fNo.length ca rfl ((RdL.arg hr0_0) W2 hW2) Ab p0.fC.length cb ys0_1 rfl ((RdL.arg hr0_1) W2 hW2) (NestL.at (NestL.arg hN0_1) W2 hW2)) rfl) (ox_y rfl (yAI rfl) ?_)
      refine oN (eT (cS (cR ?_)))
      refine ox_y rfl (yMS rfl) (ox_y rfl (yMI rfl) ?_)
      obtain ⟨hg32,h⟩:=gOs h
      refine ox_y rfl (y_indexR sl_98 (by decide) hg32.1 hg32.2 (RdL.row 1 rfl) (encL_len cB_len hn1_s21) rfl rfl) ?_
      refine ox_y rfl (y_loadR1 (A:=(some ⟨b2,0,none⟩)) (j:=(Int.toNat y28 * 1)) (v:=.bool (rdL s21.2.2 y28)) sc_4 (RdL.row 1 rfl) rfl (encL_get0 cB_len hg32.1 (lt_nat hg32.2 hn1_s21) rfl)) (ox_y rfl (y_move_bool rfl) ?_)
      obtain ⟨b34,hb35,h⟩:=bOs h
      refine ox_join 6 (fun tm0 => (upd (upd (upd (upd (upd (upd (upd (upd (upd (upd (upd (upd (upd (upd (upd tm0 0 (.agg #[.slice Aa p0.fNo.length ca,.slice Ab p0.fC.length cb])) 1 (.slice Ac p1.length cc)) 2 (.slice A2_0 p2.length c2_0)) 3 (.pointer (some ⟨b1,0,none⟩))) 6 (.slice none 0 0)) 7 (.slice (some ⟨b2,0,none⟩) (Int.toNat (p0.fNo.length:Int)) (Int.toNat (p0.fNo.length:Int)))) 8 (.int .i64 u7.1)) 9 (.bool s21.1)) 36 (.bool s16.1)) 10 (.int .i64 s21.2.1)) 41 (.bool (decide (s21.2.1 < (p0.fC.length:Int))))) 11 (.pointer (some ⟨b27,0,none⟩))) 12 (.int .i64 y28)) 13 (.int .i64 y30)) 74 (.bool b34))) (fun tm0 => ?_) (fun key => ?_)
      ·refine oN (eT ?_)
       rcases iOs h with ⟨hp36,h⟩ | ⟨hp36,h⟩
       ·refine cx_true (vB hp36) ?_
        refine cS (cR ?_)
        refine ox_y rfl (yMS rfl) (ox_y rfl (yMI rfl) ?_)
        obtain ⟨hg37,h⟩:=gOs h
        refine ox_y rfl (y_indexR sl_98 (by decide) hg37.1 hg37.2 (RdL.row 1 rfl) (encL_len cB_len hn1_s21) rfl rfl) ?_
        refine ox_n rfl (y_storeR1 1 (xs:=s21.2.2) cB_len true sz_4 rfl hg37.1 (lt_nat hg37.2 hn1_s21) rfl rfl rfl rfl) ?_
        refine oN (eT (cR ?_))
        refine ox_y rfl (y_assign_bool rfl) (oN (ex_block ?_))
        refine eT (cR ?_)
        refine ox_y rfl (yMI rfl) (ox_y rfl (y_add rfl rfl) (ox_y rfl (yAI rfl) (oN (ex_take 2 ?_))))
        obtain rfl:=sI h
        exact ex_next ⟨_,(hn_set hn1_s21),rfl,(kp4 (kp4 (kp (kp rfl))))⟩
       ·refine cx_false (vB hp36) (cx_skip (ex_block ?_))
        refine eT (cR ?_)
        refine ox_y rfl (yMI rfl) (ox_y rfl (y_add rfl rfl) (ox_y rfl (yAI rfl) (oN (ex_take 2 ?_))))
        obtain rfl:=sI h
        exact ex_next ⟨_,hn1_s21,rfl,(kp4 (kp4 (kp (kp rfl))))⟩
      ·clear h; rcases iOs hb35 with ⟨hp33,h⟩ | ⟨hp33,h⟩
       ·refine ox_y (sT rfl rfl rfl rfl hp33) (yMS rfl) (ox_y (sT rfl rfl rfl rfl hp33) (yMI rfl) ?_)
        obtain ⟨hg38,h⟩:=gOs h
        refine ox_y (sT rfl rfl rfl rfl hp33) (y_indexR sl_98 (by decide) hg38.1 hg38.2 (RdL.row 1 rfl) (encL_len cB_len hn1_s21) rfl rfl) ?_
        refine ox_y (sT rfl rfl rfl rfl hp33) (y_loadR1 (A:=(some ⟨b2,0,none⟩)) (j:=(Int.toNat y30 * 1)) (v:=.bool (rdL s21.2.2 y30)) sc_4 (RdL.row 1 rfl) rfl (encL_get0 cB_len hg38.1 (lt_nat hg38.2 hn1_s21) rfl)) (ox_y (sT rfl rfl rfl rfl hp33) (y_not rfl) (ox_y rfl (y_pick_tb (vB hp33) rfl) ?_))
        obtain rfl:=sI h
        exact key _ _ (kp4 (kp4 (kp4 (kp (kp (kp rfl))))))
       ·refine oSk (sF rfl rfl rfl rfl hp33) (oSk (sF rfl rfl rfl rfl hp33) (oSk (sF rfl rfl rfl rfl hp33) (oSk (sF rfl rfl rfl rfl hp33) (oSk (sF rfl rfl rfl rfl hp33) (ox_y rfl (y_pick_fb (vB hp33) rfl) ?_)))))
        obtain rfl:=sI h
        exact key _ _ (kp4 (kp4 (kp4 (kp (kp (kp rfl))))))
     ·refine cx_false (vB hp23) (cx_exit (ex_then_exit ?_))
      obtain rfl:=sI h
      exact ex_stop ⟨rfl,_,hn1_s21,rfl,(kp4 (kp4 (kp (kp rfl))))⟩
    ·intro e L tm hJ
     obtain ⟨rfl,tm0_u22,hn1_u22,rfl,rfl⟩:=hJ
     refine ⟨(by intro hc; cases hc),?_⟩
     refine ex_block_here (ex_block ?_)
     obtain rfl:=sI h
     exact ex_next ⟨_,hn1_u22,rfl,(kp4 (kp4 rfl))⟩
   ·refine cx_false (vB hp18) (cx_exit (ex_then_exit ?_))
    obtain rfl:=sI h
    exact ex_stop ⟨rfl,_,hn1_s16,rfl,(kp4 (kp4 rfl))⟩
  ·intro e L tm hJ
   obtain ⟨rfl,tm0_u17,hn1_u17,rfl,rfl⟩:=hJ
   refine ⟨(by intro hc; cases hc),?_⟩
   refine ex_block_here ?_
   refine eT (cS (cR ?_))
   refine ox_y rfl (yMS rfl) (ox_y rfl (yAS rfl) ?_)
   refine oN (eT (cx_ret ?_))
   obtain rfl:=sI h
   exact ex_res1 (.inl rfl) rfl (rVt (v:=.slice (some ⟨b2,0,none⟩) (Int.toNat (p0.fNo.length:Int)) (Int.toNat (p0.fNo.length:Int))) rfl) (fun W2 hW2 => ⟨((some ⟨b2,0,none⟩),Int.toNat (p0.fNo.length:Int),Int.toNat (p0.fNo.length:Int)),hn1_u17,rfl,(hW2.pick 1 rfl)⟩)
theorem ref09_both_ok (p0:TL) (p1:(List Int)) (res:((List Bool) × (List Bool))) (h:ref09_both p0 p1 = some res) (W:World) (Aa:Option Addr) (n0_0 ca : Nat) (hn0_0:n0_0 = p0.fNo.length) (hr0_0:Rd W Aa n0_0 ca (encL TNode_cells p0.fNo)) (Ab:Option Addr) (n0_1 cb : Nat) (ys0_1:List (Hd × TC)) (hn0_1:n0_1 = p0.fC.length) (hr0_1:Rd W Ab n0_1 cb (encL TClaim_cells2 ys0_1)) (hN0_1:NestW W (fun z : TC => z.fO) THop_cells ys0_1 p0.fC) (Ac:Option Addr) (n1_0 cc : Nat) (hn1_0:n1_0 = p1.length) (hr1_0:Rd W Ac n1_0 cc (encL cI p1)) :
  Calls Tryz.prog 68 [.agg #[.slice Aa n0_0 ca,.slice Ab n0_1 cb],.slice Ac n1_0 cc].toArray W fun e W2 => ∃ x : ((Option Addr × Nat × Nat) × (Option Addr × Nat × Nat)),(x.1.2.1 = res.1.length ∧ x.2.2.1 = res.2.length) ∧ e = .returned (.tuple #[.slice x.1.1 x.1.2.1 x.1.2.2,.slice x.2.1 x.2.2.1 x.2.2.2]) ∧ Ext W W2 [rowR x.1.1 x.1.2.2 4 1 x.1.2.1 (encL cB res.1),rowR x.2.1 x.2.2.2 4 1 x.2.2.1 (encL cB res.2)]:=by
 subst hn0_0
 subst hn0_1
 subst hn1_0
 unfold ref09_both at h
 refine calls_enter (m:=76) Tryz.func68 rfl rfl (nB rfl) ?_
 refine cS (cR ?_)
 refine ox_box [.slice Aa p0.fNo.length ca,.slice Ab p0.fC.length cb] rfl rfl rfl (fun b1 => ?_)
 refine ox_y rfl (yAS rfl) (ox_y rfl (yAS rfl) ?_)
 refine oN (eT (cS (cR ?_)))
 refine ox_y rfl (yFA fo_25_0 rfl) (ox_y rfl (y_load1 0 (v:=.slice Aa p0.fNo.length ca) sc_22 rfl rfl rfl) (ox_y rfl (y_len (us:=[]) us_22 rfl) ?_))
 obtain ⟨hg3,h⟩:=gOs h
 refine ox_make (encL cB (List.replicate (Int.toNat (p0.fNo.length:Int)) false)) us_98 ze_4 by_4 hg3.1 hg3.2 rfl (made_enc _ _ _ rfl rfl) rfl (fun b2 => ?_)
 refine ox_y rfl (yAS rfl) ?_
 refine oN (eT (cS (cR ?_)))
 refine ox_y rfl (yFA fo_25_0 rfl) (ox_y rfl (y_load1 0 (v:=.slice Aa p0.fNo.length ca) sc_22 rfl rfl rfl) (ox_y rfl (y_len (us:=[]) us_22 rfl) ?_))
 obtain ⟨hg5,h⟩:=gOs h
 refine ox_make (encL cB (List.replicate (Int.toNat (p0.fNo.length:Int)) false)) us_98 ze_4 by_4 hg5.1 hg5.2 rfl (made_enc _ _ _ rfl rfl) rfl (fun b4 => ?_)
 refine ox_y rfl (yAS rfl) ?_
 refine oN (eT (cS (cS (cR ?_))))
 refine ox_y rfl (yAI rfl) ?_
 refine oN (eT (cx_block ?_))
 obtain ⟨u9,hl12,h⟩:=bOs h
 refine cx_loop (fun (s:(Int × (List Bool))) L tm => ∃ (tm0:Nat → Value),Int.toNat (p0.fNo.length:Int) = s.2.length ∧ L = [cellsR b1 25 [.slice Aa p0.fNo.length ca,.slice Ab p0.fC.length cb],rowR (some ⟨b2,0,none⟩) (Int.toNat (p0.fNo.length:Int)) 4 1 (Int.toNat (p0.fNo.length:Int)) (encL cB s.2),rowR (some ⟨b4,0,none⟩) (Int.toNat (p0.fNo.length:Int)) 4 1 (Int.toNat (p0.fNo.length:Int)) (encL cB (List.replicate (Int.toNat (p0.fNo.length:Int)) false))] ∧ tm = (upd (upd (upd (upd (upd (upd (upd (upd tm0 0 (.agg #[.slice Aa p0.fNo.length ca,.slice Ab p0.fC.length cb])) 1 (.slice Ac p1.length cc)) 2 (.pointer (some ⟨b1,0,none⟩))) 4 (.slice none 0 0)) 5 (.slice none 0 0)) 6 (.slice (some ⟨b2,0,none⟩) (Int.toNat (p0.fNo.length:Int)) (Int.toNat (p0.fNo.length:Int)))) 7 (.slice (some ⟨b4,0,none⟩) (Int.toNat (p0.fNo.length:Int)) (Int.toNat (p0.fNo.length:Int)))) 8 (.int .i64 s.1))) (fun s e L tm => e = .exit 0 ∧ ∃ (tm0:Nat → Value),Int.toNat (p0.fNo.length:Int) = s.2.length ∧ L = [cellsR b1 25 [.slice Aa p0.fNo.length ca,.slice Ab p0.fC.length cb],rowR (some ⟨b2,0,none⟩) (Int.toNat (p0.fNo.length:Int)) 4 1 (Int.toNat (p0.fNo.length:Int)) (encL cB s.2),rowR (some ⟨b4,0,none⟩) (Int.toNat (p0.fNo.length:Int)) 4 1 (Int.toNat (p0.fNo.length:Int)) (encL cB (List.replicate (Int.toNat (p0.fNo.length:Int)) false))] ∧ tm = (upd (upd (upd (upd (upd (upd (upd (upd tm0 0 (.agg #[.slice Aa p0.fNo.length ca,.slice Ab p0.fC.length cb])) 1 (.slice Ac p1.length cc)) 2 (.pointer (some ⟨b1,0,none⟩))) 4 (.slice none 0 0)) 5 (.slice none 0 0)) 6 (.slice (some ⟨b2,0,none⟩) (Int.toNat (p0.fNo.length:Int)) (Int.toNat (p0.fNo.length:Int)))) 7 (.slice (some ⟨b4,0,none⟩) (Int.toNat (p0.fNo.length:Int)) (Int.toNat (p0.fNo.length:Int)))) 8 (.int .i64 s.1))) hl12 ⟨_,(List.length_replicate).symm,rfl,(kp4 (kp4 rfl))⟩ ?_ ?_
 ·rintro s8 L tm st ⟨tm0_s8,hn1_s8,rfl,rfl⟩ h
  unfold ref09_both_l1 at h
  refine cS (cS (cR ?_))
  refine ox_y rfl (yMI rfl) (ox_y rfl (yFA fo_25_0 rfl) (ox_y rfl (y_load1 0 (v:=.slice Aa p0.fNo.length ca) sc_22 rfl rfl rfl) (ox_y rfl (y_len (us:=[]) us_22 rfl) (ox_y rfl (y_lss rfl rfl) ?_))))
  refine oN (eT ?_)
  rcases iOs h with ⟨hp10,h⟩ | ⟨hp10,h⟩
  ·refine cx_true (vB hp10) ?_
   refine cx_skip (eT (cS (cx_block (cR ?_))))
   refine ox_y rfl (yMS rfl) (ox_y rfl (yMI rfl) ?_)
   obtain ⟨hg11,h⟩:=gOs h
   refine ox_y rfl (y_indexR sl_98 (by decide) hg11.1 hg11.2 (RdL.row 1 rfl) (encL_len cB_len hn1_s8) rfl rfl) ?_
   refine ox_n rfl (y_storeR1 1 (xs:=s8.2) cB_len true sz_4 rfl hg11.1 (lt_nat hg11.2 hn1_s8) rfl rfl rfl rfl) (oN (ex_block ?_))
   refine eT (cR ?_)
   refine ox_y rfl (yMI rfl) (ox_y rfl (y_add rfl rfl) (ox_y rfl (yAI rfl) (oN ?_)))
   obtain rfl:=sI h
   exact ex_next ⟨_,(hn_set hn1_s8),rfl,(kp4 (kp4 rfl))⟩
  ·refine cx_false (vB hp10) (cx_exit (ex_then_exit ?_))
   obtain rfl:=sI h
   exact ex_stop ⟨rfl,_,hn1_s8,rfl,(kp4 (kp4 rfl))⟩
 ·intro e L tm hJ
  obtain ⟨rfl,tm0_u9,hn1_u9,rfl,rfl⟩:=hJ
  refine ⟨(by intro hc; cases hc),?_⟩
  refine ex_block_here ?_
  refine eT (cS (cS (cR ?_)))
  refine ox_y rfl (yAI rfl) ?_
  refine oN (eT (cx_block ?_))
  obtain ⟨u16,hl50,h⟩:=bOs h
  refine cx_loop (fun (s:(Int × (List Bool) × (List Bool))) L tm => ∃ (tm0:Nat → Value),Int.toNat (p0.fNo.length:Int) = s.2.1.length ∧ Int.toNat (p0.fNo.length:Int) = s.2.2.length ∧ L = [cellsR b1 25 [.slice Aa p0.fNo.length ca,.slice Ab p0.fC.length cb],rowR (some ⟨b2,0,none⟩) (Int.toNat (p0.fNo.length:Int)) 4 1 (Int.toNat (p0.fNo.length:Int)) (encL cB s.2.1),rowR (some ⟨b4,0,none⟩) (Int.toNat (p0.fNo.length:Int)) 4 1 (Int.toNat (p0.fNo.length:Int)) (encL cB s.2.2)] ∧ tm = (upd (upd (upd (upd (upd (upd (upd (upd (upd tm0 0 (.agg #[.slice Aa p0.fNo.length ca,.slice Ab p0.fC.length cb])) 1 (.slice Ac p1.length cc)) 2 (.pointer (some ⟨b1,0,none⟩))) 4 (.slice none 0 0)) 5 (.slice none 0 0)) 6 (.slice (some ⟨b2,0,none⟩) (Int.toNat (p0.fNo.length:Int)) (Int.toNat (p0.fNo.length:Int)))) 7 (.slice (some ⟨b4,0,none⟩) (Int.toNat (p0.fNo.length:Int)) (Int.toNat (p0.fNo.length:Int)))) 8 (.int .i64 u9.1)) 9 (.int .i64 s.1))) (fun s e L tm => e = .exit 2 ∧ ∃ (tm0:Nat → Value),Int.toNat (p0.fNo.length:Int) = s.2.1.length ∧ Int.toNat (p0.fNo.length:Int) = s.2.2.length ∧ L = [cellsR b1 25 [.slice Aa p0.fNo.length ca,.slice Ab p0.fC.length cb],rowR (some ⟨b2,0,none⟩) (Int.toNat (p0.fNo.length:Int)) 4 1 (Int.toNat (p0.fNo.length:Int)) (encL cB s.2.1),rowR (some ⟨b4,0,none⟩) (Int.toNat (p0.fNo.length:Int)) 4 1 (Int.toNat (p0.fNo.length:Int)) (encL cB s.2.2)] ∧ tm = (upd (upd (upd (upd (upd (upd (upd (upd (upd tm0 0 (.agg #[.slice Aa p0.fNo.length ca,.slice Ab p0.fC.length cb])) 1 (.slice Ac p1.length cc)) 2 (.pointer (some ⟨b1,0,none⟩))) 4 (.slice none 0 0)) 5 (.slice none 0 0)) 6 (.slice (some ⟨b2,0,none⟩) (Int.toNat (p0.fNo.length:Int)) (Int.toNat (p0.fNo.length:Int)))) 7 (.slice (some ⟨b4,0,none⟩) (Int.toNat (p0.fNo.length:Int)) (Int.toNat (p0.fNo.length:Int)))) 8 (.int .i64 u9.1)) 9 (.int .i64 s.1))) hl50 ⟨_,hn1_u9,(List.length_replicate).symm,rfl,(kp4 (kp4 (kp rfl)))⟩ ?_ ?_
  ·rintro s15 L tm st ⟨tm0_s15,hn1_s15,hn2_s15,rfl,rfl⟩ h
   unfold ref09_both_l2 at h
   refine cS (cS (cR ?_))
   refine ox_y rfl (yMI rfl) (ox_y rfl (y_loadN 0 [.slice Aa p0.fNo.length ca,.slice Ab p0.fC.length cb] ag_25 rfl rfl rfl) ?_)
   obtain ⟨y17,hy18,h⟩:=bOs h
   refine ox_y rfl (y_call [.agg #[.slice Aa p0.fNo.length ca,.slice Ab p0.fC.length cb]] go_83 rfl (fun W2 hW2 => ref09_count_ok p0 y17 hy18 W2 Aa p0.fNo.length ca rfl ((RdL.arg hr0_0) W2 hW2) Ab p0.fC.length cb ys0_1 rfl ((RdL.arg hr0_1) W2 hW2) (NestL.at (NestL.arg hN0_1) W2 hW2)) rfl) (ox_y rfl (y_lss rfl rfl) ?_)
   refine oN (eT ?_)
   rcases iOs h with ⟨hp19,h⟩ | ⟨hp19,h⟩
   ·refine cx_true (vB hp19) ?_
    refine cx_skip (eT (cS (cx_block (cS ?_))))
    obtain ⟨y20,hy21,h⟩:=bOs h
    refine cx_drawsQ 4 5 (fun v L1 => ∃ x : (Option Addr × Nat × Nat),x.2.1 = y20.length ∧ v = .slice x.1 x.2.1 x.2.2 ∧ L1 = [rowR x.1 x.2.2 3 1 x.2.1 (encL cI y20)]) mixed (by kernel_rfl) (by kernel_rfl) (by kernel_rfl) ?_
    refine bx_y rfl (fun _ => y_loadN 0 [.slice Aa p0.fNo.length ca,.slice Ab p0.fC.length cb] ag_25 rfl rfl rfl) (bx_y rfl (fun _ => yMS rfl) (bx_y rfl (fun _ => y_loadN 0 [.slice Aa p0.fNo.length ca,.slice Ab p0.fC.length cb] ag_25 rfl rfl rfl) (bx_y rfl (fun _ => yMI rfl) (bx_q rfl (ox_call [.agg #[.slice Aa p0.fNo.length ca,.slice Ab p0.fC.length cb],.int .i64 s15.1] _ _ _ rfl go_85 rfl (fun W2 hW2 => ref09_numbered_ok p0 s15.1 y20 hy21 W2 Aa p0.fNo.length ca rfl ((RdL.arg hr0_0) W2 hW2) Ab p0.fC.length cb ys0_1 rfl ((RdL.arg hr0_1) W2 hW2) (NestL.at (NestL.arg hN0_1) W2 hW2)) (fun x hx => oN (ex_cap ⟨x,hx,rfl,rfl⟩))) (kx_nil rfl ?_)))))
    rintro v L1 ⟨⟨A22,n24,c23⟩,hn25,rfl,rfl⟩
    replace hn25 : n24 = y20.length:=hn25; subst hn25
    obtain ⟨y26,hy27,h⟩:=bOs h
    refine ox_call [.agg #[.slice Aa p0.fNo.length ca,.slice Ab p0.fC.length cb],.slice Ac p1.length cc,.slice A22 y20.length c23] _ _ _ rfl go_89 rfl (fun W2 hW2 => ref09_reached_ok p0 p1 y20 y26 hy27 W2 Aa p0.fNo.length ca rfl ((RdL.arg hr0_0) W2 hW2) Ab p0.fC.length cb ys0_1 rfl ((RdL.arg hr0_1) W2 hW2) (NestL.at (NestL.arg hN0_1) W2 hW2) Ac p1.length cc rfl ((RdL.arg hr1_0) W2 hW2) A22 y20.length c23 rfl ((RdL.row 3 rfl) W2 hW2)) ?_
    rintro ⟨A28,n30,c29⟩ hn31
    replace hn31 : n30 = y26.length:=hn31; subst hn31
    refine ox_y rfl (yAS rfl) (oN (ex_only ?_))
    refine eT (cS (cR ?_))
    refine ox_y rfl (yAI rfl) ?_
    refine oN (eT (cx_block ?_))
    obtain ⟨u35,hl49,h⟩:=bOs h
    refine cx_loop (fun (s:(Int × (List Bool) × (List Bool))) L tm => ∃ (tm0:Nat → Value),Int.toNat (p0.fNo.length:Int) = s.2.1.length ∧ Int.toNat (p0.fNo.length:Int) = s.2.2.length ∧ L = [cellsR b1 25 [.slice Aa p0.fNo.length ca,.slice Ab p0.fC.length cb],rowR (some ⟨b2,0,none⟩) (Int.toNat (p0.fNo.length:Int)) 4 1 (Int.toNat (p0.fNo.length:Int)) (encL cB s.2.1),rowR (some ⟨b4,0,none⟩) (Int.toNat (p0.fNo.length:Int)) 4 1 (Int.toNat (p0.fNo.length:Int)) (encL cB s.2.2),rowR A22 c23 3 1 y20.length (encL cI y20),rowR A28 c29 4 1 y26.length (encL cB y26)] ∧ tm = (upd (upd (upd (upd (upd (upd (upd (upd (upd (upd (upd (upd tm0 0 (.agg #[.slice Aa p0.fNo.length ca,.slice Ab p0.fC.length cb])) 1 (.slice Ac p1.length cc)) 2 (.pointer (some ⟨b1,0,none⟩))) 4 (.slice none 0 0)) 5 (.slice none 0 0)) 6 (.slice (some ⟨b2,0,none⟩) (Int.toNat (p0.fNo.length:Int)) (Int.toNat (p0.fNo.length:Int)))) 7 (.slice (some ⟨b4,0,none⟩) (Int.toNat (p0.fNo.length:Int)) (Int.toNat (p0.fNo.length:Int)))) 8 (.int .i64 u9.1)) 9 (.int .i64 s15.1)) 33 (.bool (decide (s15.1 < y17)))) 10 (.slice A28 y26.length c29)) 11 (.int .i64 s.1))) (fun s e L tm => e = .exit 4 ∧ ∃ (tm0:Nat → Value),Int.toNat (p0.fNo.length:Int) = s.2.1.length ∧ Int.toNat (p0.fNo.length:Int) = s.2.2.length ∧ L = [cellsR b1 25 [.slice Aa p0.fNo.length ca,.slice Ab p0.fC.length cb],rowR (some ⟨b2,0,none⟩) (Int.toNat (p0.fNo.length:Int)) 4 1 (Int.toNat (p0.fNo.length:Int)) (encL cB s.2.1),rowR (some ⟨b4,0,none⟩) (Int.toNat (p0.fNo.length:Int)) 4 1 (Int.toNat (p0.fNo.length:Int)) (encL cB s.2.2),rowR A22 c23 3 1 y20.length (encL cI y20),rowR A28 c29 4 1 y26.length (encL cB y26)] ∧ tm = (upd (upd (upd (upd (upd (upd (upd (upd (upd (upd (upd (upd tm0 0 (.agg #[.slice Aa p0.fNo.length ca,.slice Ab p0.fC.length cb])) 1 (.slice Ac p1.length cc)) 2 (.pointer (some ⟨b1,0,none⟩))) 4 (.slice none 0 0)) 5 (.slice none 0 0)) 6 (.slice (some ⟨b2,0,none⟩) (Int.toNat (p0.fNo.length:Int)) (Int.toNat (p0.fNo.length:Int)))) 7 (.slice (some ⟨b4,0,none⟩) (Int.toNat (p0.fNo.length:Int)) (Int.toNat (p0.fNo.length:Int)))) 8 (.int .i64 u9.1)) 9 (.int .i64 s15.1)) 33 (.bool (decide (s15.1 < y17)))) 10 (.slice A28 y26.length c29)) 11 (.int .i64 s.1))) hl49 ⟨_,hn1_s15,hn2_s15,rfl,(kp4 (kp4 (kp4 rfl)))⟩ ?_ ?_
    ·rintro s34 L tm st ⟨tm0_s34,hn1_s34,hn2_s34,rfl,rfl⟩ h
     unfold ref09_both_l3 at h
     refine cS (cS (cR ?_))
     refine ox_y rfl (yMI rfl) (ox_y rfl (yMS rfl) (ox_y rfl (y_len (us:=[]) us_98 rfl) (ox_y rfl (y_lss rfl rfl) ?_)))
     refine oN (eT ?_)
     rcases iOs h with ⟨hp36,h⟩ | ⟨hp36,h⟩
     ·refine cx_true (vB hp36) ?_
      refine cx_skip (eT (cS (cx_block (cS (cR ?_)))))
      refine ox_y rfl (yMS rfl) (ox_y rfl (yMI rfl) (ox_y rfl (yMS rfl) (ox_y rfl (yMI rfl) ?_)))
      obtain ⟨hg37,h⟩:=gOs h
      refine ox_y rfl (y_indexR sl_98 (by decide) hg37.1 hg37.2 (RdL.row 1 rfl) (encL_len cB_len hn1_s34) rfl rfl) ?_
      refine ox_y rfl (y_loadR1 (A:=(some ⟨b2,0,none⟩)) (j:=(Int.toNat s34.1 * 1)) (v:=.bool (rdL s34.2.1 s34.1)) sc_4 (RdL.row 1 rfl) rfl (encL_get0 cB_len hg37.1 (lt_nat hg37.2 hn1_s34) rfl)) (ox_y rfl (y_move_bool rfl) ?_)
      obtain ⟨b39,hb40,h⟩:=bOs h
      refine ox_join 5 (fun tm0 => (upd (upd (upd (upd (upd (upd (upd (upd (upd (upd (upd (upd (upd (upd (upd (upd tm0 0 (.agg #[.slice Aa p0.fNo.length ca,.slice Ab p0.fC.length cb])) 1 (.slice Ac p1.length cc)) 2 (.pointer (some ⟨b1,0,none⟩))) 4 (.slice none 0 0)) 5 (.slice none 0 0)) 6 (.slice (some ⟨b2,0,none⟩) (Int.toNat (p0.fNo.length:Int)) (Int.toNat (p0.fNo.length:Int)))) 7 (.slice (some ⟨b4,0,none⟩) (Int.toNat (p0.fNo.length:Int)) (Int.toNat (p0.fNo.length:Int)))) 8 (.int .i64 u9.1)) 9 (.int .i64 s15.1)) 33 (.bool (decide (s15.1 < y17)))) 10 (.slice A28 y26.length c29)) 11 (.int .i64 s34.1)) 45 (.bool (decide (s34.1 < (y26.length:Int))))) 48 (.slice (some ⟨b2,0,none⟩) (Int.toNat (p0.fNo.length:Int)) (Int.toNat (p0.fNo.length:Int)))) 49 (.int .i64 s34.1)) 59 (.bool b39))) (fun tm0 => ?_) (fun key => ?_)
      ·obtain ⟨hg41,h⟩:=gOs h
       refine ox_y rfl (y_indexR sl_98 (by decide) hg41.1 hg41.2 (RdL.row 1 rfl) (encL_len cB_len hn1_s34) rfl rfl) ?_
       refine ox_n rfl (y_storeR1 1 (xs:=s34.2.1) cB_len b39 sz_4 rfl hg41.1 (lt_nat hg41.2 hn1_s34) rfl rfl rfl rfl) ?_
       refine oN (eT (cR ?_))
       refine ox_y rfl (yMS rfl) (ox_y rfl (yMI rfl) (ox_y rfl (yMS rfl) (ox_y rfl (yMI rfl) ?_)))
       obtain ⟨hg42,h⟩:=gOs h
       refine ox_y rfl (y_indexR sl_98 (by decide) hg42.1 hg42.2 (RdL.row 2 rfl) (encL_len cB_len hn2_s34) rfl rfl) ?_
       refine ox_y rfl (y_loadR1 (A:=(some ⟨b4,0,none⟩)) (j:=(Int.toNat s34.1 * 1)) (v:=.bool (rdL s34.2.2 s34.1)) sc_4 (RdL.row 2 rfl) rfl (encL_get0 cB_len hg42.1 (lt_nat hg42.2 hn2_s34) rfl)) (ox_y rfl (y_move_bool rfl) ?_)
       obtain ⟨b44,hb45,h⟩:=bOs h
       refine ox_join 5 (fun tm0 => (upd (upd (upd (upd (upd (upd (upd (upd (upd (upd (upd (upd (upd (upd (upd (upd tm0 0 (.agg #[.slice Aa p0.fNo.length ca,.slice Ab p0.fC.length cb])) 1 (.slice Ac p1.length cc)) 2 (.pointer (some ⟨b1,0,none⟩))) 4 (.slice none 0 0)) 5 (.slice none 0 0)) 6 (.slice (some ⟨b2,0,none⟩) (Int.toNat (p0.fNo.length:Int)) (Int.toNat (p0.fNo.length:Int)))) 7 (.slice (some ⟨b4,0,none⟩) (Int.toNat (p0.fNo.length:Int)) (Int.toNat (p0.fNo.length:Int)))) 8 (.int .i64 u9.1)) 9 (.int .i64 s15.1)) 33 (.bool (decide (s15.1 < y17)))) 10 (.slice A28 y26.length c29)) 11 (.int .i64 s34.1)) 45 (.bool (decide (s34.1 < (y26.length:Int))))) 61 (.slice (some ⟨b4,0,none⟩) (Int.toNat (p0.fNo.length:Int)) (Int.toNat (p0.fNo.length:Int)))) 62 (.int .i64 s34.1)) 72 (.bool b44))) (fun tm0 => ?_) (fun key => ?_)
       ·obtain ⟨hg46,h⟩:=gOs h
        refine ox_y rfl (y_indexR sl_98 (by decide) hg46.1 hg46.2 (RdL.row 2 rfl) (encL_len cB_len hn2_s34) rfl rfl) ?_
        refine ox_n rfl (y_storeR1 2 (xs:=s34.2.2) cB_len b44 sz_4 rfl hg46.1 (lt_nat hg46.2 hn2_s34) rfl rfl rfl rfl) (oN (ex_block ?_))
        refine eT (cR ?_)
        refine ox_y rfl (yMI rfl) (ox_y rfl (y_add rfl rfl) (ox_y rfl (yAI rfl) (oN ?_)))
        obtain rfl:=sI h
        exact ex_next ⟨_,(hn_set hn1_s34),(hn_set hn2_s34),rfl,(kp4 (kp4 (kp4 rfl)))⟩
       ·clear h; rcases iOs hb45 with ⟨hp43,h⟩ | ⟨hp43,h⟩
        ·refine oSk (sF rfl rfl rfl rfl hp43) (oSk (sF rfl rfl rfl rfl hp43) (oSk (sF rfl rfl rfl rfl hp43) (oSk (sF rfl rfl rfl rfl hp43) (ox_y rfl (y_pick_tb (vB hp43) rfl) ?_))))
         obtain rfl:=sI h
         exact key _ _ (kp4 (kp4 (kp4 (kp4 rfl))))
        ·refine ox_y (sT rfl rfl rfl rfl hp43) (yMS rfl) (ox_y (sT rfl rfl rfl rfl hp43) (yMI rfl) ?_)
         obtain ⟨hg47,h⟩:=gOs h
         refine ox_y (sT rfl rfl rfl rfl hp43) (y_indexR sl_98 (by decide) hg47.1 hg47.2 (RdL.row 4 rfl) (encL_len cB_len rfl) rfl rfl) ?_
         refine ox_y (sT rfl rfl rfl rfl hp43) (y_loadR1 (A:=A28) (j:=(Int.toNat s34.1 * 1)) (v:=.bool (rdL y26 s34.1)) sc_4 (RdL.row 4 rfl) rfl (encL_get0 cB_len hg47.1 (lt_nat hg47.2 rfl) rfl)) (ox_y rfl (y_pick_fb (vB hp43) rfl) ?_)
         obtain rfl:=sI h
         exact key _ _ (kp4 (kp4 (kp4 (kp4 rfl))))
      ·clear h; rcases iOs hb40 with ⟨hp38,h⟩ | ⟨hp38,h⟩
       ·refine ox_y (sT rfl rfl rfl rfl hp38) (yMS rfl) (ox_y (sT rfl rfl rfl rfl hp38) (yMI rfl) ?_)
        obtain ⟨hg48,h⟩:=gOs h
        refine ox_y (sT rfl rfl rfl rfl hp38) (y_indexR sl_98 (by decide) hg48.1 hg48.2 (RdL.row 4 rfl) (encL_len cB_len rfl) rfl rfl) ?_
        refine ox_y (sT rfl rfl rfl rfl hp38) (y_loadR1 (A:=A28) (j:=(Int.toNat s34.1 * 1)) (v:=.bool (rdL y26 s34.1)) sc_4 (RdL.row 4 rfl) rfl (encL_get0 cB_len hg48.1 (lt_nat hg48.2 rfl) rfl)) (ox_y rfl (y_pick_tb (vB hp38) rfl) ?_)
        obtain rfl:=sI h
        exact key _ _ (kp4 (kp4 (kp4 (kp4 rfl))))
       ·refine oSk (sF rfl rfl rfl rfl hp38) (oSk (sF rfl rfl rfl rfl hp38) (oSk (sF rfl rfl rfl rfl hp38) (oSk (sF rfl rfl rfl rfl hp38) (ox_y rfl (y_pick_fb (vB hp38) rfl) ?_))))
        obtain rfl:=sI h
        exact key _ _ (kp4 (kp4 (kp4 (kp4 rfl))))
     ·refine cx_false (vB hp36) (cx_exit (ex_then_exit ?_))
      obtain rfl:=sI h
      exact ex_stop ⟨rfl,_,hn1_s34,hn2_s34,rfl,(kp4 (kp4 (kp4 rfl)))⟩
    ·intro e L tm hJ
     obtain ⟨rfl,tm0_u35,hn1_u35,hn2_u35,rfl,rfl⟩:=hJ
     refine ⟨(by intro hc; cases hc),?_⟩
     refine ex_block_here (ex_block ?_)
     refine eT (cR ?_)
     refine ox_y rfl (yMI rfl) (ox_y rfl (y_add rfl rfl) (ox_y rfl (yAI rfl) (oN (ex_take 3 ?_))))
     obtain rfl:=sI h
     exact ex_next ⟨_,hn1_u35,hn2_u35,rfl,(kp4 (kp4 (kp rfl)))⟩
   ·refine cx_false (vB hp19) (cx_exit (ex_then_exit ?_))
    obtain rfl:=sI h
    exact ex_stop ⟨rfl,_,hn1_s15,hn2_s15,rfl,(kp4 (kp4 (kp rfl)))⟩
  ·intro e L tm hJ
   obtain ⟨rfl,tm0_u16,hn1_u16,hn2_u16,rfl,rfl⟩:=hJ
   refine ⟨(by intro hc; cases hc),?_⟩
   refine ex_block_here ?_
   refine eT (cS (cR ?_))
   refine ox_y rfl (yMS rfl) (ox_y rfl (yMS rfl) (ox_y rfl (yAS rfl) (ox_y rfl (yAS rfl) ?_)))
   refine oN (eT (cx_ret ?_))
   obtain rfl:=sI h
   exact ex_res2 (.inl rfl) rfl (rVt (v:=.slice (some ⟨b2,0,none⟩) (Int.toNat (p0.fNo.length:Int)) (Int.toNat (p0.fNo.length:Int))) rfl) (rVt (v:=.slice (some ⟨b4,0,none⟩) (Int.toNat (p0.fNo.length:Int)) (Int.toNat (p0.fNo.length:Int))) rfl) (fun W2 hW2 => ⟨(((some ⟨b2,0,none⟩),Int.toNat (p0.fNo.length:Int),Int.toNat (p0.fNo.length:Int)),((some ⟨b4,0,none⟩),Int.toNat (p0.fNo.length:Int),Int.toNat (p0.fNo.length:Int))),⟨hn1_u16,hn2_u16⟩,rfl,hW2.pickL [1,2] (by decide) rfl⟩)
end Go.Proofs.YtbblpokfbmekfaaGreat
set_option maxHeartbeats 4000000
set_option maxRecDepth 100000
namespace Go.Proofs.YtbblpokfbmekfaaGreat
open Go.RowKit (Below)
attribute [local irreducible] OX QX CX EX OpY Calls CallsIn
theorem ref09_rising_ok (p0:(List Int)) (res:Bool) (h:ref09_rising p0 = some res) (W:World) (Aa:Option Addr) (n0_0 ca : Nat) (hn0_0:n0_0 = p0.length) (hr0_0:Rd W Aa n0_0 ca (encL cI p0)) :
  Calls Tryz.prog 137 [.slice Aa n0_0 ca].toArray W fun e W2 => e = .returned (.bool res) ∧ Ext W W2 []:=by
 subst hn0_0
 unfold ref09_rising at h
 refine calls_enter (m:=20) Tryz.func137 rfl rfl (nB rfl) ?_
 refine cS (cR ?_)
 refine ox_y rfl (y_assign_bool rfl) ?_
 refine oN (eT (cS (cS (cR ?_))))
 refine ox_y rfl (yAI rfl) ?_
 refine oN (eT (cx_block ?_))
 obtain ⟨u3,hl8,h⟩:=bOs h
 refine cx_loop (fun (s:(Bool × Int)) L tm => ∃ (tm0:Nat → Value),L = [] ∧ tm = (upd (upd (upd tm0 0 (.slice Aa p0.length ca)) 2 (.bool s.1)) 3 (.int .i64 s.2))) (fun | (.inl s),e,L,tm => e = .ret ∧ ∃ (tm0:Nat → Value),L = [] ∧ tm = (upd (upd (upd tm0 0 (.slice Aa p0.length ca)) 2 (.bool s.1)) 3 (.int .i64 s.2)) | (.inr s),e,L,tm => e = .exit 0 ∧ ∃ (tm0:Nat → Value),L = [] ∧ tm = (upd (upd (upd tm0 0 (.slice Aa p0.length ca)) 2 (.bool s.1)) 3 (.int .i64 s.2))) hl8 ⟨_,rfl,(kp (kp (kp rfl)))⟩ ?_ ?_
 ·rintro s2 L tm st ⟨tm0_s2,rfl,rfl⟩ h
  unfold ref09_rising_l1 at h
  refine cS (cS (cR ?_))
  refine ox_y rfl (yMI rfl) (ox_y rfl (yMS rfl) (ox_y rfl (y_len (us:=[]) us_26 rfl) (ox_y rfl (y_lss rfl rfl) ?_)))
  refine oN (eT ?_)
  rcases iOs h with ⟨hp4,h⟩ | ⟨hp4,h⟩
  ·refine cx_true (vB hp4) ?_
   refine cx_skip (eT (cS (cx_block (cS ?_))))
   refine cx_draws 10 mixed (by kernel_rfl) (by kernel_rfl) ?_
   refine qx_y rfl (yMS rfl) (qx_y rfl (yMI rfl) ?_)
   obtain ⟨hg5,h⟩:=gOs h
   refine qx_y rfl (y_indexR sl_26 (by decide) hg5.1 hg5.2 (RdL.arg hr0_0) (encL_len cI_len rfl) rfl rfl) ?_
   refine qx_y rfl (y_loadR1 (A:=Aa) (j:=(Int.toNat s2.2 * 1)) (v:=.int .i64 (rdL p0 s2.2)) sc_3 (RdL.arg hr0_0) rfl (encL_get0 cI_len hg5.1 (lt_nat hg5.2 rfl) rfl)) (qx_y rfl (yMS rfl) (qx_y rfl (yMI rfl) (qx_y rfl (y_sub rfl rfl) ?_)))
   obtain ⟨hg6,h⟩:=gOs h
   refine qx_y rfl (y_indexR sl_26 (by decide) hg6.1 hg6.2 (RdL.arg hr0_0) (encL_len cI_len rfl) rfl rfl) ?_
   refine qx_y rfl (y_loadR1 (A:=Aa) (j:=(Int.toNat (w64 (s2.2 - 1)) * 1)) (v:=.int .i64 (rdL p0 (w64 (s2.2 - 1)))) sc_3 (RdL.arg hr0_0) rfl (encL_get0 cI_len hg6.1 (lt_nat hg6.2 rfl) rfl)) (qx_y rfl (y_leq rfl rfl) (qx_nil ?_))
   refine oN (eT ?_)
   rcases iOs h with ⟨hp7,h⟩ | ⟨hp7,h⟩
   ·refine cx_true (vB hp7) ?_
    refine cS (cR ?_)
    refine ox_y rfl (y_assign_bool rfl) ?_
    refine oN (eT (cx_ret (ex_block_ret (ex_then_ret ?_))))
    obtain rfl:=sI h
    exact ex_stop ⟨rfl,_,rfl,(kp (kp (kp rfl)))⟩
   ·refine cx_false (vB hp7) (cx_skip (ex_block ?_))
    refine eT (cR ?_)
    refine ox_y rfl (yMI rfl) (ox_y rfl (y_add rfl rfl) (ox_y rfl (yAI rfl) (oN ?_)))
    obtain rfl:=sI h
    exact ex_next ⟨_,rfl,(kp (kp (kp rfl)))⟩
  ·refine cx_false (vB hp4) (cx_exit (ex_then_exit ?_))
   obtain rfl:=sI h
   exact ex_stop ⟨rfl,_,rfl,(kp (kp (kp rfl)))⟩
 ·intro e L tm hJ
  rcases u3 with u9 | u10
  ·dsimp only at h hJ
   obtain ⟨rfl,tm0_u9,rfl,rfl⟩:=hJ
   refine ⟨(by intro hc; cases hc),?_⟩
   refine ex_block_ret (ex_then_ret ?_)
   obtain rfl:=sI h
   exact ex_res1 (.inl rfl) rfl (rVt (v:=.bool u9.1) rfl) (fun W2 hW2 => ⟨rfl,hW2.none⟩)
  ·dsimp only at h hJ
   obtain ⟨rfl,tm0_u10,rfl,rfl⟩:=hJ
   refine ⟨(by intro hc; cases hc),?_⟩
   refine ex_block_here ?_
   refine eT (cS (cR ?_))
   refine ox_y rfl (y_assign_bool rfl) ?_
   refine oN (eT (cx_ret ?_))
   obtain rfl:=sI h
   exact ex_res1 (.inl rfl) rfl (rVt (v:=.bool true) rfl) (fun W2 hW2 => ⟨rfl,hW2.none⟩)
theorem ref09_nodes_ok (p0:TL) (p1:(List Int)) (res:Bool) (h:ref09_nodes p0 p1 = some res) (W:World) (Aa:Option Addr) (n0_0 ca : Nat) (hn0_0:n0_0 = p0.fNo.length) (hr0_0:Rd W Aa n0_0 ca (encL TNode_cells p0.fNo)) (Ab:Option Addr) (n0_1 cb : Nat) (ys0_1:List (Hd × TC)) (hn0_1:n0_1 = p0.fC.length) (hr0_1:Rd W Ab n0_1 cb (encL TClaim_cells2 ys0_1)) (hN0_1:NestW W (fun z : TC => z.fO) THop_cells ys0_1 p0.fC) (Ac:Option Addr) (n1_0 cc : Nat) (hn1_0:n1_0 = p1.length) (hr1_0:Rd W Ac n1_0 cc (encL cI p1)) :
  Calls Tryz.prog 125 [.agg #[.slice Aa n0_0 ca,.slice Ab n0_1 cb],.slice Ac n1_0 cc].toArray W fun e W2 => e = .returned (.bool res) ∧ Ext W W2 []:=by
 subst hn0_0
 subst hn0_1
 subst hn1_0
 unfold ref09_nodes at h
 refine calls_enter (m:=26) Tryz.func125 rfl rfl (nB rfl) ?_
 refine cS (cR ?_)
 refine ox_box [.slice Aa p0.fNo.length ca,.slice Ab p0.fC.length cb] rfl rfl rfl (fun b1 => ?_)
 refine ox_y rfl (y_assign_bool rfl) ?_
 refine oN (eT (cS (cS (cR ?_))))
 refine ox_y rfl (yAI rfl) ?_
 refine oN (eT (cx_block ?_))
 obtain ⟨u4,hl10,h⟩:=bOs h
 refine cx_loop (fun (s:(Bool × Int)) L tm => ∃ (tm0:Nat → Value),L = [cellsR b1 25 [.slice Aa p0.fNo.length ca,.slice Ab p0.fC.length cb]] ∧ tm = (upd (upd (upd (upd (upd tm0 0 (.agg #[.slice Aa p0.fNo.length ca,.slice Ab p0.fC.length cb])) 1 (.slice Ac p1.length cc)) 2 (.pointer (some ⟨b1,0,none⟩))) 4 (.bool s.1)) 5 (.int .i64 s.2))) (fun | (.inl s),e,L,tm => e = .ret ∧ ∃ (tm0:Nat → Value),L = [cellsR b1 25 [.slice Aa p0.fNo.length ca,.slice Ab p0.fC.length cb]] ∧ tm = (upd (upd (upd (upd (upd tm0 0 (.agg #[.slice Aa p0.fNo.length ca,.slice Ab p0.fC.length cb])) 1 (.slice Ac p1.length cc)) 2 (.pointer (some ⟨b1,0,none⟩))) 4 (.bool s.1)) 5 (.int .i64 s.2)) | (.inr s),e,L,tm => e = .exit 0 ∧ ∃ (tm0:Nat → Value),L = [cellsR b1 25 [.slice Aa p0.fNo.length ca,.slice Ab p0.fC.length cb]] ∧ tm = (upd (upd (upd (upd (upd tm0 0 (.agg #[.slice Aa p0.fNo.length ca,.slice Ab p0.fC.length cb])) 1 (.slice Ac p1.length cc)) 2 (.pointer (some ⟨b1,0,none⟩))) 4 (.bool s.1)) 5 (.int .i64 s.2))) hl10 ⟨_,rfl,(kp4 (kp rfl))⟩ ?_ ?_
 ·rintro s3 L tm st ⟨tm0_s3,rfl,rfl⟩ h
  unfold ref09_nodes_l1 at h
  refine cS (cS (cR ?_))
  refine ox_y rfl (yMI rfl) (ox_y rfl (yMS rfl) (ox_y rfl (y_len (us:=[]) us_26 rfl) (ox_y rfl (y_lss rfl rfl) ?_)))
  refine oN (eT ?_)
  rcases iOs h with ⟨hp5,h⟩ | ⟨hp5,h⟩
  ·refine cx_true (vB hp5) ?_
   refine cx_skip (eT (cS (cx_block (cS ?_))))
   refine cx_draws 7 mixed (by kernel_rfl) (by kernel_rfl) ?_
   refine qx_y rfl (y_loadN 0 [.slice Aa p0.fNo.length ca,.slice Ab p0.fC.length cb] ag_25 rfl rfl rfl) (qx_y rfl (yMS rfl) (qx_y rfl (yMI rfl) ?_))
   obtain ⟨hg6,h⟩:=gOs h
   refine qx_y rfl (y_indexR sl_26 (by decide) hg6.1 hg6.2 (RdL.arg hr1_0) (encL_len cI_len rfl) rfl rfl) ?_
   refine qx_y rfl (y_loadR1 (A:=Ac) (j:=(Int.toNat s3.2 * 1)) (v:=.int .i64 (rdL p1 s3.2)) sc_3 (RdL.arg hr1_0) rfl (encL_get0 cI_len hg6.1 (lt_nat hg6.2 rfl) rfl)) ?_
   obtain ⟨y7,hy8,h⟩:=bOs h
   refine qx_y rfl (y_call [.agg #[.slice Aa p0.fNo.length ca,.slice Ab p0.fC.length cb],.int .i64 (rdL p1 s3.2)] go_67 rfl (fun W2 hW2 => ref09_Node_ok p0 (rdL p1 s3.2) y7 hy8 W2 Aa p0.fNo.length ca rfl ((RdL.arg hr0_0) W2 hW2) Ab p0.fC.length cb ys0_1 rfl ((RdL.arg hr0_1) W2 hW2) (NestL.at (NestL.arg hN0_1) W2 hW2)) rfl) (qx_y rfl (y_lss rfl rfl) (qx_nil ?_))
   refine oN (eT ?_)
   rcases iOs h with ⟨hp9,h⟩ | ⟨hp9,h⟩
   ·refine cx_true (vB hp9) ?_
    refine cS (cR ?_)
    refine ox_y rfl (y_assign_bool rfl) ?_
    refine oN (eT (cx_ret (ex_block_ret (ex_then_ret ?_))))
    obtain rfl:=sI h
    exact ex_stop ⟨rfl,_,rfl,(kp4 (kp rfl))⟩
   ·refine cx_false (vB hp9) (cx_skip (ex_block ?_))
    refine eT (cR ?_)
    refine ox_y rfl (yMI rfl) (ox_y rfl (y_add rfl rfl) (ox_y rfl (yAI rfl) (oN ?_)))
    obtain rfl:=sI h
    exact ex_next ⟨_,rfl,(kp4 (kp rfl))⟩
  ·refine cx_false (vB hp5) (cx_exit (ex_then_exit ?_))
   obtain rfl:=sI h
   exact ex_stop ⟨rfl,_,rfl,(kp4 (kp rfl))⟩
 ·intro e L tm hJ
  rcases u4 with u11 | u12
  ·dsimp only at h hJ
   obtain ⟨rfl,tm0_u11,rfl,rfl⟩:=hJ
   refine ⟨(by intro hc; cases hc),?_⟩
   refine ex_block_ret (ex_then_ret ?_)
   obtain rfl:=sI h
   exact ex_res1 (.inl rfl) rfl (rVt (v:=.bool u11.1) rfl) (fun W2 hW2 => ⟨rfl,hW2.none⟩)
  ·dsimp only at h hJ
   obtain ⟨rfl,tm0_u12,rfl,rfl⟩:=hJ
   refine ⟨(by intro hc; cases hc),?_⟩
   refine ex_block_here ?_
   refine eT (cS (cR ?_))
   refine ox_y rfl (yMS rfl) (ox_y rfl (y_len (us:=[]) us_26 rfl) (ox_y rfl (y_gtr rfl rfl) (ox_y rfl (y_move_bool rfl) ?_)))
   obtain ⟨b14,hb15,h⟩:=bOs h
   refine ox_join 3 (fun tm0 => (upd (upd tm0 4 (.bool u12.1)) 25 (.bool b14))) (fun tm0 => ?_) (fun key => ?_)
   ·refine ox_y rfl (y_assign_bool rfl) ?_
    refine oN (eT (cx_ret ?_))
    obtain rfl:=sI h
    exact ex_res1 (.inl rfl) rfl (rVt (v:=.bool b14) rfl) (fun W2 hW2 => ⟨rfl,hW2.none⟩)
   ·clear h; rcases iOs hb15 with ⟨hp13,h⟩ | ⟨hp13,h⟩
    ·refine ox_y (sT rfl rfl rfl rfl hp13) (yMS rfl) ?_
     obtain ⟨y16,hy17,h⟩:=bOs h
     refine ox_y (sT rfl rfl rfl rfl hp13) (y_call [.slice Ac p1.length cc] go_137 rfl (fun W2 hW2 => ref09_rising_ok p1 y16 hy17 W2 Ac p1.length cc rfl ((RdL.arg hr1_0) W2 hW2)) rfl) (ox_y rfl (y_pick_tb (vB hp13) rfl) ?_)
     obtain rfl:=sI h
     exact key _ _ (kp (kp rfl))
    ·refine oSk (sF rfl rfl rfl rfl hp13) (oSk (sF rfl rfl rfl rfl hp13) (ox_y rfl (y_pick_fb (vB hp13) rfl) ?_))
     obtain rfl:=sI h
     exact key _ _ (kp (kp rfl))
theorem ref09_From_ok (p0:TL) (p1:(List Int)) (res:Int) (h:ref09_From p0 p1 = some res) (W:World) (Aa:Option Addr) (n0_0 ca : Nat) (hn0_0:n0_0 = p0.fNo.length) (hr0_0:Rd W Aa n0_0 ca (encL TNode_cells p0.fNo)) (Ab:Option Addr) (n0_1 cb : Nat) (ys0_1:List (Hd × TC)) (hn0_1:n0_1 = p0.fC.length) (hr0_1:Rd W Ab n0_1 cb (encL TClaim_cells2 ys0_1)) (hN0_1:NestW W (fun z : TC => z.fO) THop_cells ys0_1 p0.fC) (Ac:Option Addr) (n1_0 cc : Nat) (hn1_0:n1_0 = p1.length) (hr1_0:Rd W Ac n1_0 cc (encL cI p1)) :
  Calls Tryz.prog 72 [.agg #[.slice Aa n0_0 ca,.slice Ab n0_1 cb],.slice Ac n1_0 cc].toArray W fun e W2 => e = .returned (.int .i64 res) ∧ Ext W W2 []:=by
 subst hn0_0
 subst hn0_1
 subst hn1_0
 unfold ref09_From at h
 refine calls_enter (m:=17) Tryz.func72 rfl rfl (nB rfl) ?_
 refine cS (cR ?_)
 refine ox_box [.slice Aa p0.fNo.length ca,.slice Ab p0.fC.length cb] rfl rfl rfl (fun b1 => ?_)
 refine ox_y rfl (yAI rfl) ?_
 refine oN (eT (cS (cR ?_)))
 refine ox_y rfl (y_loadN 0 [.slice Aa p0.fNo.length ca,.slice Ab p0.fC.length cb] ag_25 rfl rfl rfl) ?_
 obtain ⟨y2,hy3,h⟩:=bOs h
 refine ox_y rfl (y_call [.agg #[.slice Aa p0.fNo.length ca,.slice Ab p0.fC.length cb]] go_66 rfl (fun W2 hW2 => ref09_Check_ok p0 y2 hy3 W2 Aa p0.fNo.length ca rfl ((RdL.arg hr0_0) W2 hW2) Ab p0.fC.length cb ys0_1 rfl ((RdL.arg hr0_1) W2 hW2) (NestL.at (NestL.arg hN0_1) W2 hW2)) rfl) (ox_y rfl (yAI rfl) ?_)
 refine oN (eT (cS (cS (cR ?_))))
 refine ox_y rfl (yMI rfl) (ox_y rfl (y_eql rfl rfl) (ox_y rfl (y_move_bool rfl) ?_))
 obtain ⟨b5,hb6,h⟩:=bOs h
 refine ox_join 5 (fun tm0 => (upd (upd (upd tm0 4 (.int .i64 0)) 5 (.int .i64 y2)) 15 (.bool b5))) (fun tm0 => ?_) (fun key => ?_)
 ·refine oN (eT ?_)
  rcases iOs h with ⟨hp7,h⟩ | ⟨hp7,h⟩
  ·refine cx_true (vB hp7) (cR (ox_y rfl (yAI rfl) ?_))
   refine oN (eT (cS (cR ?_)))
   refine ox_y rfl (yMI rfl) (ox_y rfl (yAI rfl) ?_)
   refine oN (eT (cx_ret ?_))
   obtain rfl:=sI h
   exact ex_res1 (.inl rfl) rfl (rVt (v:=.int .i64 1) rfl) (fun W2 hW2 => ⟨rfl,hW2.none⟩)
  ·refine cx_false (vB hp7) ?_
   refine cx_skip (eT (cS (cR ?_)))
   refine ox_y rfl (yMI rfl) (ox_y rfl (yAI rfl) ?_)
   refine oN (eT (cx_ret ?_))
   obtain rfl:=sI h
   exact ex_res1 (.inl rfl) rfl (rVt (v:=.int .i64 y2) rfl) (fun W2 hW2 => ⟨rfl,hW2.none⟩)
 ·clear h; rcases iOs hb6 with ⟨hp4,h⟩ | ⟨hp4,h⟩
  ·refine ox_y (sT rfl rfl rfl rfl hp4) (y_loadN 0 [.slice Aa p0.fNo.length ca,.slice Ab p0.fC.length cb] ag_25 rfl rfl rfl) (ox_y (sT rfl rfl rfl rfl hp4) (yMS rfl) ?_)
   obtain ⟨y8,hy9,h⟩:=bOs h
   refine ox_y (sT rfl rfl rfl rfl hp4) (y_call [.agg #[.slice Aa p0.fNo.length ca,.slice Ab p0.fC.length cb],.slice Ac p1.length cc] go_125 rfl (fun W2 hW2 => ref09_nodes_ok p0 p1 y8 hy9 W2 Aa p0.fNo.length ca rfl ((RdL.arg hr0_0) W2 hW2) Ab p0.fC.length cb ys0_1 rfl ((RdL.arg hr0_1) W2 hW2) (NestL.at (NestL.arg hN0_1) W2 hW2) Ac p1.length cc rfl ((RdL.arg hr1_0) W2 hW2)) rfl) (ox_y (sT rfl rfl rfl rfl hp4) (y_not rfl) (ox_y rfl (y_pick_tb (vB hp4) rfl) ?_))
   obtain rfl:=sI h
   exact key _ _ (kp (kp (kp rfl)))
  ·refine oSk (sF rfl rfl rfl rfl hp4) (oSk (sF rfl rfl rfl rfl hp4) (oSk (sF rfl rfl rfl rfl hp4) (oSk (sF rfl rfl rfl rfl hp4) (ox_y rfl (y_pick_fb (vB hp4) rfl) ?_))))
   obtain rfl:=sI h
   exact key _ _ (kp (kp (kp rfl)))
end Go.Proofs.YtbblpokfbmekfaaGreat
set_option maxHeartbeats 4000000
set_option maxRecDepth 100000
namespace Go.Proofs.YtbblpokfbmekfaaGreat
open Go.RowKit (Below)
attribute [local irreducible] OX QX CX EX OpY Calls CallsIn
theorem ref09_put_ok (p0:(List Int)) (p1:Int) (res:(List Int)) (h:ref09_put p0 p1 = some res) (W:World) (Aa:Option Addr) (n0_0 ca : Nat) (hn0_0:n0_0 = p0.length) (hr0_0:Rd W Aa n0_0 ca (encL cI p0)) :
  Calls Tryz.prog 69 [.slice Aa n0_0 ca,.int .i64 p1].toArray W fun e W2 => ∃ x : Option Addr × Nat × Nat,x.2.1 = res.length ∧ e = .returned (.slice x.1 x.2.1 x.2.2) ∧ Ext W W2 [rowR x.1 x.2.2 3 1 x.2.1 (encL cI res)]:=by
 subst hn0_0
 unfold ref09_put at h
 refine calls_enter (m:=36) Tryz.func69 rfl rfl (nB rfl) ?_
 refine cS (cR ?_)
 refine ox_y rfl (yAS rfl) ?_
 refine oN (eT (cS (cR ?_)))
 refine ox_y rfl (yMS rfl) (ox_y rfl (y_len (us:=[]) us_26 rfl) (ox_y rfl (yAI rfl) ?_))
 refine oN (eT (cS (cx_block ?_)))
 obtain ⟨u3,hl9,h⟩:=bOs h
 refine cx_loop (fun (s:Int) L tm => ∃ (tm0:Nat → Value),L = [] ∧ tm = (upd (upd (upd (upd tm0 0 (.slice Aa p0.length ca)) 1 (.int .i64 p1)) 4 (.slice none 0 0)) 5 (.int .i64 s))) (fun s e L tm => e = .exit 0 ∧ ∃ (tm0:Nat → Value),L = [] ∧ tm = (upd (upd (upd (upd tm0 0 (.slice Aa p0.length ca)) 1 (.int .i64 p1)) 4 (.slice none 0 0)) 5 (.int .i64 s))) hl9 ⟨_,rfl,(kp4 rfl)⟩ ?_ ?_
 ·rintro s2 L tm st ⟨tm0_s2,rfl,rfl⟩ h
  unfold ref09_put_l1 at h
  refine cS (cS (cR ?_))
  refine ox_y rfl (yMI rfl) (ox_y rfl (y_gtr rfl rfl) (ox_y rfl (y_move_bool rfl) ?_))
  obtain ⟨b5,hb6,h⟩:=bOs h
  refine ox_join 8 (fun tm0 => (upd (upd (upd (upd (upd tm0 0 (.slice Aa p0.length ca)) 1 (.int .i64 p1)) 4 (.slice none 0 0)) 5 (.int .i64 s2)) 19 (.bool b5))) (fun tm0 => ?_) (fun key => ?_)
  ·refine oN (eT ?_)
   rcases iOs h with ⟨hp7,h⟩ | ⟨hp7,h⟩
   ·refine cx_true (vB hp7) ?_
    refine cx_skip (eT (cx_block (cR ?_)))
    refine ox_y rfl (yMI rfl) (ox_y rfl (y_sub rfl rfl) (ox_y rfl (yAI rfl) (oN (ex_block ?_))))
    obtain rfl:=sI h
    exact ex_next ⟨_,rfl,(kp4 rfl)⟩
   ·refine cx_false (vB hp7) (cx_exit (ex_then_exit ?_))
    obtain rfl:=sI h
    exact ex_stop ⟨rfl,_,rfl,(kp4 rfl)⟩
  ·clear h; rcases iOs hb6 with ⟨hp4,h⟩ | ⟨hp4,h⟩
   ·refine ox_y (sT rfl rfl rfl rfl hp4) (yMS rfl) (ox_y (sT rfl rfl rfl rfl hp4) (yMI rfl) (ox_y (sT rfl rfl rfl rfl hp4) (y_sub rfl rfl) ?_))
    obtain ⟨hg8,h⟩:=gOs h
    refine ox_y (sT rfl rfl rfl rfl hp4) (y_indexR sl_26 (by decide) hg8.1 hg8.2 (RdL.arg hr0_0) (encL_len cI_len rfl) rfl rfl) ?_
    refine ox_y (sT rfl rfl rfl rfl hp4) (y_loadR1 (A:=Aa) (j:=(Int.toNat (w64 (s2 - 1)) * 1)) (v:=.int .i64 (rdL p0 (w64 (s2 - 1)))) sc_3 (RdL.arg hr0_0) rfl (encL_get0 cI_len hg8.1 (lt_nat hg8.2 rfl) rfl)) (ox_y (sT rfl rfl rfl rfl hp4) (yMI rfl) (ox_y (sT rfl rfl rfl rfl hp4) (y_gtr rfl rfl) (ox_y rfl (y_pick_tb (vB hp4) rfl) ?_)))
    obtain rfl:=sI h
    exact key _ _ (kp4 (kp rfl))
   ·refine oSk (sF rfl rfl rfl rfl hp4) (oSk (sF rfl rfl rfl rfl hp4) (oSk (sF rfl rfl rfl rfl hp4) (oSk (sF rfl rfl rfl rfl hp4) (oSk (sF rfl rfl rfl rfl hp4) (oSk (sF rfl rfl rfl rfl hp4) (oSk (sF rfl rfl rfl rfl hp4) (ox_y rfl (y_pick_fb (vB hp4) rfl) ?_)))))))
    obtain rfl:=sI h
    exact key _ _ (kp4 (kp rfl))
 ·intro e L tm hJ
  obtain ⟨rfl,tm0_u3,rfl,rfl⟩:=hJ
  refine ⟨(by intro hc; cases hc),?_⟩
  refine ex_block_here ?_
  refine eT (cS (cR ?_))
  refine ox_buildSlice0 cI us_26 ze_3 by_3 rfl (fun b10 => ?_)
  refine ox_y rfl (yMS rfl) (ox_y rfl (yMI rfl) ?_)
  obtain ⟨hg11,h⟩:=gOs h
  refine ox_y rfl (y_cutH sl_26 hg11.1 hg11.2 (RdL.arg hr0_0) rfl rfl) ?_
  obtain ⟨hg14,h⟩:=gOs h
  refine ox_append0 0 us_26 ze_3 by_3 rfl rfl rfl (RdL.cutH cI_len (RdL.arg hr0_0) hg11.1 hg11.2) (encL_len cI_len (cutH_len hg11.2 rfl)) (encL_one cI_one _) (app_room hg14 (by decide)) rfl (fun A12 c13 => ?_)
  refine ox_y rfl (yAS rfl) ?_
  refine oN (eT (cS (cR ?_)))
  refine ox_y rfl (yMS rfl) (ox_y rfl (yMI rfl) ?_)
  refine ox_buildSliceE 1 (encL cI [p1]) _ mc_3_1 us_26 ze_3 by_3 (by decide) (by decide) (by kernel_rfl) (encL_len cI_len rfl) rfl (fun b15 => ?_)
  obtain ⟨hg18,h⟩:=gOs h
  refine ox_append0 0 us_26 ze_3 by_3 rfl rfl rfl (RdL.row 1 rfl) (encL_len cI_len rfl) (encL_one cI_one _) (app_room hg18 (by decide)) rfl (fun A16 c17 => ?_)
  refine ox_y rfl (yAS rfl) ?_
  refine oN (eT (cS (cR ?_)))
  refine ox_y rfl (yMS rfl) (ox_y rfl (yMS rfl) (ox_y rfl (yMI rfl) ?_))
  obtain ⟨hg19,h⟩:=gOs h
  refine ox_y rfl (y_cutL sl_26 hg19.1 hg19.2 (RdL.arg hr0_0) rfl rfl) ?_
  obtain ⟨hg22,h⟩:=gOs h
  refine ox_append0 0 us_26 ze_3 by_3 rfl rfl rfl (RdL.cutL cI_len (RdL.arg hr0_0) hg19.1 hg19.2 rfl) (encL_len cI_len (cutL_len rfl)) (encL_one cI_one _) (app_room hg22 (by decide)) rfl (fun A20 c21 => ?_)
  refine ox_y rfl (yAS rfl) ?_
  refine oN (eT (cx_ret ?_))
  obtain rfl:=sI h
  exact ex_res1 (.inl rfl) rfl (rVt (v:=.slice A20 (((0 + (Int.toNat u3)) + 1) + (p0.length - Int.toNat u3)) c21) rfl) (fun W2 hW2 => ⟨(A20,(((0 + (Int.toNat u3)) + 1) + (p0.length - Int.toNat u3)),c21),(hn_app (hn_app (hn_app rfl (cutH_len hg11.2 rfl)) rfl) (cutL_len rfl)),rfl,(hW2.pick 0 rfl)⟩)
end Go.Proofs.YtbblpokfbmekfaaGreat
set_option maxHeartbeats 4000000
set_option maxRecDepth 100000
namespace Go.Proofs.YtbblpokfbmekfaaGreat
open Go.RowKit (Below)
attribute [local irreducible] OX QX CX EX OpY Calls CallsIn
theorem ref09_To_ok (p0:TL) (p1:(List Int)) (p2:Int) (res:Int) (h:ref09_To p0 p1 p2 = some res) (W:World) (Aa:Option Addr) (n0_0 ca : Nat) (hn0_0:n0_0 = p0.fNo.length) (hr0_0:Rd W Aa n0_0 ca (encL TNode_cells p0.fNo)) (Ab:Option Addr) (n0_1 cb : Nat) (ys0_1:List (Hd × TC)) (hn0_1:n0_1 = p0.fC.length) (hr0_1:Rd W Ab n0_1 cb (encL TClaim_cells2 ys0_1)) (hN0_1:NestW W (fun z : TC => z.fO) THop_cells ys0_1 p0.fC) (Ac:Option Addr) (n1_0 cc : Nat) (hn1_0:n1_0 = p1.length) (hr1_0:Rd W Ac n1_0 cc (encL cI p1)) :
  Calls Tryz.prog 38 [.agg #[.slice Aa n0_0 ca,.slice Ab n0_1 cb],.slice Ac n1_0 cc,.int .i64 p2].toArray W fun e W2 => e = .returned (.int .i64 res) ∧ Ext W W2 []:=by
 subst hn0_0
 subst hn0_1
 subst hn1_0
 unfold ref09_To at h
 refine calls_enter (m:=20) Tryz.func38 rfl rfl (nB rfl) ?_
 refine cS (cR ?_)
 refine ox_box [.slice Aa p0.fNo.length ca,.slice Ab p0.fC.length cb] rfl rfl rfl (fun b1 => ?_)
 refine ox_y rfl (yAI rfl) ?_
 refine oN (eT (cS (cR ?_)))
 refine ox_y rfl (y_loadN 0 [.slice Aa p0.fNo.length ca,.slice Ab p0.fC.length cb] ag_25 rfl rfl rfl) (ox_y rfl (yMS rfl) ?_)
 obtain ⟨y2,hy3,h⟩:=bOs h
 refine ox_y rfl (y_call [.agg #[.slice Aa p0.fNo.length ca,.slice Ab p0.fC.length cb],.slice Ac p1.length cc] go_72 rfl (fun W2 hW2 => ref09_From_ok p0 p1 y2 hy3 W2 Aa p0.fNo.length ca rfl ((RdL.arg hr0_0) W2 hW2) Ab p0.fC.length cb ys0_1 rfl ((RdL.arg hr0_1) W2 hW2) (NestL.at (NestL.arg hN0_1) W2 hW2) Ac p1.length cc rfl ((RdL.arg hr1_0) W2 hW2)) rfl) (ox_y rfl (yAI rfl) ?_)
 refine oN (eT (cS (cS (cR ?_))))
 refine ox_y rfl (yMI rfl) (ox_y rfl (y_eql rfl rfl) (ox_y rfl (y_move_bool rfl) ?_))
 obtain ⟨b5,hb6,h⟩:=bOs h
 refine ox_join 5 (fun tm0 => (upd (upd (upd tm0 6 (.int .i64 0)) 7 (.int .i64 y2)) 18 (.bool b5))) (fun tm0 => ?_) (fun key => ?_)
 ·refine oN (eT ?_)
  rcases iOs h with ⟨hp7,h⟩ | ⟨hp7,h⟩
  ·refine cx_true (vB hp7) (cR (ox_y rfl (yAI rfl) ?_))
   refine oN (eT (cS (cR ?_)))
   refine ox_y rfl (yMI rfl) (ox_y rfl (yAI rfl) ?_)
   refine oN (eT (cx_ret ?_))
   obtain rfl:=sI h
   exact ex_res1 (.inl rfl) rfl (rVt (v:=.int .i64 5) rfl) (fun W2 hW2 => ⟨rfl,hW2.none⟩)
  ·refine cx_false (vB hp7) ?_
   refine cx_skip (eT (cS (cR ?_)))
   refine ox_y rfl (yMI rfl) (ox_y rfl (yAI rfl) ?_)
   refine oN (eT (cx_ret ?_))
   obtain rfl:=sI h
   exact ex_res1 (.inl rfl) rfl (rVt (v:=.int .i64 y2) rfl) (fun W2 hW2 => ⟨rfl,hW2.none⟩)
 ·clear h; rcases iOs hb6 with ⟨hp4,h⟩ | ⟨hp4,h⟩
  ·refine ox_y (sT rfl rfl rfl rfl hp4) (y_loadN 0 [.slice Aa p0.fNo.length ca,.slice Ab p0.fC.length cb] ag_25 rfl rfl rfl) (ox_y (sT rfl rfl rfl rfl hp4) (yMI rfl) ?_)
   obtain ⟨y8,hy9,h⟩:=bOs h
   refine ox_y (sT rfl rfl rfl rfl hp4) (y_call [.agg #[.slice Aa p0.fNo.length ca,.slice Ab p0.fC.length cb],.int .i64 p2] go_67 rfl (fun W2 hW2 => ref09_Node_ok p0 p2 y8 hy9 W2 Aa p0.fNo.length ca rfl ((RdL.arg hr0_0) W2 hW2) Ab p0.fC.length cb ys0_1 rfl ((RdL.arg hr0_1) W2 hW2) (NestL.at (NestL.arg hN0_1) W2 hW2)) rfl) (ox_y (sT rfl rfl rfl rfl hp4) (y_lss rfl rfl) (ox_y rfl (y_pick_tb (vB hp4) rfl) ?_))
   obtain rfl:=sI h
   exact key _ _ (kp (kp (kp rfl)))
  ·refine oSk (sF rfl rfl rfl rfl hp4) (oSk (sF rfl rfl rfl rfl hp4) (oSk (sF rfl rfl rfl rfl hp4) (oSk (sF rfl rfl rfl rfl hp4) (ox_y rfl (y_pick_fb (vB hp4) rfl) ?_))))
   obtain rfl:=sI h
   exact key _ _ (kp (kp (kp rfl)))
end Go.Proofs.YtbblpokfbmekfaaGreat
set_option maxHeartbeats 4000000
set_option maxRecDepth 100000
namespace Go.Proofs.YtbblpokfbmekfaaGreat
open Go.RowKit (Below)
attribute [local irreducible] OX QX CX EX OpY Calls CallsIn
theorem ref09_Possible_ok (p0:TL) (p1:(List Int)) (p2:Int) (res:Bool) (h:ref09_Possible p0 p1 p2 = some res) (W:World) (Aa:Option Addr) (n0_0 ca : Nat) (hn0_0:n0_0 = p0.fNo.length) (hr0_0:Rd W Aa n0_0 ca (encL TNode_cells p0.fNo)) (Ab:Option Addr) (n0_1 cb : Nat) (ys0_1:List (Hd × TC)) (hn0_1:n0_1 = p0.fC.length) (hr0_1:Rd W Ab n0_1 cb (encL TClaim_cells2 ys0_1)) (hN0_1:NestW W (fun z : TC => z.fO) THop_cells ys0_1 p0.fC) (Ac:Option Addr) (n1_0 cc : Nat) (hn1_0:n1_0 = p1.length) (hr1_0:Rd W Ac n1_0 cc (encL cI p1)) :
  Calls Tryz.prog 43 [.agg #[.slice Aa n0_0 ca,.slice Ab n0_1 cb],.slice Ac n1_0 cc,.int .i64 p2].toArray W fun e W2 => e = .returned (.bool res) ∧ Ext W W2 []:=by
 subst hn0_0
 subst hn0_1
 subst hn1_0
 unfold ref09_Possible at h
 refine calls_enter (m:=21) Tryz.func43 rfl rfl (nB rfl) ?_
 refine cS (cR ?_)
 refine ox_box [.slice Aa p0.fNo.length ca,.slice Ab p0.fC.length cb] rfl rfl rfl (fun b1 => ?_)
 refine ox_y rfl (y_assign_bool rfl) ?_
 refine oN (eT (cS (cR ?_)))
 refine ox_y rfl (y_loadN 0 [.slice Aa p0.fNo.length ca,.slice Ab p0.fC.length cb] ag_25 rfl rfl rfl) (ox_y rfl (yMS rfl) ?_)
 obtain ⟨y2,hy3,h⟩:=bOs h
 refine ox_call [.agg #[.slice Aa p0.fNo.length ca,.slice Ab p0.fC.length cb],.slice Ac p1.length cc] _ _ _ rfl go_68 rfl (fun W2 hW2 => ref09_both_ok p0 p1 y2 hy3 W2 Aa p0.fNo.length ca rfl ((RdL.arg hr0_0) W2 hW2) Ab p0.fC.length cb ys0_1 rfl ((RdL.arg hr0_1) W2 hW2) (NestL.at (NestL.arg hN0_1) W2 hW2) Ac p1.length cc rfl ((RdL.arg hr1_0) W2 hW2)) ?_
 rintro ⟨⟨A4,n8,c5⟩,⟨A6,n10,c7⟩⟩ ⟨hn9,hn11⟩
 replace hn9 : n8 = y2.1.length:=hn9; subst hn9
 replace hn11 : n10 = y2.2.length:=hn11; subst hn11
 refine ox_y rfl (y_move_tuple rfl) (ox_y rfl (y_extract (vs:=[.slice A4 y2.1.length c5,.slice A6 y2.2.length c7]) (v:=.slice A4 y2.1.length c5) rfl rfl) (ox_y rfl (y_extract (vs:=[.slice A4 y2.1.length c5,.slice A6 y2.2.length c7]) (v:=.slice A6 y2.2.length c7) rfl rfl) (ox_y rfl (yAS rfl) (ox_y rfl (yAS rfl) ?_))))
 refine oN (eT (cS (cR ?_)))
 refine ox_y rfl (yMS rfl) (ox_y rfl (y_loadN 0 [.slice Aa p0.fNo.length ca,.slice Ab p0.fC.length cb] ag_25 rfl rfl rfl) (ox_y rfl (yMI rfl) ?_))
 obtain ⟨y12,hy13,h⟩:=bOs h
 refine ox_y rfl (y_call [.agg #[.slice Aa p0.fNo.length ca,.slice Ab p0.fC.length cb],.int .i64 p2] go_67 rfl (fun W2 hW2 => ref09_Node_ok p0 p2 y12 hy13 W2 Aa p0.fNo.length ca rfl ((RdL.arg hr0_0) W2 hW2) Ab p0.fC.length cb ys0_1 rfl ((RdL.arg hr0_1) W2 hW2) (NestL.at (NestL.arg hN0_1) W2 hW2)) rfl) ?_
 obtain ⟨hg14,h⟩:=gOs h
 refine ox_y rfl (y_indexR sl_98 (by decide) hg14.1 hg14.2 (RdL.row 2 rfl) (encL_len cB_len rfl) rfl rfl) ?_
 refine ox_y rfl (y_loadR1 (A:=A6) (j:=(Int.toNat y12 * 1)) (v:=.bool (rdL y2.2 y12)) sc_4 (RdL.row 2 rfl) rfl (encL_get0 cB_len hg14.1 (lt_nat hg14.2 rfl) rfl)) (ox_y rfl (y_assign_bool rfl) ?_)
 refine oN (eT (cx_ret ?_))
 obtain rfl:=sI h
 exact ex_res1 (.inl rfl) rfl (rVt (v:=.bool (rdL y2.2 y12)) rfl) (fun W2 hW2 => ⟨rfl,hW2.none⟩)
theorem ref09_without_ok (p0:TL) (p1:(List Int)) (res:TL) (h:ref09_without p0 p1 = some res) (W:World) (Aa:Option Addr) (n0_0 ca : Nat) (hn0_0:n0_0 = p0.fNo.length) (hr0_0:Rd W Aa n0_0 ca (encL TNode_cells p0.fNo)) (Ab:Option Addr) (n0_1 cb : Nat) (ys0_1:List (Hd × TC)) (hn0_1:n0_1 = p0.fC.length) (hr0_1:Rd W Ab n0_1 cb (encL TClaim_cells2 ys0_1)) (hN0_1:NestW W (fun z : TC => z.fO) THop_cells ys0_1 p0.fC) (Ac:Option Addr) (n1_0 cc : Nat) (hn1_0:n1_0 = p1.length) (hr1_0:Rd W Ac n1_0 cc (encL cI p1)) (wb:World) (Hb:World → Prop) (hB:∀ W3,Below W.heap.size W W3 → Below wb.heap.size wb W3 ∧ Hb W3) (hp0_1:PvL (fun z : TC => z.fO) THop_cells wb Hb ys0_1) :
  Calls Tryz.prog 79 [.agg #[.slice Aa n0_0 ca,.slice Ab n0_1 cb],.slice Ac n1_0 cc].toArray W fun e W2 => ∃ x : ((Option Addr × Nat × Nat) × (List (Hd × TC)) × Res),(x.1.2.1 = res.fC.length ∧ NestP (fun z : TC => z.fO) x.2.1 res.fC ∧ PvL (fun z : TC => z.fO) THop_cells wb (fun W4 => Hb W4 ∧ Res.holds x.2.2 W4) x.2.1) ∧ e = .returned (.agg #[.slice Aa n0_0 ca,.slice x.1.1 x.1.2.1 x.1.2.2]) ∧ Ext W W2 [rowR x.1.1 x.1.2.2 90 2 x.1.2.1 (encL TClaim_cells2 x.2.1),x.2.2]:=by
 subst hn0_0
 subst hn0_1
 subst hn1_0
 unfold ref09_without at h
 refine calls_enter (m:=37) Tryz.func79 rfl rfl (nB rfl) ?_
 refine cS (cR ?_)
 refine ox_box [.slice Aa p0.fNo.length ca,.slice Ab p0.fC.length cb] rfl rfl rfl (fun b1 => ?_)
 refine ox_alloc ze_25 rfl (fun b2 => ?_)
 refine oN (eT (cS (cR ?_)))
 refine ox_y rfl (yFA fo_25_0 rfl) (ox_y rfl (y_load1 0 (v:=.slice Aa p0.fNo.length ca) sc_22 rfl rfl rfl) ?_)
 refine ox_y rfl (y_buildS [.slice Aa p0.fNo.length ca,.slice none 0 0] [(0,1),(1,1)] ust_25 ze_25 (by kernel_rfl)) ?_
 refine ox_alloc ze_25 rfl (fun b3 => ?_)
 refine ox_n rfl (y_storeN 2 [.slice Aa p0.fNo.length ca,.slice none 0 0] sz_25 rfl (nB rfl) rfl rfl rfl) ?_
 refine oN (eT (cS (cS (cR ?_))))
 refine ox_y rfl (yAI rfl) ?_
 refine oN (eT (cx_block ?_))
 obtain ⟨u7,hl19,h⟩:=bOs h
 refine cx_nilrow 97 3 (cx_nilrow 90 2 (cx_nilrow 90 2 (cx_addNo (cx_addNo ?_))))
 refine cx_loop (fun (s:(Int × (List TC))) L tm => ∃ (tm0:Nat → Value) (A5_s:Option Addr) (c5_s:Nat) (n5_s:Nat) (ys5_s:List (Hd × TC)) (F5_s:Res),n5_s = s.2.length ∧ NestP (fun z : TC => z.fO) ys5_s s.2 ∧ PvL (fun z : TC => z.fO) THop_cells wb (fun W4 => Hb W4 ∧ Res.holds F5_s W4) ys5_s ∧ L = [cellsR b1 25 [.slice Aa p0.fNo.length ca,.slice Ab p0.fC.length cb],cellsR b2 25 [.slice none 0 0,.slice none 0 0],cellsR b3 25 [.slice Aa p0.fNo.length ca,.slice A5_s n5_s c5_s],rowR none 0 97 3 0 (encL TNode_cells ([]:List TN)),rowR none 0 90 2 0 (encL TClaim_cells2 ([]:List (Hd × TC))),rowR A5_s c5_s 90 2 n5_s (encL TClaim_cells2 ys5_s),noR,F5_s] ∧ tm = (upd (upd (upd (upd (upd (upd tm0 0 (.agg #[.slice Aa p0.fNo.length ca,.slice Ab p0.fC.length cb])) 1 (.slice Ac p1.length cc)) 2 (.pointer (some ⟨b1,0,none⟩))) 4 (.pointer (some ⟨b2,0,none⟩))) 5 (.pointer (some ⟨b3,0,none⟩))) 6 (.int .i64 s.1))) (fun s e L tm => e = .exit 0 ∧ ∃ (tm0:Nat → Value) (A5_s:Option Addr) (c5_s:Nat) (n5_s:Nat) (ys5_s:List (Hd × TC)) (F5_s:Res),n5_s = s.2.length ∧ NestP (fun z : TC => z.fO) ys5_s s.2 ∧ PvL (fun z : TC => z.fO) THop_cells wb (fun W4 => Hb W4 ∧ Res.holds F5_s W4) ys5_s ∧ L = [cellsR b1 25 [.slice Aa p0.fNo.length ca,.slice Ab p0.fC.length cb],cellsR b2 25 [.slice none 0 0,.slice none 0 0],cellsR b3 25 [.slice Aa p0.fNo.length ca,.slice A5_s n5_s c5_s],rowR none 0 97 3 0 (encL TNode_cells ([]:List TN)),rowR none 0 90 2 0 (encL TClaim_cells2 ([]:List (Hd × TC))),rowR A5_s c5_s 90 2 n5_s (encL TClaim_cells2 ys5_s),noR,F5_s] ∧ tm = (upd (upd (upd (upd (upd (upd tm0 0 (.agg #[.slice Aa p0.fNo.length ca,.slice Ab p0.fC.length cb])) 1 (.slice Ac p1.length cc)) 2 (.pointer (some ⟨b1,0,none⟩))) 4 (.pointer (some ⟨b2,0,none⟩))) 5 (.pointer (some ⟨b3,0,none⟩))) 6 (.int .i64 s.1))) hl19 ⟨_,none,0,0,([]:List (Hd × TC)),noR,rfl,NestP.nil,(PvL.mono (Hb:=Hb) PvL.nil (fun _ _ h => h.1)),rfl,(kp4 (kp (kp rfl)))⟩ ?_ ?_
 ·rintro s6 L tm st ⟨tm0_s6,A5_s6,c5_s6,n5_s6,ys5_s6,F5_s6,rfl,hP5_s6,hV5_s6,rfl,rfl⟩ h
  unfold ref09_without_l1 at h
  refine cS (cS (cR ?_))
  try dsimp only [lna,lca,lsz,lss]
  refine ox_y rfl (yMI rfl) (ox_y rfl (yFA fo_25_1 rfl) (ox_y rfl (y_load1 0 (v:=.slice Ab p0.fC.length cb) sc_23 rfl rfl rfl) (ox_y rfl (y_len (us:=[]) us_23 rfl) (ox_y rfl (y_lss rfl rfl) ?_))))
  refine oN (eT ?_)
  rcases iOs h with ⟨hp8,h⟩ | ⟨hp8,h⟩
  ·refine cx_true (vB hp8) ?_
   refine cx_skip (eT (cS (cx_block (cS (cR ?_)))))
   refine ox_y rfl (yMS rfl) (ox_y rfl (yFA fo_25_1 rfl) (ox_y rfl (y_load1 0 (v:=.slice Ab p0.fC.length cb) sc_23 rfl rfl rfl) (ox_y rfl (yMI rfl) ?_)))
   obtain ⟨hg9,h⟩:=gOs h
   refine ox_y rfl (y_indexR sl_23 (by decide) hg9.1 hg9.2 (RdL.arg hr0_1) (encL_len TClaim_cells2_len (NestP.hn hN0_1.p rfl)) rfl rfl) ?_
   refine ox_y rfl (y_fieldAddrR (A:=Ab) (j:=(Int.toNat s6.1 * 2)) fo_90_0 rfl) (ox_y rfl (y_loadR1 (A:=Ab) (j:=((Int.toNat s6.1 * 2) + 0)) (v:=.int .i64 ((rdL p0.fC s6.1).fID)) sc_3 (RdL.arg hr0_1) rfl (encL_get TClaim_cells2_len hg9.1 (lt_nat hg9.2 (NestP.hn hN0_1.p rfl)) (congrArg (fun z : TC => some (Value.int .i64 z.fID)) (NestP.snd hN0_1.p s6.1)))) ?_)
   obtain ⟨y10,hy11,h⟩:=bOs h
   refine ox_y rfl (y_call [.slice Ac p1.length cc,.int .i64 ((rdL p0.fC s6.1).fID)] go_82 rfl (fun W2 hW2 => ref09_has_ok p1 ((rdL p0.fC s6.1).fID) y10 hy11 W2 Ac p1.length cc rfl ((RdL.arg hr1_0) W2 hW2)) rfl) (ox_y rfl (y_not rfl) ?_)
   refine oN (eT ?_)
   rcases iOs h with ⟨hp12,h⟩ | ⟨hp12,h⟩
   ·refine cx_true (vB hp12) ?_
    obtain ⟨hg14,h⟩:=gOs h
    obtain ⟨hg18,h⟩:=gOs h
    refine cx_drawsG [[],[0],[],[2],[],[2,3,4],[2,3,4,5],[2,3,4,5,6],[0,1,2,3,4,5,6,7],[0,1,2,3,4,5,6,7,8],[0,1,2,3,4,5,6,7,8,9]] [(none,0,[true,true,true,true,true,true,true,true]),(none,0,[true,true,true,true,true,true,true,true]),(none,0,[true,true,true,true,true,true,true,true]),(none,0,[true,true,true,true,true,true,true,true]),(none,0,[true,true,true,true,true,true,true,true]),(none,0,[true,true,true,true,true,true,true,true]),(none,0,[true,true,true,true,true,true,true,true]),(none,1,[true,true,true,true,true,true,true,true]),(some 5,0,[true,true,true,true,true,true,true,true,true]),(none,0,[true,true,true,true,true,true,true,true,true]),(some 2,0,[true,true,true,true,true,true,true,true,true])] [⟨fun _ => .pointer (some ⟨b3,0 + 1,none⟩),fun _ => noR,fun _ => []⟩,⟨fun _ => .slice A5_s6 s6.2.length c5_s6,fun _ => noR,fun _ => []⟩,⟨fun _ => .pointer (some ⟨b1,0 + 1,none⟩),fun _ => noR,fun _ => []⟩,⟨fun _ => .slice Ab p0.fC.length cb,fun _ => noR,fun _ => []⟩,⟨fun _ => .int .i64 s6.1,fun _ => noR,fun _ => []⟩,⟨fun _ => slA Ab (Int.toNat s6.1 * 2),fun _ => noR,fun _ => []⟩,⟨fun _ => .agg #[.int .i64 ((rdL p0.fC s6.1).fID),.slice ((rdL ys0_1 s6.1).1.1) ((rdL p0.fC s6.1).fO.length) ((rdL ys0_1 s6.1).1.2.2)],fun _ => noR,fun _ => []⟩,⟨fun ξ13 => .slice (some ⟨(ξ13 7 0).2.1,0,none⟩) 1 1,fun _ => noR,fun ξ13 => [rowR (some ⟨(ξ13 7 0).2.1,0,none⟩) 1 90 2 1 (encL TClaim_cells2 [(((rdL ys0_1 s6.1).1.1,(rdL p0.fC s6.1).fO.length,(rdL ys0_1 s6.1).1.2.2),(TC.mk ((rdL p0.fC s6.1).fID) ((rdL p0.fC s6.1).fO)))])]⟩,⟨fun ξ13 => .slice (ξ13 8 0).1 (s6.2.length + 1) (ξ13 8 0).2.2.1,fun ξ13 => rowR (ξ13 8 0).1 (ξ13 8 0).2.2.1 90 2 (s6.2.length + 1) (encL TClaim_cells2 (ys5_s6 ++ [(((rdL ys0_1 s6.1).1.1,(rdL p0.fC s6.1).fO.length,(rdL ys0_1 s6.1).1.2.2),(TC.mk ((rdL p0.fC s6.1).fID) ((rdL p0.fC s6.1).fO)))])),fun _ => []⟩,⟨fun _ => .pointer (some ⟨b3,0 + 1,none⟩),fun _ => noR,fun _ => []⟩,⟨fun _ => undef,fun ξ13 => cellsR b3 25 [.slice Aa p0.fNo.length ca,.slice (ξ13 8 0).1 (s6.2.length + 1) (ξ13 8 0).2.2.1],fun _ => []⟩] 8 mixed (by kernel_rfl) (by kernel_rfl) ⟨⟨fun ξ13 ξ13' h => ⟨rfl,rfl,rfl⟩,fun _ => rfl⟩,⟨fun ξ13 ξ13' h => ⟨rfl,rfl,rfl⟩,fun _ => rfl⟩,⟨fun ξ13 ξ13' h => ⟨rfl,rfl,rfl⟩,fun _ => rfl⟩,⟨fun ξ13 ξ13' h => ⟨rfl,rfl,rfl⟩,fun _ => rfl⟩,⟨fun ξ13 ξ13' h => ⟨rfl,rfl,rfl⟩,fun _ => rfl⟩,⟨fun ξ13 ξ13' h => ⟨rfl,rfl,rfl⟩,fun _ => rfl⟩,⟨fun ξ13 ξ13' h => ⟨rfl,rfl,rfl⟩,fun _ => rfl⟩,⟨fun ξ13 ξ13' h => ⟨by simp only [h 7 (.inl rfl)],rfl,by simp only [h 7 (.inl rfl)]⟩,fun _ => rfl⟩,⟨fun ξ13 ξ13' h => ⟨by simp only [h 8 (.inl rfl)],by simp only [h 8 (.inl rfl)],rfl⟩,fun _ => rfl⟩,⟨fun ξ13 ξ13' h => ⟨rfl,rfl,rfl⟩,fun _ => rfl⟩,⟨fun ξ13 ξ13' h => ⟨rfl,by simp only [h 8 (.inr rfl)],rfl⟩,fun _ => rfl⟩,trivial⟩ rfl (fun ξ13 => ?_)
    refine gx_o rfl (fun L2 => ?_) ?_
    ·dsimp only [maskL,lca,lna]
     refine ox_y rfl (yFA fo_25_1 rfl) (oN ?_)
     exact ex_capG (fun _ => (none,0,0,[],noR)) rfl (List.append_nil _)
    dsimp only [aftL,lsz,lss,lna,lca,List.append_nil]
    refine gx_o rfl (fun L2 => ?_) ?_
    ·dsimp only [maskL,lca,lna]
     refine ox_y rfl (y_load1 2 (v:=.slice A5_s6 s6.2.length c5_s6) sc_23 rfl rfl rfl) (oN ?_)
     exact ex_capG (fun _ => (none,0,0,[],noR)) rfl (List.append_nil _)
    dsimp only [aftL,lsz,lss,lna,lca,List.append_nil]
    refine gx_o rfl (fun L2 => ?_) ?_
    ·dsimp only [maskL,lca,lna]
     refine ox_y rfl (yFA fo_25_1 rfl) (oN ?_)
     exact ex_capG (fun _ => (none,0,0,[],noR)) rfl (List.append_nil _)
    dsimp only [aftL,lsz,lss,lna,lca,List.append_nil]
    refine gx_o rfl (fun L2 => ?_) ?_
    ·dsimp only [maskL,lca,lna]
     refine ox_y rfl (y_load1 0 (v:=.slice Ab p0.fC.length cb) sc_23 rfl rfl rfl) (oN ?_)
     exact ex_capG (fun _ => (none,0,0,[],noR)) rfl (List.append_nil _)
    dsimp only [aftL,lsz,lss,lna,lca,List.append_nil]
    refine gx_o rfl (fun L2 => ?_) ?_
    ·dsimp only [maskL,lca,lna]
     refine ox_y rfl (yMI rfl) (oN ?_)
     exact ex_capG (fun _ => (none,0,0,[],noR)) rfl (List.append_nil _)
    dsimp only [aftL,lsz,lss,lna,lca,List.append_nil]
    refine gx_o rfl (fun L2 => ?_) ?_
    ·dsimp only [maskL,lca,lna]
     refine ox_y rfl (y_indexR sl_23 (by decide) hg14.1 hg14.2 (RdL.arg hr0_1) (encL_len TClaim_cells2_len (NestP.hn hN0_1.p rfl)) rfl rfl) ?_
     refine oN ?_
     exact ex_capG (fun _ => (none,0,0,[],noR)) rfl (List.append_nil _)
    dsimp only [aftL,lsz,lss,lna,lca,List.append_nil]
    refine gx_o rfl (fun L2 => ?_) ?_
    ·dsimp only [maskL,lca,lna]
     refine ox_y rfl (y_loadRN (A:=Ab) (j:=(Int.toNat s6.1 * 2)) [.int .i64 ((rdL p0.fC s6.1).fID),.slice ((rdL ys0_1 s6.1).1.1) ((rdL p0.fC s6.1).fO.length) ((rdL ys0_1 s6.1).1.2.2)] ag_90 (Nat.succ_pos _) (RdL.arg hr0_1) rfl (gets_eq (TClaim_cells2_eq (NestP.snd hN0_1.p s6.1) (NestP.len hN0_1.p hg14.1 (lt_nat hg14.2 rfl))).symm (encL_gets TClaim_cells2_len hg14.1 (lt_nat hg14.2 (NestP.hn hN0_1.p rfl))))) (oN ?_)
     exact ex_capG (fun _ => (none,0,0,[],noR)) rfl (List.append_nil _)
    dsimp only [aftL,lsz,lss,lna,lca,List.append_nil]
    refine gx_o rfl (fun L2 => ?_) ?_
    ·dsimp only [maskL,lca,lna]
     refine ox_buildSliceE 1 (encL TClaim_cells2 [(((rdL ys0_1 s6.1).1.1,(rdL p0.fC s6.1).fO.length,(rdL ys0_1 s6.1).1.2.2),(TC.mk ((rdL p0.fC s6.1).fID) ((rdL p0.fC s6.1).fO)))]) _ mc_90_1 us_23 ze_90 by_90 (by decide) (by decide) (by kernel_rfl) (encL_len TClaim_cells2_len rfl) rfl (fun b15 => ?_)
     refine oN ?_
     exact ex_capG (fun _ => (none,b15,0,[],noR)) rfl rfl
    dsimp only [aftL,lsz,lss,lna,lca,List.append_nil]
    refine gx_o rfl (fun L2 => ?_) ?_
    ·dsimp only [maskL,lca,lna]
     refine ox_append0 5 us_23 ze_90 by_90 rfl rfl rfl (RdL.row 8 rfl) (encL_len TClaim_cells2_len (NestP.hn (NestP.cons (sel:=(fun z : TC => z.fO)) rfl NestP.nil) rfl)) (encL_one TClaim_cells2_one _) (app_room hg18 (by decide)) rfl (fun A16 c17 => ?_)
     refine oN ?_
     exact ex_capG (fun _ => (A16,0,c17,[],noR)) rfl (List.append_nil _)
    dsimp only [aftL,lsz,lss,lna,lca,List.append_nil]
    refine gx_o rfl (fun L2 => ?_) ?_
    ·dsimp only [maskL,lca,lna]
     refine ox_y rfl (yFA fo_25_1 rfl) (oN ?_)
     exact ex_capG (fun _ => (none,0,0,[],noR)) rfl (List.append_nil _)
    dsimp only [aftL,lsz,lss,lna,lca,List.append_nil]
    refine gx_n rfl (fun L2 => ?_) ?_
    ·dsimp only [maskL,lca,lna]
     refine ox_n rfl (y_store1 2 (v:=.slice (ξ13 8 0).1 (s6.2.length + 1) (ξ13 8 0).2.2.1) sz_23 rfl (Nat.lt_of_lt_of_le (Nat.lt_succ_self _) (nB rfl)) rfl rfl rfl) (oN ?_)
     exact ex_capGn (fun _ => (none,0,0,[],noR)) (List.append_nil _)
    dsimp only [aftL,lsz,lss,lna,lca,List.append_nil]
    refine gx_nil (ex_block ?_)
    refine eT (cR ?_)
    try dsimp only [lna,lca,lsz,lss]
    refine ox_y rfl (yMI rfl) (ox_y rfl (y_add rfl rfl) (ox_y rfl (yAI rfl) (oN (ex_take 8 ?_))))
    obtain rfl:=sI h
    exact ex_next ⟨_,(ξ13 8 0).1,(ξ13 8 0).2.2.1,(s6.2.length + 1),(ys5_s6 ++ [(((rdL ys0_1 s6.1).1.1,(rdL p0.fC s6.1).fO.length,(rdL ys0_1 s6.1).1.2.2),(TC.mk ((rdL p0.fC s6.1).fID) ((rdL p0.fC s6.1).fO)))]),F5_s6,(hn_app rfl rfl),(NestP.app hP5_s6 (NestP.cons (sel:=(fun z : TC => z.fO)) rfl NestP.nil)),(PvL.app hV5_s6 (PvL.mono (Hb:=Hb) (PvL.cons (PvL.get hp0_1 hN0_1.p hg14.1 (lt_nat hg14.2 rfl)) PvL.nil) (fun _ _ h => h.1))),rfl,(kp4 (kp (kp rfl)))⟩
   ·refine cx_false (vB hp12) (cx_skip (ex_block ?_))
    refine eT (cR ?_)
    refine ox_y rfl (yMI rfl) (ox_y rfl (y_add rfl rfl) (ox_y rfl (yAI rfl) (oN ?_)))
    obtain rfl:=sI h
    exact ex_next ⟨_,A5_s6,c5_s6,s6.2.length,ys5_s6,F5_s6,rfl,hP5_s6,hV5_s6,rfl,(kp4 (kp (kp rfl)))⟩
  ·refine cx_false (vB hp8) (cx_exit (ex_then_exit ?_))
   obtain rfl:=sI h
   exact ex_stop ⟨rfl,_,A5_s6,c5_s6,s6.2.length,ys5_s6,F5_s6,rfl,hP5_s6,hV5_s6,rfl,(kp4 (kp (kp rfl)))⟩
 ·intro e L tm hJ
  obtain ⟨rfl,tm0_u7,A5_u7,c5_u7,n5_u7,ys5_u7,F5_u7,rfl,hP5_u7,hV5_u7,rfl,rfl⟩:=hJ
  refine ⟨(by intro hc; cases hc),?_⟩
  refine ex_block_here ?_
  refine eT (cS (cR ?_))
  try dsimp only [lna,lca,lsz,lss]
  refine ox_y rfl (y_loadN 2 [.slice Aa p0.fNo.length ca,.slice A5_u7 u7.2.length c5_u7] ag_25 rfl rfl rfl) (ox_n rfl (y_storeN 1 [.slice Aa p0.fNo.length ca,.slice A5_u7 u7.2.length c5_u7] sz_25 rfl (nB rfl) rfl rfl rfl) ?_)
  refine oN (eT (cx_ret ?_))
  obtain rfl:=sI h
  exact ex_res1 (.inl rfl) rfl (resV_cellN 1 [.slice Aa p0.fNo.length ca,.slice A5_u7 u7.2.length c5_u7] ag_25 rfl rfl rfl) (fun W2 hW2 => ⟨((A5_u7,u7.2.length,c5_u7),ys5_u7,F5_u7),⟨rfl,hP5_u7,hV5_u7⟩,rfl,hW2.pickL [5,7] (by decide) rfl⟩)
end Go.Proofs.YtbblpokfbmekfaaGreat
