import Derived.Test.YtbblpokfbmekfaaGreatF
import Derived.Test.YtbblpokfbmekfaaGreatC0
import Derived.Test.YtbblpokfbmekfaaGreatC1
import Derived.Test.YtbblpokfbmekfaaGreatC2
import Derived.Test.YtbblpokfbmekfaaGreatC4
import Derived.Test.YtbblpokfbmekfaaGreatGv
import Derived.Test.YtbblpokfbmekfaaGreatG3
set_option maxHeartbeats 4000000
set_option maxRecDepth 100000
set_option linter.unusedVariables false
namespace Go.Proofs.YtbblpokfbmekfaaGreat
open Go.RowKit (Below)
attribute [local irreducible] OX QX CX EX OpY Calls CallsIn
theorem recall_isCase_ok (p0:TL) (p1:(List Int)) (res:Bool) (h:recall_isCase p0 p1 = some res) (W:World) (Aa:Option Addr) (n0_0 ca : Nat) (hn0_0:n0_0 = p0.fNo.length) (hr0_0:Rd W Aa n0_0 ca (encL TNode_cells p0.fNo)) (Ab:Option Addr) (n0_1 cb : Nat) (ys0_1:List (Hd × TC)) (hn0_1:n0_1 = p0.fC.length) (hr0_1:Rd W Ab n0_1 cb (encL TClaim_cells2 ys0_1)) (hN0_1:NestW W (fun z : TC => z.fO) THop_cells ys0_1 p0.fC) (Ac:Option Addr) (n1_0 cc : Nat) (hn1_0:n1_0 = p1.length) (hr1_0:Rd W Ac n1_0 cc (encL cI p1)) :
  Calls Tryz.prog 100 [.agg #[.slice Aa n0_0 ca,.slice Ab n0_1 cb],.slice Ac n1_0 cc].toArray W fun e W2 => e = .returned (.bool res) ∧ Ext W W2 []:=by
 subst hn0_0
 subst hn0_1
 subst hn1_0
 unfold recall_isCase at h
 refine calls_enter (m:=32) Tryz.func100 rfl rfl (nB rfl) ?_
 refine cS (cR ?_)
 refine ox_box [.slice Aa p0.fNo.length ca,.slice Ab p0.fC.length cb] rfl rfl rfl (fun b1 => ?_)
 refine ox_y rfl (y_assign_bool rfl) ?_
 refine oN (eT (cS (cS (cR ?_))))
 refine ox_y rfl (yMS rfl) (ox_y rfl (y_len (us:=[]) us_26 rfl) (ox_y rfl (yFA fo_25_1 rfl) (ox_y rfl (y_load1 0 (v:=.slice Ab p0.fC.length cb) sc_23 rfl rfl rfl) (ox_y rfl (y_len (us:=[]) us_23 rfl) (ox_y rfl (y_neq rfl rfl) ?_)))))
 refine oN (eT ?_)
 rcases iOs h with ⟨hp2,h⟩ | ⟨hp2,h⟩
 ·refine cx_true (vB hp2) ?_
  refine cS (cR ?_)
  refine ox_y rfl (y_assign_bool rfl) ?_
  refine oN (eT (cx_ret (ex_then_ret ?_)))
  obtain rfl:=sI h
  exact ex_res1 (.inl rfl) rfl (rVt (v:=.bool false) rfl) (fun W2 hW2 => ⟨rfl,hW2.none⟩)
 ·refine cx_false (vB hp2) ?_
  refine cx_skip (eT (cS (cS (cR ?_))))
  refine ox_y rfl (yMS rfl) (ox_y rfl (y_len (us:=[]) us_26 rfl) (ox_y rfl (yMI rfl) ?_))
  refine oN (eT (cx_block ?_))
  obtain ⟨u5,hl12,h⟩:=bOs h
  refine cx_loop (fun (s:(Bool × Int)) L tm => ∃ (tm0:Nat → Value),L = [cellsR b1 25 [.slice Aa p0.fNo.length ca,.slice Ab p0.fC.length cb]] ∧ tm = (upd (upd (upd (upd (upd (upd (upd (upd tm0 0 (.agg #[.slice Aa p0.fNo.length ca,.slice Ab p0.fC.length cb])) 1 (.slice Ac p1.length cc)) 2 (.pointer (some ⟨b1,0,none⟩))) 4 (.bool s.1)) 12 (.bool ((p1.length:Int) != (p0.fC.length:Int)))) 13 (.slice Ac p1.length cc)) 14 (.int .i64 (p1.length:Int))) 15 (.int .i64 s.2))) (fun | (.inl s),e,L,tm => e = .ret ∧ ∃ (tm0:Nat → Value),L = [cellsR b1 25 [.slice Aa p0.fNo.length ca,.slice Ab p0.fC.length cb]] ∧ tm = (upd (upd (upd (upd (upd (upd (upd (upd tm0 0 (.agg #[.slice Aa p0.fNo.length ca,.slice Ab p0.fC.length cb])) 1 (.slice Ac p1.length cc)) 2 (.pointer (some ⟨b1,0,none⟩))) 4 (.bool s.1)) 12 (.bool ((p1.length:Int) != (p0.fC.length:Int)))) 13 (.slice Ac p1.length cc)) 14 (.int .i64 (p1.length:Int))) 15 (.int .i64 s.2)) | (.inr s),e,L,tm => e = .exit 0 ∧ ∃ (tm0:Nat → Value),L = [cellsR b1 25 [.slice Aa p0.fNo.length ca,.slice Ab p0.fC.length cb]] ∧ tm = (upd (upd (upd (upd (upd (upd (upd (upd tm0 0 (.agg #[.slice Aa p0.fNo.length ca,.slice Ab p0.fC.length cb])) 1 (.slice Ac p1.length cc)) 2 (.pointer (some ⟨b1,0,none⟩))) 4 (.bool s.1)) 12 (.bool ((p1.length:Int) != (p0.fC.length:Int)))) 13 (.slice Ac p1.length cc)) 14 (.int .i64 (p1.length:Int))) 15 (.int .i64 s.2))) hl12 ⟨_,rfl,(kp4 (kp4 rfl))⟩ ?_ ?_
  ·rintro s4 L tm st ⟨tm0_s4,rfl,rfl⟩ h
   unfold recall_isCase_l1 at h
   refine cS (cR ?_)
   refine ox_y rfl (y_lss rfl rfl) ?_
   refine oN (eT (cS ?_))
   rcases iOs h with ⟨hp6,h⟩ | ⟨hp6,h⟩
   ·refine cx_true (vB hp6) ?_
    refine cx_skip (eT (cS (cx_block (cS (cR ?_)))))
    refine ox_y rfl (yMI rfl) ?_
    obtain ⟨hg7,h⟩:=gOs h
    refine ox_y rfl (y_indexR sl_26 (by decide) hg7.1 hg7.2 (RdL.arg hr1_0) (encL_len cI_len rfl) rfl rfl) ?_
    refine ox_y rfl (y_loadR1 (A:=Ac) (j:=(Int.toNat s4.2 * 1)) (v:=.int .i64 (rdL p1 s4.2)) sc_3 (RdL.arg hr1_0) rfl (encL_get0 cI_len hg7.1 (lt_nat hg7.2 rfl) rfl)) (ox_y rfl (yAI rfl) (ox_y rfl (yAI rfl) ?_))
    refine oN (eT (cS (cR ?_)))
    refine ox_y rfl (yMI rfl) (ox_y rfl (yFA fo_25_1 rfl) (ox_y rfl (y_load1 0 (v:=.slice Ab p0.fC.length cb) sc_23 rfl rfl rfl) (ox_y rfl (yMI rfl) ?_)))
    obtain ⟨hg8,h⟩:=gOs h
    refine ox_y rfl (y_indexR sl_23 (by decide) hg8.1 hg8.2 (RdL.arg hr0_1) (encL_len TClaim_cells2_len (NestP.hn hN0_1.p rfl)) rfl rfl) ?_
    refine ox_y rfl (y_fieldAddrR (A:=Ab) (j:=(Int.toNat s4.2 * 2)) fo_90_1 rfl) (ox_y rfl (y_loadR1 (A:=Ab) (j:=((Int.toNat s4.2 * 2) + 1)) (v:=.slice ((rdL ys0_1 s4.2).1.1) ((rdL p0.fC s4.2).fO.length) ((rdL ys0_1 s4.2).1.2.2)) sc_88 (RdL.arg hr0_1) rfl (encL_get TClaim_cells2_len hg8.1 (lt_nat hg8.2 (NestP.hn hN0_1.p rfl)) (congrArg (fun n : Nat => some (Value.slice (rdL ys0_1 s4.2).1.1 n (rdL ys0_1 s4.2).1.2.2)) (NestP.len hN0_1.p hg8.1 (lt_nat hg8.2 rfl))))) (ox_y rfl (y_len (us:=[]) us_88 rfl) (ox_y rfl (y_sub rfl rfl) ?_)))
    obtain ⟨y9,hy10,h⟩:=bOs h
    refine ox_y rfl (y_call [.int .i64 (rdL p1 s4.2),.int .i64 0,.int .i64 (w64 ((((rdL p0.fC s4.2).fO.length : Nat) : Int) - 1))] go_117 rfl (fun W2 hW2 => recall_within_ok (rdL p1 s4.2) 0 (w64 ((((rdL p0.fC s4.2).fO.length : Nat) : Int) - 1)) y9 hy10 W2 ) rfl) (ox_y rfl (y_not rfl) ?_)
    refine oN (eT ?_)
    rcases iOs h with ⟨hp11,h⟩ | ⟨hp11,h⟩
    ·refine cx_true (vB hp11) ?_
     refine cS (cR ?_)
     refine ox_y rfl (y_assign_bool rfl) ?_
     refine oN (eT (cx_ret (ex_block_ret (ex_then_ret ?_))))
     obtain rfl:=sI h
     exact ex_stop ⟨rfl,_,rfl,(kp4 (kp4 rfl))⟩
    ·refine cx_false (vB hp11) (cx_skip (ex_block ?_))
     refine eT (cR ?_)
     refine ox_y rfl (y_add rfl rfl) (ox_y rfl (yMI rfl) (oN ?_))
     obtain rfl:=sI h
     exact ex_next ⟨_,rfl,(kp4 (kp4 rfl))⟩
   ·refine cx_false (vB hp6) (cx_exit (ex_then_exit ?_))
    obtain rfl:=sI h
    exact ex_stop ⟨rfl,_,rfl,(kp4 (kp4 rfl))⟩
  ·intro e L tm hJ
   rcases u5 with u13 | u14
   ·dsimp only at h hJ
    obtain ⟨rfl,tm0_u13,rfl,rfl⟩:=hJ
    refine ⟨(by intro hc; cases hc),?_⟩
    refine ex_block_ret (ex_then_ret ?_)
    obtain rfl:=sI h
    exact ex_res1 (.inl rfl) rfl (rVt (v:=.bool u13.1) rfl) (fun W2 hW2 => ⟨rfl,hW2.none⟩)
   ·dsimp only at h hJ
    obtain ⟨rfl,tm0_u14,rfl,rfl⟩:=hJ
    refine ⟨(by intro hc; cases hc),?_⟩
    refine ex_block_here ?_
    refine eT (cS (cR ?_))
    refine ox_y rfl (y_assign_bool rfl) ?_
    refine oN (eT (cx_ret ?_))
    obtain rfl:=sI h
    exact ex_res1 (.inl rfl) rfl (rVt (v:=.bool true) rfl) (fun W2 hW2 => ⟨rfl,hW2.none⟩)
end Go.Proofs.YtbblpokfbmekfaaGreat
set_option maxHeartbeats 4000000
set_option maxRecDepth 100000
namespace Go.Proofs.YtbblpokfbmekfaaGreat
open Go.RowKit (Below)
attribute [local irreducible] OX QX CX EX OpY Calls CallsIn
theorem recall_Reach_ok (p0:TL) (p1:(List Int)) (p2:(List Int)) (res:((List Int) × Int)) (h:recall_Reach p0 p1 p2 = some res) (W:World) (Aa:Option Addr) (n0_0 ca : Nat) (hn0_0:n0_0 = p0.fNo.length) (hr0_0:Rd W Aa n0_0 ca (encL TNode_cells p0.fNo)) (Ab:Option Addr) (n0_1 cb : Nat) (ys0_1:List (Hd × TC)) (hn0_1:n0_1 = p0.fC.length) (hr0_1:Rd W Ab n0_1 cb (encL TClaim_cells2 ys0_1)) (hN0_1:NestW W (fun z : TC => z.fO) THop_cells ys0_1 p0.fC) (Ac:Option Addr) (n1_0 cc : Nat) (hn1_0:n1_0 = p1.length) (hr1_0:Rd W Ac n1_0 cc (encL cI p1)) (A2_0:Option Addr) (n2_0 c2_0 : Nat) (hn2_0:n2_0 = p2.length) (hr2_0:Rd W A2_0 n2_0 c2_0 (encL cI p2)) :
  Calls Tryz.prog 32 [.agg #[.slice Aa n0_0 ca,.slice Ab n0_1 cb],.slice Ac n1_0 cc,.slice A2_0 n2_0 c2_0].toArray W fun e W2 => ∃ x : Option Addr × Nat × Nat,x.2.1 = res.1.length ∧ e = .returned (.tuple #[.slice x.1 x.2.1 x.2.2,.int .i64 res.2]) ∧ Ext W W2 [rowR x.1 x.2.2 3 1 x.2.1 (encL cI res.1)]:=by
 subst hn0_0
 subst hn0_1
 subst hn1_0
 subst hn2_0
 unfold recall_Reach at h
 refine calls_enter (m:=25) Tryz.func32 rfl rfl (nB rfl) ?_
 refine cS (cR ?_)
 refine ox_box [.slice Aa p0.fNo.length ca,.slice Ab p0.fC.length cb] rfl rfl rfl (fun b1 => ?_)
 refine ox_y rfl (yAS rfl) (ox_y rfl (yAI rfl) ?_)
 refine oN (eT (cS (cS (cR ?_))))
 refine ox_y rfl (y_loadN 0 [.slice Aa p0.fNo.length ca,.slice Ab p0.fC.length cb] ag_25 rfl rfl rfl) (ox_y rfl (yMS rfl) ?_)
 obtain ⟨y2,hy3,h⟩:=bOs h
 refine ox_y rfl (y_call [.agg #[.slice Aa p0.fNo.length ca,.slice Ab p0.fC.length cb],.slice Ac p1.length cc] go_70 rfl (fun W2 hW2 => recall_asked_ok p0 p1 y2 hy3 W2 Aa p0.fNo.length ca rfl ((RdL.arg hr0_0) W2 hW2) Ab p0.fC.length cb ys0_1 rfl ((RdL.arg hr0_1) W2 hW2) (NestL.at (NestL.arg hN0_1) W2 hW2) Ac p1.length cc rfl ((RdL.arg hr1_0) W2 hW2)) rfl) (ox_y rfl (yAI rfl) ?_)
 refine oN (eT (cS (cR ?_)))
 refine ox_y rfl (yMI rfl) (ox_y rfl (y_neq rfl rfl) ?_)
 refine oN (eT ?_)
 rcases iOs h with ⟨hp4,h⟩ | ⟨hp4,h⟩
 ·refine cx_true (vB hp4) ?_
  refine cS (cR ?_)
  refine ox_y rfl (yMI rfl) (ox_y rfl (yAS rfl) (ox_y rfl (yAI rfl) ?_))
  refine oN (eT (cx_ret (ex_then_ret ?_)))
  obtain rfl:=sI h
  exact ex_res2 (.inl rfl) rfl (rVt (v:=.slice none 0 0) rfl) (rVt (v:=.int .i64 y2) rfl) (fun W2 hW2 => ⟨(none,0,0),rfl,rfl,((hW2.nilrow 3 1).pick 1 rfl)⟩)
 ·refine cx_false (vB hp4) ?_
  refine cx_skip (eT (cS (cS (cR ?_))))
  refine ox_y rfl (y_loadN 0 [.slice Aa p0.fNo.length ca,.slice Ab p0.fC.length cb] ag_25 rfl rfl rfl) (ox_y rfl (yMS rfl) ?_)
  obtain ⟨y5,hy6,h⟩:=bOs h
  refine ox_y rfl (y_call [.agg #[.slice Aa p0.fNo.length ca,.slice Ab p0.fC.length cb],.slice A2_0 p2.length c2_0] go_100 rfl (fun W2 hW2 => recall_isCase_ok p0 p2 y5 hy6 W2 Aa p0.fNo.length ca rfl ((RdL.arg hr0_0) W2 hW2) Ab p0.fC.length cb ys0_1 rfl ((RdL.arg hr0_1) W2 hW2) (NestL.at (NestL.arg hN0_1) W2 hW2) A2_0 p2.length c2_0 rfl ((RdL.arg hr2_0) W2 hW2)) rfl) (ox_y rfl (y_not rfl) ?_)
  refine oN (eT ?_)
  rcases iOs h with ⟨hp7,h⟩ | ⟨hp7,h⟩
  ·refine cx_true (vB hp7) ?_
   refine cS (cR ?_)
   refine ox_y rfl (yAS rfl) (ox_y rfl (yAI rfl) ?_)
   refine oN (eT (cx_ret (ex_then_ret ?_)))
   obtain rfl:=sI h
   exact ex_res2 (.inl rfl) rfl (rVt (v:=.slice none 0 0) rfl) (rVt (v:=.int .i64 1) rfl) (fun W2 hW2 => ⟨(none,0,0),rfl,rfl,((hW2.nilrow 3 1).pick 1 rfl)⟩)
  ·refine cx_false (vB hp7) ?_
   refine cx_skip (eT (cS ?_))
   refine cx_draws 4 mixed (by kernel_rfl) (by kernel_rfl) ?_
   refine qx_y rfl (y_loadN 0 [.slice Aa p0.fNo.length ca,.slice Ab p0.fC.length cb] ag_25 rfl rfl rfl) (qx_y rfl (yMS rfl) (qx_y rfl (yMS rfl) ?_))
   obtain ⟨y8,hy9,h⟩:=bOs h
   refine qx_y rfl (y_call [.slice A2_0 p2.length c2_0] go_88 rfl (fun W2 hW2 => recall_inCase_ok p2 y8 hy9 W2 A2_0 p2.length c2_0 rfl ((RdL.arg hr2_0) W2 hW2)) rfl) (qx_nil ?_)
   obtain ⟨y12,hy13,h⟩:=bOs h
   refine ox_call1 [.agg #[.slice Aa p0.fNo.length ca,.slice Ab p0.fC.length cb],.slice Ac p1.length cc,.func (.func 132) #[.slice A2_0 p2.length c2_0] #[]] _ _ rfl go_87 rfl (fun W2 hW2 => recall_reach_ok p0 p1 (fun x10 x11 => recall_fixed_has p2 x10 x11) y12 hy13 W2 Aa p0.fNo.length ca rfl ((RdL.arg hr0_0) W2 hW2) Ab p0.fC.length cb ys0_1 rfl ((RdL.arg hr0_1) W2 hW2) (NestL.at (NestL.arg hN0_1) W2 hW2) Ac p1.length cc rfl ((RdL.arg hr1_0) W2 hW2) 132 [.slice A2_0 p2.length c2_0] [] go_132 (fun W3 hb x0 x1 y hxy => recall_fixed_has_ok p2 x0 x1  y hxy W3 A2_0 p2.length c2_0 rfl (((RdL.arg hr2_0) W2 hW2).later hb))) ?_
   rintro b14
   obtain ⟨y15,hy16,h⟩:=bOs h
   refine ox_call [.map (some b14)] _ _ _ rfl go_96 rfl (fun W2 hW2 => recall_listed_ok y12 y15 hy16 W2 b14 ((MpL.own 1 rfl) W2 hW2)) ?_
   rintro ⟨A17,n19,c18⟩ hn20
   replace hn20 : n19 = y15.length:=hn20; subst hn20
   refine ox_y rfl (yAS rfl) (ox_y rfl (yAI rfl) ?_)
   refine oN (eT (cx_ret ?_))
   obtain rfl:=sI h
   exact ex_res2 (.inl rfl) rfl (rVt (v:=.slice A17 y15.length c18) rfl) (rVt (v:=.int .i64 0) rfl) (fun W2 hW2 => ⟨(A17,y15.length,c18),rfl,rfl,(hW2.pick 2 rfl)⟩)
end Go.Proofs.YtbblpokfbmekfaaGreat
set_option maxHeartbeats 4000000
set_option maxRecDepth 100000
namespace Go.Proofs.YtbblpokfbmekfaaGreat
open Go.RowKit (Below)
attribute [local irreducible] OX QX CX EX OpY Calls CallsIn
theorem recall_isLinks_1_ok (p0:Int) (cap0:TL) (res:Bool) (h:recall_isLinks_1 p0 cap0 = some res) (W:World) (bc0:Nat) (A100_0:Option Addr) (n100_0 c100_0 : Nat) (hn100_0:n100_0 = cap0.fNo.length) (hr100_0:Rd W A100_0 n100_0 c100_0 (encL TNode_cells cap0.fNo)) (A100_1:Option Addr) (n100_1 c100_1 : Nat) (ys100_1:List (Hd × TC)) (hn100_1:n100_1 = cap0.fC.length) (hr100_1:Rd W A100_1 n100_1 c100_1 (encL TClaim_cells2 ys100_1)) (hN100_1:NestW W (fun z : TC => z.fO) THop_cells ys100_1 cap0.fC) (hcap0:Rd W (some ⟨bc0,0,none⟩) 1 1 [.slice A100_0 n100_0 c100_0,.slice A100_1 n100_1 c100_1]) :
  Calls Tryz.prog 136 [.int .i64 p0,.pointer (some ⟨bc0,0,none⟩)].toArray W fun e W2 => e = .returned (.bool res) ∧ Ext W W2 []:=by
 subst hn100_0
 subst hn100_1
 unfold recall_isLinks_1 at h
 refine calls_enter (m:=8) Tryz.func136 rfl rfl (nB rfl) ?_
 refine cS (cR ?_)
 refine ox_y rfl (y_assign_bool rfl) ?_
 refine oN (eT (cS (cR ?_)))
 refine ox_y rfl (y_loadRN (A:=(some ⟨bc0,0,none⟩)) (j:=0) [.slice A100_0 cap0.fNo.length c100_0,.slice A100_1 cap0.fC.length c100_1] ag_25 (Nat.succ_pos _) (RdL.arg hcap0) rfl (gets_all rfl)) (ox_y rfl (yMI rfl) ?_)
 obtain ⟨y1,hy2,h⟩:=bOs h
 refine ox_y rfl (y_call [.agg #[.slice A100_0 cap0.fNo.length c100_0,.slice A100_1 cap0.fC.length c100_1],.int .i64 p0] go_114 rfl (fun W2 hW2 => recall_linkOf_ok cap0 p0 y1 hy2 W2 A100_0 cap0.fNo.length c100_0 rfl ((RdL.arg hr100_0) W2 hW2) A100_1 cap0.fC.length c100_1 ys100_1 rfl ((RdL.arg hr100_1) W2 hW2) (NestL.at (NestL.arg hN100_1) W2 hW2)) rfl) (ox_y rfl (y_geq rfl rfl) (ox_y rfl (y_assign_bool rfl) ?_))
 refine oN (eT (cx_ret ?_))
 obtain rfl:=sI h
 exact ex_res1 (.inl rfl) rfl (rVt (v:=.bool (decide (0 ≤ y1))) rfl) (fun W2 hW2 => ⟨rfl,hW2.none⟩)
theorem recall_isLinks_ok (p0:TL) (p1:(List Int)) (res:Bool) (h:recall_isLinks p0 p1 = some res) (W:World) (Aa:Option Addr) (n0_0 ca : Nat) (hn0_0:n0_0 = p0.fNo.length) (hr0_0:Rd W Aa n0_0 ca (encL TNode_cells p0.fNo)) (Ab:Option Addr) (n0_1 cb : Nat) (ys0_1:List (Hd × TC)) (hn0_1:n0_1 = p0.fC.length) (hr0_1:Rd W Ab n0_1 cb (encL TClaim_cells2 ys0_1)) (hN0_1:NestW W (fun z : TC => z.fO) THop_cells ys0_1 p0.fC) (Ac:Option Addr) (n1_0 cc : Nat) (hn1_0:n1_0 = p1.length) (hr1_0:Rd W Ac n1_0 cc (encL cI p1)) :
  Calls Tryz.prog 98 [.agg #[.slice Aa n0_0 ca,.slice Ab n0_1 cb],.slice Ac n1_0 cc].toArray W fun e W2 => e = .returned (.bool res) ∧ Ext W W2 []:=by
 subst hn0_0
 subst hn0_1
 subst hn1_0
 unfold recall_isLinks at h
 refine calls_enter (m:=8) Tryz.func98 rfl rfl (nB rfl) ?_
 refine cS (cR ?_)
 refine ox_box [.slice Aa p0.fNo.length ca,.slice Ab p0.fC.length cb] rfl rfl rfl (fun b1 => ?_)
 refine ox_y rfl (y_assign_bool rfl) ?_
 refine oN (eT (cS (cR ?_)))
 refine ox_y rfl (yMS rfl) (ox_y rfl (y_makeFunc [.pointer (some ⟨b1,0,none⟩)] rfl rfl) ?_)
 obtain ⟨y4,hy5,h⟩:=bOs h
 refine ox_y rfl (y_call [.slice Ac p1.length cc,.func (.func 135) #[] #[],.func (.func 136) #[] #[.pointer (some ⟨b1,0,none⟩)]] go_134 rfl (fun W2 hW2 => recall_increasing_int_ok p1 (fun x2 => recall_own x2) (fun x3 => recall_isLinks_1 x3 p0) y4 hy5 W2 Ac p1.length cc rfl ((RdL.arg hr1_0) W2 hW2) 135 [] [] go_135 (fun W3 hb x y hxy => recall_own_ok  x  y hxy W3 ) 136 [] [.pointer (some ⟨b1,0,none⟩)] go_136 (fun W3 hb x y hxy => recall_isLinks_1_ok  x p0 y hxy W3 b1 Aa p0.fNo.length ca rfl (((RdL.arg hr0_0) W2 hW2).later hb) Ab p0.fC.length cb ys0_1 rfl (((RdL.arg hr0_1) W2 hW2).later hb) ((NestL.at (NestL.arg hN0_1) W2 hW2).later hb) (((RdL.cells 0 rfl) W2 hW2).later hb))) rfl) (ox_y rfl (y_assign_bool rfl) ?_)
 refine oN (eT (cx_ret ?_))
 obtain rfl:=sI h
 exact ex_res1 (.inl rfl) rfl (rVt (v:=.bool y4) rfl) (fun W2 hW2 => ⟨rfl,hW2.none⟩)
theorem recall_CheckCut_ok (p0:TL) (p1:(List Int)) (p2:Int) (p3:(List Int)) (res:Int) (h:recall_CheckCut p0 p1 p2 p3 = some res) (W:World) (Aa:Option Addr) (n0_0 ca : Nat) (hn0_0:n0_0 = p0.fNo.length) (hr0_0:Rd W Aa n0_0 ca (encL TNode_cells p0.fNo)) (Ab:Option Addr) (n0_1 cb : Nat) (ys0_1:List (Hd × TC)) (hn0_1:n0_1 = p0.fC.length) (hr0_1:Rd W Ab n0_1 cb (encL TClaim_cells2 ys0_1)) (hN0_1:NestW W (fun z : TC => z.fO) THop_cells ys0_1 p0.fC) (Ac:Option Addr) (n1_0 cc : Nat) (hn1_0:n1_0 = p1.length) (hr1_0:Rd W Ac n1_0 cc (encL cI p1)) (A3_0:Option Addr) (n3_0 c3_0 : Nat) (hn3_0:n3_0 = p3.length) (hr3_0:Rd W A3_0 n3_0 c3_0 (encL cI p3)) :
  Calls Tryz.prog 30 [.agg #[.slice Aa n0_0 ca,.slice Ab n0_1 cb],.slice Ac n1_0 cc,.int .i64 p2,.slice A3_0 n3_0 c3_0].toArray W fun e W2 => e = .returned (.int .i64 res) ∧ Ext W W2 []:=by
 subst hn0_0
 subst hn0_1
 subst hn1_0
 subst hn3_0
 unfold recall_CheckCut at h
 refine calls_enter (m:=40) Tryz.func30 rfl rfl (nB rfl) ?_
 refine cS (cR ?_)
 refine ox_box [.slice Aa p0.fNo.length ca,.slice Ab p0.fC.length cb] rfl rfl rfl (fun b1 => ?_)
 refine ox_y rfl (yAI rfl) ?_
 refine oN (eT (cS (cS (cR ?_))))
 refine ox_y rfl (y_loadN 0 [.slice Aa p0.fNo.length ca,.slice Ab p0.fC.length cb] ag_25 rfl rfl rfl) (ox_y rfl (yMS rfl) (ox_y rfl (yMI rfl) ?_))
 obtain ⟨y2,hy3,h⟩:=bOs h
 refine ox_y rfl (y_call [.agg #[.slice Aa p0.fNo.length ca,.slice Ab p0.fC.length cb],.slice Ac p1.length cc,.int .i64 p2] go_74 rfl (fun W2 hW2 => recall_askedTo_ok p0 p1 p2 y2 hy3 W2 Aa p0.fNo.length ca rfl ((RdL.arg hr0_0) W2 hW2) Ab p0.fC.length cb ys0_1 rfl ((RdL.arg hr0_1) W2 hW2) (NestL.at (NestL.arg hN0_1) W2 hW2) Ac p1.length cc rfl ((RdL.arg hr1_0) W2 hW2)) rfl) (ox_y rfl (yAI rfl) ?_)
 refine oN (eT (cS (cR ?_)))
 refine ox_y rfl (yMI rfl) (ox_y rfl (y_neq rfl rfl) ?_)
 refine oN (eT ?_)
 rcases iOs h with ⟨hp4,h⟩ | ⟨hp4,h⟩
 ·refine cx_true (vB hp4) ?_
  refine cS (cR ?_)
  refine ox_y rfl (yMI rfl) (ox_y rfl (yAI rfl) ?_)
  refine oN (eT (cx_ret (ex_then_ret ?_)))
  obtain rfl:=sI h
  exact ex_res1 (.inl rfl) rfl (rVt (v:=.int .i64 y2) rfl) (fun W2 hW2 => ⟨rfl,hW2.none⟩)
 ·refine cx_false (vB hp4) ?_
  refine cx_skip (eT (cS (cS (cR ?_))))
  refine ox_y rfl (y_loadN 0 [.slice Aa p0.fNo.length ca,.slice Ab p0.fC.length cb] ag_25 rfl rfl rfl) (ox_y rfl (yMS rfl) ?_)
  obtain ⟨y5,hy6,h⟩:=bOs h
  refine ox_y rfl (y_call [.agg #[.slice Aa p0.fNo.length ca,.slice Ab p0.fC.length cb],.slice A3_0 p3.length c3_0] go_98 rfl (fun W2 hW2 => recall_isLinks_ok p0 p3 y5 hy6 W2 Aa p0.fNo.length ca rfl ((RdL.arg hr0_0) W2 hW2) Ab p0.fC.length cb ys0_1 rfl ((RdL.arg hr0_1) W2 hW2) (NestL.at (NestL.arg hN0_1) W2 hW2) A3_0 p3.length c3_0 rfl ((RdL.arg hr3_0) W2 hW2)) rfl) (ox_y rfl (y_not rfl) ?_)
  refine oN (eT ?_)
  rcases iOs h with ⟨hp7,h⟩ | ⟨hp7,h⟩
  ·refine cx_true (vB hp7) ?_
   refine cS (cR ?_)
   refine ox_y rfl (yAI rfl) ?_
   refine oN (eT (cx_ret (ex_then_ret ?_)))
   obtain rfl:=sI h
   exact ex_res1 (.inl rfl) rfl (rVt (v:=.int .i64 1) rfl) (fun W2 hW2 => ⟨rfl,hW2.none⟩)
  ·refine cx_false (vB hp7) ?_
   refine cx_skip (eT (cS (cR ?_)))
   refine ox_makeMapV 3 kI rngB kB false rfl (fun b8 => ?_)
   refine ox_y rfl (y_assign_map rfl) ?_
   refine oN (eT (cS (cS (cR ?_))))
   refine ox_y rfl (yMS rfl) (ox_y rfl (y_len (us:=[]) us_26 rfl) (ox_y rfl (yMI rfl) ?_))
   refine oN (eT (cx_block ?_))
   obtain ⟨u12,hl16,h⟩:=bOs h
   refine cx_loop (fun (s:(Int × (List (Int × Bool)))) L tm => ∃ (tm0:Nat → Value),L = [cellsR b1 25 [.slice Aa p0.fNo.length ca,.slice Ab p0.fC.length cb],mapV Tryz.prog 3 kI rngB kB false b8 s.2] ∧ tm = (upd (upd (upd (upd (upd (upd (upd (upd (upd (upd (upd (upd (upd tm0 0 (.agg #[.slice Aa p0.fNo.length ca,.slice Ab p0.fC.length cb])) 1 (.slice Ac p1.length cc)) 2 (.int .i64 p2)) 3 (.slice A3_0 p3.length c3_0)) 4 (.pointer (some ⟨b1,0,none⟩))) 8 (.int .i64 0)) 9 (.int .i64 y2)) 18 (.bool (y2 != 0))) 23 (.bool (!y5))) 10 (.map (some b8))) 25 (.slice A3_0 p3.length c3_0)) 26 (.int .i64 (p3.length:Int))) 27 (.int .i64 s.1))) (fun s e L tm => e = .exit 0 ∧ ∃ (tm0:Nat → Value),L = [cellsR b1 25 [.slice Aa p0.fNo.length ca,.slice Ab p0.fC.length cb],mapV Tryz.prog 3 kI rngB kB false b8 s.2] ∧ tm = (upd (upd (upd (upd (upd (upd (upd (upd (upd (upd (upd (upd (upd tm0 0 (.agg #[.slice Aa p0.fNo.length ca,.slice Ab p0.fC.length cb])) 1 (.slice Ac p1.length cc)) 2 (.int .i64 p2)) 3 (.slice A3_0 p3.length c3_0)) 4 (.pointer (some ⟨b1,0,none⟩))) 8 (.int .i64 0)) 9 (.int .i64 y2)) 18 (.bool (y2 != 0))) 23 (.bool (!y5))) 10 (.map (some b8))) 25 (.slice A3_0 p3.length c3_0)) 26 (.int .i64 (p3.length:Int))) 27 (.int .i64 s.1))) hl16 ⟨_,rfl,(kp4 (kp4 (kp4 (kp rfl))))⟩ ?_ ?_
   ·rintro s11 L tm st ⟨tm0_s11,rfl,rfl⟩ h
    unfold recall_CheckCut_l1 at h
    refine cS (cR ?_)
    refine ox_y rfl (y_lss rfl rfl) ?_
    refine oN (eT (cS ?_))
    rcases iOs h with ⟨hp13,h⟩ | ⟨hp13,h⟩
    ·refine cx_true (vB hp13) ?_
     refine cx_skip (eT (cS (cx_block (cS (cR ?_)))))
     obtain ⟨hg14,h⟩:=gOs h
     refine ox_y rfl (y_indexR sl_26 (by decide) hg14.1 hg14.2 (RdL.arg hr3_0) (encL_len cI_len rfl) rfl rfl) ?_
     refine ox_y rfl (y_loadR1 (A:=A3_0) (j:=(Int.toNat s11.1 * 1)) (v:=.int .i64 (rdL p3 s11.1)) sc_3 (RdL.arg hr3_0) rfl (encL_get0 cI_len hg14.1 (lt_nat hg14.2 rfl) rfl)) (ox_y rfl (yAI rfl) ?_)
     refine oN (eT (cR ?_))
     refine ox_y rfl (y_move_map rfl) (ox_y rfl (yMI rfl) ?_)
     obtain ⟨hg15,h⟩:=gOs h
     refine ox_n rfl (y_updateV 1 (k:=(rdL p3 s11.1)) (v:=true) rfl ke_3 um_94 rfl rfl rfl hg15) (oN (ex_block ?_))
     refine eT (cR ?_)
     refine ox_y rfl (y_add rfl rfl) (ox_y rfl (yMI rfl) (oN ?_))
     obtain rfl:=sI h
     exact ex_next ⟨_,rfl,(kp4 (kp4 (kp4 (kp rfl))))⟩
    ·refine cx_false (vB hp13) (cx_exit (ex_then_exit ?_))
     obtain rfl:=sI h
     exact ex_stop ⟨rfl,_,rfl,(kp4 (kp4 (kp4 (kp rfl))))⟩
   ·intro e L tm hJ
    obtain ⟨rfl,tm0_u12,rfl,rfl⟩:=hJ
    refine ⟨(by intro hc; cases hc),?_⟩
    refine ex_block_here ?_
    refine eT (cS (cS (cR ?_)))
    refine ox_y rfl (y_loadN 0 [.slice Aa p0.fNo.length ca,.slice Ab p0.fC.length cb] ag_25 rfl rfl rfl) (ox_y rfl (yMS rfl) (ox_y rfl (yMI rfl) (ox_y rfl (y_move_map rfl) ?_)))
    obtain ⟨y17,hy18,h⟩:=bOs h
    refine ox_y rfl (y_call [.agg #[.slice Aa p0.fNo.length ca,.slice Ab p0.fC.length cb],.slice Ac p1.length cc,.int .i64 p2,.map (some b8)] go_97 rfl (fun W2 hW2 => recall_isCut_ok p0 p1 p2 u12.2 y17 hy18 W2 Aa p0.fNo.length ca rfl ((RdL.arg hr0_0) W2 hW2) Ab p0.fC.length cb ys0_1 rfl ((RdL.arg hr0_1) W2 hW2) (NestL.at (NestL.arg hN0_1) W2 hW2) Ac p1.length cc rfl ((RdL.arg hr1_0) W2 hW2) b8 ((MpL.own 1 rfl) W2 hW2)) rfl) (ox_y rfl (y_not rfl) ?_)
    refine oN (eT ?_)
    rcases iOs h with ⟨hp19,h⟩ | ⟨hp19,h⟩
    ·refine cx_true (vB hp19) ?_
     refine cS (cR ?_)
     refine ox_y rfl (yAI rfl) ?_
     refine oN (eT (cx_ret (ex_then_ret ?_)))
     obtain rfl:=sI h
     exact ex_res1 (.inl rfl) rfl (rVt (v:=.int .i64 8) rfl) (fun W2 hW2 => ⟨rfl,hW2.none⟩)
    ·refine cx_false (vB hp19) ?_
     refine cx_skip (eT (cS (cR ?_)))
     refine ox_y rfl (yAI rfl) ?_
     refine oN (eT (cx_ret ?_))
     obtain rfl:=sI h
     exact ex_res1 (.inl rfl) rfl (rVt (v:=.int .i64 0) rfl) (fun W2 hW2 => ⟨rfl,hW2.none⟩)
end Go.Proofs.YtbblpokfbmekfaaGreat
set_option maxHeartbeats 4000000
set_option maxRecDepth 100000
namespace Go.Proofs.YtbblpokfbmekfaaGreat
open Go.RowKit (Below)
attribute [local irreducible] OX QX CX EX OpY Calls CallsIn
theorem slices_Clone_int_int_ok (p0:(List Int)) (res:(List Int)) (h:slices_Clone_int_int p0 = some res) (W:World) (Aa:Option Addr) (n0_0 ca : Nat) (hn0_0:n0_0 = p0.length) (hr0_0:Rd W Aa n0_0 ca (encL cI p0)) :
  Calls Tryz.prog 138 [.slice Aa n0_0 ca].toArray W fun e W2 => ∃ x : Option Addr × Nat × Nat,x.2.1 = res.length ∧ e = .returned (.slice x.1 x.2.1 x.2.2) ∧ Ext W W2 [rowR x.1 x.2.2 3 1 x.2.1 (encL cI res)]:=by
 subst hn0_0
 unfold slices_Clone_int_int at h
 refine calls_enter (m:=8) Tryz.func138 rfl rfl (nB rfl) ?_
 refine cS (cR ?_)
 refine ox_y rfl (yAS rfl) ?_
 refine oN (eT (cS (cS (cR ?_))))
 refine ox_y rfl (yMS rfl) (ox_y rfl (y_eqnil us_26 rfl rfl) ?_)
 refine oN (eT ?_)
 rcases bool_cases (Option.isNone Aa) with hp1 | hp1
 ·refine cx_true (vB hp1) ?_
  have z6:=rd_none (Option.isNone_iff_eq_none.1 hp1 ▸ hr0_0) cI_len (by decide)
  replace h:=(gOs h).2
  rw [z6] at h
  refine cS (cR ?_)
  refine ox_y rfl (yAS rfl) ?_
  refine oN (eT (cx_ret (ex_then_ret ?_)))
  obtain rfl:=sI h
  exact ex_res1 (.inl rfl) rfl (rVt (v:=.slice none 0 0) rfl) (fun W2 hW2 => ⟨(none,0,0),rfl,rfl,((hW2.nilrow 3 1).pick 0 rfl)⟩)
 ·refine cx_false (vB hp1) ?_
  refine cx_skip (eT (cS (cR ?_)))
  refine ox_buildSlice0 cI us_26 ze_3 by_3 rfl (fun b2 => ?_)
  refine ox_y rfl (yMS rfl) ?_
  obtain ⟨hg5,h⟩:=gOs h
  refine ox_append0 0 us_26 ze_3 by_3 rfl rfl rfl (RdL.arg hr0_0) (encL_len cI_len rfl) (encL_one cI_one _) (app_room hg5 (by decide)) rfl (fun A3 c4 => ?_)
  refine ox_y rfl (yAS rfl) ?_
  refine oN (eT (cx_ret ?_))
  obtain rfl:=sI h
  exact ex_res1 (.inl rfl) rfl (rVt (v:=.slice A3 (0 + p0.length) c4) rfl) (fun W2 hW2 => ⟨(A3,(0 + p0.length),c4),(hn_app rfl rfl),rfl,(hW2.pick 0 rfl)⟩)
theorem recall_find_ok (p0:TL) (p1:(List Int)) (p2:Int) (p3:Bool) (res:((List Int) × Bool)) (h:recall_find p0 p1 p2 p3 = some res) (W:World) (Aa:Option Addr) (n0_0 ca : Nat) (hn0_0:n0_0 = p0.fNo.length) (hr0_0:Rd W Aa n0_0 ca (encL TNode_cells p0.fNo)) (Ab:Option Addr) (n0_1 cb : Nat) (ys0_1:List (Hd × TC)) (hn0_1:n0_1 = p0.fC.length) (hr0_1:Rd W Ab n0_1 cb (encL TClaim_cells2 ys0_1)) (hN0_1:NestW W (fun z : TC => z.fO) THop_cells ys0_1 p0.fC) (Ac:Option Addr) (n1_0 cc : Nat) (hn1_0:n1_0 = p1.length) (hr1_0:Rd W Ac n1_0 cc (encL cI p1)) :
  Calls Tryz.prog 103 [.agg #[.slice Aa n0_0 ca,.slice Ab n0_1 cb],.slice Ac n1_0 cc,.int .i64 p2,.bool p3].toArray W fun e W2 => ∃ x : Option Addr × Nat × Nat,x.2.1 = res.1.length ∧ e = .returned (.tuple #[.slice x.1 x.2.1 x.2.2,.bool res.2]) ∧ Ext W W2 [rowR x.1 x.2.2 3 1 x.2.1 (encL cI res.1)]:=by
 subst hn0_0
 subst hn0_1
 subst hn1_0
 unfold recall_find at h
 refine calls_enterM (m:=29) Tryz.func103 rfl rfl (nB rfl) ?_
 refine cS (cR ?_)
 refine ox_box [.slice Aa p0.fNo.length ca,.slice Ab p0.fC.length cb] rfl rfl rfl (fun b1 => ?_)
 refine ox_box [.slice Ac p1.length cc] rfl rfl rfl (fun b2 => ?_)
 refine ox_box [.int .i64 p2] rfl rfl rfl (fun b3 => ?_)
 refine ox_box [.bool p3] rfl rfl rfl (fun b4 => ?_)
 refine ox_y rfl (yAS rfl) (ox_y rfl (y_assign_bool rfl) ?_)
 refine oN (eT ?_)
 refine cx_scope ?_
 refine cS (cR ?_)
 refine ox_alloc ze_26 rfl (fun b5 => ?_)
 refine oN (eT (cS (cR ?_)))
 refine ox_alloc ze_4 rfl (fun b6 => ?_)
 try dsimp only [lna,lca,lsz,lss]
 refine ox_n rfl (y_store1 5 (v:=.bool false) sz_4 rfl (Nat.lt_of_lt_of_le (Nat.lt_succ_self _) (nB rfl)) rfl rfl rfl) ?_
 refine oN (eT (cS ?_))
 refine cx_label ?_
 refine eT (cS (cS (cR ?_)))
 refine ox_y rfl (y_loadN 0 [.slice Aa p0.fNo.length ca,.slice Ab p0.fC.length cb] ag_25 rfl rfl rfl) ?_
 obtain ⟨y7,hy8,h⟩:=bOs h
 refine ox_call1 [.agg #[.slice Aa p0.fNo.length ca,.slice Ab p0.fC.length cb]] _ _ rfl go_86 rfl (fun W2 hW2 => recall_cases_ok p0 y7 hy8 W2 Aa p0.fNo.length ca rfl ((RdL.arg hr0_0) W2 hW2) Ab p0.fC.length cb ys0_1 rfl ((RdL.arg hr0_1) W2 hW2) (NestL.at (NestL.arg hN0_1) W2 hW2)) ?_
 rintro b9
 try dsimp only [lna,lca,lsz,lss]
 refine oN (eT (cx_block ?_))
 refine cx_nilrow 3 1 ?_
 obtain ⟨hok40,h⟩:=gOs h
 obtain ⟨u22,hl39,h⟩:=bOs h
 refine cx_rangeC (caps:=[.pointer (some ⟨b9,0,none⟩)]) (fun (s:(Bool × (List Int))) L => ∃ (A7_s:Option Addr) (c7_s:Nat) (n7_s:Nat),n7_s = s.2.length ∧ L = [cellsR b1 25 [.slice Aa p0.fNo.length ca,.slice Ab p0.fC.length cb],cellsR b2 26 [.slice Ac p1.length cc],cellsR b3 3 [.int .i64 p2],cellsR b4 4 [.bool p3],cellsR b5 26 [.slice A7_s n7_s c7_s],cellsR b6 4 [.bool s.1],cellsR b9 25 [.slice Aa p0.fNo.length ca,.slice Ab p0.fC.length cb],rowR A7_s c7_s 3 1 n7_s (encL cI s.2)]) (fun (s:(Bool × (List Int))) e L => e = .exit 0 ∧ ∃ (A7_s:Option Addr) (c7_s:Nat) (n7_s:Nat),n7_s = s.2.length ∧ L = [cellsR b1 25 [.slice Aa p0.fNo.length ca,.slice Ab p0.fC.length cb],cellsR b2 26 [.slice Ac p1.length cc],cellsR b3 3 [.int .i64 p2],cellsR b4 4 [.bool p3],cellsR b5 26 [.slice A7_s n7_s c7_s],cellsR b6 4 [.bool s.1],cellsR b9 25 [.slice Aa p0.fNo.length ca,.slice Ab p0.fC.length cb],rowR A7_s c7_s 3 1 n7_s (encL cI s.2)]) hl39 rfl go_130 (recall_cases_1_seq p0 hok40 b9 Aa p0.fNo.length ca Ab p0.fC.length cb rfl ys0_1 hN0_1.p) (fun W2 s L hI hW2 => by obtain ⟨A7_s,c7_s,n7_s,rfl,rfl⟩:=hI; exact ⟨(RdL.cells 6 rfl) W2 hW2,(RdL.arg hr0_1) W2 hW2⟩) ⟨none,0,0,rfl,rfl⟩ (fun s e L hI => by obtain ⟨rfl,_⟩:=hI; exact .inr ⟨_,rfl⟩) ?_ ?_ ?_
 ·rintro D10 l11 rec12 A14 c15 s20 x21 L st hrec13 ⟨A7_s20,c7_s20,n7_s20,rfl,rfl⟩ h
  unfold recall_find_r1 at h
  refine cR ?_
  try dsimp only [lna,lca,lsz,lss]
  refine ox_y rfl (yAS rfl) (oN (ex_begin 9 rfl hrec13 ?_))
  refine cx_block (cS ?_)
  obtain ⟨y24,hy25,h⟩:=bOs h
  obtain ⟨y28,hy29,h⟩:=bOs h
  obtain ⟨hg31,h⟩:=gOs h
  refine cx_drawsG [[],[],[],[2],[0,1,2,3],[],[0,1,2,3,4,5],[],[0,1,2,3,4,5,6,7]] [(none,0,[true,true,true,true,true,true,true,true,true,true,true]),(none,0,[true,true,true,true,true,true,true,true,true,true,true]),(none,0,[true,true,true,true,true,true,true,true,true,true,true]),(none,0,[true,true,true,true,true,true,true,true,true,true,true]),(none,1,[true,true,true,true,true,true,true,true,true,true,true]),(none,0,[true,true,true,true,true,true,true,true,true,true,true,false]),(none,0,[true,true,true,true,true,true,true,true,true,true,true,true]),(none,0,[true,true,true,true,true,true,true,true,true,true,true,false]),(none,0,[true,true,true,true,true,true,true,true,true,true,true,true])] [⟨fun _ => .agg #[.slice Aa p0.fNo.length ca,.slice Ab p0.fC.length cb],fun _ => noR,fun _ => []⟩,⟨fun _ => .slice Ac p1.length cc,fun _ => noR,fun _ => []⟩,⟨fun _ => .slice A14 x21.length c15,fun _ => noR,fun _ => []⟩,⟨fun _ => .func (.func 132) #[.slice A14 x21.length c15] #[],fun _ => noR,fun _ => []⟩,⟨fun ξ23 => .map (some (ξ23 4 0).2.1),fun _ => noR,fun ξ23 => [mapV Tryz.prog 3 kI rngB kB false (ξ23 4 0).2.1 y28]⟩,⟨fun _ => .int .i64 p2,fun _ => noR,fun _ => []⟩,⟨fun _ => .bool (mgetV false y28 p2),fun _ => noR,fun _ => []⟩,⟨fun _ => .bool p3,fun _ => noR,fun _ => []⟩,⟨fun _ => .bool ((mgetV false y28 p2) == p3),fun _ => noR,fun _ => []⟩] 11 mixed (by kernel_rfl) (by kernel_rfl) ⟨⟨fun ξ23 ξ23' h => ⟨rfl,rfl,rfl⟩,fun _ => rfl⟩,⟨fun ξ23 ξ23' h => ⟨rfl,rfl,rfl⟩,fun _ => rfl⟩,⟨fun ξ23 ξ23' h => ⟨rfl,rfl,rfl⟩,fun _ => rfl⟩,⟨fun ξ23 ξ23' h => ⟨rfl,rfl,rfl⟩,fun _ => rfl⟩,⟨fun ξ23 ξ23' h => ⟨by simp only [h 4 (.inl rfl)],rfl,by simp only [h 4 (.inl rfl)]⟩,fun _ => rfl⟩,⟨fun ξ23 ξ23' h => ⟨rfl,rfl,rfl⟩,fun _ => rfl⟩,⟨fun ξ23 ξ23' h => ⟨rfl,rfl,rfl⟩,fun _ => rfl⟩,⟨fun ξ23 ξ23' h => ⟨rfl,rfl,rfl⟩,fun _ => rfl⟩,⟨fun ξ23 ξ23' h => ⟨rfl,rfl,rfl⟩,fun _ => rfl⟩,trivial⟩ rfl (fun ξ23 => ?_)
  refine gx_o rfl (fun L2 => ?_) ?_
  ·dsimp only [maskL,lca,lna]
   refine ox_y rfl (y_loadN 0 [.slice Aa p0.fNo.length ca,.slice Ab p0.fC.length cb] ag_25 rfl rfl rfl) (oN ?_)
   exact ex_capG (fun _ => (none,0,0,[],noR)) rfl (List.append_nil _)
  dsimp only [aftL,lsz,lss,lna,lca,List.append_nil]
  refine gx_o rfl (fun L2 => ?_) ?_
  ·dsimp only [maskL,lca,lna]
   refine ox_y rfl (y_load1 1 (v:=.slice Ac p1.length cc) sc_26 rfl rfl rfl) (oN ?_)
   exact ex_capG (fun _ => (none,0,0,[],noR)) rfl (List.append_nil _)
  dsimp only [aftL,lsz,lss,lna,lca,List.append_nil]
  refine gx_o rfl (fun L2 => ?_) ?_
  ·dsimp only [maskL,lca,lna]
   refine ox_y rfl (yMS rfl) (oN ?_)
   exact ex_capG (fun _ => (none,0,0,[],noR)) rfl (List.append_nil _)
  dsimp only [aftL,lsz,lss,lna,lca,List.append_nil]
  refine gx_o rfl (fun L2 => ?_) ?_
  ·dsimp only [maskL,lca,lna]
   refine ox_y rfl (y_call [.slice A14 x21.length c15] go_88 rfl (fun W2 hW2 => recall_inCase_ok x21 y24 hy25 W2 A14 x21.length c15 rfl ((RdL.row 10 rfl) W2 hW2)) rfl) (oN ?_)
   exact ex_capG (fun _ => (none,0,0,[],noR)) rfl (List.append_nil _)
  dsimp only [aftL,lsz,lss,lna,lca,List.append_nil]
  refine gx_o rfl (fun L2 => ?_) ?_
  ·dsimp only [maskL,lca,lna]
   refine ox_call1 [.agg #[.slice Aa p0.fNo.length ca,.slice Ab p0.fC.length cb],.slice Ac p1.length cc,.func (.func 132) #[.slice A14 x21.length c15] #[]] _ _ rfl go_87 rfl (fun W2 hW2 => recall_reach_ok p0 p1 (fun x26 x27 => recall_fixed_has x21 x26 x27) y28 hy29 W2 Aa p0.fNo.length ca rfl ((RdL.arg hr0_0) W2 hW2) Ab p0.fC.length cb ys0_1 rfl ((RdL.arg hr0_1) W2 hW2) (NestL.at (NestL.arg hN0_1) W2 hW2) Ac p1.length cc rfl ((RdL.arg hr1_0) W2 hW2) 132 [.slice A14 x21.length c15] [] go_132 (fun W3 hb x0 x1 y hxy => recall_fixed_has_ok x21 x0 x1  y hxy W3 A14 x21.length c15 rfl (((RdL.row 10 rfl) W2 hW2).later hb))) ?_
   rintro b30
   refine oN ?_
   exact ex_capG (fun _ => (none,b30,0,[],noR)) rfl rfl
  dsimp only [aftL,lsz,lss,lna,lca,List.append_nil]
  refine gx_o rfl (fun L2 => ?_) ?_
  ·dsimp only [maskL,lca,lna]
   refine ox_y rfl (y_load1 2 (v:=.int .i64 p2) sc_3 rfl rfl rfl) (oN ?_)
   exact ex_capG (fun _ => (none,0,0,[],noR)) rfl (List.append_nil _)
  dsimp only [aftL,lsz,lss,lna,lca,List.append_nil]
  refine gx_o rfl (fun L2 => ?_) ?_
  ·dsimp only [maskL,lca,lna]
   refine ox_y rfl (y_lookupV (k:=p2) (MpL.own 11 rfl) ke_3 um_94 ze_4 rfl rfl hg31) (oN ?_)
   exact ex_capG (fun _ => (none,0,0,[],noR)) rfl (List.append_nil _)
  dsimp only [aftL,lsz,lss,lna,lca,List.append_nil]
  refine gx_o rfl (fun L2 => ?_) ?_
  ·dsimp only [maskL,lca,lna]
   refine ox_y rfl (y_load1 3 (v:=.bool p3) sc_4 rfl rfl rfl) (oN ?_)
   exact ex_capG (fun _ => (none,0,0,[],noR)) rfl (List.append_nil _)
  dsimp only [aftL,lsz,lss,lna,lca,List.append_nil]
  refine gx_o rfl (fun L2 => ?_) ?_
  ·dsimp only [maskL,lca,lna]
   refine ox_y rfl (y_eqlb ub_4 rfl rfl) (oN ?_)
   exact ex_capG (fun _ => (none,0,0,[],noR)) rfl (List.append_nil _)
  dsimp only [aftL,lsz,lss,lna,lca,List.append_nil]
  refine gx_nil (eT ?_)
  rcases iOs h with ⟨hp32,h⟩ | ⟨hp32,h⟩
  ·refine cx_true (vB hp32) ?_
   refine cS (cR ?_)
   try dsimp only [lna,lca,lsz,lss]
   refine ox_y rfl (yMS rfl) ?_
   obtain ⟨y33,hy34,h⟩:=bOs h
   refine ox_call [.slice A14 x21.length c15] _ _ _ rfl go_138 rfl (fun W2 hW2 => slices_Clone_int_int_ok x21 y33 hy34 W2 A14 x21.length c15 rfl ((RdL.row 10 rfl) W2 hW2)) ?_
   rintro ⟨A35,n37,c36⟩ hn38
   replace hn38 : n37 = y33.length:=hn38; subst hn38
   try dsimp only [lna,lca,lsz,lss]
   refine ox_n rfl (y_store1 4 (v:=.slice A35 y33.length c36) sz_26 rfl (Nat.lt_of_lt_of_le (Nat.lt_succ_self _) (nB rfl)) rfl rfl rfl) (ox_n rfl (y_store1 5 (v:=.bool true) sz_4 rfl (Nat.lt_of_lt_of_le (Nat.lt_succ_self _) (nB rfl)) rfl rfl rfl) ?_)
   refine oN (eT ?_)
   refine cx_exit (ex_block_past rfl ?_)
   refine ex_mv 7 12 (by decide) rfl ?_
   try dsimp only [lsz,lss]
   refine ex_take 11 ?_
   obtain rfl:=sI h
   exact ex_cstop [cellsR b1 25 [.slice Aa p0.fNo.length ca,.slice Ab p0.fC.length cb],cellsR b2 26 [.slice Ac p1.length cc],cellsR b3 3 [.int .i64 p2],cellsR b4 4 [.bool p3],cellsR b5 26 [.slice A35 y33.length c36],cellsR b6 4 [.bool true],cellsR b9 25 [.slice Aa p0.fNo.length ca,.slice Ab p0.fC.length cb],rowR A35 c36 3 1 y33.length (encL cI y33)] ⟨rfl,A35,c36,y33.length,rfl,rfl⟩
  ·refine cx_false (vB hp32) (cx_skip (ex_block (ex_take 11 ?_)))
   obtain rfl:=sI h
   exact ex_cnext [cellsR b1 25 [.slice Aa p0.fNo.length ca,.slice Ab p0.fC.length cb],cellsR b2 26 [.slice Ac p1.length cc],cellsR b3 3 [.int .i64 p2],cellsR b4 4 [.bool p3],cellsR b5 26 [.slice A7_s20 s20.2.length c7_s20],cellsR b6 4 [.bool s20.1],cellsR b9 25 [.slice Aa p0.fNo.length ca,.slice Ab p0.fC.length cb],rowR A7_s20 c7_s20 3 1 s20.2.length (encL cI s20.2)] ⟨A7_s20,c7_s20,s20.2.length,rfl,rfl⟩
 ·rintro D10 u41 L hst ⟨A7_u41,c7_u41,n7_u41,rfl,rfl⟩
  subst hst
  dsimp only at h
  refine ex_block ?_
  refine eT (cS ?_)
  refine cx_draws 4 mixed (by kernel_rfl) (by kernel_rfl) ?_
  try dsimp only [lna,lca,lsz,lss]
  refine qx_y rfl (y_load1 4 (v:=.slice A7_u41 u41.2.length c7_u41) sc_26 rfl rfl rfl) (qx_y rfl (y_load1 5 (v:=.bool u41.1) sc_4 rfl rfl rfl) (qx_y rfl (yAS rfl) (qx_y rfl (y_assign_bool rfl) (qx_nil ?_))))
  refine oN (eT (cx_ret ?_))
  refine ex_scope_ret (ex_M1 8 rfl (.inl rfl) ?_)
  obtain rfl:=sI h
  exact ex_res2 (.inl rfl) rfl (rVt (v:=.slice A7_u41 u41.2.length c7_u41) rfl) (rVt (v:=.bool u41.1) rfl) (fun W2 hW2 => ⟨(A7_u41,u41.2.length,c7_u41),rfl,rfl,(hW2.pick 7 rfl)⟩)
 ·rintro D10 u42 e L hst ⟨rfl,A7_u42,c7_u42,n7_u42,rfl,rfl⟩
  subst hst
  dsimp only at h
  refine ex_block_here ?_
  refine eT (cS ?_)
  refine cx_draws 4 mixed (by kernel_rfl) (by kernel_rfl) ?_
  try dsimp only [lna,lca,lsz,lss]
  refine qx_y rfl (y_load1 4 (v:=.slice A7_u42 u42.2.length c7_u42) sc_26 rfl rfl rfl) (qx_y rfl (y_load1 5 (v:=.bool u42.1) sc_4 rfl rfl rfl) (qx_y rfl (yAS rfl) (qx_y rfl (y_assign_bool rfl) (qx_nil ?_))))
  refine oN (eT (cx_ret ?_))
  refine ex_scope_ret (ex_M1 8 rfl (.inl rfl) ?_)
  obtain rfl:=sI h
  exact ex_res2 (.inl rfl) rfl (rVt (v:=.slice A7_u42 u42.2.length c7_u42) rfl) (rVt (v:=.bool u42.1) rfl) (fun W2 hW2 => ⟨(A7_u42,u42.2.length,c7_u42),rfl,rfl,(hW2.pick 7 rfl)⟩)
end Go.Proofs.YtbblpokfbmekfaaGreat
set_option maxHeartbeats 4000000
set_option maxRecDepth 100000
namespace Go.Proofs.YtbblpokfbmekfaaGreat
open Go.RowKit (Below)
attribute [local irreducible] OX QX CX EX OpY Calls CallsIn
theorem recall_walk_1_ok (p0:TC) (cap0:(List Int)) (cap1:TL) (cap2:Int) (cap3:(List (Int × Bool))) (res:Bool) (h:recall_walk_1 p0 cap0 cap1 cap2 cap3 = some res) (W:World) (Ab:Option Addr) (n0_1 cb : Nat) (hn0_1:n0_1 = p0.fO.length) (hr0_1:Rd W Ab n0_1 cb (encL THop_cells p0.fO)) (bc0:Nat) (A100_0:Option Addr) (n100_0 c100_0 : Nat) (hn100_0:n100_0 = cap0.length) (hr100_0:Rd W A100_0 n100_0 c100_0 (encL cI cap0)) (hcap0:Rd W (some ⟨bc0,0,none⟩) 1 1 [.slice A100_0 n100_0 c100_0]) (bc1:Nat) (A101_0:Option Addr) (n101_0 c101_0 : Nat) (hn101_0:n101_0 = cap1.fNo.length) (hr101_0:Rd W A101_0 n101_0 c101_0 (encL TNode_cells cap1.fNo)) (A101_1:Option Addr) (n101_1 c101_1 : Nat) (ys101_1:List (Hd × TC)) (hn101_1:n101_1 = cap1.fC.length) (hr101_1:Rd W A101_1 n101_1 c101_1 (encL TClaim_cells2 ys101_1)) (hN101_1:NestW W (fun z : TC => z.fO) THop_cells ys101_1 cap1.fC) (hcap1:Rd W (some ⟨bc1,0,none⟩) 1 1 [.slice A101_0 n101_0 c101_0,.slice A101_1 n101_1 c101_1]) (bc2:Nat) (hcap2:Rd W (some ⟨bc2,0,none⟩) 1 1 (cI cap2)) (bc3:Nat) (bm103_0:Nat) (hm103_0:(mapV Tryz.prog 3 kI rngB kB false bm103_0 cap3).holds W) (hcap3:Rd W (some ⟨bc3,0,none⟩) 1 1 [.map (some bm103_0)]) :
  Calls Tryz.prog 140 [.agg #[.int .i64 p0.fID,.slice Ab n0_1 cb],.pointer (some ⟨bc0,0,none⟩),.pointer (some ⟨bc1,0,none⟩),.pointer (some ⟨bc2,0,none⟩),.pointer (some ⟨bc3,0,none⟩)].toArray W fun e W2 => e = .returned (.bool res) ∧ Ext W W2 []:=by
 subst hn0_1
 subst hn100_0
 subst hn101_0
 subst hn101_1
 unfold recall_walk_1 at h
 refine calls_enter (m:=29) Tryz.func140 rfl rfl (nB rfl) ?_
 refine cS (cR ?_)
 refine ox_box [.int .i64 p0.fID,.slice Ab p0.fO.length cb] rfl rfl rfl (fun b1 => ?_)
 refine ox_y rfl (y_assign_bool rfl) ?_
 refine oN (eT (cS ?_))
 refine cx_drawsA 11 mixed (by kernel_rfl) (by kernel_rfl) (by kernel_rfl) ?_
 refine ax_y rfl (fun _ => yFA fo_90_1 rfl) (ax_y rfl (fun _ => y_load1 0 (v:=.slice Ab p0.fO.length cb) sc_88 rfl rfl rfl) (ax_y rfl (fun _ => y_loadR1 (A:=(some ⟨bc0,0,none⟩)) (j:=0) (v:=.slice A100_0 cap0.length c100_0) sc_26 (RdL.arg hcap0) rfl rfl) (ax_y rfl (fun _ => y_loadRN (A:=(some ⟨bc1,0,none⟩)) (j:=0) [.slice A101_0 cap1.fNo.length c101_0,.slice A101_1 cap1.fC.length c101_1] ag_25 (Nat.succ_pos _) (RdL.arg hcap1) rfl (gets_all rfl)) (ax_y rfl (fun _ => yFA fo_90_0 rfl) (ax_y rfl (fun _ => y_load1 0 (v:=.int .i64 p0.fID) sc_3 rfl rfl rfl) ?_)))))
 obtain ⟨y2,hy3,h⟩:=bOs h
 refine ax_y rfl (fun _ => y_call [.agg #[.slice A101_0 cap1.fNo.length c101_0,.slice A101_1 cap1.fC.length c101_1],.int .i64 p0.fID] go_114 rfl (fun W2 hW2 => recall_linkOf_ok cap1 p0.fID y2 hy3 W2 A101_0 cap1.fNo.length c101_0 rfl ((RdL.arg hr101_0) W2 hW2) A101_1 cap1.fC.length c101_1 ys101_1 rfl ((RdL.arg hr101_1) W2 hW2) (NestL.at (NestL.arg hN101_1) W2 hW2)) rfl) ?_
 obtain ⟨hg4,h⟩:=gOs h
 refine ax_y rfl (fun _ => y_indexR sl_26 (by decide) hg4.1 hg4.2 (RdL.arg hr100_0) (encL_len cI_len rfl) rfl rfl) ?_
 refine ax_y rfl (fun _ => y_loadR1 (A:=A100_0) (j:=(Int.toNat y2 * 1)) (v:=.int .i64 (rdL cap0 y2)) sc_3 (RdL.arg hr100_0) rfl (encL_get0 cI_len hg4.1 (lt_nat hg4.2 rfl) rfl)) ?_
 obtain ⟨hg5,h⟩:=gOs h
 refine ax_y rfl (fun _ => y_indexR sl_88 (by decide) hg5.1 hg5.2 (RdL.arg hr0_1) (encL_len THop_cells_len rfl) rfl rfl) ?_
 refine ax_y rfl (fun _ => y_loadRN (A:=Ab) (j:=(Int.toNat (rdL cap0 y2) * 2)) [.int .i64 ((rdL p0.fO (rdL cap0 y2)).fFrom),.int .i64 ((rdL p0.fO (rdL cap0 y2)).fTo)] ag_111 (Nat.succ_pos _) (RdL.arg hr0_1) rfl (encL_gets THop_cells_len hg5.1 (lt_nat hg5.2 rfl))) ?_
 refine ax_nil rfl ze_111 (fun b6 => ?_)
 refine ox_n rfl (y_storeN 1 [.int .i64 ((rdL p0.fO (rdL cap0 y2)).fFrom),.int .i64 ((rdL p0.fO (rdL cap0 y2)).fTo)] sz_111 rfl (nB rfl) rfl rfl rfl) (oN (ex_only ?_))
 refine eT (cS (cR ?_))
 refine ox_y rfl (yFA fo_111_1 rfl) (ox_y rfl (y_load1 1 (v:=.int .i64 ((rdL p0.fO (rdL cap0 y2)).fTo)) sc_3 rfl rfl rfl) (ox_y rfl (y_loadR1 (A:=(some ⟨bc2,0,none⟩)) (j:=0) (v:=.int .i64 cap2) sc_3 (RdL.arg hcap2) rfl rfl) (ox_y rfl (y_eql rfl rfl) (ox_y rfl (y_move_bool rfl) ?_))))
 obtain ⟨b8,hb9,h⟩:=bOs h
 refine ox_join 5 (fun tm0 => (upd (upd tm0 6 (.bool false)) 28 (.bool b8))) (fun tm0 => ?_) (fun key => ?_)
 ·refine ox_y rfl (y_assign_bool rfl) ?_
  refine oN (eT (cx_ret ?_))
  obtain rfl:=sI h
  exact ex_res1 (.inl rfl) rfl (rVt (v:=.bool b8) rfl) (fun W2 hW2 => ⟨rfl,hW2.none⟩)
 ·clear h; rcases iOs hb9 with ⟨hp7,h⟩ | ⟨hp7,h⟩
  ·refine ox_y (sT rfl rfl rfl rfl hp7) (y_loadR1 (A:=(some ⟨bc3,0,none⟩)) (j:=0) (v:=.map (some bm103_0)) sc_94 (RdL.arg hcap3) rfl rfl) (ox_y (sT rfl rfl rfl rfl hp7) (yFA fo_111_0 rfl) (ox_y (sT rfl rfl rfl rfl hp7) (y_load1 1 (v:=.int .i64 ((rdL p0.fO (rdL cap0 y2)).fFrom)) sc_3 rfl rfl rfl) ?_))
   obtain ⟨hg10,h⟩:=gOs h
   refine ox_y (sT rfl rfl rfl rfl hp7) (y_lookupV (k:=(rdL p0.fO (rdL cap0 y2)).fFrom) (MpL.arg hm103_0) ke_3 um_94 ze_4 rfl rfl hg10) (ox_y rfl (y_pick_tb (vB hp7) rfl) ?_)
   obtain rfl:=sI h
   exact key _ _ (kp (kp rfl))
  ·refine oSk (sF rfl rfl rfl rfl hp7) (oSk (sF rfl rfl rfl rfl hp7) (oSk (sF rfl rfl rfl rfl hp7) (oSk (sF rfl rfl rfl rfl hp7) (ox_y rfl (y_pick_fb (vB hp7) rfl) ?_))))
   obtain rfl:=sI h
   exact key _ _ (kp (kp rfl))
theorem slices_Reverse_int_int_ok (p0:(List Int)) (res:(List Int)) (h:slices_Reverse_int_int p0 = some res) (W:World) (w0:World) (R:Res) (Aa:Option Addr) (n0_0 ca : Nat) (hn0_0:n0_0 = p0.length) (hW:Ext w0 W [R,rowR Aa ca 3 1 n0_0 (encL cI p0)]) :
  Calls Tryz.prog 141 [.slice Aa n0_0 ca].toArray W fun e W2 => e = .returned (.tuple #[]) ∧ n0_0 = res.length ∧ Ext w0 W2 [R,rowR Aa ca 3 1 n0_0 (encL cI res)]:=by
 subst hn0_0
 unfold slices_Reverse_int_int at h
 refine calls_enterB (m:=28) Tryz.func141 rfl rfl (nB rfl) hW ?_
 refine cS (cR ?_)
 refine ox_y rfl (yMS rfl) (ox_y rfl (y_len (us:=[]) us_26 rfl) (ox_y rfl (y_sub rfl rfl) (ox_y rfl (yAI rfl) (ox_y rfl (yAI rfl) ?_))))
 refine oN (eT (cx_block ?_))
 obtain ⟨u4,hl10,h⟩:=bOs h
 refine cx_loop (fun (s:(Int × Int × (List Int))) L tm => ∃ (tm0:Nat → Value),p0.length = s.2.2.length ∧ L = [R,rowR Aa ca 3 1 p0.length (encL cI s.2.2)] ∧ tm = (upd (upd (upd tm0 0 (.slice Aa p0.length ca)) 2 (.int .i64 s.1)) 3 (.int .i64 s.2.1))) (fun s e L tm => e = .exit 0 ∧ ∃ (tm0:Nat → Value),p0.length = s.2.2.length ∧ L = [R,rowR Aa ca 3 1 p0.length (encL cI s.2.2)] ∧ tm = (upd (upd (upd tm0 0 (.slice Aa p0.length ca)) 2 (.int .i64 s.1)) 3 (.int .i64 s.2.1))) hl10 ⟨_,rfl,rfl,(kp (kp (kp rfl)))⟩ ?_ ?_
 ·rintro s3 L tm st ⟨tm0_s3,hn1_s3,rfl,rfl⟩ h
  unfold slices_Reverse_int_int_l1 at h
  refine cS (cS (cR ?_))
  refine ox_y rfl (yMI rfl) (ox_y rfl (yMI rfl) (ox_y rfl (y_lss rfl rfl) ?_))
  refine oN (eT ?_)
  rcases iOs h with ⟨hp5,h⟩ | ⟨hp5,h⟩
  ·refine cx_true (vB hp5) ?_
   refine cx_skip (eT (cS (cx_block ?_)))
   refine cx_drawsF [2,3] 13 mixed (by kernel_rfl) (by kernel_rfl) ?_
   refine qx_y rfl (yMS rfl) (qx_y rfl (yMI rfl) (qx_y rfl (yMS rfl) (qx_y rfl (yMI rfl) (qx_y rfl (yMS rfl) (qx_y rfl (yMI rfl) ?_)))))
   obtain ⟨hg6,h⟩:=gOs h
   refine qx_y rfl (y_indexR sl_26 (by decide) hg6.1 hg6.2 (RdL.row 1 rfl) (encL_len cI_len hn1_s3) rfl rfl) ?_
   refine qx_y rfl (y_loadR1 (A:=Aa) (j:=(Int.toNat s3.2.1 * 1)) (v:=.int .i64 (rdL s3.2.2 s3.2.1)) sc_3 (RdL.row 1 rfl) rfl (encL_get0 cI_len hg6.1 (lt_nat hg6.2 hn1_s3) rfl)) (qx_y rfl (yMS rfl) (qx_y rfl (yMI rfl) ?_))
   obtain ⟨hg7,h⟩:=gOs h
   refine qx_y rfl (y_indexR sl_26 (by decide) hg7.1 hg7.2 (RdL.row 1 rfl) (encL_len cI_len hn1_s3) rfl rfl) ?_
   refine qx_y rfl (y_loadR1 (A:=Aa) (j:=(Int.toNat s3.1 * 1)) (v:=.int .i64 (rdL s3.2.2 s3.1)) sc_3 (RdL.row 1 rfl) rfl (encL_get0 cI_len hg7.1 (lt_nat hg7.2 hn1_s3) rfl)) ?_
   obtain ⟨hg8,h⟩:=gOs h
   refine qx_y rfl (y_indexR sl_26 (by decide) hg8.1 hg8.2 (RdL.row 1 rfl) (encL_len cI_len hn1_s3) rfl rfl) ?_
   refine qx_nil (ox_n rfl (y_storeR1 1 (xs:=s3.2.2) cI_len (rdL s3.2.2 s3.2.1) sz_3 rfl hg8.1 (lt_nat hg8.2 hn1_s3) rfl rfl rfl rfl) ?_)
   obtain ⟨hg9,h⟩:=gOs h
   refine ox_y rfl (y_indexR sl_26 (by decide) hg9.1 hg9.2 (RdL.row 1 rfl) (encL_len cI_len (hn_set hn1_s3)) rfl rfl) ?_
   refine ox_n rfl (y_storeR1 1 (xs:=(s3.2.2.set (Int.toNat s3.1) (rdL s3.2.2 s3.2.1))) cI_len (rdL s3.2.2 s3.1) sz_3 rfl hg9.1 (lt_nat hg9.2 (hn_set hn1_s3)) rfl rfl rfl rfl) (oN (ex_only (ex_block ?_)))
   refine eT (cR ?_)
   refine ox_y rfl (yMI rfl) (ox_y rfl (y_add rfl rfl) (ox_y rfl (yMI rfl) (ox_y rfl (y_sub rfl rfl) (ox_y rfl (yAI rfl) (ox_y rfl (yAI rfl) (oN ?_))))))
   obtain rfl:=sI h
   exact ex_next ⟨_,(hn_set (hn_set hn1_s3)),rfl,(kp (kp (kp rfl)))⟩
  ·refine cx_false (vB hp5) (cx_exit (ex_then_exit ?_))
   obtain rfl:=sI h
   exact ex_stop ⟨rfl,_,hn1_s3,rfl,(kp (kp (kp rfl)))⟩
 ·intro e L tm hJ
  obtain ⟨rfl,tm0_u4,hn1_u4,rfl,rfl⟩:=hJ
  refine ⟨(by intro hc; cases hc),?_⟩
  refine ex_block_here ?_
  obtain rfl:=sI h
  exact ex_result0 (.inr rfl) rfl  (fun W2 hW2 => ⟨rfl,hn1_u4,hW2.take 2⟩)
theorem recall_walk_ok (p0:TL) (p1:(List Int)) (p2:Int) (p3:(List Int)) (res:(List Int)) (h:recall_walk p0 p1 p2 p3 = some res) (W:World) (Aa:Option Addr) (n0_0 ca : Nat) (hn0_0:n0_0 = p0.fNo.length) (hr0_0:Rd W Aa n0_0 ca (encL TNode_cells p0.fNo)) (Ab:Option Addr) (n0_1 cb : Nat) (ys0_1:List (Hd × TC)) (hn0_1:n0_1 = p0.fC.length) (hr0_1:Rd W Ab n0_1 cb (encL TClaim_cells2 ys0_1)) (hN0_1:NestW W (fun z : TC => z.fO) THop_cells ys0_1 p0.fC) (Ac:Option Addr) (n1_0 cc : Nat) (hn1_0:n1_0 = p1.length) (hr1_0:Rd W Ac n1_0 cc (encL cI p1)) (A3_0:Option Addr) (n3_0 c3_0 : Nat) (hn3_0:n3_0 = p3.length) (hr3_0:Rd W A3_0 n3_0 c3_0 (encL cI p3)) :
  Calls Tryz.prog 104 [.agg #[.slice Aa n0_0 ca,.slice Ab n0_1 cb],.slice Ac n1_0 cc,.int .i64 p2,.slice A3_0 n3_0 c3_0].toArray W fun e W2 => ∃ x : Option Addr × Nat × Nat,x.2.1 = res.length ∧ e = .returned (.slice x.1 x.2.1 x.2.2) ∧ Ext W W2 [rowR x.1 x.2.2 3 1 x.2.1 (encL cI res)]:=by
 subst hn0_0
 subst hn0_1
 subst hn1_0
 subst hn3_0
 unfold recall_walk at h
 refine calls_enter (m:=53) Tryz.func104 rfl rfl (nB rfl) ?_
 refine cS (cR ?_)
 refine ox_box [.slice Aa p0.fNo.length ca,.slice Ab p0.fC.length cb] rfl rfl rfl (fun b1 => ?_)
 refine ox_box [.slice A3_0 p3.length c3_0] rfl rfl rfl (fun b2 => ?_)
 refine ox_y rfl (yAS rfl) ?_
 refine oN (eT (cS ?_))
 obtain ⟨y4,hy5,h⟩:=bOs h
 obtain ⟨y8,hy9,h⟩:=bOs h
 refine cx_drawsG [[],[],[],[2],[0,1,2,3],[],[0,1,2,3,4,5]] [(none,0,[true,true]),(none,0,[true,true]),(none,0,[true,true]),(none,0,[true,true]),(none,1,[true,true]),(none,1,[true,true,false]),(some 3,0,[true,true,true,true])] [⟨fun _ => .agg #[.slice Aa p0.fNo.length ca,.slice Ab p0.fC.length cb],fun _ => noR,fun _ => []⟩,⟨fun _ => .slice Ac p1.length cc,fun _ => noR,fun _ => []⟩,⟨fun _ => .slice A3_0 p3.length c3_0,fun _ => noR,fun _ => []⟩,⟨fun _ => .func (.func 132) #[.slice A3_0 p3.length c3_0] #[],fun _ => noR,fun _ => []⟩,⟨fun ξ3 => .map (some (ξ3 4 0).2.1),fun _ => noR,fun ξ3 => [mapV Tryz.prog 3 kI rngB kB false (ξ3 4 0).2.1 y8]⟩,⟨fun ξ3 => .pointer (some ⟨(ξ3 5 0).2.1,0,none⟩),fun _ => noR,fun ξ3 => [cellsR (ξ3 5 0).2.1 94 [.map none]]⟩,⟨fun _ => undef,fun ξ3 => cellsR (ξ3 5 0).2.1 94 [.map (some (ξ3 4 0).2.1)],fun _ => []⟩] 2 mixed (by kernel_rfl) (by kernel_rfl) ⟨⟨fun ξ3 ξ3' h => ⟨rfl,rfl,rfl⟩,fun _ => rfl⟩,⟨fun ξ3 ξ3' h => ⟨rfl,rfl,rfl⟩,fun _ => rfl⟩,⟨fun ξ3 ξ3' h => ⟨rfl,rfl,rfl⟩,fun _ => rfl⟩,⟨fun ξ3 ξ3' h => ⟨rfl,rfl,rfl⟩,fun _ => rfl⟩,⟨fun ξ3 ξ3' h => ⟨by simp only [h 4 (.inl rfl)],rfl,by simp only [h 4 (.inl rfl)]⟩,fun _ => rfl⟩,⟨fun ξ3 ξ3' h => ⟨by simp only [h 5 (.inl rfl)],rfl,by simp only [h 5 (.inl rfl)]⟩,fun _ => rfl⟩,⟨fun ξ3 ξ3' h => ⟨rfl,by simp only [h 4 (.inr rfl),h 5 (.inr rfl)],rfl⟩,fun _ => rfl⟩,trivial⟩ rfl (fun ξ3 => ?_)
 refine gx_o rfl (fun L2 => ?_) ?_
 ·dsimp only [maskL,lca,lna]
  refine ox_y rfl (y_loadN 0 [.slice Aa p0.fNo.length ca,.slice Ab p0.fC.length cb] ag_25 rfl rfl rfl) (oN ?_)
  exact ex_capG (fun _ => (none,0,0,[],noR)) rfl (List.append_nil _)
 dsimp only [aftL,lsz,lss,lna,lca,List.append_nil]
 refine gx_o rfl (fun L2 => ?_) ?_
 ·dsimp only [maskL,lca,lna]
  refine ox_y rfl (yMS rfl) (oN ?_)
  exact ex_capG (fun _ => (none,0,0,[],noR)) rfl (List.append_nil _)
 dsimp only [aftL,lsz,lss,lna,lca,List.append_nil]
 refine gx_o rfl (fun L2 => ?_) ?_
 ·dsimp only [maskL,lca,lna]
  refine ox_y rfl (y_load1 1 (v:=.slice A3_0 p3.length c3_0) sc_26 rfl rfl rfl) (oN ?_)
  exact ex_capG (fun _ => (none,0,0,[],noR)) rfl (List.append_nil _)
 dsimp only [aftL,lsz,lss,lna,lca,List.append_nil]
 refine gx_o rfl (fun L2 => ?_) ?_
 ·dsimp only [maskL,lca,lna]
  refine ox_y rfl (y_call [.slice A3_0 p3.length c3_0] go_88 rfl (fun W2 hW2 => recall_inCase_ok p3 y4 hy5 W2 A3_0 p3.length c3_0 rfl ((RdL.arg hr3_0) W2 hW2)) rfl) (oN ?_)
  exact ex_capG (fun _ => (none,0,0,[],noR)) rfl (List.append_nil _)
 dsimp only [aftL,lsz,lss,lna,lca,List.append_nil]
 refine gx_o rfl (fun L2 => ?_) ?_
 ·dsimp only [maskL,lca,lna]
  refine ox_call1 [.agg #[.slice Aa p0.fNo.length ca,.slice Ab p0.fC.length cb],.slice Ac p1.length cc,.func (.func 132) #[.slice A3_0 p3.length c3_0] #[]] _ _ rfl go_87 rfl (fun W2 hW2 => recall_reach_ok p0 p1 (fun x6 x7 => recall_fixed_has p3 x6 x7) y8 hy9 W2 Aa p0.fNo.length ca rfl ((RdL.arg hr0_0) W2 hW2) Ab p0.fC.length cb ys0_1 rfl ((RdL.arg hr0_1) W2 hW2) (NestL.at (NestL.arg hN0_1) W2 hW2) Ac p1.length cc rfl ((RdL.arg hr1_0) W2 hW2) 132 [.slice A3_0 p3.length c3_0] [] go_132 (fun W3 hb x0 x1 y hxy => recall_fixed_has_ok p3 x0 x1  y hxy W3 A3_0 p3.length c3_0 rfl (((RdL.arg hr3_0) W2 hW2).later hb))) ?_
  rintro b10
  refine oN ?_
  exact ex_capG (fun _ => (none,b10,0,[],noR)) rfl rfl
 dsimp only [aftL,lsz,lss,lna,lca,List.append_nil]
 refine gx_o rfl (fun L2 => ?_) ?_
 ·dsimp only [maskL,lca,lna]
  refine ox_alloc ze_94 rfl (fun b11 => ?_)
  refine oN ?_
  exact ex_capG (fun _ => (none,b11,0,[],noR)) rfl rfl
 dsimp only [aftL,lsz,lss,lna,lca,List.append_nil]
 refine gx_n rfl (fun L2 => ?_) ?_
 ·dsimp only [maskL,lca,lna]
  refine ox_n rfl (y_store1 3 (v:=.map (some (ξ3 4 0).2.1)) sz_94 rfl (Nat.lt_of_lt_of_le (Nat.lt_succ_self _) (nB rfl)) rfl rfl rfl) (oN ?_)
  exact ex_capGn (fun _ => (none,0,0,[],noR)) (List.append_nil _)
 dsimp only [aftL,lsz,lss,lna,lca,List.append_nil]
 refine gx_nil ?_
 refine eT (cS (cR ?_))
 refine ox_y rfl (yAS rfl) ?_
 refine oN (eT (cS (cS (cR ?_))))
 refine ox_y rfl (yMI rfl) ?_
 refine ox_alloc ze_3 rfl (fun b12 => ?_)
 refine ox_n rfl (y_store1 4 (v:=.int .i64 p2) sz_3 rfl (Nat.lt_of_lt_of_le (Nat.lt_succ_self _) (nB rfl)) rfl rfl rfl) ?_
 refine oN (eT (cx_block ?_))
 obtain ⟨u16,hl32,h⟩:=bOs h
 refine cx_nilrow 3 1 ?_
 refine cx_loop (fun (s:(Int × (List Int))) L tm => ∃ (tm0:Nat → Value) (A5_s:Option Addr) (c5_s:Nat) (n5_s:Nat) (b4_s:Nat),n5_s = s.2.length ∧ L = [cellsR b1 25 [.slice Aa p0.fNo.length ca,.slice Ab p0.fC.length cb],cellsR b2 26 [.slice A3_0 p3.length c3_0],mapV Tryz.prog 3 kI rngB kB false (ξ3 4 0).2.1 y8,cellsR (ξ3 5 0).2.1 94 [.map (some (ξ3 4 0).2.1)],cellsR b4_s 3 [.int .i64 s.1],rowR A5_s c5_s 3 1 n5_s (encL cI s.2)] ∧ tm = (upd (upd (upd (upd (upd (upd (upd (upd (upd (upd tm0 0 (.agg #[.slice Aa p0.fNo.length ca,.slice Ab p0.fC.length cb])) 1 (.slice Ac p1.length cc)) 2 (.int .i64 p2)) 3 (.slice A3_0 p3.length c3_0)) 4 (.pointer (some ⟨b1,0,none⟩))) 7 (.pointer (some ⟨b2,0,none⟩))) 8 (.slice none 0 0)) 9 (.pointer (some ⟨(ξ3 5 0).2.1,0,none⟩))) 10 (.slice A5_s n5_s c5_s)) 11 (.pointer (some ⟨b4_s,0,none⟩)))) (fun s e L tm => e = .exit 0 ∧ ∃ (tm0:Nat → Value) (A5_s:Option Addr) (c5_s:Nat) (n5_s:Nat) (b4_s:Nat),n5_s = s.2.length ∧ L = [cellsR b1 25 [.slice Aa p0.fNo.length ca,.slice Ab p0.fC.length cb],cellsR b2 26 [.slice A3_0 p3.length c3_0],mapV Tryz.prog 3 kI rngB kB false (ξ3 4 0).2.1 y8,cellsR (ξ3 5 0).2.1 94 [.map (some (ξ3 4 0).2.1)],cellsR b4_s 3 [.int .i64 s.1],rowR A5_s c5_s 3 1 n5_s (encL cI s.2)] ∧ tm = (upd (upd (upd (upd (upd (upd (upd (upd (upd (upd tm0 0 (.agg #[.slice Aa p0.fNo.length ca,.slice Ab p0.fC.length cb])) 1 (.slice Ac p1.length cc)) 2 (.int .i64 p2)) 3 (.slice A3_0 p3.length c3_0)) 4 (.pointer (some ⟨b1,0,none⟩))) 7 (.pointer (some ⟨b2,0,none⟩))) 8 (.slice none 0 0)) 9 (.pointer (some ⟨(ξ3 5 0).2.1,0,none⟩))) 10 (.slice A5_s n5_s c5_s)) 11 (.pointer (some ⟨b4_s,0,none⟩)))) hl32 ⟨_,none,0,0,b12,rfl,rfl,(kp4 (kp4 (kp (kp rfl))))⟩ ?_ ?_
 ·rintro s15 L tm st ⟨tm0_s15,A5_s15,c5_s15,n5_s15,b4_s15,rfl,rfl,rfl⟩ h
  unfold recall_walk_l1 at h
  refine cS (cS (cR ?_))
  try dsimp only [lna,lca,lsz,lss]
  refine ox_y rfl (yMS rfl) (ox_y rfl (y_load1 4 (v:=.int .i64 s15.1) sc_3 rfl rfl rfl) ?_)
  obtain ⟨y17,hy18,h⟩:=bOs h
  refine ox_y rfl (y_call [.slice Ac p1.length cc,.int .i64 s15.1] go_80 rfl (fun W2 hW2 => slices_Contains_int_int_ok p1 s15.1 y17 hy18 W2 Ac p1.length cc rfl ((RdL.arg hr1_0) W2 hW2)) rfl) (ox_y rfl (y_not rfl) ?_)
  refine oN (eT ?_)
  rcases iOs h with ⟨hp19,h⟩ | ⟨hp19,h⟩
  ·refine cx_true (vB hp19) ?_
   refine cx_skip (eT (cS (cx_block (cS (cR ?_)))))
   refine ox_y rfl (yFA fo_25_1 rfl) (ox_y rfl (y_load1 0 (v:=.slice Ab p0.fC.length cb) sc_23 rfl rfl rfl) (ox_y rfl (y_makeFunc [.pointer (some ⟨b2,0,none⟩),.pointer (some ⟨b1,0,none⟩),.pointer (some ⟨b4_s15,0,none⟩),.pointer (some ⟨(ξ3 5 0).2.1,0,none⟩)] rfl rfl) ?_))
   obtain ⟨y21,hy22,h⟩:=bOs h
   refine ox_y rfl (y_call [.slice Ab p0.fC.length cb,.func (.func 140) #[] #[.pointer (some ⟨b2,0,none⟩),.pointer (some ⟨b1,0,none⟩),.pointer (some ⟨b4_s15,0,none⟩),.pointer (some ⟨(ξ3 5 0).2.1,0,none⟩)]] go_139 rfl (fun W2 hW2 => slices_IndexFunc_Claim_Claim_ok p0.fC (fun x20 => recall_walk_1 x20 p3 p0 s15.1 y8) y21 hy22 W2 Ab p0.fC.length cb ys0_1 rfl ((RdL.arg hr0_1) W2 hW2) (NestL.at (NestL.arg hN0_1) W2 hW2) 140 [] [.pointer (some ⟨b2,0,none⟩),.pointer (some ⟨b1,0,none⟩),.pointer (some ⟨b4_s15,0,none⟩),.pointer (some ⟨(ξ3 5 0).2.1,0,none⟩)] go_140 (fun W3 hb x hx rx y hxy => recall_walk_1_ok  x p3 p0 s15.1 y8 y hxy W3 hx.1 _ hx.2.2 rfl rx b2 A3_0 p3.length c3_0 rfl (((RdL.arg hr3_0) W2 hW2).later hb) (((RdL.cells 1 rfl) W2 hW2).later hb) b1 Aa p0.fNo.length ca rfl (((RdL.arg hr0_0) W2 hW2).later hb) Ab p0.fC.length cb ys0_1 rfl (((RdL.arg hr0_1) W2 hW2).later hb) ((NestL.at (NestL.arg hN0_1) W2 hW2).later hb) (((RdL.cells 0 rfl) W2 hW2).later hb) b4_s15 (((RdL.cells 4 rfl) W2 hW2).later hb) (ξ3 5 0).2.1 (ξ3 4 0).2.1 (mapV.later ((MpL.own 2 rfl) W2 hW2) hb) (((RdL.cells 3 rfl) W2 hW2).later hb))) rfl) (ox_y rfl (yAI rfl) ?_)
   refine oN (eT (cS (cR ?_)))
   refine ox_y rfl (yMS rfl) (ox_y rfl (yFA fo_25_1 rfl) (ox_y rfl (y_load1 0 (v:=.slice Ab p0.fC.length cb) sc_23 rfl rfl rfl) (ox_y rfl (yMI rfl) ?_)))
   obtain ⟨hg23,h⟩:=gOs h
   refine ox_y rfl (y_indexR sl_23 (by decide) hg23.1 hg23.2 (RdL.arg hr0_1) (encL_len TClaim_cells2_len (NestP.hn hN0_1.p rfl)) rfl rfl) ?_
   refine ox_y rfl (y_fieldAddrR (A:=Ab) (j:=(Int.toNat y21 * 2)) fo_90_0 rfl) (ox_y rfl (y_loadR1 (A:=Ab) (j:=((Int.toNat y21 * 2) + 0)) (v:=.int .i64 ((rdL p0.fC y21).fID)) sc_3 (RdL.arg hr0_1) rfl (encL_get TClaim_cells2_len hg23.1 (lt_nat hg23.2 (NestP.hn hN0_1.p rfl)) (congrArg (fun z : TC => some (Value.int .i64 z.fID)) (NestP.snd hN0_1.p y21)))) ?_)
   refine ox_buildSliceE 1 (encL cI [(rdL p0.fC y21).fID]) _ mc_3_1 us_26 ze_3 by_3 (by decide) (by decide) (by kernel_rfl) (encL_len cI_len rfl) rfl (fun b24 => ?_)
   try dsimp only [lna,lca,lsz,lss]
   obtain ⟨hg27,h⟩:=gOs h
   refine ox_append0 5 us_26 ze_3 by_3 rfl rfl rfl (RdL.row 6 rfl) (encL_len cI_len rfl) (encL_one cI_one _) (app_room hg27 (by decide)) rfl (fun A25 c26 => ?_)
   refine ox_y rfl (yAS rfl) ?_
   refine oN (eT ?_)
   refine cx_draws 13 mixed (by kernel_rfl) (by kernel_rfl) ?_
   refine qx_y rfl (yFA fo_25_1 rfl) (qx_y rfl (y_load1 0 (v:=.slice Ab p0.fC.length cb) sc_23 rfl rfl rfl) (qx_y rfl (yMI rfl) ?_))
   obtain ⟨hg28,h⟩:=gOs h
   refine qx_y rfl (y_indexR sl_23 (by decide) hg28.1 hg28.2 (RdL.arg hr0_1) (encL_len TClaim_cells2_len (NestP.hn hN0_1.p rfl)) rfl rfl) ?_
   refine qx_y rfl (y_fieldAddrR (A:=Ab) (j:=(Int.toNat y21 * 2)) fo_90_1 rfl) (qx_y rfl (y_loadR1 (A:=Ab) (j:=((Int.toNat y21 * 2) + 1)) (v:=.slice ((rdL ys0_1 y21).1.1) ((rdL p0.fC y21).fO.length) ((rdL ys0_1 y21).1.2.2)) sc_88 (RdL.arg hr0_1) rfl (encL_get TClaim_cells2_len hg28.1 (lt_nat hg28.2 (NestP.hn hN0_1.p rfl)) (congrArg (fun n : Nat => some (Value.slice (rdL ys0_1 y21).1.1 n (rdL ys0_1 y21).1.2.2)) (NestP.len hN0_1.p hg28.1 (lt_nat hg28.2 rfl))))) (qx_y rfl (y_load1 1 (v:=.slice A3_0 p3.length c3_0) sc_26 rfl rfl rfl) (qx_y rfl (yMI rfl) ?_)))
   obtain ⟨hg29,h⟩:=gOs h
   refine qx_y rfl (y_indexR sl_26 (by decide) hg29.1 hg29.2 (RdL.arg hr3_0) (encL_len cI_len rfl) rfl rfl) ?_
   refine qx_y rfl (y_loadR1 (A:=A3_0) (j:=(Int.toNat y21 * 1)) (v:=.int .i64 (rdL p3 y21)) sc_3 (RdL.arg hr3_0) rfl (encL_get0 cI_len hg29.1 (lt_nat hg29.2 rfl) rfl)) ?_
   obtain ⟨hg30,h⟩:=gOs h
   refine qx_y rfl (y_indexR sl_88 (by decide) hg30.1 hg30.2 (NestL.rd (NestL.arg hN0_1) hg28.1 (lt_nat hg28.2 rfl)) (encL_len THop_cells_len rfl) rfl rfl) ?_
   refine qx_y rfl (y_fieldAddrR (A:=((rdL ys0_1 y21).1.1)) (j:=(Int.toNat (rdL p3 y21) * 2)) fo_111_0 rfl) (qx_y rfl (y_loadR1 (A:=((rdL ys0_1 y21).1.1)) (j:=((Int.toNat (rdL p3 y21) * 2) + 0)) (v:=.int .i64 ((rdL ((rdL p0.fC y21).fO) (rdL p3 y21)).fFrom)) sc_3 (NestL.rd (NestL.arg hN0_1) hg28.1 (lt_nat hg28.2 rfl)) rfl (encL_get THop_cells_len hg30.1 (lt_nat hg30.2 rfl) rfl)) (qx_nil (ox_n rfl (y_store1 4 (v:=.int .i64 ((rdL ((rdL p0.fC y21).fO) (rdL p3 y21)).fFrom)) sz_3 rfl (Nat.lt_of_lt_of_le (Nat.lt_succ_self _) (nB rfl)) rfl rfl rfl) (oN (ex_block ?_)))))
   refine eT (cS (cR ?_))
   refine ox_y rfl (y_load1 4 (v:=.int .i64 ((rdL ((rdL p0.fC y21).fO) (rdL p3 y21)).fFrom)) sc_3 rfl rfl rfl) ?_
   refine oN (eT (cR ?_))
   refine ox_alloc ze_3 rfl (fun b31 => ?_)
   try dsimp only [lna,lca,lsz,lss]
   refine ox_n rfl (y_store1 7 (v:=.int .i64 ((rdL ((rdL p0.fC y21).fO) (rdL p3 y21)).fFrom)) sz_3 rfl (Nat.lt_of_lt_of_le (Nat.lt_succ_self _) (nB rfl)) rfl rfl rfl) (oN ?_)
   refine ex_mv 4 7 (by decide) rfl ?_
   try dsimp only [lsz,lss]
   refine ex_take 6 ?_
   obtain rfl:=sI h
   exact ex_next ⟨_,A25,c26,(s15.2.length + 1),b31,(hn_app rfl rfl),rfl,(kp4 (kp4 (kp (kp rfl))))⟩
  ·refine cx_false (vB hp19) (cx_exit (ex_then_exit ?_))
   obtain rfl:=sI h
   exact ex_stop ⟨rfl,_,A5_s15,c5_s15,s15.2.length,b4_s15,rfl,rfl,(kp4 (kp4 (kp (kp rfl))))⟩
 ·intro e L tm hJ
  obtain ⟨rfl,tm0_u16,A5_u16,c5_u16,n5_u16,b4_u16,rfl,rfl,rfl⟩:=hJ
  refine ⟨(by intro hc; cases hc),?_⟩
  refine ex_block_here ?_
  refine eT (cS (cR ?_))
  try dsimp only [lna,lca,lsz,lss]
  refine ox_y rfl (yMS rfl) ?_
  obtain ⟨y33,hy34,h⟩:=bOs h
  refine ox_callT 5 [.slice A5_u16 u16.2.length c5_u16] (fun (_:Unit) => u16.2.length = y33.length) (fun _ => .tuple #[]) (fun _ => rowR A5_u16 c5_u16 3 1 u16.2.length (encL cI y33)) (fun _ => []) rfl rfl go_141 rfl (fun W2 hW2 => (slices_Reverse_int_int_ok u16.2 y33 hy34 W2 _ (restR [cellsR b1 25 [.slice Aa p0.fNo.length ca,.slice Ab p0.fC.length cb],cellsR b2 26 [.slice A3_0 p3.length c3_0],mapV Tryz.prog 3 kI rngB kB false (ξ3 4 0).2.1 y8,cellsR (ξ3 5 0).2.1 94 [.map (some (ξ3 4 0).2.1)],cellsR b4_u16 3 [.int .i64 u16.1],rowR A5_u16 c5_u16 3 1 u16.2.length (encL cI u16.2)] [5]) A5_u16 u16.2.length c5_u16 rfl hW2).mono (fun e W3 h3 => ⟨(),h3.2.1,h3.1,h3.2.2⟩)) ?_
  rintro - hn35
  try dsimp only [lsz,lss,List.append_nil]
  refine oN (eT (cS (cR ?_)))
  refine ox_y rfl (yMS rfl) (ox_y rfl (yAS rfl) ?_)
  refine oN (eT (cx_ret ?_))
  obtain rfl:=sI h
  exact ex_res1 (.inl rfl) rfl (rVt (v:=.slice A5_u16 u16.2.length c5_u16) rfl) (fun W2 hW2 => ⟨(A5_u16,u16.2.length,c5_u16),hn35,rfl,(hW2.pick 5 rfl)⟩)
theorem recall_Way_ok (p0:TL) (p1:(List Int)) (p2:Int) (res:(TTrace × Int)) (h:recall_Way p0 p1 p2 = some res) (W:World) (Aa:Option Addr) (n0_0 ca : Nat) (hn0_0:n0_0 = p0.fNo.length) (hr0_0:Rd W Aa n0_0 ca (encL TNode_cells p0.fNo)) (Ab:Option Addr) (n0_1 cb : Nat) (ys0_1:List (Hd × TC)) (hn0_1:n0_1 = p0.fC.length) (hr0_1:Rd W Ab n0_1 cb (encL TClaim_cells2 ys0_1)) (hN0_1:NestW W (fun z : TC => z.fO) THop_cells ys0_1 p0.fC) (Ac:Option Addr) (n1_0 cc : Nat) (hn1_0:n1_0 = p1.length) (hr1_0:Rd W Ac n1_0 cc (encL cI p1)) :
  Calls Tryz.prog 42 [.agg #[.slice Aa n0_0 ca,.slice Ab n0_1 cb],.slice Ac n1_0 cc,.int .i64 p2].toArray W fun e W2 => ∃ x : ((Option Addr × Nat × Nat) × (Option Addr × Nat × Nat)),(x.1.2.1 = res.1.fCase.length ∧ x.2.2.1 = res.1.fC.length) ∧ e = .returned (.tuple #[.agg #[.slice x.1.1 x.1.2.1 x.1.2.2,.slice x.2.1 x.2.2.1 x.2.2.2],.int .i64 res.2]) ∧ Ext W W2 [rowR x.1.1 x.1.2.2 3 1 x.1.2.1 (encL cI res.1.fCase),rowR x.2.1 x.2.2.2 3 1 x.2.2.1 (encL cI res.1.fC)]:=by
 subst hn0_0
 subst hn0_1
 subst hn1_0
 unfold recall_Way at h
 refine calls_enter (m:=36) Tryz.func42 rfl rfl (nB rfl) ?_
 refine cS (cR ?_)
 refine ox_box [.slice Aa p0.fNo.length ca,.slice Ab p0.fC.length cb] rfl rfl rfl (fun b1 => ?_)
 refine ox_alloc ze_64 rfl (fun b2 => ?_)
 refine ox_y rfl (yAI rfl) ?_
 refine oN (eT (cS (cS (cR ?_))))
 refine ox_y rfl (y_loadN 0 [.slice Aa p0.fNo.length ca,.slice Ab p0.fC.length cb] ag_25 rfl rfl rfl) (ox_y rfl (yMS rfl) (ox_y rfl (yMI rfl) ?_))
 obtain ⟨y3,hy4,h⟩:=bOs h
 refine ox_y rfl (y_call [.agg #[.slice Aa p0.fNo.length ca,.slice Ab p0.fC.length cb],.slice Ac p1.length cc,.int .i64 p2] go_74 rfl (fun W2 hW2 => recall_askedTo_ok p0 p1 p2 y3 hy4 W2 Aa p0.fNo.length ca rfl ((RdL.arg hr0_0) W2 hW2) Ab p0.fC.length cb ys0_1 rfl ((RdL.arg hr0_1) W2 hW2) (NestL.at (NestL.arg hN0_1) W2 hW2) Ac p1.length cc rfl ((RdL.arg hr1_0) W2 hW2)) rfl) (ox_y rfl (yAI rfl) ?_)
 refine oN (eT (cS (cR ?_)))
 refine ox_y rfl (yMI rfl) (ox_y rfl (y_neq rfl rfl) ?_)
 refine oN (eT ?_)
 rcases iOs h with ⟨hp5,h⟩ | ⟨hp5,h⟩
 ·refine cx_true (vB hp5) ?_
  refine cS (cR ?_)
  refine ox_y rfl (y_buildS [.slice none 0 0,.slice none 0 0] [(0,1),(1,1)] ust_64 ze_64 (by kernel_rfl)) ?_
  refine ox_y rfl (yMI rfl) (ox_n rfl (y_storeN 1 [.slice none 0 0,.slice none 0 0] sz_64 rfl (nB rfl) rfl rfl rfl) (ox_y rfl (yAI rfl) ?_))
  refine oN (eT (cx_ret (ex_then_ret ?_)))
  obtain rfl:=sI h
  exact ex_res2 (.inl rfl) rfl (resV_cellN 1 [.slice none 0 0,.slice none 0 0] ag_64 rfl rfl rfl) (rVt (v:=.int .i64 y3) rfl) (fun W2 hW2 => ⟨((none,0,0),(none,0,0)),⟨rfl,rfl⟩,rfl,((hW2.nilrow 3 1).nilrow 3 1).pickL [2,3] (by decide) rfl⟩)
 ·refine cx_false (vB hp5) ?_
  refine cx_skip (eT (cS (cR ?_)))
  refine ox_y rfl (y_loadN 0 [.slice Aa p0.fNo.length ca,.slice Ab p0.fC.length cb] ag_25 rfl rfl rfl) (ox_y rfl (yMS rfl) (ox_y rfl (yMI rfl) ?_))
  obtain ⟨y6,hy7,h⟩:=bOs h
  refine ox_call [.agg #[.slice Aa p0.fNo.length ca,.slice Ab p0.fC.length cb],.slice Ac p1.length cc,.int .i64 p2,.bool true] _ _ _ rfl go_103 rfl (fun W2 hW2 => recall_find_ok p0 p1 p2 true y6 hy7 W2 Aa p0.fNo.length ca rfl ((RdL.arg hr0_0) W2 hW2) Ab p0.fC.length cb ys0_1 rfl ((RdL.arg hr0_1) W2 hW2) (NestL.at (NestL.arg hN0_1) W2 hW2) Ac p1.length cc rfl ((RdL.arg hr1_0) W2 hW2)) ?_
  rintro ⟨A8,n10,c9⟩ hn11
  replace hn11 : n10 = y6.1.length:=hn11; subst hn11
  refine ox_y rfl (y_move_tuple rfl) (ox_y rfl (y_extract (vs:=[.slice A8 y6.1.length c9,.bool y6.2]) (v:=.slice A8 y6.1.length c9) rfl rfl) (ox_y rfl (y_extract (vs:=[.slice A8 y6.1.length c9,.bool y6.2]) (v:=.bool y6.2) rfl rfl) (ox_y rfl (yAS rfl) (ox_y rfl (y_assign_bool rfl) ?_))))
  refine oN (eT (cS (cS (cR ?_))))
  refine ox_y rfl (y_move_bool rfl) (ox_y rfl (y_not rfl) ?_)
  refine oN (eT ?_)
  rcases iOs h with ⟨hp12,h⟩ | ⟨hp12,h⟩
  ·refine cx_true (vB hp12) ?_
   refine cS (cR ?_)
   refine ox_y rfl (y_buildS [.slice none 0 0,.slice none 0 0] [(0,1),(1,1)] ust_64 ze_64 (by kernel_rfl)) ?_
   refine ox_n rfl (y_storeN 1 [.slice none 0 0,.slice none 0 0] sz_64 rfl (nB rfl) rfl rfl rfl) (ox_y rfl (yAI rfl) ?_)
   refine oN (eT (cx_ret (ex_then_ret ?_)))
   obtain rfl:=sI h
   exact ex_res2 (.inl rfl) rfl (resV_cellN 1 [.slice none 0 0,.slice none 0 0] ag_64 rfl rfl rfl) (rVt (v:=.int .i64 5) rfl) (fun W2 hW2 => ⟨((none,0,0),(none,0,0)),⟨rfl,rfl⟩,rfl,((hW2.nilrow 3 1).nilrow 3 1).pickL [3,4] (by decide) rfl⟩)
  ·refine cx_false (vB hp12) ?_
   refine cx_skip (eT (cS (cR ?_)))
   refine ox_y rfl (yMS rfl) (ox_y rfl (y_loadN 0 [.slice Aa p0.fNo.length ca,.slice Ab p0.fC.length cb] ag_25 rfl rfl rfl) (ox_y rfl (yMS rfl) (ox_y rfl (yMI rfl) (ox_y rfl (yMS rfl) ?_))))
   obtain ⟨y13,hy14,h⟩:=bOs h
   refine ox_call [.agg #[.slice Aa p0.fNo.length ca,.slice Ab p0.fC.length cb],.slice Ac p1.length cc,.int .i64 p2,.slice A8 y6.1.length c9] _ _ _ rfl go_104 rfl (fun W2 hW2 => recall_walk_ok p0 p1 p2 y6.1 y13 hy14 W2 Aa p0.fNo.length ca rfl ((RdL.arg hr0_0) W2 hW2) Ab p0.fC.length cb ys0_1 rfl ((RdL.arg hr0_1) W2 hW2) (NestL.at (NestL.arg hN0_1) W2 hW2) Ac p1.length cc rfl ((RdL.arg hr1_0) W2 hW2) A8 y6.1.length c9 rfl ((RdL.row 2 rfl) W2 hW2)) ?_
   rintro ⟨A15,n17,c16⟩ hn18
   replace hn18 : n17 = y13.length:=hn18; subst hn18
   refine ox_y rfl (y_buildS [.slice A8 y6.1.length c9,.slice A15 y13.length c16] [(0,1),(1,1)] ust_64 ze_64 (by kernel_rfl)) ?_
   refine ox_n rfl (y_storeN 1 [.slice A8 y6.1.length c9,.slice A15 y13.length c16] sz_64 rfl (nB rfl) rfl rfl rfl) (ox_y rfl (yAI rfl) ?_)
   refine oN (eT (cx_ret ?_))
   obtain rfl:=sI h
   exact ex_res2 (.inl rfl) rfl (resV_cellN 1 [.slice A8 y6.1.length c9,.slice A15 y13.length c16] ag_64 rfl rfl rfl) (rVt (v:=.int .i64 0) rfl) (fun W2 hW2 => ⟨((A8,y6.1.length,c9),(A15,y13.length,c16)),⟨rfl,rfl⟩,rfl,hW2.pickL [2,3] (by decide) rfl⟩)
theorem recall_leads_ok (p0:TL) (p1:(List Int)) (p2:Int) (p3:TTrace) (res:Bool) (h:recall_leads p0 p1 p2 p3 = some res) (W:World) (Aa:Option Addr) (n0_0 ca : Nat) (hn0_0:n0_0 = p0.fNo.length) (hr0_0:Rd W Aa n0_0 ca (encL TNode_cells p0.fNo)) (Ab:Option Addr) (n0_1 cb : Nat) (ys0_1:List (Hd × TC)) (hn0_1:n0_1 = p0.fC.length) (hr0_1:Rd W Ab n0_1 cb (encL TClaim_cells2 ys0_1)) (hN0_1:NestW W (fun z : TC => z.fO) THop_cells ys0_1 p0.fC) (Ac:Option Addr) (n1_0 cc : Nat) (hn1_0:n1_0 = p1.length) (hr1_0:Rd W Ac n1_0 cc (encL cI p1)) (A3_0:Option Addr) (n3_0 c3_0 : Nat) (hn3_0:n3_0 = p3.fCase.length) (hr3_0:Rd W A3_0 n3_0 c3_0 (encL cI p3.fCase)) (A3_1:Option Addr) (n3_1 c3_1 : Nat) (hn3_1:n3_1 = p3.fC.length) (hr3_1:Rd W A3_1 n3_1 c3_1 (encL cI p3.fC)) :
  Calls Tryz.prog 106 [.agg #[.slice Aa n0_0 ca,.slice Ab n0_1 cb],.slice Ac n1_0 cc,.int .i64 p2,.agg #[.slice A3_0 n3_0 c3_0,.slice A3_1 n3_1 c3_1]].toArray W fun e W2 => e = .returned (.bool res) ∧ Ext W W2 []:=by
 subst hn0_0
 subst hn0_1
 subst hn1_0
 subst hn3_0
 subst hn3_1
 unfold recall_leads at h
 refine calls_enter (m:=85) Tryz.func106 rfl rfl (nB rfl) ?_
 refine cS (cR ?_)
 refine ox_box [.slice Aa p0.fNo.length ca,.slice Ab p0.fC.length cb] rfl rfl rfl (fun b1 => ?_)
 refine ox_box [.slice A3_0 p3.fCase.length c3_0,.slice A3_1 p3.fC.length c3_1] rfl rfl rfl (fun b2 => ?_)
 refine ox_y rfl (y_assign_bool rfl) ?_
 refine oN (eT (cS (cS (cR ?_))))
 refine ox_y rfl (y_loadN 0 [.slice Aa p0.fNo.length ca,.slice Ab p0.fC.length cb] ag_25 rfl rfl rfl) (ox_y rfl (yFA fo_64_0 rfl) (ox_y rfl (y_load1 1 (v:=.slice A3_0 p3.fCase.length c3_0) sc_26 rfl rfl rfl) ?_))
 obtain ⟨y3,hy4,h⟩:=bOs h
 refine ox_y rfl (y_call [.agg #[.slice Aa p0.fNo.length ca,.slice Ab p0.fC.length cb],.slice A3_0 p3.fCase.length c3_0] go_100 rfl (fun W2 hW2 => recall_isCase_ok p0 p3.fCase y3 hy4 W2 Aa p0.fNo.length ca rfl ((RdL.arg hr0_0) W2 hW2) Ab p0.fC.length cb ys0_1 rfl ((RdL.arg hr0_1) W2 hW2) (NestL.at (NestL.arg hN0_1) W2 hW2) A3_0 p3.fCase.length c3_0 rfl ((RdL.arg hr3_0) W2 hW2)) rfl) (ox_y rfl (y_not rfl) ?_)
 refine oN (eT ?_)
 rcases iOs h with ⟨hp5,h⟩ | ⟨hp5,h⟩
 ·refine cx_true (vB hp5) ?_
  refine cS (cR ?_)
  refine ox_y rfl (y_assign_bool rfl) ?_
  refine oN (eT (cx_ret (ex_then_ret ?_)))
  obtain rfl:=sI h
  exact ex_res1 (.inl rfl) rfl (rVt (v:=.bool false) rfl) (fun W2 hW2 => ⟨rfl,hW2.none⟩)
 ·refine cx_false (vB hp5) ?_
  refine cx_skip (eT (cS (cS (cR ?_))))
  refine ox_y rfl (yFA fo_64_1 rfl) (ox_y rfl (y_load1 1 (v:=.slice A3_1 p3.fC.length c3_1) sc_26 rfl rfl rfl) (ox_y rfl (y_len (us:=[]) us_26 rfl) (ox_y rfl (y_eql rfl rfl) ?_)))
  refine oN (eT ?_)
  rcases iOs h with ⟨hp6,h⟩ | ⟨hp6,h⟩
  ·refine cx_true (vB hp6) ?_
   refine cS (cR ?_)
   refine ox_y rfl (yMS rfl) (ox_y rfl (yMI rfl) ?_)
   obtain ⟨y7,hy8,h⟩:=bOs h
   refine ox_y rfl (y_call [.slice Ac p1.length cc,.int .i64 p2] go_80 rfl (fun W2 hW2 => slices_Contains_int_int_ok p1 p2 y7 hy8 W2 Ac p1.length cc rfl ((RdL.arg hr1_0) W2 hW2)) rfl) (ox_y rfl (y_assign_bool rfl) ?_)
   refine oN (eT (cx_ret (ex_then_ret ?_)))
   obtain rfl:=sI h
   exact ex_res1 (.inl rfl) rfl (rVt (v:=.bool y7) rfl) (fun W2 hW2 => ⟨rfl,hW2.none⟩)
  ·refine cx_false (vB hp6) ?_
   refine cx_skip (eT (cS (cR ?_)))
   refine ox_y rfl (yAI rfl) ?_
   refine oN (eT (cS (cS (cR ?_))))
   refine ox_y rfl (yFA fo_64_1 rfl) (ox_y rfl (y_load1 1 (v:=.slice A3_1 p3.fC.length c3_1) sc_26 rfl rfl rfl) (ox_y rfl (y_len (us:=[]) us_26 rfl) (ox_y rfl (yMI rfl) ?_)))
   refine oN (eT (cx_block ?_))
   obtain ⟨u11,hl35,h⟩:=bOs h
   refine cx_loop (fun (s:(Bool × Int × Int)) L tm => ∃ (tm0:Nat → Value),L = [cellsR b1 25 [.slice Aa p0.fNo.length ca,.slice Ab p0.fC.length cb],cellsR b2 64 [.slice A3_0 p3.fCase.length c3_0,.slice A3_1 p3.fC.length c3_1]] ∧ tm = (upd (upd (upd (upd (upd (upd (upd (upd (upd (upd (upd (upd (upd tm0 0 (.agg #[.slice Aa p0.fNo.length ca,.slice Ab p0.fC.length cb])) 1 (.slice Ac p1.length cc)) 2 (.int .i64 p2)) 3 (.agg #[.slice A3_0 p3.fCase.length c3_0,.slice A3_1 p3.fC.length c3_1])) 4 (.pointer (some ⟨b1,0,none⟩))) 7 (.pointer (some ⟨b2,0,none⟩))) 8 (.bool s.1)) 18 (.bool (!y3))) 22 (.bool ((p3.fC.length:Int) == 0))) 9 (.int .i64 s.2.1)) 27 (.slice A3_1 p3.fC.length c3_1)) 28 (.int .i64 (p3.fC.length:Int))) 29 (.int .i64 s.2.2))) (fun | (.inl s),e,L,tm => e = .ret ∧ ∃ (tm0:Nat → Value),L = [cellsR b1 25 [.slice Aa p0.fNo.length ca,.slice Ab p0.fC.length cb],cellsR b2 64 [.slice A3_0 p3.fCase.length c3_0,.slice A3_1 p3.fC.length c3_1]] ∧ tm = (upd (upd (upd (upd (upd (upd (upd (upd (upd (upd (upd (upd (upd tm0 0 (.agg #[.slice Aa p0.fNo.length ca,.slice Ab p0.fC.length cb])) 1 (.slice Ac p1.length cc)) 2 (.int .i64 p2)) 3 (.agg #[.slice A3_0 p3.fCase.length c3_0,.slice A3_1 p3.fC.length c3_1])) 4 (.pointer (some ⟨b1,0,none⟩))) 7 (.pointer (some ⟨b2,0,none⟩))) 8 (.bool s.1)) 18 (.bool (!y3))) 22 (.bool ((p3.fC.length:Int) == 0))) 9 (.int .i64 s.2.1)) 27 (.slice A3_1 p3.fC.length c3_1)) 28 (.int .i64 (p3.fC.length:Int))) 29 (.int .i64 s.2.2)) | (.inr s),e,L,tm => e = .exit 0 ∧ ∃ (tm0:Nat → Value),L = [cellsR b1 25 [.slice Aa p0.fNo.length ca,.slice Ab p0.fC.length cb],cellsR b2 64 [.slice A3_0 p3.fCase.length c3_0,.slice A3_1 p3.fC.length c3_1]] ∧ tm = (upd (upd (upd (upd (upd (upd (upd (upd (upd (upd (upd (upd (upd tm0 0 (.agg #[.slice Aa p0.fNo.length ca,.slice Ab p0.fC.length cb])) 1 (.slice Ac p1.length cc)) 2 (.int .i64 p2)) 3 (.agg #[.slice A3_0 p3.fCase.length c3_0,.slice A3_1 p3.fC.length c3_1])) 4 (.pointer (some ⟨b1,0,none⟩))) 7 (.pointer (some ⟨b2,0,none⟩))) 8 (.bool s.1)) 18 (.bool (!y3))) 22 (.bool ((p3.fC.length:Int) == 0))) 9 (.int .i64 s.2.1)) 27 (.slice A3_1 p3.fC.length c3_1)) 28 (.int .i64 (p3.fC.length:Int))) 29 (.int .i64 s.2.2))) hl35 ⟨_,rfl,(kp4 (kp4 (kp4 (kp rfl))))⟩ ?_ ?_
   ·rintro s10 L tm st ⟨tm0_s10,rfl,rfl⟩ h
    unfold recall_leads_l1 at h
    refine cS (cR ?_)
    refine ox_y rfl (y_lss rfl rfl) ?_
    refine oN (eT (cS ?_))
    rcases iOs h with ⟨hp12,h⟩ | ⟨hp12,h⟩
    ·refine cx_true (vB hp12) ?_
     refine cx_skip (eT (cS (cx_block (cS (cR ?_)))))
     refine ox_y rfl (yMI rfl) ?_
     obtain ⟨hg13,h⟩:=gOs h
     refine ox_y rfl (y_indexR sl_26 (by decide) hg13.1 hg13.2 (RdL.arg hr3_1) (encL_len cI_len rfl) rfl rfl) ?_
     refine ox_y rfl (y_loadR1 (A:=A3_1) (j:=(Int.toNat s10.2.2 * 1)) (v:=.int .i64 (rdL p3.fC s10.2.2)) sc_3 (RdL.arg hr3_1) rfl (encL_get0 cI_len hg13.1 (lt_nat hg13.2 rfl) rfl)) (ox_y rfl (yAI rfl) (ox_y rfl (yAI rfl) ?_))
     refine oN (eT (cS (cR ?_)))
     refine ox_y rfl (y_loadN 0 [.slice Aa p0.fNo.length ca,.slice Ab p0.fC.length cb] ag_25 rfl rfl rfl) (ox_y rfl (yMI rfl) ?_)
     obtain ⟨y14,hy15,h⟩:=bOs h
     refine ox_y rfl (y_call [.agg #[.slice Aa p0.fNo.length ca,.slice Ab p0.fC.length cb],.int .i64 (rdL p3.fC s10.2.2)] go_114 rfl (fun W2 hW2 => recall_linkOf_ok p0 (rdL p3.fC s10.2.2) y14 hy15 W2 Aa p0.fNo.length ca rfl ((RdL.arg hr0_0) W2 hW2) Ab p0.fC.length cb ys0_1 rfl ((RdL.arg hr0_1) W2 hW2) (NestL.at (NestL.arg hN0_1) W2 hW2)) rfl) (ox_y rfl (yAI rfl) ?_)
     refine oN (eT (cS (cS (cR ?_))))
     refine ox_y rfl (yMI rfl) (ox_y rfl (y_lss rfl rfl) (ox_y rfl (y_move_bool rfl) ?_))
     obtain ⟨b17,hb18,h⟩:=bOs h
     refine ox_join 7 (fun tm0 => (upd (upd (upd (upd (upd (upd (upd (upd (upd (upd (upd (upd (upd (upd (upd (upd (upd (upd tm0 0 (.agg #[.slice Aa p0.fNo.length ca,.slice Ab p0.fC.length cb])) 1 (.slice Ac p1.length cc)) 2 (.int .i64 p2)) 3 (.agg #[.slice A3_0 p3.fCase.length c3_0,.slice A3_1 p3.fC.length c3_1])) 4 (.pointer (some ⟨b1,0,none⟩))) 7 (.pointer (some ⟨b2,0,none⟩))) 8 (.bool s10.1)) 18 (.bool (!y3))) 22 (.bool ((p3.fC.length:Int) == 0))) 9 (.int .i64 s10.2.1)) 27 (.slice A3_1 p3.fC.length c3_1)) 28 (.int .i64 (p3.fC.length:Int))) 29 (.int .i64 s10.2.2)) 30 (.bool (decide (s10.2.2 < (p3.fC.length:Int))))) 10 (.int .i64 s10.2.2)) 11 (.int .i64 (rdL p3.fC s10.2.2))) 12 (.int .i64 y14)) 46 (.bool b17))) (fun tm0 => ?_) (fun key => ?_)
     ·refine oN (eT ?_)
      rcases iOs h with ⟨hp19,h⟩ | ⟨hp19,h⟩
      ·refine cx_true (vB hp19) ?_
       refine cS (cR ?_)
       refine ox_y rfl (y_assign_bool rfl) ?_
       refine oN (eT (cx_ret (ex_then_ret (ex_block_ret (ex_then_ret ?_)))))
       obtain rfl:=sI h
       exact ex_stop ⟨rfl,_,rfl,(kp4 (kp4 (kp4 (kp rfl))))⟩
      ·refine cx_false (vB hp19) ?_
       refine cx_skip (eT (cS ?_))
       refine cx_drawsA 13 mixed (by kernel_rfl) (by kernel_rfl) (by kernel_rfl) ?_
       refine ax_y rfl (fun _ => yFA fo_25_1 rfl) (ax_y rfl (fun _ => y_load1 0 (v:=.slice Ab p0.fC.length cb) sc_23 rfl rfl rfl) (ax_y rfl (fun _ => yMI rfl) ?_))
       obtain ⟨hg20,h⟩:=gOs h
       refine ax_y rfl (fun _ => y_indexR sl_23 (by decide) hg20.1 hg20.2 (RdL.arg hr0_1) (encL_len TClaim_cells2_len (NestP.hn hN0_1.p rfl)) rfl rfl) ?_
       refine ax_y rfl (fun _ => y_fieldAddrR (A:=Ab) (j:=(Int.toNat y14 * 2)) fo_90_1 rfl) (ax_y rfl (fun _ => y_loadR1 (A:=Ab) (j:=((Int.toNat y14 * 2) + 1)) (v:=.slice ((rdL ys0_1 y14).1.1) ((rdL p0.fC y14).fO.length) ((rdL ys0_1 y14).1.2.2)) sc_88 (RdL.arg hr0_1) rfl (encL_get TClaim_cells2_len hg20.1 (lt_nat hg20.2 (NestP.hn hN0_1.p rfl)) (congrArg (fun n : Nat => some (Value.slice (rdL ys0_1 y14).1.1 n (rdL ys0_1 y14).1.2.2)) (NestP.len hN0_1.p hg20.1 (lt_nat hg20.2 rfl))))) (ax_y rfl (fun _ => yFA fo_64_0 rfl) (ax_y rfl (fun _ => y_load1 1 (v:=.slice A3_0 p3.fCase.length c3_0) sc_26 rfl rfl rfl) (ax_y rfl (fun _ => yMI rfl) ?_))))
       obtain ⟨hg21,h⟩:=gOs h
       refine ax_y rfl (fun _ => y_indexR sl_26 (by decide) hg21.1 hg21.2 (RdL.arg hr3_0) (encL_len cI_len rfl) rfl rfl) ?_
       refine ax_y rfl (fun _ => y_loadR1 (A:=A3_0) (j:=(Int.toNat y14 * 1)) (v:=.int .i64 (rdL p3.fCase y14)) sc_3 (RdL.arg hr3_0) rfl (encL_get0 cI_len hg21.1 (lt_nat hg21.2 rfl) rfl)) ?_
       obtain ⟨hg22,h⟩:=gOs h
       refine ax_y rfl (fun _ => y_indexR sl_88 (by decide) hg22.1 hg22.2 (NestL.rd (NestL.arg hN0_1) hg20.1 (lt_nat hg20.2 rfl)) (encL_len THop_cells_len rfl) rfl rfl) ?_
       refine ax_y rfl (fun _ => y_loadRN (A:=((rdL ys0_1 y14).1.1)) (j:=(Int.toNat (rdL p3.fCase y14) * 2)) [.int .i64 ((rdL ((rdL p0.fC y14).fO) (rdL p3.fCase y14)).fFrom),.int .i64 ((rdL ((rdL p0.fC y14).fO) (rdL p3.fCase y14)).fTo)] ag_111 (Nat.succ_pos _) (NestL.rd (NestL.arg hN0_1) hg20.1 (lt_nat hg20.2 rfl)) rfl (encL_gets THop_cells_len hg22.1 (lt_nat hg22.2 rfl))) ?_
       refine ax_nil rfl ze_111 (fun b23 => ?_)
       refine ox_n rfl (y_storeN 2 [.int .i64 ((rdL ((rdL p0.fC y14).fO) (rdL p3.fCase y14)).fFrom),.int .i64 ((rdL ((rdL p0.fC y14).fO) (rdL p3.fCase y14)).fTo)] sz_111 rfl (nB rfl) rfl rfl rfl) (oN (ex_only ?_))
       refine eT (cS (cS (cR ?_)))
       refine ox_y rfl (yMI rfl) (ox_y rfl (y_eql rfl rfl) (ox_y rfl (y_move_bool rfl) ?_))
       obtain ⟨b25,hb26,h⟩:=bOs h
       refine ox_join 6 (fun tm0 => (upd (upd (upd (upd (upd (upd (upd (upd (upd (upd (upd (upd (upd (upd (upd (upd (upd (upd (upd (upd tm0 0 (.agg #[.slice Aa p0.fNo.length ca,.slice Ab p0.fC.length cb])) 1 (.slice Ac p1.length cc)) 2 (.int .i64 p2)) 3 (.agg #[.slice A3_0 p3.fCase.length c3_0,.slice A3_1 p3.fC.length c3_1])) 4 (.pointer (some ⟨b1,0,none⟩))) 7 (.pointer (some ⟨b2,0,none⟩))) 8 (.bool s10.1)) 18 (.bool (!y3))) 22 (.bool ((p3.fC.length:Int) == 0))) 9 (.int .i64 s10.2.1)) 27 (.slice A3_1 p3.fC.length c3_1)) 28 (.int .i64 (p3.fC.length:Int))) 29 (.int .i64 s10.2.2)) 30 (.bool (decide (s10.2.2 < (p3.fC.length:Int))))) 10 (.int .i64 s10.2.2)) 11 (.int .i64 (rdL p3.fC s10.2.2))) 12 (.int .i64 y14)) 46 (.bool b17)) 13 (.pointer (some ⟨b23,0,none⟩))) 68 (.bool b25))) (fun tm0 => ?_) (fun key => ?_)
       ·refine ox_y rfl (y_move_bool rfl) ?_
        refine ox_join 9 (fun tm0 => (upd (upd (upd (upd (upd (upd (upd (upd (upd (upd (upd (upd (upd (upd (upd (upd (upd (upd (upd (upd tm0 0 (.agg #[.slice Aa p0.fNo.length ca,.slice Ab p0.fC.length cb])) 1 (.slice Ac p1.length cc)) 2 (.int .i64 p2)) 3 (.agg #[.slice A3_0 p3.fCase.length c3_0,.slice A3_1 p3.fC.length c3_1])) 4 (.pointer (some ⟨b1,0,none⟩))) 7 (.pointer (some ⟨b2,0,none⟩))) 8 (.bool s10.1)) 18 (.bool (!y3))) 22 (.bool ((p3.fC.length:Int) == 0))) 9 (.int .i64 s10.2.1)) 27 (.slice A3_1 p3.fC.length c3_1)) 28 (.int .i64 (p3.fC.length:Int))) 29 (.int .i64 s10.2.2)) 30 (.bool (decide (s10.2.2 < (p3.fC.length:Int))))) 10 (.int .i64 s10.2.2)) 11 (.int .i64 (rdL p3.fC s10.2.2))) 12 (.int .i64 y14)) 46 (.bool b17)) 13 (.pointer (some ⟨b23,0,none⟩))) 78 (.bool (b25 || ((decide (0 < s10.2.2)) && (((rdL ((rdL p0.fC y14).fO) (rdL p3.fCase y14)).fFrom) != s10.2.1)))))) (fun tm0 => ?_) (fun key => ?_)
        ·refine oN (eT ?_)
         rcases iOs h with ⟨hp28,h⟩ | ⟨hp28,h⟩
         ·refine cx_true (vB hp28) ?_
          refine cS (cR ?_)
          refine ox_y rfl (y_assign_bool rfl) ?_
          refine oN (eT (cx_ret (ex_then_ret (ex_block_ret (ex_then_ret ?_)))))
          refine ex_take 2 ?_
          obtain rfl:=sI h
          exact ex_stop ⟨rfl,_,rfl,(kp4 (kp4 (kp4 (kp rfl))))⟩
         ·refine cx_false (vB hp28) ?_
          refine cx_skip (eT (cR ?_))
          refine ox_y rfl (yFA fo_111_1 rfl) (ox_y rfl (y_load1 2 (v:=.int .i64 ((rdL ((rdL p0.fC y14).fO) (rdL p3.fCase y14)).fTo)) sc_3 rfl rfl rfl) (ox_y rfl (yAI rfl) (oN (ex_block ?_))))
          refine eT (cR ?_)
          refine ox_y rfl (y_add rfl rfl) (ox_y rfl (yMI rfl) (oN (ex_take 2 ?_)))
          obtain rfl:=sI h
          exact ex_next ⟨_,rfl,(kp4 (kp4 (kp4 (kp rfl))))⟩
        ·rcases bool_cases b25 with hp27 | hp27
         ·refine oSk (sF rfl rfl rfl rfl hp27) (oSk (sF rfl rfl rfl rfl hp27) (oSk (sF rfl rfl rfl rfl hp27) (oSk rfl (oSk rfl (oSk rfl (oSk rfl (oSk (sF rfl rfl rfl rfl hp27) (ox_y rfl (y_pick_tb (vB hp27) rfl) ?_))))))))
          exact key _ _ (keep (keep (keep (keep (keep (keep (keep (keep (keep (keep (keep (keep (keep (keep (keep (keep (keep (keep (keep (keep rfl rfl) rfl) rfl) rfl) rfl) rfl) rfl) rfl) rfl) rfl) rfl) rfl) rfl) rfl) rfl) rfl) rfl) rfl) rfl) (vB (or_t hp27)))
         ·refine ox_y (sT rfl rfl rfl rfl hp27) (yMI rfl) (ox_y (sT rfl rfl rfl rfl hp27) (y_gtr rfl rfl) (ox_y (sT rfl rfl rfl rfl hp27) (y_move_bool rfl) ?_))
          refine ox_join 5 (fun tm0 => (upd (upd (upd (upd (upd (upd (upd (upd (upd (upd (upd (upd (upd (upd (upd (upd (upd (upd (upd (upd (upd tm0 0 (.agg #[.slice Aa p0.fNo.length ca,.slice Ab p0.fC.length cb])) 1 (.slice Ac p1.length cc)) 2 (.int .i64 p2)) 3 (.agg #[.slice A3_0 p3.fCase.length c3_0,.slice A3_1 p3.fC.length c3_1])) 4 (.pointer (some ⟨b1,0,none⟩))) 7 (.pointer (some ⟨b2,0,none⟩))) 8 (.bool s10.1)) 18 (.bool (!y3))) 22 (.bool ((p3.fC.length:Int) == 0))) 9 (.int .i64 s10.2.1)) 27 (.slice A3_1 p3.fC.length c3_1)) 28 (.int .i64 (p3.fC.length:Int))) 29 (.int .i64 s10.2.2)) 30 (.bool (decide (s10.2.2 < (p3.fC.length:Int))))) 10 (.int .i64 s10.2.2)) 11 (.int .i64 (rdL p3.fC s10.2.2))) 12 (.int .i64 y14)) 46 (.bool b17)) 13 (.pointer (some ⟨b23,0,none⟩))) 69 (.bool b25)) 77 (.bool ((decide (0 < s10.2.2)) && (((rdL ((rdL p0.fC y14).fO) (rdL p3.fCase y14)).fFrom) != s10.2.1))))) (fun tm0 => ?_) (fun key => ?_)
          ·refine ox_y rfl (y_pick_fb (vB hp27) rfl) ?_
           exact key _ _ (keep (keep (keep (keep (keep (keep (keep (keep (keep (keep (keep (keep (keep (keep (keep (keep (keep (keep (keep (keep rfl rfl) rfl) rfl) rfl) rfl) rfl) rfl) rfl) rfl) rfl) rfl) rfl) rfl) rfl) rfl) rfl) rfl) rfl) rfl) (vB (or_f hp27)))
          ·rcases bool_cases (decide (0 < s10.2.2)) with hp29 | hp29
           ·refine ox_y (sT rfl rfl rfl rfl hp29) (yFA fo_111_0 rfl) (ox_y (sT rfl rfl rfl rfl hp29) (y_load1 2 (v:=.int .i64 ((rdL ((rdL p0.fC y14).fO) (rdL p3.fCase y14)).fFrom)) sc_3 rfl rfl rfl) (ox_y (sT rfl rfl rfl rfl hp29) (yMI rfl) (ox_y (sT rfl rfl rfl rfl hp29) (y_neq rfl rfl) (ox_y (sT rfl rfl rfl rfl hp27) (y_pick_tb (vB hp29) rfl) ?_))))
            exact key _ _ (keep (keep (keep (keep (keep (keep (keep (keep (keep (keep (keep (keep (keep (keep (keep (keep (keep (keep (keep (keep (keep rfl rfl) rfl) rfl) rfl) rfl) rfl) rfl) rfl) rfl) rfl) rfl) rfl) rfl) rfl) rfl) rfl) rfl) rfl) rfl) rfl) (vB (and_t hp29)))
           ·refine oSk (sF rfl rfl rfl rfl hp29) (oSk (sF rfl rfl rfl rfl hp29) (oSk (sF rfl rfl rfl rfl hp29) (oSk (sF rfl rfl rfl rfl hp29) (ox_y (sT rfl rfl rfl rfl hp27) (y_pick_fb (vB hp29) rfl) ?_))))
            exact key _ _ (keep (keep (keep (keep (keep (keep (keep (keep (keep (keep (keep (keep (keep (keep (keep (keep (keep (keep (keep (keep (keep rfl rfl) rfl) rfl) rfl) rfl) rfl) rfl) rfl) rfl) rfl) rfl) rfl) rfl) rfl) rfl) rfl) rfl) rfl) rfl) rfl) (vB (and_f hp29)))
       ·clear h; rcases iOs hb26 with ⟨hp24,h⟩ | ⟨hp24,h⟩
        ·refine ox_y (sT rfl rfl rfl rfl hp24) (yMS rfl) (ox_y (sT rfl rfl rfl rfl hp24) (yFA fo_111_0 rfl) (ox_y (sT rfl rfl rfl rfl hp24) (y_load1 2 (v:=.int .i64 ((rdL ((rdL p0.fC y14).fO) (rdL p3.fCase y14)).fFrom)) sc_3 rfl rfl rfl) ?_))
         obtain ⟨y30,hy31,h⟩:=bOs h
         refine ox_y (sT rfl rfl rfl rfl hp24) (y_call [.slice Ac p1.length cc,.int .i64 ((rdL ((rdL p0.fC y14).fO) (rdL p3.fCase y14)).fFrom)] go_80 rfl (fun W2 hW2 => slices_Contains_int_int_ok p1 ((rdL ((rdL p0.fC y14).fO) (rdL p3.fCase y14)).fFrom) y30 hy31 W2 Ac p1.length cc rfl ((RdL.arg hr1_0) W2 hW2)) rfl) (ox_y (sT rfl rfl rfl rfl hp24) (y_not rfl) (ox_y rfl (y_pick_tb (vB hp24) rfl) ?_))
         obtain rfl:=sI h
         exact key _ _ (kp4 (kp4 (kp4 (kp4 (kp4 rfl)))))
        ·refine oSk (sF rfl rfl rfl rfl hp24) (oSk (sF rfl rfl rfl rfl hp24) (oSk (sF rfl rfl rfl rfl hp24) (oSk (sF rfl rfl rfl rfl hp24) (oSk (sF rfl rfl rfl rfl hp24) (ox_y rfl (y_pick_fb (vB hp24) rfl) ?_)))))
         obtain rfl:=sI h
         exact key _ _ (kp4 (kp4 (kp4 (kp4 (kp4 rfl)))))
     ·clear h; rcases iOs hb18 with ⟨hp16,h⟩ | ⟨hp16,h⟩
      ·refine oSk (sF rfl rfl rfl rfl hp16) (oSk (sF rfl rfl rfl rfl hp16) (oSk (sF rfl rfl rfl rfl hp16) (oSk (sF rfl rfl rfl rfl hp16) (oSk (sF rfl rfl rfl rfl hp16) (oSk (sF rfl rfl rfl rfl hp16) (ox_y rfl (y_pick_tb (vB hp16) rfl) ?_))))))
       obtain rfl:=sI h
       exact key _ _ (kp4 (kp4 (kp4 (kp4 (kp (kp rfl))))))
      ·refine ox_y (sT rfl rfl rfl rfl hp16) (yFA fo_64_1 rfl) (ox_y (sT rfl rfl rfl rfl hp16) (y_load1 1 (v:=.slice A3_1 p3.fC.length c3_1) sc_26 rfl rfl rfl) (ox_y (sT rfl rfl rfl rfl hp16) (yMI rfl) ?_))
       obtain ⟨hg32,h⟩:=gOs h
       refine ox_y (sT rfl rfl rfl rfl hp16) (y_cutH sl_26 hg32.1 hg32.2 (RdL.arg hr3_1) rfl rfl) (ox_y (sT rfl rfl rfl rfl hp16) (yMI rfl) ?_)
       obtain ⟨y33,hy34,h⟩:=bOs h
       refine ox_y (sT rfl rfl rfl rfl hp16) (y_call [.slice A3_1 (Int.toNat s10.2.2) c3_1,.int .i64 (rdL p3.fC s10.2.2)] go_80 rfl (fun W2 hW2 => slices_Contains_int_int_ok (p3.fC.take (Int.toNat s10.2.2)) (rdL p3.fC s10.2.2) y33 hy34 W2 A3_1 (Int.toNat s10.2.2) c3_1 (cutH_len hg32.2 rfl) ((RdL.cutH cI_len (RdL.arg hr3_1) hg32.1 hg32.2) W2 hW2)) rfl) (ox_y rfl (y_pick_fb (vB hp16) rfl) ?_)
       obtain rfl:=sI h
       exact key _ _ (kp4 (kp4 (kp4 (kp4 (kp (kp rfl))))))
    ·refine cx_false (vB hp12) (cx_exit (ex_then_exit ?_))
     obtain rfl:=sI h
     exact ex_stop ⟨rfl,_,rfl,(kp4 (kp4 (kp4 (kp rfl))))⟩
   ·intro e L tm hJ
    rcases u11 with u36 | u37
    ·dsimp only at h hJ
     obtain ⟨rfl,tm0_u36,rfl,rfl⟩:=hJ
     refine ⟨(by intro hc; cases hc),?_⟩
     refine ex_block_ret (ex_then_ret ?_)
     obtain rfl:=sI h
     exact ex_res1 (.inl rfl) rfl (rVt (v:=.bool u36.1) rfl) (fun W2 hW2 => ⟨rfl,hW2.none⟩)
    ·dsimp only at h hJ
     obtain ⟨rfl,tm0_u37,rfl,rfl⟩:=hJ
     refine ⟨(by intro hc; cases hc),?_⟩
     refine ex_block_here ?_
     refine eT (cS (cR ?_))
     refine ox_y rfl (yMI rfl) (ox_y rfl (yMI rfl) (ox_y rfl (y_eql rfl rfl) (ox_y rfl (y_assign_bool rfl) ?_)))
     refine oN (eT (cx_ret ?_))
     obtain rfl:=sI h
     exact ex_res1 (.inl rfl) rfl (rVt (v:=.bool (u37.2.1 == p2)) rfl) (fun W2 hW2 => ⟨rfl,hW2.none⟩)
theorem recall_CheckWay_ok (p0:TL) (p1:(List Int)) (p2:Int) (p3:TTrace) (res:Int) (h:recall_CheckWay p0 p1 p2 p3 = some res) (W:World) (Aa:Option Addr) (n0_0 ca : Nat) (hn0_0:n0_0 = p0.fNo.length) (hr0_0:Rd W Aa n0_0 ca (encL TNode_cells p0.fNo)) (Ab:Option Addr) (n0_1 cb : Nat) (ys0_1:List (Hd × TC)) (hn0_1:n0_1 = p0.fC.length) (hr0_1:Rd W Ab n0_1 cb (encL TClaim_cells2 ys0_1)) (hN0_1:NestW W (fun z : TC => z.fO) THop_cells ys0_1 p0.fC) (Ac:Option Addr) (n1_0 cc : Nat) (hn1_0:n1_0 = p1.length) (hr1_0:Rd W Ac n1_0 cc (encL cI p1)) (A3_0:Option Addr) (n3_0 c3_0 : Nat) (hn3_0:n3_0 = p3.fCase.length) (hr3_0:Rd W A3_0 n3_0 c3_0 (encL cI p3.fCase)) (A3_1:Option Addr) (n3_1 c3_1 : Nat) (hn3_1:n3_1 = p3.fC.length) (hr3_1:Rd W A3_1 n3_1 c3_1 (encL cI p3.fC)) :
  Calls Tryz.prog 46 [.agg #[.slice Aa n0_0 ca,.slice Ab n0_1 cb],.slice Ac n1_0 cc,.int .i64 p2,.agg #[.slice A3_0 n3_0 c3_0,.slice A3_1 n3_1 c3_1]].toArray W fun e W2 => e = .returned (.int .i64 res) ∧ Ext W W2 []:=by
 subst hn0_0
 subst hn0_1
 subst hn1_0
 subst hn3_0
 subst hn3_1
 unfold recall_CheckWay at h
 refine calls_enter (m:=23) Tryz.func46 rfl rfl (nB rfl) ?_
 refine cS (cR ?_)
 refine ox_box [.slice Aa p0.fNo.length ca,.slice Ab p0.fC.length cb] rfl rfl rfl (fun b1 => ?_)
 refine ox_box [.slice A3_0 p3.fCase.length c3_0,.slice A3_1 p3.fC.length c3_1] rfl rfl rfl (fun b2 => ?_)
 refine ox_y rfl (yAI rfl) ?_
 refine oN (eT (cS (cS (cR ?_))))
 refine ox_y rfl (y_loadN 0 [.slice Aa p0.fNo.length ca,.slice Ab p0.fC.length cb] ag_25 rfl rfl rfl) (ox_y rfl (yMS rfl) (ox_y rfl (yMI rfl) ?_))
 obtain ⟨y3,hy4,h⟩:=bOs h
 refine ox_y rfl (y_call [.agg #[.slice Aa p0.fNo.length ca,.slice Ab p0.fC.length cb],.slice Ac p1.length cc,.int .i64 p2] go_74 rfl (fun W2 hW2 => recall_askedTo_ok p0 p1 p2 y3 hy4 W2 Aa p0.fNo.length ca rfl ((RdL.arg hr0_0) W2 hW2) Ab p0.fC.length cb ys0_1 rfl ((RdL.arg hr0_1) W2 hW2) (NestL.at (NestL.arg hN0_1) W2 hW2) Ac p1.length cc rfl ((RdL.arg hr1_0) W2 hW2)) rfl) (ox_y rfl (yAI rfl) ?_)
 refine oN (eT (cS (cR ?_)))
 refine ox_y rfl (yMI rfl) (ox_y rfl (y_neq rfl rfl) ?_)
 refine oN (eT ?_)
 rcases iOs h with ⟨hp5,h⟩ | ⟨hp5,h⟩
 ·refine cx_true (vB hp5) ?_
  refine cS (cR ?_)
  refine ox_y rfl (yMI rfl) (ox_y rfl (yAI rfl) ?_)
  refine oN (eT (cx_ret (ex_then_ret ?_)))
  obtain rfl:=sI h
  exact ex_res1 (.inl rfl) rfl (rVt (v:=.int .i64 y3) rfl) (fun W2 hW2 => ⟨rfl,hW2.none⟩)
 ·refine cx_false (vB hp5) ?_
  refine cx_skip (eT (cS (cS (cR ?_))))
  refine ox_y rfl (y_loadN 0 [.slice Aa p0.fNo.length ca,.slice Ab p0.fC.length cb] ag_25 rfl rfl rfl) (ox_y rfl (yMS rfl) (ox_y rfl (yMI rfl) (ox_y rfl (y_loadN 1 [.slice A3_0 p3.fCase.length c3_0,.slice A3_1 p3.fC.length c3_1] ag_64 rfl rfl rfl) ?_)))
  obtain ⟨y6,hy7,h⟩:=bOs h
  refine ox_y rfl (y_call [.agg #[.slice Aa p0.fNo.length ca,.slice Ab p0.fC.length cb],.slice Ac p1.length cc,.int .i64 p2,.agg #[.slice A3_0 p3.fCase.length c3_0,.slice A3_1 p3.fC.length c3_1]] go_106 rfl (fun W2 hW2 => recall_leads_ok p0 p1 p2 p3 y6 hy7 W2 Aa p0.fNo.length ca rfl ((RdL.arg hr0_0) W2 hW2) Ab p0.fC.length cb ys0_1 rfl ((RdL.arg hr0_1) W2 hW2) (NestL.at (NestL.arg hN0_1) W2 hW2) Ac p1.length cc rfl ((RdL.arg hr1_0) W2 hW2) A3_0 p3.fCase.length c3_0 rfl ((RdL.arg hr3_0) W2 hW2) A3_1 p3.fC.length c3_1 rfl ((RdL.arg hr3_1) W2 hW2)) rfl) (ox_y rfl (y_not rfl) ?_)
  refine oN (eT ?_)
  rcases iOs h with ⟨hp8,h⟩ | ⟨hp8,h⟩
  ·refine cx_true (vB hp8) ?_
   refine cS (cR ?_)
   refine ox_y rfl (yAI rfl) ?_
   refine oN (eT (cx_ret (ex_then_ret ?_)))
   obtain rfl:=sI h
   exact ex_res1 (.inl rfl) rfl (rVt (v:=.int .i64 8) rfl) (fun W2 hW2 => ⟨rfl,hW2.none⟩)
  ·refine cx_false (vB hp8) ?_
   refine cx_skip (eT (cS (cR ?_)))
   refine ox_y rfl (yAI rfl) ?_
   refine oN (eT (cx_ret ?_))
   obtain rfl:=sI h
   exact ex_res1 (.inl rfl) rfl (rVt (v:=.int .i64 0) rfl) (fun W2 hW2 => ⟨rfl,hW2.none⟩)
theorem calxlaw09_among_ok (p0:(List Int)) (p1:Int) (res:Bool) (h:calxlaw09_among p0 p1 = some res) (W:World) (Aa:Option Addr) (n0_0 ca : Nat) (hn0_0:n0_0 = p0.length) (hr0_0:Rd W Aa n0_0 ca (encL cI p0)) :
  Calls Tryz.prog 49 [.slice Aa n0_0 ca,.int .i64 p1].toArray W fun e W2 => e = .returned (.bool res) ∧ Ext W W2 []:=by
 subst hn0_0
 unfold calxlaw09_among at h
 refine calls_enter (m:=18) Tryz.func49 rfl rfl (nB rfl) ?_
 refine cS (cR ?_)
 refine ox_y rfl (y_assign_bool rfl) ?_
 refine oN (eT (cS (cS (cR ?_))))
 refine ox_y rfl (yAI rfl) ?_
 refine oN (eT (cx_block ?_))
 obtain ⟨u3,hl7,h⟩:=bOs h
 refine cx_loop (fun (s:(Bool × Int)) L tm => ∃ (tm0:Nat → Value),L = [] ∧ tm = (upd (upd (upd (upd tm0 0 (.slice Aa p0.length ca)) 1 (.int .i64 p1)) 4 (.bool s.1)) 5 (.int .i64 s.2))) (fun | (.inl s),e,L,tm => e = .ret ∧ ∃ (tm0:Nat → Value),L = [] ∧ tm = (upd (upd (upd (upd tm0 0 (.slice Aa p0.length ca)) 1 (.int .i64 p1)) 4 (.bool s.1)) 5 (.int .i64 s.2)) | (.inr s),e,L,tm => e = .exit 0 ∧ ∃ (tm0:Nat → Value),L = [] ∧ tm = (upd (upd (upd (upd tm0 0 (.slice Aa p0.length ca)) 1 (.int .i64 p1)) 4 (.bool s.1)) 5 (.int .i64 s.2))) hl7 ⟨_,rfl,(kp4 rfl)⟩ ?_ ?_
 ·rintro s2 L tm st ⟨tm0_s2,rfl,rfl⟩ h
  unfold calxlaw09_among_l1 at h
  refine cS (cS (cR ?_))
  refine ox_y rfl (yMI rfl) (ox_y rfl (yMS rfl) (ox_y rfl (y_len (us:=[]) us_26 rfl) (ox_y rfl (y_lss rfl rfl) ?_)))
  refine oN (eT ?_)
  rcases iOs h with ⟨hp4,h⟩ | ⟨hp4,h⟩
  ·refine cx_true (vB hp4) ?_
   refine cx_skip (eT (cS (cx_block (cS (cR ?_)))))
   refine ox_y rfl (yMS rfl) (ox_y rfl (yMI rfl) ?_)
   obtain ⟨hg5,h⟩:=gOs h
   refine ox_y rfl (y_indexR sl_26 (by decide) hg5.1 hg5.2 (RdL.arg hr0_0) (encL_len cI_len rfl) rfl rfl) ?_
   refine ox_y rfl (y_loadR1 (A:=Aa) (j:=(Int.toNat s2.2 * 1)) (v:=.int .i64 (rdL p0 s2.2)) sc_3 (RdL.arg hr0_0) rfl (encL_get0 cI_len hg5.1 (lt_nat hg5.2 rfl) rfl)) (ox_y rfl (yMI rfl) (ox_y rfl (y_eql rfl rfl) ?_))
   refine oN (eT ?_)
   rcases iOs h with ⟨hp6,h⟩ | ⟨hp6,h⟩
   ·refine cx_true (vB hp6) ?_
    refine cS (cR ?_)
    refine ox_y rfl (y_assign_bool rfl) ?_
    refine oN (eT (cx_ret (ex_block_ret (ex_then_ret ?_))))
    obtain rfl:=sI h
    exact ex_stop ⟨rfl,_,rfl,(kp4 rfl)⟩
   ·refine cx_false (vB hp6) (cx_skip (ex_block ?_))
    refine eT (cR ?_)
    refine ox_y rfl (yMI rfl) (ox_y rfl (y_add rfl rfl) (ox_y rfl (yAI rfl) (oN ?_)))
    obtain rfl:=sI h
    exact ex_next ⟨_,rfl,(kp4 rfl)⟩
  ·refine cx_false (vB hp4) (cx_exit (ex_then_exit ?_))
   obtain rfl:=sI h
   exact ex_stop ⟨rfl,_,rfl,(kp4 rfl)⟩
 ·intro e L tm hJ
  rcases u3 with u8 | u9
  ·dsimp only at h hJ
   obtain ⟨rfl,tm0_u8,rfl,rfl⟩:=hJ
   refine ⟨(by intro hc; cases hc),?_⟩
   refine ex_block_ret (ex_then_ret ?_)
   obtain rfl:=sI h
   exact ex_res1 (.inl rfl) rfl (rVt (v:=.bool u8.1) rfl) (fun W2 hW2 => ⟨rfl,hW2.none⟩)
  ·dsimp only at h hJ
   obtain ⟨rfl,tm0_u9,rfl,rfl⟩:=hJ
   refine ⟨(by intro hc; cases hc),?_⟩
   refine ex_block_here ?_
   refine eT (cS (cR ?_))
   refine ox_y rfl (y_assign_bool rfl) ?_
   refine oN (eT (cx_ret ?_))
   obtain rfl:=sI h
   exact ex_res1 (.inl rfl) rfl (rVt (v:=.bool false) rfl) (fun W2 hW2 => ⟨rfl,hW2.none⟩)
theorem calxlaw09_all_ok (p0:(List Int)) (p1:(List Int)) (res:Bool) (h:calxlaw09_all p0 p1 = some res) (W:World) (Aa:Option Addr) (n0_0 ca : Nat) (hn0_0:n0_0 = p0.length) (hr0_0:Rd W Aa n0_0 ca (encL cI p0)) (Ac:Option Addr) (n1_0 cc : Nat) (hn1_0:n1_0 = p1.length) (hr1_0:Rd W Ac n1_0 cc (encL cI p1)) :
  Calls Tryz.prog 48 [.slice Aa n0_0 ca,.slice Ac n1_0 cc].toArray W fun e W2 => e = .returned (.bool res) ∧ Ext W W2 []:=by
 subst hn0_0
 subst hn1_0
 unfold calxlaw09_all at h
 refine calls_enter (m:=19) Tryz.func48 rfl rfl (nB rfl) ?_
 refine cS (cR ?_)
 refine ox_y rfl (y_assign_bool rfl) ?_
 refine oN (eT (cS (cS (cR ?_))))
 refine ox_y rfl (yAI rfl) ?_
 refine oN (eT (cx_block ?_))
 obtain ⟨u3,hl9,h⟩:=bOs h
 refine cx_loop (fun (s:(Bool × Int)) L tm => ∃ (tm0:Nat → Value),L = [] ∧ tm = (upd (upd (upd (upd tm0 0 (.slice Aa p0.length ca)) 1 (.slice Ac p1.length cc)) 4 (.bool s.1)) 5 (.int .i64 s.2))) (fun | (.inl s),e,L,tm => e = .ret ∧ ∃ (tm0:Nat → Value),L = [] ∧ tm = (upd (upd (upd (upd tm0 0 (.slice Aa p0.length ca)) 1 (.slice Ac p1.length cc)) 4 (.bool s.1)) 5 (.int .i64 s.2)) | (.inr s),e,L,tm => e = .exit 0 ∧ ∃ (tm0:Nat → Value),L = [] ∧ tm = (upd (upd (upd (upd tm0 0 (.slice Aa p0.length ca)) 1 (.slice Ac p1.length cc)) 4 (.bool s.1)) 5 (.int .i64 s.2))) hl9 ⟨_,rfl,(kp4 rfl)⟩ ?_ ?_
 ·rintro s2 L tm st ⟨tm0_s2,rfl,rfl⟩ h
  unfold calxlaw09_all_l1 at h
  refine cS (cS (cR ?_))
  refine ox_y rfl (yMI rfl) (ox_y rfl (yMS rfl) (ox_y rfl (y_len (us:=[]) us_26 rfl) (ox_y rfl (y_lss rfl rfl) ?_)))
  refine oN (eT ?_)
  rcases iOs h with ⟨hp4,h⟩ | ⟨hp4,h⟩
  ·refine cx_true (vB hp4) ?_
   refine cx_skip (eT (cS (cx_block (cS (cR ?_)))))
   refine ox_y rfl (yMS rfl) (ox_y rfl (yMS rfl) (ox_y rfl (yMI rfl) ?_))
   obtain ⟨hg5,h⟩:=gOs h
   refine ox_y rfl (y_indexR sl_26 (by decide) hg5.1 hg5.2 (RdL.arg hr1_0) (encL_len cI_len rfl) rfl rfl) ?_
   refine ox_y rfl (y_loadR1 (A:=Ac) (j:=(Int.toNat s2.2 * 1)) (v:=.int .i64 (rdL p1 s2.2)) sc_3 (RdL.arg hr1_0) rfl (encL_get0 cI_len hg5.1 (lt_nat hg5.2 rfl) rfl)) ?_
   obtain ⟨y6,hy7,h⟩:=bOs h
   refine ox_y rfl (y_call [.slice Aa p0.length ca,.int .i64 (rdL p1 s2.2)] go_49 rfl (fun W2 hW2 => calxlaw09_among_ok p0 (rdL p1 s2.2) y6 hy7 W2 Aa p0.length ca rfl ((RdL.arg hr0_0) W2 hW2)) rfl) (ox_y rfl (y_not rfl) ?_)
   refine oN (eT ?_)
   rcases iOs h with ⟨hp8,h⟩ | ⟨hp8,h⟩
   ·refine cx_true (vB hp8) ?_
    refine cS (cR ?_)
    refine ox_y rfl (y_assign_bool rfl) ?_
    refine oN (eT (cx_ret (ex_block_ret (ex_then_ret ?_))))
    obtain rfl:=sI h
    exact ex_stop ⟨rfl,_,rfl,(kp4 rfl)⟩
   ·refine cx_false (vB hp8) (cx_skip (ex_block ?_))
    refine eT (cR ?_)
    refine ox_y rfl (yMI rfl) (ox_y rfl (y_add rfl rfl) (ox_y rfl (yAI rfl) (oN ?_)))
    obtain rfl:=sI h
    exact ex_next ⟨_,rfl,(kp4 rfl)⟩
  ·refine cx_false (vB hp4) (cx_exit (ex_then_exit ?_))
   obtain rfl:=sI h
   exact ex_stop ⟨rfl,_,rfl,(kp4 rfl)⟩
 ·intro e L tm hJ
  rcases u3 with u10 | u11
  ·dsimp only at h hJ
   obtain ⟨rfl,tm0_u10,rfl,rfl⟩:=hJ
   refine ⟨(by intro hc; cases hc),?_⟩
   refine ex_block_ret (ex_then_ret ?_)
   obtain rfl:=sI h
   exact ex_res1 (.inl rfl) rfl (rVt (v:=.bool u10.1) rfl) (fun W2 hW2 => ⟨rfl,hW2.none⟩)
  ·dsimp only at h hJ
   obtain ⟨rfl,tm0_u11,rfl,rfl⟩:=hJ
   refine ⟨(by intro hc; cases hc),?_⟩
   refine ex_block_here ?_
   refine eT (cS (cR ?_))
   refine ox_y rfl (y_assign_bool rfl) ?_
   refine oN (eT (cx_ret ?_))
   obtain rfl:=sI h
   exact ex_res1 (.inl rfl) rfl (rVt (v:=.bool true) rfl) (fun W2 hW2 => ⟨rfl,hW2.none⟩)
end Go.Proofs.YtbblpokfbmekfaaGreat
set_option maxHeartbeats 4000000
set_option maxRecDepth 100000
namespace Go.Proofs.YtbblpokfbmekfaaGreat
open Go.RowKit (Below)
attribute [local irreducible] OX QX CX EX OpY Calls CallsIn
theorem calxlaw09_hanging_ok (p0:TL) (p1:(List Int)) (p2:TTrace) (p3:(List Int)) (p4:(List Int)) (res:Bool) (h:calxlaw09_hanging p0 p1 p2 p3 p4 = some res) (W:World) (Aa:Option Addr) (n0_0 ca : Nat) (hn0_0:n0_0 = p0.fNo.length) (hr0_0:Rd W Aa n0_0 ca (encL TNode_cells p0.fNo)) (Ab:Option Addr) (n0_1 cb : Nat) (ys0_1:List (Hd × TC)) (hn0_1:n0_1 = p0.fC.length) (hr0_1:Rd W Ab n0_1 cb (encL TClaim_cells2 ys0_1)) (hN0_1:NestW W (fun z : TC => z.fO) THop_cells ys0_1 p0.fC) (Ac:Option Addr) (n1_0 cc : Nat) (hn1_0:n1_0 = p1.length) (hr1_0:Rd W Ac n1_0 cc (encL cI p1)) (A2_0:Option Addr) (n2_0 c2_0 : Nat) (hn2_0:n2_0 = p2.fCase.length) (hr2_0:Rd W A2_0 n2_0 c2_0 (encL cI p2.fCase)) (A2_1:Option Addr) (n2_1 c2_1 : Nat) (hn2_1:n2_1 = p2.fC.length) (hr2_1:Rd W A2_1 n2_1 c2_1 (encL cI p2.fC)) (A3_0:Option Addr) (n3_0 c3_0 : Nat) (hn3_0:n3_0 = p3.length) (hr3_0:Rd W A3_0 n3_0 c3_0 (encL cI p3)) (A4_0:Option Addr) (n4_0 c4_0 : Nat) (hn4_0:n4_0 = p4.length) (hr4_0:Rd W A4_0 n4_0 c4_0 (encL cI p4)) :
  Calls Tryz.prog 47 [.agg #[.slice Aa n0_0 ca,.slice Ab n0_1 cb],.slice Ac n1_0 cc,.agg #[.slice A2_0 n2_0 c2_0,.slice A2_1 n2_1 c2_1],.slice A3_0 n3_0 c3_0,.slice A4_0 n4_0 c4_0].toArray W fun e W2 => e = .returned (.bool res) ∧ Ext W W2 []:=by
 subst hn0_0
 subst hn0_1
 subst hn1_0
 subst hn2_0
 subst hn2_1
 subst hn3_0
 subst hn4_0
 unfold calxlaw09_hanging at h
 refine calls_enter (m:=34) Tryz.func47 rfl rfl (nB rfl) ?_
 refine cS (cR ?_)
 refine ox_box [.slice Aa p0.fNo.length ca,.slice Ab p0.fC.length cb] rfl rfl rfl (fun b1 => ?_)
 refine ox_box [.slice A2_0 p2.fCase.length c2_0,.slice A2_1 p2.fC.length c2_1] rfl rfl rfl (fun b2 => ?_)
 refine ox_y rfl (y_assign_bool rfl) ?_
 refine oN (eT (cS (cR ?_)))
 refine ox_y rfl (y_loadN 0 [.slice Aa p0.fNo.length ca,.slice Ab p0.fC.length cb] ag_25 rfl rfl rfl) (ox_y rfl (yMS rfl) (ox_y rfl (yFA fo_64_0 rfl) (ox_y rfl (y_load1 1 (v:=.slice A2_0 p2.fCase.length c2_0) sc_26 rfl rfl rfl) ?_)))
 obtain ⟨y3,hy4,h⟩:=bOs h
 refine ox_call [.agg #[.slice Aa p0.fNo.length ca,.slice Ab p0.fC.length cb],.slice Ac p1.length cc,.slice A2_0 p2.fCase.length c2_0] _ _ _ rfl go_32 rfl (fun W2 hW2 => recall_Reach_ok p0 p1 p2.fCase y3 hy4 W2 Aa p0.fNo.length ca rfl ((RdL.arg hr0_0) W2 hW2) Ab p0.fC.length cb ys0_1 rfl ((RdL.arg hr0_1) W2 hW2) (NestL.at (NestL.arg hN0_1) W2 hW2) Ac p1.length cc rfl ((RdL.arg hr1_0) W2 hW2) A2_0 p2.fCase.length c2_0 rfl ((RdL.arg hr2_0) W2 hW2)) ?_
 rintro ⟨A5,n7,c6⟩ hn8
 replace hn8 : n7 = y3.1.length:=hn8; subst hn8
 refine ox_y rfl (y_move_tuple rfl) (ox_y rfl (y_extract (vs:=[.slice A5 y3.1.length c6,.int .i64 y3.2]) (v:=.slice A5 y3.1.length c6) rfl rfl) (ox_y rfl (y_extract (vs:=[.slice A5 y3.1.length c6,.int .i64 y3.2]) (v:=.int .i64 y3.2) rfl rfl) (ox_y rfl (yAS rfl) (ox_y rfl (yAI rfl) ?_))))
 refine oN (eT (cS (cR ?_)))
 refine ox_y rfl (yMI rfl) (ox_y rfl (y_eql rfl rfl) (ox_y rfl (y_move_bool rfl) ?_))
 obtain ⟨b10,hb11,h⟩:=bOs h
 refine ox_join 5 (fun tm0 => (upd (upd (upd (upd tm0 4 (.slice A4_0 p4.length c4_0)) 10 (.bool false)) 11 (.slice A5 y3.1.length c6)) 28 (.bool b10))) (fun tm0 => ?_) (fun key => ?_)
 ·refine ox_y rfl (y_move_bool rfl) ?_
  obtain ⟨b13,hb14,h⟩:=bOs h
  refine ox_join 4 (fun tm0 => (upd (upd tm0 10 (.bool false)) 33 (.bool b13))) (fun tm0 => ?_) (fun key => ?_)
  ·refine ox_y rfl (y_assign_bool rfl) ?_
   refine oN (eT (cx_ret ?_))
   obtain rfl:=sI h
   exact ex_res1 (.inl rfl) rfl (rVt (v:=.bool b13) rfl) (fun W2 hW2 => ⟨rfl,hW2.none⟩)
  ·clear h; rcases iOs hb14 with ⟨hp12,h⟩ | ⟨hp12,h⟩
   ·refine ox_y (sT rfl rfl rfl rfl hp12) (yMS rfl) (ox_y (sT rfl rfl rfl rfl hp12) (yMS rfl) ?_)
    obtain ⟨y15,hy16,h⟩:=bOs h
    refine ox_y (sT rfl rfl rfl rfl hp12) (y_call [.slice A5 y3.1.length c6,.slice A4_0 p4.length c4_0] go_48 rfl (fun W2 hW2 => calxlaw09_all_ok y3.1 p4 y15 hy16 W2 A5 y3.1.length c6 rfl ((RdL.row 2 rfl) W2 hW2) A4_0 p4.length c4_0 rfl ((RdL.arg hr4_0) W2 hW2)) rfl) (ox_y rfl (y_pick_tb (vB hp12) rfl) ?_)
    obtain rfl:=sI h
    exact key _ _ (kp (kp rfl))
   ·refine oSk (sF rfl rfl rfl rfl hp12) (oSk (sF rfl rfl rfl rfl hp12) (oSk (sF rfl rfl rfl rfl hp12) (ox_y rfl (y_pick_fb (vB hp12) rfl) ?_)))
    obtain rfl:=sI h
    exact key _ _ (kp (kp rfl))
 ·clear h; rcases iOs hb11 with ⟨hp9,h⟩ | ⟨hp9,h⟩
  ·refine ox_y (sT rfl rfl rfl rfl hp9) (yFA fo_64_1 rfl) (ox_y (sT rfl rfl rfl rfl hp9) (y_load1 1 (v:=.slice A2_1 p2.fC.length c2_1) sc_26 rfl rfl rfl) (ox_y (sT rfl rfl rfl rfl hp9) (yMS rfl) ?_))
   obtain ⟨y17,hy18,h⟩:=bOs h
   refine ox_y (sT rfl rfl rfl rfl hp9) (y_call [.slice A2_1 p2.fC.length c2_1,.slice A3_0 p3.length c3_0] go_48 rfl (fun W2 hW2 => calxlaw09_all_ok p2.fC p3 y17 hy18 W2 A2_1 p2.fC.length c2_1 rfl ((RdL.arg hr2_1) W2 hW2) A3_0 p3.length c3_0 rfl ((RdL.arg hr3_0) W2 hW2)) rfl) (ox_y rfl (y_pick_tb (vB hp9) rfl) ?_)
   obtain rfl:=sI h
   exact key _ _ (kp4 rfl)
  ·refine oSk (sF rfl rfl rfl rfl hp9) (oSk (sF rfl rfl rfl rfl hp9) (oSk (sF rfl rfl rfl rfl hp9) (oSk (sF rfl rfl rfl rfl hp9) (ox_y rfl (y_pick_fb (vB hp9) rfl) ?_))))
   obtain rfl:=sI h
   exact key _ _ (kp4 rfl)
theorem calxlaw09_RecallHanging_ok (p0:TL) (p1:(List Int)) (p2:Int) (p3:TTrace) (res:Bool) (h:calxlaw09_RecallHanging p0 p1 p2 p3 = some res) (W:World) (Aa:Option Addr) (n0_0 ca : Nat) (hn0_0:n0_0 = p0.fNo.length) (hr0_0:Rd W Aa n0_0 ca (encL TNode_cells p0.fNo)) (Ab:Option Addr) (n0_1 cb : Nat) (ys0_1:List (Hd × TC)) (hn0_1:n0_1 = p0.fC.length) (hr0_1:Rd W Ab n0_1 cb (encL TClaim_cells2 ys0_1)) (hN0_1:NestW W (fun z : TC => z.fO) THop_cells ys0_1 p0.fC) (Ac:Option Addr) (n1_0 cc : Nat) (hn1_0:n1_0 = p1.length) (hr1_0:Rd W Ac n1_0 cc (encL cI p1)) (A3_0:Option Addr) (n3_0 c3_0 : Nat) (hn3_0:n3_0 = p3.fCase.length) (hr3_0:Rd W A3_0 n3_0 c3_0 (encL cI p3.fCase)) (A3_1:Option Addr) (n3_1 c3_1 : Nat) (hn3_1:n3_1 = p3.fC.length) (hr3_1:Rd W A3_1 n3_1 c3_1 (encL cI p3.fC)) :
  Calls Tryz.prog 10 [.agg #[.slice Aa n0_0 ca,.slice Ab n0_1 cb],.slice Ac n1_0 cc,.int .i64 p2,.agg #[.slice A3_0 n3_0 c3_0,.slice A3_1 n3_1 c3_1]].toArray W fun e W2 => e = .returned (.bool res) ∧ Ext W W2 []:=by
 subst hn0_0
 subst hn0_1
 subst hn1_0
 subst hn3_0
 subst hn3_1
 unfold calxlaw09_RecallHanging at h
 refine calls_enter (m:=112) Tryz.func10 rfl rfl (nB rfl) ?_
 refine cS (cR ?_)
 refine ox_box [.slice Aa p0.fNo.length ca,.slice Ab p0.fC.length cb] rfl rfl rfl (fun b1 => ?_)
 refine ox_box [.slice A3_0 p3.fCase.length c3_0,.slice A3_1 p3.fC.length c3_1] rfl rfl rfl (fun b2 => ?_)
 refine ox_y rfl (y_assign_bool rfl) ?_
 refine oN (eT (cS (cR ?_)))
 obtain ⟨y3,hy4,h⟩:=bOs h
 refine ox_y rfl (y_call [] go_13 rfl (fun W2 hW2 => calxlaw09_head_ok  y3 hy4 W2 ) rfl) (ox_y rfl (y_assign_bool rfl) ?_)
 refine oN (eT (cS (cS (cR ?_))))
 refine ox_y rfl (y_loadN 0 [.slice Aa p0.fNo.length ca,.slice Ab p0.fC.length cb] ag_25 rfl rfl rfl) ?_
 obtain ⟨y5,hy6,h⟩:=bOs h
 refine ox_y rfl (y_call [.agg #[.slice Aa p0.fNo.length ca,.slice Ab p0.fC.length cb]] go_14 rfl (fun W2 hW2 => calxlaw09_few_ok p0 y5 hy6 W2 Aa p0.fNo.length ca rfl ((RdL.arg hr0_0) W2 hW2) Ab p0.fC.length cb ys0_1 rfl ((RdL.arg hr0_1) W2 hW2) (NestL.at (NestL.arg hN0_1) W2 hW2)) rfl) (ox_y rfl (y_not rfl) (ox_y rfl (y_move_bool rfl) ?_))
 refine ox_join 4 (fun tm0 => (upd (upd (upd (upd (upd (upd (upd tm0 1 (.slice Ac p1.length cc)) 2 (.int .i64 p2)) 4 (.pointer (some ⟨b1,0,none⟩))) 7 (.pointer (some ⟨b2,0,none⟩))) 8 (.bool false)) 9 (.bool y3)) 25 (.bool ((!y5) || (decide (30 < (p1.length:Int))))))) (fun tm0 => ?_) (fun key => ?_)
 ·refine ox_y rfl (y_move_bool rfl) ?_
  refine ox_join 5 (fun tm0 => (upd (upd (upd (upd (upd (upd (upd tm0 1 (.slice Ac p1.length cc)) 2 (.int .i64 p2)) 4 (.pointer (some ⟨b1,0,none⟩))) 7 (.pointer (some ⟨b2,0,none⟩))) 8 (.bool false)) 9 (.bool y3)) 31 (.bool (((!y5) || (decide (30 < (p1.length:Int)))) || (decide (100 < (p3.fCase.length:Int))))))) (fun tm0 => ?_) (fun key => ?_)
  ·refine ox_y rfl (y_move_bool rfl) ?_
   refine ox_join 5 (fun tm0 => (upd (upd (upd (upd (upd (upd (upd tm0 1 (.slice Ac p1.length cc)) 2 (.int .i64 p2)) 4 (.pointer (some ⟨b1,0,none⟩))) 7 (.pointer (some ⟨b2,0,none⟩))) 8 (.bool false)) 9 (.bool y3)) 37 (.bool ((((!y5) || (decide (30 < (p1.length:Int)))) || (decide (100 < (p3.fCase.length:Int)))) || (decide (100 < (p3.fC.length:Int))))))) (fun tm0 => ?_) (fun key => ?_)
   ·refine oN (eT ?_)
    rcases iOs h with ⟨hp10,h⟩ | ⟨hp10,h⟩
    ·refine cx_true (vB hp10) ?_
     refine cS (cR ?_)
     refine ox_y rfl (y_move_bool rfl) (ox_y rfl (y_assign_bool rfl) ?_)
     refine oN (eT (cx_ret (ex_then_ret ?_)))
     obtain rfl:=sI h
     exact ex_res1 (.inl rfl) rfl (rVt (v:=.bool y3) rfl) (fun W2 hW2 => ⟨rfl,hW2.none⟩)
    ·refine cx_false (vB hp10) ?_
     refine cx_skip (eT (cS (cR ?_)))
     refine ox_y rfl (y_loadN 0 [.slice Aa p0.fNo.length ca,.slice Ab p0.fC.length cb] ag_25 rfl rfl rfl) (ox_y rfl (yMS rfl) (ox_y rfl (yMI rfl) ?_))
     obtain ⟨y11,hy12,h⟩:=bOs h
     refine ox_call [.agg #[.slice Aa p0.fNo.length ca,.slice Ab p0.fC.length cb],.slice Ac p1.length cc,.int .i64 p2] _ _ _ rfl go_20 rfl (fun W2 hW2 => recall_Hangs_ok p0 p1 p2 y11 hy12 W2 Aa p0.fNo.length ca rfl ((RdL.arg hr0_0) W2 hW2) Ab p0.fC.length cb ys0_1 rfl ((RdL.arg hr0_1) W2 hW2) (NestL.at (NestL.arg hN0_1) W2 hW2) Ac p1.length cc rfl ((RdL.arg hr1_0) W2 hW2)) ?_
     rintro ⟨A13,n15,c14⟩ hn16
     replace hn16 : n15 = y11.1.length:=hn16; subst hn16
     refine ox_y rfl (y_move_tuple rfl) (ox_y rfl (y_extract (vs:=[.slice A13 y11.1.length c14,.int .i64 y11.2]) (v:=.slice A13 y11.1.length c14) rfl rfl) (ox_y rfl (y_extract (vs:=[.slice A13 y11.1.length c14,.int .i64 y11.2]) (v:=.int .i64 y11.2) rfl rfl) (ox_y rfl (yAS rfl) (ox_y rfl (yAI rfl) ?_))))
     refine oN (eT (cS (cR ?_)))
     refine ox_y rfl (y_loadN 0 [.slice Aa p0.fNo.length ca,.slice Ab p0.fC.length cb] ag_25 rfl rfl rfl) (ox_y rfl (yMS rfl) (ox_y rfl (yMI rfl) ?_))
     obtain ⟨y17,hy18,h⟩:=bOs h
     refine ox_call [.agg #[.slice Aa p0.fNo.length ca,.slice Ab p0.fC.length cb],.slice Ac p1.length cc,.int .i64 p2] _ _ _ rfl go_22 rfl (fun W2 hW2 => recall_Gates_ok p0 p1 p2 y17 hy18 W2 Aa p0.fNo.length ca rfl ((RdL.arg hr0_0) W2 hW2) Ab p0.fC.length cb ys0_1 rfl ((RdL.arg hr0_1) W2 hW2) (NestL.at (NestL.arg hN0_1) W2 hW2) Ac p1.length cc rfl ((RdL.arg hr1_0) W2 hW2)) ?_
     rintro ⟨A19,n21,c20⟩ hn22
     replace hn22 : n21 = y17.1.length:=hn22; subst hn22
     refine ox_y rfl (y_move_tuple rfl) (ox_y rfl (y_extract (vs:=[.slice A19 y17.1.length c20,.int .i64 y17.2]) (v:=.slice A19 y17.1.length c20) rfl rfl) (ox_y rfl (y_extract (vs:=[.slice A19 y17.1.length c20,.int .i64 y17.2]) (v:=.int .i64 y17.2) rfl rfl) (ox_y rfl (yAS rfl) (ox_y rfl (yAI rfl) ?_))))
     refine oN (eT (cS (cR ?_)))
     refine ox_y rfl (y_loadN 0 [.slice Aa p0.fNo.length ca,.slice Ab p0.fC.length cb] ag_25 rfl rfl rfl) (ox_y rfl (yMS rfl) (ox_y rfl (yMI rfl) ?_))
     obtain ⟨y23,hy24,h⟩:=bOs h
     refine ox_call [.agg #[.slice Aa p0.fNo.length ca,.slice Ab p0.fC.length cb],.slice Ac p1.length cc,.int .i64 p2] _ _ _ rfl go_42 rfl (fun W2 hW2 => recall_Way_ok p0 p1 p2 y23 hy24 W2 Aa p0.fNo.length ca rfl ((RdL.arg hr0_0) W2 hW2) Ab p0.fC.length cb ys0_1 rfl ((RdL.arg hr0_1) W2 hW2) (NestL.at (NestL.arg hN0_1) W2 hW2) Ac p1.length cc rfl ((RdL.arg hr1_0) W2 hW2)) ?_
     rintro ⟨⟨A25,n29,c26⟩,⟨A27,n31,c28⟩⟩ ⟨hn30,hn32⟩
     replace hn30 : n29 = y23.1.fCase.length:=hn30; subst hn30
     replace hn32 : n31 = y23.1.fC.length:=hn32; subst hn32
     try dsimp only [lna,lca,lsz,lss]
     refine ox_y rfl (y_move_tuple rfl) (ox_y rfl (y_extract (vs:=[.agg #[.slice A25 y23.1.fCase.length c26,.slice A27 y23.1.fC.length c28],.int .i64 y23.2]) (v:=.agg #[.slice A25 y23.1.fCase.length c26,.slice A27 y23.1.fC.length c28]) rfl rfl) (ox_y rfl (y_extract (vs:=[.agg #[.slice A25 y23.1.fCase.length c26,.slice A27 y23.1.fC.length c28],.int .i64 y23.2]) (v:=.int .i64 y23.2) rfl rfl) ?_))
     refine ox_alloc ze_64 rfl (fun b33 => ?_)
     try dsimp only [lna,lca,lsz,lss]
     refine ox_n rfl (y_storeN 6 [.slice A25 y23.1.fCase.length c26,.slice A27 y23.1.fC.length c28] sz_64 rfl (nB rfl) rfl rfl rfl) (ox_y rfl (yAI rfl) ?_)
     refine oN (eT (cS (cS (cR ?_))))
     refine ox_y rfl (yMI rfl) (ox_y rfl (yMI rfl) (ox_y rfl (y_neq rfl rfl) (ox_y rfl (y_move_bool rfl) ?_)))
     refine ox_join 4 (fun tm0 => (upd (upd (upd (upd (upd (upd (upd (upd (upd (upd (upd tm0 1 (.slice Ac p1.length cc)) 2 (.int .i64 p2)) 4 (.pointer (some ⟨b1,0,none⟩))) 7 (.pointer (some ⟨b2,0,none⟩))) 8 (.bool false)) 9 (.bool y3)) 10 (.slice A13 y11.1.length c14)) 11 (.int .i64 y11.2)) 12 (.slice A19 y17.1.length c20)) 14 (.pointer (some ⟨b33,0,none⟩))) 67 (.bool ((y11.2 != y17.2) || (y11.2 != y23.2))))) (fun tm0 => ?_) (fun key => ?_)
     ·refine oN (eT ?_)
      rcases iOs h with ⟨hp35,h⟩ | ⟨hp35,h⟩
      ·refine cx_true (vB hp35) ?_
       refine cS (cR ?_)
       refine ox_y rfl (y_assign_bool rfl) ?_
       refine oN (eT (cx_ret (ex_then_ret ?_)))
       obtain rfl:=sI h
       exact ex_res1 (.inl rfl) rfl (rVt (v:=.bool false) rfl) (fun W2 hW2 => ⟨rfl,hW2.none⟩)
      ·refine cx_false (vB hp35) ?_
       refine cx_skip (eT (cS (cS (cR ?_))))
       refine ox_y rfl (yMI rfl) (ox_y rfl (y_neq rfl rfl) ?_)
       refine oN (eT ?_)
       rcases iOs h with ⟨hp36,h⟩ | ⟨hp36,h⟩
       ·refine cx_true (vB hp36) ?_
        refine cS (cR ?_)
        refine ox_y rfl (y_move_bool rfl) (ox_y rfl (y_assign_bool rfl) ?_)
        refine oN (eT (cx_ret (ex_then_ret ?_)))
        obtain rfl:=sI h
        exact ex_res1 (.inl rfl) rfl (rVt (v:=.bool y3) rfl) (fun W2 hW2 => ⟨rfl,hW2.none⟩)
       ·refine cx_false (vB hp36) ?_
        refine cx_skip (eT (cS (cS (cR ?_))))
        refine ox_y rfl (y_loadN 0 [.slice Aa p0.fNo.length ca,.slice Ab p0.fC.length cb] ag_25 rfl rfl rfl) (ox_y rfl (yMS rfl) (ox_y rfl (yMI rfl) (ox_y rfl (y_loadN 1 [.slice A3_0 p3.fCase.length c3_0,.slice A3_1 p3.fC.length c3_1] ag_64 rfl rfl rfl) ?_)))
        obtain ⟨y37,hy38,h⟩:=bOs h
        refine ox_y rfl (y_call [.agg #[.slice Aa p0.fNo.length ca,.slice Ab p0.fC.length cb],.slice Ac p1.length cc,.int .i64 p2,.agg #[.slice A3_0 p3.fCase.length c3_0,.slice A3_1 p3.fC.length c3_1]] go_46 rfl (fun W2 hW2 => recall_CheckWay_ok p0 p1 p2 p3 y37 hy38 W2 Aa p0.fNo.length ca rfl ((RdL.arg hr0_0) W2 hW2) Ab p0.fC.length cb ys0_1 rfl ((RdL.arg hr0_1) W2 hW2) (NestL.at (NestL.arg hN0_1) W2 hW2) Ac p1.length cc rfl ((RdL.arg hr1_0) W2 hW2) A3_0 p3.fCase.length c3_0 rfl ((RdL.arg hr3_0) W2 hW2) A3_1 p3.fC.length c3_1 rfl ((RdL.arg hr3_1) W2 hW2)) rfl) (ox_y rfl (y_eql rfl rfl) (ox_y rfl (y_move_bool rfl) ?_))
        obtain ⟨b40,hb41,h⟩:=bOs h
        refine ox_join 8 (fun tm0 => (upd (upd (upd (upd (upd (upd (upd (upd (upd tm0 1 (.slice Ac p1.length cc)) 2 (.int .i64 p2)) 4 (.pointer (some ⟨b1,0,none⟩))) 8 (.bool false)) 9 (.bool y3)) 10 (.slice A13 y11.1.length c14)) 12 (.slice A19 y17.1.length c20)) 14 (.pointer (some ⟨b33,0,none⟩))) 85 (.bool b40))) (fun tm0 => ?_) (fun key => ?_)
        ·refine ox_y rfl (y_move_bool rfl) ?_
         obtain ⟨b43,hb44,h⟩:=bOs h
         refine ox_join 8 (fun tm0 => (upd (upd (upd (upd (upd (upd (upd tm0 1 (.slice Ac p1.length cc)) 2 (.int .i64 p2)) 4 (.pointer (some ⟨b1,0,none⟩))) 8 (.bool false)) 9 (.bool y3)) 10 (.slice A13 y11.1.length c14)) 94 (.bool b43))) (fun tm0 => ?_) (fun key => ?_)
         ·refine oN (eT ?_)
          rcases iOs h with ⟨hp45,h⟩ | ⟨hp45,h⟩
          ·refine cx_true (vB hp45) ?_
           refine cS (cR ?_)
           refine ox_y rfl (y_assign_bool rfl) ?_
           refine oN (eT (cx_ret (ex_then_ret ?_)))
           obtain rfl:=sI h
           exact ex_res1 (.inl rfl) rfl (rVt (v:=.bool false) rfl) (fun W2 hW2 => ⟨rfl,hW2.none⟩)
          ·refine cx_false (vB hp45) ?_
           refine cx_skip (eT (cS (cS (cR ?_))))
           refine ox_y rfl (yAI rfl) ?_
           refine oN (eT (cx_block ?_))
           obtain ⟨u48,hl56,h⟩:=bOs h
           refine cx_loop (fun (s:(Bool × Int)) L tm => ∃ (tm0:Nat → Value),L = [cellsR b1 25 [.slice Aa p0.fNo.length ca,.slice Ab p0.fC.length cb],cellsR b2 64 [.slice A3_0 p3.fCase.length c3_0,.slice A3_1 p3.fC.length c3_1],rowR A13 c14 3 1 y11.1.length (encL cI y11.1),rowR A19 c20 3 1 y17.1.length (encL cI y17.1),rowR A25 c26 3 1 y23.1.fCase.length (encL cI y23.1.fCase),rowR A27 c28 3 1 y23.1.fC.length (encL cI y23.1.fC),cellsR b33 64 [.slice A25 y23.1.fCase.length c26,.slice A27 y23.1.fC.length c28]] ∧ tm = (upd (upd (upd (upd (upd (upd (upd (upd tm0 1 (.slice Ac p1.length cc)) 2 (.int .i64 p2)) 4 (.pointer (some ⟨b1,0,none⟩))) 8 (.bool s.1)) 9 (.bool y3)) 10 (.slice A13 y11.1.length c14)) 94 (.bool b43)) 16 (.int .i64 s.2))) (fun | (.inl s),e,L,tm => e = .ret ∧ ∃ (tm0:Nat → Value),L = [cellsR b1 25 [.slice Aa p0.fNo.length ca,.slice Ab p0.fC.length cb],cellsR b2 64 [.slice A3_0 p3.fCase.length c3_0,.slice A3_1 p3.fC.length c3_1],rowR A13 c14 3 1 y11.1.length (encL cI y11.1),rowR A19 c20 3 1 y17.1.length (encL cI y17.1),rowR A25 c26 3 1 y23.1.fCase.length (encL cI y23.1.fCase),rowR A27 c28 3 1 y23.1.fC.length (encL cI y23.1.fC),cellsR b33 64 [.slice A25 y23.1.fCase.length c26,.slice A27 y23.1.fC.length c28]] ∧ tm = (upd (upd (upd (upd (upd (upd (upd (upd tm0 1 (.slice Ac p1.length cc)) 2 (.int .i64 p2)) 4 (.pointer (some ⟨b1,0,none⟩))) 8 (.bool s.1)) 9 (.bool y3)) 10 (.slice A13 y11.1.length c14)) 94 (.bool b43)) 16 (.int .i64 s.2)) | (.inr s),e,L,tm => e = .exit 0 ∧ ∃ (tm0:Nat → Value),L = [cellsR b1 25 [.slice Aa p0.fNo.length ca,.slice Ab p0.fC.length cb],cellsR b2 64 [.slice A3_0 p3.fCase.length c3_0,.slice A3_1 p3.fC.length c3_1],rowR A13 c14 3 1 y11.1.length (encL cI y11.1),rowR A19 c20 3 1 y17.1.length (encL cI y17.1),rowR A25 c26 3 1 y23.1.fCase.length (encL cI y23.1.fCase),rowR A27 c28 3 1 y23.1.fC.length (encL cI y23.1.fC),cellsR b33 64 [.slice A25 y23.1.fCase.length c26,.slice A27 y23.1.fC.length c28]] ∧ tm = (upd (upd (upd (upd (upd (upd (upd (upd tm0 1 (.slice Ac p1.length cc)) 2 (.int .i64 p2)) 4 (.pointer (some ⟨b1,0,none⟩))) 8 (.bool s.1)) 9 (.bool y3)) 10 (.slice A13 y11.1.length c14)) 94 (.bool b43)) 16 (.int .i64 s.2))) hl56 ⟨_,rfl,(kp4 (kp4 rfl))⟩ ?_ ?_
           ·rintro s47 L tm st ⟨tm0_s47,rfl,rfl⟩ h
            unfold calxlaw09_RecallHanging_l1 at h
            refine cS (cS (cR ?_))
            refine ox_y rfl (yMI rfl) (ox_y rfl (yMS rfl) (ox_y rfl (y_len (us:=[]) us_26 rfl) (ox_y rfl (y_lss rfl rfl) ?_)))
            refine oN (eT ?_)
            rcases iOs h with ⟨hp49,h⟩ | ⟨hp49,h⟩
            ·refine cx_true (vB hp49) ?_
             refine cx_skip (eT (cS (cx_block (cS ?_))))
             obtain ⟨hg51,h⟩:=gOs h
             obtain ⟨y53,hy54,h⟩:=bOs h
             refine cx_drawsG [[],[],[],[],[],[3,4],[3,4,5],[3,4,5,6],[0,1,2,3,4,5,6,7],[0,1,2,3,4,5,6,7,8]] [(none,0,[true,true,true,true,true,true,true]),(none,0,[true,true,true,true,true,true,true]),(none,0,[true,true,true,true,true,true,true]),(none,0,[true,true,true,true,true,true,true]),(none,0,[true,true,true,true,true,true,true]),(none,0,[true,true,true,true,true,true,true]),(none,0,[true,true,true,true,true,true,true]),(none,1,[true,true,true,true,true,true,true]),(none,0,[true,true,true,true,true,true,true,true]),(none,0,[true,true,true,true,true,true,true,true])] [⟨fun _ => .agg #[.slice Aa p0.fNo.length ca,.slice Ab p0.fC.length cb],fun _ => noR,fun _ => []⟩,⟨fun _ => .slice Ac p1.length cc,fun _ => noR,fun _ => []⟩,⟨fun _ => .int .i64 p2,fun _ => noR,fun _ => []⟩,⟨fun _ => .slice A13 y11.1.length c14,fun _ => noR,fun _ => []⟩,⟨fun _ => .int .i64 s47.2,fun _ => noR,fun _ => []⟩,⟨fun _ => slA A13 (Int.toNat s47.2 * 1),fun _ => noR,fun _ => []⟩,⟨fun _ => .int .i64 (rdL y11.1 s47.2),fun _ => noR,fun _ => []⟩,⟨fun ξ50 => .slice (some ⟨(ξ50 7 0).2.1,0,none⟩) 1 1,fun _ => noR,fun ξ50 => [rowR (some ⟨(ξ50 7 0).2.1,0,none⟩) 1 3 1 1 (encL cI [(rdL y11.1 s47.2)])]⟩,⟨fun _ => .int .i64 y53,fun _ => noR,fun _ => []⟩,⟨fun _ => .bool (y53 != 0),fun _ => noR,fun _ => []⟩] 7 mixed (by kernel_rfl) (by kernel_rfl) ⟨⟨fun ξ50 ξ50' h => ⟨rfl,rfl,rfl⟩,fun _ => rfl⟩,⟨fun ξ50 ξ50' h => ⟨rfl,rfl,rfl⟩,fun _ => rfl⟩,⟨fun ξ50 ξ50' h => ⟨rfl,rfl,rfl⟩,fun _ => rfl⟩,⟨fun ξ50 ξ50' h => ⟨rfl,rfl,rfl⟩,fun _ => rfl⟩,⟨fun ξ50 ξ50' h => ⟨rfl,rfl,rfl⟩,fun _ => rfl⟩,⟨fun ξ50 ξ50' h => ⟨rfl,rfl,rfl⟩,fun _ => rfl⟩,⟨fun ξ50 ξ50' h => ⟨rfl,rfl,rfl⟩,fun _ => rfl⟩,⟨fun ξ50 ξ50' h => ⟨by simp only [h 7 (.inl rfl)],rfl,by simp only [h 7 (.inl rfl)]⟩,fun _ => rfl⟩,⟨fun ξ50 ξ50' h => ⟨rfl,rfl,rfl⟩,fun _ => rfl⟩,⟨fun ξ50 ξ50' h => ⟨rfl,rfl,rfl⟩,fun _ => rfl⟩,trivial⟩ rfl (fun ξ50 => ?_)
             refine gx_o rfl (fun L2 => ?_) ?_
             ·dsimp only [maskL,lca,lna]
              refine ox_y rfl (y_loadN 0 [.slice Aa p0.fNo.length ca,.slice Ab p0.fC.length cb] ag_25 rfl rfl rfl) (oN ?_)
              exact ex_capG (fun _ => (none,0,0,[],noR)) rfl (List.append_nil _)
             dsimp only [aftL,lsz,lss,lna,lca,List.append_nil]
             refine gx_o rfl (fun L2 => ?_) ?_
             ·dsimp only [maskL,lca,lna]
              refine ox_y rfl (yMS rfl) (oN ?_)
              exact ex_capG (fun _ => (none,0,0,[],noR)) rfl (List.append_nil _)
             dsimp only [aftL,lsz,lss,lna,lca,List.append_nil]
             refine gx_o rfl (fun L2 => ?_) ?_
             ·dsimp only [maskL,lca,lna]
              refine ox_y rfl (yMI rfl) (oN ?_)
              exact ex_capG (fun _ => (none,0,0,[],noR)) rfl (List.append_nil _)
             dsimp only [aftL,lsz,lss,lna,lca,List.append_nil]
             refine gx_o rfl (fun L2 => ?_) ?_
             ·dsimp only [maskL,lca,lna]
              refine ox_y rfl (yMS rfl) (oN ?_)
              exact ex_capG (fun _ => (none,0,0,[],noR)) rfl (List.append_nil _)
             dsimp only [aftL,lsz,lss,lna,lca,List.append_nil]
             refine gx_o rfl (fun L2 => ?_) ?_
             ·dsimp only [maskL,lca,lna]
              refine ox_y rfl (yMI rfl) (oN ?_)
              exact ex_capG (fun _ => (none,0,0,[],noR)) rfl (List.append_nil _)
             dsimp only [aftL,lsz,lss,lna,lca,List.append_nil]
             refine gx_o rfl (fun L2 => ?_) ?_
             ·dsimp only [maskL,lca,lna]
              refine ox_y rfl (y_indexR sl_26 (by decide) hg51.1 hg51.2 (RdL.row 2 rfl) (encL_len cI_len rfl) rfl rfl) ?_
              refine oN ?_
              exact ex_capG (fun _ => (none,0,0,[],noR)) rfl (List.append_nil _)
             dsimp only [aftL,lsz,lss,lna,lca,List.append_nil]
             refine gx_o rfl (fun L2 => ?_) ?_
             ·dsimp only [maskL,lca,lna]
              refine ox_y rfl (y_loadR1 (A:=A13) (j:=(Int.toNat s47.2 * 1)) (v:=.int .i64 (rdL y11.1 s47.2)) sc_3 (RdL.row 2 rfl) rfl (encL_get0 cI_len hg51.1 (lt_nat hg51.2 rfl) rfl)) (oN ?_)
              exact ex_capG (fun _ => (none,0,0,[],noR)) rfl (List.append_nil _)
             dsimp only [aftL,lsz,lss,lna,lca,List.append_nil]
             refine gx_o rfl (fun L2 => ?_) ?_
             ·dsimp only [maskL,lca,lna]
              refine ox_buildSliceE 1 (encL cI [(rdL y11.1 s47.2)]) _ mc_3_1 us_26 ze_3 by_3 (by decide) (by decide) (by kernel_rfl) (encL_len cI_len rfl) rfl (fun b52 => ?_)
              refine oN ?_
              exact ex_capG (fun _ => (none,b52,0,[],noR)) rfl rfl
             dsimp only [aftL,lsz,lss,lna,lca,List.append_nil]
             refine gx_o rfl (fun L2 => ?_) ?_
             ·dsimp only [maskL,lca,lna]
              refine ox_y rfl (y_call [.agg #[.slice Aa p0.fNo.length ca,.slice Ab p0.fC.length cb],.slice Ac p1.length cc,.int .i64 p2,.slice (some ⟨(ξ50 7 0).2.1,0,none⟩) 1 1] go_30 rfl (fun W2 hW2 => recall_CheckCut_ok p0 p1 p2 [(rdL y11.1 s47.2)] y53 hy54 W2 Aa p0.fNo.length ca rfl ((RdL.arg hr0_0) W2 hW2) Ab p0.fC.length cb ys0_1 rfl ((RdL.arg hr0_1) W2 hW2) (NestL.at (NestL.arg hN0_1) W2 hW2) Ac p1.length cc rfl ((RdL.arg hr1_0) W2 hW2) (some ⟨(ξ50 7 0).2.1,0,none⟩) 1 1 rfl ((RdL.row 7 rfl) W2 hW2)) rfl) (oN ?_)
              exact ex_capG (fun _ => (none,0,0,[],noR)) rfl (List.append_nil _)
             dsimp only [aftL,lsz,lss,lna,lca,List.append_nil]
             refine gx_o rfl (fun L2 => ?_) ?_
             ·dsimp only [maskL,lca,lna]
              refine ox_y rfl (y_neq rfl rfl) (oN ?_)
              exact ex_capG (fun _ => (none,0,0,[],noR)) rfl (List.append_nil _)
             dsimp only [aftL,lsz,lss,lna,lca,List.append_nil]
             refine gx_nil (eT ?_)
             rcases iOs h with ⟨hp55,h⟩ | ⟨hp55,h⟩
             ·refine cx_true (vB hp55) ?_
              refine cS (cR ?_)
              try dsimp only [lna,lca,lsz,lss]
              refine ox_y rfl (y_assign_bool rfl) ?_
              refine oN (eT (cx_ret (ex_block_ret (ex_then_ret ?_))))
              refine ex_take 7 ?_
              obtain rfl:=sI h
              exact ex_stop ⟨rfl,_,rfl,(kp4 (kp4 rfl))⟩
             ·refine cx_false (vB hp55) (cx_skip (ex_block ?_))
              refine eT (cR ?_)
              try dsimp only [lna,lca,lsz,lss]
              refine ox_y rfl (yMI rfl) (ox_y rfl (y_add rfl rfl) (ox_y rfl (yAI rfl) (oN (ex_take 7 ?_))))
              obtain rfl:=sI h
              exact ex_next ⟨_,rfl,(kp4 (kp4 rfl))⟩
            ·refine cx_false (vB hp49) (cx_exit (ex_then_exit ?_))
             obtain rfl:=sI h
             exact ex_stop ⟨rfl,_,rfl,(kp4 (kp4 rfl))⟩
           ·intro e L tm hJ
            rcases u48 with u57 | u58
            ·dsimp only at h hJ
             obtain ⟨rfl,tm0_u57,rfl,rfl⟩:=hJ
             refine ⟨(by intro hc; cases hc),?_⟩
             refine ex_block_ret (ex_then_ret ?_)
             obtain rfl:=sI h
             exact ex_res1 (.inl rfl) rfl (rVt (v:=.bool u57.1) rfl) (fun W2 hW2 => ⟨rfl,hW2.none⟩)
            ·dsimp only at h hJ
             obtain ⟨rfl,tm0_u58,rfl,rfl⟩:=hJ
             refine ⟨(by intro hc; cases hc),?_⟩
             refine ex_block_here ?_
             refine eT (cS (cR ?_))
             refine ox_y rfl (y_move_bool rfl) (ox_y rfl (y_assign_bool rfl) ?_)
             refine oN (eT (cx_ret ?_))
             obtain rfl:=sI h
             exact ex_res1 (.inl rfl) rfl (rVt (v:=.bool y3) rfl) (fun W2 hW2 => ⟨rfl,hW2.none⟩)
         ·clear h; rcases iOs hb44 with ⟨hp42,h⟩ | ⟨hp42,h⟩
          ·refine oSk (sF rfl rfl rfl rfl hp42) (oSk (sF rfl rfl rfl rfl hp42) (oSk (sF rfl rfl rfl rfl hp42) (oSk (sF rfl rfl rfl rfl hp42) (oSk (sF rfl rfl rfl rfl hp42) (oSk (sF rfl rfl rfl rfl hp42) (oSk (sF rfl rfl rfl rfl hp42) (ox_y rfl (y_pick_tb (vB hp42) rfl) ?_)))))))
           obtain rfl:=sI h
           exact key _ _ (kp4 (kp (kp (kp rfl))))
          ·refine ox_y (sT rfl rfl rfl rfl hp42) (y_loadN 0 [.slice Aa p0.fNo.length ca,.slice Ab p0.fC.length cb] ag_25 rfl rfl rfl) (ox_y (sT rfl rfl rfl rfl hp42) (yMS rfl) (ox_y (sT rfl rfl rfl rfl hp42) (y_loadN 6 [.slice A25 y23.1.fCase.length c26,.slice A27 y23.1.fC.length c28] ag_64 rfl rfl rfl) (ox_y (sT rfl rfl rfl rfl hp42) (yMS rfl) (ox_y (sT rfl rfl rfl rfl hp42) (yMS rfl) ?_))))
           obtain ⟨y59,hy60,h⟩:=bOs h
           refine ox_y (sT rfl rfl rfl rfl hp42) (y_call [.agg #[.slice Aa p0.fNo.length ca,.slice Ab p0.fC.length cb],.slice Ac p1.length cc,.agg #[.slice A25 y23.1.fCase.length c26,.slice A27 y23.1.fC.length c28],.slice A13 y11.1.length c14,.slice A19 y17.1.length c20] go_47 rfl (fun W2 hW2 => calxlaw09_hanging_ok p0 p1 y23.1 y11.1 y17.1 y59 hy60 W2 Aa p0.fNo.length ca rfl ((RdL.arg hr0_0) W2 hW2) Ab p0.fC.length cb ys0_1 rfl ((RdL.arg hr0_1) W2 hW2) (NestL.at (NestL.arg hN0_1) W2 hW2) Ac p1.length cc rfl ((RdL.arg hr1_0) W2 hW2) A25 y23.1.fCase.length c26 rfl ((RdL.row 4 rfl) W2 hW2) A27 y23.1.fC.length c28 rfl ((RdL.row 5 rfl) W2 hW2) A13 y11.1.length c14 rfl ((RdL.row 2 rfl) W2 hW2) A19 y17.1.length c20 rfl ((RdL.row 3 rfl) W2 hW2)) rfl) (ox_y (sT rfl rfl rfl rfl hp42) (y_not rfl) (ox_y rfl (y_pick_fb (vB hp42) rfl) ?_))
           obtain rfl:=sI h
           exact key _ _ (kp4 (kp (kp (kp rfl))))
        ·clear h; rcases iOs hb41 with ⟨hp39,h⟩ | ⟨hp39,h⟩
         ·refine ox_y (sT rfl rfl rfl rfl hp39) (y_loadN 0 [.slice Aa p0.fNo.length ca,.slice Ab p0.fC.length cb] ag_25 rfl rfl rfl) (ox_y (sT rfl rfl rfl rfl hp39) (yMS rfl) (ox_y (sT rfl rfl rfl rfl hp39) (y_loadN 1 [.slice A3_0 p3.fCase.length c3_0,.slice A3_1 p3.fC.length c3_1] ag_64 rfl rfl rfl) (ox_y (sT rfl rfl rfl rfl hp39) (yMS rfl) (ox_y (sT rfl rfl rfl rfl hp39) (yMS rfl) ?_))))
          obtain ⟨y61,hy62,h⟩:=bOs h
          refine ox_y (sT rfl rfl rfl rfl hp39) (y_call [.agg #[.slice Aa p0.fNo.length ca,.slice Ab p0.fC.length cb],.slice Ac p1.length cc,.agg #[.slice A3_0 p3.fCase.length c3_0,.slice A3_1 p3.fC.length c3_1],.slice A13 y11.1.length c14,.slice A19 y17.1.length c20] go_47 rfl (fun W2 hW2 => calxlaw09_hanging_ok p0 p1 p3 y11.1 y17.1 y61 hy62 W2 Aa p0.fNo.length ca rfl ((RdL.arg hr0_0) W2 hW2) Ab p0.fC.length cb ys0_1 rfl ((RdL.arg hr0_1) W2 hW2) (NestL.at (NestL.arg hN0_1) W2 hW2) Ac p1.length cc rfl ((RdL.arg hr1_0) W2 hW2) A3_0 p3.fCase.length c3_0 rfl ((RdL.arg hr3_0) W2 hW2) A3_1 p3.fC.length c3_1 rfl ((RdL.arg hr3_1) W2 hW2) A13 y11.1.length c14 rfl ((RdL.row 2 rfl) W2 hW2) A19 y17.1.length c20 rfl ((RdL.row 3 rfl) W2 hW2)) rfl) (ox_y (sT rfl rfl rfl rfl hp39) (y_not rfl) (ox_y rfl (y_pick_tb (vB hp39) rfl) ?_))
          obtain rfl:=sI h
          exact key _ _ (kp4 (kp4 (kp rfl)))
         ·refine oSk (sF rfl rfl rfl rfl hp39) (oSk (sF rfl rfl rfl rfl hp39) (oSk (sF rfl rfl rfl rfl hp39) (oSk (sF rfl rfl rfl rfl hp39) (oSk (sF rfl rfl rfl rfl hp39) (oSk (sF rfl rfl rfl rfl hp39) (oSk (sF rfl rfl rfl rfl hp39) (ox_y rfl (y_pick_fb (vB hp39) rfl) ?_)))))))
          obtain rfl:=sI h
          exact key _ _ (kp4 (kp4 (kp rfl)))
     ·rcases bool_cases (y11.2 != y17.2) with hp34 | hp34
      ·refine oSk (sF rfl rfl rfl rfl hp34) (oSk (sF rfl rfl rfl rfl hp34) (oSk (sF rfl rfl rfl rfl hp34) (ox_y rfl (y_pick_tb (vB hp34) rfl) ?_)))
       exact key _ _ (keep (keep (keep (keep (keep (keep (keep (keep (keep (keep (keep rfl rfl) rfl) rfl) rfl) rfl) rfl) rfl) rfl) rfl) rfl) (vB (or_t hp34)))
      ·refine ox_y (sT rfl rfl rfl rfl hp34) (yMI rfl) (ox_y (sT rfl rfl rfl rfl hp34) (yMI rfl) (ox_y (sT rfl rfl rfl rfl hp34) (y_neq rfl rfl) (ox_y rfl (y_pick_fb (vB hp34) rfl) ?_)))
       exact key _ _ (keep (keep (keep (keep (keep (keep (keep (keep (keep (keep (keep rfl rfl) rfl) rfl) rfl) rfl) rfl) rfl) rfl) rfl) rfl) (vB (or_f hp34)))
   ·rcases bool_cases (((!y5) || (decide (30 < (p1.length:Int)))) || (decide (100 < (p3.fCase.length:Int)))) with hp9 | hp9
    ·refine oSk (sF rfl rfl rfl rfl hp9) (oSk (sF rfl rfl rfl rfl hp9) (oSk (sF rfl rfl rfl rfl hp9) (oSk (sF rfl rfl rfl rfl hp9) (ox_y rfl (y_pick_tb (vB hp9) rfl) ?_))))
     exact key _ _ (keep (keep (keep (keep (keep (keep (keep rfl rfl) rfl) rfl) rfl) rfl) rfl) (vB (or_t hp9)))
    ·refine ox_y (sT rfl rfl rfl rfl hp9) (yFA fo_64_1 rfl) (ox_y (sT rfl rfl rfl rfl hp9) (y_load1 1 (v:=.slice A3_1 p3.fC.length c3_1) sc_26 rfl rfl rfl) (ox_y (sT rfl rfl rfl rfl hp9) (y_len (us:=[]) us_26 rfl) (ox_y (sT rfl rfl rfl rfl hp9) (y_gtr rfl rfl) (ox_y rfl (y_pick_fb (vB hp9) rfl) ?_))))
     exact key _ _ (keep (keep (keep (keep (keep (keep (keep rfl rfl) rfl) rfl) rfl) rfl) rfl) (vB (or_f hp9)))
  ·rcases bool_cases ((!y5) || (decide (30 < (p1.length:Int)))) with hp8 | hp8
   ·refine oSk (sF rfl rfl rfl rfl hp8) (oSk (sF rfl rfl rfl rfl hp8) (oSk (sF rfl rfl rfl rfl hp8) (oSk (sF rfl rfl rfl rfl hp8) (ox_y rfl (y_pick_tb (vB hp8) rfl) ?_))))
    exact key _ _ (keep (keep (keep (keep (keep (keep (keep rfl rfl) rfl) rfl) rfl) rfl) rfl) (vB (or_t hp8)))
   ·refine ox_y (sT rfl rfl rfl rfl hp8) (yFA fo_64_0 rfl) (ox_y (sT rfl rfl rfl rfl hp8) (y_load1 1 (v:=.slice A3_0 p3.fCase.length c3_0) sc_26 rfl rfl rfl) (ox_y (sT rfl rfl rfl rfl hp8) (y_len (us:=[]) us_26 rfl) (ox_y (sT rfl rfl rfl rfl hp8) (y_gtr rfl rfl) (ox_y rfl (y_pick_fb (vB hp8) rfl) ?_))))
    exact key _ _ (keep (keep (keep (keep (keep (keep (keep rfl rfl) rfl) rfl) rfl) rfl) rfl) (vB (or_f hp8)))
 ·rcases bool_cases (!y5) with hp7 | hp7
  ·refine oSk (sF rfl rfl rfl rfl hp7) (oSk (sF rfl rfl rfl rfl hp7) (oSk (sF rfl rfl rfl rfl hp7) (ox_y rfl (y_pick_tb (vB hp7) rfl) ?_)))
   exact key _ _ (keep (keep (keep (keep (keep (keep (keep rfl rfl) rfl) rfl) rfl) rfl) rfl) (vB (or_t hp7)))
  ·refine ox_y (sT rfl rfl rfl rfl hp7) (yMS rfl) (ox_y (sT rfl rfl rfl rfl hp7) (y_len (us:=[]) us_26 rfl) (ox_y (sT rfl rfl rfl rfl hp7) (y_gtr rfl rfl) (ox_y rfl (y_pick_fb (vB hp7) rfl) ?_)))
   exact key _ _ (keep (keep (keep (keep (keep (keep (keep rfl rfl) rfl) rfl) rfl) rfl) rfl) (vB (or_f hp7)))
end Go.Proofs.YtbblpokfbmekfaaGreat
