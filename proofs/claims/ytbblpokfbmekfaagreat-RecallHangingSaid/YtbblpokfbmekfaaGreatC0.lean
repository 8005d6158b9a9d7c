import Derived.Test.YtbblpokfbmekfaaGreatF
import Derived.Test.YtbblpokfbmekfaaGreatGv
import Derived.Test.YtbblpokfbmekfaaGreatG3
set_option maxHeartbeats 4000000
set_option maxRecDepth 100000
set_option linter.unusedVariables false
namespace Go.Proofs.YtbblpokfbmekfaaGreat
open Go.RowKit (Below)
attribute [local irreducible] OX QX CX EX OpY Calls CallsIn
theorem slices_IndexFunc_Node_Node_ok (p0:(List TN)) (p1:TN → Option Bool) (res:Int) (h:slices_IndexFunc_Node_Node p0 p1 = some res) (W:World) (Aa:Option Addr) (n0_0 ca : Nat) (hn0_0:n0_0 = p0.length) (hr0_0:Rd W Aa n0_0 ca (encL TNode_cells p0)) (fid1:Nat) (fst1 caps1 : List Value) (hgo1:goes Tryz.prog fid1 = true) (hof1:∀ W2,Below W.heap.size W W2 → ∀ x,∀ y,p1 x = some y → Calls Tryz.prog fid1 (fst1 ++ (([.agg #[.int .i64 x.fID,.int .i64 x.fLevel,.int .i64 x.fCost]] : List Value) ++ caps1)).toArray W2 fun e W3 => e = .returned (.bool y) ∧ Ext W2 W3 []) :
  Calls Tryz.prog 119 [.slice Aa n0_0 ca,.func (.func fid1) fst1.toArray caps1.toArray].toArray W fun e W2 => e = .returned (.int .i64 res) ∧ Ext W W2 []:=by
 subst hn0_0
 unfold slices_IndexFunc_Node_Node at h
 refine calls_enter (m:=19) Tryz.func119 rfl rfl (nB rfl) ?_
 refine cS (cR ?_)
 refine ox_y rfl (yAI rfl) ?_
 refine oN (eT (cS (cS (cR ?_))))
 refine ox_y rfl (yMS rfl) (ox_y rfl (y_len (us:=[]) us_22 rfl) (ox_y rfl (yMI rfl) ?_))
 refine oN (eT (cx_block ?_))
 obtain ⟨u3,hl9,h⟩:=bOs h
 refine cx_loop (fun (s:(Int × Int)) L tm => ∃ (tm0:Nat → Value),L = [] ∧ tm = (upd (upd (upd (upd (upd tm0 0 (.slice Aa p0.length ca)) 1 (.func (.func fid1) fst1.toArray caps1.toArray)) 4 (.int .i64 s.1)) 7 (.int .i64 (p0.length:Int))) 8 (.int .i64 s.2))) (fun | (.inl s),e,L,tm => e = .ret ∧ ∃ (tm0:Nat → Value),L = [] ∧ tm = (upd (upd (upd (upd (upd tm0 0 (.slice Aa p0.length ca)) 1 (.func (.func fid1) fst1.toArray caps1.toArray)) 4 (.int .i64 s.1)) 7 (.int .i64 (p0.length:Int))) 8 (.int .i64 s.2)) | (.inr s),e,L,tm => e = .exit 0 ∧ ∃ (tm0:Nat → Value),L = [] ∧ tm = (upd (upd (upd (upd (upd tm0 0 (.slice Aa p0.length ca)) 1 (.func (.func fid1) fst1.toArray caps1.toArray)) 4 (.int .i64 s.1)) 7 (.int .i64 (p0.length:Int))) 8 (.int .i64 s.2))) hl9 ⟨_,rfl,(kp4 (kp rfl))⟩ ?_ ?_
 ·rintro s2 L tm st ⟨tm0_s2,rfl,rfl⟩ h
  unfold slices_IndexFunc_Node_Node_l1 at h
  refine cS (cR ?_)
  refine ox_y rfl (y_lss rfl rfl) ?_
  refine oN (eT (cS ?_))
  rcases iOs h with ⟨hp4,h⟩ | ⟨hp4,h⟩
  ·refine cx_true (vB hp4) ?_
   refine cx_skip (eT (cS (cx_block (cS (cR ?_)))))
   refine ox_y rfl (yMI rfl) (ox_y rfl (yAI rfl) ?_)
   refine oN (eT (cS (cR ?_)))
   refine ox_y rfl (y_move (v:=.func (.func fid1) fst1.toArray caps1.toArray) rfl) (ox_y rfl (yMS rfl) (ox_y rfl (yMI rfl) ?_))
   obtain ⟨hg5,h⟩:=gOs h
   refine ox_y rfl (y_indexR sl_22 (by decide) hg5.1 hg5.2 (RdL.arg hr0_0) (encL_len TNode_cells_len rfl) rfl rfl) ?_
   refine ox_y rfl (y_loadRN (A:=Aa) (j:=(Int.toNat s2.2 * 3)) [.int .i64 ((rdL p0 s2.2).fID),.int .i64 ((rdL p0 s2.2).fLevel),.int .i64 ((rdL p0 s2.2).fCost)] ag_97 (Nat.succ_pos _) (RdL.arg hr0_0) rfl (encL_gets TNode_cells_len hg5.1 (lt_nat hg5.2 rfl))) ?_
   obtain ⟨y6,hy7,h⟩:=bOs h
   refine ox_y rfl (y_callvF [.agg #[.int .i64 ((rdL p0 s2.2).fID),.int .i64 ((rdL p0 s2.2).fLevel),.int .i64 ((rdL p0 s2.2).fCost)]] hgo1 rfl rfl (fun W2 hW2 => hof1 W2 hW2.below (TN.mk ((rdL p0 s2.2).fID) ((rdL p0 s2.2).fLevel) ((rdL p0 s2.2).fCost)) y6 hy7)) ?_
   refine oN (eT ?_)
   rcases iOs h with ⟨hp8,h⟩ | ⟨hp8,h⟩
   ·refine cx_true (vB hp8) ?_
    refine cS (cR ?_)
    refine ox_y rfl (yMI rfl) (ox_y rfl (yAI rfl) ?_)
    refine oN (eT (cx_ret (ex_block_ret (ex_then_ret ?_))))
    obtain rfl:=sI h
    exact ex_stop ⟨rfl,_,rfl,(kp4 (kp rfl))⟩
   ·refine cx_false (vB hp8) (cx_skip (ex_block ?_))
    refine eT (cR ?_)
    refine ox_y rfl (y_add rfl rfl) (ox_y rfl (yMI rfl) (oN ?_))
    obtain rfl:=sI h
    exact ex_next ⟨_,rfl,(kp4 (kp rfl))⟩
  ·refine cx_false (vB hp4) (cx_exit (ex_then_exit ?_))
   obtain rfl:=sI h
   exact ex_stop ⟨rfl,_,rfl,(kp4 (kp rfl))⟩
 ·intro e L tm hJ
  rcases u3 with u10 | u11
  ·dsimp only at h hJ
   obtain ⟨rfl,tm0_u10,rfl,rfl⟩:=hJ
   refine ⟨(by intro hc; cases hc),?_⟩
   refine ex_block_ret (ex_then_ret ?_)
   obtain rfl:=sI h
   exact ex_res1 (.inl rfl) rfl (rVt (v:=.int .i64 u10.1) rfl) (fun W2 hW2 => ⟨rfl,hW2.none⟩)
  ·dsimp only at h hJ
   obtain ⟨rfl,tm0_u11,rfl,rfl⟩:=hJ
   refine ⟨(by intro hc; cases hc),?_⟩
   refine ex_block_here ?_
   refine eT (cS (cR ?_))
   refine ox_y rfl (yAI rfl) ?_
   refine oN (eT (cx_ret ?_))
   obtain rfl:=sI h
   exact ex_res1 (.inl rfl) rfl (rVt (v:=.int .i64 (-1)) rfl) (fun W2 hW2 => ⟨rfl,hW2.none⟩)
theorem recall_nodeOf_1_ok (p0:TN) (cap0:Int) (res:Bool) (h:recall_nodeOf_1 p0 cap0 = some res) (W:World) (bc0:Nat) (hcap0:Rd W (some ⟨bc0,0,none⟩) 1 1 (cI cap0)) :
  Calls Tryz.prog 120 [.agg #[.int .i64 p0.fID,.int .i64 p0.fLevel,.int .i64 p0.fCost],.pointer (some ⟨bc0,0,none⟩)].toArray W fun e W2 => e = .returned (.bool res) ∧ Ext W W2 []:=by
 unfold recall_nodeOf_1 at h
 refine calls_enter (m:=8) Tryz.func120 rfl rfl (nB rfl) ?_
 refine cS (cR ?_)
 refine ox_box [.int .i64 p0.fID,.int .i64 p0.fLevel,.int .i64 p0.fCost] rfl rfl rfl (fun b1 => ?_)
 refine ox_y rfl (y_assign_bool rfl) ?_
 refine oN (eT (cS (cR ?_)))
 refine ox_y rfl (yFA fo_97_0 rfl) (ox_y rfl (y_load1 0 (v:=.int .i64 p0.fID) sc_3 rfl rfl rfl) (ox_y rfl (y_loadR1 (A:=(some ⟨bc0,0,none⟩)) (j:=0) (v:=.int .i64 cap0) sc_3 (RdL.arg hcap0) rfl rfl) (ox_y rfl (y_eql rfl rfl) (ox_y rfl (y_assign_bool rfl) ?_))))
 refine oN (eT (cx_ret ?_))
 obtain rfl:=sI h
 exact ex_res1 (.inl rfl) rfl (rVt (v:=.bool (p0.fID == cap0)) rfl) (fun W2 hW2 => ⟨rfl,hW2.none⟩)
theorem recall_nodeOf_ok (p0:TL) (p1:Int) (res:Int) (h:recall_nodeOf p0 p1 = some res) (W:World) (Aa:Option Addr) (n0_0 ca : Nat) (hn0_0:n0_0 = p0.fNo.length) (hr0_0:Rd W Aa n0_0 ca (encL TNode_cells p0.fNo)) (Ab:Option Addr) (n0_1 cb : Nat) (ys0_1:List (Hd × TC)) (hn0_1:n0_1 = p0.fC.length) (hr0_1:Rd W Ab n0_1 cb (encL TClaim_cells2 ys0_1)) (hN0_1:NestW W (fun z : TC => z.fO) THop_cells ys0_1 p0.fC) :
  Calls Tryz.prog 62 [.agg #[.slice Aa n0_0 ca,.slice Ab n0_1 cb],.int .i64 p1].toArray W fun e W2 => e = .returned (.int .i64 res) ∧ Ext W W2 []:=by
 subst hn0_0
 subst hn0_1
 unfold recall_nodeOf at h
 refine calls_enter (m:=9) Tryz.func62 rfl rfl (nB rfl) ?_
 refine cS (cR ?_)
 refine ox_box [.slice Aa p0.fNo.length ca,.slice Ab p0.fC.length cb] rfl rfl rfl (fun b1 => ?_)
 refine ox_box [.int .i64 p1] rfl rfl rfl (fun b2 => ?_)
 refine ox_y rfl (yAI rfl) ?_
 refine oN (eT (cS (cR ?_)))
 refine ox_y rfl (yFA fo_25_0 rfl) (ox_y rfl (y_load1 0 (v:=.slice Aa p0.fNo.length ca) sc_22 rfl rfl rfl) (ox_y rfl (y_makeFunc [.pointer (some ⟨b2,0,none⟩)] rfl rfl) ?_))
 obtain ⟨y4,hy5,h⟩:=bOs h
 refine ox_y rfl (y_call [.slice Aa p0.fNo.length ca,.func (.func 120) #[] #[.pointer (some ⟨b2,0,none⟩)]] go_119 rfl (fun W2 hW2 => slices_IndexFunc_Node_Node_ok p0.fNo (fun x3 => recall_nodeOf_1 x3 p1) y4 hy5 W2 Aa p0.fNo.length ca rfl ((RdL.arg hr0_0) W2 hW2) 120 [] [.pointer (some ⟨b2,0,none⟩)] go_120 (fun W3 hb x y hxy => recall_nodeOf_1_ok  x p1 y hxy W3 b2 (((RdL.cells 1 rfl) W2 hW2).later hb))) rfl) (ox_y rfl (yAI rfl) ?_)
 refine oN (eT (cx_ret ?_))
 obtain rfl:=sI h
 exact ex_res1 (.inl rfl) rfl (rVt (v:=.int .i64 y4) rfl) (fun W2 hW2 => ⟨rfl,hW2.none⟩)
theorem slices_IndexFunc_Claim_Claim_ok (p0:(List TC)) (p1:TC → Option Bool) (res:Int) (h:slices_IndexFunc_Claim_Claim p0 p1 = some res) (W:World) (Aa:Option Addr) (n0_0 ca : Nat) (ys0_0:List (Hd × TC)) (hn0_0:n0_0 = p0.length) (hr0_0:Rd W Aa n0_0 ca (encL TClaim_cells2 ys0_0)) (hN0_0:NestW W (fun z : TC => z.fO) THop_cells ys0_0 p0) (fid1:Nat) (fst1 caps1 : List Value) (hgo1:goes Tryz.prog fid1 = true) (hof1:∀ W2,Below W.heap.size W W2 → ∀ x,∀ (hx:Hd),Rd W2 hx.1 x.fO.length hx.2.2 (encL THop_cells x.fO) → ∀ y,p1 x = some y → Calls Tryz.prog fid1 (fst1 ++ (([.agg #[.int .i64 x.fID,.slice hx.1 x.fO.length hx.2.2]] : List Value) ++ caps1)).toArray W2 fun e W3 => e = .returned (.bool y) ∧ Ext W2 W3 []) :
  Calls Tryz.prog 139 [.slice Aa n0_0 ca,.func (.func fid1) fst1.toArray caps1.toArray].toArray W fun e W2 => e = .returned (.int .i64 res) ∧ Ext W W2 []:=by
 subst hn0_0
 unfold slices_IndexFunc_Claim_Claim at h
 refine calls_enter (m:=19) Tryz.func139 rfl rfl (nB rfl) ?_
 refine cS (cR ?_)
 refine ox_y rfl (yAI rfl) ?_
 refine oN (eT (cS (cS (cR ?_))))
 refine ox_y rfl (yMS rfl) (ox_y rfl (y_len (us:=[]) us_23 rfl) (ox_y rfl (yMI rfl) ?_))
 refine oN (eT (cx_block ?_))
 obtain ⟨u3,hl9,h⟩:=bOs h
 refine cx_loop (fun (s:(Int × Int)) L tm => ∃ (tm0:Nat → Value),L = [] ∧ tm = (upd (upd (upd (upd (upd tm0 0 (.slice Aa p0.length ca)) 1 (.func (.func fid1) fst1.toArray caps1.toArray)) 4 (.int .i64 s.1)) 7 (.int .i64 (p0.length:Int))) 8 (.int .i64 s.2))) (fun | (.inl s),e,L,tm => e = .ret ∧ ∃ (tm0:Nat → Value),L = [] ∧ tm = (upd (upd (upd (upd (upd tm0 0 (.slice Aa p0.length ca)) 1 (.func (.func fid1) fst1.toArray caps1.toArray)) 4 (.int .i64 s.1)) 7 (.int .i64 (p0.length:Int))) 8 (.int .i64 s.2)) | (.inr s),e,L,tm => e = .exit 0 ∧ ∃ (tm0:Nat → Value),L = [] ∧ tm = (upd (upd (upd (upd (upd tm0 0 (.slice Aa p0.length ca)) 1 (.func (.func fid1) fst1.toArray caps1.toArray)) 4 (.int .i64 s.1)) 7 (.int .i64 (p0.length:Int))) 8 (.int .i64 s.2))) hl9 ⟨_,rfl,(kp4 (kp rfl))⟩ ?_ ?_
 ·rintro s2 L tm st ⟨tm0_s2,rfl,rfl⟩ h
  unfold slices_IndexFunc_Claim_Claim_l1 at h
  refine cS (cR ?_)
  refine ox_y rfl (y_lss rfl rfl) ?_
  refine oN (eT (cS ?_))
  rcases iOs h with ⟨hp4,h⟩ | ⟨hp4,h⟩
  ·refine cx_true (vB hp4) ?_
   refine cx_skip (eT (cS (cx_block (cS (cR ?_)))))
   refine ox_y rfl (yMI rfl) (ox_y rfl (yAI rfl) ?_)
   refine oN (eT (cS (cR ?_)))
   refine ox_y rfl (y_move (v:=.func (.func fid1) fst1.toArray caps1.toArray) rfl) (ox_y rfl (yMS rfl) (ox_y rfl (yMI rfl) ?_))
   obtain ⟨hg5,h⟩:=gOs h
   refine ox_y rfl (y_indexR sl_23 (by decide) hg5.1 hg5.2 (RdL.arg hr0_0) (encL_len TClaim_cells2_len (NestP.hn hN0_0.p rfl)) rfl rfl) ?_
   refine ox_y rfl (y_loadRN (A:=Aa) (j:=(Int.toNat s2.2 * 2)) [.int .i64 ((rdL p0 s2.2).fID),.slice ((rdL ys0_0 s2.2).1.1) ((rdL p0 s2.2).fO.length) ((rdL ys0_0 s2.2).1.2.2)] ag_90 (Nat.succ_pos _) (RdL.arg hr0_0) rfl (gets_eq (TClaim_cells2_eq (NestP.snd hN0_0.p s2.2) (NestP.len hN0_0.p hg5.1 (lt_nat hg5.2 rfl))).symm (encL_gets TClaim_cells2_len hg5.1 (lt_nat hg5.2 (NestP.hn hN0_0.p rfl))))) ?_
   obtain ⟨y6,hy7,h⟩:=bOs h
   refine ox_y rfl (y_callvF [.agg #[.int .i64 ((rdL p0 s2.2).fID),.slice ((rdL ys0_0 s2.2).1.1) ((rdL p0 s2.2).fO.length) ((rdL ys0_0 s2.2).1.2.2)]] hgo1 rfl rfl (fun W2 hW2 => hof1 W2 hW2.below (TC.mk ((rdL p0 s2.2).fID) ((rdL p0 s2.2).fO)) ((rdL ys0_0 s2.2).1.1,0,(rdL ys0_0 s2.2).1.2.2) ((NestL.rd (NestL.arg hN0_0) hg5.1 (lt_nat hg5.2 rfl)) W2 hW2) y6 hy7)) ?_
   refine oN (eT ?_)
   rcases iOs h with ⟨hp8,h⟩ | ⟨hp8,h⟩
   ·refine cx_true (vB hp8) ?_
    refine cS (cR ?_)
    refine ox_y rfl (yMI rfl) (ox_y rfl (yAI rfl) ?_)
    refine oN (eT (cx_ret (ex_block_ret (ex_then_ret ?_))))
    obtain rfl:=sI h
    exact ex_stop ⟨rfl,_,rfl,(kp4 (kp rfl))⟩
   ·refine cx_false (vB hp8) (cx_skip (ex_block ?_))
    refine eT (cR ?_)
    refine ox_y rfl (y_add rfl rfl) (ox_y rfl (yMI rfl) (oN ?_))
    obtain rfl:=sI h
    exact ex_next ⟨_,rfl,(kp4 (kp rfl))⟩
  ·refine cx_false (vB hp4) (cx_exit (ex_then_exit ?_))
   obtain rfl:=sI h
   exact ex_stop ⟨rfl,_,rfl,(kp4 (kp rfl))⟩
 ·intro e L tm hJ
  rcases u3 with u10 | u11
  ·dsimp only at h hJ
   obtain ⟨rfl,tm0_u10,rfl,rfl⟩:=hJ
   refine ⟨(by intro hc; cases hc),?_⟩
   refine ex_block_ret (ex_then_ret ?_)
   obtain rfl:=sI h
   exact ex_res1 (.inl rfl) rfl (rVt (v:=.int .i64 u10.1) rfl) (fun W2 hW2 => ⟨rfl,hW2.none⟩)
  ·dsimp only at h hJ
   obtain ⟨rfl,tm0_u11,rfl,rfl⟩:=hJ
   refine ⟨(by intro hc; cases hc),?_⟩
   refine ex_block_here ?_
   refine eT (cS (cR ?_))
   refine ox_y rfl (yAI rfl) ?_
   refine oN (eT (cx_ret ?_))
   obtain rfl:=sI h
   exact ex_res1 (.inl rfl) rfl (rVt (v:=.int .i64 (-1)) rfl) (fun W2 hW2 => ⟨rfl,hW2.none⟩)
theorem recall_linkOf_1_ok (p0:TC) (cap0:Int) (res:Bool) (h:recall_linkOf_1 p0 cap0 = some res) (W:World) (Ab:Option Addr) (n0_1 cb : Nat) (hn0_1:n0_1 = p0.fO.length) (hr0_1:Rd W Ab n0_1 cb (encL THop_cells p0.fO)) (bc0:Nat) (hcap0:Rd W (some ⟨bc0,0,none⟩) 1 1 (cI cap0)) :
  Calls Tryz.prog 144 [.agg #[.int .i64 p0.fID,.slice Ab n0_1 cb],.pointer (some ⟨bc0,0,none⟩)].toArray W fun e W2 => e = .returned (.bool res) ∧ Ext W W2 []:=by
 subst hn0_1
 unfold recall_linkOf_1 at h
 refine calls_enter (m:=8) Tryz.func144 rfl rfl (nB rfl) ?_
 refine cS (cR ?_)
 refine ox_box [.int .i64 p0.fID,.slice Ab p0.fO.length cb] rfl rfl rfl (fun b1 => ?_)
 refine ox_y rfl (y_assign_bool rfl) ?_
 refine oN (eT (cS (cR ?_)))
 refine ox_y rfl (yFA fo_90_0 rfl) (ox_y rfl (y_load1 0 (v:=.int .i64 p0.fID) sc_3 rfl rfl rfl) (ox_y rfl (y_loadR1 (A:=(some ⟨bc0,0,none⟩)) (j:=0) (v:=.int .i64 cap0) sc_3 (RdL.arg hcap0) rfl rfl) (ox_y rfl (y_eql rfl rfl) (ox_y rfl (y_assign_bool rfl) ?_))))
 refine oN (eT (cx_ret ?_))
 obtain rfl:=sI h
 exact ex_res1 (.inl rfl) rfl (rVt (v:=.bool (p0.fID == cap0)) rfl) (fun W2 hW2 => ⟨rfl,hW2.none⟩)
theorem recall_linkOf_ok (p0:TL) (p1:Int) (res:Int) (h:recall_linkOf p0 p1 = some res) (W:World) (Aa:Option Addr) (n0_0 ca : Nat) (hn0_0:n0_0 = p0.fNo.length) (hr0_0:Rd W Aa n0_0 ca (encL TNode_cells p0.fNo)) (Ab:Option Addr) (n0_1 cb : Nat) (ys0_1:List (Hd × TC)) (hn0_1:n0_1 = p0.fC.length) (hr0_1:Rd W Ab n0_1 cb (encL TClaim_cells2 ys0_1)) (hN0_1:NestW W (fun z : TC => z.fO) THop_cells ys0_1 p0.fC) :
  Calls Tryz.prog 114 [.agg #[.slice Aa n0_0 ca,.slice Ab n0_1 cb],.int .i64 p1].toArray W fun e W2 => e = .returned (.int .i64 res) ∧ Ext W W2 []:=by
 subst hn0_0
 subst hn0_1
 unfold recall_linkOf at h
 refine calls_enter (m:=9) Tryz.func114 rfl rfl (nB rfl) ?_
 refine cS (cR ?_)
 refine ox_box [.slice Aa p0.fNo.length ca,.slice Ab p0.fC.length cb] rfl rfl rfl (fun b1 => ?_)
 refine ox_box [.int .i64 p1] rfl rfl rfl (fun b2 => ?_)
 refine ox_y rfl (yAI rfl) ?_
 refine oN (eT (cS (cR ?_)))
 refine ox_y rfl (yFA fo_25_1 rfl) (ox_y rfl (y_load1 0 (v:=.slice Ab p0.fC.length cb) sc_23 rfl rfl rfl) (ox_y rfl (y_makeFunc [.pointer (some ⟨b2,0,none⟩)] rfl rfl) ?_))
 obtain ⟨y4,hy5,h⟩:=bOs h
 refine ox_y rfl (y_call [.slice Ab p0.fC.length cb,.func (.func 144) #[] #[.pointer (some ⟨b2,0,none⟩)]] go_139 rfl (fun W2 hW2 => slices_IndexFunc_Claim_Claim_ok p0.fC (fun x3 => recall_linkOf_1 x3 p1) y4 hy5 W2 Ab p0.fC.length cb ys0_1 rfl ((RdL.arg hr0_1) W2 hW2) (NestL.at (NestL.arg hN0_1) W2 hW2) 144 [] [.pointer (some ⟨b2,0,none⟩)] go_144 (fun W3 hb x hx rx y hxy => recall_linkOf_1_ok  x p1 y hxy W3 hx.1 _ hx.2.2 rfl rx b2 (((RdL.cells 1 rfl) W2 hW2).later hb))) rfl) (ox_y rfl (yAI rfl) ?_)
 refine oN (eT (cx_ret ?_))
 obtain rfl:=sI h
 exact ex_res1 (.inl rfl) rfl (rVt (v:=.int .i64 y4) rfl) (fun W2 hW2 => ⟨rfl,hW2.none⟩)
theorem recall_within_ok (p0:Int) (p1:Int) (p2:Int) (res:Bool) (h:recall_within p0 p1 p2 = some res) (W:World)  :
  Calls Tryz.prog 117 [.int .i64 p0,.int .i64 p1,.int .i64 p2].toArray W fun e W2 => e = .returned (.bool res) ∧ Ext W W2 []:=by
 unfold recall_within at h
 refine calls_enter (m:=15) Tryz.func117 rfl rfl (nB rfl) ?_
 refine cS (cR ?_)
 refine ox_y rfl (y_assign_bool rfl) ?_
 refine oN (eT (cS (cR ?_)))
 refine ox_y rfl (yMI rfl) (ox_y rfl (yMI rfl) (ox_y rfl (y_leq rfl rfl) (ox_y rfl (y_move_bool rfl) ?_)))
 refine ox_join 4 (fun tm0 => (upd (upd tm0 6 (.bool false)) 14 (.bool ((decide (p1 ≤ p0)) && (decide (p0 ≤ p2)))))) (fun tm0 => ?_) (fun key => ?_)
 ·refine ox_y rfl (y_assign_bool rfl) ?_
  refine oN (eT (cx_ret ?_))
  obtain rfl:=sI h
  exact ex_res1 (.inl rfl) rfl (rVt (v:=.bool ((decide (p1 ≤ p0)) && (decide (p0 ≤ p2)))) rfl) (fun W2 hW2 => ⟨rfl,hW2.none⟩)
 ·rcases bool_cases (decide (p1 ≤ p0)) with hp1 | hp1
  ·refine ox_y (sT rfl rfl rfl rfl hp1) (yMI rfl) (ox_y (sT rfl rfl rfl rfl hp1) (yMI rfl) (ox_y (sT rfl rfl rfl rfl hp1) (y_leq rfl rfl) (ox_y rfl (y_pick_tb (vB hp1) rfl) ?_)))
   exact key _ _ (keep (keep rfl rfl) (vB (and_t hp1)))
  ·refine oSk (sF rfl rfl rfl rfl hp1) (oSk (sF rfl rfl rfl rfl hp1) (oSk (sF rfl rfl rfl rfl hp1) (ox_y rfl (y_pick_fb (vB hp1) rfl) ?_)))
   exact key _ _ (keep (keep rfl rfl) (vB (and_f hp1)))
theorem slices_Index_Hop_Hop_ok (p0:(List TH)) (p1:TH) (res:Int) (h:slices_Index_Hop_Hop p0 p1 = some res) (W:World) (Aa:Option Addr) (n0_0 ca : Nat) (hn0_0:n0_0 = p0.length) (hr0_0:Rd W Aa n0_0 ca (encL THop_cells p0)) :
  Calls Tryz.prog 162 [.slice Aa n0_0 ca,.agg #[.int .i64 p1.fFrom,.int .i64 p1.fTo]].toArray W fun e W2 => e = .returned (.int .i64 res) ∧ Ext W W2 []:=by
 subst hn0_0
 unfold slices_Index_Hop_Hop at h
 refine calls_enter (m:=19) Tryz.func162 rfl rfl (nB rfl) ?_
 refine cS (cR ?_)
 refine ox_box [.int .i64 p1.fFrom,.int .i64 p1.fTo] rfl rfl rfl (fun b1 => ?_)
 refine ox_y rfl (yAI rfl) ?_
 refine oN (eT (cS (cS (cR ?_))))
 refine ox_y rfl (yMS rfl) (ox_y rfl (y_len (us:=[]) us_88 rfl) (ox_y rfl (yMI rfl) ?_))
 refine oN (eT (cx_block ?_))
 obtain ⟨u4,hl8,h⟩:=bOs h
 refine cx_loop (fun (s:(Int × Int)) L tm => ∃ (tm0:Nat → Value),L = [cellsR b1 111 [.int .i64 p1.fFrom,.int .i64 p1.fTo]] ∧ tm = (upd (upd (upd (upd (upd (upd tm0 0 (.slice Aa p0.length ca)) 1 (.agg #[.int .i64 p1.fFrom,.int .i64 p1.fTo])) 3 (.pointer (some ⟨b1,0,none⟩))) 4 (.int .i64 s.1)) 7 (.int .i64 (p0.length:Int))) 8 (.int .i64 s.2))) (fun | (.inl s),e,L,tm => e = .ret ∧ ∃ (tm0:Nat → Value),L = [cellsR b1 111 [.int .i64 p1.fFrom,.int .i64 p1.fTo]] ∧ tm = (upd (upd (upd (upd (upd (upd tm0 0 (.slice Aa p0.length ca)) 1 (.agg #[.int .i64 p1.fFrom,.int .i64 p1.fTo])) 3 (.pointer (some ⟨b1,0,none⟩))) 4 (.int .i64 s.1)) 7 (.int .i64 (p0.length:Int))) 8 (.int .i64 s.2)) | (.inr s),e,L,tm => e = .exit 0 ∧ ∃ (tm0:Nat → Value),L = [cellsR b1 111 [.int .i64 p1.fFrom,.int .i64 p1.fTo]] ∧ tm = (upd (upd (upd (upd (upd (upd tm0 0 (.slice Aa p0.length ca)) 1 (.agg #[.int .i64 p1.fFrom,.int .i64 p1.fTo])) 3 (.pointer (some ⟨b1,0,none⟩))) 4 (.int .i64 s.1)) 7 (.int .i64 (p0.length:Int))) 8 (.int .i64 s.2))) hl8 ⟨_,rfl,(kp4 (kp (kp rfl)))⟩ ?_ ?_
 ·rintro s3 L tm st ⟨tm0_s3,rfl,rfl⟩ h
  unfold slices_Index_Hop_Hop_l1 at h
  refine cS (cR ?_)
  refine ox_y rfl (y_lss rfl rfl) ?_
  refine oN (eT (cS ?_))
  rcases iOs h with ⟨hp5,h⟩ | ⟨hp5,h⟩
  ·refine cx_true (vB hp5) ?_
   refine cx_skip (eT (cS (cx_block (cS (cR ?_)))))
   refine ox_y rfl (yMI rfl) (ox_y rfl (yAI rfl) ?_)
   refine oN (eT (cS ?_))
   refine cx_draws 6 mixed (by kernel_rfl) (by kernel_rfl) ?_
   refine qx_y rfl (y_loadN 0 [.int .i64 p1.fFrom,.int .i64 p1.fTo] ag_111 rfl rfl rfl) (qx_y rfl (yMS rfl) (qx_y rfl (yMI rfl) ?_))
   obtain ⟨hg6,h⟩:=gOs h
   refine qx_y rfl (y_indexR sl_88 (by decide) hg6.1 hg6.2 (RdL.arg hr0_0) (encL_len THop_cells_len rfl) rfl rfl) ?_
   refine qx_y rfl (y_loadRN (A:=Aa) (j:=(Int.toNat s3.2 * 2)) [.int .i64 ((rdL p0 s3.2).fFrom),.int .i64 ((rdL p0 s3.2).fTo)] ag_111 (Nat.succ_pos _) (RdL.arg hr0_0) rfl (encL_gets THop_cells_len hg6.1 (lt_nat hg6.2 rfl))) (qx_y rfl (y_eqla (b:=((p1.fFrom == (rdL p0 s3.2).fFrom) && (p1.fTo == (rdL p0 s3.2).fTo))) eg_111 rfl rfl (fun _ => (eqS2 fl_111 (part1 sc_3 rfl) (part1 sc_3 rfl) (part1 sc_3 rfl) (part1 sc_3 rfl) (run_equalIn_int _ _ _ _ _ _ _ ui_3) (run_equalIn_int _ _ _ _ _ _ _ ui_3)))) (qx_nil ?_))
   refine oN (eT ?_)
   rcases iOs h with ⟨hp7,h⟩ | ⟨hp7,h⟩
   ·refine cx_true (vB hp7) ?_
    refine cS (cR ?_)
    refine ox_y rfl (yMI rfl) (ox_y rfl (yAI rfl) ?_)
    refine oN (eT (cx_ret (ex_block_ret (ex_then_ret ?_))))
    obtain rfl:=sI h
    exact ex_stop ⟨rfl,_,rfl,(kp4 (kp (kp rfl)))⟩
   ·refine cx_false (vB hp7) (cx_skip (ex_block ?_))
    refine eT (cR ?_)
    refine ox_y rfl (y_add rfl rfl) (ox_y rfl (yMI rfl) (oN ?_))
    obtain rfl:=sI h
    exact ex_next ⟨_,rfl,(kp4 (kp (kp rfl)))⟩
  ·refine cx_false (vB hp5) (cx_exit (ex_then_exit ?_))
   obtain rfl:=sI h
   exact ex_stop ⟨rfl,_,rfl,(kp4 (kp (kp rfl)))⟩
 ·intro e L tm hJ
  rcases u4 with u9 | u10
  ·dsimp only at h hJ
   obtain ⟨rfl,tm0_u9,rfl,rfl⟩:=hJ
   refine ⟨(by intro hc; cases hc),?_⟩
   refine ex_block_ret (ex_then_ret ?_)
   obtain rfl:=sI h
   exact ex_res1 (.inl rfl) rfl (rVt (v:=.int .i64 u9.1) rfl) (fun W2 hW2 => ⟨rfl,hW2.none⟩)
  ·dsimp only at h hJ
   obtain ⟨rfl,tm0_u10,rfl,rfl⟩:=hJ
   refine ⟨(by intro hc; cases hc),?_⟩
   refine ex_block_here ?_
   refine eT (cS (cR ?_))
   refine ox_y rfl (yAI rfl) ?_
   refine oN (eT (cx_ret ?_))
   obtain rfl:=sI h
   exact ex_res1 (.inl rfl) rfl (rVt (v:=.int .i64 (-1)) rfl) (fun W2 hW2 => ⟨rfl,hW2.none⟩)
theorem slices_Contains_Hop_Hop_ok (p0:(List TH)) (p1:TH) (res:Bool) (h:slices_Contains_Hop_Hop p0 p1 = some res) (W:World) (Aa:Option Addr) (n0_0 ca : Nat) (hn0_0:n0_0 = p0.length) (hr0_0:Rd W Aa n0_0 ca (encL THop_cells p0)) :
  Calls Tryz.prog 146 [.slice Aa n0_0 ca,.agg #[.int .i64 p1.fFrom,.int .i64 p1.fTo]].toArray W fun e W2 => e = .returned (.bool res) ∧ Ext W W2 []:=by
 subst hn0_0
 unfold slices_Contains_Hop_Hop at h
 refine calls_enter (m:=9) Tryz.func146 rfl rfl (nB rfl) ?_
 refine cS (cR ?_)
 refine ox_box [.int .i64 p1.fFrom,.int .i64 p1.fTo] rfl rfl rfl (fun b1 => ?_)
 refine ox_y rfl (y_assign_bool rfl) ?_
 refine oN (eT (cS (cR ?_)))
 refine ox_y rfl (yMS rfl) (ox_y rfl (y_loadN 0 [.int .i64 p1.fFrom,.int .i64 p1.fTo] ag_111 rfl rfl rfl) ?_)
 obtain ⟨y2,hy3,h⟩:=bOs h
 refine ox_y rfl (y_call [.slice Aa p0.length ca,.agg #[.int .i64 p1.fFrom,.int .i64 p1.fTo]] go_162 rfl (fun W2 hW2 => slices_Index_Hop_Hop_ok p0 p1 y2 hy3 W2 Aa p0.length ca rfl ((RdL.arg hr0_0) W2 hW2)) rfl) (ox_y rfl (y_geq rfl rfl) (ox_y rfl (y_assign_bool rfl) ?_))
 refine oN (eT (cx_ret ?_))
 obtain rfl:=sI h
 exact ex_res1 (.inl rfl) rfl (rVt (v:=.bool (decide (0 ≤ y2))) rfl) (fun W2 hW2 => ⟨rfl,hW2.none⟩)
theorem recall_options_ok (p0:TL) (p1:(List TH)) (res:Bool) (h:recall_options p0 p1 = some res) (W:World) (Aa:Option Addr) (n0_0 ca : Nat) (hn0_0:n0_0 = p0.fNo.length) (hr0_0:Rd W Aa n0_0 ca (encL TNode_cells p0.fNo)) (Ab:Option Addr) (n0_1 cb : Nat) (ys0_1:List (Hd × TC)) (hn0_1:n0_1 = p0.fC.length) (hr0_1:Rd W Ab n0_1 cb (encL TClaim_cells2 ys0_1)) (hN0_1:NestW W (fun z : TC => z.fO) THop_cells ys0_1 p0.fC) (Ac:Option Addr) (n1_0 cc : Nat) (hn1_0:n1_0 = p1.length) (hr1_0:Rd W Ac n1_0 cc (encL THop_cells p1)) :
  Calls Tryz.prog 118 [.agg #[.slice Aa n0_0 ca,.slice Ab n0_1 cb],.slice Ac n1_0 cc].toArray W fun e W2 => e = .returned (.bool res) ∧ Ext W W2 []:=by
 subst hn0_0
 subst hn0_1
 subst hn1_0
 unfold recall_options at h
 refine calls_enter (m:=57) Tryz.func118 rfl rfl (nB rfl) ?_
 refine cS (cR ?_)
 refine ox_box [.slice Aa p0.fNo.length ca,.slice Ab p0.fC.length cb] rfl rfl rfl (fun b1 => ?_)
 refine ox_y rfl (y_assign_bool rfl) ?_
 refine oN (eT (cS (cS (cR ?_))))
 refine ox_y rfl (yMS rfl) (ox_y rfl (y_len (us:=[]) us_88 rfl) ?_)
 obtain ⟨y2,hy3,h⟩:=bOs h
 refine ox_y rfl (y_call [.int .i64 (p1.length:Int),.int .i64 1,.int .i64 4] go_117 rfl (fun W2 hW2 => recall_within_ok (p1.length:Int) 1 4 y2 hy3 W2 ) rfl) (ox_y rfl (y_not rfl) ?_)
 refine oN (eT ?_)
 rcases iOs h with ⟨hp4,h⟩ | ⟨hp4,h⟩
 ·refine cx_true (vB hp4) ?_
  refine cS (cR ?_)
  refine ox_y rfl (y_assign_bool rfl) ?_
  refine oN (eT (cx_ret (ex_then_ret ?_)))
  obtain rfl:=sI h
  exact ex_res1 (.inl rfl) rfl (rVt (v:=.bool false) rfl) (fun W2 hW2 => ⟨rfl,hW2.none⟩)
 ·refine cx_false (vB hp4) ?_
  refine cx_skip (eT (cS (cS (cR ?_))))
  refine ox_y rfl (yMS rfl) (ox_y rfl (y_len (us:=[]) us_88 rfl) (ox_y rfl (yMI rfl) ?_))
  refine oN (eT (cx_block ?_))
  obtain ⟨u7,hl28,h⟩:=bOs h
  refine cx_loop (fun (s:(Bool × Int)) L tm => ∃ (tm0:Nat → Value),L = [cellsR b1 25 [.slice Aa p0.fNo.length ca,.slice Ab p0.fC.length cb]] ∧ tm = (upd (upd (upd (upd (upd (upd (upd (upd tm0 0 (.agg #[.slice Aa p0.fNo.length ca,.slice Ab p0.fC.length cb])) 1 (.slice Ac p1.length cc)) 2 (.pointer (some ⟨b1,0,none⟩))) 4 (.bool s.1)) 12 (.bool (!y2))) 13 (.slice Ac p1.length cc)) 14 (.int .i64 (p1.length:Int))) 15 (.int .i64 s.2))) (fun | (.inl s),e,L,tm => e = .ret ∧ ∃ (tm0:Nat → Value),L = [cellsR b1 25 [.slice Aa p0.fNo.length ca,.slice Ab p0.fC.length cb]] ∧ tm = (upd (upd (upd (upd (upd (upd (upd (upd tm0 0 (.agg #[.slice Aa p0.fNo.length ca,.slice Ab p0.fC.length cb])) 1 (.slice Ac p1.length cc)) 2 (.pointer (some ⟨b1,0,none⟩))) 4 (.bool s.1)) 12 (.bool (!y2))) 13 (.slice Ac p1.length cc)) 14 (.int .i64 (p1.length:Int))) 15 (.int .i64 s.2)) | (.inr s),e,L,tm => e = .exit 0 ∧ ∃ (tm0:Nat → Value),L = [cellsR b1 25 [.slice Aa p0.fNo.length ca,.slice Ab p0.fC.length cb]] ∧ tm = (upd (upd (upd (upd (upd (upd (upd (upd tm0 0 (.agg #[.slice Aa p0.fNo.length ca,.slice Ab p0.fC.length cb])) 1 (.slice Ac p1.length cc)) 2 (.pointer (some ⟨b1,0,none⟩))) 4 (.bool s.1)) 12 (.bool (!y2))) 13 (.slice Ac p1.length cc)) 14 (.int .i64 (p1.length:Int))) 15 (.int .i64 s.2))) hl28 ⟨_,rfl,(kp4 (kp4 rfl))⟩ ?_ ?_
  ·rintro s6 L tm st ⟨tm0_s6,rfl,rfl⟩ h
   unfold recall_options_l1 at h
   refine cS (cR ?_)
   refine ox_y rfl (y_lss rfl rfl) ?_
   refine oN (eT (cS ?_))
   rcases iOs h with ⟨hp8,h⟩ | ⟨hp8,h⟩
   ·refine cx_true (vB hp8) ?_
    refine cx_skip (eT (cS (cx_block (cS (cR ?_)))))
    refine ox_y rfl (yMI rfl) ?_
    obtain ⟨hg9,h⟩:=gOs h
    refine ox_y rfl (y_indexR sl_88 (by decide) hg9.1 hg9.2 (RdL.arg hr1_0) (encL_len THop_cells_len rfl) rfl rfl) ?_
    refine ox_y rfl (y_loadRN (A:=Ac) (j:=(Int.toNat s6.2 * 2)) [.int .i64 ((rdL p1 s6.2).fFrom),.int .i64 ((rdL p1 s6.2).fTo)] ag_111 (Nat.succ_pos _) (RdL.arg hr1_0) rfl (encL_gets THop_cells_len hg9.1 (lt_nat hg9.2 rfl))) ?_
    refine ox_alloc ze_111 rfl (fun b10 => ?_)
    refine ox_y rfl (yAI rfl) (ox_n rfl (y_storeN 1 [.int .i64 ((rdL p1 s6.2).fFrom),.int .i64 ((rdL p1 s6.2).fTo)] sz_111 rfl (nB rfl) rfl rfl rfl) ?_)
    refine oN (eT (cS ?_))
    refine cx_draws 10 mixed (by kernel_rfl) (by kernel_rfl) ?_
    refine qx_y rfl (y_loadN 0 [.slice Aa p0.fNo.length ca,.slice Ab p0.fC.length cb] ag_25 rfl rfl rfl) (qx_y rfl (yFA fo_111_0 rfl) (qx_y rfl (y_load1 1 (v:=.int .i64 ((rdL p1 s6.2).fFrom)) sc_3 rfl rfl rfl) ?_))
    obtain ⟨y11,hy12,h⟩:=bOs h
    refine qx_y rfl (y_call [.agg #[.slice Aa p0.fNo.length ca,.slice Ab p0.fC.length cb],.int .i64 ((rdL p1 s6.2).fFrom)] go_62 rfl (fun W2 hW2 => recall_nodeOf_ok p0 ((rdL p1 s6.2).fFrom) y11 hy12 W2 Aa p0.fNo.length ca rfl ((RdL.arg hr0_0) W2 hW2) Ab p0.fC.length cb ys0_1 rfl ((RdL.arg hr0_1) W2 hW2) (NestL.at (NestL.arg hN0_1) W2 hW2)) rfl) (qx_y rfl (y_loadN 0 [.slice Aa p0.fNo.length ca,.slice Ab p0.fC.length cb] ag_25 rfl rfl rfl) (qx_y rfl (yFA fo_111_1 rfl) (qx_y rfl (y_load1 1 (v:=.int .i64 ((rdL p1 s6.2).fTo)) sc_3 rfl rfl rfl) ?_)))
    obtain ⟨y13,hy14,h⟩:=bOs h
    refine qx_y rfl (y_call [.agg #[.slice Aa p0.fNo.length ca,.slice Ab p0.fC.length cb],.int .i64 ((rdL p1 s6.2).fTo)] go_62 rfl (fun W2 hW2 => recall_nodeOf_ok p0 ((rdL p1 s6.2).fTo) y13 hy14 W2 Aa p0.fNo.length ca rfl ((RdL.arg hr0_0) W2 hW2) Ab p0.fC.length cb ys0_1 rfl ((RdL.arg hr0_1) W2 hW2) (NestL.at (NestL.arg hN0_1) W2 hW2)) rfl) (qx_y rfl (yAI rfl) (qx_y rfl (yAI rfl) (qx_nil ?_)))
    refine oN (eT (cS ?_))
    refine cx_draws 28 mixed (by kernel_rfl) (by kernel_rfl) ?_
    refine qx_y rfl (yMI rfl) (qx_y rfl (y_lss rfl rfl) (qx_y rfl (y_move_bool rfl) ?_))
    refine qx_join 3 (fun tm0 => (upd (upd (upd (upd (upd (upd (upd (upd (upd (upd (upd (upd (upd (upd tm0 0 (.agg #[.slice Aa p0.fNo.length ca,.slice Ab p0.fC.length cb])) 1 (.slice Ac p1.length cc)) 2 (.pointer (some ⟨b1,0,none⟩))) 4 (.bool s6.1)) 12 (.bool (!y2))) 13 (.slice Ac p1.length cc)) 14 (.int .i64 (p1.length:Int))) 15 (.int .i64 s6.2)) 16 (.bool (decide (s6.2 < (p1.length:Int))))) 6 (.pointer (some ⟨b10,0,none⟩))) 5 (.int .i64 s6.2)) 7 (.int .i64 y11)) 8 (.int .i64 y13)) 33 (.bool ((decide (y11 < 0)) || (decide (y13 < 0)))))) (fun tm0 => ?_) (fun key => ?_)
    ·refine qx_y rfl (y_move_bool rfl) ?_
     obtain ⟨b17,hb18,h⟩:=bOs h
     refine qx_join 14 (fun tm0 => (upd (upd (upd (upd (upd (upd (upd (upd (upd (upd (upd (upd (upd (upd tm0 0 (.agg #[.slice Aa p0.fNo.length ca,.slice Ab p0.fC.length cb])) 1 (.slice Ac p1.length cc)) 2 (.pointer (some ⟨b1,0,none⟩))) 4 (.bool s6.1)) 12 (.bool (!y2))) 13 (.slice Ac p1.length cc)) 14 (.int .i64 (p1.length:Int))) 15 (.int .i64 s6.2)) 16 (.bool (decide (s6.2 < (p1.length:Int))))) 6 (.pointer (some ⟨b10,0,none⟩))) 5 (.int .i64 s6.2)) 7 (.int .i64 y11)) 8 (.int .i64 y13)) 48 (.bool b17))) (fun tm0 => ?_) (fun key => ?_)
     ·refine qx_y rfl (y_move_bool rfl) ?_
      obtain ⟨b20,hb21,h⟩:=bOs h
      refine qx_join 6 (fun tm0 => (upd (upd (upd (upd (upd (upd (upd (upd (upd (upd (upd (upd (upd (upd tm0 0 (.agg #[.slice Aa p0.fNo.length ca,.slice Ab p0.fC.length cb])) 1 (.slice Ac p1.length cc)) 2 (.pointer (some ⟨b1,0,none⟩))) 4 (.bool s6.1)) 12 (.bool (!y2))) 13 (.slice Ac p1.length cc)) 14 (.int .i64 (p1.length:Int))) 15 (.int .i64 s6.2)) 16 (.bool (decide (s6.2 < (p1.length:Int))))) 6 (.pointer (some ⟨b10,0,none⟩))) 5 (.int .i64 s6.2)) 7 (.int .i64 y11)) 8 (.int .i64 y13)) 55 (.bool b20))) (fun tm0 => ?_) (fun key => ?_)
      ·refine qx_nil ?_
       refine oN (eT ?_)
       rcases iOs h with ⟨hp22,h⟩ | ⟨hp22,h⟩
       ·refine cx_true (vB hp22) ?_
        refine cS (cR ?_)
        refine ox_y rfl (y_assign_bool rfl) ?_
        refine oN (eT (cx_ret (ex_block_ret (ex_then_ret ?_))))
        refine ex_take 1 ?_
        obtain rfl:=sI h
        exact ex_stop ⟨rfl,_,rfl,(kp4 (kp4 rfl))⟩
       ·refine cx_false (vB hp22) (cx_skip (ex_block ?_))
        refine eT (cR ?_)
        refine ox_y rfl (y_add rfl rfl) (ox_y rfl (yMI rfl) (oN (ex_take 1 ?_)))
        obtain rfl:=sI h
        exact ex_next ⟨_,rfl,(kp4 (kp4 rfl))⟩
      ·clear h; rcases iOs hb21 with ⟨hp19,h⟩ | ⟨hp19,h⟩
       ·refine qx_skip (sF rfl rfl rfl rfl hp19) (qx_skip (sF rfl rfl rfl rfl hp19) (qx_skip (sF rfl rfl rfl rfl hp19) (qx_skip (sF rfl rfl rfl rfl hp19) (qx_skip (sF rfl rfl rfl rfl hp19) (qx_y rfl (y_pick_tb (vB hp19) rfl) ?_)))))
        obtain rfl:=sI h
        exact key _ _ (kp4 (kp4 (kp4 (kp (kp rfl)))))
       ·refine qx_y (sT rfl rfl rfl rfl hp19) (yMS rfl) (qx_y (sT rfl rfl rfl rfl hp19) (yMI rfl) ?_)
        obtain ⟨hg23,h⟩:=gOs h
        refine qx_y (sT rfl rfl rfl rfl hp19) (y_cutH sl_88 hg23.1 hg23.2 (RdL.arg hr1_0) rfl rfl) (qx_y (sT rfl rfl rfl rfl hp19) (y_loadN 1 [.int .i64 ((rdL p1 s6.2).fFrom),.int .i64 ((rdL p1 s6.2).fTo)] ag_111 rfl rfl rfl) ?_)
        obtain ⟨y24,hy25,h⟩:=bOs h
        refine qx_y (sT rfl rfl rfl rfl hp19) (y_call [.slice Ac (Int.toNat s6.2) cc,.agg #[.int .i64 ((rdL p1 s6.2).fFrom),.int .i64 ((rdL p1 s6.2).fTo)]] go_146 rfl (fun W2 hW2 => slices_Contains_Hop_Hop_ok (p1.take (Int.toNat s6.2)) (TH.mk ((rdL p1 s6.2).fFrom) ((rdL p1 s6.2).fTo)) y24 hy25 W2 Ac (Int.toNat s6.2) cc (cutH_len hg23.2 rfl) ((RdL.cutH THop_cells_len (RdL.arg hr1_0) hg23.1 hg23.2) W2 hW2)) rfl) (qx_y rfl (y_pick_fb (vB hp19) rfl) ?_)
        obtain rfl:=sI h
        exact key _ _ (kp4 (kp4 (kp4 (kp (kp rfl)))))
     ·clear h; rcases iOs hb18 with ⟨hp16,h⟩ | ⟨hp16,h⟩
      ·refine qx_skip (sF rfl rfl rfl rfl hp16) (qx_skip (sF rfl rfl rfl rfl hp16) (qx_skip (sF rfl rfl rfl rfl hp16) (qx_skip (sF rfl rfl rfl rfl hp16) (qx_skip (sF rfl rfl rfl rfl hp16) (qx_skip (sF rfl rfl rfl rfl hp16) (qx_skip (sF rfl rfl rfl rfl hp16) (qx_skip (sF rfl rfl rfl rfl hp16) (qx_skip (sF rfl rfl rfl rfl hp16) (qx_skip (sF rfl rfl rfl rfl hp16) (qx_skip (sF rfl rfl rfl rfl hp16) (qx_skip (sF rfl rfl rfl rfl hp16) (qx_skip (sF rfl rfl rfl rfl hp16) (qx_y rfl (y_pick_tb (vB hp16) rfl) ?_)))))))))))))
       obtain rfl:=sI h
       exact key _ _ (kp4 (kp4 (kp4 (kp (kp rfl)))))
      ·refine qx_y (sT rfl rfl rfl rfl hp16) (yFA fo_25_0 rfl) (qx_y (sT rfl rfl rfl rfl hp16) (y_load1 0 (v:=.slice Aa p0.fNo.length ca) sc_22 rfl rfl rfl) (qx_y (sT rfl rfl rfl rfl hp16) (yMI rfl) ?_))
       obtain ⟨hg26,h⟩:=gOs h
       refine qx_y (sT rfl rfl rfl rfl hp16) (y_indexR sl_22 (by decide) hg26.1 hg26.2 (RdL.arg hr0_0) (encL_len TNode_cells_len rfl) rfl rfl) ?_
       refine qx_y (sT rfl rfl rfl rfl hp16) (y_fieldAddrR (A:=Aa) (j:=(Int.toNat y11 * 3)) fo_97_1 rfl) (qx_y (sT rfl rfl rfl rfl hp16) (y_loadR1 (A:=Aa) (j:=((Int.toNat y11 * 3) + 1)) (v:=.int .i64 ((rdL p0.fNo y11).fLevel)) sc_3 (RdL.arg hr0_0) rfl (encL_get TNode_cells_len hg26.1 (lt_nat hg26.2 rfl) rfl)) (qx_y (sT rfl rfl rfl rfl hp16) (yFA fo_25_0 rfl) (qx_y (sT rfl rfl rfl rfl hp16) (y_load1 0 (v:=.slice Aa p0.fNo.length ca) sc_22 rfl rfl rfl) (qx_y (sT rfl rfl rfl rfl hp16) (yMI rfl) ?_))))
       obtain ⟨hg27,h⟩:=gOs h
       refine qx_y (sT rfl rfl rfl rfl hp16) (y_indexR sl_22 (by decide) hg27.1 hg27.2 (RdL.arg hr0_0) (encL_len TNode_cells_len rfl) rfl rfl) ?_
       refine qx_y (sT rfl rfl rfl rfl hp16) (y_fieldAddrR (A:=Aa) (j:=(Int.toNat y13 * 3)) fo_97_1 rfl) (qx_y (sT rfl rfl rfl rfl hp16) (y_loadR1 (A:=Aa) (j:=((Int.toNat y13 * 3) + 1)) (v:=.int .i64 ((rdL p0.fNo y13).fLevel)) sc_3 (RdL.arg hr0_0) rfl (encL_get TNode_cells_len hg27.1 (lt_nat hg27.2 rfl) rfl)) (qx_y (sT rfl rfl rfl rfl hp16) (y_geq rfl rfl) (qx_y rfl (y_pick_fb (vB hp16) rfl) ?_)))
       obtain rfl:=sI h
       exact key _ _ (kp4 (kp4 (kp4 (kp (kp rfl)))))
    ·rcases bool_cases (decide (y11 < 0)) with hp15 | hp15
     ·refine qx_skip (sF rfl rfl rfl rfl hp15) (qx_skip (sF rfl rfl rfl rfl hp15) (qx_y rfl (y_pick_tb (vB hp15) rfl) ?_))
      exact key _ _ (keep (keep (keep (keep (keep (keep (keep (keep (keep (keep (keep (keep (keep (keep rfl rfl) rfl) rfl) rfl) rfl) rfl) rfl) rfl) rfl) rfl) rfl) rfl) rfl) (vB (or_t hp15)))
     ·refine qx_y (sT rfl rfl rfl rfl hp15) (yMI rfl) (qx_y (sT rfl rfl rfl rfl hp15) (y_lss rfl rfl) (qx_y rfl (y_pick_fb (vB hp15) rfl) ?_))
      exact key _ _ (keep (keep (keep (keep (keep (keep (keep (keep (keep (keep (keep (keep (keep (keep rfl rfl) rfl) rfl) rfl) rfl) rfl) rfl) rfl) rfl) rfl) rfl) rfl) rfl) (vB (or_f hp15)))
   ·refine cx_false (vB hp8) (cx_exit (ex_then_exit ?_))
    obtain rfl:=sI h
    exact ex_stop ⟨rfl,_,rfl,(kp4 (kp4 rfl))⟩
  ·intro e L tm hJ
   rcases u7 with u29 | u30
   ·dsimp only at h hJ
    obtain ⟨rfl,tm0_u29,rfl,rfl⟩:=hJ
    refine ⟨(by intro hc; cases hc),?_⟩
    refine ex_block_ret (ex_then_ret ?_)
    obtain rfl:=sI h
    exact ex_res1 (.inl rfl) rfl (rVt (v:=.bool u29.1) rfl) (fun W2 hW2 => ⟨rfl,hW2.none⟩)
   ·dsimp only at h hJ
    obtain ⟨rfl,tm0_u30,rfl,rfl⟩:=hJ
    refine ⟨(by intro hc; cases hc),?_⟩
    refine ex_block_here ?_
    refine eT (cS (cR ?_))
    refine ox_y rfl (y_assign_bool rfl) ?_
    refine oN (eT (cx_ret ?_))
    obtain rfl:=sI h
    exact ex_res1 (.inl rfl) rfl (rVt (v:=.bool true) rfl) (fun W2 hW2 => ⟨rfl,hW2.none⟩)
theorem recall_Check_ok (p0:TL) (res:Int) (h:recall_Check p0 = some res) (W:World) (Aa:Option Addr) (n0_0 ca : Nat) (hn0_0:n0_0 = p0.fNo.length) (hr0_0:Rd W Aa n0_0 ca (encL TNode_cells p0.fNo)) (Ab:Option Addr) (n0_1 cb : Nat) (ys0_1:List (Hd × TC)) (hn0_1:n0_1 = p0.fC.length) (hr0_1:Rd W Ab n0_1 cb (encL TClaim_cells2 ys0_1)) (hN0_1:NestW W (fun z : TC => z.fO) THop_cells ys0_1 p0.fC) :
  Calls Tryz.prog 61 [.agg #[.slice Aa n0_0 ca,.slice Ab n0_1 cb]].toArray W fun e W2 => e = .returned (.int .i64 res) ∧ Ext W W2 []:=by
 subst hn0_0
 subst hn0_1
 unfold recall_Check at h
 refine calls_enter (m:=83) Tryz.func61 rfl rfl (nB rfl) ?_
 refine cS (cR ?_)
 refine ox_box [.slice Aa p0.fNo.length ca,.slice Ab p0.fC.length cb] rfl rfl rfl (fun b1 => ?_)
 refine ox_y rfl (yAI rfl) ?_
 refine oN (eT (cS (cS (cR ?_))))
 refine ox_y rfl (yFA fo_25_0 rfl) (ox_y rfl (y_load1 0 (v:=.slice Aa p0.fNo.length ca) sc_22 rfl rfl rfl) (ox_y rfl (y_len (us:=[]) us_22 rfl) (ox_y rfl (y_gtr rfl rfl) (ox_y rfl (y_move_bool rfl) ?_))))
 refine ox_join 5 (fun tm0 => (upd (upd (upd tm0 1 (.pointer (some ⟨b1,0,none⟩))) 2 (.int .i64 0)) 17 (.bool ((decide (60 < (p0.fNo.length:Int))) || (decide (80 < (p0.fC.length:Int))))))) (fun tm0 => ?_) (fun key => ?_)
 ·refine oN (eT ?_)
  rcases iOs h with ⟨hp3,h⟩ | ⟨hp3,h⟩
  ·refine cx_true (vB hp3) ?_
   refine cS (cR ?_)
   refine ox_y rfl (yAI rfl) ?_
   refine oN (eT (cx_ret (ex_then_ret ?_)))
   obtain rfl:=sI h
   exact ex_res1 (.inl rfl) rfl (rVt (v:=.int .i64 2) rfl) (fun W2 hW2 => ⟨rfl,hW2.none⟩)
  ·refine cx_false (vB hp3) ?_
   refine cx_skip (eT (cS (cS (cR ?_))))
   refine ox_y rfl (yFA fo_25_0 rfl) (ox_y rfl (y_load1 0 (v:=.slice Aa p0.fNo.length ca) sc_22 rfl rfl rfl) (ox_y rfl (y_len (us:=[]) us_22 rfl) (ox_y rfl (yMI rfl) ?_)))
   refine oN (eT (cx_block ?_))
   obtain ⟨u6,hl26,h⟩:=bOs h
   refine cx_loop (fun (s:(Int × Int)) L tm => ∃ (tm0:Nat → Value),L = [cellsR b1 25 [.slice Aa p0.fNo.length ca,.slice Ab p0.fC.length cb]] ∧ tm = (upd (upd (upd (upd (upd (upd tm0 1 (.pointer (some ⟨b1,0,none⟩))) 2 (.int .i64 s.1)) 17 (.bool ((decide (60 < (p0.fNo.length:Int))) || (decide (80 < (p0.fC.length:Int)))))) 19 (.slice Aa p0.fNo.length ca)) 20 (.int .i64 (p0.fNo.length:Int))) 21 (.int .i64 s.2))) (fun | (.inl s),e,L,tm => e = .ret ∧ ∃ (tm0:Nat → Value),L = [cellsR b1 25 [.slice Aa p0.fNo.length ca,.slice Ab p0.fC.length cb]] ∧ tm = (upd (upd (upd (upd (upd (upd tm0 1 (.pointer (some ⟨b1,0,none⟩))) 2 (.int .i64 s.1)) 17 (.bool ((decide (60 < (p0.fNo.length:Int))) || (decide (80 < (p0.fC.length:Int)))))) 19 (.slice Aa p0.fNo.length ca)) 20 (.int .i64 (p0.fNo.length:Int))) 21 (.int .i64 s.2)) | (.inr s),e,L,tm => e = .exit 0 ∧ ∃ (tm0:Nat → Value),L = [cellsR b1 25 [.slice Aa p0.fNo.length ca,.slice Ab p0.fC.length cb]] ∧ tm = (upd (upd (upd (upd (upd (upd tm0 1 (.pointer (some ⟨b1,0,none⟩))) 2 (.int .i64 s.1)) 17 (.bool ((decide (60 < (p0.fNo.length:Int))) || (decide (80 < (p0.fC.length:Int)))))) 19 (.slice Aa p0.fNo.length ca)) 20 (.int .i64 (p0.fNo.length:Int))) 21 (.int .i64 s.2))) hl26 ⟨_,rfl,(kp4 (kp (kp rfl)))⟩ ?_ ?_
   ·rintro s5 L tm st ⟨tm0_s5,rfl,rfl⟩ h
    unfold recall_Check_l1 at h
    refine cS (cR ?_)
    refine ox_y rfl (y_lss rfl rfl) ?_
    refine oN (eT (cS ?_))
    rcases iOs h with ⟨hp7,h⟩ | ⟨hp7,h⟩
    ·refine cx_true (vB hp7) ?_
     refine cx_skip (eT (cS (cx_block (cS (cR ?_)))))
     refine ox_y rfl (yMI rfl) ?_
     obtain ⟨hg8,h⟩:=gOs h
     refine ox_y rfl (y_indexR sl_22 (by decide) hg8.1 hg8.2 (RdL.arg hr0_0) (encL_len TNode_cells_len rfl) rfl rfl) ?_
     refine ox_y rfl (y_loadRN (A:=Aa) (j:=(Int.toNat s5.2 * 3)) [.int .i64 ((rdL p0.fNo s5.2).fID),.int .i64 ((rdL p0.fNo s5.2).fLevel),.int .i64 ((rdL p0.fNo s5.2).fCost)] ag_97 (Nat.succ_pos _) (RdL.arg hr0_0) rfl (encL_gets TNode_cells_len hg8.1 (lt_nat hg8.2 rfl))) ?_
     refine ox_alloc ze_97 rfl (fun b9 => ?_)
     refine ox_y rfl (yAI rfl) (ox_n rfl (y_storeN 1 [.int .i64 ((rdL p0.fNo s5.2).fID),.int .i64 ((rdL p0.fNo s5.2).fLevel),.int .i64 ((rdL p0.fNo s5.2).fCost)] sz_97 rfl (nB rfl) rfl rfl rfl) ?_)
     refine oN (eT (cS (cS (cR ?_))))
     refine ox_y rfl (yFA fo_97_0 rfl) (ox_y rfl (y_load1 1 (v:=.int .i64 ((rdL p0.fNo s5.2).fID)) sc_3 rfl rfl rfl) ?_)
     obtain ⟨y10,hy11,h⟩:=bOs h
     refine ox_y rfl (y_call [.int .i64 ((rdL p0.fNo s5.2).fID),.int .i64 1,.int .i64 1099511627776] go_117 rfl (fun W2 hW2 => recall_within_ok ((rdL p0.fNo s5.2).fID) 1 1099511627776 y10 hy11 W2 ) rfl) (ox_y rfl (y_not rfl) (ox_y rfl (y_move_bool rfl) ?_))
     obtain ⟨b13,hb14,h⟩:=bOs h
     refine ox_join 5 (fun tm0 => (upd (upd (upd (upd (upd (upd (upd (upd (upd (upd tm0 1 (.pointer (some ⟨b1,0,none⟩))) 2 (.int .i64 s5.1)) 17 (.bool ((decide (60 < (p0.fNo.length:Int))) || (decide (80 < (p0.fC.length:Int)))))) 19 (.slice Aa p0.fNo.length ca)) 20 (.int .i64 (p0.fNo.length:Int))) 21 (.int .i64 s5.2)) 22 (.bool (decide (s5.2 < (p0.fNo.length:Int))))) 4 (.pointer (some ⟨b9,0,none⟩))) 3 (.int .i64 s5.2)) 35 (.bool b13))) (fun tm0 => ?_) (fun key => ?_)
     ·refine ox_y rfl (y_move_bool rfl) ?_
      obtain ⟨b16,hb17,h⟩:=bOs h
      refine ox_join 5 (fun tm0 => (upd (upd (upd (upd (upd (upd (upd (upd (upd (upd tm0 1 (.pointer (some ⟨b1,0,none⟩))) 2 (.int .i64 s5.1)) 17 (.bool ((decide (60 < (p0.fNo.length:Int))) || (decide (80 < (p0.fC.length:Int)))))) 19 (.slice Aa p0.fNo.length ca)) 20 (.int .i64 (p0.fNo.length:Int))) 21 (.int .i64 s5.2)) 22 (.bool (decide (s5.2 < (p0.fNo.length:Int))))) 4 (.pointer (some ⟨b9,0,none⟩))) 3 (.int .i64 s5.2)) 41 (.bool b16))) (fun tm0 => ?_) (fun key => ?_)
      ·refine oN (eT ?_)
       rcases iOs h with ⟨hp18,h⟩ | ⟨hp18,h⟩
       ·refine cx_true (vB hp18) ?_
        refine cS (cR ?_)
        refine ox_y rfl (yAI rfl) ?_
        refine oN (eT (cx_ret (ex_then_ret (ex_block_ret (ex_then_ret ?_)))))
        refine ex_take 1 ?_
        obtain rfl:=sI h
        exact ex_stop ⟨rfl,_,rfl,(kp4 (kp (kp rfl)))⟩
       ·refine cx_false (vB hp18) ?_
        refine cx_skip (eT (cS (cR ?_)))
        refine ox_y rfl (y_loadN 0 [.slice Aa p0.fNo.length ca,.slice Ab p0.fC.length cb] ag_25 rfl rfl rfl) (ox_y rfl (yFA fo_97_0 rfl) (ox_y rfl (y_load1 1 (v:=.int .i64 ((rdL p0.fNo s5.2).fID)) sc_3 rfl rfl rfl) ?_))
        obtain ⟨y19,hy20,h⟩:=bOs h
        refine ox_y rfl (y_call [.agg #[.slice Aa p0.fNo.length ca,.slice Ab p0.fC.length cb],.int .i64 ((rdL p0.fNo s5.2).fID)] go_62 rfl (fun W2 hW2 => recall_nodeOf_ok p0 ((rdL p0.fNo s5.2).fID) y19 hy20 W2 Aa p0.fNo.length ca rfl ((RdL.arg hr0_0) W2 hW2) Ab p0.fC.length cb ys0_1 rfl ((RdL.arg hr0_1) W2 hW2) (NestL.at (NestL.arg hN0_1) W2 hW2)) rfl) (ox_y rfl (yMI rfl) (ox_y rfl (y_lss rfl rfl) ?_))
        refine oN (eT ?_)
        rcases iOs h with ⟨hp21,h⟩ | ⟨hp21,h⟩
        ·refine cx_true (vB hp21) ?_
         refine cS (cR ?_)
         refine ox_y rfl (yAI rfl) ?_
         refine oN (eT (cx_ret (ex_block_ret (ex_then_ret ?_))))
         refine ex_take 1 ?_
         obtain rfl:=sI h
         exact ex_stop ⟨rfl,_,rfl,(kp4 (kp (kp rfl)))⟩
        ·refine cx_false (vB hp21) (cx_skip (ex_block ?_))
         refine eT (cR ?_)
         refine ox_y rfl (y_add rfl rfl) (ox_y rfl (yMI rfl) (oN (ex_take 1 ?_)))
         obtain rfl:=sI h
         exact ex_next ⟨_,rfl,(kp4 (kp (kp rfl)))⟩
      ·clear h; rcases iOs hb17 with ⟨hp15,h⟩ | ⟨hp15,h⟩
       ·refine oSk (sF rfl rfl rfl rfl hp15) (oSk (sF rfl rfl rfl rfl hp15) (oSk (sF rfl rfl rfl rfl hp15) (oSk (sF rfl rfl rfl rfl hp15) (ox_y rfl (y_pick_tb (vB hp15) rfl) ?_))))
        obtain rfl:=sI h
        exact key _ _ (kp4 (kp4 (kp (kp rfl))))
       ·refine ox_y (sT rfl rfl rfl rfl hp15) (yFA fo_97_2 rfl) (ox_y (sT rfl rfl rfl rfl hp15) (y_load1 1 (v:=.int .i64 ((rdL p0.fNo s5.2).fCost)) sc_3 rfl rfl rfl) ?_)
        obtain ⟨y22,hy23,h⟩:=bOs h
        refine ox_y (sT rfl rfl rfl rfl hp15) (y_call [.int .i64 ((rdL p0.fNo s5.2).fCost),.int .i64 0,.int .i64 1073741824] go_117 rfl (fun W2 hW2 => recall_within_ok ((rdL p0.fNo s5.2).fCost) 0 1073741824 y22 hy23 W2 ) rfl) (ox_y (sT rfl rfl rfl rfl hp15) (y_not rfl) (ox_y rfl (y_pick_fb (vB hp15) rfl) ?_))
        obtain rfl:=sI h
        exact key _ _ (kp4 (kp4 (kp (kp rfl))))
     ·clear h; rcases iOs hb14 with ⟨hp12,h⟩ | ⟨hp12,h⟩
      ·refine oSk (sF rfl rfl rfl rfl hp12) (oSk (sF rfl rfl rfl rfl hp12) (oSk (sF rfl rfl rfl rfl hp12) (oSk (sF rfl rfl rfl rfl hp12) (ox_y rfl (y_pick_tb (vB hp12) rfl) ?_))))
       obtain rfl:=sI h
       exact key _ _ (kp4 (kp4 (kp (kp rfl))))
      ·refine ox_y (sT rfl rfl rfl rfl hp12) (yFA fo_97_1 rfl) (ox_y (sT rfl rfl rfl rfl hp12) (y_load1 1 (v:=.int .i64 ((rdL p0.fNo s5.2).fLevel)) sc_3 rfl rfl rfl) ?_)
       obtain ⟨y24,hy25,h⟩:=bOs h
       refine ox_y (sT rfl rfl rfl rfl hp12) (y_call [.int .i64 ((rdL p0.fNo s5.2).fLevel),.int .i64 0,.int .i64 9] go_117 rfl (fun W2 hW2 => recall_within_ok ((rdL p0.fNo s5.2).fLevel) 0 9 y24 hy25 W2 ) rfl) (ox_y (sT rfl rfl rfl rfl hp12) (y_not rfl) (ox_y rfl (y_pick_fb (vB hp12) rfl) ?_))
       obtain rfl:=sI h
       exact key _ _ (kp4 (kp4 (kp (kp rfl))))
    ·refine cx_false (vB hp7) (cx_exit (ex_then_exit ?_))
     obtain rfl:=sI h
     exact ex_stop ⟨rfl,_,rfl,(kp4 (kp (kp rfl)))⟩
   ·intro e L tm hJ
    rcases u6 with u27 | u28
    ·dsimp only at h hJ
     obtain ⟨rfl,tm0_u27,rfl,rfl⟩:=hJ
     refine ⟨(by intro hc; cases hc),?_⟩
     refine ex_block_ret (ex_then_ret ?_)
     obtain rfl:=sI h
     exact ex_res1 (.inl rfl) rfl (rVt (v:=.int .i64 u27.1) rfl) (fun W2 hW2 => ⟨rfl,hW2.none⟩)
    ·dsimp only at h hJ
     obtain ⟨rfl,tm0_u28,rfl,rfl⟩:=hJ
     refine ⟨(by intro hc; cases hc),?_⟩
     refine ex_block_here ?_
     refine eT (cS (cR ?_))
     refine ox_y rfl (yAI rfl) ?_
     refine oN (eT (cS (cS (cR ?_))))
     refine ox_y rfl (yFA fo_25_1 rfl) (ox_y rfl (y_load1 0 (v:=.slice Ab p0.fC.length cb) sc_23 rfl rfl rfl) (ox_y rfl (y_len (us:=[]) us_23 rfl) (ox_y rfl (yMI rfl) ?_)))
     refine oN (eT (cx_block ?_))
     obtain ⟨u31,hl46,h⟩:=bOs h
     refine cx_loop (fun (s:(Int × Int × Int)) L tm => ∃ (tm0:Nat → Value),L = [cellsR b1 25 [.slice Aa p0.fNo.length ca,.slice Ab p0.fC.length cb]] ∧ tm = (upd (upd (upd (upd (upd (upd (upd (upd (upd (upd tm0 1 (.pointer (some ⟨b1,0,none⟩))) 2 (.int .i64 s.1)) 17 (.bool ((decide (60 < (p0.fNo.length:Int))) || (decide (80 < (p0.fC.length:Int)))))) 19 (.slice Aa p0.fNo.length ca)) 20 (.int .i64 (p0.fNo.length:Int))) 21 (.int .i64 u28.2)) 5 (.int .i64 s.2.1)) 50 (.slice Ab p0.fC.length cb)) 51 (.int .i64 (p0.fC.length:Int))) 52 (.int .i64 s.2.2))) (fun | (.inl s),e,L,tm => e = .ret ∧ ∃ (tm0:Nat → Value),L = [cellsR b1 25 [.slice Aa p0.fNo.length ca,.slice Ab p0.fC.length cb]] ∧ tm = (upd (upd (upd (upd (upd (upd (upd (upd (upd (upd tm0 1 (.pointer (some ⟨b1,0,none⟩))) 2 (.int .i64 s.1)) 17 (.bool ((decide (60 < (p0.fNo.length:Int))) || (decide (80 < (p0.fC.length:Int)))))) 19 (.slice Aa p0.fNo.length ca)) 20 (.int .i64 (p0.fNo.length:Int))) 21 (.int .i64 u28.2)) 5 (.int .i64 s.2.1)) 50 (.slice Ab p0.fC.length cb)) 51 (.int .i64 (p0.fC.length:Int))) 52 (.int .i64 s.2.2)) | (.inr s),e,L,tm => e = .exit 2 ∧ ∃ (tm0:Nat → Value),L = [cellsR b1 25 [.slice Aa p0.fNo.length ca,.slice Ab p0.fC.length cb]] ∧ tm = (upd (upd (upd (upd (upd (upd (upd (upd (upd (upd tm0 1 (.pointer (some ⟨b1,0,none⟩))) 2 (.int .i64 s.1)) 17 (.bool ((decide (60 < (p0.fNo.length:Int))) || (decide (80 < (p0.fC.length:Int)))))) 19 (.slice Aa p0.fNo.length ca)) 20 (.int .i64 (p0.fNo.length:Int))) 21 (.int .i64 u28.2)) 5 (.int .i64 s.2.1)) 50 (.slice Ab p0.fC.length cb)) 51 (.int .i64 (p0.fC.length:Int))) 52 (.int .i64 s.2.2))) hl46 ⟨_,rfl,(kp4 (kp4 (kp (kp rfl))))⟩ ?_ ?_
     ·rintro s30 L tm st ⟨tm0_s30,rfl,rfl⟩ h
      unfold recall_Check_l2 at h
      refine cS (cR ?_)
      refine ox_y rfl (y_lss rfl rfl) ?_
      refine oN (eT (cS ?_))
      rcases iOs h with ⟨hp32,h⟩ | ⟨hp32,h⟩
      ·refine cx_true (vB hp32) ?_
       refine cx_skip (eT (cS (cx_block (cS (cR ?_)))))
       refine ox_y rfl (yMI rfl) ?_
       obtain ⟨hg33,h⟩:=gOs h
       refine ox_y rfl (y_indexR sl_23 (by decide) hg33.1 hg33.2 (RdL.arg hr0_1) (encL_len TClaim_cells2_len (NestP.hn hN0_1.p rfl)) rfl rfl) ?_
       refine ox_y rfl (y_loadRN (A:=Ab) (j:=(Int.toNat s30.2.2 * 2)) [.int .i64 ((rdL p0.fC s30.2.2).fID),.slice ((rdL ys0_1 s30.2.2).1.1) ((rdL p0.fC s30.2.2).fO.length) ((rdL ys0_1 s30.2.2).1.2.2)] ag_90 (Nat.succ_pos _) (RdL.arg hr0_1) rfl (gets_eq (TClaim_cells2_eq (NestP.snd hN0_1.p s30.2.2) (NestP.len hN0_1.p hg33.1 (lt_nat hg33.2 rfl))).symm (encL_gets TClaim_cells2_len hg33.1 (lt_nat hg33.2 (NestP.hn hN0_1.p rfl))))) ?_
       refine ox_alloc ze_90 rfl (fun b34 => ?_)
       refine ox_y rfl (yAI rfl) (ox_n rfl (y_storeN 1 [.int .i64 ((rdL p0.fC s30.2.2).fID),.slice ((rdL ys0_1 s30.2.2).1.1) ((rdL p0.fC s30.2.2).fO.length) ((rdL ys0_1 s30.2.2).1.2.2)] sz_90 rfl (nB rfl) rfl rfl rfl) ?_)
       refine oN (eT (cS (cS (cR ?_))))
       refine ox_y rfl (yFA fo_90_0 rfl) (ox_y rfl (y_load1 1 (v:=.int .i64 ((rdL p0.fC s30.2.2).fID)) sc_3 rfl rfl rfl) ?_)
       obtain ⟨y35,hy36,h⟩:=bOs h
       refine ox_y rfl (y_call [.int .i64 ((rdL p0.fC s30.2.2).fID),.int .i64 1,.int .i64 1099511627776] go_117 rfl (fun W2 hW2 => recall_within_ok ((rdL p0.fC s30.2.2).fID) 1 1099511627776 y35 hy36 W2 ) rfl) (ox_y rfl (y_not rfl) (ox_y rfl (y_move_bool rfl) ?_))
       obtain ⟨b38,hb39,h⟩:=bOs h
       refine ox_join 6 (fun tm0 => (upd (upd (upd (upd (upd (upd (upd (upd (upd (upd (upd (upd (upd (upd tm0 1 (.pointer (some ⟨b1,0,none⟩))) 2 (.int .i64 s30.1)) 17 (.bool ((decide (60 < (p0.fNo.length:Int))) || (decide (80 < (p0.fC.length:Int)))))) 19 (.slice Aa p0.fNo.length ca)) 20 (.int .i64 (p0.fNo.length:Int))) 21 (.int .i64 u28.2)) 5 (.int .i64 s30.2.1)) 50 (.slice Ab p0.fC.length cb)) 51 (.int .i64 (p0.fC.length:Int))) 52 (.int .i64 s30.2.2)) 53 (.bool (decide (s30.2.2 < (p0.fC.length:Int))))) 7 (.pointer (some ⟨b34,0,none⟩))) 6 (.int .i64 s30.2.2)) 67 (.bool b38))) (fun tm0 => ?_) (fun key => ?_)
       ·refine oN (eT ?_)
        rcases iOs h with ⟨hp40,h⟩ | ⟨hp40,h⟩
        ·refine cx_true (vB hp40) ?_
         refine cS (cR ?_)
         refine ox_y rfl (yAI rfl) ?_
         refine oN (eT (cx_ret (ex_then_ret (ex_block_ret (ex_then_ret ?_)))))
         refine ex_take 1 ?_
         obtain rfl:=sI h
         exact ex_stop ⟨rfl,_,rfl,(kp4 (kp4 (kp (kp rfl))))⟩
        ·refine cx_false (vB hp40) ?_
         refine cx_skip (eT (cS (cS (cR ?_))))
         refine ox_y rfl (y_loadN 0 [.slice Aa p0.fNo.length ca,.slice Ab p0.fC.length cb] ag_25 rfl rfl rfl) (ox_y rfl (yFA fo_90_0 rfl) (ox_y rfl (y_load1 1 (v:=.int .i64 ((rdL p0.fC s30.2.2).fID)) sc_3 rfl rfl rfl) ?_))
         obtain ⟨y41,hy42,h⟩:=bOs h
         refine ox_y rfl (y_call [.agg #[.slice Aa p0.fNo.length ca,.slice Ab p0.fC.length cb],.int .i64 ((rdL p0.fC s30.2.2).fID)] go_114 rfl (fun W2 hW2 => recall_linkOf_ok p0 ((rdL p0.fC s30.2.2).fID) y41 hy42 W2 Aa p0.fNo.length ca rfl ((RdL.arg hr0_0) W2 hW2) Ab p0.fC.length cb ys0_1 rfl ((RdL.arg hr0_1) W2 hW2) (NestL.at (NestL.arg hN0_1) W2 hW2)) rfl) (ox_y rfl (yMI rfl) (ox_y rfl (y_lss rfl rfl) ?_))
         refine oN (eT ?_)
         rcases iOs h with ⟨hp43,h⟩ | ⟨hp43,h⟩
         ·refine cx_true (vB hp43) ?_
          refine cS (cR ?_)
          refine ox_y rfl (yAI rfl) ?_
          refine oN (eT (cx_ret (ex_then_ret (ex_block_ret (ex_then_ret ?_)))))
          refine ex_take 1 ?_
          obtain rfl:=sI h
          exact ex_stop ⟨rfl,_,rfl,(kp4 (kp4 (kp (kp rfl))))⟩
         ·refine cx_false (vB hp43) ?_
          refine cx_skip (eT (cR ?_))
          refine ox_y rfl (yMI rfl) (ox_y rfl (yFA fo_90_1 rfl) (ox_y rfl (y_load1 1 (v:=.slice ((rdL ys0_1 s30.2.2).1.1) ((rdL p0.fC s30.2.2).fO.length) ((rdL ys0_1 s30.2.2).1.2.2)) sc_88 rfl rfl rfl) (ox_y rfl (y_len (us:=[]) us_88 rfl) (ox_y rfl (y_mul rfl rfl) (ox_y rfl (y_min rfl rfl) (ox_y rfl (yAI rfl) (oN (ex_block ?_))))))))
          refine eT (cR ?_)
          refine ox_y rfl (y_add rfl rfl) (ox_y rfl (yMI rfl) (oN (ex_take 1 ?_)))
          obtain rfl:=sI h
          exact ex_next ⟨_,rfl,(kp4 (kp4 (kp (kp rfl))))⟩
       ·clear h; rcases iOs hb39 with ⟨hp37,h⟩ | ⟨hp37,h⟩
        ·refine oSk (sF rfl rfl rfl rfl hp37) (oSk (sF rfl rfl rfl rfl hp37) (oSk (sF rfl rfl rfl rfl hp37) (oSk (sF rfl rfl rfl rfl hp37) (oSk (sF rfl rfl rfl rfl hp37) (ox_y rfl (y_pick_tb (vB hp37) rfl) ?_)))))
         obtain rfl:=sI h
         exact key _ _ (kp4 (kp4 (kp4 (kp (kp rfl)))))
        ·refine ox_y (sT rfl rfl rfl rfl hp37) (y_loadN 0 [.slice Aa p0.fNo.length ca,.slice Ab p0.fC.length cb] ag_25 rfl rfl rfl) (ox_y (sT rfl rfl rfl rfl hp37) (yFA fo_90_1 rfl) (ox_y (sT rfl rfl rfl rfl hp37) (y_load1 1 (v:=.slice ((rdL ys0_1 s30.2.2).1.1) ((rdL p0.fC s30.2.2).fO.length) ((rdL ys0_1 s30.2.2).1.2.2)) sc_88 rfl rfl rfl) ?_))
         obtain ⟨y44,hy45,h⟩:=bOs h
         refine ox_y (sT rfl rfl rfl rfl hp37) (y_call [.agg #[.slice Aa p0.fNo.length ca,.slice Ab p0.fC.length cb],.slice ((rdL ys0_1 s30.2.2).1.1) ((rdL p0.fC s30.2.2).fO.length) ((rdL ys0_1 s30.2.2).1.2.2)] go_118 rfl (fun W2 hW2 => recall_options_ok p0 ((rdL p0.fC s30.2.2).fO) y44 hy45 W2 Aa p0.fNo.length ca rfl ((RdL.arg hr0_0) W2 hW2) Ab p0.fC.length cb ys0_1 rfl ((RdL.arg hr0_1) W2 hW2) (NestL.at (NestL.arg hN0_1) W2 hW2) ((rdL ys0_1 s30.2.2).1.1) ((rdL p0.fC s30.2.2).fO.length) ((rdL ys0_1 s30.2.2).1.2.2) rfl ((NestL.rd (NestL.arg hN0_1) hg33.1 (lt_nat hg33.2 rfl)) W2 hW2)) rfl) (ox_y (sT rfl rfl rfl rfl hp37) (y_not rfl) (ox_y rfl (y_pick_fb (vB hp37) rfl) ?_))
         obtain rfl:=sI h
         exact key _ _ (kp4 (kp4 (kp4 (kp (kp rfl)))))
      ·refine cx_false (vB hp32) (cx_exit (ex_then_exit ?_))
       obtain rfl:=sI h
       exact ex_stop ⟨rfl,_,rfl,(kp4 (kp4 (kp (kp rfl))))⟩
     ·intro e L tm hJ
      rcases u31 with u47 | u48
      ·dsimp only at h hJ
       obtain ⟨rfl,tm0_u47,rfl,rfl⟩:=hJ
       refine ⟨(by intro hc; cases hc),?_⟩
       refine ex_block_ret (ex_then_ret ?_)
       obtain rfl:=sI h
       exact ex_res1 (.inl rfl) rfl (rVt (v:=.int .i64 u47.1) rfl) (fun W2 hW2 => ⟨rfl,hW2.none⟩)
      ·dsimp only at h hJ
       obtain ⟨rfl,tm0_u48,rfl,rfl⟩:=hJ
       refine ⟨(by intro hc; cases hc),?_⟩
       refine ex_block_here ?_
       refine eT (cS (cS (cR ?_)))
       refine ox_y rfl (yMI rfl) (ox_y rfl (y_gtr rfl rfl) ?_)
       refine oN (eT ?_)
       rcases iOs h with ⟨hp49,h⟩ | ⟨hp49,h⟩
       ·refine cx_true (vB hp49) ?_
        refine cS (cR ?_)
        refine ox_y rfl (yAI rfl) ?_
        refine oN (eT (cx_ret (ex_then_ret ?_)))
        obtain rfl:=sI h
        exact ex_res1 (.inl rfl) rfl (rVt (v:=.int .i64 2) rfl) (fun W2 hW2 => ⟨rfl,hW2.none⟩)
       ·refine cx_false (vB hp49) ?_
        refine cx_skip (eT (cS (cR ?_)))
        refine ox_y rfl (yAI rfl) ?_
        refine oN (eT (cx_ret ?_))
        obtain rfl:=sI h
        exact ex_res1 (.inl rfl) rfl (rVt (v:=.int .i64 0) rfl) (fun W2 hW2 => ⟨rfl,hW2.none⟩)
 ·rcases bool_cases (decide (60 < (p0.fNo.length:Int))) with hp2 | hp2
  ·refine oSk (sF rfl rfl rfl rfl hp2) (oSk (sF rfl rfl rfl rfl hp2) (oSk (sF rfl rfl rfl rfl hp2) (oSk (sF rfl rfl rfl rfl hp2) (ox_y rfl (y_pick_tb (vB hp2) rfl) ?_))))
   exact key _ _ (keep (keep (keep rfl rfl) rfl) (vB (or_t hp2)))
  ·refine ox_y (sT rfl rfl rfl rfl hp2) (yFA fo_25_1 rfl) (ox_y (sT rfl rfl rfl rfl hp2) (y_load1 0 (v:=.slice Ab p0.fC.length cb) sc_23 rfl rfl rfl) (ox_y (sT rfl rfl rfl rfl hp2) (y_len (us:=[]) us_23 rfl) (ox_y (sT rfl rfl rfl rfl hp2) (y_gtr rfl rfl) (ox_y rfl (y_pick_fb (vB hp2) rfl) ?_))))
   exact key _ _ (keep (keep (keep rfl rfl) rfl) (vB (or_f hp2)))
theorem cmp_isNaN_int_ok (p0:Int) (res:Bool) (h:cmp_isNaN_int p0 = some res) (W:World)  :
  Calls Tryz.prog 168 [.int .i64 p0].toArray W fun e W2 => e = .returned (.bool res) ∧ Ext W W2 []:=by
 unfold cmp_isNaN_int at h
 refine calls_enter (m:=6) Tryz.func168 rfl rfl (nB rfl) ?_
 refine cS (cR ?_)
 refine ox_y rfl (y_assign_bool rfl) ?_
 refine oN (eT (cS (cR ?_)))
 refine ox_y rfl (yMI rfl) (ox_y rfl (yMI rfl) (ox_y rfl (y_neq rfl rfl) (ox_y rfl (y_assign_bool rfl) ?_)))
 refine oN (eT (cx_ret ?_))
 obtain rfl:=sI h
 exact ex_res1 (.inl rfl) rfl (rVt (v:=.bool (p0 != p0)) rfl) (fun W2 hW2 => ⟨rfl,hW2.none⟩)
theorem cmp_Less_int_ok (p0:Int) (p1:Int) (res:Bool) (h:cmp_Less_int p0 p1 = some res) (W:World)  :
  Calls Tryz.prog 154 [.int .i64 p0,.int .i64 p1].toArray W fun e W2 => e = .returned (.bool res) ∧ Ext W W2 []:=by
 unfold cmp_Less_int at h
 refine calls_enter (m:=17) Tryz.func154 rfl rfl (nB rfl) ?_
 refine cS (cR ?_)
 refine ox_y rfl (y_assign_bool rfl) ?_
 refine oN (eT (cS (cR ?_)))
 refine ox_y rfl (yMI rfl) ?_
 obtain ⟨y1,hy2,h⟩:=bOs h
 refine ox_y rfl (y_call [.int .i64 p0] go_168 rfl (fun W2 hW2 => cmp_isNaN_int_ok p0 y1 hy2 W2 ) rfl) (ox_y rfl (y_move_bool rfl) ?_)
 obtain ⟨b4,hb5,h⟩:=bOs h
 refine ox_join 4 (fun tm0 => (upd (upd (upd (upd tm0 0 (.int .i64 p0)) 1 (.int .i64 p1)) 4 (.bool false)) 11 (.bool b4))) (fun tm0 => ?_) (fun key => ?_)
 ·refine ox_y rfl (y_move_bool rfl) ?_
  refine ox_join 4 (fun tm0 => (upd (upd tm0 4 (.bool false)) 16 (.bool (b4 || (decide (p0 < p1)))))) (fun tm0 => ?_) (fun key => ?_)
  ·refine ox_y rfl (y_assign_bool rfl) ?_
   refine oN (eT (cx_ret ?_))
   obtain rfl:=sI h
   exact ex_res1 (.inl rfl) rfl (rVt (v:=.bool (b4 || (decide (p0 < p1)))) rfl) (fun W2 hW2 => ⟨rfl,hW2.none⟩)
  ·rcases bool_cases b4 with hp6 | hp6
   ·refine oSk (sF rfl rfl rfl rfl hp6) (oSk (sF rfl rfl rfl rfl hp6) (oSk (sF rfl rfl rfl rfl hp6) (ox_y rfl (y_pick_tb (vB hp6) rfl) ?_)))
    exact key _ _ (keep (keep rfl rfl) (vB (or_t hp6)))
   ·refine ox_y (sT rfl rfl rfl rfl hp6) (yMI rfl) (ox_y (sT rfl rfl rfl rfl hp6) (yMI rfl) (ox_y (sT rfl rfl rfl rfl hp6) (y_lss rfl rfl) (ox_y rfl (y_pick_fb (vB hp6) rfl) ?_)))
    exact key _ _ (keep (keep rfl rfl) (vB (or_f hp6)))
 ·clear h; rcases iOs hb5 with ⟨hp3,h⟩ | ⟨hp3,h⟩
  ·refine ox_y (sT rfl rfl rfl rfl hp3) (yMI rfl) ?_
   obtain ⟨y7,hy8,h⟩:=bOs h
   refine ox_y (sT rfl rfl rfl rfl hp3) (y_call [.int .i64 p1] go_168 rfl (fun W2 hW2 => cmp_isNaN_int_ok p1 y7 hy8 W2 ) rfl) (ox_y (sT rfl rfl rfl rfl hp3) (y_not rfl) (ox_y rfl (y_pick_tb (vB hp3) rfl) ?_))
   obtain rfl:=sI h
   exact key _ _ (kp4 rfl)
  ·refine oSk (sF rfl rfl rfl rfl hp3) (oSk (sF rfl rfl rfl rfl hp3) (oSk (sF rfl rfl rfl rfl hp3) (ox_y rfl (y_pick_fb (vB hp3) rfl) ?_)))
   obtain rfl:=sI h
   exact key _ _ (kp4 rfl)
theorem slices_insertionSortOrdered_int_ok (p0:(List Int)) (p1:Int) (p2:Int) (res:(List Int)) (h:slices_insertionSortOrdered_int p0 p1 p2 = some res) (W:World) (w0:World) (R:Res) (Aa:Option Addr) (n0_0 ca : Nat) (hn0_0:n0_0 = p0.length) (hW:Ext w0 W [R,rowR Aa ca 3 1 n0_0 (encL cI p0)]) :
  Calls Tryz.prog 148 [.slice Aa n0_0 ca,.int .i64 p1,.int .i64 p2].toArray W fun e W2 => e = .returned (.tuple #[]) ∧ n0_0 = res.length ∧ Ext w0 W2 [R,rowR Aa ca 3 1 n0_0 (encL cI res)]:=by
 subst hn0_0
 unfold slices_insertionSortOrdered_int at h
 refine calls_enterB (m:=49) Tryz.func148 rfl rfl (nB rfl) hW ?_
 refine cS (cR ?_)
 refine ox_y rfl (yMI rfl) (ox_y rfl (y_add rfl rfl) (ox_y rfl (yAI rfl) ?_))
 refine oN (eT (cx_block ?_))
 obtain ⟨u4,hl24,h⟩:=bOs h
 refine cx_loop (fun (s:(Int × (List Int))) L tm => ∃ (tm0:Nat → Value),p0.length = s.2.length ∧ L = [R,rowR Aa ca 3 1 p0.length (encL cI s.2)] ∧ tm = (upd (upd (upd (upd tm0 0 (.slice Aa p0.length ca)) 1 (.int .i64 p1)) 2 (.int .i64 p2)) 6 (.int .i64 s.1))) (fun s e L tm => e = .exit 0 ∧ ∃ (tm0:Nat → Value),p0.length = s.2.length ∧ L = [R,rowR Aa ca 3 1 p0.length (encL cI s.2)] ∧ tm = (upd (upd (upd (upd tm0 0 (.slice Aa p0.length ca)) 1 (.int .i64 p1)) 2 (.int .i64 p2)) 6 (.int .i64 s.1))) hl24 ⟨_,rfl,rfl,(kp4 rfl)⟩ ?_ ?_
 ·rintro s3 L tm st ⟨tm0_s3,hn1_s3,rfl,rfl⟩ h
  unfold slices_insertionSortOrdered_int_l1 at h
  refine cS (cS (cR ?_))
  refine ox_y rfl (yMI rfl) (ox_y rfl (yMI rfl) (ox_y rfl (y_lss rfl rfl) ?_))
  refine oN (eT ?_)
  rcases iOs h with ⟨hp5,h⟩ | ⟨hp5,h⟩
  ·refine cx_true (vB hp5) ?_
   refine cx_skip (eT (cS (cx_block (cS (cR ?_)))))
   refine ox_y rfl (yMI rfl) (ox_y rfl (yAI rfl) ?_)
   refine oN (eT (cx_block ?_))
   obtain ⟨u9,hl23,h⟩:=bOs h
   refine cx_loop (fun (s:(Int × (List Int))) L tm => ∃ (tm0:Nat → Value),p0.length = s.2.length ∧ L = [R,rowR Aa ca 3 1 p0.length (encL cI s.2)] ∧ tm = (upd (upd (upd (upd (upd (upd tm0 0 (.slice Aa p0.length ca)) 1 (.int .i64 p1)) 2 (.int .i64 p2)) 6 (.int .i64 s3.1)) 12 (.bool (decide (s3.1 < p2)))) 7 (.int .i64 s.1))) (fun s e L tm => e = .exit 2 ∧ ∃ (tm0:Nat → Value),p0.length = s.2.length ∧ L = [R,rowR Aa ca 3 1 p0.length (encL cI s.2)] ∧ tm = (upd (upd (upd (upd (upd (upd tm0 0 (.slice Aa p0.length ca)) 1 (.int .i64 p1)) 2 (.int .i64 p2)) 6 (.int .i64 s3.1)) 12 (.bool (decide (s3.1 < p2)))) 7 (.int .i64 s.1))) hl23 ⟨_,hn1_s3,rfl,(kp4 (kp (kp rfl)))⟩ ?_ ?_
   ·rintro s8 L tm st ⟨tm0_s8,hn1_s8,rfl,rfl⟩ h
    unfold slices_insertionSortOrdered_int_l2 at h
    refine cS (cS ?_)
    refine cx_draws 15 mixed (by kernel_rfl) (by kernel_rfl) ?_
    refine qx_y rfl (yMI rfl) (qx_y rfl (yMI rfl) (qx_y rfl (y_gtr rfl rfl) (qx_y rfl (y_move_bool rfl) ?_)))
    obtain ⟨b11,hb12,h⟩:=bOs h
    refine qx_join 11 (fun tm0 => (upd (upd (upd (upd (upd (upd (upd tm0 0 (.slice Aa p0.length ca)) 1 (.int .i64 p1)) 2 (.int .i64 p2)) 6 (.int .i64 s3.1)) 12 (.bool (decide (s3.1 < p2)))) 7 (.int .i64 s8.1)) 30 (.bool b11))) (fun tm0 => ?_) (fun key => ?_)
    ·refine qx_nil ?_
     refine oN (eT ?_)
     rcases iOs h with ⟨hp13,h⟩ | ⟨hp13,h⟩
     ·refine cx_true (vB hp13) ?_
      refine cx_skip (eT (cS (cx_block ?_)))
      obtain ⟨hg15,h⟩:=gOs h
      obtain ⟨hg16,h⟩:=gOs h
      obtain ⟨hg17,h⟩:=gOs h
      obtain ⟨hg18,h⟩:=gOs h
      refine cx_drawsG [[],[],[],[],[3],[],[],[6],[5,6,7],[5,6,7,8],[],[],[10,11],[10,11,12],[0,1,5,6,7,8,9,10,11,12,13],[0,1,5,6,7,8,9,10,11,12,13,14],[0,1,2,3,4,5,6,7,8,9,10,11,12,13,14,15],[0,1,2,3,4,5,6,7,8,9,10,11,12,13,14,15,16]] [(none,0,[true,true]),(none,0,[true,true]),(none,0,[true,false]),(none,0,[true,false]),(none,0,[true,false]),(none,0,[true,true]),(none,0,[true,true]),(none,0,[true,true]),(none,0,[true,true]),(none,0,[true,true]),(none,0,[true,true]),(none,0,[true,true]),(none,0,[true,true]),(none,0,[true,true]),(none,0,[true,true]),(some 1,0,[true,true]),(none,0,[true,true]),(some 1,0,[true,true])] [⟨fun _ => .slice Aa p0.length ca,fun _ => noR,fun _ => []⟩,⟨fun _ => .int .i64 s8.1,fun _ => noR,fun _ => []⟩,⟨fun _ => .slice Aa p0.length ca,fun _ => noR,fun _ => []⟩,⟨fun _ => .int .i64 s8.1,fun _ => noR,fun _ => []⟩,⟨fun _ => .int .i64 (w64 (s8.1 - 1)),fun _ => noR,fun _ => []⟩,⟨fun _ => .slice Aa p0.length ca,fun _ => noR,fun _ => []⟩,⟨fun _ => .int .i64 s8.1,fun _ => noR,fun _ => []⟩,⟨fun _ => .int .i64 (w64 (s8.1 - 1)),fun _ => noR,fun _ => []⟩,⟨fun _ => slA Aa (Int.toNat (w64 (s8.1 - 1)) * 1),fun _ => noR,fun _ => []⟩,⟨fun _ => .int .i64 (rdL s8.2 (w64 (s8.1 - 1))),fun _ => noR,fun _ => []⟩,⟨fun _ => .slice Aa p0.length ca,fun _ => noR,fun _ => []⟩,⟨fun _ => .int .i64 s8.1,fun _ => noR,fun _ => []⟩,⟨fun _ => slA Aa (Int.toNat s8.1 * 1),fun _ => noR,fun _ => []⟩,⟨fun _ => .int .i64 (rdL s8.2 s8.1),fun _ => noR,fun _ => []⟩,⟨fun _ => slA Aa (Int.toNat s8.1 * 1),fun _ => noR,fun _ => []⟩,⟨fun _ => undef,fun _ => rowR Aa ca 3 1 p0.length (encL cI (s8.2.set (Int.toNat s8.1) (rdL s8.2 (w64 (s8.1 - 1))))),fun _ => []⟩,⟨fun _ => slA Aa (Int.toNat (w64 (s8.1 - 1)) * 1),fun _ => noR,fun _ => []⟩,⟨fun _ => undef,fun _ => rowR Aa ca 3 1 p0.length (encL cI ((s8.2.set (Int.toNat s8.1) (rdL s8.2 (w64 (s8.1 - 1)))).set (Int.toNat (w64 (s8.1 - 1))) (rdL s8.2 s8.1))),fun _ => []⟩] 2 mixed (by kernel_rfl) (by kernel_rfl) ⟨⟨fun ξ14 ξ14' h => ⟨rfl,rfl,rfl⟩,fun _ => rfl⟩,⟨fun ξ14 ξ14' h => ⟨rfl,rfl,rfl⟩,fun _ => rfl⟩,⟨fun ξ14 ξ14' h => ⟨rfl,rfl,rfl⟩,fun _ => rfl⟩,⟨fun ξ14 ξ14' h => ⟨rfl,rfl,rfl⟩,fun _ => rfl⟩,⟨fun ξ14 ξ14' h => ⟨rfl,rfl,rfl⟩,fun _ => rfl⟩,⟨fun ξ14 ξ14' h => ⟨rfl,rfl,rfl⟩,fun _ => rfl⟩,⟨fun ξ14 ξ14' h => ⟨rfl,rfl,rfl⟩,fun _ => rfl⟩,⟨fun ξ14 ξ14' h => ⟨rfl,rfl,rfl⟩,fun _ => rfl⟩,⟨fun ξ14 ξ14' h => ⟨rfl,rfl,rfl⟩,fun _ => rfl⟩,⟨fun ξ14 ξ14' h => ⟨rfl,rfl,rfl⟩,fun _ => rfl⟩,⟨fun ξ14 ξ14' h => ⟨rfl,rfl,rfl⟩,fun _ => rfl⟩,⟨fun ξ14 ξ14' h => ⟨rfl,rfl,rfl⟩,fun _ => rfl⟩,⟨fun ξ14 ξ14' h => ⟨rfl,rfl,rfl⟩,fun _ => rfl⟩,⟨fun ξ14 ξ14' h => ⟨rfl,rfl,rfl⟩,fun _ => rfl⟩,⟨fun ξ14 ξ14' h => ⟨rfl,rfl,rfl⟩,fun _ => rfl⟩,⟨fun ξ14 ξ14' h => ⟨rfl,rfl,rfl⟩,fun _ => rfl⟩,⟨fun ξ14 ξ14' h => ⟨rfl,rfl,rfl⟩,fun _ => rfl⟩,⟨fun ξ14 ξ14' h => ⟨rfl,rfl,rfl⟩,fun _ => rfl⟩,trivial⟩ rfl (fun ξ14 => ?_)
      refine gx_o rfl (fun L2 => ?_) ?_
      ·dsimp only [maskL,lca,lna]
       refine ox_y rfl (yMS rfl) (oN ?_)
       exact ex_capG (fun _ => (none,0,0,[],noR)) rfl (List.append_nil _)
      dsimp only [aftL,lsz,lss,lna,lca,List.append_nil]
      refine gx_o rfl (fun L2 => ?_) ?_
      ·dsimp only [maskL,lca,lna]
       refine ox_y rfl (yMI rfl) (oN ?_)
       exact ex_capG (fun _ => (none,0,0,[],noR)) rfl (List.append_nil _)
      dsimp only [aftL,lsz,lss,lna,lca,List.append_nil]
      refine gx_o rfl (fun L2 => ?_) ?_
      ·dsimp only [maskL,lca,lna]
       refine ox_y rfl (yMS rfl) (oN ?_)
       exact ex_capG (fun _ => (none,0,0,[],noR)) rfl (List.append_nil _)
      dsimp only [aftL,lsz,lss,lna,lca,List.append_nil]
      refine gx_o rfl (fun L2 => ?_) ?_
      ·dsimp only [maskL,lca,lna]
       refine ox_y rfl (yMI rfl) (oN ?_)
       exact ex_capG (fun _ => (none,0,0,[],noR)) rfl (List.append_nil _)
      dsimp only [aftL,lsz,lss,lna,lca,List.append_nil]
      refine gx_o rfl (fun L2 => ?_) ?_
      ·dsimp only [maskL,lca,lna]
       refine ox_y rfl (y_sub rfl rfl) (oN ?_)
       exact ex_capG (fun _ => (none,0,0,[],noR)) rfl (List.append_nil _)
      dsimp only [aftL,lsz,lss,lna,lca,List.append_nil]
      refine gx_o rfl (fun L2 => ?_) ?_
      ·dsimp only [maskL,lca,lna]
       refine ox_y rfl (yMS rfl) (oN ?_)
       exact ex_capG (fun _ => (none,0,0,[],noR)) rfl (List.append_nil _)
      dsimp only [aftL,lsz,lss,lna,lca,List.append_nil]
      refine gx_o rfl (fun L2 => ?_) ?_
      ·dsimp only [maskL,lca,lna]
       refine ox_y rfl (yMI rfl) (oN ?_)
       exact ex_capG (fun _ => (none,0,0,[],noR)) rfl (List.append_nil _)
      dsimp only [aftL,lsz,lss,lna,lca,List.append_nil]
      refine gx_o rfl (fun L2 => ?_) ?_
      ·dsimp only [maskL,lca,lna]
       refine ox_y rfl (y_sub rfl rfl) (oN ?_)
       exact ex_capG (fun _ => (none,0,0,[],noR)) rfl (List.append_nil _)
      dsimp only [aftL,lsz,lss,lna,lca,List.append_nil]
      refine gx_o rfl (fun L2 => ?_) ?_
      ·dsimp only [maskL,lca,lna]
       refine ox_y rfl (y_indexR sl_26 (by decide) hg15.1 hg15.2 (RdL.row 1 rfl) (encL_len cI_len hn1_s8) rfl rfl) ?_
       refine oN ?_
       exact ex_capG (fun _ => (none,0,0,[],noR)) rfl (List.append_nil _)
      dsimp only [aftL,lsz,lss,lna,lca,List.append_nil]
      refine gx_o rfl (fun L2 => ?_) ?_
      ·dsimp only [maskL,lca,lna]
       refine ox_y rfl (y_loadR1 (A:=Aa) (j:=(Int.toNat (w64 (s8.1 - 1)) * 1)) (v:=.int .i64 (rdL s8.2 (w64 (s8.1 - 1)))) sc_3 (RdL.row 1 rfl) rfl (encL_get0 cI_len hg15.1 (lt_nat hg15.2 hn1_s8) rfl)) (oN ?_)
       exact ex_capG (fun _ => (none,0,0,[],noR)) rfl (List.append_nil _)
      dsimp only [aftL,lsz,lss,lna,lca,List.append_nil]
      refine gx_o rfl (fun L2 => ?_) ?_
      ·dsimp only [maskL,lca,lna]
       refine ox_y rfl (yMS rfl) (oN ?_)
       exact ex_capG (fun _ => (none,0,0,[],noR)) rfl (List.append_nil _)
      dsimp only [aftL,lsz,lss,lna,lca,List.append_nil]
      refine gx_o rfl (fun L2 => ?_) ?_
      ·dsimp only [maskL,lca,lna]
       refine ox_y rfl (yMI rfl) (oN ?_)
       exact ex_capG (fun _ => (none,0,0,[],noR)) rfl (List.append_nil _)
      dsimp only [aftL,lsz,lss,lna,lca,List.append_nil]
      refine gx_o rfl (fun L2 => ?_) ?_
      ·dsimp only [maskL,lca,lna]
       refine ox_y rfl (y_indexR sl_26 (by decide) hg16.1 hg16.2 (RdL.row 1 rfl) (encL_len cI_len hn1_s8) rfl rfl) ?_
       refine oN ?_
       exact ex_capG (fun _ => (none,0,0,[],noR)) rfl (List.append_nil _)
      dsimp only [aftL,lsz,lss,lna,lca,List.append_nil]
      refine gx_o rfl (fun L2 => ?_) ?_
      ·dsimp only [maskL,lca,lna]
       refine ox_y rfl (y_loadR1 (A:=Aa) (j:=(Int.toNat s8.1 * 1)) (v:=.int .i64 (rdL s8.2 s8.1)) sc_3 (RdL.row 1 rfl) rfl (encL_get0 cI_len hg16.1 (lt_nat hg16.2 hn1_s8) rfl)) (oN ?_)
       exact ex_capG (fun _ => (none,0,0,[],noR)) rfl (List.append_nil _)
      dsimp only [aftL,lsz,lss,lna,lca,List.append_nil]
      refine gx_o rfl (fun L2 => ?_) ?_
      ·dsimp only [maskL,lca,lna]
       refine ox_y rfl (y_indexR sl_26 (by decide) hg17.1 hg17.2 (RdL.row 1 rfl) (encL_len cI_len hn1_s8) rfl rfl) ?_
       refine oN ?_
       exact ex_capG (fun _ => (none,0,0,[],noR)) rfl (List.append_nil _)
      dsimp only [aftL,lsz,lss,lna,lca,List.append_nil]
      refine gx_n rfl (fun L2 => ?_) ?_
      ·dsimp only [maskL,lca,lna]
       refine ox_n rfl (y_storeR1 1 (xs:=s8.2) cI_len (rdL s8.2 (w64 (s8.1 - 1))) sz_3 rfl hg17.1 (lt_nat hg17.2 hn1_s8) rfl rfl rfl rfl) (oN ?_)
       exact ex_capGn (fun _ => (none,0,0,[],noR)) (List.append_nil _)
      dsimp only [aftL,lsz,lss,lna,lca,List.append_nil]
      refine gx_o rfl (fun L2 => ?_) ?_
      ·dsimp only [maskL,lca,lna]
       refine ox_y rfl (y_indexR sl_26 (by decide) hg18.1 hg18.2 (RdL.row 1 rfl) (encL_len cI_len (hn_set hn1_s8)) rfl rfl) ?_
       refine oN ?_
       exact ex_capG (fun _ => (none,0,0,[],noR)) rfl (List.append_nil _)
      dsimp only [aftL,lsz,lss,lna,lca,List.append_nil]
      refine gx_n rfl (fun L2 => ?_) ?_
      ·dsimp only [maskL,lca,lna]
       refine ox_n rfl (y_storeR1 1 (xs:=(s8.2.set (Int.toNat s8.1) (rdL s8.2 (w64 (s8.1 - 1))))) cI_len (rdL s8.2 s8.1) sz_3 rfl hg18.1 (lt_nat hg18.2 (hn_set hn1_s8)) rfl rfl rfl rfl) (oN ?_)
       exact ex_capGn (fun _ => (none,0,0,[],noR)) (List.append_nil _)
      dsimp only [aftL,lsz,lss,lna,lca,List.append_nil]
      refine gx_nil (ex_block ?_)
      refine eT (cR ?_)
      refine ox_y rfl (yMI rfl) (ox_y rfl (y_sub rfl rfl) (ox_y rfl (yAI rfl) (oN ?_)))
      obtain rfl:=sI h
      exact ex_next ⟨_,(hn_set (hn_set hn1_s8)),rfl,(kp4 (kp (kp rfl)))⟩
     ·refine cx_false (vB hp13) (cx_exit (ex_then_exit ?_))
      obtain rfl:=sI h
      exact ex_stop ⟨rfl,_,hn1_s8,rfl,(kp4 (kp (kp rfl)))⟩
    ·clear h; rcases iOs hb12 with ⟨hp10,h⟩ | ⟨hp10,h⟩
     ·refine qx_y (sT rfl rfl rfl rfl hp10) (yMS rfl) (qx_y (sT rfl rfl rfl rfl hp10) (yMI rfl) ?_)
      obtain ⟨hg19,h⟩:=gOs h
      refine qx_y (sT rfl rfl rfl rfl hp10) (y_indexR sl_26 (by decide) hg19.1 hg19.2 (RdL.row 1 rfl) (encL_len cI_len hn1_s8) rfl rfl) ?_
      refine qx_y (sT rfl rfl rfl rfl hp10) (y_loadR1 (A:=Aa) (j:=(Int.toNat s8.1 * 1)) (v:=.int .i64 (rdL s8.2 s8.1)) sc_3 (RdL.row 1 rfl) rfl (encL_get0 cI_len hg19.1 (lt_nat hg19.2 hn1_s8) rfl)) (qx_y (sT rfl rfl rfl rfl hp10) (yMS rfl) (qx_y (sT rfl rfl rfl rfl hp10) (yMI rfl) (qx_y (sT rfl rfl rfl rfl hp10) (y_sub rfl rfl) ?_)))
      obtain ⟨hg20,h⟩:=gOs h
      refine qx_y (sT rfl rfl rfl rfl hp10) (y_indexR sl_26 (by decide) hg20.1 hg20.2 (RdL.row 1 rfl) (encL_len cI_len hn1_s8) rfl rfl) ?_
      refine qx_y (sT rfl rfl rfl rfl hp10) (y_loadR1 (A:=Aa) (j:=(Int.toNat (w64 (s8.1 - 1)) * 1)) (v:=.int .i64 (rdL s8.2 (w64 (s8.1 - 1)))) sc_3 (RdL.row 1 rfl) rfl (encL_get0 cI_len hg20.1 (lt_nat hg20.2 hn1_s8) rfl)) ?_
      obtain ⟨y21,hy22,h⟩:=bOs h
      refine qx_y (sT rfl rfl rfl rfl hp10) (y_call [.int .i64 (rdL s8.2 s8.1),.int .i64 (rdL s8.2 (w64 (s8.1 - 1)))] go_154 rfl (fun W2 hW2 => cmp_Less_int_ok (rdL s8.2 s8.1) (rdL s8.2 (w64 (s8.1 - 1))) y21 hy22 W2 ) rfl) (qx_y rfl (y_pick_tb (vB hp10) rfl) ?_)
      obtain rfl:=sI h
      exact key _ _ (kp4 (kp (kp (kp rfl))))
     ·refine qx_skip (sF rfl rfl rfl rfl hp10) (qx_skip (sF rfl rfl rfl rfl hp10) (qx_skip (sF rfl rfl rfl rfl hp10) (qx_skip (sF rfl rfl rfl rfl hp10) (qx_skip (sF rfl rfl rfl rfl hp10) (qx_skip (sF rfl rfl rfl rfl hp10) (qx_skip (sF rfl rfl rfl rfl hp10) (qx_skip (sF rfl rfl rfl rfl hp10) (qx_skip (sF rfl rfl rfl rfl hp10) (qx_skip (sF rfl rfl rfl rfl hp10) (qx_y rfl (y_pick_fb (vB hp10) rfl) ?_))))))))))
      obtain rfl:=sI h
      exact key _ _ (kp4 (kp (kp (kp rfl))))
   ·intro e L tm hJ
    obtain ⟨rfl,tm0_u9,hn1_u9,rfl,rfl⟩:=hJ
    refine ⟨(by intro hc; cases hc),?_⟩
    refine ex_block_here (ex_block ?_)
    refine eT (cR ?_)
    refine ox_y rfl (yMI rfl) (ox_y rfl (y_add rfl rfl) (ox_y rfl (yAI rfl) (oN ?_)))
    obtain rfl:=sI h
    exact ex_next ⟨_,hn1_u9,rfl,(kp4 rfl)⟩
  ·refine cx_false (vB hp5) (cx_exit (ex_then_exit ?_))
   obtain rfl:=sI h
   exact ex_stop ⟨rfl,_,hn1_s3,rfl,(kp4 rfl)⟩
 ·intro e L tm hJ
  obtain ⟨rfl,tm0_u4,hn1_u4,rfl,rfl⟩:=hJ
  refine ⟨(by intro hc; cases hc),?_⟩
  refine ex_block_here ?_
  obtain rfl:=sI h
  exact ex_result0 (.inr rfl) rfl  (fun W2 hW2 => ⟨rfl,hn1_u4,hW2.take 2⟩)
theorem lenv_cases {x : Int} (h:0 ≤ x ∧ x < 16) : x = 0 ∨ x = 1 ∨ x = 2 ∨ x = 3 ∨ x = 4 ∨ x = 5 ∨ x = 6 ∨ x = 7 ∨ x = 8 ∨ x = 9 ∨ x = 10 ∨ x = 11 ∨ x = 12 ∨ x = 13 ∨ x = 14 ∨ x = 15:=by omega
theorem math_bits_Len64_ok (p0:Int) (res:Int) (h:math_bits_Len64 p0 = some res) (W:World) :
  Calls Tryz.prog 158 [.int .u64 p0].toArray W fun e W2 => e = .returned (.int .i64 res) ∧ Ext W W2 []:=by
 unfold math_bits_Len64 at h
 obtain ⟨hg,h⟩:=gOs h
 refine calls_enter (m:=25) Tryz.func158 rfl rfl (nB rfl) ?_
 have h1 : decide ((4294967296:Int) ≤ p0) = false:=decide_eq_false (by omega)
 have h2 : decide ((65536:Int) ≤ p0) = false:=decide_eq_false (by omega)
 have h3 : decide ((256:Int) ≤ p0) = false:=decide_eq_false (by omega)
 refine cS (cR ?_)
 refine ox_y rfl (yAI rfl) ?_
 refine oN (eT (cS (cS (cR ?_))))
 refine ox_y rfl (yMI rfl) (ox_y rfl (y_geq rfl rfl) ?_)
 refine oN (eT ?_)
 refine cx_false (vB h1) ?_
 refine cx_skip (eT (cS (cS (cR ?_))))
 refine ox_y rfl (yMI rfl) (ox_y rfl (y_geq rfl rfl) ?_)
 refine oN (eT ?_)
 refine cx_false (vB h2) ?_
 refine cx_skip (eT (cS (cS (cR ?_))))
 refine ox_y rfl (yMI rfl) (ox_y rfl (y_geq rfl rfl) ?_)
 refine oN (eT ?_)
 refine cx_false (vB h3) ?_
 refine cx_skip (eT (cS (cR ?_)))
 refine ox_y rfl (yMI rfl) (ox_y rfl (yMI rfl) ?_)
 refine ox_y rfl (y_convQ (a':=p0) (q':=.u8) ui_175 ui_5 (by rcases lenv_cases hg with rfl | rfl | rfl | rfl | rfl | rfl | rfl | rfl | rfl | rfl | rfl | rfl | rfl | rfl | rfl | rfl <;> decide) rfl) ?_
 refine ox_y rfl (y_indexStr (b:=UInt8.ofNat (lenv p0).toNat) us_s9 hg.1 (by rcases lenv_cases hg with rfl | rfl | rfl | rfl | rfl | rfl | rfl | rfl | rfl | rfl | rfl | rfl | rfl | rfl | rfl | rfl <;> rfl) rfl rfl) ?_
 refine ox_y rfl (y_convQ (a':=lenv p0) (q':=.i64) ui_5 ui_3 (by rcases lenv_cases hg with rfl | rfl | rfl | rfl | rfl | rfl | rfl | rfl | rfl | rfl | rfl | rfl | rfl | rfl | rfl | rfl <;> decide) rfl) ?_
 refine ox_y rfl (y_add rfl rfl) (ox_y rfl (yAI rfl) ?_)
 refine oN (eT (cx_ret ?_))
 obtain rfl:=sI h
 exact ex_res1 (.inl rfl) rfl (rVt (v:=.int .i64 (w64 (0 + lenv p0))) rfl) (fun W2 hW2 => ⟨rfl,hW2.none⟩)
theorem math_bits_Len_ok (p0:Int) (res:Int) (h:math_bits_Len p0 = some res) (W:World)  :
  Calls Tryz.prog 128 [.int .u64 p0].toArray W fun e W2 => e = .returned (.int .i64 res) ∧ Ext W W2 []:=by
 unfold math_bits_Len at h
 refine calls_enter (m:=8) Tryz.func128 rfl rfl (nB rfl) ?_
 refine cS (cR ?_)
 refine ox_y rfl (yAI rfl) ?_
 refine oN (eT (cS ?_))
 refine cx_false rfl ?_
 refine cx_skip (eT (cS (cR ?_)))
 refine ox_y rfl (yMI rfl) ?_
 obtain ⟨y1,hy2,h⟩:=bOs h
 refine ox_y rfl (y_call [.int .u64 p0] go_158 rfl (fun W2 hW2 => math_bits_Len64_ok p0 y1 hy2 W2 ) rfl) (ox_y rfl (yAI rfl) ?_)
 refine oN (eT (cx_ret ?_))
 obtain rfl:=sI h
 exact ex_res1 (.inl rfl) rfl (rVt (v:=.int .i64 y1) rfl) (fun W2 hW2 => ⟨rfl,hW2.none⟩)
theorem slices_pdqsortOrdered_int_ok (p0:(List Int)) (p1:Int) (p2:Int) (p3:Int) (res:(List Int)) (h:slices_pdqsortOrdered_int p0 p1 p2 p3 = some res) (W:World) (w0:World) (R:Res) (Aa:Option Addr) (n0_0 ca : Nat) (hn0_0:n0_0 = p0.length) (hW:Ext w0 W [R,rowR Aa ca 3 1 n0_0 (encL cI p0)]) :
  Calls Tryz.prog 127 [.slice Aa n0_0 ca,.int .i64 p1,.int .i64 p2,.int .i64 p3].toArray W fun e W2 => e = .returned (.tuple #[]) ∧ n0_0 = res.length ∧ Ext w0 W2 [R,rowR Aa ca 3 1 n0_0 (encL cI res)]:=by
 subst hn0_0
 unfold slices_pdqsortOrdered_int at h
 refine calls_enterB (m:=134) Tryz.func127 rfl rfl (nB rfl) hW ?_
 refine cS (cR ?_)
 refine ox_y rfl (y_assign_bool rfl) ?_
 refine oN (eT (cS (cR ?_)))
 refine ox_y rfl (y_assign_bool rfl) ?_
 refine oN (eT (cx_block ?_))
 obtain ⟨u4,hl9,h⟩:=bOs h
 refine cx_loop (fun (s:(Int × Int × Int × Bool × Bool × (List Int))) L tm => ∃ (tm0:Nat → Value),p0.length = s.2.2.2.2.2.length ∧ L = [R,rowR Aa ca 3 1 p0.length (encL cI s.2.2.2.2.2)] ∧ tm = (upd (upd (upd (upd (upd (upd tm0 0 (.slice Aa p0.length ca)) 1 (.int .i64 s.1)) 2 (.int .i64 s.2.1)) 3 (.int .i64 s.2.2.1)) 8 (.bool s.2.2.2.1)) 9 (.bool s.2.2.2.2.1))) (fun s e L tm => e = .ret ∧ ∃ (tm0:Nat → Value),p0.length = s.2.2.2.2.2.length ∧ L = [R,rowR Aa ca 3 1 p0.length (encL cI s.2.2.2.2.2)] ∧ tm = (upd (upd (upd (upd (upd (upd tm0 0 (.slice Aa p0.length ca)) 1 (.int .i64 s.1)) 2 (.int .i64 s.2.1)) 3 (.int .i64 s.2.2.1)) 8 (.bool s.2.2.2.1)) 9 (.bool s.2.2.2.2.1))) hl9 ⟨_,rfl,rfl,(kp4 (kp (kp rfl)))⟩ ?_ ?_
 ·rintro s3 L tm st ⟨tm0_s3,hn1_s3,rfl,rfl⟩ h
  unfold slices_pdqsortOrdered_int_l1 at h
  refine cx_block (cS (cR ?_))
  refine ox_y rfl (yMI rfl) (ox_y rfl (yMI rfl) (ox_y rfl (y_sub rfl rfl) (ox_y rfl (yAI rfl) ?_)))
  refine oN (eT (cS (cS (cR ?_))))
  refine ox_y rfl (yMI rfl) (ox_y rfl (y_leq rfl rfl) ?_)
  refine oN (eT ?_)
  obtain ⟨hp5,h⟩:=gOs h
  refine cx_true (vB hp5) ?_
  refine cS (cR ?_)
  refine ox_y rfl (yMS rfl) (ox_y rfl (yMI rfl) (ox_y rfl (yMI rfl) ?_))
  obtain ⟨y6,hy7,h⟩:=bOs h
  refine ox_callT 1 [.slice Aa p0.length ca,.int .i64 s3.1,.int .i64 s3.2.1] (fun (_:Unit) => p0.length = y6.length) (fun _ => .tuple #[]) (fun _ => rowR Aa ca 3 1 p0.length (encL cI y6)) (fun _ => []) rfl rfl go_148 rfl (fun W2 hW2 => (slices_insertionSortOrdered_int_ok s3.2.2.2.2.2 s3.1 s3.2.1 y6 hy7 W2 _ (restR [R,rowR Aa ca 3 1 p0.length (encL cI s3.2.2.2.2.2)] [1]) Aa p0.length ca (hn1_s3) hW2).mono (fun e W3 h3 => ⟨(),h3.2.1,h3.1,h3.2.2⟩)) ?_
  rintro - hn8
  try dsimp only [lsz,lss,List.append_nil]
  refine oN (eT (cx_ret (ex_then_ret (ex_block_ret ?_))))
  obtain rfl:=sI h
  exact ex_stop ⟨rfl,_,hn8,rfl,(kp4 (kp (kp rfl)))⟩
 ·intro e L tm hJ
  obtain ⟨rfl,tm0_u4,hn1_u4,rfl,rfl⟩:=hJ
  refine ⟨(by intro hc; cases hc),?_⟩
  refine ex_block_ret ?_
  obtain rfl:=sI h
  exact ex_result0 (.inl rfl) rfl  (fun W2 hW2 => ⟨rfl,hn1_u4,hW2.take 2⟩)
theorem insO_l2 {n : Nat} {data0 : List Int} (h0:data0.length = n) (hn:n < 1000000) (x:Int) :
  ∀ (k:Nat) (A1 T : List Int),A1.length = k → A1.length + 1 + T.length = n → ∃ B1 B2 : List Int,A1 = B1 ++ B2 ∧ loopO (slices_insertionSortOrdered_int_l2 data0 0) ((A1.length:Int),A1 ++ x :: T) = some ((B1.length:Int),B1 ++ x :: (B2 ++ T)) ∧ (∀ y ∈ B2,x < y) ∧ (∀ y,B1.getLast? = some y → ¬ x < y):=by
 intro k
 induction k with
 | zero =>
  intro A1 T hk hl
  have : A1 = []:=List.eq_nil_of_length_eq_zero hk
  subst this
  refine ⟨[],[],rfl,?_,by simp,by simp⟩
  refine loopO_stop ?_
  unfold slices_insertionSortOrdered_int_l2; dsimp only
  rfl
 | succ k ih =>
  intro A1 T hk hl
  obtain ⟨A,y,rfl⟩ : ∃ A y,A1 = A ++ [y]:=⟨A1.dropLast,A1.getLast (by intro h; rw [h] at hk; cases hk),(List.dropLast_concat_getLast _).symm⟩
  have hA : A.length = k:=by simpa using hk
  simp only [List.length_append,List.length_cons,List.length_nil] at hl
  have e1 : A ++ [y] ++ x :: T = A ++ y :: x :: T:=by simp
  have hi : (((A ++ [y]).length : Nat) : Int) = (A.length:Int) + 1:=by simp
  have hj1 : w64 ((((A ++ [y]).length : Nat) : Int) - 1) = (A.length:Int):=by rw [w64_id (by simp only [List.length_append,List.length_cons,List.length_nil]; omega) (by simp only [List.length_append,List.length_cons,List.length_nil]; omega)]; simp
  have r1 : rdL (A ++ [y] ++ x :: T) (((A ++ [y]).length : Nat) : Int) = x:=rdL_midI _ _ _ _ rfl
  have r2 : rdL (A ++ [y] ++ x :: T) (A.length:Int) = y:=by rw [e1]; exact rdL_midI _ _ _ _ rfl
  have g1 : (0:Int) ≤ (((A ++ [y]).length : Nat) : Int) ∧ (((A ++ [y]).length : Nat) : Int) < (data0.length:Int):=by rw [h0]; simp only [List.length_append,List.length_cons,List.length_nil]; omega
  have g2 : (0:Int) ≤ (A.length:Int) ∧ (A.length:Int) < (data0.length:Int):=by rw [h0]; omega
  have hd : decide ((0:Int) < (((A ++ [y]).length : Nat) : Int)) = true:=decide_eq_true (by rw [hi]; omega)
  have hless : cmp_Less_int x y = some (decide (x < y)):=by
   unfold cmp_Less_int cmp_isNaN_int
   simp
  have step : slices_insertionSortOrdered_int_l2 data0 0 ((((A ++ [y]).length : Nat) : Int),A ++ [y] ++ x :: T) = if x < y then some (.inl ((A.length:Int),A ++ x :: ([y] ++ T))) else some (.inr ((((A ++ [y]).length : Nat) : Int),A ++ [y] ++ x :: T)):=by
   unfold slices_insertionSortOrdered_int_l2; dsimp only
   simp only [hj1,r1,r2,hd,if_true,gPo g1,gPo g2,hless,Option.bind_some,decide_eq_true_eq]
   by_cases hlt : x < y
   ·rw [if_pos hlt,if_pos hlt]
    refine congrArg some (congrArg Sum.inl (Prod.ext rfl ?_))
    show ((A ++ [y] ++ x :: T).set (Int.toNat (((A ++ [y]).length : Nat) : Int)) y).set (Int.toNat (A.length:Int)) x = _
    rw [Int.toNat_natCast,Int.toNat_natCast,set_midI (A ++ [y]) x y T _ rfl]
    have e3 : A ++ [y] ++ y :: T = A ++ y :: (y :: T):=by simp
    rw [e3,set_midI A y x (y :: T) _ rfl]
    simp
   ·rw [if_neg hlt,if_neg hlt]
  by_cases hlt : x < y
  ·rw [if_pos hlt] at step
   obtain ⟨B1,B2,hB,hr,h2,h3⟩:=ih A ([y] ++ T) hA (by simp; omega)
   refine ⟨B1,B2 ++ [y],by rw [hB,List.append_assoc],?_,?_,h3⟩
   ·rw [loopO_next step,hr]
    simp
   ·intro z hz
    rcases List.mem_append.1 hz with hz | hz
    ·exact h2 z hz
    ·rw [List.mem_singleton.1 hz]; exact hlt
  ·rw [if_neg hlt] at step
   refine ⟨A ++ [y],[],by simp,?_,by simp,?_⟩
   ·rw [loopO_stop step]; simp
   ·intro z hz
    simp at hz
    rw [← hz]
    exact hlt
theorem insO_all {l : List Int} (hl:l.length < 1000000) : slices_insertionSortOrdered_int l 0 (l.length:Int) = some (srtI l):=by
 unfold slices_insertionSortOrdered_int
 have e1 : w64 (0 + 1) = 1:=rfl
 rw [e1]
 have main : ∀ (R A : List Int),(A ++ R).Perm l → SortedI A → ∃ s,loopO (slices_insertionSortOrdered_int_l1 l 0 (l.length:Int)) ((A.length:Int),A ++ R) = some ((l.length:Int),s) ∧ s.Perm l ∧ SortedI s:=by
  intro R
  induction R with
  | nil =>
   intro A hp hs
   have hlen : A.length = l.length:=by have:=hp.length_eq; simpa using this
   refine ⟨A,?_,by simpa using hp,hs⟩
   rw [List.append_nil,hlen]
   refine loopO_stop ?_
   unfold slices_insertionSortOrdered_int_l1; dsimp only
   rw [show decide ((l.length:Int) < (l.length:Int)) = false from decide_eq_false (by omega)]
   rfl
  | cons x T ih =>
   intro A hp hs
   have hlen : A.length + (T.length + 1) = l.length:=by have:=hp.length_eq; simpa using this
   obtain ⟨B1,B2,hB,hr,h2,h3⟩:=insO_l2 (data0:=l) rfl hl x A.length A T rfl (by omega)
   have hstep : slices_insertionSortOrdered_int_l1 l 0 (l.length:Int) ((A.length:Int),A ++ x :: T) = some (.inl (((B1 ++ x :: B2).length : Int),(B1 ++ x :: B2) ++ T)):=by
    unfold slices_insertionSortOrdered_int_l1; dsimp only
    rw [show decide ((A.length:Int) < (l.length:Int)) = true from decide_eq_true (by omega)]
    rw [if_pos rfl,hr,Option.bind_some]
    have hw : w64 ((A.length:Int) + 1) = (A.length:Int) + 1:=w64_id (by omega) (by omega)
    simp only [hw]
    refine congrArg some (congrArg Sum.inl (Prod.ext ?_ ?_))
    ·simp [hB]; omega
    ·simp
   have hs' : SortedI (B1 ++ x :: B2):=by
    unfold SortedI at hs ⊢
    rw [hB,List.pairwise_append] at hs
    obtain ⟨s1,s2,s3⟩:=hs
    have hle : ∀ y ∈ B1,y ≤ x:=by
     intro y hy
     rcases List.eq_nil_or_concat B1 with rfl | ⟨B,z,rfl⟩
     ·cases hy
     ·have hz:=h3 z (by simp)
      rw [List.concat_eq_append] at hy s1
      rcases List.mem_append.1 hy with hy | hy
      ·rw [List.pairwise_append] at s1
       have:=s1.2.2 y hy z (by simp); omega
      ·rw [List.mem_singleton.1 hy]; omega
    rw [List.pairwise_append]
    refine ⟨s1,List.pairwise_cons.2 ⟨fun y hy => by have:=h2 y hy; omega,s2⟩,fun a ha b hb => ?_⟩
    rcases List.mem_cons.1 hb with rfl | hb
    ·exact hle a ha
    ·exact s3 a ha b hb
   have hp' : ((B1 ++ x :: B2) ++ T).Perm l:=by
    refine List.Perm.trans ?_ hp
    rw [hB]
    simp only [List.append_assoc,lca]
    exact List.Perm.append_left B1 (List.perm_middle).symm
   obtain ⟨s,h4,h5,h6⟩:=ih (B1 ++ x :: B2) hp' hs'
   exact ⟨s,by rw [loopO_next hstep]; exact h4,h5,h6⟩
 rcases l with _ | ⟨x,T⟩
 ·have : loopO (slices_insertionSortOrdered_int_l1 [] 0 (([]:List Int).length : Int)) (1,[]) = some (1,[]):=by
   refine loopO_stop ?_
   unfold slices_insertionSortOrdered_int_l1
   rfl
  rw [this]
  rfl
 ·obtain ⟨s,h1,h2,h3⟩:=main T [x] (by simp) (by simp [SortedI])
  have h1' : loopO (slices_insertionSortOrdered_int_l1 (x :: T) 0 ((x :: T).length : Int)) (1,x :: T) = some (((x :: T).length : Int),s):=h1
  rw [h1',Option.bind_some,srtI_eq h2 h3]
theorem pdqO_all {l : List Int} (hl:l.length ≤ 12) (v:Int) : slices_pdqsortOrdered_int l 0 (l.length:Int) v = some (srtI l):=by
 unfold slices_pdqsortOrdered_int
 have hstep : slices_pdqsortOrdered_int_l1 (0,(l.length:Int),v,true,true,l) = some (.inr (0,(l.length:Int),v,true,true,srtI l)):=by
  unfold slices_pdqsortOrdered_int_l1; dsimp only
  have hw : w64 ((l.length:Int) - 0) = (l.length:Int):=by rw [w64_id (by omega) (by omega)]; omega
  rw [hw,gPo (decide_eq_true (by omega)),insO_all (by omega)]
  rfl
 rw [loopO_stop hstep]
 rfl
theorem slices_Sort_int_int_ok (p0:(List Int)) (res:(List Int)) (h:slices_Sort_int_int p0 = some res) (W:World) (w0:World) (R:Res) (Aa:Option Addr) (n0_0 ca : Nat) (hn0_0:n0_0 = p0.length) (hW:Ext w0 W [R,rowR Aa ca 3 1 n0_0 (encL cI p0)]) :
  Calls Tryz.prog 78 [.slice Aa n0_0 ca].toArray W fun e W2 => e = .returned (.tuple #[]) ∧ n0_0 = res.length ∧ Ext w0 W2 [R,rowR Aa ca 3 1 n0_0 (encL cI res)]:=by
 subst hn0_0
 unfold slices_Sort_int_int at h
 obtain ⟨hg0,h⟩:=gOs h
 obtain rfl:=sI h
 have hlen : p0.length = (srtI p0).length:=(srtI_len p0).symm
 refine calls_enterB (m:=11) Tryz.func78 rfl rfl (nB rfl) hW ?_
 refine cS (cR ?_)
 refine ox_y rfl (yMS rfl) (ox_y rfl (y_len (us:=[]) us_26 rfl) (ox_y rfl (yAI rfl) ?_))
 refine oN (eT (cR ?_))
 refine ox_y rfl (yMS rfl) (ox_y rfl (yMI rfl) (ox_y rfl (yMI rfl) ?_))
 have hg1 : (0:Int) ≤ (p0.length:Int) ∧ (p0.length:Int) ≤ 9223372036854775807:=by omega
 refine ox_y rfl (y_convertU ui_3 ui_151 hg1 rfl) ?_
 obtain ⟨y2,hy3⟩ : ∃ y2,math_bits_Len (p0.length:Int) = some y2:=by
  unfold math_bits_Len math_bits_Len64
  rw [gPo (by omega)]
  exact ⟨_,rfl⟩
 refine ox_y rfl (y_call [.int .u64 (p0.length:Int)] go_128 rfl (fun W2 hW2 => math_bits_Len_ok (p0.length:Int) y2 hy3 W2 ) rfl) ?_
 have hy5:=pdqO_all hg0 y2
 refine ox_callT 1 [.slice Aa p0.length ca,.int .i64 0,.int .i64 (p0.length:Int),.int .i64 y2] (fun (_:Unit) => p0.length = (srtI p0).length) (fun _ => .tuple #[]) (fun _ => rowR Aa ca 3 1 p0.length (encL cI (srtI p0))) (fun _ => []) rfl rfl go_127 rfl (fun W2 hW2 => (slices_pdqsortOrdered_int_ok p0 0 (p0.length:Int) y2 (srtI p0) hy5 W2 _ (restR [R,rowR Aa ca 3 1 p0.length (encL cI p0)] [1]) Aa p0.length ca rfl hW2).mono (fun e W3 h3 => ⟨(),h3.2.1,h3.1,h3.2.2⟩)) ?_
 rintro - hn6
 try dsimp only [lsz,lss,List.append_nil]
 refine oN ?_
 exact ex_result0 (.inr rfl) rfl  (fun W2 hW2 => ⟨rfl,hlen,hW2.take 2⟩)
theorem recall_listed_ok (p0:(List (Int × Bool))) (res:(List Int)) (h:recall_listed p0 = some res) (W:World) (bm0_0:Nat) (hm0_0:(mapV Tryz.prog 3 kI rngB kB false bm0_0 p0).holds W) :
  Calls Tryz.prog 96 [.map (some bm0_0)].toArray W fun e W2 => ∃ x : Option Addr × Nat × Nat,x.2.1 = res.length ∧ e = .returned (.slice x.1 x.2.1 x.2.2) ∧ Ext W W2 [rowR x.1 x.2.2 3 1 x.2.1 (encL cI res)]:=by
 unfold recall_listed at h
 obtain ⟨⟨hg1,hg2,hg3⟩,h⟩:=gOs h
 obtain rfl:=sI h
 have hb0 : bm0_0 < W.heap.size:=(mapV Tryz.prog 3 kI rngB kB false bm0_0 p0).inb W hm0_0 bm0_0 rfl
 have hfin : ∀ s : Nat × (Int → Bool) × List Int,CollI rngB p0 s → (∀ y,rngB y = true → s.2.1 y = false) → slices_Sort_int_int s.2.2 = some (listedV p0) ∧ s.2.2.length = (listedV p0).length:=fun s hI hno => by
  have hm : ∀ q,q ∈ s.2.2 ↔ q ∈ listedV p0:=fun q => by
   rw [hI.val q,(listedV_spec p0).2 q]
   refine ⟨fun h => h.2.2.2,fun h => ?_⟩
   have h1 : mhasV p0 q = true:=by
    cases hh : mhasV p0 q with
    | true => rfl
    | false => rw [mget_none hh] at h; cases h
   have h2 : rngB q = true:=by
    obtain ⟨p,hp,rfl⟩:=List.mem_map.1 (mhas_mem.1 h1)
    exact List.all_eq_true.1 hg3 p hp
   exact ⟨h2,h1,hno q h2,h⟩
  have hp:=perm_of_mem hI.nd (listedV_spec p0).1.nodup hm
  refine ⟨?_,hp.length_eq⟩
  unfold slices_Sort_int_int
  rw [gPo (by rw [hp.length_eq]; exact hg2),srtI_eq hp.symm (listedV_spec p0).1.sorted]
 refine calls_enter (m:=21) Tryz.func96 rfl rfl (nB rfl) ?_
 refine cS (cR ?_)
 refine ox_y rfl (yAS rfl) ?_
 refine oN (eT (cS (cR ?_)))
 refine ox_y rfl (yAS rfl) ?_
 refine oN (eT (cS (cS (cR ?_))))
 refine ox_y rfl (y_move_map rfl) ?_
 refine ox_rangeA hm0_0 ke_3 um_94 rfl rfl (fun it k hk => ?_)
 refine oN (eT (cx_block ?_))
 refine cx_nilrow 3 1 (cx_loopM (fun (s:Nat × (Int → Bool) × List Int) L tm => CollI rngB p0 s ∧ ∃ (A:Option Addr) (c:Nat) (tm0:Nat → Value),L = [rngA W Tryz.prog 3 kI rngB kB false bm0_0 it p0 s.2.1 s.1 none,rowR A c 3 1 s.2.2.length (encL cI s.2.2)] ∧ tm = (upd (upd tm0 7 (.pointer (some ⟨it,0,none⟩))) 3 (.slice A s.2.2.length c))) (fun s => s.1) (k,(fun y => mhasV p0 y),[]) ⟨CollI.start hk,none,0,_,rfl,keep (kp rfl) rfl⟩ ?_)
 rintro s L tm ⟨hI,A,c,tm0,rfl,rfl⟩
 refine cS (cR ?_)
 refine ox_nextA 0 hb0 rfl ke_3 rfl rfl (fun hno => ?_) (fun y k' hy hly hM hk' => ?_)
 ·refine ox_y rfl (y_extract (vs:=[.bool false]) (v:=.bool false) rfl rfl) ?_
  refine oN (eT (cS ?_))
  refine cx_false rfl (cx_exit (ex_then_exit ?_))
  refine ex_outM (by intro h; cases h) ?_
  refine ex_block_here ?_
  refine eT (cS (cR ?_))
  refine ox_y rfl (yMS rfl) ?_
  obtain ⟨hS,hl⟩:=hfin s hI hno
  refine ox_callT 1 [.slice A s.2.2.length c] (fun (_:Unit) => s.2.2.length = (listedV p0).length) (fun _ => .tuple #[]) (fun _ => rowR A c 3 1 s.2.2.length (encL cI (listedV p0))) (fun _ => []) rfl rfl go_78 rfl (fun W2 hW2 => (slices_Sort_int_int_ok s.2.2 (listedV p0) hS W2 _ (restR [rngA W Tryz.prog 3 kI rngB kB false bm0_0 it p0 s.2.1 s.1 none,rowR A c 3 1 s.2.2.length (encL cI s.2.2)] [1]) A s.2.2.length c rfl hW2).mono (fun e W3 h3 => ⟨(),h3.2.1,h3.1,h3.2.2⟩)) ?_
  rintro - hn30
  try dsimp only [lsz,lss,List.append_nil]
  refine oN (eT (cS (cR ?_)))
  refine ox_y rfl (yMS rfl) (ox_y rfl (yAS rfl) ?_)
  refine oN (eT (cx_ret ?_))
  exact ex_res1 (.inl rfl) rfl (rVt (v:=.slice A s.2.2.length c) rfl) (fun W2 hW2 => ⟨(A,s.2.2.length,c),hn30,rfl,(hW2.pick 1 rfl)⟩)
 ·refine ox_y rfl (y_extract (vs:=[.bool true,.int .i64 y,.bool (mgetV false p0 y)]) (v:=.bool true) rfl rfl) ?_
  refine oN (eT (cS ?_))
  refine cx_true rfl ?_
  refine cx_skip (eT (cx_block (cS (cR ?_))))
  refine ox_y rfl (y_entryA 0 hb0 rfl rfl) (ox_y rfl (y_extract (vs:=[.int .i64 y,.bool (mgetV false p0 y)]) (v:=.int .i64 y) rfl rfl) (ox_y rfl (y_extract (vs:=[.int .i64 y,.bool (mgetV false p0 y)]) (v:=.bool (mgetV false p0 y)) rfl rfl) (ox_y rfl (yAI rfl) (ox_y rfl (y_assign_bool rfl) ?_))))
  refine oN (eT (cS (cR ?_)))
  refine ox_y rfl (y_move_bool rfl) ?_
  refine oN (eT ?_)
  rcases bool_cases (mgetV false p0 y) with hp | hp
  ·refine cx_true (vB hp) (cR (ox_y rfl (yMS rfl) (ox_y rfl (yMI rfl) ?_)))
   refine ox_buildSliceE 1 (encL cI [y]) _ mc_3_1 us_26 ze_3 by_3 (by decide) (by decide) (by kernel_rfl) (encL_len cI_len rfl) rfl (fun b23 => ?_)
   have hroom : s.2.2.length + 1 ≤ 1000000000:=by have:=hI.len; omega
   refine ox_append0 1 us_26 ze_3 by_3 rfl rfl rfl (RdL.row 2 rfl) (encL_len cI_len rfl) (encL_one cI_one _) (app_room hroom (by decide)) rfl (fun A24 c25 => ?_)
   refine ox_y rfl (yAS rfl) (oN (ex_block (ex_take 2 (ex_rngNoneA 0 rfl ?_))))
   refine ex_nextM (k',(fun q => s.2.1 q && !decide (q = y)),s.2.2 ++ [y]) ⟨hI.app hy hly hM hk' hp,A24,c25,_,?_,keep (kp rfl) ?_⟩ hk'
   ·show [_,_] = [_,_]
    rw [List.length_append]
    rfl
   ·rw [List.length_append]
    rfl
  ·refine cx_false (vB hp) (cx_skip (ex_block (ex_rngNoneA 0 rfl ?_)))
   exact ex_nextM (k',(fun q => s.2.1 q && !decide (q = y)),s.2.2) ⟨hI.keep hk' hp,A,c,_,rfl,keep (kp rfl) rfl⟩ hk'
end Go.Proofs.YtbblpokfbmekfaaGreat
