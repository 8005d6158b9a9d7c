import Derived.Test.YtbblpokfbmekfaaF
import Derived.Test.YtbblpokfbmekfaaGk
/- The calls hand back what the plain functions say. -/
set_option linter.unusedVariables false
set_option maxHeartbeats 4000000
set_option maxRecDepth 100000
namespace Go.Proofs.Ytbblpokfbmekfaa
open Go.RowKit (Below)
attribute [local irreducible] OX QX CX EX OpY Calls CallsIn

theorem recall_within_ok (p0_n:Int) (p1_lo:Int) (p2_hi:Int) (res:Bool) (h:recall_within p0_n p1_lo p2_hi = some res) (W:World)  :
  Calls Try.prog 35 [.int .i64 p0_n,.int .i64 p1_lo,.int .i64 p2_hi].toArray W fun e W2 => e = .returned (.bool res) ∧ Ext W W2 []:=by
 unfold recall_within at h
 refine calls_enter (m:=15) Try.func35 rfl rfl (Nat.le_of_ble_eq_true rfl) ?_
 refine cx_seq (cx_region ?_)
 refine ox_y rfl (y_assign_bool rfl) ?_
 refine ox_nil (ex_then (cx_seq (cx_region ?_)))
 refine ox_y rfl (y_move_int rfl) ?_
 refine ox_y rfl (y_move_int rfl) ?_
 refine ox_y rfl (y_leq rfl rfl) ?_
 refine ox_y rfl (y_move_bool rfl) ?_
 refine ox_join 4 (fun tm0 => (upd (upd tm0 6 (.bool false)) 14 (.bool ((decide (p1_lo ≤ p0_n)) && (decide (p0_n ≤ p2_hi)))))) (fun tm0 => ?_) (fun key => ?_)
 ·refine ox_y rfl (y_assign_bool rfl) ?_
  refine ox_nil (ex_then (cx_ret ?_))
  obtain rfl:=Option.some.inj h
  exact ex_res1 (.inl rfl) rfl (resV_tmp (v:=.bool ((decide (p1_lo ≤ p0_n)) && (decide (p0_n ≤ p2_hi)))) rfl) (fun W2 hW2 => ⟨rfl,hW2.none⟩)
 ·rcases bool_cases (decide (p1_lo ≤ p0_n)) with hp1 | hp1
  ·refine ox_y (sees_t rfl rfl rfl rfl hp1) (y_move_int rfl) ?_
   refine ox_y (sees_t rfl rfl rfl rfl hp1) (y_move_int rfl) ?_
   refine ox_y (sees_t rfl rfl rfl rfl hp1) (y_leq rfl rfl) ?_
   refine ox_y rfl (y_pick_tb (congrArg Value.bool hp1) rfl) ?_
   exact key _ _ (keep (keep rfl rfl) (congrArg Value.bool (and_t hp1)))
  ·refine ox_skip (sees_f rfl rfl rfl rfl hp1) ?_
   refine ox_skip (sees_f rfl rfl rfl rfl hp1) ?_
   refine ox_skip (sees_f rfl rfl rfl rfl hp1) ?_
   refine ox_y rfl (y_pick_fb (congrArg Value.bool hp1) rfl) ?_
   exact key _ _ (keep (keep rfl rfl) (congrArg Value.bool (and_f hp1)))

theorem slices_IndexFunc_Node_Node_ok (p0_s:(List TNode)) (p1_f:TNode → Option Bool) (res:Int) (h:slices_IndexFunc_Node_Node p0_s p1_f = some res) (W:World) (A0_0:Option Addr) (n0_0 c0_0 : Nat) (hn0_0:n0_0 = p0_s.length) (hr0_0:Rd W A0_0 n0_0 c0_0 (encL TNode_cells p0_s)) (fid1:Nat) (fst1 caps1 : List Value) (hgo1:goes Try.prog fid1 = true) (hof1:∀ W2,Below W.heap.size W W2 → ∀ x,∀ y,p1_f x = some y → Calls Try.prog fid1 (fst1 ++ (([.agg #[.int .i64 x.fID,.int .i64 x.fLevel,.int .i64 x.fCost]] : List Value) ++ caps1)).toArray W2 fun e W3 => e = .returned (.bool y) ∧ Ext W2 W3 []) :
  Calls Try.prog 71 [.slice A0_0 n0_0 c0_0,.func (.func fid1) fst1.toArray caps1.toArray].toArray W fun e W2 => e = .returned (.int .i64 res) ∧ Ext W W2 []:=by
 subst hn0_0
 unfold slices_IndexFunc_Node_Node at h
 refine calls_enter (m:=19) Try.func71 rfl rfl (Nat.le_of_ble_eq_true rfl) ?_
 refine cx_seq (cx_region ?_)
 refine ox_y rfl (y_assign_int rfl) ?_
 refine ox_nil (ex_then (cx_seq (cx_seq (cx_region ?_))))
 refine ox_y rfl (y_move_slice rfl) ?_
 refine ox_y rfl (y_len (us:=[]) us_22 rfl) ?_
 refine ox_y rfl (y_move_int rfl) ?_
 refine ox_nil (ex_then (cx_block ?_))
 obtain ⟨u3,hl9,h⟩:=bind_some h
 refine cx_loop (fun (s:(Int × Int)) L tm => ∃ (tm0:Nat → Value),L = [] ∧ tm = (upd (upd (upd (upd (upd tm0 0 (.slice A0_0 p0_s.length c0_0)) 1 (.func (.func fid1) fst1.toArray caps1.toArray)) 4 (.int .i64 s.1)) 7 (.int .i64 (p0_s.length:Int))) 8 (.int .i64 s.2))) (fun | (.inl s),e,L,tm => e = .ret ∧ ∃ (tm0:Nat → Value),L = [] ∧ tm = (upd (upd (upd (upd (upd tm0 0 (.slice A0_0 p0_s.length c0_0)) 1 (.func (.func fid1) fst1.toArray caps1.toArray)) 4 (.int .i64 s.1)) 7 (.int .i64 (p0_s.length:Int))) 8 (.int .i64 s.2)) | (.inr s),e,L,tm => e = .exit 0 ∧ ∃ (tm0:Nat → Value),L = [] ∧ tm = (upd (upd (upd (upd (upd tm0 0 (.slice A0_0 p0_s.length c0_0)) 1 (.func (.func fid1) fst1.toArray caps1.toArray)) 4 (.int .i64 s.1)) 7 (.int .i64 (p0_s.length:Int))) 8 (.int .i64 s.2))) hl9 ⟨_,rfl,(keep (keep (keep (keep (keep rfl rfl) rfl) rfl) rfl) rfl)⟩ ?_ ?_
 ·rintro s2 L tm st ⟨tm0_s2,rfl,rfl⟩ h
  unfold slices_IndexFunc_Node_Node_l1 at h
  refine cx_seq (cx_region ?_)
  refine ox_y rfl (y_lss rfl rfl) ?_
  refine ox_nil (ex_then (cx_seq ?_))
  rcases ite_some h with ⟨hp4,h⟩ | ⟨hp4,h⟩
  ·refine cx_true (congrArg Value.bool hp4) ?_
   refine cx_skip (ex_then (cx_seq (cx_block (cx_seq (cx_region ?_)))))
   refine ox_y rfl (y_move_int rfl) ?_
   refine ox_y rfl (y_assign_int rfl) ?_
   refine ox_nil (ex_then (cx_seq (cx_region ?_)))
   refine ox_y rfl (y_move (v:=.func (.func fid1) fst1.toArray caps1.toArray) rfl) ?_
   refine ox_y rfl (y_move_slice rfl) ?_
   refine ox_y rfl (y_move_int rfl) ?_
   obtain ⟨hg5,h⟩:=guardO_some h
   refine ox_y rfl (y_indexR sl_22 (by decide) hg5.1 hg5.2 (RdL.arg hr0_0) (encL_len TNode_cells_len rfl) rfl rfl) ?_
   refine ox_y rfl (y_loadRN (A:=A0_0) (j:=(Int.toNat s2.2 * 3)) [.int .i64 ((rdL p0_s s2.2).fID),.int .i64 ((rdL p0_s s2.2).fLevel),.int .i64 ((rdL p0_s s2.2).fCost)] ag_41 (Nat.succ_pos _) (RdL.arg hr0_0) rfl (encL_gets TNode_cells_len hg5.1 (lt_nat hg5.2 rfl))) ?_
   obtain ⟨y6,hy7,h⟩:=bind_some h
   refine ox_y rfl (y_callvF [.agg #[.int .i64 ((rdL p0_s s2.2).fID),.int .i64 ((rdL p0_s s2.2).fLevel),.int .i64 ((rdL p0_s s2.2).fCost)]] hgo1 rfl rfl (fun W2 hW2 => hof1 W2 hW2.below (TNode.mk ((rdL p0_s s2.2).fID) ((rdL p0_s s2.2).fLevel) ((rdL p0_s s2.2).fCost)) y6 hy7)) ?_
   refine ox_nil (ex_then ?_)
   rcases ite_some h with ⟨hp8,h⟩ | ⟨hp8,h⟩
   ·refine cx_true (congrArg Value.bool hp8) ?_
    refine cx_seq (cx_region ?_)
    refine ox_y rfl (y_move_int rfl) ?_
    refine ox_y rfl (y_assign_int rfl) ?_
    refine ox_nil (ex_then (cx_ret (ex_block_ret (ex_then_ret ?_))))
    obtain rfl:=Option.some.inj h
    exact ex_stop ⟨rfl,_,rfl,(keep (keep (keep (keep (keep rfl rfl) rfl) rfl) rfl) rfl)⟩
   ·refine cx_false (congrArg Value.bool hp8) ?_
    refine cx_skip ?_
    refine ex_block ?_
    refine ex_then (cx_region ?_)
    refine ox_y rfl (y_add rfl rfl) ?_
    refine ox_y rfl (y_move_int rfl) ?_
    refine ox_nil ?_
    obtain rfl:=Option.some.inj h
    exact ex_next ⟨_,rfl,(keep (keep (keep (keep (keep rfl rfl) rfl) rfl) rfl) rfl)⟩
  ·refine cx_false (congrArg Value.bool hp4) ?_
   refine cx_exit ?_
   refine ex_then_exit ?_
   obtain rfl:=Option.some.inj h
   exact ex_stop ⟨rfl,_,rfl,(keep (keep (keep (keep (keep rfl rfl) rfl) rfl) rfl) rfl)⟩
 ·intro e L tm hJ
  rcases u3 with u10 | u11
  ·dsimp only at h hJ
   obtain ⟨rfl,tm0_u10,rfl,rfl⟩:=hJ
   refine ⟨(by intro hc; cases hc),?_⟩
   refine ex_block_ret (ex_then_ret ?_)
   obtain rfl:=Option.some.inj h
   exact ex_res1 (.inl rfl) rfl (resV_tmp (v:=.int .i64 u10.1) rfl) (fun W2 hW2 => ⟨rfl,hW2.none⟩)
  ·dsimp only at h hJ
   obtain ⟨rfl,tm0_u11,rfl,rfl⟩:=hJ
   refine ⟨(by intro hc; cases hc),?_⟩
   refine ex_block_here ?_
   refine ex_then (cx_seq (cx_region ?_))
   refine ox_y rfl (y_assign_int rfl) ?_
   refine ox_nil (ex_then (cx_ret ?_))
   obtain rfl:=Option.some.inj h
   exact ex_res1 (.inl rfl) rfl (resV_tmp (v:=.int .i64 (-1)) rfl) (fun W2 hW2 => ⟨rfl,hW2.none⟩)

theorem recall_nodeOf_1_ok (p0_n:TNode) (cap0:Int) (res:Bool) (h:recall_nodeOf_1 p0_n cap0 = some res) (W:World) (bc0:Nat) (hcap0:Rd W (some ⟨bc0,0,none⟩) 1 1 (cI cap0)) :
  Calls Try.prog 72 [.agg #[.int .i64 p0_n.fID,.int .i64 p0_n.fLevel,.int .i64 p0_n.fCost],.pointer (some ⟨bc0,0,none⟩)].toArray W fun e W2 => e = .returned (.bool res) ∧ Ext W W2 []:=by
 unfold recall_nodeOf_1 at h
 refine calls_enter (m:=8) Try.func72 rfl rfl (Nat.le_of_ble_eq_true rfl) ?_
 refine cx_seq (cx_region ?_)
 refine ox_box [.int .i64 p0_n.fID,.int .i64 p0_n.fLevel,.int .i64 p0_n.fCost] rfl rfl rfl (fun b1 => ?_)
 refine ox_y rfl (y_assign_bool rfl) ?_
 refine ox_nil (ex_then (cx_seq (cx_region ?_)))
 refine ox_y rfl (y_fieldAddr fo_41_0 rfl) ?_
 refine ox_y rfl (y_load1 0 (v:=.int .i64 p0_n.fID) sc_3 rfl rfl rfl) ?_
 refine ox_y rfl (y_loadR1 (A:=(some ⟨bc0,0,none⟩)) (j:=0) (v:=.int .i64 cap0) sc_3 (RdL.arg hcap0) rfl rfl) ?_
 refine ox_y rfl (y_eql rfl rfl) ?_
 refine ox_y rfl (y_assign_bool rfl) ?_
 refine ox_nil (ex_then (cx_ret ?_))
 obtain rfl:=Option.some.inj h
 exact ex_res1 (.inl rfl) rfl (resV_tmp (v:=.bool (p0_n.fID == cap0)) rfl) (fun W2 hW2 => ⟨rfl,hW2.none⟩)

theorem recall_nodeOf_ok (p0_l:TLineage) (p1_id:Int) (res:Int) (h:recall_nodeOf p0_l p1_id = some res) (W:World) (A0_0:Option Addr) (n0_0 c0_0 : Nat) (hn0_0:n0_0 = p0_l.fNodes.length) (hr0_0:Rd W A0_0 n0_0 c0_0 (encL TNode_cells p0_l.fNodes)) (A0_1:Option Addr) (n0_1 c0_1 : Nat) (ys0_1:List (Hd × TClaim)) (hn0_1:n0_1 = p0_l.fClaims.length) (hr0_1:Rd W A0_1 n0_1 c0_1 (encL TClaim_cells2 ys0_1)) (hN0_1:NestW W (fun z : TClaim => z.fOptions) THop_cells ys0_1 p0_l.fClaims) :
  Calls Try.prog 36 [.agg #[.slice A0_0 n0_0 c0_0,.slice A0_1 n0_1 c0_1],.int .i64 p1_id].toArray W fun e W2 => e = .returned (.int .i64 res) ∧ Ext W W2 []:=by
 subst hn0_0
 subst hn0_1
 unfold recall_nodeOf at h
 refine calls_enter (m:=9) Try.func36 rfl rfl (Nat.le_of_ble_eq_true rfl) ?_
 refine cx_seq (cx_region ?_)
 refine ox_box [.slice A0_0 p0_l.fNodes.length c0_0,.slice A0_1 p0_l.fClaims.length c0_1] rfl rfl rfl (fun b1 => ?_)
 refine ox_box [.int .i64 p1_id] rfl rfl rfl (fun b2 => ?_)
 refine ox_y rfl (y_assign_int rfl) ?_
 refine ox_nil (ex_then (cx_seq (cx_region ?_)))
 refine ox_y rfl (y_fieldAddr fo_25_0 rfl) ?_
 refine ox_y rfl (y_load1 0 (v:=.slice A0_0 p0_l.fNodes.length c0_0) sc_22 rfl rfl rfl) ?_
 refine ox_y rfl (y_makeFunc [.pointer (some ⟨b2,0,none⟩)] rfl rfl) ?_
 obtain ⟨y4,hy5,h⟩:=bind_some h
 refine ox_y rfl (y_call [.slice A0_0 p0_l.fNodes.length c0_0,.func (.func 72) #[] #[.pointer (some ⟨b2,0,none⟩)]] go_71 rfl (fun W2 hW2 => slices_IndexFunc_Node_Node_ok p0_l.fNodes (fun x3 => recall_nodeOf_1 x3 p1_id) y4 hy5 W2 A0_0 p0_l.fNodes.length c0_0 rfl ((RdL.arg hr0_0) W2 hW2) 72 [] [.pointer (some ⟨b2,0,none⟩)] go_72 (fun W3 hb x y hxy => recall_nodeOf_1_ok  x p1_id y hxy W3 b2 (((RdL.cells 1 rfl) W2 hW2).later hb))) rfl) ?_
 refine ox_y rfl (y_assign_int rfl) ?_
 refine ox_nil (ex_then (cx_ret ?_))
 obtain rfl:=Option.some.inj h
 exact ex_res1 (.inl rfl) rfl (resV_tmp (v:=.int .i64 y4) rfl) (fun W2 hW2 => ⟨rfl,hW2.none⟩)

theorem slices_Index_Hop_Hop_ok (p0_s:(List THop)) (p1_v:THop) (res:Int) (h:slices_Index_Hop_Hop p0_s p1_v = some res) (W:World) (A0_0:Option Addr) (n0_0 c0_0 : Nat) (hn0_0:n0_0 = p0_s.length) (hr0_0:Rd W A0_0 n0_0 c0_0 (encL THop_cells p0_s)) :
  Calls Try.prog 90 [.slice A0_0 n0_0 c0_0,.agg #[.int .i64 p1_v.fFrom,.int .i64 p1_v.fTo]].toArray W fun e W2 => e = .returned (.int .i64 res) ∧ Ext W W2 []:=by
 subst hn0_0
 unfold slices_Index_Hop_Hop at h
 refine calls_enter (m:=19) Try.func90 rfl rfl (Nat.le_of_ble_eq_true rfl) ?_
 refine cx_seq (cx_region ?_)
 refine ox_box [.int .i64 p1_v.fFrom,.int .i64 p1_v.fTo] rfl rfl rfl (fun b1 => ?_)
 refine ox_y rfl (y_assign_int rfl) ?_
 refine ox_nil (ex_then (cx_seq (cx_seq (cx_region ?_))))
 refine ox_y rfl (y_move_slice rfl) ?_
 refine ox_y rfl (y_len (us:=[]) us_33 rfl) ?_
 refine ox_y rfl (y_move_int rfl) ?_
 refine ox_nil (ex_then (cx_block ?_))
 obtain ⟨u4,hl8,h⟩:=bind_some h
 refine cx_loop (fun (s:(Int × Int)) L tm => ∃ (tm0:Nat → Value),L = [cellsR b1 93 [.int .i64 p1_v.fFrom,.int .i64 p1_v.fTo]] ∧ tm = (upd (upd (upd (upd (upd (upd tm0 0 (.slice A0_0 p0_s.length c0_0)) 1 (.agg #[.int .i64 p1_v.fFrom,.int .i64 p1_v.fTo])) 3 (.pointer (some ⟨b1,0,none⟩))) 4 (.int .i64 s.1)) 7 (.int .i64 (p0_s.length:Int))) 8 (.int .i64 s.2))) (fun | (.inl s),e,L,tm => e = .ret ∧ ∃ (tm0:Nat → Value),L = [cellsR b1 93 [.int .i64 p1_v.fFrom,.int .i64 p1_v.fTo]] ∧ tm = (upd (upd (upd (upd (upd (upd tm0 0 (.slice A0_0 p0_s.length c0_0)) 1 (.agg #[.int .i64 p1_v.fFrom,.int .i64 p1_v.fTo])) 3 (.pointer (some ⟨b1,0,none⟩))) 4 (.int .i64 s.1)) 7 (.int .i64 (p0_s.length:Int))) 8 (.int .i64 s.2)) | (.inr s),e,L,tm => e = .exit 0 ∧ ∃ (tm0:Nat → Value),L = [cellsR b1 93 [.int .i64 p1_v.fFrom,.int .i64 p1_v.fTo]] ∧ tm = (upd (upd (upd (upd (upd (upd tm0 0 (.slice A0_0 p0_s.length c0_0)) 1 (.agg #[.int .i64 p1_v.fFrom,.int .i64 p1_v.fTo])) 3 (.pointer (some ⟨b1,0,none⟩))) 4 (.int .i64 s.1)) 7 (.int .i64 (p0_s.length:Int))) 8 (.int .i64 s.2))) hl8 ⟨_,rfl,(keep (keep (keep (keep (keep (keep rfl rfl) rfl) rfl) rfl) rfl) rfl)⟩ ?_ ?_
 ·rintro s3 L tm st ⟨tm0_s3,rfl,rfl⟩ h
  unfold slices_Index_Hop_Hop_l1 at h
  refine cx_seq (cx_region ?_)
  refine ox_y rfl (y_lss rfl rfl) ?_
  refine ox_nil (ex_then (cx_seq ?_))
  rcases ite_some h with ⟨hp5,h⟩ | ⟨hp5,h⟩
  ·refine cx_true (congrArg Value.bool hp5) ?_
   refine cx_skip (ex_then (cx_seq (cx_block (cx_seq (cx_region ?_)))))
   refine ox_y rfl (y_move_int rfl) ?_
   refine ox_y rfl (y_assign_int rfl) ?_
   refine ox_nil (ex_then (cx_seq ?_))
   refine cx_draws 6 mixed (by kernel_rfl) (by kernel_rfl) ?_
   refine qx_y rfl (y_loadN 0 [.int .i64 p1_v.fFrom,.int .i64 p1_v.fTo] ag_93 rfl rfl rfl) ?_
   refine qx_y rfl (y_move_slice rfl) ?_
   refine qx_y rfl (y_move_int rfl) ?_
   obtain ⟨hg6,h⟩:=guardO_some h
   refine qx_y rfl (y_indexR sl_33 (by decide) hg6.1 hg6.2 (RdL.arg hr0_0) (encL_len THop_cells_len rfl) rfl rfl) ?_
   refine qx_y rfl (y_loadRN (A:=A0_0) (j:=(Int.toNat s3.2 * 2)) [.int .i64 ((rdL p0_s s3.2).fFrom),.int .i64 ((rdL p0_s s3.2).fTo)] ag_93 (Nat.succ_pos _) (RdL.arg hr0_0) rfl (encL_gets THop_cells_len hg6.1 (lt_nat hg6.2 rfl))) ?_
   refine qx_y rfl (y_eqla (b:=((p1_v.fFrom == (rdL p0_s s3.2).fFrom) && (p1_v.fTo == (rdL p0_s s3.2).fTo))) eg_93 rfl rfl (fun _ => (eqS2 fl_93 (part1 sc_3 rfl) (part1 sc_3 rfl) (part1 sc_3 rfl) (part1 sc_3 rfl) (run_equalIn_int _ _ _ _ _ _ _ ui_3) (run_equalIn_int _ _ _ _ _ _ _ ui_3)))) ?_
   refine qx_nil ?_
   refine ox_nil (ex_then ?_)
   rcases ite_some h with ⟨hp7,h⟩ | ⟨hp7,h⟩
   ·refine cx_true (congrArg Value.bool hp7) ?_
    refine cx_seq (cx_region ?_)
    refine ox_y rfl (y_move_int rfl) ?_
    refine ox_y rfl (y_assign_int rfl) ?_
    refine ox_nil (ex_then (cx_ret (ex_block_ret (ex_then_ret ?_))))
    obtain rfl:=Option.some.inj h
    exact ex_stop ⟨rfl,_,rfl,(keep (keep (keep (keep (keep (keep rfl rfl) rfl) rfl) rfl) rfl) rfl)⟩
   ·refine cx_false (congrArg Value.bool hp7) ?_
    refine cx_skip ?_
    refine ex_block ?_
    refine ex_then (cx_region ?_)
    refine ox_y rfl (y_add rfl rfl) ?_
    refine ox_y rfl (y_move_int rfl) ?_
    refine ox_nil ?_
    obtain rfl:=Option.some.inj h
    exact ex_next ⟨_,rfl,(keep (keep (keep (keep (keep (keep rfl rfl) rfl) rfl) rfl) rfl) rfl)⟩
  ·refine cx_false (congrArg Value.bool hp5) ?_
   refine cx_exit ?_
   refine ex_then_exit ?_
   obtain rfl:=Option.some.inj h
   exact ex_stop ⟨rfl,_,rfl,(keep (keep (keep (keep (keep (keep rfl rfl) rfl) rfl) rfl) rfl) rfl)⟩
 ·intro e L tm hJ
  rcases u4 with u9 | u10
  ·dsimp only at h hJ
   obtain ⟨rfl,tm0_u9,rfl,rfl⟩:=hJ
   refine ⟨(by intro hc; cases hc),?_⟩
   refine ex_block_ret (ex_then_ret ?_)
   obtain rfl:=Option.some.inj h
   exact ex_res1 (.inl rfl) rfl (resV_tmp (v:=.int .i64 u9.1) rfl) (fun W2 hW2 => ⟨rfl,hW2.none⟩)
  ·dsimp only at h hJ
   obtain ⟨rfl,tm0_u10,rfl,rfl⟩:=hJ
   refine ⟨(by intro hc; cases hc),?_⟩
   refine ex_block_here ?_
   refine ex_then (cx_seq (cx_region ?_))
   refine ox_y rfl (y_assign_int rfl) ?_
   refine ox_nil (ex_then (cx_ret ?_))
   obtain rfl:=Option.some.inj h
   exact ex_res1 (.inl rfl) rfl (resV_tmp (v:=.int .i64 (-1)) rfl) (fun W2 hW2 => ⟨rfl,hW2.none⟩)

theorem slices_Contains_Hop_Hop_ok (p0_s:(List THop)) (p1_v:THop) (res:Bool) (h:slices_Contains_Hop_Hop p0_s p1_v = some res) (W:World) (A0_0:Option Addr) (n0_0 c0_0 : Nat) (hn0_0:n0_0 = p0_s.length) (hr0_0:Rd W A0_0 n0_0 c0_0 (encL THop_cells p0_s)) :
  Calls Try.prog 73 [.slice A0_0 n0_0 c0_0,.agg #[.int .i64 p1_v.fFrom,.int .i64 p1_v.fTo]].toArray W fun e W2 => e = .returned (.bool res) ∧ Ext W W2 []:=by
 subst hn0_0
 unfold slices_Contains_Hop_Hop at h
 refine calls_enter (m:=9) Try.func73 rfl rfl (Nat.le_of_ble_eq_true rfl) ?_
 refine cx_seq (cx_region ?_)
 refine ox_box [.int .i64 p1_v.fFrom,.int .i64 p1_v.fTo] rfl rfl rfl (fun b1 => ?_)
 refine ox_y rfl (y_assign_bool rfl) ?_
 refine ox_nil (ex_then (cx_seq (cx_region ?_)))
 refine ox_y rfl (y_move_slice rfl) ?_
 refine ox_y rfl (y_loadN 0 [.int .i64 p1_v.fFrom,.int .i64 p1_v.fTo] ag_93 rfl rfl rfl) ?_
 obtain ⟨y2,hy3,h⟩:=bind_some h
 refine ox_y rfl (y_call [.slice A0_0 p0_s.length c0_0,.agg #[.int .i64 p1_v.fFrom,.int .i64 p1_v.fTo]] go_90 rfl (fun W2 hW2 => slices_Index_Hop_Hop_ok p0_s p1_v y2 hy3 W2 A0_0 p0_s.length c0_0 rfl ((RdL.arg hr0_0) W2 hW2)) rfl) ?_
 refine ox_y rfl (y_geq rfl rfl) ?_
 refine ox_y rfl (y_assign_bool rfl) ?_
 refine ox_nil (ex_then (cx_ret ?_))
 obtain rfl:=Option.some.inj h
 exact ex_res1 (.inl rfl) rfl (resV_tmp (v:=.bool (decide (0 ≤ y2))) rfl) (fun W2 hW2 => ⟨rfl,hW2.none⟩)

theorem recall_options_ok (p0_l:TLineage) (p1_o:(List THop)) (res:Bool) (h:recall_options p0_l p1_o = some res) (W:World) (A0_0:Option Addr) (n0_0 c0_0 : Nat) (hn0_0:n0_0 = p0_l.fNodes.length) (hr0_0:Rd W A0_0 n0_0 c0_0 (encL TNode_cells p0_l.fNodes)) (A0_1:Option Addr) (n0_1 c0_1 : Nat) (ys0_1:List (Hd × TClaim)) (hn0_1:n0_1 = p0_l.fClaims.length) (hr0_1:Rd W A0_1 n0_1 c0_1 (encL TClaim_cells2 ys0_1)) (hN0_1:NestW W (fun z : TClaim => z.fOptions) THop_cells ys0_1 p0_l.fClaims) (A1_0:Option Addr) (n1_0 c1_0 : Nat) (hn1_0:n1_0 = p1_o.length) (hr1_0:Rd W A1_0 n1_0 c1_0 (encL THop_cells p1_o)) :
  Calls Try.prog 37 [.agg #[.slice A0_0 n0_0 c0_0,.slice A0_1 n0_1 c0_1],.slice A1_0 n1_0 c1_0].toArray W fun e W2 => e = .returned (.bool res) ∧ Ext W W2 []:=by
 subst hn0_0
 subst hn0_1
 subst hn1_0
 unfold recall_options at h
 refine calls_enter (m:=57) Try.func37 rfl rfl (Nat.le_of_ble_eq_true rfl) ?_
 refine cx_seq (cx_region ?_)
 refine ox_box [.slice A0_0 p0_l.fNodes.length c0_0,.slice A0_1 p0_l.fClaims.length c0_1] rfl rfl rfl (fun b1 => ?_)
 refine ox_y rfl (y_assign_bool rfl) ?_
 refine ox_nil (ex_then (cx_seq (cx_seq (cx_region ?_))))
 refine ox_y rfl (y_move_slice rfl) ?_
 refine ox_y rfl (y_len (us:=[]) us_33 rfl) ?_
 obtain ⟨y2,hy3,h⟩:=bind_some h
 refine ox_y rfl (y_call [.int .i64 (p1_o.length:Int),.int .i64 1,.int .i64 4] go_35 rfl (fun W2 hW2 => recall_within_ok (p1_o.length:Int) 1 4 y2 hy3 W2 ) rfl) ?_
 refine ox_y rfl (y_not rfl) ?_
 refine ox_nil (ex_then ?_)
 rcases ite_some h with ⟨hp4,h⟩ | ⟨hp4,h⟩
 ·refine cx_true (congrArg Value.bool hp4) ?_
  refine cx_seq (cx_region ?_)
  refine ox_y rfl (y_assign_bool rfl) ?_
  refine ox_nil (ex_then (cx_ret (ex_then_ret ?_)))
  obtain rfl:=Option.some.inj h
  exact ex_res1 (.inl rfl) rfl (resV_tmp (v:=.bool false) rfl) (fun W2 hW2 => ⟨rfl,hW2.none⟩)
 ·refine cx_false (congrArg Value.bool hp4) ?_
  refine cx_skip (ex_then (cx_seq (cx_seq (cx_region ?_))))
  refine ox_y rfl (y_move_slice rfl) ?_
  refine ox_y rfl (y_len (us:=[]) us_33 rfl) ?_
  refine ox_y rfl (y_move_int rfl) ?_
  refine ox_nil (ex_then (cx_block ?_))
  obtain ⟨u7,hl28,h⟩:=bind_some h
  refine cx_loop (fun (s:(Bool × Int)) L tm => ∃ (tm0:Nat → Value),L = [cellsR b1 25 [.slice A0_0 p0_l.fNodes.length c0_0,.slice A0_1 p0_l.fClaims.length c0_1]] ∧ tm = (upd (upd (upd (upd (upd (upd (upd (upd tm0 0 (.agg #[.slice A0_0 p0_l.fNodes.length c0_0,.slice A0_1 p0_l.fClaims.length c0_1])) 1 (.slice A1_0 p1_o.length c1_0)) 2 (.pointer (some ⟨b1,0,none⟩))) 4 (.bool s.1)) 12 (.bool (!y2))) 13 (.slice A1_0 p1_o.length c1_0)) 14 (.int .i64 (p1_o.length:Int))) 15 (.int .i64 s.2))) (fun | (.inl s),e,L,tm => e = .ret ∧ ∃ (tm0:Nat → Value),L = [cellsR b1 25 [.slice A0_0 p0_l.fNodes.length c0_0,.slice A0_1 p0_l.fClaims.length c0_1]] ∧ tm = (upd (upd (upd (upd (upd (upd (upd (upd tm0 0 (.agg #[.slice A0_0 p0_l.fNodes.length c0_0,.slice A0_1 p0_l.fClaims.length c0_1])) 1 (.slice A1_0 p1_o.length c1_0)) 2 (.pointer (some ⟨b1,0,none⟩))) 4 (.bool s.1)) 12 (.bool (!y2))) 13 (.slice A1_0 p1_o.length c1_0)) 14 (.int .i64 (p1_o.length:Int))) 15 (.int .i64 s.2)) | (.inr s),e,L,tm => e = .exit 0 ∧ ∃ (tm0:Nat → Value),L = [cellsR b1 25 [.slice A0_0 p0_l.fNodes.length c0_0,.slice A0_1 p0_l.fClaims.length c0_1]] ∧ tm = (upd (upd (upd (upd (upd (upd (upd (upd tm0 0 (.agg #[.slice A0_0 p0_l.fNodes.length c0_0,.slice A0_1 p0_l.fClaims.length c0_1])) 1 (.slice A1_0 p1_o.length c1_0)) 2 (.pointer (some ⟨b1,0,none⟩))) 4 (.bool s.1)) 12 (.bool (!y2))) 13 (.slice A1_0 p1_o.length c1_0)) 14 (.int .i64 (p1_o.length:Int))) 15 (.int .i64 s.2))) hl28 ⟨_,rfl,(keep (keep (keep (keep (keep (keep (keep (keep rfl rfl) rfl) rfl) rfl) rfl) rfl) rfl) rfl)⟩ ?_ ?_
  ·rintro s6 L tm st ⟨tm0_s6,rfl,rfl⟩ h
   unfold recall_options_l1 at h
   refine cx_seq (cx_region ?_)
   refine ox_y rfl (y_lss rfl rfl) ?_
   refine ox_nil (ex_then (cx_seq ?_))
   rcases ite_some h with ⟨hp8,h⟩ | ⟨hp8,h⟩
   ·refine cx_true (congrArg Value.bool hp8) ?_
    refine cx_skip (ex_then (cx_seq (cx_block (cx_seq (cx_region ?_)))))
    refine ox_y rfl (y_move_int rfl) ?_
    obtain ⟨hg9,h⟩:=guardO_some h
    refine ox_y rfl (y_indexR sl_33 (by decide) hg9.1 hg9.2 (RdL.arg hr1_0) (encL_len THop_cells_len rfl) rfl rfl) ?_
    refine ox_y rfl (y_loadRN (A:=A1_0) (j:=(Int.toNat s6.2 * 2)) [.int .i64 ((rdL p1_o s6.2).fFrom),.int .i64 ((rdL p1_o s6.2).fTo)] ag_93 (Nat.succ_pos _) (RdL.arg hr1_0) rfl (encL_gets THop_cells_len hg9.1 (lt_nat hg9.2 rfl))) ?_
    refine ox_alloc ze_93 rfl (fun b10 => ?_)
    refine ox_y rfl (y_assign_int rfl) ?_
    refine ox_n rfl (y_storeN 1 [.int .i64 ((rdL p1_o s6.2).fFrom),.int .i64 ((rdL p1_o s6.2).fTo)] sz_93 rfl (Nat.le_of_ble_eq_true rfl) rfl rfl rfl) ?_
    refine ox_nil (ex_then (cx_seq ?_))
    refine cx_draws 10 mixed (by kernel_rfl) (by kernel_rfl) ?_
    refine qx_y rfl (y_loadN 0 [.slice A0_0 p0_l.fNodes.length c0_0,.slice A0_1 p0_l.fClaims.length c0_1] ag_25 rfl rfl rfl) ?_
    refine qx_y rfl (y_fieldAddr fo_93_0 rfl) ?_
    refine qx_y rfl (y_load1 1 (v:=.int .i64 ((rdL p1_o s6.2).fFrom)) sc_3 rfl rfl rfl) ?_
    obtain ⟨y11,hy12,h⟩:=bind_some h
    refine qx_y rfl (y_call [.agg #[.slice A0_0 p0_l.fNodes.length c0_0,.slice A0_1 p0_l.fClaims.length c0_1],.int .i64 ((rdL p1_o s6.2).fFrom)] go_36 rfl (fun W2 hW2 => recall_nodeOf_ok p0_l ((rdL p1_o s6.2).fFrom) y11 hy12 W2 A0_0 p0_l.fNodes.length c0_0 rfl ((RdL.arg hr0_0) W2 hW2) A0_1 p0_l.fClaims.length c0_1 ys0_1 rfl ((RdL.arg hr0_1) W2 hW2) (NestL.at (NestL.arg hN0_1) W2 hW2)) rfl) ?_
    refine qx_y rfl (y_loadN 0 [.slice A0_0 p0_l.fNodes.length c0_0,.slice A0_1 p0_l.fClaims.length c0_1] ag_25 rfl rfl rfl) ?_
    refine qx_y rfl (y_fieldAddr fo_93_1 rfl) ?_
    refine qx_y rfl (y_load1 1 (v:=.int .i64 ((rdL p1_o s6.2).fTo)) sc_3 rfl rfl rfl) ?_
    obtain ⟨y13,hy14,h⟩:=bind_some h
    refine qx_y rfl (y_call [.agg #[.slice A0_0 p0_l.fNodes.length c0_0,.slice A0_1 p0_l.fClaims.length c0_1],.int .i64 ((rdL p1_o s6.2).fTo)] go_36 rfl (fun W2 hW2 => recall_nodeOf_ok p0_l ((rdL p1_o s6.2).fTo) y13 hy14 W2 A0_0 p0_l.fNodes.length c0_0 rfl ((RdL.arg hr0_0) W2 hW2) A0_1 p0_l.fClaims.length c0_1 ys0_1 rfl ((RdL.arg hr0_1) W2 hW2) (NestL.at (NestL.arg hN0_1) W2 hW2)) rfl) ?_
    refine qx_y rfl (y_assign_int rfl) ?_
    refine qx_y rfl (y_assign_int rfl) ?_
    refine qx_nil ?_
    refine ox_nil (ex_then (cx_seq ?_))
    refine cx_draws 28 mixed (by kernel_rfl) (by kernel_rfl) ?_
    refine qx_y rfl (y_move_int rfl) ?_
    refine qx_y rfl (y_lss rfl rfl) ?_
    refine qx_y rfl (y_move_bool rfl) ?_
    refine qx_join 3 (fun tm0 => (upd (upd (upd (upd (upd (upd (upd (upd (upd (upd (upd (upd (upd (upd tm0 0 (.agg #[.slice A0_0 p0_l.fNodes.length c0_0,.slice A0_1 p0_l.fClaims.length c0_1])) 1 (.slice A1_0 p1_o.length c1_0)) 2 (.pointer (some ⟨b1,0,none⟩))) 4 (.bool s6.1)) 12 (.bool (!y2))) 13 (.slice A1_0 p1_o.length c1_0)) 14 (.int .i64 (p1_o.length:Int))) 15 (.int .i64 s6.2)) 16 (.bool (decide (s6.2 < (p1_o.length:Int))))) 6 (.pointer (some ⟨b10,0,none⟩))) 5 (.int .i64 s6.2)) 7 (.int .i64 y11)) 8 (.int .i64 y13)) 33 (.bool ((decide (y11 < 0)) || (decide (y13 < 0)))))) (fun tm0 => ?_) (fun key => ?_)
    ·refine qx_y rfl (y_move_bool rfl) ?_
     obtain ⟨b17,hb18,h⟩:=bind_some h
     refine qx_join 14 (fun tm0 => (upd (upd (upd (upd (upd (upd (upd (upd (upd (upd (upd (upd (upd (upd tm0 0 (.agg #[.slice A0_0 p0_l.fNodes.length c0_0,.slice A0_1 p0_l.fClaims.length c0_1])) 1 (.slice A1_0 p1_o.length c1_0)) 2 (.pointer (some ⟨b1,0,none⟩))) 4 (.bool s6.1)) 12 (.bool (!y2))) 13 (.slice A1_0 p1_o.length c1_0)) 14 (.int .i64 (p1_o.length:Int))) 15 (.int .i64 s6.2)) 16 (.bool (decide (s6.2 < (p1_o.length:Int))))) 6 (.pointer (some ⟨b10,0,none⟩))) 5 (.int .i64 s6.2)) 7 (.int .i64 y11)) 8 (.int .i64 y13)) 48 (.bool b17))) (fun tm0 => ?_) (fun key => ?_)
     ·refine qx_y rfl (y_move_bool rfl) ?_
      obtain ⟨b20,hb21,h⟩:=bind_some h
      refine qx_join 6 (fun tm0 => (upd (upd (upd (upd (upd (upd (upd (upd (upd (upd (upd (upd (upd (upd tm0 0 (.agg #[.slice A0_0 p0_l.fNodes.length c0_0,.slice A0_1 p0_l.fClaims.length c0_1])) 1 (.slice A1_0 p1_o.length c1_0)) 2 (.pointer (some ⟨b1,0,none⟩))) 4 (.bool s6.1)) 12 (.bool (!y2))) 13 (.slice A1_0 p1_o.length c1_0)) 14 (.int .i64 (p1_o.length:Int))) 15 (.int .i64 s6.2)) 16 (.bool (decide (s6.2 < (p1_o.length:Int))))) 6 (.pointer (some ⟨b10,0,none⟩))) 5 (.int .i64 s6.2)) 7 (.int .i64 y11)) 8 (.int .i64 y13)) 55 (.bool b20))) (fun tm0 => ?_) (fun key => ?_)
      ·refine qx_nil ?_
       refine ox_nil (ex_then ?_)
       rcases ite_some h with ⟨hp22,h⟩ | ⟨hp22,h⟩
       ·refine cx_true (congrArg Value.bool hp22) ?_
        refine cx_seq (cx_region ?_)
        refine ox_y rfl (y_assign_bool rfl) ?_
        refine ox_nil (ex_then (cx_ret (ex_block_ret (ex_then_ret ?_))))
        refine ex_take 1 ?_
        obtain rfl:=Option.some.inj h
        exact ex_stop ⟨rfl,_,rfl,(keep (keep (keep (keep (keep (keep (keep (keep rfl rfl) rfl) rfl) rfl) rfl) rfl) rfl) rfl)⟩
       ·refine cx_false (congrArg Value.bool hp22) ?_
        refine cx_skip ?_
        refine ex_block ?_
        refine ex_then (cx_region ?_)
        refine ox_y rfl (y_add rfl rfl) ?_
        refine ox_y rfl (y_move_int rfl) ?_
        refine ox_nil ?_
        refine ex_take 1 ?_
        obtain rfl:=Option.some.inj h
        exact ex_next ⟨_,rfl,(keep (keep (keep (keep (keep (keep (keep (keep rfl rfl) rfl) rfl) rfl) rfl) rfl) rfl) rfl)⟩
      ·clear h; rcases ite_some hb21 with ⟨hp19,h⟩ | ⟨hp19,h⟩
       ·refine qx_skip (sees_f rfl rfl rfl rfl hp19) ?_
        refine qx_skip (sees_f rfl rfl rfl rfl hp19) ?_
        refine qx_skip (sees_f rfl rfl rfl rfl hp19) ?_
        refine qx_skip (sees_f rfl rfl rfl rfl hp19) ?_
        refine qx_skip (sees_f rfl rfl rfl rfl hp19) ?_
        refine qx_y rfl (y_pick_tb (congrArg Value.bool hp19) rfl) ?_
        obtain rfl:=Option.some.inj h
        exact key _ _ (keep (keep (keep (keep (keep (keep (keep (keep (keep (keep (keep (keep (keep (keep rfl rfl) rfl) rfl) rfl) rfl) rfl) rfl) rfl) rfl) rfl) rfl) rfl) rfl) rfl)
       ·refine qx_y (sees_t rfl rfl rfl rfl hp19) (y_move_slice rfl) ?_
        refine qx_y (sees_t rfl rfl rfl rfl hp19) (y_move_int rfl) ?_
        obtain ⟨hg23,h⟩:=guardO_some h
        refine qx_y (sees_t rfl rfl rfl rfl hp19) (y_cutH sl_33 hg23.1 hg23.2 (RdL.arg hr1_0) rfl rfl) ?_
        refine qx_y (sees_t rfl rfl rfl rfl hp19) (y_loadN 1 [.int .i64 ((rdL p1_o s6.2).fFrom),.int .i64 ((rdL p1_o s6.2).fTo)] ag_93 rfl rfl rfl) ?_
        obtain ⟨y24,hy25,h⟩:=bind_some h
        refine qx_y (sees_t rfl rfl rfl rfl hp19) (y_call [.slice A1_0 (Int.toNat s6.2) c1_0,.agg #[.int .i64 ((rdL p1_o s6.2).fFrom),.int .i64 ((rdL p1_o s6.2).fTo)]] go_73 rfl (fun W2 hW2 => slices_Contains_Hop_Hop_ok (p1_o.take (Int.toNat s6.2)) (THop.mk ((rdL p1_o s6.2).fFrom) ((rdL p1_o s6.2).fTo)) y24 hy25 W2 A1_0 (Int.toNat s6.2) c1_0 (cutH_len hg23.2 rfl) ((RdL.cutH THop_cells_len (RdL.arg hr1_0) hg23.1 hg23.2) W2 hW2)) rfl) ?_
        refine qx_y rfl (y_pick_fb (congrArg Value.bool hp19) rfl) ?_
        obtain rfl:=Option.some.inj h
        exact key _ _ (keep (keep (keep (keep (keep (keep (keep (keep (keep (keep (keep (keep (keep (keep rfl rfl) rfl) rfl) rfl) rfl) rfl) rfl) rfl) rfl) rfl) rfl) rfl) rfl) rfl)
     ·clear h; rcases ite_some hb18 with ⟨hp16,h⟩ | ⟨hp16,h⟩
      ·refine qx_skip (sees_f rfl rfl rfl rfl hp16) ?_
       refine qx_skip (sees_f rfl rfl rfl rfl hp16) ?_
       refine qx_skip (sees_f rfl rfl rfl rfl hp16) ?_
       refine qx_skip (sees_f rfl rfl rfl rfl hp16) ?_
       refine qx_skip (sees_f rfl rfl rfl rfl hp16) ?_
       refine qx_skip (sees_f rfl rfl rfl rfl hp16) ?_
       refine qx_skip (sees_f rfl rfl rfl rfl hp16) ?_
       refine qx_skip (sees_f rfl rfl rfl rfl hp16) ?_
       refine qx_skip (sees_f rfl rfl rfl rfl hp16) ?_
       refine qx_skip (sees_f rfl rfl rfl rfl hp16) ?_
       refine qx_skip (sees_f rfl rfl rfl rfl hp16) ?_
       refine qx_skip (sees_f rfl rfl rfl rfl hp16) ?_
       refine qx_skip (sees_f rfl rfl rfl rfl hp16) ?_
       refine qx_y rfl (y_pick_tb (congrArg Value.bool hp16) rfl) ?_
       obtain rfl:=Option.some.inj h
       exact key _ _ (keep (keep (keep (keep (keep (keep (keep (keep (keep (keep (keep (keep (keep (keep rfl rfl) rfl) rfl) rfl) rfl) rfl) rfl) rfl) rfl) rfl) rfl) rfl) rfl) rfl)
      ·refine qx_y (sees_t rfl rfl rfl rfl hp16) (y_fieldAddr fo_25_0 rfl) ?_
       refine qx_y (sees_t rfl rfl rfl rfl hp16) (y_load1 0 (v:=.slice A0_0 p0_l.fNodes.length c0_0) sc_22 rfl rfl rfl) ?_
       refine qx_y (sees_t rfl rfl rfl rfl hp16) (y_move_int rfl) ?_
       obtain ⟨hg26,h⟩:=guardO_some h
       refine qx_y (sees_t rfl rfl rfl rfl hp16) (y_indexR sl_22 (by decide) hg26.1 hg26.2 (RdL.arg hr0_0) (encL_len TNode_cells_len rfl) rfl rfl) ?_
       refine qx_y (sees_t rfl rfl rfl rfl hp16) (y_fieldAddrR (A:=A0_0) (j:=(Int.toNat y11 * 3)) fo_41_1 rfl) ?_
       refine qx_y (sees_t rfl rfl rfl rfl hp16) (y_loadR1 (A:=A0_0) (j:=((Int.toNat y11 * 3) + 1)) (v:=.int .i64 ((rdL p0_l.fNodes y11).fLevel)) sc_3 (RdL.arg hr0_0) rfl (encL_get TNode_cells_len hg26.1 (lt_nat hg26.2 rfl) rfl)) ?_
       refine qx_y (sees_t rfl rfl rfl rfl hp16) (y_fieldAddr fo_25_0 rfl) ?_
       refine qx_y (sees_t rfl rfl rfl rfl hp16) (y_load1 0 (v:=.slice A0_0 p0_l.fNodes.length c0_0) sc_22 rfl rfl rfl) ?_
       refine qx_y (sees_t rfl rfl rfl rfl hp16) (y_move_int rfl) ?_
       obtain ⟨hg27,h⟩:=guardO_some h
       refine qx_y (sees_t rfl rfl rfl rfl hp16) (y_indexR sl_22 (by decide) hg27.1 hg27.2 (RdL.arg hr0_0) (encL_len TNode_cells_len rfl) rfl rfl) ?_
       refine qx_y (sees_t rfl rfl rfl rfl hp16) (y_fieldAddrR (A:=A0_0) (j:=(Int.toNat y13 * 3)) fo_41_1 rfl) ?_
       refine qx_y (sees_t rfl rfl rfl rfl hp16) (y_loadR1 (A:=A0_0) (j:=((Int.toNat y13 * 3) + 1)) (v:=.int .i64 ((rdL p0_l.fNodes y13).fLevel)) sc_3 (RdL.arg hr0_0) rfl (encL_get TNode_cells_len hg27.1 (lt_nat hg27.2 rfl) rfl)) ?_
       refine qx_y (sees_t rfl rfl rfl rfl hp16) (y_geq rfl rfl) ?_
       refine qx_y rfl (y_pick_fb (congrArg Value.bool hp16) rfl) ?_
       obtain rfl:=Option.some.inj h
       exact key _ _ (keep (keep (keep (keep (keep (keep (keep (keep (keep (keep (keep (keep (keep (keep rfl rfl) rfl) rfl) rfl) rfl) rfl) rfl) rfl) rfl) rfl) rfl) rfl) rfl) rfl)
    ·rcases bool_cases (decide (y11 < 0)) with hp15 | hp15
     ·refine qx_skip (sees_f rfl rfl rfl rfl hp15) ?_
      refine qx_skip (sees_f rfl rfl rfl rfl hp15) ?_
      refine qx_y rfl (y_pick_tb (congrArg Value.bool hp15) rfl) ?_
      exact key _ _ (keep (keep (keep (keep (keep (keep (keep (keep (keep (keep (keep (keep (keep (keep rfl rfl) rfl) rfl) rfl) rfl) rfl) rfl) rfl) rfl) rfl) rfl) rfl) rfl) (congrArg Value.bool (or_t hp15)))
     ·refine qx_y (sees_t rfl rfl rfl rfl hp15) (y_move_int rfl) ?_
      refine qx_y (sees_t rfl rfl rfl rfl hp15) (y_lss rfl rfl) ?_
      refine qx_y rfl (y_pick_fb (congrArg Value.bool hp15) rfl) ?_
      exact key _ _ (keep (keep (keep (keep (keep (keep (keep (keep (keep (keep (keep (keep (keep (keep rfl rfl) rfl) rfl) rfl) rfl) rfl) rfl) rfl) rfl) rfl) rfl) rfl) rfl) (congrArg Value.bool (or_f hp15)))
   ·refine cx_false (congrArg Value.bool hp8) ?_
    refine cx_exit ?_
    refine ex_then_exit ?_
    obtain rfl:=Option.some.inj h
    exact ex_stop ⟨rfl,_,rfl,(keep (keep (keep (keep (keep (keep (keep (keep rfl rfl) rfl) rfl) rfl) rfl) rfl) rfl) rfl)⟩
  ·intro e L tm hJ
   rcases u7 with u29 | u30
   ·dsimp only at h hJ
    obtain ⟨rfl,tm0_u29,rfl,rfl⟩:=hJ
    refine ⟨(by intro hc; cases hc),?_⟩
    refine ex_block_ret (ex_then_ret ?_)
    obtain rfl:=Option.some.inj h
    exact ex_res1 (.inl rfl) rfl (resV_tmp (v:=.bool u29.1) rfl) (fun W2 hW2 => ⟨rfl,hW2.none⟩)
   ·dsimp only at h hJ
    obtain ⟨rfl,tm0_u30,rfl,rfl⟩:=hJ
    refine ⟨(by intro hc; cases hc),?_⟩
    refine ex_block_here ?_
    refine ex_then (cx_seq (cx_region ?_))
    refine ox_y rfl (y_assign_bool rfl) ?_
    refine ox_nil (ex_then (cx_ret ?_))
    obtain rfl:=Option.some.inj h
    exact ex_res1 (.inl rfl) rfl (resV_tmp (v:=.bool true) rfl) (fun W2 hW2 => ⟨rfl,hW2.none⟩)

theorem slices_IndexFunc_Claim_Claim_ok (p0_s:(List TClaim)) (p1_f:TClaim → Option Bool) (res:Int) (h:slices_IndexFunc_Claim_Claim p0_s p1_f = some res) (W:World) (A0_0:Option Addr) (n0_0 c0_0 : Nat) (ys0_0:List (Hd × TClaim)) (hn0_0:n0_0 = p0_s.length) (hr0_0:Rd W A0_0 n0_0 c0_0 (encL TClaim_cells2 ys0_0)) (hN0_0:NestW W (fun z : TClaim => z.fOptions) THop_cells ys0_0 p0_s) (fid1:Nat) (fst1 caps1 : List Value) (hgo1:goes Try.prog fid1 = true) (hof1:∀ W2,Below W.heap.size W W2 → ∀ x,∀ (hx:Hd),Rd W2 hx.1 x.fOptions.length hx.2.2 (encL THop_cells x.fOptions) → ∀ y,p1_f x = some y → Calls Try.prog fid1 (fst1 ++ (([.agg #[.int .i64 x.fID,.slice hx.1 x.fOptions.length hx.2.2]] : List Value) ++ caps1)).toArray W2 fun e W3 => e = .returned (.bool y) ∧ Ext W2 W3 []) :
  Calls Try.prog 74 [.slice A0_0 n0_0 c0_0,.func (.func fid1) fst1.toArray caps1.toArray].toArray W fun e W2 => e = .returned (.int .i64 res) ∧ Ext W W2 []:=by
 subst hn0_0
 unfold slices_IndexFunc_Claim_Claim at h
 refine calls_enter (m:=19) Try.func74 rfl rfl (Nat.le_of_ble_eq_true rfl) ?_
 refine cx_seq (cx_region ?_)
 refine ox_y rfl (y_assign_int rfl) ?_
 refine ox_nil (ex_then (cx_seq (cx_seq (cx_region ?_))))
 refine ox_y rfl (y_move_slice rfl) ?_
 refine ox_y rfl (y_len (us:=[]) us_23 rfl) ?_
 refine ox_y rfl (y_move_int rfl) ?_
 refine ox_nil (ex_then (cx_block ?_))
 obtain ⟨u3,hl9,h⟩:=bind_some h
 refine cx_loop (fun (s:(Int × Int)) L tm => ∃ (tm0:Nat → Value),L = [] ∧ tm = (upd (upd (upd (upd (upd tm0 0 (.slice A0_0 p0_s.length c0_0)) 1 (.func (.func fid1) fst1.toArray caps1.toArray)) 4 (.int .i64 s.1)) 7 (.int .i64 (p0_s.length:Int))) 8 (.int .i64 s.2))) (fun | (.inl s),e,L,tm => e = .ret ∧ ∃ (tm0:Nat → Value),L = [] ∧ tm = (upd (upd (upd (upd (upd tm0 0 (.slice A0_0 p0_s.length c0_0)) 1 (.func (.func fid1) fst1.toArray caps1.toArray)) 4 (.int .i64 s.1)) 7 (.int .i64 (p0_s.length:Int))) 8 (.int .i64 s.2)) | (.inr s),e,L,tm => e = .exit 0 ∧ ∃ (tm0:Nat → Value),L = [] ∧ tm = (upd (upd (upd (upd (upd tm0 0 (.slice A0_0 p0_s.length c0_0)) 1 (.func (.func fid1) fst1.toArray caps1.toArray)) 4 (.int .i64 s.1)) 7 (.int .i64 (p0_s.length:Int))) 8 (.int .i64 s.2))) hl9 ⟨_,rfl,(keep (keep (keep (keep (keep rfl rfl) rfl) rfl) rfl) rfl)⟩ ?_ ?_
 ·rintro s2 L tm st ⟨tm0_s2,rfl,rfl⟩ h
  unfold slices_IndexFunc_Claim_Claim_l1 at h
  refine cx_seq (cx_region ?_)
  refine ox_y rfl (y_lss rfl rfl) ?_
  refine ox_nil (ex_then (cx_seq ?_))
  rcases ite_some h with ⟨hp4,h⟩ | ⟨hp4,h⟩
  ·refine cx_true (congrArg Value.bool hp4) ?_
   refine cx_skip (ex_then (cx_seq (cx_block (cx_seq (cx_region ?_)))))
   refine ox_y rfl (y_move_int rfl) ?_
   refine ox_y rfl (y_assign_int rfl) ?_
   refine ox_nil (ex_then (cx_seq (cx_region ?_)))
   refine ox_y rfl (y_move (v:=.func (.func fid1) fst1.toArray caps1.toArray) rfl) ?_
   refine ox_y rfl (y_move_slice rfl) ?_
   refine ox_y rfl (y_move_int rfl) ?_
   obtain ⟨hg5,h⟩:=guardO_some h
   refine ox_y rfl (y_indexR sl_23 (by decide) hg5.1 hg5.2 (RdL.arg hr0_0) (encL_len TClaim_cells2_len (NestP.hn hN0_0.p rfl)) rfl rfl) ?_
   refine ox_y rfl (y_loadRN (A:=A0_0) (j:=(Int.toNat s2.2 * 2)) [.int .i64 ((rdL p0_s s2.2).fID),.slice ((rdL ys0_0 s2.2).1.1) ((rdL p0_s s2.2).fOptions.length) ((rdL ys0_0 s2.2).1.2.2)] ag_35 (Nat.succ_pos _) (RdL.arg hr0_0) rfl (gets_eq (TClaim_cells2_eq (NestP.snd hN0_0.p s2.2) (NestP.len hN0_0.p hg5.1 (lt_nat hg5.2 rfl))).symm (encL_gets TClaim_cells2_len hg5.1 (lt_nat hg5.2 (NestP.hn hN0_0.p rfl))))) ?_
   obtain ⟨y6,hy7,h⟩:=bind_some h
   refine ox_y rfl (y_callvF [.agg #[.int .i64 ((rdL p0_s s2.2).fID),.slice ((rdL ys0_0 s2.2).1.1) ((rdL p0_s s2.2).fOptions.length) ((rdL ys0_0 s2.2).1.2.2)]] hgo1 rfl rfl (fun W2 hW2 => hof1 W2 hW2.below (TClaim.mk ((rdL p0_s s2.2).fID) ((rdL p0_s s2.2).fOptions)) ((rdL ys0_0 s2.2).1.1,0,(rdL ys0_0 s2.2).1.2.2) ((NestL.rd (NestL.arg hN0_0) hg5.1 (lt_nat hg5.2 rfl)) W2 hW2) y6 hy7)) ?_
   refine ox_nil (ex_then ?_)
   rcases ite_some h with ⟨hp8,h⟩ | ⟨hp8,h⟩
   ·refine cx_true (congrArg Value.bool hp8) ?_
    refine cx_seq (cx_region ?_)
    refine ox_y rfl (y_move_int rfl) ?_
    refine ox_y rfl (y_assign_int rfl) ?_
    refine ox_nil (ex_then (cx_ret (ex_block_ret (ex_then_ret ?_))))
    obtain rfl:=Option.some.inj h
    exact ex_stop ⟨rfl,_,rfl,(keep (keep (keep (keep (keep rfl rfl) rfl) rfl) rfl) rfl)⟩
   ·refine cx_false (congrArg Value.bool hp8) ?_
    refine cx_skip ?_
    refine ex_block ?_
    refine ex_then (cx_region ?_)
    refine ox_y rfl (y_add rfl rfl) ?_
    refine ox_y rfl (y_move_int rfl) ?_
    refine ox_nil ?_
    obtain rfl:=Option.some.inj h
    exact ex_next ⟨_,rfl,(keep (keep (keep (keep (keep rfl rfl) rfl) rfl) rfl) rfl)⟩
  ·refine cx_false (congrArg Value.bool hp4) ?_
   refine cx_exit ?_
   refine ex_then_exit ?_
   obtain rfl:=Option.some.inj h
   exact ex_stop ⟨rfl,_,rfl,(keep (keep (keep (keep (keep rfl rfl) rfl) rfl) rfl) rfl)⟩
 ·intro e L tm hJ
  rcases u3 with u10 | u11
  ·dsimp only at h hJ
   obtain ⟨rfl,tm0_u10,rfl,rfl⟩:=hJ
   refine ⟨(by intro hc; cases hc),?_⟩
   refine ex_block_ret (ex_then_ret ?_)
   obtain rfl:=Option.some.inj h
   exact ex_res1 (.inl rfl) rfl (resV_tmp (v:=.int .i64 u10.1) rfl) (fun W2 hW2 => ⟨rfl,hW2.none⟩)
  ·dsimp only at h hJ
   obtain ⟨rfl,tm0_u11,rfl,rfl⟩:=hJ
   refine ⟨(by intro hc; cases hc),?_⟩
   refine ex_block_here ?_
   refine ex_then (cx_seq (cx_region ?_))
   refine ox_y rfl (y_assign_int rfl) ?_
   refine ox_nil (ex_then (cx_ret ?_))
   obtain rfl:=Option.some.inj h
   exact ex_res1 (.inl rfl) rfl (resV_tmp (v:=.int .i64 (-1)) rfl) (fun W2 hW2 => ⟨rfl,hW2.none⟩)

theorem recall_linkOf_1_ok (p0_x:TClaim) (cap0:Int) (res:Bool) (h:recall_linkOf_1 p0_x cap0 = some res) (W:World) (A0_1:Option Addr) (n0_1 c0_1 : Nat) (hn0_1:n0_1 = p0_x.fOptions.length) (hr0_1:Rd W A0_1 n0_1 c0_1 (encL THop_cells p0_x.fOptions)) (bc0:Nat) (hcap0:Rd W (some ⟨bc0,0,none⟩) 1 1 (cI cap0)) :
  Calls Try.prog 75 [.agg #[.int .i64 p0_x.fID,.slice A0_1 n0_1 c0_1],.pointer (some ⟨bc0,0,none⟩)].toArray W fun e W2 => e = .returned (.bool res) ∧ Ext W W2 []:=by
 subst hn0_1
 unfold recall_linkOf_1 at h
 refine calls_enter (m:=8) Try.func75 rfl rfl (Nat.le_of_ble_eq_true rfl) ?_
 refine cx_seq (cx_region ?_)
 refine ox_box [.int .i64 p0_x.fID,.slice A0_1 p0_x.fOptions.length c0_1] rfl rfl rfl (fun b1 => ?_)
 refine ox_y rfl (y_assign_bool rfl) ?_
 refine ox_nil (ex_then (cx_seq (cx_region ?_)))
 refine ox_y rfl (y_fieldAddr fo_35_0 rfl) ?_
 refine ox_y rfl (y_load1 0 (v:=.int .i64 p0_x.fID) sc_3 rfl rfl rfl) ?_
 refine ox_y rfl (y_loadR1 (A:=(some ⟨bc0,0,none⟩)) (j:=0) (v:=.int .i64 cap0) sc_3 (RdL.arg hcap0) rfl rfl) ?_
 refine ox_y rfl (y_eql rfl rfl) ?_
 refine ox_y rfl (y_assign_bool rfl) ?_
 refine ox_nil (ex_then (cx_ret ?_))
 obtain rfl:=Option.some.inj h
 exact ex_res1 (.inl rfl) rfl (resV_tmp (v:=.bool (p0_x.fID == cap0)) rfl) (fun W2 hW2 => ⟨rfl,hW2.none⟩)

theorem recall_linkOf_ok (p0_l:TLineage) (p1_id:Int) (res:Int) (h:recall_linkOf p0_l p1_id = some res) (W:World) (A0_0:Option Addr) (n0_0 c0_0 : Nat) (hn0_0:n0_0 = p0_l.fNodes.length) (hr0_0:Rd W A0_0 n0_0 c0_0 (encL TNode_cells p0_l.fNodes)) (A0_1:Option Addr) (n0_1 c0_1 : Nat) (ys0_1:List (Hd × TClaim)) (hn0_1:n0_1 = p0_l.fClaims.length) (hr0_1:Rd W A0_1 n0_1 c0_1 (encL TClaim_cells2 ys0_1)) (hN0_1:NestW W (fun z : TClaim => z.fOptions) THop_cells ys0_1 p0_l.fClaims) :
  Calls Try.prog 38 [.agg #[.slice A0_0 n0_0 c0_0,.slice A0_1 n0_1 c0_1],.int .i64 p1_id].toArray W fun e W2 => e = .returned (.int .i64 res) ∧ Ext W W2 []:=by
 subst hn0_0
 subst hn0_1
 unfold recall_linkOf at h
 refine calls_enter (m:=9) Try.func38 rfl rfl (Nat.le_of_ble_eq_true rfl) ?_
 refine cx_seq (cx_region ?_)
 refine ox_box [.slice A0_0 p0_l.fNodes.length c0_0,.slice A0_1 p0_l.fClaims.length c0_1] rfl rfl rfl (fun b1 => ?_)
 refine ox_box [.int .i64 p1_id] rfl rfl rfl (fun b2 => ?_)
 refine ox_y rfl (y_assign_int rfl) ?_
 refine ox_nil (ex_then (cx_seq (cx_region ?_)))
 refine ox_y rfl (y_fieldAddr fo_25_1 rfl) ?_
 refine ox_y rfl (y_load1 0 (v:=.slice A0_1 p0_l.fClaims.length c0_1) sc_23 rfl rfl rfl) ?_
 refine ox_y rfl (y_makeFunc [.pointer (some ⟨b2,0,none⟩)] rfl rfl) ?_
 obtain ⟨y4,hy5,h⟩:=bind_some h
 refine ox_y rfl (y_call [.slice A0_1 p0_l.fClaims.length c0_1,.func (.func 75) #[] #[.pointer (some ⟨b2,0,none⟩)]] go_74 rfl (fun W2 hW2 => slices_IndexFunc_Claim_Claim_ok p0_l.fClaims (fun x3 => recall_linkOf_1 x3 p1_id) y4 hy5 W2 A0_1 p0_l.fClaims.length c0_1 ys0_1 rfl ((RdL.arg hr0_1) W2 hW2) (NestL.at (NestL.arg hN0_1) W2 hW2) 75 [] [.pointer (some ⟨b2,0,none⟩)] go_75 (fun W3 hb x hx rx y hxy => recall_linkOf_1_ok  x p1_id y hxy W3 hx.1 _ hx.2.2 rfl rx b2 (((RdL.cells 1 rfl) W2 hW2).later hb))) rfl) ?_
 refine ox_y rfl (y_assign_int rfl) ?_
 refine ox_nil (ex_then (cx_ret ?_))
 obtain rfl:=Option.some.inj h
 exact ex_res1 (.inl rfl) rfl (resV_tmp (v:=.int .i64 y4) rfl) (fun W2 hW2 => ⟨rfl,hW2.none⟩)

theorem recall_Check_ok (p0:TLineage) (res:Int) (h:recall_Check p0 = some res) (W:World) (A0_0:Option Addr) (n0_0 c0_0 : Nat) (hn0_0:n0_0 = p0.fNodes.length) (hr0_0:Rd W A0_0 n0_0 c0_0 (encL TNode_cells p0.fNodes)) (A0_1:Option Addr) (n0_1 c0_1 : Nat) (ys0_1:List (Hd × TClaim)) (hn0_1:n0_1 = p0.fClaims.length) (hr0_1:Rd W A0_1 n0_1 c0_1 (encL TClaim_cells2 ys0_1)) (hN0_1:NestW W (fun z : TClaim => z.fOptions) THop_cells ys0_1 p0.fClaims) :
  Calls Try.prog 14 [.agg #[.slice A0_0 n0_0 c0_0,.slice A0_1 n0_1 c0_1]].toArray W fun e W2 => e = .returned (.int .i64 res) ∧ Ext W W2 []:=by
 subst hn0_0
 subst hn0_1
 unfold recall_Check at h
 refine calls_enter (m:=83) Try.func14 rfl rfl (Nat.le_of_ble_eq_true rfl) ?_
 refine cx_seq (cx_region ?_)
 refine ox_box [.slice A0_0 p0.fNodes.length c0_0,.slice A0_1 p0.fClaims.length c0_1] rfl rfl rfl (fun b1 => ?_)
 refine ox_y rfl (y_assign_int rfl) ?_
 refine ox_nil (ex_then (cx_seq (cx_seq (cx_region ?_))))
 refine ox_y rfl (y_fieldAddr fo_25_0 rfl) ?_
 refine ox_y rfl (y_load1 0 (v:=.slice A0_0 p0.fNodes.length c0_0) sc_22 rfl rfl rfl) ?_
 refine ox_y rfl (y_len (us:=[]) us_22 rfl) ?_
 refine ox_y rfl (y_gtr rfl rfl) ?_
 refine ox_y rfl (y_move_bool rfl) ?_
 refine ox_join 5 (fun tm0 => (upd (upd (upd tm0 1 (.pointer (some ⟨b1,0,none⟩))) 2 (.int .i64 0)) 17 (.bool ((decide (60 < (p0.fNodes.length:Int))) || (decide (80 < (p0.fClaims.length:Int))))))) (fun tm0 => ?_) (fun key => ?_)
 ·refine ox_nil (ex_then ?_)
  rcases ite_some h with ⟨hp3,h⟩ | ⟨hp3,h⟩
  ·refine cx_true (congrArg Value.bool hp3) ?_
   refine cx_seq (cx_region ?_)
   refine ox_y rfl (y_assign_int rfl) ?_
   refine ox_nil (ex_then (cx_ret (ex_then_ret ?_)))
   obtain rfl:=Option.some.inj h
   exact ex_res1 (.inl rfl) rfl (resV_tmp (v:=.int .i64 2) rfl) (fun W2 hW2 => ⟨rfl,hW2.none⟩)
  ·refine cx_false (congrArg Value.bool hp3) ?_
   refine cx_skip (ex_then (cx_seq (cx_seq (cx_region ?_))))
   refine ox_y rfl (y_fieldAddr fo_25_0 rfl) ?_
   refine ox_y rfl (y_load1 0 (v:=.slice A0_0 p0.fNodes.length c0_0) sc_22 rfl rfl rfl) ?_
   refine ox_y rfl (y_len (us:=[]) us_22 rfl) ?_
   refine ox_y rfl (y_move_int rfl) ?_
   refine ox_nil (ex_then (cx_block ?_))
   obtain ⟨u6,hl26,h⟩:=bind_some h
   refine cx_loop (fun (s:(Int × Int)) L tm => ∃ (tm0:Nat → Value),L = [cellsR b1 25 [.slice A0_0 p0.fNodes.length c0_0,.slice A0_1 p0.fClaims.length c0_1]] ∧ tm = (upd (upd (upd (upd (upd (upd tm0 1 (.pointer (some ⟨b1,0,none⟩))) 2 (.int .i64 s.1)) 17 (.bool ((decide (60 < (p0.fNodes.length:Int))) || (decide (80 < (p0.fClaims.length:Int)))))) 19 (.slice A0_0 p0.fNodes.length c0_0)) 20 (.int .i64 (p0.fNodes.length:Int))) 21 (.int .i64 s.2))) (fun | (.inl s),e,L,tm => e = .ret ∧ ∃ (tm0:Nat → Value),L = [cellsR b1 25 [.slice A0_0 p0.fNodes.length c0_0,.slice A0_1 p0.fClaims.length c0_1]] ∧ tm = (upd (upd (upd (upd (upd (upd tm0 1 (.pointer (some ⟨b1,0,none⟩))) 2 (.int .i64 s.1)) 17 (.bool ((decide (60 < (p0.fNodes.length:Int))) || (decide (80 < (p0.fClaims.length:Int)))))) 19 (.slice A0_0 p0.fNodes.length c0_0)) 20 (.int .i64 (p0.fNodes.length:Int))) 21 (.int .i64 s.2)) | (.inr s),e,L,tm => e = .exit 0 ∧ ∃ (tm0:Nat → Value),L = [cellsR b1 25 [.slice A0_0 p0.fNodes.length c0_0,.slice A0_1 p0.fClaims.length c0_1]] ∧ tm = (upd (upd (upd (upd (upd (upd tm0 1 (.pointer (some ⟨b1,0,none⟩))) 2 (.int .i64 s.1)) 17 (.bool ((decide (60 < (p0.fNodes.length:Int))) || (decide (80 < (p0.fClaims.length:Int)))))) 19 (.slice A0_0 p0.fNodes.length c0_0)) 20 (.int .i64 (p0.fNodes.length:Int))) 21 (.int .i64 s.2))) hl26 ⟨_,rfl,(keep (keep (keep (keep (keep (keep rfl rfl) rfl) rfl) rfl) rfl) rfl)⟩ ?_ ?_
   ·rintro s5 L tm st ⟨tm0_s5,rfl,rfl⟩ h
    unfold recall_Check_l1 at h
    refine cx_seq (cx_region ?_)
    refine ox_y rfl (y_lss rfl rfl) ?_
    refine ox_nil (ex_then (cx_seq ?_))
    rcases ite_some h with ⟨hp7,h⟩ | ⟨hp7,h⟩
    ·refine cx_true (congrArg Value.bool hp7) ?_
     refine cx_skip (ex_then (cx_seq (cx_block (cx_seq (cx_region ?_)))))
     refine ox_y rfl (y_move_int rfl) ?_
     obtain ⟨hg8,h⟩:=guardO_some h
     refine ox_y rfl (y_indexR sl_22 (by decide) hg8.1 hg8.2 (RdL.arg hr0_0) (encL_len TNode_cells_len rfl) rfl rfl) ?_
     refine ox_y rfl (y_loadRN (A:=A0_0) (j:=(Int.toNat s5.2 * 3)) [.int .i64 ((rdL p0.fNodes s5.2).fID),.int .i64 ((rdL p0.fNodes s5.2).fLevel),.int .i64 ((rdL p0.fNodes s5.2).fCost)] ag_41 (Nat.succ_pos _) (RdL.arg hr0_0) rfl (encL_gets TNode_cells_len hg8.1 (lt_nat hg8.2 rfl))) ?_
     refine ox_alloc ze_41 rfl (fun b9 => ?_)
     refine ox_y rfl (y_assign_int rfl) ?_
     refine ox_n rfl (y_storeN 1 [.int .i64 ((rdL p0.fNodes s5.2).fID),.int .i64 ((rdL p0.fNodes s5.2).fLevel),.int .i64 ((rdL p0.fNodes s5.2).fCost)] sz_41 rfl (Nat.le_of_ble_eq_true rfl) rfl rfl rfl) ?_
     refine ox_nil (ex_then (cx_seq (cx_seq (cx_region ?_))))
     refine ox_y rfl (y_fieldAddr fo_41_0 rfl) ?_
     refine ox_y rfl (y_load1 1 (v:=.int .i64 ((rdL p0.fNodes s5.2).fID)) sc_3 rfl rfl rfl) ?_
     obtain ⟨y10,hy11,h⟩:=bind_some h
     refine ox_y rfl (y_call [.int .i64 ((rdL p0.fNodes s5.2).fID),.int .i64 1,.int .i64 1099511627776] go_35 rfl (fun W2 hW2 => recall_within_ok ((rdL p0.fNodes s5.2).fID) 1 1099511627776 y10 hy11 W2 ) rfl) ?_
     refine ox_y rfl (y_not rfl) ?_
     refine ox_y rfl (y_move_bool rfl) ?_
     obtain ⟨b13,hb14,h⟩:=bind_some h
     refine ox_join 5 (fun tm0 => (upd (upd (upd (upd (upd (upd (upd (upd (upd (upd tm0 1 (.pointer (some ⟨b1,0,none⟩))) 2 (.int .i64 s5.1)) 17 (.bool ((decide (60 < (p0.fNodes.length:Int))) || (decide (80 < (p0.fClaims.length:Int)))))) 19 (.slice A0_0 p0.fNodes.length c0_0)) 20 (.int .i64 (p0.fNodes.length:Int))) 21 (.int .i64 s5.2)) 22 (.bool (decide (s5.2 < (p0.fNodes.length:Int))))) 4 (.pointer (some ⟨b9,0,none⟩))) 3 (.int .i64 s5.2)) 35 (.bool b13))) (fun tm0 => ?_) (fun key => ?_)
     ·refine ox_y rfl (y_move_bool rfl) ?_
      obtain ⟨b16,hb17,h⟩:=bind_some h
      refine ox_join 5 (fun tm0 => (upd (upd (upd (upd (upd (upd (upd (upd (upd (upd tm0 1 (.pointer (some ⟨b1,0,none⟩))) 2 (.int .i64 s5.1)) 17 (.bool ((decide (60 < (p0.fNodes.length:Int))) || (decide (80 < (p0.fClaims.length:Int)))))) 19 (.slice A0_0 p0.fNodes.length c0_0)) 20 (.int .i64 (p0.fNodes.length:Int))) 21 (.int .i64 s5.2)) 22 (.bool (decide (s5.2 < (p0.fNodes.length:Int))))) 4 (.pointer (some ⟨b9,0,none⟩))) 3 (.int .i64 s5.2)) 41 (.bool b16))) (fun tm0 => ?_) (fun key => ?_)
      ·refine ox_nil (ex_then ?_)
       rcases ite_some h with ⟨hp18,h⟩ | ⟨hp18,h⟩
       ·refine cx_true (congrArg Value.bool hp18) ?_
        refine cx_seq (cx_region ?_)
        refine ox_y rfl (y_assign_int rfl) ?_
        refine ox_nil (ex_then (cx_ret (ex_then_ret (ex_block_ret (ex_then_ret ?_)))))
        refine ex_take 1 ?_
        obtain rfl:=Option.some.inj h
        exact ex_stop ⟨rfl,_,rfl,(keep (keep (keep (keep (keep (keep rfl rfl) rfl) rfl) rfl) rfl) rfl)⟩
       ·refine cx_false (congrArg Value.bool hp18) ?_
        refine cx_skip (ex_then (cx_seq (cx_region ?_)))
        refine ox_y rfl (y_loadN 0 [.slice A0_0 p0.fNodes.length c0_0,.slice A0_1 p0.fClaims.length c0_1] ag_25 rfl rfl rfl) ?_
        refine ox_y rfl (y_fieldAddr fo_41_0 rfl) ?_
        refine ox_y rfl (y_load1 1 (v:=.int .i64 ((rdL p0.fNodes s5.2).fID)) sc_3 rfl rfl rfl) ?_
        obtain ⟨y19,hy20,h⟩:=bind_some h
        refine ox_y rfl (y_call [.agg #[.slice A0_0 p0.fNodes.length c0_0,.slice A0_1 p0.fClaims.length c0_1],.int .i64 ((rdL p0.fNodes s5.2).fID)] go_36 rfl (fun W2 hW2 => recall_nodeOf_ok p0 ((rdL p0.fNodes s5.2).fID) y19 hy20 W2 A0_0 p0.fNodes.length c0_0 rfl ((RdL.arg hr0_0) W2 hW2) A0_1 p0.fClaims.length c0_1 ys0_1 rfl ((RdL.arg hr0_1) W2 hW2) (NestL.at (NestL.arg hN0_1) W2 hW2)) rfl) ?_
        refine ox_y rfl (y_move_int rfl) ?_
        refine ox_y rfl (y_lss rfl rfl) ?_
        refine ox_nil (ex_then ?_)
        rcases ite_some h with ⟨hp21,h⟩ | ⟨hp21,h⟩
        ·refine cx_true (congrArg Value.bool hp21) ?_
         refine cx_seq (cx_region ?_)
         refine ox_y rfl (y_assign_int rfl) ?_
         refine ox_nil (ex_then (cx_ret (ex_block_ret (ex_then_ret ?_))))
         refine ex_take 1 ?_
         obtain rfl:=Option.some.inj h
         exact ex_stop ⟨rfl,_,rfl,(keep (keep (keep (keep (keep (keep rfl rfl) rfl) rfl) rfl) rfl) rfl)⟩
        ·refine cx_false (congrArg Value.bool hp21) ?_
         refine cx_skip ?_
         refine ex_block ?_
         refine ex_then (cx_region ?_)
         refine ox_y rfl (y_add rfl rfl) ?_
         refine ox_y rfl (y_move_int rfl) ?_
         refine ox_nil ?_
         refine ex_take 1 ?_
         obtain rfl:=Option.some.inj h
         exact ex_next ⟨_,rfl,(keep (keep (keep (keep (keep (keep rfl rfl) rfl) rfl) rfl) rfl) rfl)⟩
      ·clear h; rcases ite_some hb17 with ⟨hp15,h⟩ | ⟨hp15,h⟩
       ·refine ox_skip (sees_f rfl rfl rfl rfl hp15) ?_
        refine ox_skip (sees_f rfl rfl rfl rfl hp15) ?_
        refine ox_skip (sees_f rfl rfl rfl rfl hp15) ?_
        refine ox_skip (sees_f rfl rfl rfl rfl hp15) ?_
        refine ox_y rfl (y_pick_tb (congrArg Value.bool hp15) rfl) ?_
        obtain rfl:=Option.some.inj h
        exact key _ _ (keep (keep (keep (keep (keep (keep (keep (keep (keep (keep rfl rfl) rfl) rfl) rfl) rfl) rfl) rfl) rfl) rfl) rfl)
       ·refine ox_y (sees_t rfl rfl rfl rfl hp15) (y_fieldAddr fo_41_2 rfl) ?_
        refine ox_y (sees_t rfl rfl rfl rfl hp15) (y_load1 1 (v:=.int .i64 ((rdL p0.fNodes s5.2).fCost)) sc_3 rfl rfl rfl) ?_
        obtain ⟨y22,hy23,h⟩:=bind_some h
        refine ox_y (sees_t rfl rfl rfl rfl hp15) (y_call [.int .i64 ((rdL p0.fNodes s5.2).fCost),.int .i64 0,.int .i64 1073741824] go_35 rfl (fun W2 hW2 => recall_within_ok ((rdL p0.fNodes s5.2).fCost) 0 1073741824 y22 hy23 W2 ) rfl) ?_
        refine ox_y (sees_t rfl rfl rfl rfl hp15) (y_not rfl) ?_
        refine ox_y rfl (y_pick_fb (congrArg Value.bool hp15) rfl) ?_
        obtain rfl:=Option.some.inj h
        exact key _ _ (keep (keep (keep (keep (keep (keep (keep (keep (keep (keep rfl rfl) rfl) rfl) rfl) rfl) rfl) rfl) rfl) rfl) rfl)
     ·clear h; rcases ite_some hb14 with ⟨hp12,h⟩ | ⟨hp12,h⟩
      ·refine ox_skip (sees_f rfl rfl rfl rfl hp12) ?_
       refine ox_skip (sees_f rfl rfl rfl rfl hp12) ?_
       refine ox_skip (sees_f rfl rfl rfl rfl hp12) ?_
       refine ox_skip (sees_f rfl rfl rfl rfl hp12) ?_
       refine ox_y rfl (y_pick_tb (congrArg Value.bool hp12) rfl) ?_
       obtain rfl:=Option.some.inj h
       exact key _ _ (keep (keep (keep (keep (keep (keep (keep (keep (keep (keep rfl rfl) rfl) rfl) rfl) rfl) rfl) rfl) rfl) rfl) rfl)
      ·refine ox_y (sees_t rfl rfl rfl rfl hp12) (y_fieldAddr fo_41_1 rfl) ?_
       refine ox_y (sees_t rfl rfl rfl rfl hp12) (y_load1 1 (v:=.int .i64 ((rdL p0.fNodes s5.2).fLevel)) sc_3 rfl rfl rfl) ?_
       obtain ⟨y24,hy25,h⟩:=bind_some h
       refine ox_y (sees_t rfl rfl rfl rfl hp12) (y_call [.int .i64 ((rdL p0.fNodes s5.2).fLevel),.int .i64 0,.int .i64 9] go_35 rfl (fun W2 hW2 => recall_within_ok ((rdL p0.fNodes s5.2).fLevel) 0 9 y24 hy25 W2 ) rfl) ?_
       refine ox_y (sees_t rfl rfl rfl rfl hp12) (y_not rfl) ?_
       refine ox_y rfl (y_pick_fb (congrArg Value.bool hp12) rfl) ?_
       obtain rfl:=Option.some.inj h
       exact key _ _ (keep (keep (keep (keep (keep (keep (keep (keep (keep (keep rfl rfl) rfl) rfl) rfl) rfl) rfl) rfl) rfl) rfl) rfl)
    ·refine cx_false (congrArg Value.bool hp7) ?_
     refine cx_exit ?_
     refine ex_then_exit ?_
     obtain rfl:=Option.some.inj h
     exact ex_stop ⟨rfl,_,rfl,(keep (keep (keep (keep (keep (keep rfl rfl) rfl) rfl) rfl) rfl) rfl)⟩
   ·intro e L tm hJ
    rcases u6 with u27 | u28
    ·dsimp only at h hJ
     obtain ⟨rfl,tm0_u27,rfl,rfl⟩:=hJ
     refine ⟨(by intro hc; cases hc),?_⟩
     refine ex_block_ret (ex_then_ret ?_)
     obtain rfl:=Option.some.inj h
     exact ex_res1 (.inl rfl) rfl (resV_tmp (v:=.int .i64 u27.1) rfl) (fun W2 hW2 => ⟨rfl,hW2.none⟩)
    ·dsimp only at h hJ
     obtain ⟨rfl,tm0_u28,rfl,rfl⟩:=hJ
     refine ⟨(by intro hc; cases hc),?_⟩
     refine ex_block_here ?_
     refine ex_then (cx_seq (cx_region ?_))
     refine ox_y rfl (y_assign_int rfl) ?_
     refine ox_nil (ex_then (cx_seq (cx_seq (cx_region ?_))))
     refine ox_y rfl (y_fieldAddr fo_25_1 rfl) ?_
     refine ox_y rfl (y_load1 0 (v:=.slice A0_1 p0.fClaims.length c0_1) sc_23 rfl rfl rfl) ?_
     refine ox_y rfl (y_len (us:=[]) us_23 rfl) ?_
     refine ox_y rfl (y_move_int rfl) ?_
     refine ox_nil (ex_then (cx_block ?_))
     obtain ⟨u31,hl46,h⟩:=bind_some h
     refine cx_loop (fun (s:(Int × Int × Int)) L tm => ∃ (tm0:Nat → Value),L = [cellsR b1 25 [.slice A0_0 p0.fNodes.length c0_0,.slice A0_1 p0.fClaims.length c0_1]] ∧ tm = (upd (upd (upd (upd (upd (upd (upd (upd (upd (upd tm0 1 (.pointer (some ⟨b1,0,none⟩))) 2 (.int .i64 s.1)) 17 (.bool ((decide (60 < (p0.fNodes.length:Int))) || (decide (80 < (p0.fClaims.length:Int)))))) 19 (.slice A0_0 p0.fNodes.length c0_0)) 20 (.int .i64 (p0.fNodes.length:Int))) 21 (.int .i64 u28.2)) 5 (.int .i64 s.2.1)) 50 (.slice A0_1 p0.fClaims.length c0_1)) 51 (.int .i64 (p0.fClaims.length:Int))) 52 (.int .i64 s.2.2))) (fun | (.inl s),e,L,tm => e = .ret ∧ ∃ (tm0:Nat → Value),L = [cellsR b1 25 [.slice A0_0 p0.fNodes.length c0_0,.slice A0_1 p0.fClaims.length c0_1]] ∧ tm = (upd (upd (upd (upd (upd (upd (upd (upd (upd (upd tm0 1 (.pointer (some ⟨b1,0,none⟩))) 2 (.int .i64 s.1)) 17 (.bool ((decide (60 < (p0.fNodes.length:Int))) || (decide (80 < (p0.fClaims.length:Int)))))) 19 (.slice A0_0 p0.fNodes.length c0_0)) 20 (.int .i64 (p0.fNodes.length:Int))) 21 (.int .i64 u28.2)) 5 (.int .i64 s.2.1)) 50 (.slice A0_1 p0.fClaims.length c0_1)) 51 (.int .i64 (p0.fClaims.length:Int))) 52 (.int .i64 s.2.2)) | (.inr s),e,L,tm => e = .exit 2 ∧ ∃ (tm0:Nat → Value),L = [cellsR b1 25 [.slice A0_0 p0.fNodes.length c0_0,.slice A0_1 p0.fClaims.length c0_1]] ∧ tm = (upd (upd (upd (upd (upd (upd (upd (upd (upd (upd tm0 1 (.pointer (some ⟨b1,0,none⟩))) 2 (.int .i64 s.1)) 17 (.bool ((decide (60 < (p0.fNodes.length:Int))) || (decide (80 < (p0.fClaims.length:Int)))))) 19 (.slice A0_0 p0.fNodes.length c0_0)) 20 (.int .i64 (p0.fNodes.length:Int))) 21 (.int .i64 u28.2)) 5 (.int .i64 s.2.1)) 50 (.slice A0_1 p0.fClaims.length c0_1)) 51 (.int .i64 (p0.fClaims.length:Int))) 52 (.int .i64 s.2.2))) hl46 ⟨_,rfl,(keep (keep (keep (keep (keep (keep (keep (keep (keep (keep rfl rfl) rfl) rfl) rfl) rfl) rfl) rfl) rfl) rfl) rfl)⟩ ?_ ?_
     ·rintro s30 L tm st ⟨tm0_s30,rfl,rfl⟩ h
      unfold recall_Check_l2 at h
      refine cx_seq (cx_region ?_)
      refine ox_y rfl (y_lss rfl rfl) ?_
      refine ox_nil (ex_then (cx_seq ?_))
      rcases ite_some h with ⟨hp32,h⟩ | ⟨hp32,h⟩
      ·refine cx_true (congrArg Value.bool hp32) ?_
       refine cx_skip (ex_then (cx_seq (cx_block (cx_seq (cx_region ?_)))))
       refine ox_y rfl (y_move_int rfl) ?_
       obtain ⟨hg33,h⟩:=guardO_some h
       refine ox_y rfl (y_indexR sl_23 (by decide) hg33.1 hg33.2 (RdL.arg hr0_1) (encL_len TClaim_cells2_len (NestP.hn hN0_1.p rfl)) rfl rfl) ?_
       refine ox_y rfl (y_loadRN (A:=A0_1) (j:=(Int.toNat s30.2.2 * 2)) [.int .i64 ((rdL p0.fClaims s30.2.2).fID),.slice ((rdL ys0_1 s30.2.2).1.1) ((rdL p0.fClaims s30.2.2).fOptions.length) ((rdL ys0_1 s30.2.2).1.2.2)] ag_35 (Nat.succ_pos _) (RdL.arg hr0_1) rfl (gets_eq (TClaim_cells2_eq (NestP.snd hN0_1.p s30.2.2) (NestP.len hN0_1.p hg33.1 (lt_nat hg33.2 rfl))).symm (encL_gets TClaim_cells2_len hg33.1 (lt_nat hg33.2 (NestP.hn hN0_1.p rfl))))) ?_
       refine ox_alloc ze_35 rfl (fun b34 => ?_)
       refine ox_y rfl (y_assign_int rfl) ?_
       refine ox_n rfl (y_storeN 1 [.int .i64 ((rdL p0.fClaims s30.2.2).fID),.slice ((rdL ys0_1 s30.2.2).1.1) ((rdL p0.fClaims s30.2.2).fOptions.length) ((rdL ys0_1 s30.2.2).1.2.2)] sz_35 rfl (Nat.le_of_ble_eq_true rfl) rfl rfl rfl) ?_
       refine ox_nil (ex_then (cx_seq (cx_seq (cx_region ?_))))
       refine ox_y rfl (y_fieldAddr fo_35_0 rfl) ?_
       refine ox_y rfl (y_load1 1 (v:=.int .i64 ((rdL p0.fClaims s30.2.2).fID)) sc_3 rfl rfl rfl) ?_
       obtain ⟨y35,hy36,h⟩:=bind_some h
       refine ox_y rfl (y_call [.int .i64 ((rdL p0.fClaims s30.2.2).fID),.int .i64 1,.int .i64 1099511627776] go_35 rfl (fun W2 hW2 => recall_within_ok ((rdL p0.fClaims s30.2.2).fID) 1 1099511627776 y35 hy36 W2 ) rfl) ?_
       refine ox_y rfl (y_not rfl) ?_
       refine ox_y rfl (y_move_bool rfl) ?_
       obtain ⟨b38,hb39,h⟩:=bind_some h
       refine ox_join 6 (fun tm0 => (upd (upd (upd (upd (upd (upd (upd (upd (upd (upd (upd (upd (upd (upd tm0 1 (.pointer (some ⟨b1,0,none⟩))) 2 (.int .i64 s30.1)) 17 (.bool ((decide (60 < (p0.fNodes.length:Int))) || (decide (80 < (p0.fClaims.length:Int)))))) 19 (.slice A0_0 p0.fNodes.length c0_0)) 20 (.int .i64 (p0.fNodes.length:Int))) 21 (.int .i64 u28.2)) 5 (.int .i64 s30.2.1)) 50 (.slice A0_1 p0.fClaims.length c0_1)) 51 (.int .i64 (p0.fClaims.length:Int))) 52 (.int .i64 s30.2.2)) 53 (.bool (decide (s30.2.2 < (p0.fClaims.length:Int))))) 7 (.pointer (some ⟨b34,0,none⟩))) 6 (.int .i64 s30.2.2)) 67 (.bool b38))) (fun tm0 => ?_) (fun key => ?_)
       ·refine ox_nil (ex_then ?_)
        rcases ite_some h with ⟨hp40,h⟩ | ⟨hp40,h⟩
        ·refine cx_true (congrArg Value.bool hp40) ?_
         refine cx_seq (cx_region ?_)
         refine ox_y rfl (y_assign_int rfl) ?_
         refine ox_nil (ex_then (cx_ret (ex_then_ret (ex_block_ret (ex_then_ret ?_)))))
         refine ex_take 1 ?_
         obtain rfl:=Option.some.inj h
         exact ex_stop ⟨rfl,_,rfl,(keep (keep (keep (keep (keep (keep (keep (keep (keep (keep rfl rfl) rfl) rfl) rfl) rfl) rfl) rfl) rfl) rfl) rfl)⟩
        ·refine cx_false (congrArg Value.bool hp40) ?_
         refine cx_skip (ex_then (cx_seq (cx_seq (cx_region ?_))))
         refine ox_y rfl (y_loadN 0 [.slice A0_0 p0.fNodes.length c0_0,.slice A0_1 p0.fClaims.length c0_1] ag_25 rfl rfl rfl) ?_
         refine ox_y rfl (y_fieldAddr fo_35_0 rfl) ?_
         refine ox_y rfl (y_load1 1 (v:=.int .i64 ((rdL p0.fClaims s30.2.2).fID)) sc_3 rfl rfl rfl) ?_
         obtain ⟨y41,hy42,h⟩:=bind_some h
         refine ox_y rfl (y_call [.agg #[.slice A0_0 p0.fNodes.length c0_0,.slice A0_1 p0.fClaims.length c0_1],.int .i64 ((rdL p0.fClaims s30.2.2).fID)] go_38 rfl (fun W2 hW2 => recall_linkOf_ok p0 ((rdL p0.fClaims s30.2.2).fID) y41 hy42 W2 A0_0 p0.fNodes.length c0_0 rfl ((RdL.arg hr0_0) W2 hW2) A0_1 p0.fClaims.length c0_1 ys0_1 rfl ((RdL.arg hr0_1) W2 hW2) (NestL.at (NestL.arg hN0_1) W2 hW2)) rfl) ?_
         refine ox_y rfl (y_move_int rfl) ?_
         refine ox_y rfl (y_lss rfl rfl) ?_
         refine ox_nil (ex_then ?_)
         rcases ite_some h with ⟨hp43,h⟩ | ⟨hp43,h⟩
         ·refine cx_true (congrArg Value.bool hp43) ?_
          refine cx_seq (cx_region ?_)
          refine ox_y rfl (y_assign_int rfl) ?_
          refine ox_nil (ex_then (cx_ret (ex_then_ret (ex_block_ret (ex_then_ret ?_)))))
          refine ex_take 1 ?_
          obtain rfl:=Option.some.inj h
          exact ex_stop ⟨rfl,_,rfl,(keep (keep (keep (keep (keep (keep (keep (keep (keep (keep rfl rfl) rfl) rfl) rfl) rfl) rfl) rfl) rfl) rfl) rfl)⟩
         ·refine cx_false (congrArg Value.bool hp43) ?_
          refine cx_skip (ex_then (cx_region ?_))
          refine ox_y rfl (y_move_int rfl) ?_
          refine ox_y rfl (y_fieldAddr fo_35_1 rfl) ?_
          refine ox_y rfl (y_load1 1 (v:=.slice ((rdL ys0_1 s30.2.2).1.1) ((rdL p0.fClaims s30.2.2).fOptions.length) ((rdL ys0_1 s30.2.2).1.2.2)) sc_33 rfl rfl rfl) ?_
          refine ox_y rfl (y_len (us:=[]) us_33 rfl) ?_
          refine ox_y rfl (y_mul rfl rfl) ?_
          refine ox_y rfl (y_min rfl rfl) ?_
          refine ox_y rfl (y_assign_int rfl) ?_
          refine ox_nil ?_
          refine ex_block ?_
          refine ex_then (cx_region ?_)
          refine ox_y rfl (y_add rfl rfl) ?_
          refine ox_y rfl (y_move_int rfl) ?_
          refine ox_nil ?_
          refine ex_take 1 ?_
          obtain rfl:=Option.some.inj h
          exact ex_next ⟨_,rfl,(keep (keep (keep (keep (keep (keep (keep (keep (keep (keep rfl rfl) rfl) rfl) rfl) rfl) rfl) rfl) rfl) rfl) rfl)⟩
       ·clear h; rcases ite_some hb39 with ⟨hp37,h⟩ | ⟨hp37,h⟩
        ·refine ox_skip (sees_f rfl rfl rfl rfl hp37) ?_
         refine ox_skip (sees_f rfl rfl rfl rfl hp37) ?_
         refine ox_skip (sees_f rfl rfl rfl rfl hp37) ?_
         refine ox_skip (sees_f rfl rfl rfl rfl hp37) ?_
         refine ox_skip (sees_f rfl rfl rfl rfl hp37) ?_
         refine ox_y rfl (y_pick_tb (congrArg Value.bool hp37) rfl) ?_
         obtain rfl:=Option.some.inj h
         exact key _ _ (keep (keep (keep (keep (keep (keep (keep (keep (keep (keep (keep (keep (keep (keep rfl rfl) rfl) rfl) rfl) rfl) rfl) rfl) rfl) rfl) rfl) rfl) rfl) rfl) rfl)
        ·refine ox_y (sees_t rfl rfl rfl rfl hp37) (y_loadN 0 [.slice A0_0 p0.fNodes.length c0_0,.slice A0_1 p0.fClaims.length c0_1] ag_25 rfl rfl rfl) ?_
         refine ox_y (sees_t rfl rfl rfl rfl hp37) (y_fieldAddr fo_35_1 rfl) ?_
         refine ox_y (sees_t rfl rfl rfl rfl hp37) (y_load1 1 (v:=.slice ((rdL ys0_1 s30.2.2).1.1) ((rdL p0.fClaims s30.2.2).fOptions.length) ((rdL ys0_1 s30.2.2).1.2.2)) sc_33 rfl rfl rfl) ?_
         obtain ⟨y44,hy45,h⟩:=bind_some h
         refine ox_y (sees_t rfl rfl rfl rfl hp37) (y_call [.agg #[.slice A0_0 p0.fNodes.length c0_0,.slice A0_1 p0.fClaims.length c0_1],.slice ((rdL ys0_1 s30.2.2).1.1) ((rdL p0.fClaims s30.2.2).fOptions.length) ((rdL ys0_1 s30.2.2).1.2.2)] go_37 rfl (fun W2 hW2 => recall_options_ok p0 ((rdL p0.fClaims s30.2.2).fOptions) y44 hy45 W2 A0_0 p0.fNodes.length c0_0 rfl ((RdL.arg hr0_0) W2 hW2) A0_1 p0.fClaims.length c0_1 ys0_1 rfl ((RdL.arg hr0_1) W2 hW2) (NestL.at (NestL.arg hN0_1) W2 hW2) ((rdL ys0_1 s30.2.2).1.1) ((rdL p0.fClaims s30.2.2).fOptions.length) ((rdL ys0_1 s30.2.2).1.2.2) rfl ((NestL.rd (NestL.arg hN0_1) hg33.1 (lt_nat hg33.2 rfl)) W2 hW2)) rfl) ?_
         refine ox_y (sees_t rfl rfl rfl rfl hp37) (y_not rfl) ?_
         refine ox_y rfl (y_pick_fb (congrArg Value.bool hp37) rfl) ?_
         obtain rfl:=Option.some.inj h
         exact key _ _ (keep (keep (keep (keep (keep (keep (keep (keep (keep (keep (keep (keep (keep (keep rfl rfl) rfl) rfl) rfl) rfl) rfl) rfl) rfl) rfl) rfl) rfl) rfl) rfl) rfl)
      ·refine cx_false (congrArg Value.bool hp32) ?_
       refine cx_exit ?_
       refine ex_then_exit ?_
       obtain rfl:=Option.some.inj h
       exact ex_stop ⟨rfl,_,rfl,(keep (keep (keep (keep (keep (keep (keep (keep (keep (keep rfl rfl) rfl) rfl) rfl) rfl) rfl) rfl) rfl) rfl) rfl)⟩
     ·intro e L tm hJ
      rcases u31 with u47 | u48
      ·dsimp only at h hJ
       obtain ⟨rfl,tm0_u47,rfl,rfl⟩:=hJ
       refine ⟨(by intro hc; cases hc),?_⟩
       refine ex_block_ret (ex_then_ret ?_)
       obtain rfl:=Option.some.inj h
       exact ex_res1 (.inl rfl) rfl (resV_tmp (v:=.int .i64 u47.1) rfl) (fun W2 hW2 => ⟨rfl,hW2.none⟩)
      ·dsimp only at h hJ
       obtain ⟨rfl,tm0_u48,rfl,rfl⟩:=hJ
       refine ⟨(by intro hc; cases hc),?_⟩
       refine ex_block_here ?_
       refine ex_then (cx_seq (cx_seq (cx_region ?_)))
       refine ox_y rfl (y_move_int rfl) ?_
       refine ox_y rfl (y_gtr rfl rfl) ?_
       refine ox_nil (ex_then ?_)
       rcases ite_some h with ⟨hp49,h⟩ | ⟨hp49,h⟩
       ·refine cx_true (congrArg Value.bool hp49) ?_
        refine cx_seq (cx_region ?_)
        refine ox_y rfl (y_assign_int rfl) ?_
        refine ox_nil (ex_then (cx_ret (ex_then_ret ?_)))
        obtain rfl:=Option.some.inj h
        exact ex_res1 (.inl rfl) rfl (resV_tmp (v:=.int .i64 2) rfl) (fun W2 hW2 => ⟨rfl,hW2.none⟩)
       ·refine cx_false (congrArg Value.bool hp49) ?_
        refine cx_skip (ex_then (cx_seq (cx_region ?_)))
        refine ox_y rfl (y_assign_int rfl) ?_
        refine ox_nil (ex_then (cx_ret ?_))
        obtain rfl:=Option.some.inj h
        exact ex_res1 (.inl rfl) rfl (resV_tmp (v:=.int .i64 0) rfl) (fun W2 hW2 => ⟨rfl,hW2.none⟩)
 ·rcases bool_cases (decide (60 < (p0.fNodes.length:Int))) with hp2 | hp2
  ·refine ox_skip (sees_f rfl rfl rfl rfl hp2) ?_
   refine ox_skip (sees_f rfl rfl rfl rfl hp2) ?_
   refine ox_skip (sees_f rfl rfl rfl rfl hp2) ?_
   refine ox_skip (sees_f rfl rfl rfl rfl hp2) ?_
   refine ox_y rfl (y_pick_tb (congrArg Value.bool hp2) rfl) ?_
   exact key _ _ (keep (keep (keep rfl rfl) rfl) (congrArg Value.bool (or_t hp2)))
  ·refine ox_y (sees_t rfl rfl rfl rfl hp2) (y_fieldAddr fo_25_1 rfl) ?_
   refine ox_y (sees_t rfl rfl rfl rfl hp2) (y_load1 0 (v:=.slice A0_1 p0.fClaims.length c0_1) sc_23 rfl rfl rfl) ?_
   refine ox_y (sees_t rfl rfl rfl rfl hp2) (y_len (us:=[]) us_23 rfl) ?_
   refine ox_y (sees_t rfl rfl rfl rfl hp2) (y_gtr rfl rfl) ?_
   refine ox_y rfl (y_pick_fb (congrArg Value.bool hp2) rfl) ?_
   exact key _ _ (keep (keep (keep rfl rfl) rfl) (congrArg Value.bool (or_f hp2)))

theorem cases_ks_get (l:TLineage) (i:Nat) (hi:i < l.fClaims.length) : (seqCases_ks l).getD i 0 = (rdL l.fClaims (i:Int)).fOptions.length:=by
 unfold seqCases_ks rdL
 rw [Int.toNat_natCast,List.getD_eq_getElem?_getD,List.getD_eq_getElem?_getD,List.getElem?_map,List.getElem?_eq_getElem hi]
 rfl
theorem cases_l2_spec (l:TLineage) (hok:seqCases_ok l) (x:List Int) (hx:x ∈ seqCases l) : ∀ j : Nat,j ≤ x.length → MaxC (seqCases_ks l) x j →
  ∃ j' : Nat,j' ≤ j ∧ loopO (recall_cases_1_l2 l) ((j:Int) - 1,zC x j) = some ((j':Int) - 1,zC x j') ∧ MaxC (seqCases_ks l) x j' ∧ (0 < j' → x.getD (j' - 1) 0 + 1 ≠ (((seqCases_ks l).getD (j' - 1) 0 : Nat) : Int)):=by
 obtain ⟨hxl,hxb⟩:=allC_mem _ _ hx
 have hkl : (seqCases_ks l).length = l.fClaims.length:=by simp [seqCases_ks]
 intro j
 induction j with
 | zero =>
  intro _ hm
  refine ⟨0,Nat.le_refl _,?_,hm,fun h => by omega⟩
  refine loopO_stop ?_
  unfold recall_cases_1_l2
  rfl
 | succ j ih =>
  intro hj hm
  have hjn : j < l.fClaims.length:=by omega
  have hget : rdL (zC x (j + 1)) (j:Int) = x.getD j 0:=by rw [zC_get (by omega),rdL_getD]
  have hb:=hxb j (by omega)
  have hkb : (seqCases_ks l).getD j 0 ≤ 1000:=by
   rw [cases_ks_get l j hjn]
   exact (hok.2 _ (rdL_mem (by omega) (by omega))).2
  have hw : w64 (x.getD j 0 + 1) = x.getD j 0 + 1:=w64_id (by omega) (by omega)
  have hbody : recall_cases_1_l2 l (((j + 1 : Nat) : Int) - 1,zC x (j + 1)) = if (x.getD j 0 + 1 == (((seqCases_ks l).getD j 0 : Nat) : Int)) = true then some (.inl ((j:Int) - 1,zC x j)) else some (.inr ((j:Int),zC x (j + 1))):=by
   unfold recall_cases_1_l2
   have e : (((j + 1 : Nat) : Int) - 1) = (j:Int):=by omega
   simp only [e]
   rw [hget,hw,← cases_ks_get l j hjn]
   simp only [show decide (0 ≤ (j:Int)) = true from decide_eq_true (by omega),if_true]
   rw [guardO_pos ⟨by omega,by omega⟩,guardO_pos ⟨by omega,by omega⟩]
   rw [Int.toNat_natCast,zC_set0 (by omega),w64_id (x:=(j:Int) - 1) (by have:=hok.1; omega) (by have:=hok.1; omega),Option.bind_some,guardO_pos ⟨by omega,by omega⟩]
  by_cases hc : x.getD j 0 + 1 = (((seqCases_ks l).getD j 0 : Nat) : Int)
  ·have hm' : MaxC (seqCases_ks l) x j:=fun q hq hql => by
    rcases Nat.eq_or_lt_of_le hq with e | e
    ·rw [← e]; exact hc
    ·exact hm q e hql
   obtain ⟨j',h1,h2,h3,h4⟩:=ih (by omega) hm'
   refine ⟨j',by omega,?_,h3,h4⟩
   rw [loopO_next (s':=((j:Int) - 1,zC x j)) (by rw [hbody,if_pos (by simpa using hc)])]
   exact h2
  ·refine ⟨j + 1,Nat.le_refl _,?_,hm,fun _ => by simpa using hc⟩
   rw [show ((j + 1 : Nat) : Int) - 1 = (j:Int) by omega]
   refine loopO_stop ?_
   rw [← show ((j + 1 : Nat) : Int) - 1 = (j:Int) by omega,hbody,if_neg (by simpa using hc)]
   rw [show ((j + 1 : Nat) : Int) - 1 = (j:Int) by omega]
theorem recall_cases_1_seq (cap0:TLineage) (hok:seqCases_ok cap0) (bc0:Nat) (A100_0:Option Addr) (n100_0 c100_0 : Nat) (A100_1:Option Addr) (n100_1 c100_1 : Nat) (hn100_1:n100_1 = cap0.fClaims.length) (ys100_1:List (Hd × TClaim)) (hP:NestP (fun z : TClaim => z.fOptions) ys100_1 cap0.fClaims) :
  SeqC Try.prog 70 [.pointer (some ⟨bc0,0,none⟩)] 3 (fun W => Rd W (some ⟨bc0,0,none⟩) 1 1 [.slice A100_0 n100_0 c100_0,.slice A100_1 n100_1 c100_1] ∧ Rd W A100_1 n100_1 c100_1 (encL TClaim_cells2 ys100_1)) (seqCases cap0):=by
 intro w0 l K Kx W L0 hH hy h0 hW0
 subst hn100_1
 have hkl : (seqCases_ks cap0).length = cap0.fClaims.length:=by simp [seqCases_ks]
 have hodo:=allC_odo (seqCases_ks cap0) (fun k hk => by
  obtain ⟨x,hx,rfl⟩:=List.mem_map.1 hk
  exact (hok.2 x hx).1)
 have hlen : ∀ {i : Nat} {x : List Int},(seqCases cap0)[i]? = some x → x.length = cap0.fClaims.length:=fun {i x} h => by
  rw [(allC_mem _ _ (List.mem_of_getElem? h)).1,hkl]
 refine callsIn_enterE (vs:=[.func (.yield l) #[] #[],.pointer (some ⟨bc0,0,none⟩)]) (m:=46) Try.func70 rfl rfl (Nat.le_of_ble_eq_true rfl) hW0 ?_
 have hcapL : ∀ {i : Nat} {L1 : List Res} {p : Res},K i L1 → RdL w0 (p :: L1) (some ⟨bc0,0,none⟩) 1 1 [.slice A100_0 n100_0 c100_0,.slice A100_1 cap0.fClaims.length c100_1]:=fun {i L1 p} hK W hW => by
  have h3:=hW.torr'
  exact (hH i L1 W hK h3).1
 have hrdL : ∀ {i : Nat} {L1 : List Res} {p : Res},K i L1 → RdL w0 (p :: L1) A100_1 cap0.fClaims.length c100_1 (encL TClaim_cells2 ys100_1):=fun {i L1 p} hK W hW => by
  have h3:=hW.torr'
  exact (hH i L1 W hK h3).2
 refine cx_seq (cx_region ?_)
 refine ox_y rfl (y_fieldAddrR (A:=(some ⟨bc0,0,none⟩)) (j:=0) fo_25_1 rfl) ?_
 refine ox_y rfl (y_loadR1 (A:=(some ⟨bc0,0,none⟩)) (j:=(0 + 1)) (v:=.slice A100_1 cap0.fClaims.length c100_1) sc_23 (fun W hW => (hH 0 L0 W h0 hW).1) rfl rfl) ?_
 refine ox_y rfl (y_len (us:=[]) us_23 rfl) ?_
 have hl1:=hok.1
 refine ox_make (encL cI (List.replicate (Int.toNat (cap0.fClaims.length:Int)) 0)) us_32 ze_3 by_3 (by omega) (by omega) rfl (made_enc _ _ _ rfl rfl) rfl (fun b1 => ?_)
 refine ox_y rfl (y_assign_slice rfl) ?_
 refine ox_nil (ex_then (cx_block ?_))
 rw [Int.toNat_natCast]
 refine cx_perm (L':=rowR (some ⟨b1,0,none⟩) cap0.fClaims.length 3 1 cap0.fClaims.length (encL cI (List.replicate cap0.fClaims.length 0)) :: L0) (fun W hW => hW.torr) ?_
 refine cx_loopM (fun (s:Nat) L tm => ∃ (x:List Int) (L':List Res) (tm0:Nat → Value),(seqCases cap0)[s]? = some x ∧ K s L' ∧ L = rowR (some ⟨b1,0,none⟩) cap0.fClaims.length 3 1 x.length (encL cI x) :: L' ∧ tm = (upd (upd (upd tm0 0 (.func (.yield l) #[] #[])) 1 (slA (some ⟨bc0,0,none⟩) 0)) 3 (.slice (some ⟨b1,0,none⟩) x.length cap0.fClaims.length)))
  (fun s => (seqCases cap0).length - s) 0 ⟨List.replicate cap0.fClaims.length 0,L0,_,by rw [seqCases,hodo.first,hkl],h0,by rw [List.length_replicate],keep (keep (keep rfl rfl) rfl) (by rw [List.length_replicate]; rfl)⟩ ?_
 rintro s L tm ⟨x,L',tm0,hx,hK,rfl,rfl⟩
 have hxl:=hlen hx
 have hxm : x ∈ seqCases cap0:=List.mem_of_getElem? hx
 have hsl : s < (seqCases cap0).length:=(List.getElem?_eq_some_iff.1 hx).1
 refine cx_block (cx_seq (cx_seq (cx_region ?_)))
 refine ox_y rfl (y_move (v:=.func (.yield l) #[] #[]) rfl) ?_
 refine ox_y rfl (y_move_slice rfl) ?_
 refine ox_yieldE (p:=rowR (some ⟨b1,0,none⟩) cap0.fClaims.length 3 1 x.length (encL cI x)) [.slice (some ⟨b1,0,none⟩) x.length cap0.fClaims.length] (K (s + 1)) Kx rfl rfl rfl (fun W hW => hy s x _ _ L' W hx hK hW) (fun L2 hK2 => ?_) (fun L2 hK2 => ?_)
 rotate_left
 ·refine ox_y rfl (y_not rfl) ?_
  refine ox_nil (ex_then ?_)
  refine cx_true rfl ?_
  refine cx_ret (ex_then_ret (ex_block_ret ?_))
  refine ex_outM (by intro h; cases h) ?_
  refine ex_block_ret ?_
  exact ex_result0 (.inl rfl) rfl (fun W2 hW2 => ⟨⟨_,rfl⟩,.inr ⟨L2,hK2,hW2⟩⟩)
 ·refine ox_y rfl (y_not rfl) ?_
  refine ox_nil (ex_then ?_)
  refine cx_false rfl ?_
  refine cx_skip (ex_then (cx_seq (cx_region ?_)))
  refine ox_y rfl (y_move_slice rfl) ?_
  refine ox_y rfl (y_len (us:=[]) us_32 rfl) ?_
  refine ox_y rfl (y_sub rfl rfl) ?_
  refine ox_y rfl (y_assign_int rfl) ?_
  refine ox_nil (ex_then (cx_seq (cx_block ?_)))
  obtain ⟨j',hj',hl19,hmx,hne⟩:=cases_l2_spec cap0 hok x hxm x.length (Nat.le_refl _) (fun q h1 h2 => by omega)
  rw [zC_full] at hl19
  have hs0 : w64 ((x.length:Int) - 1) = (x.length:Int) - 1:=w64_id (by omega) (by omega)
  rw [hs0]
  refine cx_loop (fun (s:(Int × (List Int))) L tm => ∃ (tm0:Nat → Value),cap0.fClaims.length = s.2.length ∧ L = rowR (some ⟨b1,0,none⟩) cap0.fClaims.length 3 1 cap0.fClaims.length (encL cI s.2) :: L2 ∧ tm = (upd (upd (upd (upd tm0 0 (.func (.yield l) #[] #[])) 1 (slA (some ⟨bc0,0,none⟩) 0)) 3 (.slice (some ⟨b1,0,none⟩) cap0.fClaims.length cap0.fClaims.length)) 4 (.int .i64 s.1)))
   (fun s e L tm => e = .exit 2 ∧ ∃ (tm0:Nat → Value),cap0.fClaims.length = s.2.length ∧ L = rowR (some ⟨b1,0,none⟩) cap0.fClaims.length 3 1 cap0.fClaims.length (encL cI s.2) :: L2 ∧ tm = (upd (upd (upd (upd tm0 0 (.func (.yield l) #[] #[])) 1 (slA (some ⟨bc0,0,none⟩) 0)) 3 (.slice (some ⟨b1,0,none⟩) cap0.fClaims.length cap0.fClaims.length)) 4 (.int .i64 s.1))) hl19 ⟨_,hxl.symm,by rw [hxl],(keep (keep (keep (keep rfl rfl) rfl) (by rw [← hxl]; rfl)) rfl)⟩ ?_ ?_
  ·rintro s10 L tm st ⟨tm0_s10,hn0_s10,rfl,rfl⟩ h
   unfold recall_cases_1_l2 at h
   refine cx_seq (cx_seq ?_)
   refine cx_draws 17 mixed (by kernel_rfl) (by kernel_rfl) ?_
   refine qx_y rfl (y_move_int rfl) ?_
   refine qx_y rfl (y_geq rfl rfl) ?_
   refine qx_y rfl (y_move_bool rfl) ?_
   obtain ⟨b13,hb14,h⟩:=bind_some h
   refine qx_join 14 (fun tm0 => (upd (upd (upd (upd (upd tm0 0 (.func (.yield l) #[] #[])) 1 (slA (some ⟨bc0,0,none⟩) 0)) 3 (.slice (some ⟨b1,0,none⟩) cap0.fClaims.length cap0.fClaims.length)) 4 (.int .i64 s10.1)) 32 (.bool b13))) (fun tm0 => ?_) (fun key => ?_)
   ·refine qx_nil ?_
    refine ox_nil (ex_then ?_)
    rcases ite_some h with ⟨hp15,h⟩ | ⟨hp15,h⟩
    ·refine cx_true (congrArg Value.bool hp15) ?_
     refine cx_skip (ex_then (cx_block (cx_seq (cx_region ?_))))
     refine ox_y rfl (y_move_slice rfl) ?_
     refine ox_y rfl (y_move_int rfl) ?_
     obtain ⟨hg16,h⟩:=guardO_some h
     refine ox_y rfl (y_indexR sl_32 (by decide) hg16.1 hg16.2 (RdL.row 0 rfl) (encL_len cI_len hn0_s10) rfl rfl) ?_
     refine ox_n rfl (y_storeR1 0 (xs:=s10.2) cI_len 0 sz_3 rfl hg16.1 (lt_nat hg16.2 hn0_s10) rfl rfl rfl rfl) ?_
     refine ox_nil (ex_then (cx_region ?_))
     refine ox_y rfl (y_move_int rfl) ?_
     refine ox_y rfl (y_sub rfl rfl) ?_
     refine ox_y rfl (y_assign_int rfl) ?_
     refine ox_nil ?_
     refine ex_block ?_
     obtain rfl:=Option.some.inj h
     exact ex_next ⟨_,(hn_set hn0_s10),rfl,(keep (keep (keep (keep rfl rfl) rfl) rfl) rfl)⟩
    ·refine cx_false (congrArg Value.bool hp15) ?_
     refine cx_exit ?_
     refine ex_then_exit ?_
     obtain rfl:=Option.some.inj h
     exact ex_stop ⟨rfl,_,hn0_s10,rfl,(keep (keep (keep (keep rfl rfl) rfl) rfl) rfl)⟩
   ·clear h; rcases ite_some hb14 with ⟨hp12,h⟩ | ⟨hp12,h⟩
    ·refine qx_y (sees_t rfl rfl rfl rfl hp12) (y_move_slice rfl) ?_
     refine qx_y (sees_t rfl rfl rfl rfl hp12) (y_move_int rfl) ?_
     obtain ⟨hg17,h⟩:=guardO_some h
     refine qx_y (sees_t rfl rfl rfl rfl hp12) (y_indexR sl_32 (by decide) hg17.1 hg17.2 (RdL.row 0 rfl) (encL_len cI_len hn0_s10) rfl rfl) ?_
     refine qx_y (sees_t rfl rfl rfl rfl hp12) (y_loadR1 (A:=(some ⟨b1,0,none⟩)) (j:=(Int.toNat s10.1 * 1)) (v:=.int .i64 (rdL s10.2 s10.1)) sc_3 (RdL.row 0 rfl) rfl (encL_get0 cI_len hg17.1 (lt_nat hg17.2 hn0_s10) rfl)) ?_
     refine qx_y (sees_t rfl rfl rfl rfl hp12) (y_add rfl rfl) ?_
     refine qx_y (sees_t rfl rfl rfl rfl hp12) (y_fieldAddrR (A:=(some ⟨bc0,0,none⟩)) (j:=0) fo_25_1 rfl) ?_
     refine qx_y (sees_t rfl rfl rfl rfl hp12) (y_loadR1 (A:=(some ⟨bc0,0,none⟩)) (j:=(0 + 1)) (v:=.slice A100_1 cap0.fClaims.length c100_1) sc_23 (hcapL hK2) rfl rfl) ?_
     refine qx_y (sees_t rfl rfl rfl rfl hp12) (y_move_int rfl) ?_
     obtain ⟨hg18,h⟩:=guardO_some h
     refine qx_y (sees_t rfl rfl rfl rfl hp12) (y_indexR sl_23 (by decide) hg18.1 hg18.2 (hrdL hK2) (encL_len TClaim_cells2_len (NestP.hn hP rfl)) rfl rfl) ?_
     refine qx_y (sees_t rfl rfl rfl rfl hp12) (y_fieldAddrR (A:=A100_1) (j:=(Int.toNat s10.1 * 2)) fo_35_1 rfl) ?_
     refine qx_y (sees_t rfl rfl rfl rfl hp12) (y_loadR1 (A:=A100_1) (j:=((Int.toNat s10.1 * 2) + 1)) (v:=.slice ((rdL ys100_1 s10.1).1.1) ((rdL cap0.fClaims s10.1).fOptions.length) ((rdL ys100_1 s10.1).1.2.2)) sc_33 (hrdL hK2) rfl (encL_get TClaim_cells2_len hg18.1 (lt_nat hg18.2 (NestP.hn hP rfl)) (congrArg (fun n : Nat => some (Value.slice (rdL ys100_1 s10.1).1.1 n (rdL ys100_1 s10.1).1.2.2)) (NestP.len hP hg18.1 (lt_nat hg18.2 rfl))))) ?_
     refine qx_y (sees_t rfl rfl rfl rfl hp12) (y_len (us:=[]) us_33 rfl) ?_
     refine qx_y (sees_t rfl rfl rfl rfl hp12) (y_eql rfl rfl) ?_
     refine qx_y rfl (y_pick_tb (congrArg Value.bool hp12) rfl) ?_
     obtain rfl:=Option.some.inj h
     exact key _ _ (keep (keep (keep (keep (keep rfl rfl) rfl) rfl) rfl) rfl)
    ·refine qx_skip (sees_f rfl rfl rfl rfl hp12) ?_
     refine qx_skip (sees_f rfl rfl rfl rfl hp12) ?_
     refine qx_skip (sees_f rfl rfl rfl rfl hp12) ?_
     refine qx_skip (sees_f rfl rfl rfl rfl hp12) ?_
     refine qx_skip (sees_f rfl rfl rfl rfl hp12) ?_
     refine qx_skip (sees_f rfl rfl rfl rfl hp12) ?_
     refine qx_skip (sees_f rfl rfl rfl rfl hp12) ?_
     refine qx_skip (sees_f rfl rfl rfl rfl hp12) ?_
     refine qx_skip (sees_f rfl rfl rfl rfl hp12) ?_
     refine qx_skip (sees_f rfl rfl rfl rfl hp12) ?_
     refine qx_skip (sees_f rfl rfl rfl rfl hp12) ?_
     refine qx_skip (sees_f rfl rfl rfl rfl hp12) ?_
     refine qx_skip (sees_f rfl rfl rfl rfl hp12) ?_
     refine qx_y rfl (y_pick_fb (congrArg Value.bool hp12) rfl) ?_
     obtain rfl:=Option.some.inj h
     exact key _ _ (keep (keep (keep (keep (keep rfl rfl) rfl) rfl) rfl) rfl)
  ·intro e L tm hJ
   obtain ⟨rfl,tm0_u11,hn0_u11,rfl,rfl⟩:=hJ
   refine ⟨(by intro hc; cases hc),?_⟩
   refine ex_block_here ?_
   refine ex_then (cx_seq (cx_seq (cx_region ?_)))
   refine ox_y rfl (y_move_int rfl) ?_
   refine ox_y rfl (y_lss rfl rfl) ?_
   refine ox_nil (ex_then ?_)
   rcases Nat.eq_zero_or_pos j' with hj0 | hj0
   ·subst hj0
    refine cx_true (congrArg Value.bool (decide_eq_true (by omega))) ?_
    refine cx_ret (ex_then_ret (ex_block_ret ?_))
    refine ex_outM (by intro h; cases h) ?_
    refine ex_block_ret ?_
    have hnx:=hodo.step s x hx
    rw [nextC_none _ _ (by rw [hxl,hkl]) hmx] at hnx
    have hge:=List.getElem?_eq_none_iff.1 hnx
    have he : s + 1 = (seqCases cap0).length:=by
     have : (seqCases cap0).length ≤ s + 1:=hge
     omega
    refine ex_perm (L':=L2) (fun W hW => hW.tail) ?_
    exact ex_result0 (.inl rfl) rfl (fun W2 hW2 => ⟨⟨_,rfl⟩,.inl ⟨L2,he ▸ hK2,hW2⟩⟩)
   ·obtain ⟨i,rfl⟩ : ∃ i,j' = i + 1:=⟨j' - 1,by omega⟩
    have hix : i < x.length:=by omega
    have hb:=(allC_mem _ _ hxm).2 i (by rw [hkl,← hxl]; exact hix)
    have hkb : (seqCases_ks cap0).getD i 0 ≤ 1000:=by
     rw [cases_ks_get cap0 i (by omega)]
     exact (hok.2 _ (rdL_mem (by omega) (by omega))).2
    have hzl : (zC x (i + 1)).length = x.length:=zC_len (by omega)
    have ei : ((i + 1 : Nat) : Int) - 1 = (i:Int):=by omega
    dsimp only
    rw [ei]
    have h1 : (0:Int) ≤ (i:Int):=by omega
    have h2 : (i:Int) < (cap0.fClaims.length:Int):=by omega
    have hnz : cap0.fClaims.length = (zC x (i + 1)).length:=by rw [hzl,hxl]
    refine cx_false (congrArg Value.bool (decide_eq_false (by omega))) ?_
    refine cx_skip (ex_then (cx_region ?_))
    refine ox_y rfl (y_move_slice rfl) ?_
    refine ox_y rfl (y_move_int rfl) ?_
    refine ox_y rfl (y_indexR sl_32 (by decide) h1 h2 (RdL.row 0 rfl) (encL_len cI_len hnz) rfl rfl) ?_
    refine ox_y rfl (y_loadR1 (A:=(some ⟨b1,0,none⟩)) (j:=(Int.toNat (i:Int) * 1)) (v:=.int .i64 (rdL (zC x (i + 1)) (i:Int))) sc_3 (RdL.row 0 rfl) rfl (encL_get0 cI_len h1 (lt_nat h2 hnz) rfl)) ?_
    refine ox_y rfl (y_add rfl rfl) ?_
    refine ox_y rfl (y_indexR sl_32 (by decide) h1 h2 (RdL.row 0 rfl) (encL_len cI_len hnz) rfl rfl) ?_
    refine ox_n rfl (y_storeR1 0 (xs:=zC x (i + 1)) cI_len (w64 (rdL (zC x (i + 1)) (i:Int) + 1)) sz_3 rfl h1 (lt_nat h2 hnz) rfl rfl rfl rfl) ?_
    refine ox_nil ?_
    refine ex_block ?_
    have hv : w64 (rdL (zC x (i + 1)) (i:Int) + 1) = x.getD i 0 + 1:=by
     rw [zC_get hix,rdL_getD]
     exact w64_id (by omega) (by omega)
    have hnx:=hodo.step s x hx
    rw [nextC_some _ _ i (by rw [hxl,hkl]) hix hmx (by simpa using hne (by omega)),← zC_set hix] at hnx
    have hnl : ((zC x (i + 1)).set i (x.getD i 0 + 1)).length = cap0.fClaims.length:=by rw [List.length_set,hzl,hxl]
    have hsl2 : s + 1 < (seqCases cap0).length:=(List.getElem?_eq_some_iff.1 hnx).1
    refine ex_nextM (s + 1) ⟨(zC x (i + 1)).set i (x.getD i 0 + 1),L2,_,hnx,hK2,?_,(keep (keep (keep rfl rfl) rfl) (by rw [hnl]; rfl))⟩ (by omega)
    rw [hv,Int.toNat_natCast,hnl]
    rfl

theorem recall_cases_ok (p0_l:TLineage) (res:Unit) (h:recall_cases p0_l = some res) (W:World) (A0_0:Option Addr) (n0_0 c0_0 : Nat) (hn0_0:n0_0 = p0_l.fNodes.length) (hr0_0:Rd W A0_0 n0_0 c0_0 (encL TNode_cells p0_l.fNodes)) (A0_1:Option Addr) (n0_1 c0_1 : Nat) (ys0_1:List (Hd × TClaim)) (hn0_1:n0_1 = p0_l.fClaims.length) (hr0_1:Rd W A0_1 n0_1 c0_1 (encL TClaim_cells2 ys0_1)) (hN0_1:NestW W (fun z : TClaim => z.fOptions) THop_cells ys0_1 p0_l.fClaims) :
  Calls Try.prog 33 [.agg #[.slice A0_0 n0_0 c0_0,.slice A0_1 n0_1 c0_1]].toArray W fun e W2 => ∃ x : Nat,e = .returned (.func (.func 70) #[] #[.pointer (some ⟨x,0,none⟩)]) ∧ Ext W W2 [cellsR x 25 [.slice A0_0 n0_0 c0_0,.slice A0_1 n0_1 c0_1]]:=by
 subst hn0_0
 subst hn0_1
 unfold recall_cases at h
 refine calls_enter (m:=4) Try.func33 rfl rfl (Nat.le_of_ble_eq_true rfl) ?_
 refine cx_seq (cx_region ?_)
 refine ox_box [.slice A0_0 p0_l.fNodes.length c0_0,.slice A0_1 p0_l.fClaims.length c0_1] rfl rfl rfl (fun b1 => ?_)
 refine ox_y rfl (y_assign_nilFunc rfl) ?_
 refine ox_nil (ex_then (cx_seq (cx_region ?_)))
 refine ox_y rfl (y_makeFunc [.pointer (some ⟨b1,0,none⟩)] rfl rfl) ?_
 refine ox_y rfl (y_assign_func rfl) ?_
 refine ox_nil (ex_then (cx_ret ?_))
 obtain rfl:=Option.some.inj h
 exact ex_res1 (.inl rfl) rfl (resV_tmp (v:=.func (.func 70) #[] #[.pointer (some ⟨b1,0,none⟩)]) rfl) (fun W2 hW2 => ⟨b1,rfl,hW2⟩)

theorem recall_Cases_ok (p0_l:TLineage) (res:(Int × Int)) (h:recall_Cases p0_l = some res) (W:World) (A0_0:Option Addr) (n0_0 c0_0 : Nat) (hn0_0:n0_0 = p0_l.fNodes.length) (hr0_0:Rd W A0_0 n0_0 c0_0 (encL TNode_cells p0_l.fNodes)) (A0_1:Option Addr) (n0_1 c0_1 : Nat) (ys0_1:List (Hd × TClaim)) (hn0_1:n0_1 = p0_l.fClaims.length) (hr0_1:Rd W A0_1 n0_1 c0_1 (encL TClaim_cells2 ys0_1)) (hN0_1:NestW W (fun z : TClaim => z.fOptions) THop_cells ys0_1 p0_l.fClaims) :
  Calls Try.prog 12 [.agg #[.slice A0_0 n0_0 c0_0,.slice A0_1 n0_1 c0_1]].toArray W fun e W2 => e = .returned (.tuple #[.int .i64 res.1,.int .i64 res.2]) ∧ Ext W W2 []:=by
 subst hn0_0
 subst hn0_1
 unfold recall_Cases at h
 refine calls_enterM (m:=17) Try.func12 rfl rfl (Nat.le_of_ble_eq_true rfl) ?_
 refine cx_seq (cx_region ?_)
 refine ox_box [.slice A0_0 p0_l.fNodes.length c0_0,.slice A0_1 p0_l.fClaims.length c0_1] rfl rfl rfl (fun b1 => ?_)
 refine ox_y rfl (y_assign_int rfl) ?_
 refine ox_y rfl (y_assign_int rfl) ?_
 refine ox_nil (ex_then (cx_seq (cx_seq (cx_region ?_))))
 refine ox_y rfl (y_loadN 0 [.slice A0_0 p0_l.fNodes.length c0_0,.slice A0_1 p0_l.fClaims.length c0_1] ag_25 rfl rfl rfl) ?_
 obtain ⟨y2,hy3,h⟩:=bind_some h
 refine ox_y rfl (y_call [.agg #[.slice A0_0 p0_l.fNodes.length c0_0,.slice A0_1 p0_l.fClaims.length c0_1]] go_14 rfl (fun W2 hW2 => recall_Check_ok p0_l y2 hy3 W2 A0_0 p0_l.fNodes.length c0_0 rfl ((RdL.arg hr0_0) W2 hW2) A0_1 p0_l.fClaims.length c0_1 ys0_1 rfl ((RdL.arg hr0_1) W2 hW2) (NestL.at (NestL.arg hN0_1) W2 hW2)) rfl) ?_
 refine ox_y rfl (y_assign_int rfl) ?_
 refine ox_nil (ex_then (cx_seq (cx_region ?_)))
 refine ox_y rfl (y_move_int rfl) ?_
 refine ox_y rfl (y_neq rfl rfl) ?_
 refine ox_nil (ex_then ?_)
 rcases ite_some h with ⟨hp4,h⟩ | ⟨hp4,h⟩
 ·refine cx_true (congrArg Value.bool hp4) ?_
  refine cx_seq (cx_region ?_)
  refine ox_y rfl (y_move_int rfl) ?_
  refine ox_y rfl (y_assign_int rfl) ?_
  refine ox_y rfl (y_assign_int rfl) ?_
  refine ox_nil (ex_then (cx_ret (ex_then_ret ?_)))
  refine ex_M0 (.inl rfl) ?_
  obtain rfl:=Option.some.inj h
  exact ex_res2 (.inl rfl) rfl (resV_tmp (v:=.int .i64 0) rfl) (resV_tmp (v:=.int .i64 y2) rfl) (fun W2 hW2 => ⟨rfl,hW2.none⟩)
 ·refine cx_false (congrArg Value.bool hp4) ?_
  refine cx_skip (ex_then (cx_seq (cx_region ?_)))
  refine ox_alloc ze_3 rfl (fun b5 => ?_)
  refine ox_n rfl (y_store1 1 (v:=.int .i64 0) sz_3 rfl (Nat.lt_of_lt_of_le (Nat.lt_succ_self _) (Nat.le_of_ble_eq_true rfl)) rfl rfl rfl) ?_
  refine ox_nil (ex_then (cx_seq (cx_seq (cx_region ?_))))
  refine ox_y rfl (y_loadN 0 [.slice A0_0 p0_l.fNodes.length c0_0,.slice A0_1 p0_l.fClaims.length c0_1] ag_25 rfl rfl rfl) ?_
  obtain ⟨y6,hy7,h⟩:=bind_some h
  refine ox_call1 [.agg #[.slice A0_0 p0_l.fNodes.length c0_0,.slice A0_1 p0_l.fClaims.length c0_1]] _ _ rfl go_33 rfl (fun W2 hW2 => recall_cases_ok p0_l y6 hy7 W2 A0_0 p0_l.fNodes.length c0_0 rfl ((RdL.arg hr0_0) W2 hW2) A0_1 p0_l.fClaims.length c0_1 ys0_1 rfl ((RdL.arg hr0_1) W2 hW2) (NestL.at (NestL.arg hN0_1) W2 hW2)) ?_
  rintro b8
  refine ox_nil (ex_then (cx_block ?_))
  obtain ⟨hok23,h⟩:=guardO_some h
  obtain ⟨u21,hl22,h⟩:=bind_some h
  refine cx_rangeC (caps:=[.pointer (some ⟨b8,0,none⟩)]) (fun (s:Int) L => L = [cellsR b1 25 [.slice A0_0 p0_l.fNodes.length c0_0,.slice A0_1 p0_l.fClaims.length c0_1],cellsR b5 3 [.int .i64 s],cellsR b8 25 [.slice A0_0 p0_l.fNodes.length c0_0,.slice A0_1 p0_l.fClaims.length c0_1]]) (fun (_:Unit) _ _ => False) hl22 rfl go_70 (recall_cases_1_seq p0_l hok23 b8 A0_0 p0_l.fNodes.length c0_0 A0_1 p0_l.fClaims.length c0_1 rfl ys0_1 hN0_1.p) (fun W2 s L hI hW2 => by obtain rfl:=hI; exact ⟨(RdL.cells 2 rfl) W2 hW2,(RdL.arg hr0_1) W2 hW2⟩) rfl (fun _ _ _ h => h.elim) ?_ ?_ ?_
  ·rintro D9 l10 rec11 A13 c14 s19 x20 L st hrec12 rfl h
   unfold recall_Cases_r1 at h
   refine cx_skip ?_
   refine ex_begin 4 rfl hrec12 ?_
   refine cx_block (cx_region ?_)
   try dsimp only [lna,lca,lsz,lss]
   refine ox_y rfl (y_load1 1 (v:=.int .i64 s19) sc_3 rfl rfl rfl) ?_
   refine ox_y rfl (y_add rfl rfl) ?_
   refine ox_n rfl (y_store1 1 (v:=.int .i64 (w64 (s19 + 1))) sz_3 rfl (Nat.lt_of_lt_of_le (Nat.lt_succ_self _) (Nat.le_of_ble_eq_true rfl)) rfl rfl rfl) ?_
   refine ox_nil ?_
   refine ex_block ?_
   obtain rfl:=Option.some.inj h
   exact ex_cnext [cellsR b1 25 [.slice A0_0 p0_l.fNodes.length c0_0,.slice A0_1 p0_l.fClaims.length c0_1],cellsR b5 3 [.int .i64 (w64 (s19 + 1))],cellsR b8 25 [.slice A0_0 p0_l.fNodes.length c0_0,.slice A0_1 p0_l.fClaims.length c0_1]] rfl
  ·rintro D9 u24 L hst rfl
   subst hst
   dsimp only at h
   refine ex_block ?_
   refine ex_then (cx_seq (cx_region ?_))
   refine ox_y rfl (y_load1 1 (v:=.int .i64 u24) sc_3 rfl rfl rfl) ?_
   refine ox_y rfl (y_assign_int rfl) ?_
   refine ox_y rfl (y_assign_int rfl) ?_
   refine ox_nil (ex_then (cx_ret ?_))
   refine ex_M1 3 rfl (.inl rfl) ?_
   obtain rfl:=Option.some.inj h
   exact ex_res2 (.inl rfl) rfl (resV_tmp (v:=.int .i64 u24) rfl) (resV_tmp (v:=.int .i64 0) rfl) (fun W2 hW2 => ⟨rfl,hW2.none⟩)
  ·intro D9 t e L _ hh
   exact hh.elim

theorem recall_increasing_int_ok (p0_l:(List Int)) (p1_id:Int → Option Int) (p2_so:Int → Option Bool) (res:Bool) (h:recall_increasing_int p0_l p1_id p2_so = some res) (W:World) (A0_0:Option Addr) (n0_0 c0_0 : Nat) (hn0_0:n0_0 = p0_l.length) (hr0_0:Rd W A0_0 n0_0 c0_0 (encL cI p0_l)) (fid1:Nat) (fst1 caps1 : List Value) (hgo1:goes Try.prog fid1 = true) (hof1:∀ W2,Below W.heap.size W W2 → ∀ x,∀ y,p1_id x = some y → Calls Try.prog fid1 (fst1 ++ (([.int .i64 x] : List Value) ++ caps1)).toArray W2 fun e W3 => e = .returned (.int .i64 y) ∧ Ext W2 W3 []) (fid2:Nat) (fst2 caps2 : List Value) (hgo2:goes Try.prog fid2 = true) (hof2:∀ W2,Below W.heap.size W W2 → ∀ x,∀ y,p2_so x = some y → Calls Try.prog fid2 (fst2 ++ (([.int .i64 x] : List Value) ++ caps2)).toArray W2 fun e W3 => e = .returned (.bool y) ∧ Ext W2 W3 []) :
  Calls Try.prog 81 [.slice A0_0 n0_0 c0_0,.func (.func fid1) fst1.toArray caps1.toArray,.func (.func fid2) fst2.toArray caps2.toArray].toArray W fun e W2 => e = .returned (.bool res) ∧ Ext W W2 []:=by
 subst hn0_0
 unfold recall_increasing_int at h
 refine calls_enter (m:=40) Try.func81 rfl rfl (Nat.le_of_ble_eq_true rfl) ?_
 refine cx_seq (cx_region ?_)
 refine ox_y rfl (y_assign_bool rfl) ?_
 refine ox_nil (ex_then (cx_seq (cx_seq (cx_region ?_))))
 refine ox_y rfl (y_move_slice rfl) ?_
 refine ox_y rfl (y_len (us:=[]) us_32 rfl) ?_
 refine ox_y rfl (y_move_int rfl) ?_
 refine ox_nil (ex_then (cx_block ?_))
 obtain ⟨u3,hl22,h⟩:=bind_some h
 refine cx_loop (fun (s:(Bool × Int)) L tm => ∃ (tm0:Nat → Value),L = [] ∧ tm = (upd (upd (upd (upd (upd (upd (upd tm0 0 (.slice A0_0 p0_l.length c0_0)) 1 (.func (.func fid1) fst1.toArray caps1.toArray)) 2 (.func (.func fid2) fst2.toArray caps2.toArray)) 6 (.bool s.1)) 9 (.slice A0_0 p0_l.length c0_0)) 10 (.int .i64 (p0_l.length:Int))) 11 (.int .i64 s.2))) (fun | (.inl s),e,L,tm => e = .ret ∧ ∃ (tm0:Nat → Value),L = [] ∧ tm = (upd (upd (upd (upd (upd (upd (upd tm0 0 (.slice A0_0 p0_l.length c0_0)) 1 (.func (.func fid1) fst1.toArray caps1.toArray)) 2 (.func (.func fid2) fst2.toArray caps2.toArray)) 6 (.bool s.1)) 9 (.slice A0_0 p0_l.length c0_0)) 10 (.int .i64 (p0_l.length:Int))) 11 (.int .i64 s.2)) | (.inr s),e,L,tm => e = .exit 0 ∧ ∃ (tm0:Nat → Value),L = [] ∧ tm = (upd (upd (upd (upd (upd (upd (upd tm0 0 (.slice A0_0 p0_l.length c0_0)) 1 (.func (.func fid1) fst1.toArray caps1.toArray)) 2 (.func (.func fid2) fst2.toArray caps2.toArray)) 6 (.bool s.1)) 9 (.slice A0_0 p0_l.length c0_0)) 10 (.int .i64 (p0_l.length:Int))) 11 (.int .i64 s.2))) hl22 ⟨_,rfl,(keep (keep (keep (keep (keep (keep (keep rfl rfl) rfl) rfl) rfl) rfl) rfl) rfl)⟩ ?_ ?_
 ·rintro s2 L tm st ⟨tm0_s2,rfl,rfl⟩ h
  unfold recall_increasing_int_l1 at h
  refine cx_seq (cx_region ?_)
  refine ox_y rfl (y_lss rfl rfl) ?_
  refine ox_nil (ex_then (cx_seq ?_))
  rcases ite_some h with ⟨hp4,h⟩ | ⟨hp4,h⟩
  ·refine cx_true (congrArg Value.bool hp4) ?_
   refine cx_skip (ex_then (cx_seq (cx_block (cx_seq (cx_region ?_)))))
   refine ox_y rfl (y_move_int rfl) ?_
   obtain ⟨hg5,h⟩:=guardO_some h
   refine ox_y rfl (y_indexR sl_32 (by decide) hg5.1 hg5.2 (RdL.arg hr0_0) (encL_len cI_len rfl) rfl rfl) ?_
   refine ox_y rfl (y_loadR1 (A:=A0_0) (j:=(Int.toNat s2.2 * 1)) (v:=.int .i64 (rdL p0_l s2.2)) sc_3 (RdL.arg hr0_0) rfl (encL_get0 cI_len hg5.1 (lt_nat hg5.2 rfl) rfl)) ?_
   refine ox_y rfl (y_assign_int rfl) ?_
   refine ox_y rfl (y_assign_int rfl) ?_
   refine ox_nil (ex_then (cx_seq ?_))
   refine cx_draws 23 mixed (by kernel_rfl) (by kernel_rfl) ?_
   refine qx_y rfl (y_move (v:=.func (.func fid2) fst2.toArray caps2.toArray) rfl) ?_
   refine qx_y rfl (y_move (v:=.func (.func fid1) fst1.toArray caps1.toArray) rfl) ?_
   refine qx_y rfl (y_move_int rfl) ?_
   obtain ⟨y6,hy7,h⟩:=bind_some h
   refine qx_y rfl (y_callvF [.int .i64 (rdL p0_l s2.2)] hgo1 rfl rfl (fun W2 hW2 => hof1 W2 hW2.below (rdL p0_l s2.2) y6 hy7)) ?_
   obtain ⟨y8,hy9,h⟩:=bind_some h
   refine qx_y rfl (y_callvF [.int .i64 y6] hgo2 rfl rfl (fun W2 hW2 => hof2 W2 hW2.below y6 y8 hy9)) ?_
   refine qx_y rfl (y_not rfl) ?_
   refine qx_y rfl (y_move_bool rfl) ?_
   obtain ⟨b11,hb12,h⟩:=bind_some h
   refine qx_join 16 (fun tm0 => (upd (upd (upd (upd (upd (upd (upd (upd (upd (upd (upd tm0 0 (.slice A0_0 p0_l.length c0_0)) 1 (.func (.func fid1) fst1.toArray caps1.toArray)) 2 (.func (.func fid2) fst2.toArray caps2.toArray)) 6 (.bool s2.1)) 9 (.slice A0_0 p0_l.length c0_0)) 10 (.int .i64 (p0_l.length:Int))) 11 (.int .i64 s2.2)) 12 (.bool (decide (s2.2 < (p0_l.length:Int))))) 7 (.int .i64 s2.2)) 8 (.int .i64 (rdL p0_l s2.2))) 38 (.bool b11))) (fun tm0 => ?_) (fun key => ?_)
   ·refine qx_nil ?_
    refine ox_nil (ex_then ?_)
    rcases ite_some h with ⟨hp13,h⟩ | ⟨hp13,h⟩
    ·refine cx_true (congrArg Value.bool hp13) ?_
     refine cx_seq (cx_region ?_)
     refine ox_y rfl (y_assign_bool rfl) ?_
     refine ox_nil (ex_then (cx_ret (ex_block_ret (ex_then_ret ?_))))
     obtain rfl:=Option.some.inj h
     exact ex_stop ⟨rfl,_,rfl,(keep (keep (keep (keep (keep (keep (keep rfl rfl) rfl) rfl) rfl) rfl) rfl) rfl)⟩
    ·refine cx_false (congrArg Value.bool hp13) ?_
     refine cx_skip ?_
     refine ex_block ?_
     refine ex_then (cx_region ?_)
     refine ox_y rfl (y_add rfl rfl) ?_
     refine ox_y rfl (y_move_int rfl) ?_
     refine ox_nil ?_
     obtain rfl:=Option.some.inj h
     exact ex_next ⟨_,rfl,(keep (keep (keep (keep (keep (keep (keep rfl rfl) rfl) rfl) rfl) rfl) rfl) rfl)⟩
   ·clear h; rcases ite_some hb12 with ⟨hp10,h⟩ | ⟨hp10,h⟩
    ·refine qx_skip (sees_f rfl rfl rfl rfl hp10) ?_
     refine qx_skip (sees_f rfl rfl rfl rfl hp10) ?_
     refine qx_skip (sees_f rfl rfl rfl rfl hp10) ?_
     refine qx_skip rfl ?_
     refine qx_skip rfl ?_
     refine qx_skip rfl ?_
     refine qx_skip rfl ?_
     refine qx_skip rfl ?_
     refine qx_skip rfl ?_
     refine qx_skip rfl ?_
     refine qx_skip rfl ?_
     refine qx_skip rfl ?_
     refine qx_skip rfl ?_
     refine qx_skip rfl ?_
     refine qx_skip (sees_f rfl rfl rfl rfl hp10) ?_
     refine qx_y rfl (y_pick_tb (congrArg Value.bool hp10) rfl) ?_
     obtain rfl:=Option.some.inj h
     exact key _ _ (keep (keep (keep (keep (keep (keep (keep (keep (keep (keep (keep rfl rfl) rfl) rfl) rfl) rfl) rfl) rfl) rfl) rfl) rfl) rfl)
    ·refine qx_y (sees_t rfl rfl rfl rfl hp10) (y_move_int rfl) ?_
     refine qx_y (sees_t rfl rfl rfl rfl hp10) (y_gtr rfl rfl) ?_
     refine qx_y (sees_t rfl rfl rfl rfl hp10) (y_move_bool rfl) ?_
     obtain ⟨b15,hb16,h⟩:=bind_some h
     refine qx_join 12 (fun tm0 => (upd (upd (upd (upd (upd (upd (upd (upd (upd (upd (upd (upd tm0 0 (.slice A0_0 p0_l.length c0_0)) 1 (.func (.func fid1) fst1.toArray caps1.toArray)) 2 (.func (.func fid2) fst2.toArray caps2.toArray)) 6 (.bool s2.1)) 9 (.slice A0_0 p0_l.length c0_0)) 10 (.int .i64 (p0_l.length:Int))) 11 (.int .i64 s2.2)) 12 (.bool (decide (s2.2 < (p0_l.length:Int))))) 7 (.int .i64 s2.2)) 8 (.int .i64 (rdL p0_l s2.2))) 22 (.bool (!y8))) 37 (.bool b15))) (fun tm0 => ?_) (fun key => ?_)
     ·refine qx_y rfl (y_pick_fb (congrArg Value.bool hp10) rfl) ?_
      obtain rfl:=Option.some.inj h
      exact key _ _ (keep (keep (keep (keep (keep (keep (keep (keep (keep (keep (keep rfl rfl) rfl) rfl) rfl) rfl) rfl) rfl) rfl) rfl) rfl) rfl)
     ·clear h; rcases ite_some hb16 with ⟨hp14,h⟩ | ⟨hp14,h⟩
      ·refine qx_y (sees_t rfl rfl rfl rfl hp14) (y_move (v:=.func (.func fid1) fst1.toArray caps1.toArray) rfl) ?_
       refine qx_y (sees_t rfl rfl rfl rfl hp14) (y_move_int rfl) ?_
       obtain ⟨y17,hy18,h⟩:=bind_some h
       refine qx_y (sees_t rfl rfl rfl rfl hp14) (y_callvF [.int .i64 (rdL p0_l s2.2)] hgo1 rfl rfl (fun W2 hW2 => hof1 W2 hW2.below (rdL p0_l s2.2) y17 hy18)) ?_
       refine qx_y (sees_t rfl rfl rfl rfl hp14) (y_move (v:=.func (.func fid1) fst1.toArray caps1.toArray) rfl) ?_
       refine qx_y (sees_t rfl rfl rfl rfl hp14) (y_move_slice rfl) ?_
       refine qx_y (sees_t rfl rfl rfl rfl hp14) (y_move_int rfl) ?_
       refine qx_y (sees_t rfl rfl rfl rfl hp14) (y_sub rfl rfl) ?_
       obtain ⟨hg19,h⟩:=guardO_some h
       refine qx_y (sees_t rfl rfl rfl rfl hp14) (y_indexR sl_32 (by decide) hg19.1 hg19.2 (RdL.arg hr0_0) (encL_len cI_len rfl) rfl rfl) ?_
       refine qx_y (sees_t rfl rfl rfl rfl hp14) (y_loadR1 (A:=A0_0) (j:=(Int.toNat (w64 (s2.2 - 1)) * 1)) (v:=.int .i64 (rdL p0_l (w64 (s2.2 - 1)))) sc_3 (RdL.arg hr0_0) rfl (encL_get0 cI_len hg19.1 (lt_nat hg19.2 rfl) rfl)) ?_
       obtain ⟨y20,hy21,h⟩:=bind_some h
       refine qx_y (sees_t rfl rfl rfl rfl hp14) (y_callvF [.int .i64 (rdL p0_l (w64 (s2.2 - 1)))] hgo1 rfl rfl (fun W2 hW2 => hof1 W2 hW2.below (rdL p0_l (w64 (s2.2 - 1))) y20 hy21)) ?_
       refine qx_y (sees_t rfl rfl rfl rfl hp14) (y_leq rfl rfl) ?_
       refine qx_y (sees_t rfl rfl rfl rfl hp10) (y_pick_tb (congrArg Value.bool hp14) rfl) ?_
       obtain rfl:=Option.some.inj h
       exact key _ _ (keep (keep (keep (keep (keep (keep (keep (keep (keep (keep (keep (keep rfl rfl) rfl) rfl) rfl) rfl) rfl) rfl) rfl) rfl) rfl) rfl) rfl)
      ·refine qx_skip (sees_f rfl rfl rfl rfl hp14) ?_
       refine qx_skip (sees_f rfl rfl rfl rfl hp14) ?_
       refine qx_skip (sees_f rfl rfl rfl rfl hp14) ?_
       refine qx_skip (sees_f rfl rfl rfl rfl hp14) ?_
       refine qx_skip (sees_f rfl rfl rfl rfl hp14) ?_
       refine qx_skip (sees_f rfl rfl rfl rfl hp14) ?_
       refine qx_skip (sees_f rfl rfl rfl rfl hp14) ?_
       refine qx_skip (sees_f rfl rfl rfl rfl hp14) ?_
       refine qx_skip (sees_f rfl rfl rfl rfl hp14) ?_
       refine qx_skip (sees_f rfl rfl rfl rfl hp14) ?_
       refine qx_skip (sees_f rfl rfl rfl rfl hp14) ?_
       refine qx_y (sees_t rfl rfl rfl rfl hp10) (y_pick_fb (congrArg Value.bool hp14) rfl) ?_
       obtain rfl:=Option.some.inj h
       exact key _ _ (keep (keep (keep (keep (keep (keep (keep (keep (keep (keep (keep (keep rfl rfl) rfl) rfl) rfl) rfl) rfl) rfl) rfl) rfl) rfl) rfl) rfl)
  ·refine cx_false (congrArg Value.bool hp4) ?_
   refine cx_exit ?_
   refine ex_then_exit ?_
   obtain rfl:=Option.some.inj h
   exact ex_stop ⟨rfl,_,rfl,(keep (keep (keep (keep (keep (keep (keep rfl rfl) rfl) rfl) rfl) rfl) rfl) rfl)⟩
 ·intro e L tm hJ
  rcases u3 with u23 | u24
  ·dsimp only at h hJ
   obtain ⟨rfl,tm0_u23,rfl,rfl⟩:=hJ
   refine ⟨(by intro hc; cases hc),?_⟩
   refine ex_block_ret (ex_then_ret ?_)
   obtain rfl:=Option.some.inj h
   exact ex_res1 (.inl rfl) rfl (resV_tmp (v:=.bool u23.1) rfl) (fun W2 hW2 => ⟨rfl,hW2.none⟩)
  ·dsimp only at h hJ
   obtain ⟨rfl,tm0_u24,rfl,rfl⟩:=hJ
   refine ⟨(by intro hc; cases hc),?_⟩
   refine ex_block_here ?_
   refine ex_then (cx_seq (cx_region ?_))
   refine ox_y rfl (y_assign_bool rfl) ?_
   refine ox_nil (ex_then (cx_ret ?_))
   obtain rfl:=Option.some.inj h
   exact ex_res1 (.inl rfl) rfl (resV_tmp (v:=.bool true) rfl) (fun W2 hW2 => ⟨rfl,hW2.none⟩)

theorem recall_own_ok (p0_n:Int) (res:Int) (h:recall_own p0_n = some res) (W:World)  :
  Calls Try.prog 82 [.int .i64 p0_n].toArray W fun e W2 => e = .returned (.int .i64 res) ∧ Ext W W2 []:=by
 unfold recall_own at h
 refine calls_enter (m:=4) Try.func82 rfl rfl (Nat.le_of_ble_eq_true rfl) ?_
 refine cx_seq (cx_region ?_)
 refine ox_y rfl (y_assign_int rfl) ?_
 refine ox_nil (ex_then (cx_seq (cx_region ?_)))
 refine ox_y rfl (y_move_int rfl) ?_
 refine ox_y rfl (y_assign_int rfl) ?_
 refine ox_nil (ex_then (cx_ret ?_))
 obtain rfl:=Option.some.inj h
 exact ex_res1 (.inl rfl) rfl (resV_tmp (v:=.int .i64 p0_n) rfl) (fun W2 hW2 => ⟨rfl,hW2.none⟩)

theorem recall_isFrom_1_ok (p0_id:Int) (cap0:TLineage) (res:Bool) (h:recall_isFrom_1 p0_id cap0 = some res) (W:World) (bc0:Nat) (A100_0:Option Addr) (n100_0 c100_0 : Nat) (hn100_0:n100_0 = cap0.fNodes.length) (hr100_0:Rd W A100_0 n100_0 c100_0 (encL TNode_cells cap0.fNodes)) (A100_1:Option Addr) (n100_1 c100_1 : Nat) (ys100_1:List (Hd × TClaim)) (hn100_1:n100_1 = cap0.fClaims.length) (hr100_1:Rd W A100_1 n100_1 c100_1 (encL TClaim_cells2 ys100_1)) (hN100_1:NestW W (fun z : TClaim => z.fOptions) THop_cells ys100_1 cap0.fClaims) (hcap0:Rd W (some ⟨bc0,0,none⟩) 1 1 [.slice A100_0 n100_0 c100_0,.slice A100_1 n100_1 c100_1]) :
  Calls Try.prog 91 [.int .i64 p0_id,.pointer (some ⟨bc0,0,none⟩)].toArray W fun e W2 => e = .returned (.bool res) ∧ Ext W W2 []:=by
 subst hn100_0
 subst hn100_1
 unfold recall_isFrom_1 at h
 refine calls_enter (m:=8) Try.func91 rfl rfl (Nat.le_of_ble_eq_true rfl) ?_
 refine cx_seq (cx_region ?_)
 refine ox_y rfl (y_assign_bool rfl) ?_
 refine ox_nil (ex_then (cx_seq (cx_region ?_)))
 refine ox_y rfl (y_loadRN (A:=(some ⟨bc0,0,none⟩)) (j:=0) [.slice A100_0 cap0.fNodes.length c100_0,.slice A100_1 cap0.fClaims.length c100_1] ag_25 (Nat.succ_pos _) (RdL.arg hcap0) rfl (gets_all rfl)) ?_
 refine ox_y rfl (y_move_int rfl) ?_
 obtain ⟨y1,hy2,h⟩:=bind_some h
 refine ox_y rfl (y_call [.agg #[.slice A100_0 cap0.fNodes.length c100_0,.slice A100_1 cap0.fClaims.length c100_1],.int .i64 p0_id] go_36 rfl (fun W2 hW2 => recall_nodeOf_ok cap0 p0_id y1 hy2 W2 A100_0 cap0.fNodes.length c100_0 rfl ((RdL.arg hr100_0) W2 hW2) A100_1 cap0.fClaims.length c100_1 ys100_1 rfl ((RdL.arg hr100_1) W2 hW2) (NestL.at (NestL.arg hN100_1) W2 hW2)) rfl) ?_
 refine ox_y rfl (y_geq rfl rfl) ?_
 refine ox_y rfl (y_assign_bool rfl) ?_
 refine ox_nil (ex_then (cx_ret ?_))
 obtain rfl:=Option.some.inj h
 exact ex_res1 (.inl rfl) rfl (resV_tmp (v:=.bool (decide (0 ≤ y1))) rfl) (fun W2 hW2 => ⟨rfl,hW2.none⟩)

theorem recall_isFrom_ok (p0_l:TLineage) (p1_from:(List Int)) (res:Bool) (h:recall_isFrom p0_l p1_from = some res) (W:World) (A0_0:Option Addr) (n0_0 c0_0 : Nat) (hn0_0:n0_0 = p0_l.fNodes.length) (hr0_0:Rd W A0_0 n0_0 c0_0 (encL TNode_cells p0_l.fNodes)) (A0_1:Option Addr) (n0_1 c0_1 : Nat) (ys0_1:List (Hd × TClaim)) (hn0_1:n0_1 = p0_l.fClaims.length) (hr0_1:Rd W A0_1 n0_1 c0_1 (encL TClaim_cells2 ys0_1)) (hN0_1:NestW W (fun z : TClaim => z.fOptions) THop_cells ys0_1 p0_l.fClaims) (A1_0:Option Addr) (n1_0 c1_0 : Nat) (hn1_0:n1_0 = p1_from.length) (hr1_0:Rd W A1_0 n1_0 c1_0 (encL cI p1_from)) :
  Calls Try.prog 76 [.agg #[.slice A0_0 n0_0 c0_0,.slice A0_1 n0_1 c0_1],.slice A1_0 n1_0 c1_0].toArray W fun e W2 => e = .returned (.bool res) ∧ Ext W W2 []:=by
 subst hn0_0
 subst hn0_1
 subst hn1_0
 unfold recall_isFrom at h
 refine calls_enter (m:=13) Try.func76 rfl rfl (Nat.le_of_ble_eq_true rfl) ?_
 refine cx_seq (cx_region ?_)
 refine ox_box [.slice A0_0 p0_l.fNodes.length c0_0,.slice A0_1 p0_l.fClaims.length c0_1] rfl rfl rfl (fun b1 => ?_)
 refine ox_y rfl (y_assign_bool rfl) ?_
 refine ox_nil (ex_then (cx_seq (cx_region ?_)))
 refine ox_y rfl (y_move_slice rfl) ?_
 refine ox_y rfl (y_len (us:=[]) us_32 rfl) ?_
 refine ox_y rfl (y_gtr rfl rfl) ?_
 refine ox_y rfl (y_move_bool rfl) ?_
 obtain ⟨b3,hb4,h⟩:=bind_some h
 refine ox_join 4 (fun tm0 => (upd (upd tm0 4 (.bool false)) 12 (.bool b3))) (fun tm0 => ?_) (fun key => ?_)
 ·refine ox_y rfl (y_assign_bool rfl) ?_
  refine ox_nil (ex_then (cx_ret ?_))
  obtain rfl:=Option.some.inj h
  exact ex_res1 (.inl rfl) rfl (resV_tmp (v:=.bool b3) rfl) (fun W2 hW2 => ⟨rfl,hW2.none⟩)
 ·clear h; rcases ite_some hb4 with ⟨hp2,h⟩ | ⟨hp2,h⟩
  ·refine ox_y (sees_t rfl rfl rfl rfl hp2) (y_move_slice rfl) ?_
   refine ox_y (sees_t rfl rfl rfl rfl hp2) (y_makeFunc [.pointer (some ⟨b1,0,none⟩)] rfl rfl) ?_
   obtain ⟨y7,hy8,h⟩:=bind_some h
   refine ox_y (sees_t rfl rfl rfl rfl hp2) (y_call [.slice A1_0 p1_from.length c1_0,.func (.func 82) #[] #[],.func (.func 91) #[] #[.pointer (some ⟨b1,0,none⟩)]] go_81 rfl (fun W2 hW2 => recall_increasing_int_ok p1_from (fun x5 => recall_own x5) (fun x6 => recall_isFrom_1 x6 p0_l) y7 hy8 W2 A1_0 p1_from.length c1_0 rfl ((RdL.arg hr1_0) W2 hW2) 82 [] [] go_82 (fun W3 hb x y hxy => recall_own_ok  x  y hxy W3 ) 91 [] [.pointer (some ⟨b1,0,none⟩)] go_91 (fun W3 hb x y hxy => recall_isFrom_1_ok  x p0_l y hxy W3 b1 A0_0 p0_l.fNodes.length c0_0 rfl (((RdL.arg hr0_0) W2 hW2).later hb) A0_1 p0_l.fClaims.length c0_1 ys0_1 rfl (((RdL.arg hr0_1) W2 hW2).later hb) ((NestL.at (NestL.arg hN0_1) W2 hW2).later hb) (((RdL.cells 0 rfl) W2 hW2).later hb))) rfl) ?_
   refine ox_y rfl (y_pick_tb (congrArg Value.bool hp2) rfl) ?_
   obtain rfl:=Option.some.inj h
   exact key _ _ (keep (keep rfl rfl) rfl)
  ·refine ox_skip (sees_f rfl rfl rfl rfl hp2) ?_
   refine ox_skip (sees_f rfl rfl rfl rfl hp2) ?_
   refine ox_skip (sees_f rfl rfl rfl rfl hp2) ?_
   refine ox_y rfl (y_pick_fb (congrArg Value.bool hp2) rfl) ?_
   obtain rfl:=Option.some.inj h
   exact key _ _ (keep (keep rfl rfl) rfl)

theorem recall_asked_ok (p0_l:TLineage) (p1_from:(List Int)) (res:Int) (h:recall_asked p0_l p1_from = some res) (W:World) (A0_0:Option Addr) (n0_0 c0_0 : Nat) (hn0_0:n0_0 = p0_l.fNodes.length) (hr0_0:Rd W A0_0 n0_0 c0_0 (encL TNode_cells p0_l.fNodes)) (A0_1:Option Addr) (n0_1 c0_1 : Nat) (ys0_1:List (Hd × TClaim)) (hn0_1:n0_1 = p0_l.fClaims.length) (hr0_1:Rd W A0_1 n0_1 c0_1 (encL TClaim_cells2 ys0_1)) (hN0_1:NestW W (fun z : TClaim => z.fOptions) THop_cells ys0_1 p0_l.fClaims) (A1_0:Option Addr) (n1_0 c1_0 : Nat) (hn1_0:n1_0 = p1_from.length) (hr1_0:Rd W A1_0 n1_0 c1_0 (encL cI p1_from)) :
  Calls Try.prog 43 [.agg #[.slice A0_0 n0_0 c0_0,.slice A0_1 n0_1 c0_1],.slice A1_0 n1_0 c1_0].toArray W fun e W2 => e = .returned (.int .i64 res) ∧ Ext W W2 []:=by
 subst hn0_0
 subst hn0_1
 subst hn1_0
 unfold recall_asked at h
 refine calls_enter (m:=15) Try.func43 rfl rfl (Nat.le_of_ble_eq_true rfl) ?_
 refine cx_seq (cx_region ?_)
 refine ox_box [.slice A0_0 p0_l.fNodes.length c0_0,.slice A0_1 p0_l.fClaims.length c0_1] rfl rfl rfl (fun b1 => ?_)
 refine ox_y rfl (y_assign_int rfl) ?_
 refine ox_nil (ex_then (cx_seq (cx_seq (cx_region ?_))))
 refine ox_y rfl (y_loadN 0 [.slice A0_0 p0_l.fNodes.length c0_0,.slice A0_1 p0_l.fClaims.length c0_1] ag_25 rfl rfl rfl) ?_
 obtain ⟨y2,hy3,h⟩:=bind_some h
 refine ox_y rfl (y_call [.agg #[.slice A0_0 p0_l.fNodes.length c0_0,.slice A0_1 p0_l.fClaims.length c0_1]] go_14 rfl (fun W2 hW2 => recall_Check_ok p0_l y2 hy3 W2 A0_0 p0_l.fNodes.length c0_0 rfl ((RdL.arg hr0_0) W2 hW2) A0_1 p0_l.fClaims.length c0_1 ys0_1 rfl ((RdL.arg hr0_1) W2 hW2) (NestL.at (NestL.arg hN0_1) W2 hW2)) rfl) ?_
 refine ox_y rfl (y_assign_int rfl) ?_
 refine ox_nil (ex_then (cx_seq (cx_region ?_)))
 refine ox_y rfl (y_move_int rfl) ?_
 refine ox_y rfl (y_neq rfl rfl) ?_
 refine ox_nil (ex_then ?_)
 rcases ite_some h with ⟨hp4,h⟩ | ⟨hp4,h⟩
 ·refine cx_true (congrArg Value.bool hp4) ?_
  refine cx_seq (cx_region ?_)
  refine ox_y rfl (y_move_int rfl) ?_
  refine ox_y rfl (y_assign_int rfl) ?_
  refine ox_nil (ex_then (cx_ret (ex_then_ret ?_)))
  obtain rfl:=Option.some.inj h
  exact ex_res1 (.inl rfl) rfl (resV_tmp (v:=.int .i64 y2) rfl) (fun W2 hW2 => ⟨rfl,hW2.none⟩)
 ·refine cx_false (congrArg Value.bool hp4) ?_
  refine cx_skip (ex_then (cx_seq (cx_seq (cx_region ?_))))
  refine ox_y rfl (y_loadN 0 [.slice A0_0 p0_l.fNodes.length c0_0,.slice A0_1 p0_l.fClaims.length c0_1] ag_25 rfl rfl rfl) ?_
  refine ox_y rfl (y_move_slice rfl) ?_
  obtain ⟨y5,hy6,h⟩:=bind_some h
  refine ox_y rfl (y_call [.agg #[.slice A0_0 p0_l.fNodes.length c0_0,.slice A0_1 p0_l.fClaims.length c0_1],.slice A1_0 p1_from.length c1_0] go_76 rfl (fun W2 hW2 => recall_isFrom_ok p0_l p1_from y5 hy6 W2 A0_0 p0_l.fNodes.length c0_0 rfl ((RdL.arg hr0_0) W2 hW2) A0_1 p0_l.fClaims.length c0_1 ys0_1 rfl ((RdL.arg hr0_1) W2 hW2) (NestL.at (NestL.arg hN0_1) W2 hW2) A1_0 p1_from.length c1_0 rfl ((RdL.arg hr1_0) W2 hW2)) rfl) ?_
  refine ox_y rfl (y_not rfl) ?_
  refine ox_nil (ex_then ?_)
  rcases ite_some h with ⟨hp7,h⟩ | ⟨hp7,h⟩
  ·refine cx_true (congrArg Value.bool hp7) ?_
   refine cx_seq (cx_region ?_)
   refine ox_y rfl (y_assign_int rfl) ?_
   refine ox_nil (ex_then (cx_ret (ex_then_ret ?_)))
   obtain rfl:=Option.some.inj h
   exact ex_res1 (.inl rfl) rfl (resV_tmp (v:=.int .i64 1) rfl) (fun W2 hW2 => ⟨rfl,hW2.none⟩)
  ·refine cx_false (congrArg Value.bool hp7) ?_
   refine cx_skip (ex_then (cx_seq (cx_region ?_)))
   refine ox_y rfl (y_assign_int rfl) ?_
   refine ox_nil (ex_then (cx_ret ?_))
   obtain rfl:=Option.some.inj h
   exact ex_res1 (.inl rfl) rfl (resV_tmp (v:=.int .i64 0) rfl) (fun W2 hW2 => ⟨rfl,hW2.none⟩)

theorem cmp_isNaN_int_ok (p0_x:Int) (res:Bool) (h:cmp_isNaN_int p0_x = some res) (W:World)  :
  Calls Try.prog 107 [.int .i64 p0_x].toArray W fun e W2 => e = .returned (.bool res) ∧ Ext W W2 []:=by
 unfold cmp_isNaN_int at h
 refine calls_enter (m:=6) Try.func107 rfl rfl (Nat.le_of_ble_eq_true rfl) ?_
 refine cx_seq (cx_region ?_)
 refine ox_y rfl (y_assign_bool rfl) ?_
 refine ox_nil (ex_then (cx_seq (cx_region ?_)))
 refine ox_y rfl (y_move_int rfl) ?_
 refine ox_y rfl (y_move_int rfl) ?_
 refine ox_y rfl (y_neq rfl rfl) ?_
 refine ox_y rfl (y_assign_bool rfl) ?_
 refine ox_nil (ex_then (cx_ret ?_))
 obtain rfl:=Option.some.inj h
 exact ex_res1 (.inl rfl) rfl (resV_tmp (v:=.bool (p0_x != p0_x)) rfl) (fun W2 hW2 => ⟨rfl,hW2.none⟩)

theorem cmp_Less_int_ok (p0_x:Int) (p1_y:Int) (res:Bool) (h:cmp_Less_int p0_x p1_y = some res) (W:World)  :
  Calls Try.prog 101 [.int .i64 p0_x,.int .i64 p1_y].toArray W fun e W2 => e = .returned (.bool res) ∧ Ext W W2 []:=by
 unfold cmp_Less_int at h
 refine calls_enter (m:=17) Try.func101 rfl rfl (Nat.le_of_ble_eq_true rfl) ?_
 refine cx_seq (cx_region ?_)
 refine ox_y rfl (y_assign_bool rfl) ?_
 refine ox_nil (ex_then (cx_seq (cx_region ?_)))
 refine ox_y rfl (y_move_int rfl) ?_
 obtain ⟨y1,hy2,h⟩:=bind_some h
 refine ox_y rfl (y_call [.int .i64 p0_x] go_107 rfl (fun W2 hW2 => cmp_isNaN_int_ok p0_x y1 hy2 W2 ) rfl) ?_
 refine ox_y rfl (y_move_bool rfl) ?_
 obtain ⟨b4,hb5,h⟩:=bind_some h
 refine ox_join 4 (fun tm0 => (upd (upd (upd (upd tm0 0 (.int .i64 p0_x)) 1 (.int .i64 p1_y)) 4 (.bool false)) 11 (.bool b4))) (fun tm0 => ?_) (fun key => ?_)
 ·refine ox_y rfl (y_move_bool rfl) ?_
  refine ox_join 4 (fun tm0 => (upd (upd tm0 4 (.bool false)) 16 (.bool (b4 || (decide (p0_x < p1_y)))))) (fun tm0 => ?_) (fun key => ?_)
  ·refine ox_y rfl (y_assign_bool rfl) ?_
   refine ox_nil (ex_then (cx_ret ?_))
   obtain rfl:=Option.some.inj h
   exact ex_res1 (.inl rfl) rfl (resV_tmp (v:=.bool (b4 || (decide (p0_x < p1_y)))) rfl) (fun W2 hW2 => ⟨rfl,hW2.none⟩)
  ·rcases bool_cases b4 with hp6 | hp6
   ·refine ox_skip (sees_f rfl rfl rfl rfl hp6) ?_
    refine ox_skip (sees_f rfl rfl rfl rfl hp6) ?_
    refine ox_skip (sees_f rfl rfl rfl rfl hp6) ?_
    refine ox_y rfl (y_pick_tb (congrArg Value.bool hp6) rfl) ?_
    exact key _ _ (keep (keep rfl rfl) (congrArg Value.bool (or_t hp6)))
   ·refine ox_y (sees_t rfl rfl rfl rfl hp6) (y_move_int rfl) ?_
    refine ox_y (sees_t rfl rfl rfl rfl hp6) (y_move_int rfl) ?_
    refine ox_y (sees_t rfl rfl rfl rfl hp6) (y_lss rfl rfl) ?_
    refine ox_y rfl (y_pick_fb (congrArg Value.bool hp6) rfl) ?_
    exact key _ _ (keep (keep rfl rfl) (congrArg Value.bool (or_f hp6)))
 ·clear h; rcases ite_some hb5 with ⟨hp3,h⟩ | ⟨hp3,h⟩
  ·refine ox_y (sees_t rfl rfl rfl rfl hp3) (y_move_int rfl) ?_
   obtain ⟨y7,hy8,h⟩:=bind_some h
   refine ox_y (sees_t rfl rfl rfl rfl hp3) (y_call [.int .i64 p1_y] go_107 rfl (fun W2 hW2 => cmp_isNaN_int_ok p1_y y7 hy8 W2 ) rfl) ?_
   refine ox_y (sees_t rfl rfl rfl rfl hp3) (y_not rfl) ?_
   refine ox_y rfl (y_pick_tb (congrArg Value.bool hp3) rfl) ?_
   obtain rfl:=Option.some.inj h
   exact key _ _ (keep (keep (keep (keep rfl rfl) rfl) rfl) rfl)
  ·refine ox_skip (sees_f rfl rfl rfl rfl hp3) ?_
   refine ox_skip (sees_f rfl rfl rfl rfl hp3) ?_
   refine ox_skip (sees_f rfl rfl rfl rfl hp3) ?_
   refine ox_y rfl (y_pick_fb (congrArg Value.bool hp3) rfl) ?_
   obtain rfl:=Option.some.inj h
   exact key _ _ (keep (keep (keep (keep rfl rfl) rfl) rfl) rfl)

end Go.Proofs.Ytbblpokfbmekfaa
/- The calls hand back what the plain functions say. -/
set_option linter.unusedVariables false
set_option maxHeartbeats 4000000
set_option maxRecDepth 100000
namespace Go.Proofs.Ytbblpokfbmekfaa
open Go.RowKit (Below)
attribute [local irreducible] OX QX CX EX OpY Calls CallsIn

theorem slices_insertionSortOrdered_int_ok (p0_data:(List Int)) (p1_a:Int) (p2_b:Int) (res:(List Int)) (h:slices_insertionSortOrdered_int p0_data p1_a p2_b = some res) (W:World) (w0:World) (R:Res) (A0_0:Option Addr) (n0_0 c0_0 : Nat) (hn0_0:n0_0 = p0_data.length) (hW:Ext w0 W [R,rowR A0_0 c0_0 3 1 n0_0 (encL cI p0_data)]) :
  Calls Try.prog 95 [.slice A0_0 n0_0 c0_0,.int .i64 p1_a,.int .i64 p2_b].toArray W fun e W2 => e = .returned (.tuple #[]) ∧ n0_0 = res.length ∧ Ext w0 W2 [R,rowR A0_0 c0_0 3 1 n0_0 (encL cI res)]:=by
 subst hn0_0
 unfold slices_insertionSortOrdered_int at h
 refine calls_enterB (m:=49) Try.func95 rfl rfl (Nat.le_of_ble_eq_true rfl) hW ?_
 refine cx_seq (cx_region ?_)
 refine ox_y rfl (y_move_int rfl) ?_
 refine ox_y rfl (y_add rfl rfl) ?_
 refine ox_y rfl (y_assign_int rfl) ?_
 refine ox_nil (ex_then (cx_block ?_))
 obtain ⟨u4,hl24,h⟩:=bind_some h
 refine cx_loop (fun (s:(Int × (List Int))) L tm => ∃ (tm0:Nat → Value),p0_data.length = s.2.length ∧ L = [R,rowR A0_0 c0_0 3 1 p0_data.length (encL cI s.2)] ∧ tm = (upd (upd (upd (upd tm0 0 (.slice A0_0 p0_data.length c0_0)) 1 (.int .i64 p1_a)) 2 (.int .i64 p2_b)) 6 (.int .i64 s.1))) (fun s e L tm => e = .exit 0 ∧ ∃ (tm0:Nat → Value),p0_data.length = s.2.length ∧ L = [R,rowR A0_0 c0_0 3 1 p0_data.length (encL cI s.2)] ∧ tm = (upd (upd (upd (upd tm0 0 (.slice A0_0 p0_data.length c0_0)) 1 (.int .i64 p1_a)) 2 (.int .i64 p2_b)) 6 (.int .i64 s.1))) hl24 ⟨_,rfl,rfl,(keep (keep (keep (keep rfl rfl) rfl) rfl) rfl)⟩ ?_ ?_
 ·rintro s3 L tm st ⟨tm0_s3,hn1_s3,rfl,rfl⟩ h
  unfold slices_insertionSortOrdered_int_l1 at h
  refine cx_seq (cx_seq (cx_region ?_))
  refine ox_y rfl (y_move_int rfl) ?_
  refine ox_y rfl (y_move_int rfl) ?_
  refine ox_y rfl (y_lss rfl rfl) ?_
  refine ox_nil (ex_then ?_)
  rcases ite_some h with ⟨hp5,h⟩ | ⟨hp5,h⟩
  ·refine cx_true (congrArg Value.bool hp5) ?_
   refine cx_skip (ex_then (cx_seq (cx_block (cx_seq (cx_region ?_)))))
   refine ox_y rfl (y_move_int rfl) ?_
   refine ox_y rfl (y_assign_int rfl) ?_
   refine ox_nil (ex_then (cx_block ?_))
   obtain ⟨u9,hl23,h⟩:=bind_some h
   refine cx_loop (fun (s:(Int × (List Int))) L tm => ∃ (tm0:Nat → Value),p0_data.length = s.2.length ∧ L = [R,rowR A0_0 c0_0 3 1 p0_data.length (encL cI s.2)] ∧ tm = (upd (upd (upd (upd (upd (upd tm0 0 (.slice A0_0 p0_data.length c0_0)) 1 (.int .i64 p1_a)) 2 (.int .i64 p2_b)) 6 (.int .i64 s3.1)) 12 (.bool (decide (s3.1 < p2_b)))) 7 (.int .i64 s.1))) (fun s e L tm => e = .exit 2 ∧ ∃ (tm0:Nat → Value),p0_data.length = s.2.length ∧ L = [R,rowR A0_0 c0_0 3 1 p0_data.length (encL cI s.2)] ∧ tm = (upd (upd (upd (upd (upd (upd tm0 0 (.slice A0_0 p0_data.length c0_0)) 1 (.int .i64 p1_a)) 2 (.int .i64 p2_b)) 6 (.int .i64 s3.1)) 12 (.bool (decide (s3.1 < p2_b)))) 7 (.int .i64 s.1))) hl23 ⟨_,hn1_s3,rfl,(keep (keep (keep (keep (keep (keep rfl rfl) rfl) rfl) rfl) rfl) rfl)⟩ ?_ ?_
   ·rintro s8 L tm st ⟨tm0_s8,hn1_s8,rfl,rfl⟩ h
    unfold slices_insertionSortOrdered_int_l2 at h
    refine cx_seq (cx_seq ?_)
    refine cx_draws 15 mixed (by kernel_rfl) (by kernel_rfl) ?_
    refine qx_y rfl (y_move_int rfl) ?_
    refine qx_y rfl (y_move_int rfl) ?_
    refine qx_y rfl (y_gtr rfl rfl) ?_
    refine qx_y rfl (y_move_bool rfl) ?_
    obtain ⟨b11,hb12,h⟩:=bind_some h
    refine qx_join 11 (fun tm0 => (upd (upd (upd (upd (upd (upd (upd tm0 0 (.slice A0_0 p0_data.length c0_0)) 1 (.int .i64 p1_a)) 2 (.int .i64 p2_b)) 6 (.int .i64 s3.1)) 12 (.bool (decide (s3.1 < p2_b)))) 7 (.int .i64 s8.1)) 30 (.bool b11))) (fun tm0 => ?_) (fun key => ?_)
    ·refine qx_nil ?_
     refine ox_nil (ex_then ?_)
     rcases ite_some h with ⟨hp13,h⟩ | ⟨hp13,h⟩
     ·refine cx_true (congrArg Value.bool hp13) ?_
      refine cx_skip (ex_then (cx_seq (cx_block ?_)))
      obtain ⟨hg15,h⟩:=guardO_some h
      obtain ⟨hg16,h⟩:=guardO_some h
      obtain ⟨hg17,h⟩:=guardO_some h
      obtain ⟨hg18,h⟩:=guardO_some h
      refine cx_drawsG [[],[],[],[],[3],[],[],[6],[5,6,7],[5,6,7,8],[],[],[10,11],[10,11,12],[0,1,5,6,7,8,9,10,11,12,13],[0,1,5,6,7,8,9,10,11,12,13,14],[0,1,2,3,4,5,6,7,8,9,10,11,12,13,14,15],[0,1,2,3,4,5,6,7,8,9,10,11,12,13,14,15,16]] [(none,0,[true,true]),(none,0,[true,true]),(none,0,[true,false]),(none,0,[true,false]),(none,0,[true,false]),(none,0,[true,true]),(none,0,[true,true]),(none,0,[true,true]),(none,0,[true,true]),(none,0,[true,true]),(none,0,[true,true]),(none,0,[true,true]),(none,0,[true,true]),(none,0,[true,true]),(none,0,[true,true]),(some 1,0,[true,true]),(none,0,[true,true]),(some 1,0,[true,true])] [⟨fun _ => .slice A0_0 p0_data.length c0_0,fun _ => noR,fun _ => []⟩,⟨fun _ => .int .i64 s8.1,fun _ => noR,fun _ => []⟩,⟨fun _ => .slice A0_0 p0_data.length c0_0,fun _ => noR,fun _ => []⟩,⟨fun _ => .int .i64 s8.1,fun _ => noR,fun _ => []⟩,⟨fun _ => .int .i64 (w64 (s8.1 - 1)),fun _ => noR,fun _ => []⟩,⟨fun _ => .slice A0_0 p0_data.length c0_0,fun _ => noR,fun _ => []⟩,⟨fun _ => .int .i64 s8.1,fun _ => noR,fun _ => []⟩,⟨fun _ => .int .i64 (w64 (s8.1 - 1)),fun _ => noR,fun _ => []⟩,⟨fun _ => slA A0_0 (Int.toNat (w64 (s8.1 - 1)) * 1),fun _ => noR,fun _ => []⟩,⟨fun _ => .int .i64 (rdL s8.2 (w64 (s8.1 - 1))),fun _ => noR,fun _ => []⟩,⟨fun _ => .slice A0_0 p0_data.length c0_0,fun _ => noR,fun _ => []⟩,⟨fun _ => .int .i64 s8.1,fun _ => noR,fun _ => []⟩,⟨fun _ => slA A0_0 (Int.toNat s8.1 * 1),fun _ => noR,fun _ => []⟩,⟨fun _ => .int .i64 (rdL s8.2 s8.1),fun _ => noR,fun _ => []⟩,⟨fun _ => slA A0_0 (Int.toNat s8.1 * 1),fun _ => noR,fun _ => []⟩,⟨fun _ => undef,fun _ => rowR A0_0 c0_0 3 1 p0_data.length (encL cI (s8.2.set (Int.toNat s8.1) (rdL s8.2 (w64 (s8.1 - 1))))),fun _ => []⟩,⟨fun _ => slA A0_0 (Int.toNat (w64 (s8.1 - 1)) * 1),fun _ => noR,fun _ => []⟩,⟨fun _ => undef,fun _ => rowR A0_0 c0_0 3 1 p0_data.length (encL cI ((s8.2.set (Int.toNat s8.1) (rdL s8.2 (w64 (s8.1 - 1)))).set (Int.toNat (w64 (s8.1 - 1))) (rdL s8.2 s8.1))),fun _ => []⟩] 2 mixed (by kernel_rfl) (by kernel_rfl) ⟨⟨fun ξ14 ξ14' h => ⟨rfl,rfl,rfl⟩,fun _ => rfl⟩,⟨fun ξ14 ξ14' h => ⟨rfl,rfl,rfl⟩,fun _ => rfl⟩,⟨fun ξ14 ξ14' h => ⟨rfl,rfl,rfl⟩,fun _ => rfl⟩,⟨fun ξ14 ξ14' h => ⟨rfl,rfl,rfl⟩,fun _ => rfl⟩,⟨fun ξ14 ξ14' h => ⟨rfl,rfl,rfl⟩,fun _ => rfl⟩,⟨fun ξ14 ξ14' h => ⟨rfl,rfl,rfl⟩,fun _ => rfl⟩,⟨fun ξ14 ξ14' h => ⟨rfl,rfl,rfl⟩,fun _ => rfl⟩,⟨fun ξ14 ξ14' h => ⟨rfl,rfl,rfl⟩,fun _ => rfl⟩,⟨fun ξ14 ξ14' h => ⟨rfl,rfl,rfl⟩,fun _ => rfl⟩,⟨fun ξ14 ξ14' h => ⟨rfl,rfl,rfl⟩,fun _ => rfl⟩,⟨fun ξ14 ξ14' h => ⟨rfl,rfl,rfl⟩,fun _ => rfl⟩,⟨fun ξ14 ξ14' h => ⟨rfl,rfl,rfl⟩,fun _ => rfl⟩,⟨fun ξ14 ξ14' h => ⟨rfl,rfl,rfl⟩,fun _ => rfl⟩,⟨fun ξ14 ξ14' h => ⟨rfl,rfl,rfl⟩,fun _ => rfl⟩,⟨fun ξ14 ξ14' h => ⟨rfl,rfl,rfl⟩,fun _ => rfl⟩,⟨fun ξ14 ξ14' h => ⟨rfl,rfl,rfl⟩,fun _ => rfl⟩,⟨fun ξ14 ξ14' h => ⟨rfl,rfl,rfl⟩,fun _ => rfl⟩,⟨fun ξ14 ξ14' h => ⟨rfl,rfl,rfl⟩,fun _ => rfl⟩,trivial⟩ rfl (fun ξ14 => ?_)
      refine gx_o rfl (fun L2 => ?_) ?_
      ·dsimp only [maskL,lca,lna]
       refine ox_y rfl (y_move_slice rfl) ?_
       refine ox_nil ?_
       exact ex_capG (fun _ => (none,0,0)) rfl (List.append_nil _)
      dsimp only [aftL,lsz,lss,lna,lca,List.append_nil]
      refine gx_o rfl (fun L2 => ?_) ?_
      ·dsimp only [maskL,lca,lna]
       refine ox_y rfl (y_move_int rfl) ?_
       refine ox_nil ?_
       exact ex_capG (fun _ => (none,0,0)) rfl (List.append_nil _)
      dsimp only [aftL,lsz,lss,lna,lca,List.append_nil]
      refine gx_o rfl (fun L2 => ?_) ?_
      ·dsimp only [maskL,lca,lna]
       refine ox_y rfl (y_move_slice rfl) ?_
       refine ox_nil ?_
       exact ex_capG (fun _ => (none,0,0)) rfl (List.append_nil _)
      dsimp only [aftL,lsz,lss,lna,lca,List.append_nil]
      refine gx_o rfl (fun L2 => ?_) ?_
      ·dsimp only [maskL,lca,lna]
       refine ox_y rfl (y_move_int rfl) ?_
       refine ox_nil ?_
       exact ex_capG (fun _ => (none,0,0)) rfl (List.append_nil _)
      dsimp only [aftL,lsz,lss,lna,lca,List.append_nil]
      refine gx_o rfl (fun L2 => ?_) ?_
      ·dsimp only [maskL,lca,lna]
       refine ox_y rfl (y_sub rfl rfl) ?_
       refine ox_nil ?_
       exact ex_capG (fun _ => (none,0,0)) rfl (List.append_nil _)
      dsimp only [aftL,lsz,lss,lna,lca,List.append_nil]
      refine gx_o rfl (fun L2 => ?_) ?_
      ·dsimp only [maskL,lca,lna]
       refine ox_y rfl (y_move_slice rfl) ?_
       refine ox_nil ?_
       exact ex_capG (fun _ => (none,0,0)) rfl (List.append_nil _)
      dsimp only [aftL,lsz,lss,lna,lca,List.append_nil]
      refine gx_o rfl (fun L2 => ?_) ?_
      ·dsimp only [maskL,lca,lna]
       refine ox_y rfl (y_move_int rfl) ?_
       refine ox_nil ?_
       exact ex_capG (fun _ => (none,0,0)) rfl (List.append_nil _)
      dsimp only [aftL,lsz,lss,lna,lca,List.append_nil]
      refine gx_o rfl (fun L2 => ?_) ?_
      ·dsimp only [maskL,lca,lna]
       refine ox_y rfl (y_sub rfl rfl) ?_
       refine ox_nil ?_
       exact ex_capG (fun _ => (none,0,0)) rfl (List.append_nil _)
      dsimp only [aftL,lsz,lss,lna,lca,List.append_nil]
      refine gx_o rfl (fun L2 => ?_) ?_
      ·dsimp only [maskL,lca,lna]
       refine ox_y rfl (y_indexR sl_32 (by decide) hg15.1 hg15.2 (RdL.row 1 rfl) (encL_len cI_len hn1_s8) rfl rfl) ?_
       refine ox_nil ?_
       exact ex_capG (fun _ => (none,0,0)) rfl (List.append_nil _)
      dsimp only [aftL,lsz,lss,lna,lca,List.append_nil]
      refine gx_o rfl (fun L2 => ?_) ?_
      ·dsimp only [maskL,lca,lna]
       refine ox_y rfl (y_loadR1 (A:=A0_0) (j:=(Int.toNat (w64 (s8.1 - 1)) * 1)) (v:=.int .i64 (rdL s8.2 (w64 (s8.1 - 1)))) sc_3 (RdL.row 1 rfl) rfl (encL_get0 cI_len hg15.1 (lt_nat hg15.2 hn1_s8) rfl)) ?_
       refine ox_nil ?_
       exact ex_capG (fun _ => (none,0,0)) rfl (List.append_nil _)
      dsimp only [aftL,lsz,lss,lna,lca,List.append_nil]
      refine gx_o rfl (fun L2 => ?_) ?_
      ·dsimp only [maskL,lca,lna]
       refine ox_y rfl (y_move_slice rfl) ?_
       refine ox_nil ?_
       exact ex_capG (fun _ => (none,0,0)) rfl (List.append_nil _)
      dsimp only [aftL,lsz,lss,lna,lca,List.append_nil]
      refine gx_o rfl (fun L2 => ?_) ?_
      ·dsimp only [maskL,lca,lna]
       refine ox_y rfl (y_move_int rfl) ?_
       refine ox_nil ?_
       exact ex_capG (fun _ => (none,0,0)) rfl (List.append_nil _)
      dsimp only [aftL,lsz,lss,lna,lca,List.append_nil]
      refine gx_o rfl (fun L2 => ?_) ?_
      ·dsimp only [maskL,lca,lna]
       refine ox_y rfl (y_indexR sl_32 (by decide) hg16.1 hg16.2 (RdL.row 1 rfl) (encL_len cI_len hn1_s8) rfl rfl) ?_
       refine ox_nil ?_
       exact ex_capG (fun _ => (none,0,0)) rfl (List.append_nil _)
      dsimp only [aftL,lsz,lss,lna,lca,List.append_nil]
      refine gx_o rfl (fun L2 => ?_) ?_
      ·dsimp only [maskL,lca,lna]
       refine ox_y rfl (y_loadR1 (A:=A0_0) (j:=(Int.toNat s8.1 * 1)) (v:=.int .i64 (rdL s8.2 s8.1)) sc_3 (RdL.row 1 rfl) rfl (encL_get0 cI_len hg16.1 (lt_nat hg16.2 hn1_s8) rfl)) ?_
       refine ox_nil ?_
       exact ex_capG (fun _ => (none,0,0)) rfl (List.append_nil _)
      dsimp only [aftL,lsz,lss,lna,lca,List.append_nil]
      refine gx_o rfl (fun L2 => ?_) ?_
      ·dsimp only [maskL,lca,lna]
       refine ox_y rfl (y_indexR sl_32 (by decide) hg17.1 hg17.2 (RdL.row 1 rfl) (encL_len cI_len hn1_s8) rfl rfl) ?_
       refine ox_nil ?_
       exact ex_capG (fun _ => (none,0,0)) rfl (List.append_nil _)
      dsimp only [aftL,lsz,lss,lna,lca,List.append_nil]
      refine gx_n rfl (fun L2 => ?_) ?_
      ·dsimp only [maskL,lca,lna]
       refine ox_n rfl (y_storeR1 1 (xs:=s8.2) cI_len (rdL s8.2 (w64 (s8.1 - 1))) sz_3 rfl hg17.1 (lt_nat hg17.2 hn1_s8) rfl rfl rfl rfl) ?_
       refine ox_nil ?_
       exact ex_capGn (fun _ => (none,0,0)) (List.append_nil _)
      dsimp only [aftL,lsz,lss,lna,lca,List.append_nil]
      refine gx_o rfl (fun L2 => ?_) ?_
      ·dsimp only [maskL,lca,lna]
       refine ox_y rfl (y_indexR sl_32 (by decide) hg18.1 hg18.2 (RdL.row 1 rfl) (encL_len cI_len (hn_set hn1_s8)) rfl rfl) ?_
       refine ox_nil ?_
       exact ex_capG (fun _ => (none,0,0)) rfl (List.append_nil _)
      dsimp only [aftL,lsz,lss,lna,lca,List.append_nil]
      refine gx_n rfl (fun L2 => ?_) ?_
      ·dsimp only [maskL,lca,lna]
       refine ox_n rfl (y_storeR1 1 (xs:=(s8.2.set (Int.toNat s8.1) (rdL s8.2 (w64 (s8.1 - 1))))) cI_len (rdL s8.2 s8.1) sz_3 rfl hg18.1 (lt_nat hg18.2 (hn_set hn1_s8)) rfl rfl rfl rfl) ?_
       refine ox_nil ?_
       exact ex_capGn (fun _ => (none,0,0)) (List.append_nil _)
      dsimp only [aftL,lsz,lss,lna,lca,List.append_nil]
      refine gx_nil ?_
      refine ex_block ?_
      refine ex_then (cx_region ?_)
      refine ox_y rfl (y_move_int rfl) ?_
      refine ox_y rfl (y_sub rfl rfl) ?_
      refine ox_y rfl (y_assign_int rfl) ?_
      refine ox_nil ?_
      obtain rfl:=Option.some.inj h
      exact ex_next ⟨_,(hn_set (hn_set hn1_s8)),rfl,(keep (keep (keep (keep (keep (keep rfl rfl) rfl) rfl) rfl) rfl) rfl)⟩
     ·refine cx_false (congrArg Value.bool hp13) ?_
      refine cx_exit ?_
      refine ex_then_exit ?_
      obtain rfl:=Option.some.inj h
      exact ex_stop ⟨rfl,_,hn1_s8,rfl,(keep (keep (keep (keep (keep (keep rfl rfl) rfl) rfl) rfl) rfl) rfl)⟩
    ·clear h; rcases ite_some hb12 with ⟨hp10,h⟩ | ⟨hp10,h⟩
     ·refine qx_y (sees_t rfl rfl rfl rfl hp10) (y_move_slice rfl) ?_
      refine qx_y (sees_t rfl rfl rfl rfl hp10) (y_move_int rfl) ?_
      obtain ⟨hg19,h⟩:=guardO_some h
      refine qx_y (sees_t rfl rfl rfl rfl hp10) (y_indexR sl_32 (by decide) hg19.1 hg19.2 (RdL.row 1 rfl) (encL_len cI_len hn1_s8) rfl rfl) ?_
      refine qx_y (sees_t rfl rfl rfl rfl hp10) (y_loadR1 (A:=A0_0) (j:=(Int.toNat s8.1 * 1)) (v:=.int .i64 (rdL s8.2 s8.1)) sc_3 (RdL.row 1 rfl) rfl (encL_get0 cI_len hg19.1 (lt_nat hg19.2 hn1_s8) rfl)) ?_
      refine qx_y (sees_t rfl rfl rfl rfl hp10) (y_move_slice rfl) ?_
      refine qx_y (sees_t rfl rfl rfl rfl hp10) (y_move_int rfl) ?_
      refine qx_y (sees_t rfl rfl rfl rfl hp10) (y_sub rfl rfl) ?_
      obtain ⟨hg20,h⟩:=guardO_some h
      refine qx_y (sees_t rfl rfl rfl rfl hp10) (y_indexR sl_32 (by decide) hg20.1 hg20.2 (RdL.row 1 rfl) (encL_len cI_len hn1_s8) rfl rfl) ?_
      refine qx_y (sees_t rfl rfl rfl rfl hp10) (y_loadR1 (A:=A0_0) (j:=(Int.toNat (w64 (s8.1 - 1)) * 1)) (v:=.int .i64 (rdL s8.2 (w64 (s8.1 - 1)))) sc_3 (RdL.row 1 rfl) rfl (encL_get0 cI_len hg20.1 (lt_nat hg20.2 hn1_s8) rfl)) ?_
      obtain ⟨y21,hy22,h⟩:=bind_some h
      refine qx_y (sees_t rfl rfl rfl rfl hp10) (y_call [.int .i64 (rdL s8.2 s8.1),.int .i64 (rdL s8.2 (w64 (s8.1 - 1)))] go_101 rfl (fun W2 hW2 => cmp_Less_int_ok (rdL s8.2 s8.1) (rdL s8.2 (w64 (s8.1 - 1))) y21 hy22 W2 ) rfl) ?_
      refine qx_y rfl (y_pick_tb (congrArg Value.bool hp10) rfl) ?_
      obtain rfl:=Option.some.inj h
      exact key _ _ (keep (keep (keep (keep (keep (keep (keep rfl rfl) rfl) rfl) rfl) rfl) rfl) rfl)
     ·refine qx_skip (sees_f rfl rfl rfl rfl hp10) ?_
      refine qx_skip (sees_f rfl rfl rfl rfl hp10) ?_
      refine qx_skip (sees_f rfl rfl rfl rfl hp10) ?_
      refine qx_skip (sees_f rfl rfl rfl rfl hp10) ?_
      refine qx_skip (sees_f rfl rfl rfl rfl hp10) ?_
      refine qx_skip (sees_f rfl rfl rfl rfl hp10) ?_
      refine qx_skip (sees_f rfl rfl rfl rfl hp10) ?_
      refine qx_skip (sees_f rfl rfl rfl rfl hp10) ?_
      refine qx_skip (sees_f rfl rfl rfl rfl hp10) ?_
      refine qx_skip (sees_f rfl rfl rfl rfl hp10) ?_
      refine qx_y rfl (y_pick_fb (congrArg Value.bool hp10) rfl) ?_
      obtain rfl:=Option.some.inj h
      exact key _ _ (keep (keep (keep (keep (keep (keep (keep rfl rfl) rfl) rfl) rfl) rfl) rfl) rfl)
   ·intro e L tm hJ
    obtain ⟨rfl,tm0_u9,hn1_u9,rfl,rfl⟩:=hJ
    refine ⟨(by intro hc; cases hc),?_⟩
    refine ex_block_here ?_
    refine ex_block ?_
    refine ex_then (cx_region ?_)
    refine ox_y rfl (y_move_int rfl) ?_
    refine ox_y rfl (y_add rfl rfl) ?_
    refine ox_y rfl (y_assign_int rfl) ?_
    refine ox_nil ?_
    obtain rfl:=Option.some.inj h
    exact ex_next ⟨_,hn1_u9,rfl,(keep (keep (keep (keep rfl rfl) rfl) rfl) rfl)⟩
  ·refine cx_false (congrArg Value.bool hp5) ?_
   refine cx_exit ?_
   refine ex_then_exit ?_
   obtain rfl:=Option.some.inj h
   exact ex_stop ⟨rfl,_,hn1_s3,rfl,(keep (keep (keep (keep rfl rfl) rfl) rfl) rfl)⟩
 ·intro e L tm hJ
  obtain ⟨rfl,tm0_u4,hn1_u4,rfl,rfl⟩:=hJ
  refine ⟨(by intro hc; cases hc),?_⟩
  refine ex_block_here ?_
  obtain rfl:=Option.some.inj h
  exact ex_result0 (.inr rfl) rfl  (fun W2 hW2 => ⟨rfl,hn1_u4,hW2.take 2⟩)

theorem lenv_cases {x : Int} (h:0 ≤ x ∧ x < 16) : x = 0 ∨ x = 1 ∨ x = 2 ∨ x = 3 ∨ x = 4 ∨ x = 5 ∨ x = 6 ∨ x = 7 ∨ x = 8 ∨ x = 9 ∨ x = 10 ∨ x = 11 ∨ x = 12 ∨ x = 13 ∨ x = 14 ∨ x = 15:=by omega
theorem math_bits_Len64_ok (p0_x:Int) (res:Int) (h:math_bits_Len64 p0_x = some res) (W:World) :
  Calls Try.prog 105 [.int .u64 p0_x].toArray W fun e W2 => e = .returned (.int .i64 res) ∧ Ext W W2 []:=by
 unfold math_bits_Len64 at h
 obtain ⟨hg,h⟩:=guardO_some h
 refine calls_enter (m:=25) Try.func105 rfl rfl (Nat.le_of_ble_eq_true rfl) ?_
 have h1 : decide ((4294967296:Int) ≤ p0_x) = false:=decide_eq_false (by omega)
 have h2 : decide ((65536:Int) ≤ p0_x) = false:=decide_eq_false (by omega)
 have h3 : decide ((256:Int) ≤ p0_x) = false:=decide_eq_false (by omega)
 refine cx_seq (cx_region ?_)
 refine ox_y rfl (y_assign_int rfl) ?_
 refine ox_nil (ex_then (cx_seq (cx_seq (cx_region ?_))))
 refine ox_y rfl (y_move_int rfl) ?_
 refine ox_y rfl (y_geq rfl rfl) ?_
 refine ox_nil (ex_then ?_)
 refine cx_false (congrArg Value.bool h1) ?_
 refine cx_skip (ex_then (cx_seq (cx_seq (cx_region ?_))))
 refine ox_y rfl (y_move_int rfl) ?_
 refine ox_y rfl (y_geq rfl rfl) ?_
 refine ox_nil (ex_then ?_)
 refine cx_false (congrArg Value.bool h2) ?_
 refine cx_skip (ex_then (cx_seq (cx_seq (cx_region ?_))))
 refine ox_y rfl (y_move_int rfl) ?_
 refine ox_y rfl (y_geq rfl rfl) ?_
 refine ox_nil (ex_then ?_)
 refine cx_false (congrArg Value.bool h3) ?_
 refine cx_skip (ex_then (cx_seq (cx_region ?_)))
 refine ox_y rfl (y_move_int rfl) ?_
 refine ox_y rfl (y_move_int rfl) ?_
 refine ox_y rfl (y_convQ (a':=p0_x) (q':=.u8) ui_133 ui_5 (by rcases lenv_cases hg with rfl | rfl | rfl | rfl | rfl | rfl | rfl | rfl | rfl | rfl | rfl | rfl | rfl | rfl | rfl | rfl <;> decide) rfl) ?_
 refine ox_y rfl (y_indexStr (b:=UInt8.ofNat (lenv p0_x).toNat) us_s9 hg.1 (by rcases lenv_cases hg with rfl | rfl | rfl | rfl | rfl | rfl | rfl | rfl | rfl | rfl | rfl | rfl | rfl | rfl | rfl | rfl <;> rfl) rfl rfl) ?_
 refine ox_y rfl (y_convQ (a':=lenv p0_x) (q':=.i64) ui_5 ui_3 (by rcases lenv_cases hg with rfl | rfl | rfl | rfl | rfl | rfl | rfl | rfl | rfl | rfl | rfl | rfl | rfl | rfl | rfl | rfl <;> decide) rfl) ?_
 refine ox_y rfl (y_add rfl rfl) ?_
 refine ox_y rfl (y_assign_int rfl) ?_
 refine ox_nil (ex_then (cx_ret ?_))
 obtain rfl:=Option.some.inj h
 exact ex_res1 (.inl rfl) rfl (resV_tmp (v:=.int .i64 (w64 (0 + lenv p0_x))) rfl) (fun W2 hW2 => ⟨rfl,hW2.none⟩)

theorem math_bits_Len_ok (p0_x:Int) (res:Int) (h:math_bits_Len p0_x = some res) (W:World)  :
  Calls Try.prog 88 [.int .u64 p0_x].toArray W fun e W2 => e = .returned (.int .i64 res) ∧ Ext W W2 []:=by
 unfold math_bits_Len at h
 refine calls_enter (m:=8) Try.func88 rfl rfl (Nat.le_of_ble_eq_true rfl) ?_
 refine cx_seq (cx_region ?_)
 refine ox_y rfl (y_assign_int rfl) ?_
 refine ox_nil (ex_then (cx_seq ?_))
 refine cx_false rfl ?_
 refine cx_skip (ex_then (cx_seq (cx_region ?_)))
 refine ox_y rfl (y_move_int rfl) ?_
 obtain ⟨y1,hy2,h⟩:=bind_some h
 refine ox_y rfl (y_call [.int .u64 p0_x] go_105 rfl (fun W2 hW2 => math_bits_Len64_ok p0_x y1 hy2 W2 ) rfl) ?_
 refine ox_y rfl (y_assign_int rfl) ?_
 refine ox_nil (ex_then (cx_ret ?_))
 obtain rfl:=Option.some.inj h
 exact ex_res1 (.inl rfl) rfl (resV_tmp (v:=.int .i64 y1) rfl) (fun W2 hW2 => ⟨rfl,hW2.none⟩)

theorem slices_pdqsortOrdered_int_ok (p0:(List Int)) (p1:Int) (p2:Int) (p3:Int) (res:(List Int)) (h:slices_pdqsortOrdered_int p0 p1 p2 p3 = some res) (W:World) (w0:World) (R:Res) (A0_0:Option Addr) (n0_0 c0_0 : Nat) (hn0_0:n0_0 = p0.length) (hW:Ext w0 W [R,rowR A0_0 c0_0 3 1 n0_0 (encL cI p0)]) :
  Calls Try.prog 87 [.slice A0_0 n0_0 c0_0,.int .i64 p1,.int .i64 p2,.int .i64 p3].toArray W fun e W2 => e = .returned (.tuple #[]) ∧ n0_0 = res.length ∧ Ext w0 W2 [R,rowR A0_0 c0_0 3 1 n0_0 (encL cI res)]:=by
 subst hn0_0
 unfold slices_pdqsortOrdered_int at h
 refine calls_enterB (m:=134) Try.func87 rfl rfl (Nat.le_of_ble_eq_true rfl) hW ?_
 refine cx_seq (cx_region ?_)
 refine ox_y rfl (y_assign_bool rfl) ?_
 refine ox_nil (ex_then (cx_seq (cx_region ?_)))
 refine ox_y rfl (y_assign_bool rfl) ?_
 refine ox_nil (ex_then (cx_block ?_))
 obtain ⟨u4,hl9,h⟩:=bind_some h
 refine cx_loop (fun (s:(Int × Int × Int × Bool × Bool × (List Int))) L tm => ∃ (tm0:Nat → Value),p0.length = s.2.2.2.2.2.length ∧ L = [R,rowR A0_0 c0_0 3 1 p0.length (encL cI s.2.2.2.2.2)] ∧ tm = (upd (upd (upd (upd (upd (upd tm0 0 (.slice A0_0 p0.length c0_0)) 1 (.int .i64 s.1)) 2 (.int .i64 s.2.1)) 3 (.int .i64 s.2.2.1)) 8 (.bool s.2.2.2.1)) 9 (.bool s.2.2.2.2.1))) (fun s e L tm => e = .ret ∧ ∃ (tm0:Nat → Value),p0.length = s.2.2.2.2.2.length ∧ L = [R,rowR A0_0 c0_0 3 1 p0.length (encL cI s.2.2.2.2.2)] ∧ tm = (upd (upd (upd (upd (upd (upd tm0 0 (.slice A0_0 p0.length c0_0)) 1 (.int .i64 s.1)) 2 (.int .i64 s.2.1)) 3 (.int .i64 s.2.2.1)) 8 (.bool s.2.2.2.1)) 9 (.bool s.2.2.2.2.1))) hl9 ⟨_,rfl,rfl,(keep (keep (keep (keep (keep (keep rfl rfl) rfl) rfl) rfl) rfl) rfl)⟩ ?_ ?_
 ·rintro s3 L tm st ⟨tm0_s3,hn1_s3,rfl,rfl⟩ h
  unfold slices_pdqsortOrdered_int_l1 at h
  refine cx_block (cx_seq (cx_region ?_))
  refine ox_y rfl (y_move_int rfl) ?_
  refine ox_y rfl (y_move_int rfl) ?_
  refine ox_y rfl (y_sub rfl rfl) ?_
  refine ox_y rfl (y_assign_int rfl) ?_
  refine ox_nil (ex_then (cx_seq (cx_seq (cx_region ?_))))
  refine ox_y rfl (y_move_int rfl) ?_
  refine ox_y rfl (y_leq rfl rfl) ?_
  refine ox_nil (ex_then ?_)
  obtain ⟨hp5,h⟩:=guardO_some h
  refine cx_true (congrArg Value.bool hp5) ?_
  refine cx_seq (cx_region ?_)
  refine ox_y rfl (y_move_slice rfl) ?_
  refine ox_y rfl (y_move_int rfl) ?_
  refine ox_y rfl (y_move_int rfl) ?_
  obtain ⟨y6,hy7,h⟩:=bind_some h
  refine ox_callT 1 [.slice A0_0 p0.length c0_0,.int .i64 s3.1,.int .i64 s3.2.1] (fun (_:Unit) => p0.length = y6.length) (fun _ => .tuple #[]) (fun _ => rowR A0_0 c0_0 3 1 p0.length (encL cI y6)) (fun _ => []) rfl rfl go_95 rfl (fun W2 hW2 => (slices_insertionSortOrdered_int_ok s3.2.2.2.2.2 s3.1 s3.2.1 y6 hy7 W2 _ (restR [R,rowR A0_0 c0_0 3 1 p0.length (encL cI s3.2.2.2.2.2)] [1]) A0_0 p0.length c0_0 (hn1_s3) hW2).mono (fun e W3 h3 => ⟨(),h3.2.1,h3.1,h3.2.2⟩)) ?_
  rintro - hn8
  try dsimp only [lsz,lss,List.append_nil]
  refine ox_nil (ex_then (cx_ret (ex_then_ret (ex_block_ret ?_))))
  obtain rfl:=Option.some.inj h
  exact ex_stop ⟨rfl,_,hn8,rfl,(keep (keep (keep (keep (keep (keep rfl rfl) rfl) rfl) rfl) rfl) rfl)⟩
 ·intro e L tm hJ
  obtain ⟨rfl,tm0_u4,hn1_u4,rfl,rfl⟩:=hJ
  refine ⟨(by intro hc; cases hc),?_⟩
  refine ex_block_ret ?_
  obtain rfl:=Option.some.inj h
  exact ex_result0 (.inl rfl) rfl  (fun W2 hW2 => ⟨rfl,hn1_u4,hW2.take 2⟩)

theorem insO_l2 {n : Nat} {data0 : List Int} (h0:data0.length = n) (hn:n < 1000000) (x:Int) :
  ∀ (k:Nat) (A1 T : List Int),A1.length = k → A1.length + 1 + T.length = n → ∃ B1 B2 : List Int,A1 = B1 ++ B2 ∧ loopO (slices_insertionSortOrdered_int_l2 data0 0) ((A1.length:Int),A1 ++ x :: T) = some ((B1.length:Int),B1 ++ x :: (B2 ++ T)) ∧ (∀ y ∈ B2,x < y) ∧ (∀ y,B1.getLast? = some y → ¬ x < y):=by
 intro k
 induction k with
 | zero =>
  intro A1 T hk hl
  have : A1 = []:=List.eq_nil_of_length_eq_zero hk
  subst this
  refine ⟨[],[],rfl,?_,by simp,by simp⟩
  refine loopO_stop ?_
  unfold slices_insertionSortOrdered_int_l2; dsimp only
  rfl
 | succ k ih =>
  intro A1 T hk hl
  obtain ⟨A,y,rfl⟩ : ∃ A y,A1 = A ++ [y]:=⟨A1.dropLast,A1.getLast (by intro h; rw [h] at hk; cases hk),(List.dropLast_concat_getLast _).symm⟩
  have hA : A.length = k:=by simpa using hk
  simp only [List.length_append,List.length_cons,List.length_nil] at hl
  have e1 : A ++ [y] ++ x :: T = A ++ y :: x :: T:=by simp
  have hi : (((A ++ [y]).length : Nat) : Int) = (A.length:Int) + 1:=by simp
  have hj1 : w64 ((((A ++ [y]).length : Nat) : Int) - 1) = (A.length:Int):=by rw [w64_id (by simp only [List.length_append,List.length_cons,List.length_nil]; omega) (by simp only [List.length_append,List.length_cons,List.length_nil]; omega)]; simp
  have r1 : rdL (A ++ [y] ++ x :: T) (((A ++ [y]).length : Nat) : Int) = x:=rdL_midI _ _ _ _ rfl
  have r2 : rdL (A ++ [y] ++ x :: T) (A.length:Int) = y:=by rw [e1]; exact rdL_midI _ _ _ _ rfl
  have g1 : (0:Int) ≤ (((A ++ [y]).length : Nat) : Int) ∧ (((A ++ [y]).length : Nat) : Int) < (data0.length:Int):=by rw [h0]; simp only [List.length_append,List.length_cons,List.length_nil]; omega
  have g2 : (0:Int) ≤ (A.length:Int) ∧ (A.length:Int) < (data0.length:Int):=by rw [h0]; omega
  have hd : decide ((0:Int) < (((A ++ [y]).length : Nat) : Int)) = true:=decide_eq_true (by rw [hi]; omega)
  have hless : cmp_Less_int x y = some (decide (x < y)):=by
   unfold cmp_Less_int cmp_isNaN_int
   simp
  have step : slices_insertionSortOrdered_int_l2 data0 0 ((((A ++ [y]).length : Nat) : Int),A ++ [y] ++ x :: T) = if x < y then some (.inl ((A.length:Int),A ++ x :: ([y] ++ T))) else some (.inr ((((A ++ [y]).length : Nat) : Int),A ++ [y] ++ x :: T)):=by
   unfold slices_insertionSortOrdered_int_l2; dsimp only
   simp only [hj1,r1,r2,hd,if_true,guardO_pos g1,guardO_pos g2,hless,Option.bind_some,decide_eq_true_eq]
   by_cases hlt : x < y
   ·rw [if_pos hlt,if_pos hlt]
    refine congrArg some (congrArg Sum.inl (Prod.ext rfl ?_))
    show ((A ++ [y] ++ x :: T).set (Int.toNat (((A ++ [y]).length : Nat) : Int)) y).set (Int.toNat (A.length:Int)) x = _
    rw [Int.toNat_natCast,Int.toNat_natCast,set_midI (A ++ [y]) x y T _ rfl]
    have e3 : A ++ [y] ++ y :: T = A ++ y :: (y :: T):=by simp
    rw [e3,set_midI A y x (y :: T) _ rfl]
    simp
   ·rw [if_neg hlt,if_neg hlt]
  by_cases hlt : x < y
  ·rw [if_pos hlt] at step
   obtain ⟨B1,B2,hB,hr,h2,h3⟩:=ih A ([y] ++ T) hA (by simp; omega)
   refine ⟨B1,B2 ++ [y],by rw [hB,List.append_assoc],?_,?_,h3⟩
   ·rw [loopO_next step,hr]
    simp
   ·intro z hz
    rcases List.mem_append.1 hz with hz | hz
    ·exact h2 z hz
    ·rw [List.mem_singleton.1 hz]; exact hlt
  ·rw [if_neg hlt] at step
   refine ⟨A ++ [y],[],by simp,?_,by simp,?_⟩
   ·rw [loopO_stop step]; simp
   ·intro z hz
    simp at hz
    rw [← hz]
    exact hlt
theorem insO_all {l : List Int} (hl:l.length < 1000000) : slices_insertionSortOrdered_int l 0 (l.length:Int) = some (srtI l):=by
 unfold slices_insertionSortOrdered_int
 have e1 : w64 (0 + 1) = 1:=rfl
 rw [e1]
 have main : ∀ (R A : List Int),(A ++ R).Perm l → SortedI A → ∃ s,loopO (slices_insertionSortOrdered_int_l1 l 0 (l.length:Int)) ((A.length:Int),A ++ R) = some ((l.length:Int),s) ∧ s.Perm l ∧ SortedI s:=by
  intro R
  induction R with
  | nil =>
   intro A hp hs
   have hlen : A.length = l.length:=by have:=hp.length_eq; simpa using this
   refine ⟨A,?_,by simpa using hp,hs⟩
   rw [List.append_nil,hlen]
   refine loopO_stop ?_
   unfold slices_insertionSortOrdered_int_l1; dsimp only
   rw [show decide ((l.length:Int) < (l.length:Int)) = false from decide_eq_false (by omega)]
   rfl
  | cons x T ih =>
   intro A hp hs
   have hlen : A.length + (T.length + 1) = l.length:=by have:=hp.length_eq; simpa using this
   obtain ⟨B1,B2,hB,hr,h2,h3⟩:=insO_l2 (data0:=l) rfl hl x A.length A T rfl (by omega)
   have hstep : slices_insertionSortOrdered_int_l1 l 0 (l.length:Int) ((A.length:Int),A ++ x :: T) = some (.inl (((B1 ++ x :: B2).length : Int),(B1 ++ x :: B2) ++ T)):=by
    unfold slices_insertionSortOrdered_int_l1; dsimp only
    rw [show decide ((A.length:Int) < (l.length:Int)) = true from decide_eq_true (by omega)]
    rw [if_pos rfl,hr,Option.bind_some]
    have hw : w64 ((A.length:Int) + 1) = (A.length:Int) + 1:=w64_id (by omega) (by omega)
    simp only [hw]
    refine congrArg some (congrArg Sum.inl (Prod.ext ?_ ?_))
    ·simp [hB]; omega
    ·simp
   have hs' : SortedI (B1 ++ x :: B2):=by
    unfold SortedI at hs ⊢
    rw [hB,List.pairwise_append] at hs
    obtain ⟨s1,s2,s3⟩:=hs
    have hle : ∀ y ∈ B1,y ≤ x:=by
     intro y hy
     rcases List.eq_nil_or_concat B1 with rfl | ⟨B,z,rfl⟩
     ·cases hy
     ·have hz:=h3 z (by simp)
      rw [List.concat_eq_append] at hy s1
      rcases List.mem_append.1 hy with hy | hy
      ·rw [List.pairwise_append] at s1
       have:=s1.2.2 y hy z (by simp); omega
      ·rw [List.mem_singleton.1 hy]; omega
    rw [List.pairwise_append]
    refine ⟨s1,List.pairwise_cons.2 ⟨fun y hy => by have:=h2 y hy; omega,s2⟩,fun a ha b hb => ?_⟩
    rcases List.mem_cons.1 hb with rfl | hb
    ·exact hle a ha
    ·exact s3 a ha b hb
   have hp' : ((B1 ++ x :: B2) ++ T).Perm l:=by
    refine List.Perm.trans ?_ hp
    rw [hB]
    simp only [List.append_assoc,lca]
    exact List.Perm.append_left B1 (List.perm_middle).symm
   obtain ⟨s,h4,h5,h6⟩:=ih (B1 ++ x :: B2) hp' hs'
   exact ⟨s,by rw [loopO_next hstep]; exact h4,h5,h6⟩
 rcases l with _ | ⟨x,T⟩
 ·have : loopO (slices_insertionSortOrdered_int_l1 [] 0 (([]:List Int).length : Int)) (1,[]) = some (1,[]):=by
   refine loopO_stop ?_
   unfold slices_insertionSortOrdered_int_l1
   rfl
  rw [this]
  rfl
 ·obtain ⟨s,h1,h2,h3⟩:=main T [x] (by simp) (by simp [SortedI])
  have h1' : loopO (slices_insertionSortOrdered_int_l1 (x :: T) 0 ((x :: T).length : Int)) (1,x :: T) = some (((x :: T).length : Int),s):=h1
  rw [h1',Option.bind_some,srtI_eq h2 h3]
theorem pdqO_all {l : List Int} (hl:l.length ≤ 12) (v:Int) : slices_pdqsortOrdered_int l 0 (l.length:Int) v = some (srtI l):=by
 unfold slices_pdqsortOrdered_int
 have hstep : slices_pdqsortOrdered_int_l1 (0,(l.length:Int),v,true,true,l) = some (.inr (0,(l.length:Int),v,true,true,srtI l)):=by
  unfold slices_pdqsortOrdered_int_l1; dsimp only
  have hw : w64 ((l.length:Int) - 0) = (l.length:Int):=by rw [w64_id (by omega) (by omega)]; omega
  rw [hw,guardO_pos (decide_eq_true (by omega)),insO_all (by omega)]
  rfl
 rw [loopO_stop hstep]
 rfl
theorem slices_Sort_int_int_ok (p0_x:(List Int)) (res:(List Int)) (h:slices_Sort_int_int p0_x = some res) (W:World) (w0:World) (R:Res) (A0_0:Option Addr) (n0_0 c0_0 : Nat) (hn0_0:n0_0 = p0_x.length) (hW:Ext w0 W [R,rowR A0_0 c0_0 3 1 n0_0 (encL cI p0_x)]) :
  Calls Try.prog 67 [.slice A0_0 n0_0 c0_0].toArray W fun e W2 => e = .returned (.tuple #[]) ∧ n0_0 = res.length ∧ Ext w0 W2 [R,rowR A0_0 c0_0 3 1 n0_0 (encL cI res)]:=by
 subst hn0_0
 unfold slices_Sort_int_int at h
 obtain ⟨hg0,h⟩:=guardO_some h
 obtain rfl:=Option.some.inj h
 have hlen : p0_x.length = (srtI p0_x).length:=(srtI_len p0_x).symm
 refine calls_enterB (m:=11) Try.func67 rfl rfl (Nat.le_of_ble_eq_true rfl) hW ?_
 refine cx_seq (cx_region ?_)
 refine ox_y rfl (y_move_slice rfl) ?_
 refine ox_y rfl (y_len (us:=[]) us_32 rfl) ?_
 refine ox_y rfl (y_assign_int rfl) ?_
 refine ox_nil (ex_then (cx_region ?_))
 refine ox_y rfl (y_move_slice rfl) ?_
 refine ox_y rfl (y_move_int rfl) ?_
 refine ox_y rfl (y_move_int rfl) ?_
 have hg1 : (0:Int) ≤ (p0_x.length:Int) ∧ (p0_x.length:Int) ≤ 9223372036854775807:=by omega
 refine ox_y rfl (y_convertU ui_3 ui_117 hg1 rfl) ?_
 obtain ⟨y2,hy3⟩ : ∃ y2,math_bits_Len (p0_x.length:Int) = some y2:=by
  unfold math_bits_Len math_bits_Len64
  rw [guardO_pos (by omega)]
  exact ⟨_,rfl⟩
 refine ox_y rfl (y_call [.int .u64 (p0_x.length:Int)] go_88 rfl (fun W2 hW2 => math_bits_Len_ok (p0_x.length:Int) y2 hy3 W2 ) rfl) ?_
 have hy5:=pdqO_all hg0 y2
 refine ox_callT 1 [.slice A0_0 p0_x.length c0_0,.int .i64 0,.int .i64 (p0_x.length:Int),.int .i64 y2] (fun (_:Unit) => p0_x.length = (srtI p0_x).length) (fun _ => .tuple #[]) (fun _ => rowR A0_0 c0_0 3 1 p0_x.length (encL cI (srtI p0_x))) (fun _ => []) rfl rfl go_87 rfl (fun W2 hW2 => (slices_pdqsortOrdered_int_ok p0_x 0 (p0_x.length:Int) y2 (srtI p0_x) hy5 W2 _ (restR [R,rowR A0_0 c0_0 3 1 p0_x.length (encL cI p0_x)] [1]) A0_0 p0_x.length c0_0 rfl hW2).mono (fun e W3 h3 => ⟨(),h3.2.1,h3.1,h3.2.2⟩)) ?_
 rintro - hn6
 try dsimp only [lsz,lss,List.append_nil]
 refine ox_nil ?_
 exact ex_result0 (.inr rfl) rfl  (fun W2 hW2 => ⟨rfl,hlen,hW2.take 2⟩)

theorem recall_listed_ok (p0_set:(List (Int × Bool))) (res:(List Int)) (h:recall_listed p0_set = some res) (W:World) (bm0_0:Nat) (hm0_0:(mapV Try.prog 3 kI rngB kB false bm0_0 p0_set).holds W) :
  Calls Try.prog 44 [.map (some bm0_0)].toArray W fun e W2 => ∃ x : Option Addr × Nat × Nat,x.2.1 = res.length ∧ e = .returned (.slice x.1 x.2.1 x.2.2) ∧ Ext W W2 [rowR x.1 x.2.2 3 1 x.2.1 (encL cI res)]:=by
 unfold recall_listed at h
 obtain ⟨⟨hg1,hg2,hg3⟩,h⟩:=guardO_some h
 obtain rfl:=Option.some.inj h
 have hb0 : bm0_0 < W.heap.size:=(mapV Try.prog 3 kI rngB kB false bm0_0 p0_set).inb W hm0_0 bm0_0 rfl
 have hfin : ∀ s : Nat × (Int → Bool) × List Int,CollI rngB p0_set s → (∀ y,rngB y = true → s.2.1 y = false) → slices_Sort_int_int s.2.2 = some (listedV p0_set) ∧ s.2.2.length = (listedV p0_set).length:=fun s hI hno => by
  have hm : ∀ q,q ∈ s.2.2 ↔ q ∈ listedV p0_set:=fun q => by
   rw [hI.val q,(listedV_spec p0_set).2 q]
   refine ⟨fun h => h.2.2.2,fun h => ?_⟩
   have h1 : mhasV p0_set q = true:=by
    cases hh : mhasV p0_set q with
    | true => rfl
    | false => rw [mget_none hh] at h; cases h
   have h2 : rngB q = true:=by
    obtain ⟨p,hp,rfl⟩:=List.mem_map.1 (mhas_mem.1 h1)
    exact List.all_eq_true.1 hg3 p hp
   exact ⟨h2,h1,hno q h2,h⟩
  have hp:=perm_of_mem hI.nd (listedV_spec p0_set).1.nodup hm
  refine ⟨?_,hp.length_eq⟩
  unfold slices_Sort_int_int
  rw [guardO_pos (by rw [hp.length_eq]; exact hg2),srtI_eq hp.symm (listedV_spec p0_set).1.sorted]
 refine calls_enter (m:=21) Try.func44 rfl rfl (Nat.le_of_ble_eq_true rfl) ?_
 refine cx_seq (cx_region ?_)
 refine ox_y rfl (y_assign_slice rfl) ?_
 refine ox_nil (ex_then (cx_seq (cx_region ?_)))
 refine ox_y rfl (y_assign_slice rfl) ?_
 refine ox_nil (ex_then (cx_seq (cx_seq (cx_region ?_))))
 refine ox_y rfl (y_move_map rfl) ?_
 refine ox_rangeA hm0_0 ke_3 um_74 rfl rfl (fun it k hk => ?_)
 refine ox_nil (ex_then (cx_block ?_))
 refine cx_nilrow 3 1 ?_
 refine cx_loopM (fun (s:Nat × (Int → Bool) × List Int) L tm => CollI rngB p0_set s ∧ ∃ (A:Option Addr) (c:Nat) (tm0:Nat → Value),L = [rngA W Try.prog 3 kI rngB kB false bm0_0 it p0_set s.2.1 s.1 none,rowR A c 3 1 s.2.2.length (encL cI s.2.2)] ∧ tm = (upd (upd tm0 7 (.pointer (some ⟨it,0,none⟩))) 3 (.slice A s.2.2.length c))) (fun s => s.1) (k,(fun y => mhasV p0_set y),[]) ⟨CollI.start hk,none,0,_,rfl,keep (keep rfl rfl) rfl⟩ ?_
 rintro s L tm ⟨hI,A,c,tm0,rfl,rfl⟩
 refine cx_seq (cx_region ?_)
 refine ox_nextA 0 hb0 rfl ke_3 rfl rfl (fun hno => ?_) (fun y k' hy hly hM hk' => ?_)
 ·refine ox_y rfl (y_extract (vs:=[.bool false]) (v:=.bool false) rfl rfl) ?_
  refine ox_nil (ex_then (cx_seq ?_))
  refine cx_false rfl ?_
  refine cx_exit ?_
  refine ex_then_exit ?_
  refine ex_outM (by intro h; cases h) ?_
  refine ex_block_here ?_
  refine ex_then (cx_seq (cx_region ?_))
  refine ox_y rfl (y_move_slice rfl) ?_
  obtain ⟨hS,hl⟩:=hfin s hI hno
  refine ox_callT 1 [.slice A s.2.2.length c] (fun (_:Unit) => s.2.2.length = (listedV p0_set).length) (fun _ => .tuple #[]) (fun _ => rowR A c 3 1 s.2.2.length (encL cI (listedV p0_set))) (fun _ => []) rfl rfl go_67 rfl (fun W2 hW2 => (slices_Sort_int_int_ok s.2.2 (listedV p0_set) hS W2 _ (restR [rngA W Try.prog 3 kI rngB kB false bm0_0 it p0_set s.2.1 s.1 none,rowR A c 3 1 s.2.2.length (encL cI s.2.2)] [1]) A s.2.2.length c rfl hW2).mono (fun e W3 h3 => ⟨(),h3.2.1,h3.1,h3.2.2⟩)) ?_
  rintro - hn30
  try dsimp only [lsz,lss,List.append_nil]
  refine ox_nil (ex_then (cx_seq (cx_region ?_)))
  refine ox_y rfl (y_move_slice rfl) ?_
  refine ox_y rfl (y_assign_slice rfl) ?_
  refine ox_nil (ex_then (cx_ret ?_))
  exact ex_res1 (.inl rfl) rfl (resV_tmp (v:=.slice A s.2.2.length c) rfl) (fun W2 hW2 => ⟨(A,s.2.2.length,c),hn30,rfl,(hW2.pick 1 rfl)⟩)
 ·refine ox_y rfl (y_extract (vs:=[.bool true,.int .i64 y,.bool (mgetV false p0_set y)]) (v:=.bool true) rfl rfl) ?_
  refine ox_nil (ex_then (cx_seq ?_))
  refine cx_true rfl ?_
  refine cx_skip (ex_then (cx_block (cx_seq (cx_region ?_))))
  refine ox_y rfl (y_entryA 0 hb0 rfl rfl) ?_
  refine ox_y rfl (y_extract (vs:=[.int .i64 y,.bool (mgetV false p0_set y)]) (v:=.int .i64 y) rfl rfl) ?_
  refine ox_y rfl (y_extract (vs:=[.int .i64 y,.bool (mgetV false p0_set y)]) (v:=.bool (mgetV false p0_set y)) rfl rfl) ?_
  refine ox_y rfl (y_assign_int rfl) ?_
  refine ox_y rfl (y_assign_bool rfl) ?_
  refine ox_nil (ex_then (cx_seq (cx_region ?_)))
  refine ox_y rfl (y_move_bool rfl) ?_
  refine ox_nil (ex_then ?_)
  rcases bool_cases (mgetV false p0_set y) with hp | hp
  ·refine cx_true (congrArg Value.bool hp) ?_
   refine cx_region ?_
   refine ox_y rfl (y_move_slice rfl) ?_
   refine ox_y rfl (y_move_int rfl) ?_
   refine ox_buildSliceE 1 (encL cI [y]) _ mc_3_1 us_32 ze_3 by_3 (by decide) (by decide) (by kernel_rfl) (encL_len cI_len rfl) rfl (fun b23 => ?_)
   have hroom : s.2.2.length + 1 ≤ 1000000000:=by have:=hI.len; omega
   refine ox_append0 1 us_32 ze_3 by_3 rfl rfl rfl (RdL.row 2 rfl) (encL_len cI_len rfl) (encL_one cI_one _) (app_room hroom (by decide)) rfl (fun A24 c25 => ?_)
   refine ox_y rfl (y_assign_slice rfl) ?_
   refine ox_nil ?_
   refine ex_block ?_
   refine ex_take 2 ?_
   refine ex_rngNoneA 0 rfl ?_
   refine ex_nextM (k',(fun q => s.2.1 q && !decide (q = y)),s.2.2 ++ [y]) ⟨hI.app hy hly hM hk' hp,A24,c25,_,?_,keep (keep rfl rfl) ?_⟩ hk'
   ·show [_,_] = [_,_]
    rw [List.length_append]
    rfl
   ·rw [List.length_append]
    rfl
  ·refine cx_false (congrArg Value.bool hp) ?_
   refine cx_skip ?_
   refine ex_block ?_
   refine ex_rngNoneA 0 rfl ?_
   exact ex_nextM (k',(fun q => s.2.1 q && !decide (q = y)),s.2.2) ⟨hI.keep hk' hp,A,c,_,rfl,keep (keep rfl rfl) rfl⟩ hk'

theorem slices_insertionSortCmpFunc_int_ok (p0_data:(List Int)) (p1_a:Int) (p2_b:Int) (p3_cmp:Int → Int → Option Int) (res:(List Int)) (h:slices_insertionSortCmpFunc_int p0_data p1_a p2_b p3_cmp = some res) (W:World) (w0:World) (R:Res) (A0_0:Option Addr) (n0_0 c0_0 : Nat) (hn0_0:n0_0 = p0_data.length) (fid3:Nat) (fst3 caps3 : List Value) (hgo3:goes Try.prog fid3 = true) (hof3:∀ W2,Below w0.heap.size w0 W2 → R.holds W2 → ∀ x0 x1,∀ y,p3_cmp x0 x1 = some y → Calls Try.prog fid3 (fst3 ++ (([.int .i64 x0,.int .i64 x1] : List Value) ++ caps3)).toArray W2 fun e W3 => e = .returned (.int .i64 y) ∧ Ext W2 W3 []) (hW:Ext w0 W [R,rowR A0_0 c0_0 3 1 n0_0 (encL cI p0_data)]) :
  Calls Try.prog 113 [.slice A0_0 n0_0 c0_0,.int .i64 p1_a,.int .i64 p2_b,.func (.func fid3) fst3.toArray caps3.toArray].toArray W fun e W2 => e = .returned (.tuple #[]) ∧ n0_0 = res.length ∧ Ext w0 W2 [R,rowR A0_0 c0_0 3 1 n0_0 (encL cI res)]:=by
 subst hn0_0
 unfold slices_insertionSortCmpFunc_int at h
 refine calls_enterB (m:=53) Try.func113 rfl rfl (Nat.le_of_ble_eq_true rfl) hW ?_
 refine cx_seq (cx_region ?_)
 refine ox_y rfl (y_move_int rfl) ?_
 refine ox_y rfl (y_add rfl rfl) ?_
 refine ox_y rfl (y_assign_int rfl) ?_
 refine ox_nil (ex_then (cx_block ?_))
 obtain ⟨u4,hl24,h⟩:=bind_some h
 refine cx_loop (fun (s:(Int × (List Int))) L tm => ∃ (tm0:Nat → Value),p0_data.length = s.2.length ∧ L = [R,rowR A0_0 c0_0 3 1 p0_data.length (encL cI s.2)] ∧ tm = (upd (upd (upd (upd (upd tm0 0 (.slice A0_0 p0_data.length c0_0)) 1 (.int .i64 p1_a)) 2 (.int .i64 p2_b)) 3 (.func (.func fid3) fst3.toArray caps3.toArray)) 8 (.int .i64 s.1))) (fun s e L tm => e = .exit 0 ∧ ∃ (tm0:Nat → Value),p0_data.length = s.2.length ∧ L = [R,rowR A0_0 c0_0 3 1 p0_data.length (encL cI s.2)] ∧ tm = (upd (upd (upd (upd (upd tm0 0 (.slice A0_0 p0_data.length c0_0)) 1 (.int .i64 p1_a)) 2 (.int .i64 p2_b)) 3 (.func (.func fid3) fst3.toArray caps3.toArray)) 8 (.int .i64 s.1))) hl24 ⟨_,rfl,rfl,(keep (keep (keep (keep (keep rfl rfl) rfl) rfl) rfl) rfl)⟩ ?_ ?_
 ·rintro s3 L tm st ⟨tm0_s3,hn1_s3,rfl,rfl⟩ h
  unfold slices_insertionSortCmpFunc_int_l1 at h
  refine cx_seq (cx_seq (cx_region ?_))
  refine ox_y rfl (y_move_int rfl) ?_
  refine ox_y rfl (y_move_int rfl) ?_
  refine ox_y rfl (y_lss rfl rfl) ?_
  refine ox_nil (ex_then ?_)
  rcases ite_some h with ⟨hp5,h⟩ | ⟨hp5,h⟩
  ·refine cx_true (congrArg Value.bool hp5) ?_
   refine cx_skip (ex_then (cx_seq (cx_block (cx_seq (cx_region ?_)))))
   refine ox_y rfl (y_move_int rfl) ?_
   refine ox_y rfl (y_assign_int rfl) ?_
   refine ox_nil (ex_then (cx_block ?_))
   obtain ⟨u9,hl23,h⟩:=bind_some h
   refine cx_loop (fun (s:(Int × (List Int))) L tm => ∃ (tm0:Nat → Value),p0_data.length = s.2.length ∧ L = [R,rowR A0_0 c0_0 3 1 p0_data.length (encL cI s.2)] ∧ tm = (upd (upd (upd (upd (upd (upd (upd tm0 0 (.slice A0_0 p0_data.length c0_0)) 1 (.int .i64 p1_a)) 2 (.int .i64 p2_b)) 3 (.func (.func fid3) fst3.toArray caps3.toArray)) 8 (.int .i64 s3.1)) 14 (.bool (decide (s3.1 < p2_b)))) 9 (.int .i64 s.1))) (fun s e L tm => e = .exit 2 ∧ ∃ (tm0:Nat → Value),p0_data.length = s.2.length ∧ L = [R,rowR A0_0 c0_0 3 1 p0_data.length (encL cI s.2)] ∧ tm = (upd (upd (upd (upd (upd (upd (upd tm0 0 (.slice A0_0 p0_data.length c0_0)) 1 (.int .i64 p1_a)) 2 (.int .i64 p2_b)) 3 (.func (.func fid3) fst3.toArray caps3.toArray)) 8 (.int .i64 s3.1)) 14 (.bool (decide (s3.1 < p2_b)))) 9 (.int .i64 s.1))) hl23 ⟨_,hn1_s3,rfl,(keep (keep (keep (keep (keep (keep (keep rfl rfl) rfl) rfl) rfl) rfl) rfl) rfl)⟩ ?_ ?_
   ·rintro s8 L tm st ⟨tm0_s8,hn1_s8,rfl,rfl⟩ h
    unfold slices_insertionSortCmpFunc_int_l2 at h
    refine cx_seq (cx_seq ?_)
    refine cx_draws 17 mixed (by kernel_rfl) (by kernel_rfl) ?_
    refine qx_y rfl (y_move_int rfl) ?_
    refine qx_y rfl (y_move_int rfl) ?_
    refine qx_y rfl (y_gtr rfl rfl) ?_
    refine qx_y rfl (y_move_bool rfl) ?_
    obtain ⟨b11,hb12,h⟩:=bind_some h
    refine qx_join 13 (fun tm0 => (upd (upd (upd (upd (upd (upd (upd (upd tm0 0 (.slice A0_0 p0_data.length c0_0)) 1 (.int .i64 p1_a)) 2 (.int .i64 p2_b)) 3 (.func (.func fid3) fst3.toArray caps3.toArray)) 8 (.int .i64 s3.1)) 14 (.bool (decide (s3.1 < p2_b)))) 9 (.int .i64 s8.1)) 34 (.bool b11))) (fun tm0 => ?_) (fun key => ?_)
    ·refine qx_nil ?_
     refine ox_nil (ex_then ?_)
     rcases ite_some h with ⟨hp13,h⟩ | ⟨hp13,h⟩
     ·refine cx_true (congrArg Value.bool hp13) ?_
      refine cx_skip (ex_then (cx_seq (cx_block ?_)))
      obtain ⟨hg15,h⟩:=guardO_some h
      obtain ⟨hg16,h⟩:=guardO_some h
      obtain ⟨hg17,h⟩:=guardO_some h
      obtain ⟨hg18,h⟩:=guardO_some h
      refine cx_drawsG [[],[],[],[],[3],[],[],[6],[5,6,7],[5,6,7,8],[],[],[10,11],[10,11,12],[0,1,5,6,7,8,9,10,11,12,13],[0,1,5,6,7,8,9,10,11,12,13,14],[0,1,2,3,4,5,6,7,8,9,10,11,12,13,14,15],[0,1,2,3,4,5,6,7,8,9,10,11,12,13,14,15,16]] [(none,0,[true,true]),(none,0,[true,true]),(none,0,[true,false]),(none,0,[true,false]),(none,0,[true,false]),(none,0,[true,true]),(none,0,[true,true]),(none,0,[true,true]),(none,0,[true,true]),(none,0,[true,true]),(none,0,[true,true]),(none,0,[true,true]),(none,0,[true,true]),(none,0,[true,true]),(none,0,[true,true]),(some 1,0,[true,true]),(none,0,[true,true]),(some 1,0,[true,true])] [⟨fun _ => .slice A0_0 p0_data.length c0_0,fun _ => noR,fun _ => []⟩,⟨fun _ => .int .i64 s8.1,fun _ => noR,fun _ => []⟩,⟨fun _ => .slice A0_0 p0_data.length c0_0,fun _ => noR,fun _ => []⟩,⟨fun _ => .int .i64 s8.1,fun _ => noR,fun _ => []⟩,⟨fun _ => .int .i64 (w64 (s8.1 - 1)),fun _ => noR,fun _ => []⟩,⟨fun _ => .slice A0_0 p0_data.length c0_0,fun _ => noR,fun _ => []⟩,⟨fun _ => .int .i64 s8.1,fun _ => noR,fun _ => []⟩,⟨fun _ => .int .i64 (w64 (s8.1 - 1)),fun _ => noR,fun _ => []⟩,⟨fun _ => slA A0_0 (Int.toNat (w64 (s8.1 - 1)) * 1),fun _ => noR,fun _ => []⟩,⟨fun _ => .int .i64 (rdL s8.2 (w64 (s8.1 - 1))),fun _ => noR,fun _ => []⟩,⟨fun _ => .slice A0_0 p0_data.length c0_0,fun _ => noR,fun _ => []⟩,⟨fun _ => .int .i64 s8.1,fun _ => noR,fun _ => []⟩,⟨fun _ => slA A0_0 (Int.toNat s8.1 * 1),fun _ => noR,fun _ => []⟩,⟨fun _ => .int .i64 (rdL s8.2 s8.1),fun _ => noR,fun _ => []⟩,⟨fun _ => slA A0_0 (Int.toNat s8.1 * 1),fun _ => noR,fun _ => []⟩,⟨fun _ => undef,fun _ => rowR A0_0 c0_0 3 1 p0_data.length (encL cI (s8.2.set (Int.toNat s8.1) (rdL s8.2 (w64 (s8.1 - 1))))),fun _ => []⟩,⟨fun _ => slA A0_0 (Int.toNat (w64 (s8.1 - 1)) * 1),fun _ => noR,fun _ => []⟩,⟨fun _ => undef,fun _ => rowR A0_0 c0_0 3 1 p0_data.length (encL cI ((s8.2.set (Int.toNat s8.1) (rdL s8.2 (w64 (s8.1 - 1)))).set (Int.toNat (w64 (s8.1 - 1))) (rdL s8.2 s8.1))),fun _ => []⟩] 2 mixed (by kernel_rfl) (by kernel_rfl) ⟨⟨fun ξ14 ξ14' h => ⟨rfl,rfl,rfl⟩,fun _ => rfl⟩,⟨fun ξ14 ξ14' h => ⟨rfl,rfl,rfl⟩,fun _ => rfl⟩,⟨fun ξ14 ξ14' h => ⟨rfl,rfl,rfl⟩,fun _ => rfl⟩,⟨fun ξ14 ξ14' h => ⟨rfl,rfl,rfl⟩,fun _ => rfl⟩,⟨fun ξ14 ξ14' h => ⟨rfl,rfl,rfl⟩,fun _ => rfl⟩,⟨fun ξ14 ξ14' h => ⟨rfl,rfl,rfl⟩,fun _ => rfl⟩,⟨fun ξ14 ξ14' h => ⟨rfl,rfl,rfl⟩,fun _ => rfl⟩,⟨fun ξ14 ξ14' h => ⟨rfl,rfl,rfl⟩,fun _ => rfl⟩,⟨fun ξ14 ξ14' h => ⟨rfl,rfl,rfl⟩,fun _ => rfl⟩,⟨fun ξ14 ξ14' h => ⟨rfl,rfl,rfl⟩,fun _ => rfl⟩,⟨fun ξ14 ξ14' h => ⟨rfl,rfl,rfl⟩,fun _ => rfl⟩,⟨fun ξ14 ξ14' h => ⟨rfl,rfl,rfl⟩,fun _ => rfl⟩,⟨fun ξ14 ξ14' h => ⟨rfl,rfl,rfl⟩,fun _ => rfl⟩,⟨fun ξ14 ξ14' h => ⟨rfl,rfl,rfl⟩,fun _ => rfl⟩,⟨fun ξ14 ξ14' h => ⟨rfl,rfl,rfl⟩,fun _ => rfl⟩,⟨fun ξ14 ξ14' h => ⟨rfl,rfl,rfl⟩,fun _ => rfl⟩,⟨fun ξ14 ξ14' h => ⟨rfl,rfl,rfl⟩,fun _ => rfl⟩,⟨fun ξ14 ξ14' h => ⟨rfl,rfl,rfl⟩,fun _ => rfl⟩,trivial⟩ rfl (fun ξ14 => ?_)
      refine gx_o rfl (fun L2 => ?_) ?_
      ·dsimp only [maskL,lca,lna]
       refine ox_y rfl (y_move_slice rfl) ?_
       refine ox_nil ?_
       exact ex_capG (fun _ => (none,0,0)) rfl (List.append_nil _)
      dsimp only [aftL,lsz,lss,lna,lca,List.append_nil]
      refine gx_o rfl (fun L2 => ?_) ?_
      ·dsimp only [maskL,lca,lna]
       refine ox_y rfl (y_move_int rfl) ?_
       refine ox_nil ?_
       exact ex_capG (fun _ => (none,0,0)) rfl (List.append_nil _)
      dsimp only [aftL,lsz,lss,lna,lca,List.append_nil]
      refine gx_o rfl (fun L2 => ?_) ?_
      ·dsimp only [maskL,lca,lna]
       refine ox_y rfl (y_move_slice rfl) ?_
       refine ox_nil ?_
       exact ex_capG (fun _ => (none,0,0)) rfl (List.append_nil _)
      dsimp only [aftL,lsz,lss,lna,lca,List.append_nil]
      refine gx_o rfl (fun L2 => ?_) ?_
      ·dsimp only [maskL,lca,lna]
       refine ox_y rfl (y_move_int rfl) ?_
       refine ox_nil ?_
       exact ex_capG (fun _ => (none,0,0)) rfl (List.append_nil _)
      dsimp only [aftL,lsz,lss,lna,lca,List.append_nil]
      refine gx_o rfl (fun L2 => ?_) ?_
      ·dsimp only [maskL,lca,lna]
       refine ox_y rfl (y_sub rfl rfl) ?_
       refine ox_nil ?_
       exact ex_capG (fun _ => (none,0,0)) rfl (List.append_nil _)
      dsimp only [aftL,lsz,lss,lna,lca,List.append_nil]
      refine gx_o rfl (fun L2 => ?_) ?_
      ·dsimp only [maskL,lca,lna]
       refine ox_y rfl (y_move_slice rfl) ?_
       refine ox_nil ?_
       exact ex_capG (fun _ => (none,0,0)) rfl (List.append_nil _)
      dsimp only [aftL,lsz,lss,lna,lca,List.append_nil]
      refine gx_o rfl (fun L2 => ?_) ?_
      ·dsimp only [maskL,lca,lna]
       refine ox_y rfl (y_move_int rfl) ?_
       refine ox_nil ?_
       exact ex_capG (fun _ => (none,0,0)) rfl (List.append_nil _)
      dsimp only [aftL,lsz,lss,lna,lca,List.append_nil]
      refine gx_o rfl (fun L2 => ?_) ?_
      ·dsimp only [maskL,lca,lna]
       refine ox_y rfl (y_sub rfl rfl) ?_
       refine ox_nil ?_
       exact ex_capG (fun _ => (none,0,0)) rfl (List.append_nil _)
      dsimp only [aftL,lsz,lss,lna,lca,List.append_nil]
      refine gx_o rfl (fun L2 => ?_) ?_
      ·dsimp only [maskL,lca,lna]
       refine ox_y rfl (y_indexR sl_32 (by decide) hg15.1 hg15.2 (RdL.row 1 rfl) (encL_len cI_len hn1_s8) rfl rfl) ?_
       refine ox_nil ?_
       exact ex_capG (fun _ => (none,0,0)) rfl (List.append_nil _)
      dsimp only [aftL,lsz,lss,lna,lca,List.append_nil]
      refine gx_o rfl (fun L2 => ?_) ?_
      ·dsimp only [maskL,lca,lna]
       refine ox_y rfl (y_loadR1 (A:=A0_0) (j:=(Int.toNat (w64 (s8.1 - 1)) * 1)) (v:=.int .i64 (rdL s8.2 (w64 (s8.1 - 1)))) sc_3 (RdL.row 1 rfl) rfl (encL_get0 cI_len hg15.1 (lt_nat hg15.2 hn1_s8) rfl)) ?_
       refine ox_nil ?_
       exact ex_capG (fun _ => (none,0,0)) rfl (List.append_nil _)
      dsimp only [aftL,lsz,lss,lna,lca,List.append_nil]
      refine gx_o rfl (fun L2 => ?_) ?_
      ·dsimp only [maskL,lca,lna]
       refine ox_y rfl (y_move_slice rfl) ?_
       refine ox_nil ?_
       exact ex_capG (fun _ => (none,0,0)) rfl (List.append_nil _)
      dsimp only [aftL,lsz,lss,lna,lca,List.append_nil]
      refine gx_o rfl (fun L2 => ?_) ?_
      ·dsimp only [maskL,lca,lna]
       refine ox_y rfl (y_move_int rfl) ?_
       refine ox_nil ?_
       exact ex_capG (fun _ => (none,0,0)) rfl (List.append_nil _)
      dsimp only [aftL,lsz,lss,lna,lca,List.append_nil]
      refine gx_o rfl (fun L2 => ?_) ?_
      ·dsimp only [maskL,lca,lna]
       refine ox_y rfl (y_indexR sl_32 (by decide) hg16.1 hg16.2 (RdL.row 1 rfl) (encL_len cI_len hn1_s8) rfl rfl) ?_
       refine ox_nil ?_
       exact ex_capG (fun _ => (none,0,0)) rfl (List.append_nil _)
      dsimp only [aftL,lsz,lss,lna,lca,List.append_nil]
      refine gx_o rfl (fun L2 => ?_) ?_
      ·dsimp only [maskL,lca,lna]
       refine ox_y rfl (y_loadR1 (A:=A0_0) (j:=(Int.toNat s8.1 * 1)) (v:=.int .i64 (rdL s8.2 s8.1)) sc_3 (RdL.row 1 rfl) rfl (encL_get0 cI_len hg16.1 (lt_nat hg16.2 hn1_s8) rfl)) ?_
       refine ox_nil ?_
       exact ex_capG (fun _ => (none,0,0)) rfl (List.append_nil _)
      dsimp only [aftL,lsz,lss,lna,lca,List.append_nil]
      refine gx_o rfl (fun L2 => ?_) ?_
      ·dsimp only [maskL,lca,lna]
       refine ox_y rfl (y_indexR sl_32 (by decide) hg17.1 hg17.2 (RdL.row 1 rfl) (encL_len cI_len hn1_s8) rfl rfl) ?_
       refine ox_nil ?_
       exact ex_capG (fun _ => (none,0,0)) rfl (List.append_nil _)
      dsimp only [aftL,lsz,lss,lna,lca,List.append_nil]
      refine gx_n rfl (fun L2 => ?_) ?_
      ·dsimp only [maskL,lca,lna]
       refine ox_n rfl (y_storeR1 1 (xs:=s8.2) cI_len (rdL s8.2 (w64 (s8.1 - 1))) sz_3 rfl hg17.1 (lt_nat hg17.2 hn1_s8) rfl rfl rfl rfl) ?_
       refine ox_nil ?_
       exact ex_capGn (fun _ => (none,0,0)) (List.append_nil _)
      dsimp only [aftL,lsz,lss,lna,lca,List.append_nil]
      refine gx_o rfl (fun L2 => ?_) ?_
      ·dsimp only [maskL,lca,lna]
       refine ox_y rfl (y_indexR sl_32 (by decide) hg18.1 hg18.2 (RdL.row 1 rfl) (encL_len cI_len (hn_set hn1_s8)) rfl rfl) ?_
       refine ox_nil ?_
       exact ex_capG (fun _ => (none,0,0)) rfl (List.append_nil _)
      dsimp only [aftL,lsz,lss,lna,lca,List.append_nil]
      refine gx_n rfl (fun L2 => ?_) ?_
      ·dsimp only [maskL,lca,lna]
       refine ox_n rfl (y_storeR1 1 (xs:=(s8.2.set (Int.toNat s8.1) (rdL s8.2 (w64 (s8.1 - 1))))) cI_len (rdL s8.2 s8.1) sz_3 rfl hg18.1 (lt_nat hg18.2 (hn_set hn1_s8)) rfl rfl rfl rfl) ?_
       refine ox_nil ?_
       exact ex_capGn (fun _ => (none,0,0)) (List.append_nil _)
      dsimp only [aftL,lsz,lss,lna,lca,List.append_nil]
      refine gx_nil ?_
      refine ex_block ?_
      refine ex_then (cx_region ?_)
      refine ox_y rfl (y_move_int rfl) ?_
      refine ox_y rfl (y_sub rfl rfl) ?_
      refine ox_y rfl (y_assign_int rfl) ?_
      refine ox_nil ?_
      obtain rfl:=Option.some.inj h
      exact ex_next ⟨_,(hn_set (hn_set hn1_s8)),rfl,(keep (keep (keep (keep (keep (keep (keep rfl rfl) rfl) rfl) rfl) rfl) rfl) rfl)⟩
     ·refine cx_false (congrArg Value.bool hp13) ?_
      refine cx_exit ?_
      refine ex_then_exit ?_
      obtain rfl:=Option.some.inj h
      exact ex_stop ⟨rfl,_,hn1_s8,rfl,(keep (keep (keep (keep (keep (keep (keep rfl rfl) rfl) rfl) rfl) rfl) rfl) rfl)⟩
    ·clear h; rcases ite_some hb12 with ⟨hp10,h⟩ | ⟨hp10,h⟩
     ·refine qx_y (sees_t rfl rfl rfl rfl hp10) (y_move (v:=.func (.func fid3) fst3.toArray caps3.toArray) rfl) ?_
      refine qx_y (sees_t rfl rfl rfl rfl hp10) (y_move_slice rfl) ?_
      refine qx_y (sees_t rfl rfl rfl rfl hp10) (y_move_int rfl) ?_
      obtain ⟨hg19,h⟩:=guardO_some h
      refine qx_y (sees_t rfl rfl rfl rfl hp10) (y_indexR sl_32 (by decide) hg19.1 hg19.2 (RdL.row 1 rfl) (encL_len cI_len hn1_s8) rfl rfl) ?_
      refine qx_y (sees_t rfl rfl rfl rfl hp10) (y_loadR1 (A:=A0_0) (j:=(Int.toNat s8.1 * 1)) (v:=.int .i64 (rdL s8.2 s8.1)) sc_3 (RdL.row 1 rfl) rfl (encL_get0 cI_len hg19.1 (lt_nat hg19.2 hn1_s8) rfl)) ?_
      refine qx_y (sees_t rfl rfl rfl rfl hp10) (y_move_slice rfl) ?_
      refine qx_y (sees_t rfl rfl rfl rfl hp10) (y_move_int rfl) ?_
      refine qx_y (sees_t rfl rfl rfl rfl hp10) (y_sub rfl rfl) ?_
      obtain ⟨hg20,h⟩:=guardO_some h
      refine qx_y (sees_t rfl rfl rfl rfl hp10) (y_indexR sl_32 (by decide) hg20.1 hg20.2 (RdL.row 1 rfl) (encL_len cI_len hn1_s8) rfl rfl) ?_
      refine qx_y (sees_t rfl rfl rfl rfl hp10) (y_loadR1 (A:=A0_0) (j:=(Int.toNat (w64 (s8.1 - 1)) * 1)) (v:=.int .i64 (rdL s8.2 (w64 (s8.1 - 1)))) sc_3 (RdL.row 1 rfl) rfl (encL_get0 cI_len hg20.1 (lt_nat hg20.2 hn1_s8) rfl)) ?_
      obtain ⟨y21,hy22,h⟩:=bind_some h
      refine qx_y (sees_t rfl rfl rfl rfl hp10) (y_callvF [.int .i64 (rdL s8.2 s8.1),.int .i64 (rdL s8.2 (w64 (s8.1 - 1)))] hgo3 rfl rfl (fun W2 hW2 => hof3 W2 hW2.below (hW2.mem (i:=0) rfl) (rdL s8.2 s8.1) (rdL s8.2 (w64 (s8.1 - 1))) y21 hy22)) ?_
      refine qx_y (sees_t rfl rfl rfl rfl hp10) (y_lss rfl rfl) ?_
      refine qx_y rfl (y_pick_tb (congrArg Value.bool hp10) rfl) ?_
      obtain rfl:=Option.some.inj h
      exact key _ _ (keep (keep (keep (keep (keep (keep (keep (keep rfl rfl) rfl) rfl) rfl) rfl) rfl) rfl) rfl)
     ·refine qx_skip (sees_f rfl rfl rfl rfl hp10) ?_
      refine qx_skip (sees_f rfl rfl rfl rfl hp10) ?_
      refine qx_skip (sees_f rfl rfl rfl rfl hp10) ?_
      refine qx_skip (sees_f rfl rfl rfl rfl hp10) ?_
      refine qx_skip (sees_f rfl rfl rfl rfl hp10) ?_
      refine qx_skip (sees_f rfl rfl rfl rfl hp10) ?_
      refine qx_skip (sees_f rfl rfl rfl rfl hp10) ?_
      refine qx_skip (sees_f rfl rfl rfl rfl hp10) ?_
      refine qx_skip (sees_f rfl rfl rfl rfl hp10) ?_
      refine qx_skip (sees_f rfl rfl rfl rfl hp10) ?_
      refine qx_skip (sees_f rfl rfl rfl rfl hp10) ?_
      refine qx_skip (sees_f rfl rfl rfl rfl hp10) ?_
      refine qx_y rfl (y_pick_fb (congrArg Value.bool hp10) rfl) ?_
      obtain rfl:=Option.some.inj h
      exact key _ _ (keep (keep (keep (keep (keep (keep (keep (keep rfl rfl) rfl) rfl) rfl) rfl) rfl) rfl) rfl)
   ·intro e L tm hJ
    obtain ⟨rfl,tm0_u9,hn1_u9,rfl,rfl⟩:=hJ
    refine ⟨(by intro hc; cases hc),?_⟩
    refine ex_block_here ?_
    refine ex_block ?_
    refine ex_then (cx_region ?_)
    refine ox_y rfl (y_move_int rfl) ?_
    refine ox_y rfl (y_add rfl rfl) ?_
    refine ox_y rfl (y_assign_int rfl) ?_
    refine ox_nil ?_
    obtain rfl:=Option.some.inj h
    exact ex_next ⟨_,hn1_u9,rfl,(keep (keep (keep (keep (keep rfl rfl) rfl) rfl) rfl) rfl)⟩
  ·refine cx_false (congrArg Value.bool hp5) ?_
   refine cx_exit ?_
   refine ex_then_exit ?_
   obtain rfl:=Option.some.inj h
   exact ex_stop ⟨rfl,_,hn1_s3,rfl,(keep (keep (keep (keep (keep rfl rfl) rfl) rfl) rfl) rfl)⟩
 ·intro e L tm hJ
  obtain ⟨rfl,tm0_u4,hn1_u4,rfl,rfl⟩:=hJ
  refine ⟨(by intro hc; cases hc),?_⟩
  refine ex_block_here ?_
  obtain rfl:=Option.some.inj h
  exact ex_result0 (.inr rfl) rfl  (fun W2 hW2 => ⟨rfl,hn1_u4,hW2.take 2⟩)

theorem slices_stableCmpFunc_int_ok (p0_data:(List Int)) (p1_n:Int) (p2_cmp:Int → Int → Option Int) (res:(List Int)) (h:slices_stableCmpFunc_int p0_data p1_n p2_cmp = some res) (W:World) (w0:World) (R:Res) (A0_0:Option Addr) (n0_0 c0_0 : Nat) (hn0_0:n0_0 = p0_data.length) (fid2:Nat) (fst2 caps2 : List Value) (hgo2:goes Try.prog fid2 = true) (hof2:∀ W2,Below w0.heap.size w0 W2 → R.holds W2 → ∀ x0 x1,∀ y,p2_cmp x0 x1 = some y → Calls Try.prog fid2 (fst2 ++ (([.int .i64 x0,.int .i64 x1] : List Value) ++ caps2)).toArray W2 fun e W3 => e = .returned (.int .i64 y) ∧ Ext W2 W3 []) (hW:Ext w0 W [R,rowR A0_0 c0_0 3 1 n0_0 (encL cI p0_data)]) :
  Calls Try.prog 106 [.slice A0_0 n0_0 c0_0,.int .i64 p1_n,.func (.func fid2) fst2.toArray caps2.toArray].toArray W fun e W2 => e = .returned (.tuple #[]) ∧ n0_0 = res.length ∧ Ext w0 W2 [R,rowR A0_0 c0_0 3 1 n0_0 (encL cI res)]:=by
 subst hn0_0
 unfold slices_stableCmpFunc_int at h
 refine calls_enterB (m:=63) Try.func106 rfl rfl (Nat.le_of_ble_eq_true rfl) hW ?_
 refine cx_seq (cx_region ?_)
 refine ox_y rfl (y_assign_int rfl) ?_
 refine ox_nil (ex_then (cx_seq (cx_region ?_)))
 refine ox_y rfl (y_move_int rfl) ?_
 refine ox_y rfl (y_assign_int rfl) ?_
 refine ox_y rfl (y_assign_int rfl) ?_
 refine ox_nil (ex_then (cx_seq (cx_block ?_)))
 obtain ⟨u3,hl5,h⟩:=bind_some h
 refine cx_loop (fun (s:(Int × Int)) L tm => ∃ (tm0:Nat → Value),L = [R,rowR A0_0 c0_0 3 1 p0_data.length (encL cI p0_data)] ∧ tm = (upd (upd (upd (upd (upd (upd tm0 0 (.slice A0_0 p0_data.length c0_0)) 1 (.int .i64 p1_n)) 2 (.func (.func fid2) fst2.toArray caps2.toArray)) 6 (.int .i64 20)) 7 (.int .i64 s.1)) 8 (.int .i64 s.2))) (fun s e L tm => e = .exit 0 ∧ ∃ (tm0:Nat → Value),L = [R,rowR A0_0 c0_0 3 1 p0_data.length (encL cI p0_data)] ∧ tm = (upd (upd (upd (upd (upd (upd tm0 0 (.slice A0_0 p0_data.length c0_0)) 1 (.int .i64 p1_n)) 2 (.func (.func fid2) fst2.toArray caps2.toArray)) 6 (.int .i64 20)) 7 (.int .i64 s.1)) 8 (.int .i64 s.2))) hl5 ⟨_,rfl,(keep (keep (keep (keep (keep (keep rfl rfl) rfl) rfl) rfl) rfl) rfl)⟩ ?_ ?_
 ·rintro s2 L tm st ⟨tm0_s2,rfl,rfl⟩ h
  unfold slices_stableCmpFunc_int_l1 at h
  refine cx_seq (cx_seq (cx_region ?_))
  refine ox_y rfl (y_move_int rfl) ?_
  refine ox_y rfl (y_move_int rfl) ?_
  refine ox_y rfl (y_leq rfl rfl) ?_
  refine ox_nil (ex_then ?_)
  obtain ⟨hp4,h⟩:=guardO_some h
  refine cx_false (congrArg Value.bool hp4) ?_
  refine cx_exit ?_
  refine ex_then_exit ?_
  obtain rfl:=Option.some.inj h
  exact ex_stop ⟨rfl,_,rfl,(keep (keep (keep (keep (keep (keep rfl rfl) rfl) rfl) rfl) rfl) rfl)⟩
 ·intro e L tm hJ
  obtain ⟨rfl,tm0_u3,rfl,rfl⟩:=hJ
  refine ⟨(by intro hc; cases hc),?_⟩
  refine ex_block_here ?_
  refine ex_then (cx_seq (cx_region ?_))
  refine ox_y rfl (y_move_slice rfl) ?_
  refine ox_y rfl (y_move_int rfl) ?_
  refine ox_y rfl (y_move_int rfl) ?_
  refine ox_y rfl (y_move (v:=.func (.func fid2) fst2.toArray caps2.toArray) rfl) ?_
  obtain ⟨y6,hy7,h⟩:=bind_some h
  refine ox_callT 1 [.slice A0_0 p0_data.length c0_0,.int .i64 u3.1,.int .i64 p1_n,.func (.func fid2) fst2.toArray caps2.toArray] (fun (_:Unit) => p0_data.length = y6.length) (fun _ => .tuple #[]) (fun _ => rowR A0_0 c0_0 3 1 p0_data.length (encL cI y6)) (fun _ => []) rfl rfl go_113 rfl (fun W2 hW2 => (slices_insertionSortCmpFunc_int_ok p0_data u3.1 p1_n p2_cmp y6 hy7 W2 _ (restR [R,rowR A0_0 c0_0 3 1 p0_data.length (encL cI p0_data)] [1]) A0_0 p0_data.length c0_0 rfl fid2 fst2 caps2 hgo2 (fun W3 hb hR => hof2 W3 hb (hR.1 0 _ (by decide) rfl)) hW2).mono (fun e W3 h3 => ⟨(),h3.2.1,h3.1,h3.2.2⟩)) ?_
  rintro - hn8
  try dsimp only [lsz,lss,List.append_nil]
  refine ox_nil (ex_then (cx_block ?_))
  obtain ⟨u11,hl13,h⟩:=bind_some h
  refine cx_loop (fun (s:(Int × Int × Int)) L tm => ∃ (tm0:Nat → Value),L = [R,rowR A0_0 c0_0 3 1 p0_data.length (encL cI y6)] ∧ tm = (upd (upd (upd (upd (upd (upd tm0 0 (.slice A0_0 p0_data.length c0_0)) 1 (.int .i64 p1_n)) 2 (.func (.func fid2) fst2.toArray caps2.toArray)) 6 (.int .i64 s.1)) 7 (.int .i64 s.2.1)) 8 (.int .i64 s.2.2))) (fun s e L tm => e = .exit 2 ∧ ∃ (tm0:Nat → Value),L = [R,rowR A0_0 c0_0 3 1 p0_data.length (encL cI y6)] ∧ tm = (upd (upd (upd (upd (upd (upd tm0 0 (.slice A0_0 p0_data.length c0_0)) 1 (.int .i64 p1_n)) 2 (.func (.func fid2) fst2.toArray caps2.toArray)) 6 (.int .i64 s.1)) 7 (.int .i64 s.2.1)) 8 (.int .i64 s.2.2))) hl13 ⟨_,rfl,(keep (keep (keep (keep (keep (keep rfl rfl) rfl) rfl) rfl) rfl) rfl)⟩ ?_ ?_
  ·rintro s10 L tm st ⟨tm0_s10,rfl,rfl⟩ h
   unfold slices_stableCmpFunc_int_l2 at h
   refine cx_seq (cx_seq (cx_region ?_))
   refine ox_y rfl (y_move_int rfl) ?_
   refine ox_y rfl (y_move_int rfl) ?_
   refine ox_y rfl (y_lss rfl rfl) ?_
   refine ox_nil (ex_then ?_)
   obtain ⟨hp12,h⟩:=guardO_some h
   refine cx_false (congrArg Value.bool hp12) ?_
   refine cx_exit ?_
   refine ex_then_exit ?_
   obtain rfl:=Option.some.inj h
   exact ex_stop ⟨rfl,_,rfl,(keep (keep (keep (keep (keep (keep rfl rfl) rfl) rfl) rfl) rfl) rfl)⟩
  ·intro e L tm hJ
   obtain ⟨rfl,tm0_u11,rfl,rfl⟩:=hJ
   refine ⟨(by intro hc; cases hc),?_⟩
   refine ex_block_here ?_
   obtain rfl:=Option.some.inj h
   exact ex_result0 (.inr rfl) rfl  (fun W2 hW2 => ⟨rfl,hn8,hW2.take 2⟩)

theorem slices_SortStableFunc_int_int_ok (p0_x:(List Int)) (p1_cmp:Int → Int → Option Int) (res:(List Int)) (h:slices_SortStableFunc_int_int p0_x p1_cmp = some res) (W:World) (w0:World) (R:Res) (A0_0:Option Addr) (n0_0 c0_0 : Nat) (hn0_0:n0_0 = p0_x.length) (fid1:Nat) (fst1 caps1 : List Value) (hgo1:goes Try.prog fid1 = true) (hof1:∀ W2,Below w0.heap.size w0 W2 → R.holds W2 → ∀ x0 x1,∀ y,p1_cmp x0 x1 = some y → Calls Try.prog fid1 (fst1 ++ (([.int .i64 x0,.int .i64 x1] : List Value) ++ caps1)).toArray W2 fun e W3 => e = .returned (.int .i64 y) ∧ Ext W2 W3 []) (hW:Ext w0 W [R,rowR A0_0 c0_0 3 1 n0_0 (encL cI p0_x)]) :
  Calls Try.prog 92 [.slice A0_0 n0_0 c0_0,.func (.func fid1) fst1.toArray caps1.toArray].toArray W fun e W2 => e = .returned (.tuple #[]) ∧ n0_0 = res.length ∧ Ext w0 W2 [R,rowR A0_0 c0_0 3 1 n0_0 (encL cI res)]:=by
 subst hn0_0
 unfold slices_SortStableFunc_int_int at h
 refine calls_enterB (m:=9) Try.func92 rfl rfl (Nat.le_of_ble_eq_true rfl) hW ?_
 refine cx_region ?_
 refine ox_y rfl (y_move_slice rfl) ?_
 refine ox_y rfl (y_move_slice rfl) ?_
 refine ox_y rfl (y_len (us:=[]) us_32 rfl) ?_
 refine ox_y rfl (y_move (v:=.func (.func fid1) fst1.toArray caps1.toArray) rfl) ?_
 obtain ⟨y1,hy2,h⟩:=bind_some h
 refine ox_callT 1 [.slice A0_0 p0_x.length c0_0,.int .i64 (p0_x.length:Int),.func (.func fid1) fst1.toArray caps1.toArray] (fun (_:Unit) => p0_x.length = y1.length) (fun _ => .tuple #[]) (fun _ => rowR A0_0 c0_0 3 1 p0_x.length (encL cI y1)) (fun _ => []) rfl rfl go_106 rfl (fun W2 hW2 => (slices_stableCmpFunc_int_ok p0_x (p0_x.length:Int) p1_cmp y1 hy2 W2 _ (restR [R,rowR A0_0 c0_0 3 1 p0_x.length (encL cI p0_x)] [1]) A0_0 p0_x.length c0_0 rfl fid1 fst1 caps1 hgo1 (fun W3 hb hR => hof1 W3 hb (hR.1 0 _ (by decide) rfl)) hW2).mono (fun e W3 h3 => ⟨(),h3.2.1,h3.1,h3.2.2⟩)) ?_
 rintro - hn3
 try dsimp only [lsz,lss,List.append_nil]
 refine ox_nil ?_
 obtain rfl:=Option.some.inj h
 exact ex_result0 (.inr rfl) rfl  (fun W2 hW2 => ⟨rfl,hn3,hW2.take 2⟩)

theorem cmp_Compare_int_ok (p0_x:Int) (p1_y:Int) (res:Int) (h:cmp_Compare_int p0_x p1_y = some res) (W:World)  :
  Calls Try.prog 94 [.int .i64 p0_x,.int .i64 p1_y].toArray W fun e W2 => e = .returned (.int .i64 res) ∧ Ext W W2 []:=by
 unfold cmp_Compare_int at h
 refine calls_enter (m:=20) Try.func94 rfl rfl (Nat.le_of_ble_eq_true rfl) ?_
 refine cx_seq (cx_region ?_)
 refine ox_y rfl (y_assign_int rfl) ?_
 refine ox_nil (ex_then (cx_seq (cx_region ?_)))
 refine ox_y rfl (y_move_int rfl) ?_
 obtain ⟨y1,hy2,h⟩:=bind_some h
 refine ox_y rfl (y_call [.int .i64 p0_x] go_107 rfl (fun W2 hW2 => cmp_isNaN_int_ok p0_x y1 hy2 W2 ) rfl) ?_
 refine ox_y rfl (y_assign_bool rfl) ?_
 refine ox_nil (ex_then (cx_seq (cx_region ?_)))
 refine ox_y rfl (y_move_int rfl) ?_
 obtain ⟨y3,hy4,h⟩:=bind_some h
 refine ox_y rfl (y_call [.int .i64 p1_y] go_107 rfl (fun W2 hW2 => cmp_isNaN_int_ok p1_y y3 hy4 W2 ) rfl) ?_
 refine ox_y rfl (y_assign_bool rfl) ?_
 refine ox_nil (ex_then (cx_seq (cx_seq (cx_region ?_))))
 refine ox_y rfl (y_move_bool rfl) ?_
 refine ox_nil (ex_then ?_)
 rcases ite_some h with ⟨hp5,h⟩ | ⟨hp5,h⟩
 ·refine cx_true (congrArg Value.bool hp5) ?_
  refine cx_seq (cx_seq (cx_region ?_))
  refine ox_y rfl (y_move_bool rfl) ?_
  refine ox_nil (ex_then ?_)
  rcases ite_some h with ⟨hp6,h⟩ | ⟨hp6,h⟩
  ·refine cx_true (congrArg Value.bool hp6) ?_
   refine cx_seq (cx_region ?_)
   refine ox_y rfl (y_assign_int rfl) ?_
   refine ox_nil (ex_then (cx_ret (ex_then_ret (ex_then_ret ?_))))
   obtain rfl:=Option.some.inj h
   exact ex_res1 (.inl rfl) rfl (resV_tmp (v:=.int .i64 0) rfl) (fun W2 hW2 => ⟨rfl,hW2.none⟩)
  ·refine cx_false (congrArg Value.bool hp6) ?_
   refine cx_skip (ex_then (cx_seq (cx_region ?_)))
   refine ox_y rfl (y_assign_int rfl) ?_
   refine ox_nil (ex_then (cx_ret (ex_then_ret ?_)))
   obtain rfl:=Option.some.inj h
   exact ex_res1 (.inl rfl) rfl (resV_tmp (v:=.int .i64 (-1)) rfl) (fun W2 hW2 => ⟨rfl,hW2.none⟩)
 ·refine cx_false (congrArg Value.bool hp5) ?_
  refine cx_skip (ex_then (cx_seq (cx_seq (cx_region ?_))))
  refine ox_y rfl (y_move_bool rfl) ?_
  refine ox_nil (ex_then ?_)
  rcases ite_some h with ⟨hp7,h⟩ | ⟨hp7,h⟩
  ·refine cx_true (congrArg Value.bool hp7) ?_
   refine cx_seq (cx_region ?_)
   refine ox_y rfl (y_assign_int rfl) ?_
   refine ox_nil (ex_then (cx_ret (ex_then_ret ?_)))
   obtain rfl:=Option.some.inj h
   exact ex_res1 (.inl rfl) rfl (resV_tmp (v:=.int .i64 1) rfl) (fun W2 hW2 => ⟨rfl,hW2.none⟩)
  ·refine cx_false (congrArg Value.bool hp7) ?_
   refine cx_skip (ex_then (cx_seq (cx_seq (cx_region ?_))))
   refine ox_y rfl (y_move_int rfl) ?_
   refine ox_y rfl (y_move_int rfl) ?_
   refine ox_y rfl (y_lss rfl rfl) ?_
   refine ox_nil (ex_then ?_)
   rcases ite_some h with ⟨hp8,h⟩ | ⟨hp8,h⟩
   ·refine cx_true (congrArg Value.bool hp8) ?_
    refine cx_seq (cx_region ?_)
    refine ox_y rfl (y_assign_int rfl) ?_
    refine ox_nil (ex_then (cx_ret (ex_then_ret ?_)))
    obtain rfl:=Option.some.inj h
    exact ex_res1 (.inl rfl) rfl (resV_tmp (v:=.int .i64 (-1)) rfl) (fun W2 hW2 => ⟨rfl,hW2.none⟩)
   ·refine cx_false (congrArg Value.bool hp8) ?_
    refine cx_skip (ex_then (cx_seq (cx_seq (cx_region ?_))))
    refine ox_y rfl (y_move_int rfl) ?_
    refine ox_y rfl (y_move_int rfl) ?_
    refine ox_y rfl (y_gtr rfl rfl) ?_
    refine ox_nil (ex_then ?_)
    rcases ite_some h with ⟨hp9,h⟩ | ⟨hp9,h⟩
    ·refine cx_true (congrArg Value.bool hp9) ?_
     refine cx_seq (cx_region ?_)
     refine ox_y rfl (y_assign_int rfl) ?_
     refine ox_nil (ex_then (cx_ret (ex_then_ret ?_)))
     obtain rfl:=Option.some.inj h
     exact ex_res1 (.inl rfl) rfl (resV_tmp (v:=.int .i64 1) rfl) (fun W2 hW2 => ⟨rfl,hW2.none⟩)
    ·refine cx_false (congrArg Value.bool hp9) ?_
     refine cx_skip (ex_then (cx_seq (cx_region ?_)))
     refine ox_y rfl (y_assign_int rfl) ?_
     refine ox_nil (ex_then (cx_ret ?_))
     obtain rfl:=Option.some.inj h
     exact ex_res1 (.inl rfl) rfl (resV_tmp (v:=.int .i64 0) rfl) (fun W2 hW2 => ⟨rfl,hW2.none⟩)

theorem recall_levels_1_ok (p0_a:Int) (p1_b:Int) (cap0:TLineage) (res:Int) (h:recall_levels_1 p0_a p1_b cap0 = some res) (W:World) (bc0:Nat) (A100_0:Option Addr) (n100_0 c100_0 : Nat) (hn100_0:n100_0 = cap0.fNodes.length) (hr100_0:Rd W A100_0 n100_0 c100_0 (encL TNode_cells cap0.fNodes)) (A100_1:Option Addr) (n100_1 c100_1 : Nat) (ys100_1:List (Hd × TClaim)) (hn100_1:n100_1 = cap0.fClaims.length) (hr100_1:Rd W A100_1 n100_1 c100_1 (encL TClaim_cells2 ys100_1)) (hN100_1:NestW W (fun z : TClaim => z.fOptions) THop_cells ys100_1 cap0.fClaims) (hcap0:Rd W (some ⟨bc0,0,none⟩) 1 1 [.slice A100_0 n100_0 c100_0,.slice A100_1 n100_1 c100_1]) :
  Calls Try.prog 93 [.int .i64 p0_a,.int .i64 p1_b,.pointer (some ⟨bc0,0,none⟩)].toArray W fun e W2 => e = .returned (.int .i64 res) ∧ Ext W W2 []:=by
 subst hn100_0
 subst hn100_1
 unfold recall_levels_1 at h
 refine calls_enter (m:=19) Try.func93 rfl rfl (Nat.le_of_ble_eq_true rfl) ?_
 refine cx_seq (cx_region ?_)
 refine ox_y rfl (y_assign_int rfl) ?_
 refine ox_nil (ex_then (cx_seq ?_))
 refine cx_draws 14 mixed (by kernel_rfl) (by kernel_rfl) ?_
 refine qx_y rfl (y_fieldAddrR (A:=(some ⟨bc0,0,none⟩)) (j:=0) fo_25_0 rfl) ?_
 refine qx_y rfl (y_loadR1 (A:=(some ⟨bc0,0,none⟩)) (j:=(0 + 0)) (v:=.slice A100_0 cap0.fNodes.length c100_0) sc_22 (RdL.arg hcap0) rfl rfl) ?_
 refine qx_y rfl (y_move_int rfl) ?_
 obtain ⟨hg1,h⟩:=guardO_some h
 refine qx_y rfl (y_indexR sl_22 (by decide) hg1.1 hg1.2 (RdL.arg hr100_0) (encL_len TNode_cells_len rfl) rfl rfl) ?_
 refine qx_y rfl (y_fieldAddrR (A:=A100_0) (j:=(Int.toNat p0_a * 3)) fo_41_1 rfl) ?_
 refine qx_y rfl (y_loadR1 (A:=A100_0) (j:=((Int.toNat p0_a * 3) + 1)) (v:=.int .i64 ((rdL cap0.fNodes p0_a).fLevel)) sc_3 (RdL.arg hr100_0) rfl (encL_get TNode_cells_len hg1.1 (lt_nat hg1.2 rfl) rfl)) ?_
 refine qx_y rfl (y_fieldAddrR (A:=(some ⟨bc0,0,none⟩)) (j:=0) fo_25_0 rfl) ?_
 refine qx_y rfl (y_loadR1 (A:=(some ⟨bc0,0,none⟩)) (j:=(0 + 0)) (v:=.slice A100_0 cap0.fNodes.length c100_0) sc_22 (RdL.arg hcap0) rfl rfl) ?_
 refine qx_y rfl (y_move_int rfl) ?_
 obtain ⟨hg2,h⟩:=guardO_some h
 refine qx_y rfl (y_indexR sl_22 (by decide) hg2.1 hg2.2 (RdL.arg hr100_0) (encL_len TNode_cells_len rfl) rfl rfl) ?_
 refine qx_y rfl (y_fieldAddrR (A:=A100_0) (j:=(Int.toNat p1_b * 3)) fo_41_1 rfl) ?_
 refine qx_y rfl (y_loadR1 (A:=A100_0) (j:=((Int.toNat p1_b * 3) + 1)) (v:=.int .i64 ((rdL cap0.fNodes p1_b).fLevel)) sc_3 (RdL.arg hr100_0) rfl (encL_get TNode_cells_len hg2.1 (lt_nat hg2.2 rfl) rfl)) ?_
 obtain ⟨y3,hy4,h⟩:=bind_some h
 refine qx_y rfl (y_call [.int .i64 ((rdL cap0.fNodes p0_a).fLevel),.int .i64 ((rdL cap0.fNodes p1_b).fLevel)] go_94 rfl (fun W2 hW2 => cmp_Compare_int_ok ((rdL cap0.fNodes p0_a).fLevel) ((rdL cap0.fNodes p1_b).fLevel) y3 hy4 W2 ) rfl) ?_
 refine qx_y rfl (y_assign_int rfl) ?_
 refine qx_nil ?_
 refine ox_nil (ex_then (cx_ret ?_))
 obtain rfl:=Option.some.inj h
 exact ex_res1 (.inl rfl) rfl (resV_tmp (v:=.int .i64 y3) rfl) (fun W2 hW2 => ⟨rfl,hW2.none⟩)

theorem recall_levels_ok (p0_l:TLineage) (res:(List Int)) (h:recall_levels p0_l = some res) (W:World) (A0_0:Option Addr) (n0_0 c0_0 : Nat) (hn0_0:n0_0 = p0_l.fNodes.length) (hr0_0:Rd W A0_0 n0_0 c0_0 (encL TNode_cells p0_l.fNodes)) (A0_1:Option Addr) (n0_1 c0_1 : Nat) (ys0_1:List (Hd × TClaim)) (hn0_1:n0_1 = p0_l.fClaims.length) (hr0_1:Rd W A0_1 n0_1 c0_1 (encL TClaim_cells2 ys0_1)) (hN0_1:NestW W (fun z : TClaim => z.fOptions) THop_cells ys0_1 p0_l.fClaims) :
  Calls Try.prog 77 [.agg #[.slice A0_0 n0_0 c0_0,.slice A0_1 n0_1 c0_1]].toArray W fun e W2 => ∃ x : Option Addr × Nat × Nat,x.2.1 = res.length ∧ e = .returned (.slice x.1 x.2.1 x.2.2) ∧ Ext W W2 [rowR x.1 x.2.2 3 1 x.2.1 (encL cI res)]:=by
 subst hn0_0
 subst hn0_1
 unfold recall_levels at h
 refine calls_enter (m:=23) Try.func77 rfl rfl (Nat.le_of_ble_eq_true rfl) ?_
 refine cx_seq (cx_region ?_)
 refine ox_box [.slice A0_0 p0_l.fNodes.length c0_0,.slice A0_1 p0_l.fClaims.length c0_1] rfl rfl rfl (fun b1 => ?_)
 refine ox_y rfl (y_assign_slice rfl) ?_
 refine ox_nil (ex_then (cx_seq (cx_region ?_)))
 refine ox_y rfl (y_fieldAddr fo_25_0 rfl) ?_
 refine ox_y rfl (y_load1 0 (v:=.slice A0_0 p0_l.fNodes.length c0_0) sc_22 rfl rfl rfl) ?_
 refine ox_y rfl (y_len (us:=[]) us_22 rfl) ?_
 obtain ⟨hg3,h⟩:=guardO_some h
 refine ox_make (encL cI (List.replicate (Int.toNat (p0_l.fNodes.length:Int)) 0)) us_32 ze_3 by_3 hg3.1 hg3.2 rfl (made_enc _ _ _ rfl rfl) rfl (fun b2 => ?_)
 refine ox_y rfl (y_assign_slice rfl) ?_
 refine ox_nil (ex_then (cx_seq (cx_seq (cx_region ?_))))
 refine ox_y rfl (y_move_slice rfl) ?_
 refine ox_y rfl (y_len (us:=[]) us_32 rfl) ?_
 refine ox_y rfl (y_move_int rfl) ?_
 refine ox_nil (ex_then (cx_block ?_))
 obtain ⟨u7,hl10,h⟩:=bind_some h
 refine cx_loop (fun (s:(Int × (List Int))) L tm => ∃ (tm0:Nat → Value),Int.toNat (p0_l.fNodes.length:Int) = s.2.length ∧ L = [cellsR b1 25 [.slice A0_0 p0_l.fNodes.length c0_0,.slice A0_1 p0_l.fClaims.length c0_1],rowR (some ⟨b2,0,none⟩) (Int.toNat (p0_l.fNodes.length:Int)) 3 1 (Int.toNat (p0_l.fNodes.length:Int)) (encL cI s.2)] ∧ tm = (upd (upd (upd (upd (upd (upd tm0 0 (.agg #[.slice A0_0 p0_l.fNodes.length c0_0,.slice A0_1 p0_l.fClaims.length c0_1])) 1 (.pointer (some ⟨b1,0,none⟩))) 2 (.slice none 0 0)) 3 (.slice (some ⟨b2,0,none⟩) (Int.toNat (p0_l.fNodes.length:Int)) (Int.toNat (p0_l.fNodes.length:Int)))) 10 (.int .i64 ((Int.toNat (p0_l.fNodes.length:Int) : Nat) : Int))) 11 (.int .i64 s.1))) (fun s e L tm => e = .exit 0 ∧ ∃ (tm0:Nat → Value),Int.toNat (p0_l.fNodes.length:Int) = s.2.length ∧ L = [cellsR b1 25 [.slice A0_0 p0_l.fNodes.length c0_0,.slice A0_1 p0_l.fClaims.length c0_1],rowR (some ⟨b2,0,none⟩) (Int.toNat (p0_l.fNodes.length:Int)) 3 1 (Int.toNat (p0_l.fNodes.length:Int)) (encL cI s.2)] ∧ tm = (upd (upd (upd (upd (upd (upd tm0 0 (.agg #[.slice A0_0 p0_l.fNodes.length c0_0,.slice A0_1 p0_l.fClaims.length c0_1])) 1 (.pointer (some ⟨b1,0,none⟩))) 2 (.slice none 0 0)) 3 (.slice (some ⟨b2,0,none⟩) (Int.toNat (p0_l.fNodes.length:Int)) (Int.toNat (p0_l.fNodes.length:Int)))) 10 (.int .i64 ((Int.toNat (p0_l.fNodes.length:Int) : Nat) : Int))) 11 (.int .i64 s.1))) hl10 ⟨_,(List.length_replicate).symm,rfl,(keep (keep (keep (keep (keep (keep rfl rfl) rfl) rfl) rfl) rfl) rfl)⟩ ?_ ?_
 ·rintro s6 L tm st ⟨tm0_s6,hn1_s6,rfl,rfl⟩ h
  unfold recall_levels_l1 at h
  refine cx_seq (cx_region ?_)
  refine ox_y rfl (y_lss rfl rfl) ?_
  refine ox_nil (ex_then (cx_seq ?_))
  rcases ite_some h with ⟨hp8,h⟩ | ⟨hp8,h⟩
  ·refine cx_true (congrArg Value.bool hp8) ?_
   refine cx_skip (ex_then (cx_seq (cx_block (cx_seq (cx_region ?_)))))
   refine ox_y rfl (y_move_int rfl) ?_
   refine ox_y rfl (y_assign_int rfl) ?_
   refine ox_nil (ex_then (cx_region ?_))
   refine ox_y rfl (y_move_slice rfl) ?_
   refine ox_y rfl (y_move_int rfl) ?_
   refine ox_y rfl (y_move_int rfl) ?_
   obtain ⟨hg9,h⟩:=guardO_some h
   refine ox_y rfl (y_indexR sl_32 (by decide) hg9.1 hg9.2 (RdL.row 1 rfl) (encL_len cI_len hn1_s6) rfl rfl) ?_
   refine ox_n rfl (y_storeR1 1 (xs:=s6.2) cI_len s6.1 sz_3 rfl hg9.1 (lt_nat hg9.2 hn1_s6) rfl rfl rfl rfl) ?_
   refine ox_nil ?_
   refine ex_block ?_
   refine ex_then (cx_region ?_)
   refine ox_y rfl (y_add rfl rfl) ?_
   refine ox_y rfl (y_move_int rfl) ?_
   refine ox_nil ?_
   obtain rfl:=Option.some.inj h
   exact ex_next ⟨_,(hn_set hn1_s6),rfl,(keep (keep (keep (keep (keep (keep rfl rfl) rfl) rfl) rfl) rfl) rfl)⟩
  ·refine cx_false (congrArg Value.bool hp8) ?_
   refine cx_exit ?_
   refine ex_then_exit ?_
   obtain rfl:=Option.some.inj h
   exact ex_stop ⟨rfl,_,hn1_s6,rfl,(keep (keep (keep (keep (keep (keep rfl rfl) rfl) rfl) rfl) rfl) rfl)⟩
 ·intro e L tm hJ
  obtain ⟨rfl,tm0_u7,hn1_u7,rfl,rfl⟩:=hJ
  refine ⟨(by intro hc; cases hc),?_⟩
  refine ex_block_here ?_
  refine ex_then (cx_seq (cx_region ?_))
  refine ox_y rfl (y_move_slice rfl) ?_
  refine ox_y rfl (y_makeFunc [.pointer (some ⟨b1,0,none⟩)] rfl rfl) ?_
  obtain ⟨y13,hy14,h⟩:=bind_some h
  refine ox_callT 1 [.slice (some ⟨b2,0,none⟩) (Int.toNat (p0_l.fNodes.length:Int)) (Int.toNat (p0_l.fNodes.length:Int)),.func (.func 93) #[] #[.pointer (some ⟨b1,0,none⟩)]] (fun (_:Unit) => Int.toNat (p0_l.fNodes.length:Int) = y13.length) (fun _ => .tuple #[]) (fun _ => rowR (some ⟨b2,0,none⟩) (Int.toNat (p0_l.fNodes.length:Int)) 3 1 (Int.toNat (p0_l.fNodes.length:Int)) (encL cI y13)) (fun _ => []) rfl rfl go_92 rfl (fun W2 hW2 => (slices_SortStableFunc_int_int_ok u7.2 (fun x11 x12 => recall_levels_1 x11 x12 p0_l) y13 hy14 W2 _ (restR [cellsR b1 25 [.slice A0_0 p0_l.fNodes.length c0_0,.slice A0_1 p0_l.fClaims.length c0_1],rowR (some ⟨b2,0,none⟩) (Int.toNat (p0_l.fNodes.length:Int)) 3 1 (Int.toNat (p0_l.fNodes.length:Int)) (encL cI u7.2)] [1]) (some ⟨b2,0,none⟩) (Int.toNat (p0_l.fNodes.length:Int)) (Int.toNat (p0_l.fNodes.length:Int)) (hn1_u7) 93 [] [.pointer (some ⟨b1,0,none⟩)] go_93 (fun W3 hb hR x0 x1 y hxy => recall_levels_1_ok  x0 x1 p0_l y hxy W3 b1 A0_0 p0_l.fNodes.length c0_0 rfl ((RdL.arg hr0_0) W3 (hW2.rest hb hR)) A0_1 p0_l.fClaims.length c0_1 ys0_1 rfl ((RdL.arg hr0_1) W3 (hW2.rest hb hR)) (NestL.at (NestL.arg hN0_1) W3 (hW2.rest hb hR)) ((RdL.cells 0 rfl) W3 (hW2.rest hb hR))) hW2).mono (fun e W3 h3 => ⟨(),h3.2.1,h3.1,h3.2.2⟩)) ?_
  rintro - hn15
  try dsimp only [lsz,lss,List.append_nil]
  refine ox_nil (ex_then (cx_seq (cx_region ?_)))
  refine ox_y rfl (y_move_slice rfl) ?_
  refine ox_y rfl (y_assign_slice rfl) ?_
  refine ox_nil (ex_then (cx_ret ?_))
  obtain rfl:=Option.some.inj h
  exact ex_res1 (.inl rfl) rfl (resV_tmp (v:=.slice (some ⟨b2,0,none⟩) (Int.toNat (p0_l.fNodes.length:Int)) (Int.toNat (p0_l.fNodes.length:Int))) rfl) (fun W2 hW2 => ⟨((some ⟨b2,0,none⟩),Int.toNat (p0_l.fNodes.length:Int),Int.toNat (p0_l.fNodes.length:Int)),hn15,rfl,(hW2.pick 1 rfl)⟩)

end Go.Proofs.Ytbblpokfbmekfaa
