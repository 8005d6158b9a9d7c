import Derived.Test.YtbblpokfbmekfaaF
import Derived.Test.YtbblpokfbmekfaaC1
import Derived.Test.YtbblpokfbmekfaaC5
/- The calls hand back what the plain functions say. -/
set_option linter.unusedVariables false
set_option maxHeartbeats 4000000
set_option maxRecDepth 100000
namespace Go.Proofs.Ytbblpokfbmekfaa
open Go.RowKit (Below)
attribute [local irreducible] OX QX CX EX OpY Calls CallsIn

theorem ref09_count_ok (p0_l:TLineage) (res:Int) (h:ref09_count p0_l = some res) (W:World) (A0_0:Option Addr) (n0_0 c0_0 : Nat) (hn0_0:n0_0 = p0_l.fNodes.length) (hr0_0:Rd W A0_0 n0_0 c0_0 (encL TNode_cells p0_l.fNodes)) (A0_1:Option Addr) (n0_1 c0_1 : Nat) (ys0_1:List (Hd × TClaim)) (hn0_1:n0_1 = p0_l.fClaims.length) (hr0_1:Rd W A0_1 n0_1 c0_1 (encL TClaim_cells2 ys0_1)) (hN0_1:NestW W (fun z : TClaim => z.fOptions) THop_cells ys0_1 p0_l.fClaims) :
  Calls Try.prog 34 [.agg #[.slice A0_0 n0_0 c0_0,.slice A0_1 n0_1 c0_1]].toArray W fun e W2 => e = .returned (.int .i64 res) ∧ Ext W W2 []:=by
 subst hn0_0
 subst hn0_1
 unfold ref09_count at h
 refine calls_enter (m:=23) Try.func34 rfl rfl (Nat.le_of_ble_eq_true rfl) ?_
 refine cx_seq (cx_region ?_)
 refine ox_box [.slice A0_0 p0_l.fNodes.length c0_0,.slice A0_1 p0_l.fClaims.length c0_1] rfl rfl rfl (fun b1 => ?_)
 refine ox_y rfl (y_assign_int rfl) ?_
 refine ox_nil (ex_then (cx_seq (cx_region ?_)))
 refine ox_y rfl (y_assign_int rfl) ?_
 refine ox_nil (ex_then (cx_seq (cx_seq (cx_region ?_))))
 refine ox_y rfl (y_assign_int rfl) ?_
 refine ox_nil (ex_then (cx_block ?_))
 obtain ⟨u4,hl7,h⟩:=bind_some h
 refine cx_loop (fun (s:(Int × Int)) L tm => ∃ (tm0:Nat → Value),L = [cellsR b1 25 [.slice A0_0 p0_l.fNodes.length c0_0,.slice A0_1 p0_l.fClaims.length c0_1]] ∧ tm = (upd (upd (upd (upd (upd tm0 0 (.agg #[.slice A0_0 p0_l.fNodes.length c0_0,.slice A0_1 p0_l.fClaims.length c0_1])) 1 (.pointer (some ⟨b1,0,none⟩))) 2 (.int .i64 0)) 3 (.int .i64 s.1)) 4 (.int .i64 s.2))) (fun s e L tm => e = .exit 0 ∧ ∃ (tm0:Nat → Value),L = [cellsR b1 25 [.slice A0_0 p0_l.fNodes.length c0_0,.slice A0_1 p0_l.fClaims.length c0_1]] ∧ tm = (upd (upd (upd (upd (upd tm0 0 (.agg #[.slice A0_0 p0_l.fNodes.length c0_0,.slice A0_1 p0_l.fClaims.length c0_1])) 1 (.pointer (some ⟨b1,0,none⟩))) 2 (.int .i64 0)) 3 (.int .i64 s.1)) 4 (.int .i64 s.2))) hl7 ⟨_,rfl,(keep (keep (keep (keep (keep rfl rfl) rfl) rfl) rfl) rfl)⟩ ?_ ?_
 ·rintro s3 L tm st ⟨tm0_s3,rfl,rfl⟩ h
  unfold ref09_count_l1 at h
  refine cx_seq (cx_seq (cx_region ?_))
  refine ox_y rfl (y_move_int rfl) ?_
  refine ox_y rfl (y_fieldAddr fo_25_1 rfl) ?_
  refine ox_y rfl (y_load1 0 (v:=.slice A0_1 p0_l.fClaims.length c0_1) sc_23 rfl rfl rfl) ?_
  refine ox_y rfl (y_len (us:=[]) us_23 rfl) ?_
  refine ox_y rfl (y_lss rfl rfl) ?_
  refine ox_nil (ex_then ?_)
  rcases ite_some h with ⟨hp5,h⟩ | ⟨hp5,h⟩
  ·refine cx_true (congrArg Value.bool hp5) ?_
   refine cx_skip (ex_then (cx_seq (cx_block (cx_region ?_))))
   refine ox_y rfl (y_move_int rfl) ?_
   refine ox_y rfl (y_fieldAddr fo_25_1 rfl) ?_
   refine ox_y rfl (y_load1 0 (v:=.slice A0_1 p0_l.fClaims.length c0_1) sc_23 rfl rfl rfl) ?_
   refine ox_y rfl (y_move_int rfl) ?_
   obtain ⟨hg6,h⟩:=guardO_some h
   refine ox_y rfl (y_indexR sl_23 (by decide) hg6.1 hg6.2 (RdL.arg hr0_1) (encL_len TClaim_cells2_len (NestP.hn hN0_1.p rfl)) rfl rfl) ?_
   refine ox_y rfl (y_fieldAddrR (A:=A0_1) (j:=(Int.toNat s3.2 * 2)) fo_35_1 rfl) ?_
   refine ox_y rfl (y_loadR1 (A:=A0_1) (j:=((Int.toNat s3.2 * 2) + 1)) (v:=.slice ((rdL ys0_1 s3.2).1.1) ((rdL p0_l.fClaims s3.2).fOptions.length) ((rdL ys0_1 s3.2).1.2.2)) sc_33 (RdL.arg hr0_1) rfl (encL_get TClaim_cells2_len hg6.1 (lt_nat hg6.2 (NestP.hn hN0_1.p rfl)) (congrArg (fun n : Nat => some (Value.slice (rdL ys0_1 s3.2).1.1 n (rdL ys0_1 s3.2).1.2.2)) (NestP.len hN0_1.p hg6.1 (lt_nat hg6.2 rfl))))) ?_
   refine ox_y rfl (y_len (us:=[]) us_33 rfl) ?_
   refine ox_y rfl (y_mul rfl rfl) ?_
   refine ox_y rfl (y_min rfl rfl) ?_
   refine ox_y rfl (y_assign_int rfl) ?_
   refine ox_nil ?_
   refine ex_block ?_
   refine ex_then (cx_region ?_)
   refine ox_y rfl (y_move_int rfl) ?_
   refine ox_y rfl (y_add rfl rfl) ?_
   refine ox_y rfl (y_assign_int rfl) ?_
   refine ox_nil ?_
   obtain rfl:=Option.some.inj h
   exact ex_next ⟨_,rfl,(keep (keep (keep (keep (keep rfl rfl) rfl) rfl) rfl) rfl)⟩
  ·refine cx_false (congrArg Value.bool hp5) ?_
   refine cx_exit ?_
   refine ex_then_exit ?_
   obtain rfl:=Option.some.inj h
   exact ex_stop ⟨rfl,_,rfl,(keep (keep (keep (keep (keep rfl rfl) rfl) rfl) rfl) rfl)⟩
 ·intro e L tm hJ
  obtain ⟨rfl,tm0_u4,rfl,rfl⟩:=hJ
  refine ⟨(by intro hc; cases hc),?_⟩
  refine ex_block_here ?_
  refine ex_then (cx_seq (cx_region ?_))
  refine ox_y rfl (y_move_int rfl) ?_
  refine ox_y rfl (y_assign_int rfl) ?_
  refine ox_nil (ex_then (cx_ret ?_))
  obtain rfl:=Option.some.inj h
  exact ex_res1 (.inl rfl) rfl (resV_tmp (v:=.int .i64 u4.1) rfl) (fun W2 hW2 => ⟨rfl,hW2.none⟩)

theorem ref09_in_ok (p0_n:Int) (p1_lo:Int) (p2_hi:Int) (res:Bool) (h:ref09_in p0_n p1_lo p2_hi = some res) (W:World)  :
  Calls Try.prog 39 [.int .i64 p0_n,.int .i64 p1_lo,.int .i64 p2_hi].toArray W fun e W2 => e = .returned (.bool res) ∧ Ext W W2 []:=by
 unfold ref09_in at h
 refine calls_enter (m:=15) Try.func39 rfl rfl (Nat.le_of_ble_eq_true rfl) ?_
 refine cx_seq (cx_region ?_)
 refine ox_y rfl (y_assign_bool rfl) ?_
 refine ox_nil (ex_then (cx_seq (cx_region ?_)))
 refine ox_y rfl (y_move_int rfl) ?_
 refine ox_y rfl (y_move_int rfl) ?_
 refine ox_y rfl (y_geq rfl rfl) ?_
 refine ox_y rfl (y_move_bool rfl) ?_
 refine ox_join 4 (fun tm0 => (upd (upd tm0 6 (.bool false)) 14 (.bool ((decide (p1_lo ≤ p0_n)) && (decide (p0_n ≤ p2_hi)))))) (fun tm0 => ?_) (fun key => ?_)
 ·refine ox_y rfl (y_assign_bool rfl) ?_
  refine ox_nil (ex_then (cx_ret ?_))
  obtain rfl:=Option.some.inj h
  exact ex_res1 (.inl rfl) rfl (resV_tmp (v:=.bool ((decide (p1_lo ≤ p0_n)) && (decide (p0_n ≤ p2_hi)))) rfl) (fun W2 hW2 => ⟨rfl,hW2.none⟩)
 ·rcases bool_cases (decide (p1_lo ≤ p0_n)) with hp1 | hp1
  ·refine ox_y (sees_t rfl rfl rfl rfl hp1) (y_move_int rfl) ?_
   refine ox_y (sees_t rfl rfl rfl rfl hp1) (y_move_int rfl) ?_
   refine ox_y (sees_t rfl rfl rfl rfl hp1) (y_leq rfl rfl) ?_
   refine ox_y rfl (y_pick_tb (congrArg Value.bool hp1) rfl) ?_
   exact key _ _ (keep (keep rfl rfl) (congrArg Value.bool (and_t hp1)))
  ·refine ox_skip (sees_f rfl rfl rfl rfl hp1) ?_
   refine ox_skip (sees_f rfl rfl rfl rfl hp1) ?_
   refine ox_skip (sees_f rfl rfl rfl rfl hp1) ?_
   refine ox_y rfl (y_pick_fb (congrArg Value.bool hp1) rfl) ?_
   exact key _ _ (keep (keep rfl rfl) (congrArg Value.bool (and_f hp1)))

theorem ref09_Node_ok (p0_l:TLineage) (p1_id:Int) (res:Int) (h:ref09_Node p0_l p1_id = some res) (W:World) (A0_0:Option Addr) (n0_0 c0_0 : Nat) (hn0_0:n0_0 = p0_l.fNodes.length) (hr0_0:Rd W A0_0 n0_0 c0_0 (encL TNode_cells p0_l.fNodes)) (A0_1:Option Addr) (n0_1 c0_1 : Nat) (ys0_1:List (Hd × TClaim)) (hn0_1:n0_1 = p0_l.fClaims.length) (hr0_1:Rd W A0_1 n0_1 c0_1 (encL TClaim_cells2 ys0_1)) (hN0_1:NestW W (fun z : TClaim => z.fOptions) THop_cells ys0_1 p0_l.fClaims) :
  Calls Try.prog 40 [.agg #[.slice A0_0 n0_0 c0_0,.slice A0_1 n0_1 c0_1],.int .i64 p1_id].toArray W fun e W2 => e = .returned (.int .i64 res) ∧ Ext W W2 []:=by
 subst hn0_0
 subst hn0_1
 unfold ref09_Node at h
 refine calls_enter (m:=22) Try.func40 rfl rfl (Nat.le_of_ble_eq_true rfl) ?_
 refine cx_seq (cx_region ?_)
 refine ox_box [.slice A0_0 p0_l.fNodes.length c0_0,.slice A0_1 p0_l.fClaims.length c0_1] rfl rfl rfl (fun b1 => ?_)
 refine ox_y rfl (y_assign_int rfl) ?_
 refine ox_nil (ex_then (cx_seq (cx_seq (cx_region ?_))))
 refine ox_y rfl (y_assign_int rfl) ?_
 refine ox_nil (ex_then (cx_block ?_))
 obtain ⟨u4,hl8,h⟩:=bind_some h
 refine cx_loop (fun (s:(Int × Int)) L tm => ∃ (tm0:Nat → Value),L = [cellsR b1 25 [.slice A0_0 p0_l.fNodes.length c0_0,.slice A0_1 p0_l.fClaims.length c0_1]] ∧ tm = (upd (upd (upd (upd (upd tm0 0 (.agg #[.slice A0_0 p0_l.fNodes.length c0_0,.slice A0_1 p0_l.fClaims.length c0_1])) 1 (.int .i64 p1_id)) 2 (.pointer (some ⟨b1,0,none⟩))) 4 (.int .i64 s.1)) 5 (.int .i64 s.2))) (fun | (.inl s),e,L,tm => e = .ret ∧ ∃ (tm0:Nat → Value),L = [cellsR b1 25 [.slice A0_0 p0_l.fNodes.length c0_0,.slice A0_1 p0_l.fClaims.length c0_1]] ∧ tm = (upd (upd (upd (upd (upd tm0 0 (.agg #[.slice A0_0 p0_l.fNodes.length c0_0,.slice A0_1 p0_l.fClaims.length c0_1])) 1 (.int .i64 p1_id)) 2 (.pointer (some ⟨b1,0,none⟩))) 4 (.int .i64 s.1)) 5 (.int .i64 s.2)) | (.inr s),e,L,tm => e = .exit 0 ∧ ∃ (tm0:Nat → Value),L = [cellsR b1 25 [.slice A0_0 p0_l.fNodes.length c0_0,.slice A0_1 p0_l.fClaims.length c0_1]] ∧ tm = (upd (upd (upd (upd (upd tm0 0 (.agg #[.slice A0_0 p0_l.fNodes.length c0_0,.slice A0_1 p0_l.fClaims.length c0_1])) 1 (.int .i64 p1_id)) 2 (.pointer (some ⟨b1,0,none⟩))) 4 (.int .i64 s.1)) 5 (.int .i64 s.2))) hl8 ⟨_,rfl,(keep (keep (keep (keep (keep rfl rfl) rfl) rfl) rfl) rfl)⟩ ?_ ?_
 ·rintro s3 L tm st ⟨tm0_s3,rfl,rfl⟩ h
  unfold ref09_Node_l1 at h
  refine cx_seq (cx_seq (cx_region ?_))
  refine ox_y rfl (y_move_int rfl) ?_
  refine ox_y rfl (y_fieldAddr fo_25_0 rfl) ?_
  refine ox_y rfl (y_load1 0 (v:=.slice A0_0 p0_l.fNodes.length c0_0) sc_22 rfl rfl rfl) ?_
  refine ox_y rfl (y_len (us:=[]) us_22 rfl) ?_
  refine ox_y rfl (y_lss rfl rfl) ?_
  refine ox_nil (ex_then ?_)
  rcases ite_some h with ⟨hp5,h⟩ | ⟨hp5,h⟩
  ·refine cx_true (congrArg Value.bool hp5) ?_
   refine cx_skip (ex_then (cx_seq (cx_block (cx_seq (cx_region ?_)))))
   refine ox_y rfl (y_fieldAddr fo_25_0 rfl) ?_
   refine ox_y rfl (y_load1 0 (v:=.slice A0_0 p0_l.fNodes.length c0_0) sc_22 rfl rfl rfl) ?_
   refine ox_y rfl (y_move_int rfl) ?_
   obtain ⟨hg6,h⟩:=guardO_some h
   refine ox_y rfl (y_indexR sl_22 (by decide) hg6.1 hg6.2 (RdL.arg hr0_0) (encL_len TNode_cells_len rfl) rfl rfl) ?_
   refine ox_y rfl (y_fieldAddrR (A:=A0_0) (j:=(Int.toNat s3.2 * 3)) fo_41_0 rfl) ?_
   refine ox_y rfl (y_loadR1 (A:=A0_0) (j:=((Int.toNat s3.2 * 3) + 0)) (v:=.int .i64 ((rdL p0_l.fNodes s3.2).fID)) sc_3 (RdL.arg hr0_0) rfl (encL_get TNode_cells_len hg6.1 (lt_nat hg6.2 rfl) rfl)) ?_
   refine ox_y rfl (y_move_int rfl) ?_
   refine ox_y rfl (y_eql rfl rfl) ?_
   refine ox_nil (ex_then ?_)
   rcases ite_some h with ⟨hp7,h⟩ | ⟨hp7,h⟩
   ·refine cx_true (congrArg Value.bool hp7) ?_
    refine cx_seq (cx_region ?_)
    refine ox_y rfl (y_move_int rfl) ?_
    refine ox_y rfl (y_assign_int rfl) ?_
    refine ox_nil (ex_then (cx_ret (ex_block_ret (ex_then_ret ?_))))
    obtain rfl:=Option.some.inj h
    exact ex_stop ⟨rfl,_,rfl,(keep (keep (keep (keep (keep rfl rfl) rfl) rfl) rfl) rfl)⟩
   ·refine cx_false (congrArg Value.bool hp7) ?_
    refine cx_skip ?_
    refine ex_block ?_
    refine ex_then (cx_region ?_)
    refine ox_y rfl (y_move_int rfl) ?_
    refine ox_y rfl (y_add rfl rfl) ?_
    refine ox_y rfl (y_assign_int rfl) ?_
    refine ox_nil ?_
    obtain rfl:=Option.some.inj h
    exact ex_next ⟨_,rfl,(keep (keep (keep (keep (keep rfl rfl) rfl) rfl) rfl) rfl)⟩
  ·refine cx_false (congrArg Value.bool hp5) ?_
   refine cx_exit ?_
   refine ex_then_exit ?_
   obtain rfl:=Option.some.inj h
   exact ex_stop ⟨rfl,_,rfl,(keep (keep (keep (keep (keep rfl rfl) rfl) rfl) rfl) rfl)⟩
 ·intro e L tm hJ
  rcases u4 with u9 | u10
  ·dsimp only at h hJ
   obtain ⟨rfl,tm0_u9,rfl,rfl⟩:=hJ
   refine ⟨(by intro hc; cases hc),?_⟩
   refine ex_block_ret (ex_then_ret ?_)
   obtain rfl:=Option.some.inj h
   exact ex_res1 (.inl rfl) rfl (resV_tmp (v:=.int .i64 u9.1) rfl) (fun W2 hW2 => ⟨rfl,hW2.none⟩)
  ·dsimp only at h hJ
   obtain ⟨rfl,tm0_u10,rfl,rfl⟩:=hJ
   refine ⟨(by intro hc; cases hc),?_⟩
   refine ex_block_here ?_
   refine ex_then (cx_seq (cx_region ?_))
   refine ox_y rfl (y_assign_int rfl) ?_
   refine ox_nil (ex_then (cx_ret ?_))
   obtain rfl:=Option.some.inj h
   exact ex_res1 (.inl rfl) rfl (resV_tmp (v:=.int .i64 (-1)) rfl) (fun W2 hW2 => ⟨rfl,hW2.none⟩)

theorem ref09_claim_ok (p0:TLineage) (p1:TClaim) (res:Bool) (h:ref09_claim p0 p1 = some res) (W:World) (A0_0:Option Addr) (n0_0 c0_0 : Nat) (hn0_0:n0_0 = p0.fNodes.length) (hr0_0:Rd W A0_0 n0_0 c0_0 (encL TNode_cells p0.fNodes)) (A0_1:Option Addr) (n0_1 c0_1 : Nat) (ys0_1:List (Hd × TClaim)) (hn0_1:n0_1 = p0.fClaims.length) (hr0_1:Rd W A0_1 n0_1 c0_1 (encL TClaim_cells2 ys0_1)) (hN0_1:NestW W (fun z : TClaim => z.fOptions) THop_cells ys0_1 p0.fClaims) (A1_1:Option Addr) (n1_1 c1_1 : Nat) (hn1_1:n1_1 = p1.fOptions.length) (hr1_1:Rd W A1_1 n1_1 c1_1 (encL THop_cells p1.fOptions)) :
  Calls Try.prog 41 [.agg #[.slice A0_0 n0_0 c0_0,.slice A0_1 n0_1 c0_1],.agg #[.int .i64 p1.fID,.slice A1_1 n1_1 c1_1]].toArray W fun e W2 => e = .returned (.bool res) ∧ Ext W W2 []:=by
 subst hn0_0
 subst hn0_1
 subst hn1_1
 unfold ref09_claim at h
 refine calls_enter (m:=80) Try.func41 rfl rfl (Nat.le_of_ble_eq_true rfl) ?_
 refine cx_seq (cx_region ?_)
 refine ox_box [.slice A0_0 p0.fNodes.length c0_0,.slice A0_1 p0.fClaims.length c0_1] rfl rfl rfl (fun b1 => ?_)
 refine ox_box [.int .i64 p1.fID,.slice A1_1 p1.fOptions.length c1_1] rfl rfl rfl (fun b2 => ?_)
 refine ox_y rfl (y_assign_bool rfl) ?_
 refine ox_nil (ex_then (cx_seq (cx_seq (cx_region ?_))))
 refine ox_y rfl (y_fieldAddr fo_35_0 rfl) ?_
 refine ox_y rfl (y_load1 1 (v:=.int .i64 p1.fID) sc_3 rfl rfl rfl) ?_
 obtain ⟨y3,hy4,h⟩:=bind_some h
 refine ox_y rfl (y_call [.int .i64 p1.fID,.int .i64 1,.int .i64 1099511627776] go_39 rfl (fun W2 hW2 => ref09_in_ok p1.fID 1 1099511627776 y3 hy4 W2 ) rfl) ?_
 refine ox_y rfl (y_not rfl) ?_
 refine ox_y rfl (y_move_bool rfl) ?_
 obtain ⟨b6,hb7,h⟩:=bind_some h
 refine ox_join 6 (fun tm0 => (upd (upd (upd (upd tm0 2 (.pointer (some ⟨b1,0,none⟩))) 3 (.pointer (some ⟨b2,0,none⟩))) 4 (.bool false)) 19 (.bool b6))) (fun tm0 => ?_) (fun key => ?_)
 ·refine ox_nil (ex_then ?_)
  rcases ite_some h with ⟨hp8,h⟩ | ⟨hp8,h⟩
  ·refine cx_true (congrArg Value.bool hp8) ?_
   refine cx_seq (cx_region ?_)
   refine ox_y rfl (y_assign_bool rfl) ?_
   refine ox_nil (ex_then (cx_ret (ex_then_ret ?_)))
   obtain rfl:=Option.some.inj h
   exact ex_res1 (.inl rfl) rfl (resV_tmp (v:=.bool false) rfl) (fun W2 hW2 => ⟨rfl,hW2.none⟩)
  ·refine cx_false (congrArg Value.bool hp8) ?_
   refine cx_skip (ex_then (cx_seq (cx_seq (cx_region ?_))))
   refine ox_y rfl (y_assign_int rfl) ?_
   refine ox_nil (ex_then (cx_block ?_))
   obtain ⟨u11,hl36,h⟩:=bind_some h
   refine cx_loop (fun (s:(Bool × Int)) L tm => ∃ (tm0:Nat → Value),L = [cellsR b1 25 [.slice A0_0 p0.fNodes.length c0_0,.slice A0_1 p0.fClaims.length c0_1],cellsR b2 35 [.int .i64 p1.fID,.slice A1_1 p1.fOptions.length c1_1]] ∧ tm = (upd (upd (upd (upd (upd tm0 2 (.pointer (some ⟨b1,0,none⟩))) 3 (.pointer (some ⟨b2,0,none⟩))) 4 (.bool s.1)) 19 (.bool b6)) 5 (.int .i64 s.2))) (fun | (.inl s),e,L,tm => e = .ret ∧ ∃ (tm0:Nat → Value),L = [cellsR b1 25 [.slice A0_0 p0.fNodes.length c0_0,.slice A0_1 p0.fClaims.length c0_1],cellsR b2 35 [.int .i64 p1.fID,.slice A1_1 p1.fOptions.length c1_1]] ∧ tm = (upd (upd (upd (upd (upd tm0 2 (.pointer (some ⟨b1,0,none⟩))) 3 (.pointer (some ⟨b2,0,none⟩))) 4 (.bool s.1)) 19 (.bool b6)) 5 (.int .i64 s.2)) | (.inr s),e,L,tm => e = .exit 0 ∧ ∃ (tm0:Nat → Value),L = [cellsR b1 25 [.slice A0_0 p0.fNodes.length c0_0,.slice A0_1 p0.fClaims.length c0_1],cellsR b2 35 [.int .i64 p1.fID,.slice A1_1 p1.fOptions.length c1_1]] ∧ tm = (upd (upd (upd (upd (upd tm0 2 (.pointer (some ⟨b1,0,none⟩))) 3 (.pointer (some ⟨b2,0,none⟩))) 4 (.bool s.1)) 19 (.bool b6)) 5 (.int .i64 s.2))) hl36 ⟨_,rfl,(keep (keep (keep (keep (keep rfl rfl) rfl) rfl) rfl) rfl)⟩ ?_ ?_
   ·rintro s10 L tm st ⟨tm0_s10,rfl,rfl⟩ h
    unfold ref09_claim_l1 at h
    refine cx_seq (cx_seq (cx_region ?_))
    refine ox_y rfl (y_move_int rfl) ?_
    refine ox_y rfl (y_fieldAddr fo_35_1 rfl) ?_
    refine ox_y rfl (y_load1 1 (v:=.slice A1_1 p1.fOptions.length c1_1) sc_33 rfl rfl rfl) ?_
    refine ox_y rfl (y_len (us:=[]) us_33 rfl) ?_
    refine ox_y rfl (y_lss rfl rfl) ?_
    refine ox_nil (ex_then ?_)
    rcases ite_some h with ⟨hp12,h⟩ | ⟨hp12,h⟩
    ·refine cx_true (congrArg Value.bool hp12) ?_
     refine cx_skip (ex_then (cx_seq (cx_block (cx_seq ?_))))
     refine cx_draws 9 mixed (by kernel_rfl) (by kernel_rfl) ?_
     refine qx_y rfl (y_loadN 0 [.slice A0_0 p0.fNodes.length c0_0,.slice A0_1 p0.fClaims.length c0_1] ag_25 rfl rfl rfl) ?_
     refine qx_y rfl (y_fieldAddr fo_35_1 rfl) ?_
     refine qx_y rfl (y_load1 1 (v:=.slice A1_1 p1.fOptions.length c1_1) sc_33 rfl rfl rfl) ?_
     refine qx_y rfl (y_move_int rfl) ?_
     obtain ⟨hg13,h⟩:=guardO_some h
     refine qx_y rfl (y_indexR sl_33 (by decide) hg13.1 hg13.2 (RdL.arg hr1_1) (encL_len THop_cells_len rfl) rfl rfl) ?_
     refine qx_y rfl (y_fieldAddrR (A:=A1_1) (j:=(Int.toNat s10.2 * 2)) fo_93_0 rfl) ?_
     refine qx_y rfl (y_loadR1 (A:=A1_1) (j:=((Int.toNat s10.2 * 2) + 0)) (v:=.int .i64 ((rdL p1.fOptions s10.2).fFrom)) sc_3 (RdL.arg hr1_1) rfl (encL_get THop_cells_len hg13.1 (lt_nat hg13.2 rfl) rfl)) ?_
     obtain ⟨y14,hy15,h⟩:=bind_some h
     refine qx_y rfl (y_call [.agg #[.slice A0_0 p0.fNodes.length c0_0,.slice A0_1 p0.fClaims.length c0_1],.int .i64 ((rdL p1.fOptions s10.2).fFrom)] go_40 rfl (fun W2 hW2 => ref09_Node_ok p0 ((rdL p1.fOptions s10.2).fFrom) y14 hy15 W2 A0_0 p0.fNodes.length c0_0 rfl ((RdL.arg hr0_0) W2 hW2) A0_1 p0.fClaims.length c0_1 ys0_1 rfl ((RdL.arg hr0_1) W2 hW2) (NestL.at (NestL.arg hN0_1) W2 hW2)) rfl) ?_
     refine qx_y rfl (y_assign_int rfl) ?_
     refine qx_nil ?_
     refine ox_nil (ex_then (cx_seq ?_))
     refine cx_draws 9 mixed (by kernel_rfl) (by kernel_rfl) ?_
     refine qx_y rfl (y_loadN 0 [.slice A0_0 p0.fNodes.length c0_0,.slice A0_1 p0.fClaims.length c0_1] ag_25 rfl rfl rfl) ?_
     refine qx_y rfl (y_fieldAddr fo_35_1 rfl) ?_
     refine qx_y rfl (y_load1 1 (v:=.slice A1_1 p1.fOptions.length c1_1) sc_33 rfl rfl rfl) ?_
     refine qx_y rfl (y_move_int rfl) ?_
     obtain ⟨hg16,h⟩:=guardO_some h
     refine qx_y rfl (y_indexR sl_33 (by decide) hg16.1 hg16.2 (RdL.arg hr1_1) (encL_len THop_cells_len rfl) rfl rfl) ?_
     refine qx_y rfl (y_fieldAddrR (A:=A1_1) (j:=(Int.toNat s10.2 * 2)) fo_93_1 rfl) ?_
     refine qx_y rfl (y_loadR1 (A:=A1_1) (j:=((Int.toNat s10.2 * 2) + 1)) (v:=.int .i64 ((rdL p1.fOptions s10.2).fTo)) sc_3 (RdL.arg hr1_1) rfl (encL_get THop_cells_len hg16.1 (lt_nat hg16.2 rfl) rfl)) ?_
     obtain ⟨y17,hy18,h⟩:=bind_some h
     refine qx_y rfl (y_call [.agg #[.slice A0_0 p0.fNodes.length c0_0,.slice A0_1 p0.fClaims.length c0_1],.int .i64 ((rdL p1.fOptions s10.2).fTo)] go_40 rfl (fun W2 hW2 => ref09_Node_ok p0 ((rdL p1.fOptions s10.2).fTo) y17 hy18 W2 A0_0 p0.fNodes.length c0_0 rfl ((RdL.arg hr0_0) W2 hW2) A0_1 p0.fClaims.length c0_1 ys0_1 rfl ((RdL.arg hr0_1) W2 hW2) (NestL.at (NestL.arg hN0_1) W2 hW2)) rfl) ?_
     refine qx_y rfl (y_assign_int rfl) ?_
     refine qx_nil ?_
     refine ox_nil (ex_then (cx_seq (cx_seq ?_)))
     refine cx_draws 21 mixed (by kernel_rfl) (by kernel_rfl) ?_
     refine qx_y rfl (y_move_int rfl) ?_
     refine qx_y rfl (y_lss rfl rfl) ?_
     refine qx_y rfl (y_move_bool rfl) ?_
     refine qx_join 3 (fun tm0 => (upd (upd (upd (upd (upd (upd (upd (upd (upd tm0 2 (.pointer (some ⟨b1,0,none⟩))) 3 (.pointer (some ⟨b2,0,none⟩))) 4 (.bool s10.1)) 19 (.bool b6)) 5 (.int .i64 s10.2)) 24 (.bool (decide (s10.2 < (p1.fOptions.length:Int))))) 6 (.int .i64 y14)) 7 (.int .i64 y17)) 48 (.bool ((decide (y14 < 0)) || (decide (y17 < 0)))))) (fun tm0 => ?_) (fun key => ?_)
     ·refine qx_y rfl (y_move_bool rfl) ?_
      obtain ⟨b21,hb22,h⟩:=bind_some h
      refine qx_join 14 (fun tm0 => (upd (upd (upd (upd (upd (upd (upd (upd (upd tm0 2 (.pointer (some ⟨b1,0,none⟩))) 3 (.pointer (some ⟨b2,0,none⟩))) 4 (.bool s10.1)) 19 (.bool b6)) 5 (.int .i64 s10.2)) 24 (.bool (decide (s10.2 < (p1.fOptions.length:Int))))) 6 (.int .i64 y14)) 7 (.int .i64 y17)) 63 (.bool b21))) (fun tm0 => ?_) (fun key => ?_)
      ·refine qx_nil ?_
       refine ox_nil (ex_then ?_)
       rcases ite_some h with ⟨hp23,h⟩ | ⟨hp23,h⟩
       ·refine cx_true (congrArg Value.bool hp23) ?_
        refine cx_seq (cx_region ?_)
        refine ox_y rfl (y_assign_bool rfl) ?_
        refine ox_nil (ex_then (cx_ret (ex_then_ret (ex_block_ret (ex_then_ret ?_)))))
        obtain rfl:=Option.some.inj h
        exact ex_stop ⟨rfl,_,rfl,(keep (keep (keep (keep (keep rfl rfl) rfl) rfl) rfl) rfl)⟩
       ·refine cx_false (congrArg Value.bool hp23) ?_
        refine cx_skip (ex_then (cx_seq (cx_region ?_)))
        refine ox_y rfl (y_assign_int rfl) ?_
        refine ox_nil (ex_then (cx_block ?_))
        obtain ⟨u26,hl31,h⟩:=bind_some h
        refine cx_loop (fun (s:(Bool × Int)) L tm => ∃ (tm0:Nat → Value),L = [cellsR b1 25 [.slice A0_0 p0.fNodes.length c0_0,.slice A0_1 p0.fClaims.length c0_1],cellsR b2 35 [.int .i64 p1.fID,.slice A1_1 p1.fOptions.length c1_1]] ∧ tm = (upd (upd (upd (upd (upd (upd (upd (upd (upd (upd tm0 2 (.pointer (some ⟨b1,0,none⟩))) 3 (.pointer (some ⟨b2,0,none⟩))) 4 (.bool s.1)) 19 (.bool b6)) 5 (.int .i64 s10.2)) 24 (.bool (decide (s10.2 < (p1.fOptions.length:Int))))) 6 (.int .i64 y14)) 7 (.int .i64 y17)) 63 (.bool b21)) 8 (.int .i64 s.2))) (fun | (.inl s),e,L,tm => e = .ret ∧ ∃ (tm0:Nat → Value),L = [cellsR b1 25 [.slice A0_0 p0.fNodes.length c0_0,.slice A0_1 p0.fClaims.length c0_1],cellsR b2 35 [.int .i64 p1.fID,.slice A1_1 p1.fOptions.length c1_1]] ∧ tm = (upd (upd (upd (upd (upd (upd (upd (upd (upd (upd tm0 2 (.pointer (some ⟨b1,0,none⟩))) 3 (.pointer (some ⟨b2,0,none⟩))) 4 (.bool s.1)) 19 (.bool b6)) 5 (.int .i64 s10.2)) 24 (.bool (decide (s10.2 < (p1.fOptions.length:Int))))) 6 (.int .i64 y14)) 7 (.int .i64 y17)) 63 (.bool b21)) 8 (.int .i64 s.2)) | (.inr s),e,L,tm => e = .exit 2 ∧ ∃ (tm0:Nat → Value),L = [cellsR b1 25 [.slice A0_0 p0.fNodes.length c0_0,.slice A0_1 p0.fClaims.length c0_1],cellsR b2 35 [.int .i64 p1.fID,.slice A1_1 p1.fOptions.length c1_1]] ∧ tm = (upd (upd (upd (upd (upd (upd (upd (upd (upd (upd tm0 2 (.pointer (some ⟨b1,0,none⟩))) 3 (.pointer (some ⟨b2,0,none⟩))) 4 (.bool s.1)) 19 (.bool b6)) 5 (.int .i64 s10.2)) 24 (.bool (decide (s10.2 < (p1.fOptions.length:Int))))) 6 (.int .i64 y14)) 7 (.int .i64 y17)) 63 (.bool b21)) 8 (.int .i64 s.2))) hl31 ⟨_,rfl,(keep (keep (keep (keep (keep (keep (keep (keep (keep (keep rfl rfl) rfl) rfl) rfl) rfl) rfl) rfl) rfl) rfl) rfl)⟩ ?_ ?_
        ·rintro s25 L tm st ⟨tm0_s25,rfl,rfl⟩ h
         unfold ref09_claim_l2 at h
         refine cx_seq (cx_seq (cx_region ?_))
         refine ox_y rfl (y_move_int rfl) ?_
         refine ox_y rfl (y_move_int rfl) ?_
         refine ox_y rfl (y_lss rfl rfl) ?_
         refine ox_nil (ex_then ?_)
         rcases ite_some h with ⟨hp27,h⟩ | ⟨hp27,h⟩
         ·refine cx_true (congrArg Value.bool hp27) ?_
          refine cx_skip (ex_then (cx_seq (cx_block (cx_seq ?_))))
          refine cx_draws 11 mixed (by kernel_rfl) (by kernel_rfl) ?_
          refine qx_y rfl (y_fieldAddr fo_35_1 rfl) ?_
          refine qx_y rfl (y_load1 1 (v:=.slice A1_1 p1.fOptions.length c1_1) sc_33 rfl rfl rfl) ?_
          refine qx_y rfl (y_move_int rfl) ?_
          obtain ⟨hg28,h⟩:=guardO_some h
          refine qx_y rfl (y_indexR sl_33 (by decide) hg28.1 hg28.2 (RdL.arg hr1_1) (encL_len THop_cells_len rfl) rfl rfl) ?_
          refine qx_y rfl (y_loadRN (A:=A1_1) (j:=(Int.toNat s25.2 * 2)) [.int .i64 ((rdL p1.fOptions s25.2).fFrom),.int .i64 ((rdL p1.fOptions s25.2).fTo)] ag_93 (Nat.succ_pos _) (RdL.arg hr1_1) rfl (encL_gets THop_cells_len hg28.1 (lt_nat hg28.2 rfl))) ?_
          refine qx_y rfl (y_fieldAddr fo_35_1 rfl) ?_
          refine qx_y rfl (y_load1 1 (v:=.slice A1_1 p1.fOptions.length c1_1) sc_33 rfl rfl rfl) ?_
          refine qx_y rfl (y_move_int rfl) ?_
          obtain ⟨hg29,h⟩:=guardO_some h
          refine qx_y rfl (y_indexR sl_33 (by decide) hg29.1 hg29.2 (RdL.arg hr1_1) (encL_len THop_cells_len rfl) rfl rfl) ?_
          refine qx_y rfl (y_loadRN (A:=A1_1) (j:=(Int.toNat s10.2 * 2)) [.int .i64 ((rdL p1.fOptions s10.2).fFrom),.int .i64 ((rdL p1.fOptions s10.2).fTo)] ag_93 (Nat.succ_pos _) (RdL.arg hr1_1) rfl (encL_gets THop_cells_len hg29.1 (lt_nat hg29.2 rfl))) ?_
          refine qx_y rfl (y_eqla (b:=(((rdL p1.fOptions s25.2).fFrom == (rdL p1.fOptions s10.2).fFrom) && ((rdL p1.fOptions s25.2).fTo == (rdL p1.fOptions s10.2).fTo))) eg_93 rfl rfl (fun _ => (eqS2 fl_93 (part1 sc_3 rfl) (part1 sc_3 rfl) (part1 sc_3 rfl) (part1 sc_3 rfl) (run_equalIn_int _ _ _ _ _ _ _ ui_3) (run_equalIn_int _ _ _ _ _ _ _ ui_3)))) ?_
          refine qx_nil ?_
          refine ox_nil (ex_then ?_)
          rcases ite_some h with ⟨hp30,h⟩ | ⟨hp30,h⟩
          ·refine cx_true (congrArg Value.bool hp30) ?_
           refine cx_seq (cx_region ?_)
           refine ox_y rfl (y_assign_bool rfl) ?_
           refine ox_nil (ex_then (cx_ret (ex_block_ret (ex_then_ret ?_))))
           obtain rfl:=Option.some.inj h
           exact ex_stop ⟨rfl,_,rfl,(keep (keep (keep (keep (keep (keep (keep (keep (keep (keep rfl rfl) rfl) rfl) rfl) rfl) rfl) rfl) rfl) rfl) rfl)⟩
          ·refine cx_false (congrArg Value.bool hp30) ?_
           refine cx_skip ?_
           refine ex_block ?_
           refine ex_then (cx_region ?_)
           refine ox_y rfl (y_move_int rfl) ?_
           refine ox_y rfl (y_add rfl rfl) ?_
           refine ox_y rfl (y_assign_int rfl) ?_
           refine ox_nil ?_
           obtain rfl:=Option.some.inj h
           exact ex_next ⟨_,rfl,(keep (keep (keep (keep (keep (keep (keep (keep (keep (keep rfl rfl) rfl) rfl) rfl) rfl) rfl) rfl) rfl) rfl) rfl)⟩
         ·refine cx_false (congrArg Value.bool hp27) ?_
          refine cx_exit ?_
          refine ex_then_exit ?_
          obtain rfl:=Option.some.inj h
          exact ex_stop ⟨rfl,_,rfl,(keep (keep (keep (keep (keep (keep (keep (keep (keep (keep rfl rfl) rfl) rfl) rfl) rfl) rfl) rfl) rfl) rfl) rfl)⟩
        ·intro e L tm hJ
         rcases u26 with u32 | u33
         ·dsimp only at h hJ
          obtain ⟨rfl,tm0_u32,rfl,rfl⟩:=hJ
          refine ⟨(by intro hc; cases hc),?_⟩
          refine ex_block_ret (ex_block_ret (ex_then_ret ?_))
          obtain rfl:=Option.some.inj h
          exact ex_stop ⟨rfl,_,rfl,(keep (keep (keep (keep (keep rfl rfl) rfl) rfl) rfl) rfl)⟩
         ·dsimp only at h hJ
          obtain ⟨rfl,tm0_u33,rfl,rfl⟩:=hJ
          refine ⟨(by intro hc; cases hc),?_⟩
          refine ex_block_here ?_
          refine ex_block ?_
          refine ex_then (cx_region ?_)
          refine ox_y rfl (y_move_int rfl) ?_
          refine ox_y rfl (y_add rfl rfl) ?_
          refine ox_y rfl (y_assign_int rfl) ?_
          refine ox_nil ?_
          obtain rfl:=Option.some.inj h
          exact ex_next ⟨_,rfl,(keep (keep (keep (keep (keep rfl rfl) rfl) rfl) rfl) rfl)⟩
      ·clear h; rcases ite_some hb22 with ⟨hp20,h⟩ | ⟨hp20,h⟩
       ·refine qx_skip (sees_f rfl rfl rfl rfl hp20) ?_
        refine qx_skip (sees_f rfl rfl rfl rfl hp20) ?_
        refine qx_skip (sees_f rfl rfl rfl rfl hp20) ?_
        refine qx_skip (sees_f rfl rfl rfl rfl hp20) ?_
        refine qx_skip (sees_f rfl rfl rfl rfl hp20) ?_
        refine qx_skip (sees_f rfl rfl rfl rfl hp20) ?_
        refine qx_skip (sees_f rfl rfl rfl rfl hp20) ?_
        refine qx_skip (sees_f rfl rfl rfl rfl hp20) ?_
        refine qx_skip (sees_f rfl rfl rfl rfl hp20) ?_
        refine qx_skip (sees_f rfl rfl rfl rfl hp20) ?_
        refine qx_skip (sees_f rfl rfl rfl rfl hp20) ?_
        refine qx_skip (sees_f rfl rfl rfl rfl hp20) ?_
        refine qx_skip (sees_f rfl rfl rfl rfl hp20) ?_
        refine qx_y rfl (y_pick_tb (congrArg Value.bool hp20) rfl) ?_
        obtain rfl:=Option.some.inj h
        exact key _ _ (keep (keep (keep (keep (keep (keep (keep (keep (keep rfl rfl) rfl) rfl) rfl) rfl) rfl) rfl) rfl) rfl)
       ·refine qx_y (sees_t rfl rfl rfl rfl hp20) (y_fieldAddr fo_25_0 rfl) ?_
        refine qx_y (sees_t rfl rfl rfl rfl hp20) (y_load1 0 (v:=.slice A0_0 p0.fNodes.length c0_0) sc_22 rfl rfl rfl) ?_
        refine qx_y (sees_t rfl rfl rfl rfl hp20) (y_move_int rfl) ?_
        obtain ⟨hg34,h⟩:=guardO_some h
        refine qx_y (sees_t rfl rfl rfl rfl hp20) (y_indexR sl_22 (by decide) hg34.1 hg34.2 (RdL.arg hr0_0) (encL_len TNode_cells_len rfl) rfl rfl) ?_
        refine qx_y (sees_t rfl rfl rfl rfl hp20) (y_fieldAddrR (A:=A0_0) (j:=(Int.toNat y14 * 3)) fo_41_1 rfl) ?_
        refine qx_y (sees_t rfl rfl rfl rfl hp20) (y_loadR1 (A:=A0_0) (j:=((Int.toNat y14 * 3) + 1)) (v:=.int .i64 ((rdL p0.fNodes y14).fLevel)) sc_3 (RdL.arg hr0_0) rfl (encL_get TNode_cells_len hg34.1 (lt_nat hg34.2 rfl) rfl)) ?_
        refine qx_y (sees_t rfl rfl rfl rfl hp20) (y_fieldAddr fo_25_0 rfl) ?_
        refine qx_y (sees_t rfl rfl rfl rfl hp20) (y_load1 0 (v:=.slice A0_0 p0.fNodes.length c0_0) sc_22 rfl rfl rfl) ?_
        refine qx_y (sees_t rfl rfl rfl rfl hp20) (y_move_int rfl) ?_
        obtain ⟨hg35,h⟩:=guardO_some h
        refine qx_y (sees_t rfl rfl rfl rfl hp20) (y_indexR sl_22 (by decide) hg35.1 hg35.2 (RdL.arg hr0_0) (encL_len TNode_cells_len rfl) rfl rfl) ?_
        refine qx_y (sees_t rfl rfl rfl rfl hp20) (y_fieldAddrR (A:=A0_0) (j:=(Int.toNat y17 * 3)) fo_41_1 rfl) ?_
        refine qx_y (sees_t rfl rfl rfl rfl hp20) (y_loadR1 (A:=A0_0) (j:=((Int.toNat y17 * 3) + 1)) (v:=.int .i64 ((rdL p0.fNodes y17).fLevel)) sc_3 (RdL.arg hr0_0) rfl (encL_get TNode_cells_len hg35.1 (lt_nat hg35.2 rfl) rfl)) ?_
        refine qx_y (sees_t rfl rfl rfl rfl hp20) (y_geq rfl rfl) ?_
        refine qx_y rfl (y_pick_fb (congrArg Value.bool hp20) rfl) ?_
        obtain rfl:=Option.some.inj h
        exact key _ _ (keep (keep (keep (keep (keep (keep (keep (keep (keep rfl rfl) rfl) rfl) rfl) rfl) rfl) rfl) rfl) rfl)
     ·rcases bool_cases (decide (y14 < 0)) with hp19 | hp19
      ·refine qx_skip (sees_f rfl rfl rfl rfl hp19) ?_
       refine qx_skip (sees_f rfl rfl rfl rfl hp19) ?_
       refine qx_y rfl (y_pick_tb (congrArg Value.bool hp19) rfl) ?_
       exact key _ _ (keep (keep (keep (keep (keep (keep (keep (keep (keep rfl rfl) rfl) rfl) rfl) rfl) rfl) rfl) rfl) (congrArg Value.bool (or_t hp19)))
      ·refine qx_y (sees_t rfl rfl rfl rfl hp19) (y_move_int rfl) ?_
       refine qx_y (sees_t rfl rfl rfl rfl hp19) (y_lss rfl rfl) ?_
       refine qx_y rfl (y_pick_fb (congrArg Value.bool hp19) rfl) ?_
       exact key _ _ (keep (keep (keep (keep (keep (keep (keep (keep (keep rfl rfl) rfl) rfl) rfl) rfl) rfl) rfl) rfl) (congrArg Value.bool (or_f hp19)))
    ·refine cx_false (congrArg Value.bool hp12) ?_
     refine cx_exit ?_
     refine ex_then_exit ?_
     obtain rfl:=Option.some.inj h
     exact ex_stop ⟨rfl,_,rfl,(keep (keep (keep (keep (keep rfl rfl) rfl) rfl) rfl) rfl)⟩
   ·intro e L tm hJ
    rcases u11 with u37 | u38
    ·dsimp only at h hJ
     obtain ⟨rfl,tm0_u37,rfl,rfl⟩:=hJ
     refine ⟨(by intro hc; cases hc),?_⟩
     refine ex_block_ret (ex_then_ret ?_)
     obtain rfl:=Option.some.inj h
     exact ex_res1 (.inl rfl) rfl (resV_tmp (v:=.bool u37.1) rfl) (fun W2 hW2 => ⟨rfl,hW2.none⟩)
    ·dsimp only at h hJ
     obtain ⟨rfl,tm0_u38,rfl,rfl⟩:=hJ
     refine ⟨(by intro hc; cases hc),?_⟩
     refine ex_block_here ?_
     refine ex_then (cx_seq (cx_region ?_))
     refine ox_y rfl (y_assign_bool rfl) ?_
     refine ox_nil (ex_then (cx_ret ?_))
     obtain rfl:=Option.some.inj h
     exact ex_res1 (.inl rfl) rfl (resV_tmp (v:=.bool true) rfl) (fun W2 hW2 => ⟨rfl,hW2.none⟩)
 ·clear h; rcases ite_some hb7 with ⟨hp5,h⟩ | ⟨hp5,h⟩
  ·refine ox_skip (sees_f rfl rfl rfl rfl hp5) ?_
   refine ox_skip (sees_f rfl rfl rfl rfl hp5) ?_
   refine ox_skip (sees_f rfl rfl rfl rfl hp5) ?_
   refine ox_skip (sees_f rfl rfl rfl rfl hp5) ?_
   refine ox_skip (sees_f rfl rfl rfl rfl hp5) ?_
   refine ox_y rfl (y_pick_tb (congrArg Value.bool hp5) rfl) ?_
   obtain rfl:=Option.some.inj h
   exact key _ _ (keep (keep (keep (keep rfl rfl) rfl) rfl) rfl)
  ·refine ox_y (sees_t rfl rfl rfl rfl hp5) (y_fieldAddr fo_35_1 rfl) ?_
   refine ox_y (sees_t rfl rfl rfl rfl hp5) (y_load1 1 (v:=.slice A1_1 p1.fOptions.length c1_1) sc_33 rfl rfl rfl) ?_
   refine ox_y (sees_t rfl rfl rfl rfl hp5) (y_len (us:=[]) us_33 rfl) ?_
   obtain ⟨y39,hy40,h⟩:=bind_some h
   refine ox_y (sees_t rfl rfl rfl rfl hp5) (y_call [.int .i64 (p1.fOptions.length:Int),.int .i64 1,.int .i64 4] go_39 rfl (fun W2 hW2 => ref09_in_ok (p1.fOptions.length:Int) 1 4 y39 hy40 W2 ) rfl) ?_
   refine ox_y (sees_t rfl rfl rfl rfl hp5) (y_not rfl) ?_
   refine ox_y rfl (y_pick_fb (congrArg Value.bool hp5) rfl) ?_
   obtain rfl:=Option.some.inj h
   exact key _ _ (keep (keep (keep (keep rfl rfl) rfl) rfl) rfl)

theorem ref09_Claim_ok (p0_l:TLineage) (p1_id:Int) (res:Int) (h:ref09_Claim p0_l p1_id = some res) (W:World) (A0_0:Option Addr) (n0_0 c0_0 : Nat) (hn0_0:n0_0 = p0_l.fNodes.length) (hr0_0:Rd W A0_0 n0_0 c0_0 (encL TNode_cells p0_l.fNodes)) (A0_1:Option Addr) (n0_1 c0_1 : Nat) (ys0_1:List (Hd × TClaim)) (hn0_1:n0_1 = p0_l.fClaims.length) (hr0_1:Rd W A0_1 n0_1 c0_1 (encL TClaim_cells2 ys0_1)) (hN0_1:NestW W (fun z : TClaim => z.fOptions) THop_cells ys0_1 p0_l.fClaims) :
  Calls Try.prog 42 [.agg #[.slice A0_0 n0_0 c0_0,.slice A0_1 n0_1 c0_1],.int .i64 p1_id].toArray W fun e W2 => e = .returned (.int .i64 res) ∧ Ext W W2 []:=by
 subst hn0_0
 subst hn0_1
 unfold ref09_Claim at h
 refine calls_enter (m:=22) Try.func42 rfl rfl (Nat.le_of_ble_eq_true rfl) ?_
 refine cx_seq (cx_region ?_)
 refine ox_box [.slice A0_0 p0_l.fNodes.length c0_0,.slice A0_1 p0_l.fClaims.length c0_1] rfl rfl rfl (fun b1 => ?_)
 refine ox_y rfl (y_assign_int rfl) ?_
 refine ox_nil (ex_then (cx_seq (cx_seq (cx_region ?_))))
 refine ox_y rfl (y_assign_int rfl) ?_
 refine ox_nil (ex_then (cx_block ?_))
 obtain ⟨u4,hl8,h⟩:=bind_some h
 refine cx_loop (fun (s:(Int × Int)) L tm => ∃ (tm0:Nat → Value),L = [cellsR b1 25 [.slice A0_0 p0_l.fNodes.length c0_0,.slice A0_1 p0_l.fClaims.length c0_1]] ∧ tm = (upd (upd (upd (upd (upd tm0 0 (.agg #[.slice A0_0 p0_l.fNodes.length c0_0,.slice A0_1 p0_l.fClaims.length c0_1])) 1 (.int .i64 p1_id)) 2 (.pointer (some ⟨b1,0,none⟩))) 4 (.int .i64 s.1)) 5 (.int .i64 s.2))) (fun | (.inl s),e,L,tm => e = .ret ∧ ∃ (tm0:Nat → Value),L = [cellsR b1 25 [.slice A0_0 p0_l.fNodes.length c0_0,.slice A0_1 p0_l.fClaims.length c0_1]] ∧ tm = (upd (upd (upd (upd (upd tm0 0 (.agg #[.slice A0_0 p0_l.fNodes.length c0_0,.slice A0_1 p0_l.fClaims.length c0_1])) 1 (.int .i64 p1_id)) 2 (.pointer (some ⟨b1,0,none⟩))) 4 (.int .i64 s.1)) 5 (.int .i64 s.2)) | (.inr s),e,L,tm => e = .exit 0 ∧ ∃ (tm0:Nat → Value),L = [cellsR b1 25 [.slice A0_0 p0_l.fNodes.length c0_0,.slice A0_1 p0_l.fClaims.length c0_1]] ∧ tm = (upd (upd (upd (upd (upd tm0 0 (.agg #[.slice A0_0 p0_l.fNodes.length c0_0,.slice A0_1 p0_l.fClaims.length c0_1])) 1 (.int .i64 p1_id)) 2 (.pointer (some ⟨b1,0,none⟩))) 4 (.int .i64 s.1)) 5 (.int .i64 s.2))) hl8 ⟨_,rfl,(keep (keep (keep (keep (keep rfl rfl) rfl) rfl) rfl) rfl)⟩ ?_ ?_
 ·rintro s3 L tm st ⟨tm0_s3,rfl,rfl⟩ h
  unfold ref09_Claim_l1 at h
  refine cx_seq (cx_seq (cx_region ?_))
  refine ox_y rfl (y_move_int rfl) ?_
  refine ox_y rfl (y_fieldAddr fo_25_1 rfl) ?_
  refine ox_y rfl (y_load1 0 (v:=.slice A0_1 p0_l.fClaims.length c0_1) sc_23 rfl rfl rfl) ?_
  refine ox_y rfl (y_len (us:=[]) us_23 rfl) ?_
  refine ox_y rfl (y_lss rfl rfl) ?_
  refine ox_nil (ex_then ?_)
  rcases ite_some h with ⟨hp5,h⟩ | ⟨hp5,h⟩
  ·refine cx_true (congrArg Value.bool hp5) ?_
   refine cx_skip (ex_then (cx_seq (cx_block (cx_seq (cx_region ?_)))))
   refine ox_y rfl (y_fieldAddr fo_25_1 rfl) ?_
   refine ox_y rfl (y_load1 0 (v:=.slice A0_1 p0_l.fClaims.length c0_1) sc_23 rfl rfl rfl) ?_
   refine ox_y rfl (y_move_int rfl) ?_
   obtain ⟨hg6,h⟩:=guardO_some h
   refine ox_y rfl (y_indexR sl_23 (by decide) hg6.1 hg6.2 (RdL.arg hr0_1) (encL_len TClaim_cells2_len (NestP.hn hN0_1.p rfl)) rfl rfl) ?_
   refine ox_y rfl (y_fieldAddrR (A:=A0_1) (j:=(Int.toNat s3.2 * 2)) fo_35_0 rfl) ?_
   refine ox_y rfl (y_loadR1 (A:=A0_1) (j:=((Int.toNat s3.2 * 2) + 0)) (v:=.int .i64 ((rdL p0_l.fClaims s3.2).fID)) sc_3 (RdL.arg hr0_1) rfl (encL_get TClaim_cells2_len hg6.1 (lt_nat hg6.2 (NestP.hn hN0_1.p rfl)) (congrArg (fun z : TClaim => some (Value.int .i64 z.fID)) (NestP.snd hN0_1.p s3.2)))) ?_
   refine ox_y rfl (y_move_int rfl) ?_
   refine ox_y rfl (y_eql rfl rfl) ?_
   refine ox_nil (ex_then ?_)
   rcases ite_some h with ⟨hp7,h⟩ | ⟨hp7,h⟩
   ·refine cx_true (congrArg Value.bool hp7) ?_
    refine cx_seq (cx_region ?_)
    refine ox_y rfl (y_move_int rfl) ?_
    refine ox_y rfl (y_assign_int rfl) ?_
    refine ox_nil (ex_then (cx_ret (ex_block_ret (ex_then_ret ?_))))
    obtain rfl:=Option.some.inj h
    exact ex_stop ⟨rfl,_,rfl,(keep (keep (keep (keep (keep rfl rfl) rfl) rfl) rfl) rfl)⟩
   ·refine cx_false (congrArg Value.bool hp7) ?_
    refine cx_skip ?_
    refine ex_block ?_
    refine ex_then (cx_region ?_)
    refine ox_y rfl (y_move_int rfl) ?_
    refine ox_y rfl (y_add rfl rfl) ?_
    refine ox_y rfl (y_assign_int rfl) ?_
    refine ox_nil ?_
    obtain rfl:=Option.some.inj h
    exact ex_next ⟨_,rfl,(keep (keep (keep (keep (keep rfl rfl) rfl) rfl) rfl) rfl)⟩
  ·refine cx_false (congrArg Value.bool hp5) ?_
   refine cx_exit ?_
   refine ex_then_exit ?_
   obtain rfl:=Option.some.inj h
   exact ex_stop ⟨rfl,_,rfl,(keep (keep (keep (keep (keep rfl rfl) rfl) rfl) rfl) rfl)⟩
 ·intro e L tm hJ
  rcases u4 with u9 | u10
  ·dsimp only at h hJ
   obtain ⟨rfl,tm0_u9,rfl,rfl⟩:=hJ
   refine ⟨(by intro hc; cases hc),?_⟩
   refine ex_block_ret (ex_then_ret ?_)
   obtain rfl:=Option.some.inj h
   exact ex_res1 (.inl rfl) rfl (resV_tmp (v:=.int .i64 u9.1) rfl) (fun W2 hW2 => ⟨rfl,hW2.none⟩)
  ·dsimp only at h hJ
   obtain ⟨rfl,tm0_u10,rfl,rfl⟩:=hJ
   refine ⟨(by intro hc; cases hc),?_⟩
   refine ex_block_here ?_
   refine ex_then (cx_seq (cx_region ?_))
   refine ox_y rfl (y_assign_int rfl) ?_
   refine ox_nil (ex_then (cx_ret ?_))
   obtain rfl:=Option.some.inj h
   exact ex_res1 (.inl rfl) rfl (resV_tmp (v:=.int .i64 (-1)) rfl) (fun W2 hW2 => ⟨rfl,hW2.none⟩)

theorem ref09_Check_ok (p0:TLineage) (res:Int) (h:ref09_Check p0 = some res) (W:World) (A0_0:Option Addr) (n0_0 c0_0 : Nat) (hn0_0:n0_0 = p0.fNodes.length) (hr0_0:Rd W A0_0 n0_0 c0_0 (encL TNode_cells p0.fNodes)) (A0_1:Option Addr) (n0_1 c0_1 : Nat) (ys0_1:List (Hd × TClaim)) (hn0_1:n0_1 = p0.fClaims.length) (hr0_1:Rd W A0_1 n0_1 c0_1 (encL TClaim_cells2 ys0_1)) (hN0_1:NestW W (fun z : TClaim => z.fOptions) THop_cells ys0_1 p0.fClaims) :
  Calls Try.prog 15 [.agg #[.slice A0_0 n0_0 c0_0,.slice A0_1 n0_1 c0_1]].toArray W fun e W2 => e = .returned (.int .i64 res) ∧ Ext W W2 []:=by
 subst hn0_0
 subst hn0_1
 unfold ref09_Check at h
 refine calls_enter (m:=78) Try.func15 rfl rfl (Nat.le_of_ble_eq_true rfl) ?_
 refine cx_seq (cx_region ?_)
 refine ox_box [.slice A0_0 p0.fNodes.length c0_0,.slice A0_1 p0.fClaims.length c0_1] rfl rfl rfl (fun b1 => ?_)
 refine ox_y rfl (y_assign_int rfl) ?_
 refine ox_nil (ex_then (cx_seq (cx_seq (cx_region ?_))))
 refine ox_y rfl (y_fieldAddr fo_25_0 rfl) ?_
 refine ox_y rfl (y_load1 0 (v:=.slice A0_0 p0.fNodes.length c0_0) sc_22 rfl rfl rfl) ?_
 refine ox_y rfl (y_len (us:=[]) us_22 rfl) ?_
 refine ox_y rfl (y_gtr rfl rfl) ?_
 refine ox_y rfl (y_move_bool rfl) ?_
 refine ox_join 5 (fun tm0 => (upd (upd (upd tm0 1 (.pointer (some ⟨b1,0,none⟩))) 2 (.int .i64 0)) 15 (.bool ((decide (60 < (p0.fNodes.length:Int))) || (decide (80 < (p0.fClaims.length:Int))))))) (fun tm0 => ?_) (fun key => ?_)
 ·refine ox_nil (ex_then ?_)
  rcases ite_some h with ⟨hp3,h⟩ | ⟨hp3,h⟩
  ·refine cx_true (congrArg Value.bool hp3) ?_
   refine cx_seq (cx_region ?_)
   refine ox_y rfl (y_assign_int rfl) ?_
   refine ox_nil (ex_then (cx_ret (ex_then_ret ?_)))
   obtain rfl:=Option.some.inj h
   exact ex_res1 (.inl rfl) rfl (resV_tmp (v:=.int .i64 2) rfl) (fun W2 hW2 => ⟨rfl,hW2.none⟩)
  ·refine cx_false (congrArg Value.bool hp3) ?_
   refine cx_skip (ex_then (cx_seq (cx_seq (cx_region ?_))))
   refine ox_y rfl (y_assign_int rfl) ?_
   refine ox_nil (ex_then (cx_block ?_))
   obtain ⟨u6,hl26,h⟩:=bind_some h
   refine cx_loop (fun (s:(Int × Int)) L tm => ∃ (tm0:Nat → Value),L = [cellsR b1 25 [.slice A0_0 p0.fNodes.length c0_0,.slice A0_1 p0.fClaims.length c0_1]] ∧ tm = (upd (upd (upd (upd tm0 1 (.pointer (some ⟨b1,0,none⟩))) 2 (.int .i64 s.1)) 15 (.bool ((decide (60 < (p0.fNodes.length:Int))) || (decide (80 < (p0.fClaims.length:Int)))))) 3 (.int .i64 s.2))) (fun | (.inl s),e,L,tm => e = .ret ∧ ∃ (tm0:Nat → Value),L = [cellsR b1 25 [.slice A0_0 p0.fNodes.length c0_0,.slice A0_1 p0.fClaims.length c0_1]] ∧ tm = (upd (upd (upd (upd tm0 1 (.pointer (some ⟨b1,0,none⟩))) 2 (.int .i64 s.1)) 15 (.bool ((decide (60 < (p0.fNodes.length:Int))) || (decide (80 < (p0.fClaims.length:Int)))))) 3 (.int .i64 s.2)) | (.inr s),e,L,tm => e = .exit 0 ∧ ∃ (tm0:Nat → Value),L = [cellsR b1 25 [.slice A0_0 p0.fNodes.length c0_0,.slice A0_1 p0.fClaims.length c0_1]] ∧ tm = (upd (upd (upd (upd tm0 1 (.pointer (some ⟨b1,0,none⟩))) 2 (.int .i64 s.1)) 15 (.bool ((decide (60 < (p0.fNodes.length:Int))) || (decide (80 < (p0.fClaims.length:Int)))))) 3 (.int .i64 s.2))) hl26 ⟨_,rfl,(keep (keep (keep (keep rfl rfl) rfl) rfl) rfl)⟩ ?_ ?_
   ·rintro s5 L tm st ⟨tm0_s5,rfl,rfl⟩ h
    unfold ref09_Check_l1 at h
    refine cx_seq (cx_seq (cx_region ?_))
    refine ox_y rfl (y_move_int rfl) ?_
    refine ox_y rfl (y_fieldAddr fo_25_0 rfl) ?_
    refine ox_y rfl (y_load1 0 (v:=.slice A0_0 p0.fNodes.length c0_0) sc_22 rfl rfl rfl) ?_
    refine ox_y rfl (y_len (us:=[]) us_22 rfl) ?_
    refine ox_y rfl (y_lss rfl rfl) ?_
    refine ox_nil (ex_then ?_)
    rcases ite_some h with ⟨hp7,h⟩ | ⟨hp7,h⟩
    ·refine cx_true (congrArg Value.bool hp7) ?_
     refine cx_skip (ex_then (cx_seq (cx_block (cx_seq (cx_region ?_)))))
     refine ox_y rfl (y_fieldAddr fo_25_0 rfl) ?_
     refine ox_y rfl (y_load1 0 (v:=.slice A0_0 p0.fNodes.length c0_0) sc_22 rfl rfl rfl) ?_
     refine ox_y rfl (y_move_int rfl) ?_
     obtain ⟨hg8,h⟩:=guardO_some h
     refine ox_y rfl (y_indexR sl_22 (by decide) hg8.1 hg8.2 (RdL.arg hr0_0) (encL_len TNode_cells_len rfl) rfl rfl) ?_
     refine ox_y rfl (y_loadRN (A:=A0_0) (j:=(Int.toNat s5.2 * 3)) [.int .i64 ((rdL p0.fNodes s5.2).fID),.int .i64 ((rdL p0.fNodes s5.2).fLevel),.int .i64 ((rdL p0.fNodes s5.2).fCost)] ag_41 (Nat.succ_pos _) (RdL.arg hr0_0) rfl (encL_gets TNode_cells_len hg8.1 (lt_nat hg8.2 rfl))) ?_
     refine ox_alloc ze_41 rfl (fun b9 => ?_)
     refine ox_n rfl (y_storeN 1 [.int .i64 ((rdL p0.fNodes s5.2).fID),.int .i64 ((rdL p0.fNodes s5.2).fLevel),.int .i64 ((rdL p0.fNodes s5.2).fCost)] sz_41 rfl (Nat.le_of_ble_eq_true rfl) rfl rfl rfl) ?_
     refine ox_nil (ex_then (cx_seq (cx_seq (cx_region ?_))))
     refine ox_y rfl (y_fieldAddr fo_41_0 rfl) ?_
     refine ox_y rfl (y_load1 1 (v:=.int .i64 ((rdL p0.fNodes s5.2).fID)) sc_3 rfl rfl rfl) ?_
     obtain ⟨y10,hy11,h⟩:=bind_some h
     refine ox_y rfl (y_call [.int .i64 ((rdL p0.fNodes s5.2).fID),.int .i64 1,.int .i64 1099511627776] go_39 rfl (fun W2 hW2 => ref09_in_ok ((rdL p0.fNodes s5.2).fID) 1 1099511627776 y10 hy11 W2 ) rfl) ?_
     refine ox_y rfl (y_not rfl) ?_
     refine ox_y rfl (y_move_bool rfl) ?_
     obtain ⟨b13,hb14,h⟩:=bind_some h
     refine ox_join 5 (fun tm0 => (upd (upd (upd (upd (upd (upd (upd tm0 1 (.pointer (some ⟨b1,0,none⟩))) 2 (.int .i64 s5.1)) 15 (.bool ((decide (60 < (p0.fNodes.length:Int))) || (decide (80 < (p0.fClaims.length:Int)))))) 3 (.int .i64 s5.2)) 20 (.bool (decide (s5.2 < (p0.fNodes.length:Int))))) 4 (.pointer (some ⟨b9,0,none⟩))) 37 (.bool b13))) (fun tm0 => ?_) (fun key => ?_)
     ·refine ox_y rfl (y_move_bool rfl) ?_
      obtain ⟨b16,hb17,h⟩:=bind_some h
      refine ox_join 5 (fun tm0 => (upd (upd (upd (upd (upd (upd (upd tm0 1 (.pointer (some ⟨b1,0,none⟩))) 2 (.int .i64 s5.1)) 15 (.bool ((decide (60 < (p0.fNodes.length:Int))) || (decide (80 < (p0.fClaims.length:Int)))))) 3 (.int .i64 s5.2)) 20 (.bool (decide (s5.2 < (p0.fNodes.length:Int))))) 4 (.pointer (some ⟨b9,0,none⟩))) 43 (.bool b16))) (fun tm0 => ?_) (fun key => ?_)
      ·refine ox_nil (ex_then ?_)
       rcases ite_some h with ⟨hp18,h⟩ | ⟨hp18,h⟩
       ·refine cx_true (congrArg Value.bool hp18) ?_
        refine cx_seq (cx_region ?_)
        refine ox_y rfl (y_assign_int rfl) ?_
        refine ox_nil (ex_then (cx_ret (ex_then_ret (ex_block_ret (ex_then_ret ?_)))))
        refine ex_take 1 ?_
        obtain rfl:=Option.some.inj h
        exact ex_stop ⟨rfl,_,rfl,(keep (keep (keep (keep rfl rfl) rfl) rfl) rfl)⟩
       ·refine cx_false (congrArg Value.bool hp18) ?_
        refine cx_skip (ex_then (cx_seq (cx_region ?_)))
        refine ox_y rfl (y_loadN 0 [.slice A0_0 p0.fNodes.length c0_0,.slice A0_1 p0.fClaims.length c0_1] ag_25 rfl rfl rfl) ?_
        refine ox_y rfl (y_fieldAddr fo_41_0 rfl) ?_
        refine ox_y rfl (y_load1 1 (v:=.int .i64 ((rdL p0.fNodes s5.2).fID)) sc_3 rfl rfl rfl) ?_
        obtain ⟨y19,hy20,h⟩:=bind_some h
        refine ox_y rfl (y_call [.agg #[.slice A0_0 p0.fNodes.length c0_0,.slice A0_1 p0.fClaims.length c0_1],.int .i64 ((rdL p0.fNodes s5.2).fID)] go_40 rfl (fun W2 hW2 => ref09_Node_ok p0 ((rdL p0.fNodes s5.2).fID) y19 hy20 W2 A0_0 p0.fNodes.length c0_0 rfl ((RdL.arg hr0_0) W2 hW2) A0_1 p0.fClaims.length c0_1 ys0_1 rfl ((RdL.arg hr0_1) W2 hW2) (NestL.at (NestL.arg hN0_1) W2 hW2)) rfl) ?_
        refine ox_y rfl (y_move_int rfl) ?_
        refine ox_y rfl (y_lss rfl rfl) ?_
        refine ox_nil (ex_then ?_)
        rcases ite_some h with ⟨hp21,h⟩ | ⟨hp21,h⟩
        ·refine cx_true (congrArg Value.bool hp21) ?_
         refine cx_seq (cx_region ?_)
         refine ox_y rfl (y_assign_int rfl) ?_
         refine ox_nil (ex_then (cx_ret (ex_block_ret (ex_then_ret ?_))))
         refine ex_take 1 ?_
         obtain rfl:=Option.some.inj h
         exact ex_stop ⟨rfl,_,rfl,(keep (keep (keep (keep rfl rfl) rfl) rfl) rfl)⟩
        ·refine cx_false (congrArg Value.bool hp21) ?_
         refine cx_skip ?_
         refine ex_block ?_
         refine ex_then (cx_region ?_)
         refine ox_y rfl (y_move_int rfl) ?_
         refine ox_y rfl (y_add rfl rfl) ?_
         refine ox_y rfl (y_assign_int rfl) ?_
         refine ox_nil ?_
         refine ex_take 1 ?_
         obtain rfl:=Option.some.inj h
         exact ex_next ⟨_,rfl,(keep (keep (keep (keep rfl rfl) rfl) rfl) rfl)⟩
      ·clear h; rcases ite_some hb17 with ⟨hp15,h⟩ | ⟨hp15,h⟩
       ·refine ox_skip (sees_f rfl rfl rfl rfl hp15) ?_
        refine ox_skip (sees_f rfl rfl rfl rfl hp15) ?_
        refine ox_skip (sees_f rfl rfl rfl rfl hp15) ?_
        refine ox_skip (sees_f rfl rfl rfl rfl hp15) ?_
        refine ox_y rfl (y_pick_tb (congrArg Value.bool hp15) rfl) ?_
        obtain rfl:=Option.some.inj h
        exact key _ _ (keep (keep (keep (keep (keep (keep (keep rfl rfl) rfl) rfl) rfl) rfl) rfl) rfl)
       ·refine ox_y (sees_t rfl rfl rfl rfl hp15) (y_fieldAddr fo_41_2 rfl) ?_
        refine ox_y (sees_t rfl rfl rfl rfl hp15) (y_load1 1 (v:=.int .i64 ((rdL p0.fNodes s5.2).fCost)) sc_3 rfl rfl rfl) ?_
        obtain ⟨y22,hy23,h⟩:=bind_some h
        refine ox_y (sees_t rfl rfl rfl rfl hp15) (y_call [.int .i64 ((rdL p0.fNodes s5.2).fCost),.int .i64 0,.int .i64 1073741824] go_39 rfl (fun W2 hW2 => ref09_in_ok ((rdL p0.fNodes s5.2).fCost) 0 1073741824 y22 hy23 W2 ) rfl) ?_
        refine ox_y (sees_t rfl rfl rfl rfl hp15) (y_not rfl) ?_
        refine ox_y rfl (y_pick_fb (congrArg Value.bool hp15) rfl) ?_
        obtain rfl:=Option.some.inj h
        exact key _ _ (keep (keep (keep (keep (keep (keep (keep rfl rfl) rfl) rfl) rfl) rfl) rfl) rfl)
     ·clear h; rcases ite_some hb14 with ⟨hp12,h⟩ | ⟨hp12,h⟩
      ·refine ox_skip (sees_f rfl rfl rfl rfl hp12) ?_
       refine ox_skip (sees_f rfl rfl rfl rfl hp12) ?_
       refine ox_skip (sees_f rfl rfl rfl rfl hp12) ?_
       refine ox_skip (sees_f rfl rfl rfl rfl hp12) ?_
       refine ox_y rfl (y_pick_tb (congrArg Value.bool hp12) rfl) ?_
       obtain rfl:=Option.some.inj h
       exact key _ _ (keep (keep (keep (keep (keep (keep (keep rfl rfl) rfl) rfl) rfl) rfl) rfl) rfl)
      ·refine ox_y (sees_t rfl rfl rfl rfl hp12) (y_fieldAddr fo_41_1 rfl) ?_
       refine ox_y (sees_t rfl rfl rfl rfl hp12) (y_load1 1 (v:=.int .i64 ((rdL p0.fNodes s5.2).fLevel)) sc_3 rfl rfl rfl) ?_
       obtain ⟨y24,hy25,h⟩:=bind_some h
       refine ox_y (sees_t rfl rfl rfl rfl hp12) (y_call [.int .i64 ((rdL p0.fNodes s5.2).fLevel),.int .i64 0,.int .i64 9] go_39 rfl (fun W2 hW2 => ref09_in_ok ((rdL p0.fNodes s5.2).fLevel) 0 9 y24 hy25 W2 ) rfl) ?_
       refine ox_y (sees_t rfl rfl rfl rfl hp12) (y_not rfl) ?_
       refine ox_y rfl (y_pick_fb (congrArg Value.bool hp12) rfl) ?_
       obtain rfl:=Option.some.inj h
       exact key _ _ (keep (keep (keep (keep (keep (keep (keep rfl rfl) rfl) rfl) rfl) rfl) rfl) rfl)
    ·refine cx_false (congrArg Value.bool hp7) ?_
     refine cx_exit ?_
     refine ex_then_exit ?_
     obtain rfl:=Option.some.inj h
     exact ex_stop ⟨rfl,_,rfl,(keep (keep (keep (keep rfl rfl) rfl) rfl) rfl)⟩
   ·intro e L tm hJ
    rcases u6 with u27 | u28
    ·dsimp only at h hJ
     obtain ⟨rfl,tm0_u27,rfl,rfl⟩:=hJ
     refine ⟨(by intro hc; cases hc),?_⟩
     refine ex_block_ret (ex_then_ret ?_)
     obtain rfl:=Option.some.inj h
     exact ex_res1 (.inl rfl) rfl (resV_tmp (v:=.int .i64 u27.1) rfl) (fun W2 hW2 => ⟨rfl,hW2.none⟩)
    ·dsimp only at h hJ
     obtain ⟨rfl,tm0_u28,rfl,rfl⟩:=hJ
     refine ⟨(by intro hc; cases hc),?_⟩
     refine ex_block_here ?_
     refine ex_then (cx_seq (cx_seq (cx_region ?_)))
     refine ox_y rfl (y_assign_int rfl) ?_
     refine ox_nil (ex_then (cx_block ?_))
     obtain ⟨u31,hl41,h⟩:=bind_some h
     refine cx_loop (fun (s:(Int × Int)) L tm => ∃ (tm0:Nat → Value),L = [cellsR b1 25 [.slice A0_0 p0.fNodes.length c0_0,.slice A0_1 p0.fClaims.length c0_1]] ∧ tm = (upd (upd (upd (upd (upd tm0 1 (.pointer (some ⟨b1,0,none⟩))) 2 (.int .i64 s.1)) 15 (.bool ((decide (60 < (p0.fNodes.length:Int))) || (decide (80 < (p0.fClaims.length:Int)))))) 3 (.int .i64 u28.2)) 5 (.int .i64 s.2))) (fun | (.inl s),e,L,tm => e = .ret ∧ ∃ (tm0:Nat → Value),L = [cellsR b1 25 [.slice A0_0 p0.fNodes.length c0_0,.slice A0_1 p0.fClaims.length c0_1]] ∧ tm = (upd (upd (upd (upd (upd tm0 1 (.pointer (some ⟨b1,0,none⟩))) 2 (.int .i64 s.1)) 15 (.bool ((decide (60 < (p0.fNodes.length:Int))) || (decide (80 < (p0.fClaims.length:Int)))))) 3 (.int .i64 u28.2)) 5 (.int .i64 s.2)) | (.inr s),e,L,tm => e = .exit 2 ∧ ∃ (tm0:Nat → Value),L = [cellsR b1 25 [.slice A0_0 p0.fNodes.length c0_0,.slice A0_1 p0.fClaims.length c0_1]] ∧ tm = (upd (upd (upd (upd (upd tm0 1 (.pointer (some ⟨b1,0,none⟩))) 2 (.int .i64 s.1)) 15 (.bool ((decide (60 < (p0.fNodes.length:Int))) || (decide (80 < (p0.fClaims.length:Int)))))) 3 (.int .i64 u28.2)) 5 (.int .i64 s.2))) hl41 ⟨_,rfl,(keep (keep (keep (keep (keep rfl rfl) rfl) rfl) rfl) rfl)⟩ ?_ ?_
     ·rintro s30 L tm st ⟨tm0_s30,rfl,rfl⟩ h
      unfold ref09_Check_l2 at h
      refine cx_seq (cx_seq (cx_region ?_))
      refine ox_y rfl (y_move_int rfl) ?_
      refine ox_y rfl (y_fieldAddr fo_25_1 rfl) ?_
      refine ox_y rfl (y_load1 0 (v:=.slice A0_1 p0.fClaims.length c0_1) sc_23 rfl rfl rfl) ?_
      refine ox_y rfl (y_len (us:=[]) us_23 rfl) ?_
      refine ox_y rfl (y_lss rfl rfl) ?_
      refine ox_nil (ex_then ?_)
      rcases ite_some h with ⟨hp32,h⟩ | ⟨hp32,h⟩
      ·refine cx_true (congrArg Value.bool hp32) ?_
       refine cx_skip (ex_then (cx_seq (cx_block (cx_seq (cx_seq ?_)))))
       refine cx_draws 8 mixed (by kernel_rfl) (by kernel_rfl) ?_
       refine qx_y rfl (y_loadN 0 [.slice A0_0 p0.fNodes.length c0_0,.slice A0_1 p0.fClaims.length c0_1] ag_25 rfl rfl rfl) ?_
       refine qx_y rfl (y_fieldAddr fo_25_1 rfl) ?_
       refine qx_y rfl (y_load1 0 (v:=.slice A0_1 p0.fClaims.length c0_1) sc_23 rfl rfl rfl) ?_
       refine qx_y rfl (y_move_int rfl) ?_
       obtain ⟨hg33,h⟩:=guardO_some h
       refine qx_y rfl (y_indexR sl_23 (by decide) hg33.1 hg33.2 (RdL.arg hr0_1) (encL_len TClaim_cells2_len (NestP.hn hN0_1.p rfl)) rfl rfl) ?_
       refine qx_y rfl (y_loadRN (A:=A0_1) (j:=(Int.toNat s30.2 * 2)) [.int .i64 ((rdL p0.fClaims s30.2).fID),.slice ((rdL ys0_1 s30.2).1.1) ((rdL p0.fClaims s30.2).fOptions.length) ((rdL ys0_1 s30.2).1.2.2)] ag_35 (Nat.succ_pos _) (RdL.arg hr0_1) rfl (gets_eq (TClaim_cells2_eq (NestP.snd hN0_1.p s30.2) (NestP.len hN0_1.p hg33.1 (lt_nat hg33.2 rfl))).symm (encL_gets TClaim_cells2_len hg33.1 (lt_nat hg33.2 (NestP.hn hN0_1.p rfl))))) ?_
       obtain ⟨y34,hy35,h⟩:=bind_some h
       refine qx_y rfl (y_call [.agg #[.slice A0_0 p0.fNodes.length c0_0,.slice A0_1 p0.fClaims.length c0_1],.agg #[.int .i64 ((rdL p0.fClaims s30.2).fID),.slice ((rdL ys0_1 s30.2).1.1) ((rdL p0.fClaims s30.2).fOptions.length) ((rdL ys0_1 s30.2).1.2.2)]] go_41 rfl (fun W2 hW2 => ref09_claim_ok p0 (TClaim.mk ((rdL p0.fClaims s30.2).fID) ((rdL p0.fClaims s30.2).fOptions)) y34 hy35 W2 A0_0 p0.fNodes.length c0_0 rfl ((RdL.arg hr0_0) W2 hW2) A0_1 p0.fClaims.length c0_1 ys0_1 rfl ((RdL.arg hr0_1) W2 hW2) (NestL.at (NestL.arg hN0_1) W2 hW2) ((rdL ys0_1 s30.2).1.1) ((rdL p0.fClaims s30.2).fOptions.length) ((rdL ys0_1 s30.2).1.2.2) rfl ((NestL.rd (NestL.arg hN0_1) hg33.1 (lt_nat hg33.2 rfl)) W2 hW2)) rfl) ?_
       refine qx_y rfl (y_not rfl) ?_
       refine qx_nil ?_
       refine ox_nil (ex_then ?_)
       rcases ite_some h with ⟨hp36,h⟩ | ⟨hp36,h⟩
       ·refine cx_true (congrArg Value.bool hp36) ?_
        refine cx_seq (cx_region ?_)
        refine ox_y rfl (y_assign_int rfl) ?_
        refine ox_nil (ex_then (cx_ret (ex_then_ret (ex_block_ret (ex_then_ret ?_)))))
        obtain rfl:=Option.some.inj h
        exact ex_stop ⟨rfl,_,rfl,(keep (keep (keep (keep (keep rfl rfl) rfl) rfl) rfl) rfl)⟩
       ·refine cx_false (congrArg Value.bool hp36) ?_
        refine cx_skip (ex_then (cx_seq ?_))
        refine cx_draws 10 mixed (by kernel_rfl) (by kernel_rfl) ?_
        refine qx_y rfl (y_loadN 0 [.slice A0_0 p0.fNodes.length c0_0,.slice A0_1 p0.fClaims.length c0_1] ag_25 rfl rfl rfl) ?_
        refine qx_y rfl (y_fieldAddr fo_25_1 rfl) ?_
        refine qx_y rfl (y_load1 0 (v:=.slice A0_1 p0.fClaims.length c0_1) sc_23 rfl rfl rfl) ?_
        refine qx_y rfl (y_move_int rfl) ?_
        obtain ⟨hg37,h⟩:=guardO_some h
        refine qx_y rfl (y_indexR sl_23 (by decide) hg37.1 hg37.2 (RdL.arg hr0_1) (encL_len TClaim_cells2_len (NestP.hn hN0_1.p rfl)) rfl rfl) ?_
        refine qx_y rfl (y_fieldAddrR (A:=A0_1) (j:=(Int.toNat s30.2 * 2)) fo_35_0 rfl) ?_
        refine qx_y rfl (y_loadR1 (A:=A0_1) (j:=((Int.toNat s30.2 * 2) + 0)) (v:=.int .i64 ((rdL p0.fClaims s30.2).fID)) sc_3 (RdL.arg hr0_1) rfl (encL_get TClaim_cells2_len hg37.1 (lt_nat hg37.2 (NestP.hn hN0_1.p rfl)) (congrArg (fun z : TClaim => some (Value.int .i64 z.fID)) (NestP.snd hN0_1.p s30.2)))) ?_
        obtain ⟨y38,hy39,h⟩:=bind_some h
        refine qx_y rfl (y_call [.agg #[.slice A0_0 p0.fNodes.length c0_0,.slice A0_1 p0.fClaims.length c0_1],.int .i64 ((rdL p0.fClaims s30.2).fID)] go_42 rfl (fun W2 hW2 => ref09_Claim_ok p0 ((rdL p0.fClaims s30.2).fID) y38 hy39 W2 A0_0 p0.fNodes.length c0_0 rfl ((RdL.arg hr0_0) W2 hW2) A0_1 p0.fClaims.length c0_1 ys0_1 rfl ((RdL.arg hr0_1) W2 hW2) (NestL.at (NestL.arg hN0_1) W2 hW2)) rfl) ?_
        refine qx_y rfl (y_move_int rfl) ?_
        refine qx_y rfl (y_lss rfl rfl) ?_
        refine qx_nil ?_
        refine ox_nil (ex_then ?_)
        rcases ite_some h with ⟨hp40,h⟩ | ⟨hp40,h⟩
        ·refine cx_true (congrArg Value.bool hp40) ?_
         refine cx_seq (cx_region ?_)
         refine ox_y rfl (y_assign_int rfl) ?_
         refine ox_nil (ex_then (cx_ret (ex_block_ret (ex_then_ret ?_))))
         obtain rfl:=Option.some.inj h
         exact ex_stop ⟨rfl,_,rfl,(keep (keep (keep (keep (keep rfl rfl) rfl) rfl) rfl) rfl)⟩
        ·refine cx_false (congrArg Value.bool hp40) ?_
         refine cx_skip ?_
         refine ex_block ?_
         refine ex_then (cx_region ?_)
         refine ox_y rfl (y_move_int rfl) ?_
         refine ox_y rfl (y_add rfl rfl) ?_
         refine ox_y rfl (y_assign_int rfl) ?_
         refine ox_nil ?_
         obtain rfl:=Option.some.inj h
         exact ex_next ⟨_,rfl,(keep (keep (keep (keep (keep rfl rfl) rfl) rfl) rfl) rfl)⟩
      ·refine cx_false (congrArg Value.bool hp32) ?_
       refine cx_exit ?_
       refine ex_then_exit ?_
       obtain rfl:=Option.some.inj h
       exact ex_stop ⟨rfl,_,rfl,(keep (keep (keep (keep (keep rfl rfl) rfl) rfl) rfl) rfl)⟩
     ·intro e L tm hJ
      rcases u31 with u42 | u43
      ·dsimp only at h hJ
       obtain ⟨rfl,tm0_u42,rfl,rfl⟩:=hJ
       refine ⟨(by intro hc; cases hc),?_⟩
       refine ex_block_ret (ex_then_ret ?_)
       obtain rfl:=Option.some.inj h
       exact ex_res1 (.inl rfl) rfl (resV_tmp (v:=.int .i64 u42.1) rfl) (fun W2 hW2 => ⟨rfl,hW2.none⟩)
      ·dsimp only at h hJ
       obtain ⟨rfl,tm0_u43,rfl,rfl⟩:=hJ
       refine ⟨(by intro hc; cases hc),?_⟩
       refine ex_block_here ?_
       refine ex_then (cx_seq (cx_seq (cx_region ?_)))
       refine ox_y rfl (y_loadN 0 [.slice A0_0 p0.fNodes.length c0_0,.slice A0_1 p0.fClaims.length c0_1] ag_25 rfl rfl rfl) ?_
       obtain ⟨y44,hy45,h⟩:=bind_some h
       refine ox_y rfl (y_call [.agg #[.slice A0_0 p0.fNodes.length c0_0,.slice A0_1 p0.fClaims.length c0_1]] go_34 rfl (fun W2 hW2 => ref09_count_ok p0 y44 hy45 W2 A0_0 p0.fNodes.length c0_0 rfl ((RdL.arg hr0_0) W2 hW2) A0_1 p0.fClaims.length c0_1 ys0_1 rfl ((RdL.arg hr0_1) W2 hW2) (NestL.at (NestL.arg hN0_1) W2 hW2)) rfl) ?_
       refine ox_y rfl (y_gtr rfl rfl) ?_
       refine ox_nil (ex_then ?_)
       rcases ite_some h with ⟨hp46,h⟩ | ⟨hp46,h⟩
       ·refine cx_true (congrArg Value.bool hp46) ?_
        refine cx_seq (cx_region ?_)
        refine ox_y rfl (y_assign_int rfl) ?_
        refine ox_nil (ex_then (cx_ret (ex_then_ret ?_)))
        obtain rfl:=Option.some.inj h
        exact ex_res1 (.inl rfl) rfl (resV_tmp (v:=.int .i64 2) rfl) (fun W2 hW2 => ⟨rfl,hW2.none⟩)
       ·refine cx_false (congrArg Value.bool hp46) ?_
        refine cx_skip (ex_then (cx_seq (cx_region ?_)))
        refine ox_y rfl (y_assign_int rfl) ?_
        refine ox_nil (ex_then (cx_ret ?_))
        obtain rfl:=Option.some.inj h
        exact ex_res1 (.inl rfl) rfl (resV_tmp (v:=.int .i64 0) rfl) (fun W2 hW2 => ⟨rfl,hW2.none⟩)
 ·rcases bool_cases (decide (60 < (p0.fNodes.length:Int))) with hp2 | hp2
  ·refine ox_skip (sees_f rfl rfl rfl rfl hp2) ?_
   refine ox_skip (sees_f rfl rfl rfl rfl hp2) ?_
   refine ox_skip (sees_f rfl rfl rfl rfl hp2) ?_
   refine ox_skip (sees_f rfl rfl rfl rfl hp2) ?_
   refine ox_y rfl (y_pick_tb (congrArg Value.bool hp2) rfl) ?_
   exact key _ _ (keep (keep (keep rfl rfl) rfl) (congrArg Value.bool (or_t hp2)))
  ·refine ox_y (sees_t rfl rfl rfl rfl hp2) (y_fieldAddr fo_25_1 rfl) ?_
   refine ox_y (sees_t rfl rfl rfl rfl hp2) (y_load1 0 (v:=.slice A0_1 p0.fClaims.length c0_1) sc_23 rfl rfl rfl) ?_
   refine ox_y (sees_t rfl rfl rfl rfl hp2) (y_len (us:=[]) us_23 rfl) ?_
   refine ox_y (sees_t rfl rfl rfl rfl hp2) (y_gtr rfl rfl) ?_
   refine ox_y rfl (y_pick_fb (congrArg Value.bool hp2) rfl) ?_
   exact key _ _ (keep (keep (keep rfl rfl) rfl) (congrArg Value.bool (or_f hp2)))

theorem ref09_Cases_ok (p0_l:TLineage) (res:(Int × Int)) (h:ref09_Cases p0_l = some res) (W:World) (A0_0:Option Addr) (n0_0 c0_0 : Nat) (hn0_0:n0_0 = p0_l.fNodes.length) (hr0_0:Rd W A0_0 n0_0 c0_0 (encL TNode_cells p0_l.fNodes)) (A0_1:Option Addr) (n0_1 c0_1 : Nat) (ys0_1:List (Hd × TClaim)) (hn0_1:n0_1 = p0_l.fClaims.length) (hr0_1:Rd W A0_1 n0_1 c0_1 (encL TClaim_cells2 ys0_1)) (hN0_1:NestW W (fun z : TClaim => z.fOptions) THop_cells ys0_1 p0_l.fClaims) :
  Calls Try.prog 13 [.agg #[.slice A0_0 n0_0 c0_0,.slice A0_1 n0_1 c0_1]].toArray W fun e W2 => e = .returned (.tuple #[.int .i64 res.1,.int .i64 res.2]) ∧ Ext W W2 []:=by
 subst hn0_0
 subst hn0_1
 unfold ref09_Cases at h
 refine calls_enter (m:=12) Try.func13 rfl rfl (Nat.le_of_ble_eq_true rfl) ?_
 refine cx_seq (cx_region ?_)
 refine ox_box [.slice A0_0 p0_l.fNodes.length c0_0,.slice A0_1 p0_l.fClaims.length c0_1] rfl rfl rfl (fun b1 => ?_)
 refine ox_y rfl (y_assign_int rfl) ?_
 refine ox_y rfl (y_assign_int rfl) ?_
 refine ox_nil (ex_then (cx_seq (cx_region ?_)))
 refine ox_y rfl (y_loadN 0 [.slice A0_0 p0_l.fNodes.length c0_0,.slice A0_1 p0_l.fClaims.length c0_1] ag_25 rfl rfl rfl) ?_
 obtain ⟨y2,hy3,h⟩:=bind_some h
 refine ox_y rfl (y_call [.agg #[.slice A0_0 p0_l.fNodes.length c0_0,.slice A0_1 p0_l.fClaims.length c0_1]] go_15 rfl (fun W2 hW2 => ref09_Check_ok p0_l y2 hy3 W2 A0_0 p0_l.fNodes.length c0_0 rfl ((RdL.arg hr0_0) W2 hW2) A0_1 p0_l.fClaims.length c0_1 ys0_1 rfl ((RdL.arg hr0_1) W2 hW2) (NestL.at (NestL.arg hN0_1) W2 hW2)) rfl) ?_
 refine ox_y rfl (y_assign_int rfl) ?_
 refine ox_nil (ex_then (cx_seq (cx_seq (cx_region ?_))))
 refine ox_y rfl (y_move_int rfl) ?_
 refine ox_y rfl (y_neq rfl rfl) ?_
 refine ox_nil (ex_then ?_)
 rcases ite_some h with ⟨hp4,h⟩ | ⟨hp4,h⟩
 ·refine cx_true (congrArg Value.bool hp4) ?_
  refine cx_seq (cx_region ?_)
  refine ox_y rfl (y_move_int rfl) ?_
  refine ox_y rfl (y_assign_int rfl) ?_
  refine ox_y rfl (y_assign_int rfl) ?_
  refine ox_nil (ex_then (cx_ret (ex_then_ret ?_)))
  obtain rfl:=Option.some.inj h
  exact ex_res2 (.inl rfl) rfl (resV_tmp (v:=.int .i64 0) rfl) (resV_tmp (v:=.int .i64 y2) rfl) (fun W2 hW2 => ⟨rfl,hW2.none⟩)
 ·refine cx_false (congrArg Value.bool hp4) ?_
  refine cx_skip (ex_then (cx_seq (cx_region ?_)))
  refine ox_y rfl (y_loadN 0 [.slice A0_0 p0_l.fNodes.length c0_0,.slice A0_1 p0_l.fClaims.length c0_1] ag_25 rfl rfl rfl) ?_
  obtain ⟨y5,hy6,h⟩:=bind_some h
  refine ox_y rfl (y_call [.agg #[.slice A0_0 p0_l.fNodes.length c0_0,.slice A0_1 p0_l.fClaims.length c0_1]] go_34 rfl (fun W2 hW2 => ref09_count_ok p0_l y5 hy6 W2 A0_0 p0_l.fNodes.length c0_0 rfl ((RdL.arg hr0_0) W2 hW2) A0_1 p0_l.fClaims.length c0_1 ys0_1 rfl ((RdL.arg hr0_1) W2 hW2) (NestL.at (NestL.arg hN0_1) W2 hW2)) rfl) ?_
  refine ox_y rfl (y_assign_int rfl) ?_
  refine ox_y rfl (y_assign_int rfl) ?_
  refine ox_nil (ex_then (cx_ret ?_))
  obtain rfl:=Option.some.inj h
  exact ex_res2 (.inl rfl) rfl (resV_tmp (v:=.int .i64 y5) rfl) (resV_tmp (v:=.int .i64 0) rfl) (fun W2 hW2 => ⟨rfl,hW2.none⟩)

theorem calxlaw09_RecallChecks_ok (p0_l:TLineage) (res:Bool) (h:calxlaw09_RecallChecks p0_l = some res) (W:World) (A0_0:Option Addr) (n0_0 c0_0 : Nat) (hn0_0:n0_0 = p0_l.fNodes.length) (hr0_0:Rd W A0_0 n0_0 c0_0 (encL TNode_cells p0_l.fNodes)) (A0_1:Option Addr) (n0_1 c0_1 : Nat) (ys0_1:List (Hd × TClaim)) (hn0_1:n0_1 = p0_l.fClaims.length) (hr0_1:Rd W A0_1 n0_1 c0_1 (encL TClaim_cells2 ys0_1)) (hN0_1:NestW W (fun z : TClaim => z.fOptions) THop_cells ys0_1 p0_l.fClaims) :
  Calls Try.prog 3 [.agg #[.slice A0_0 n0_0 c0_0,.slice A0_1 n0_1 c0_1]].toArray W fun e W2 => e = .returned (.bool res) ∧ Ext W W2 []:=by
 subst hn0_0
 subst hn0_1
 unfold calxlaw09_RecallChecks at h
 refine calls_enter (m:=41) Try.func3 rfl rfl (Nat.le_of_ble_eq_true rfl) ?_
 refine cx_seq (cx_region ?_)
 refine ox_box [.slice A0_0 p0_l.fNodes.length c0_0,.slice A0_1 p0_l.fClaims.length c0_1] rfl rfl rfl (fun b1 => ?_)
 refine ox_y rfl (y_assign_bool rfl) ?_
 refine ox_nil (ex_then (cx_seq (cx_region ?_)))
 obtain ⟨y2,hy3,h⟩:=bind_some h
 refine ox_y rfl (y_call [] go_10 rfl (fun W2 hW2 => calxlaw09_head_ok  y2 hy3 W2 ) rfl) ?_
 refine ox_y rfl (y_assign_bool rfl) ?_
 refine ox_nil (ex_then (cx_seq (cx_seq (cx_region ?_))))
 refine ox_y rfl (y_loadN 0 [.slice A0_0 p0_l.fNodes.length c0_0,.slice A0_1 p0_l.fClaims.length c0_1] ag_25 rfl rfl rfl) ?_
 obtain ⟨y4,hy5,h⟩:=bind_some h
 refine ox_y rfl (y_call [.agg #[.slice A0_0 p0_l.fNodes.length c0_0,.slice A0_1 p0_l.fClaims.length c0_1]] go_11 rfl (fun W2 hW2 => calxlaw09_few_ok p0_l y4 hy5 W2 A0_0 p0_l.fNodes.length c0_0 rfl ((RdL.arg hr0_0) W2 hW2) A0_1 p0_l.fClaims.length c0_1 ys0_1 rfl ((RdL.arg hr0_1) W2 hW2) (NestL.at (NestL.arg hN0_1) W2 hW2)) rfl) ?_
 refine ox_y rfl (y_not rfl) ?_
 refine ox_nil (ex_then ?_)
 rcases ite_some h with ⟨hp6,h⟩ | ⟨hp6,h⟩
 ·refine cx_true (congrArg Value.bool hp6) ?_
  refine cx_seq (cx_region ?_)
  refine ox_y rfl (y_move_bool rfl) ?_
  refine ox_y rfl (y_assign_bool rfl) ?_
  refine ox_nil (ex_then (cx_ret (ex_then_ret ?_)))
  obtain rfl:=Option.some.inj h
  exact ex_res1 (.inl rfl) rfl (resV_tmp (v:=.bool y2) rfl) (fun W2 hW2 => ⟨rfl,hW2.none⟩)
 ·refine cx_false (congrArg Value.bool hp6) ?_
  refine cx_skip (ex_then (cx_seq (cx_region ?_)))
  refine ox_y rfl (y_loadN 0 [.slice A0_0 p0_l.fNodes.length c0_0,.slice A0_1 p0_l.fClaims.length c0_1] ag_25 rfl rfl rfl) ?_
  obtain ⟨y7,hy8,h⟩:=bind_some h
  refine ox_y rfl (y_call [.agg #[.slice A0_0 p0_l.fNodes.length c0_0,.slice A0_1 p0_l.fClaims.length c0_1]] go_12 rfl (fun W2 hW2 => recall_Cases_ok p0_l y7 hy8 W2 A0_0 p0_l.fNodes.length c0_0 rfl ((RdL.arg hr0_0) W2 hW2) A0_1 p0_l.fClaims.length c0_1 ys0_1 rfl ((RdL.arg hr0_1) W2 hW2) (NestL.at (NestL.arg hN0_1) W2 hW2)) rfl) ?_
  refine ox_y rfl (y_move_tuple rfl) ?_
  refine ox_y rfl (y_extract (vs:=[.int .i64 y7.1,.int .i64 y7.2]) (v:=.int .i64 y7.1) rfl rfl) ?_
  refine ox_y rfl (y_extract (vs:=[.int .i64 y7.1,.int .i64 y7.2]) (v:=.int .i64 y7.2) rfl rfl) ?_
  refine ox_y rfl (y_assign_int rfl) ?_
  refine ox_y rfl (y_assign_int rfl) ?_
  refine ox_nil (ex_then (cx_seq (cx_region ?_)))
  refine ox_y rfl (y_loadN 0 [.slice A0_0 p0_l.fNodes.length c0_0,.slice A0_1 p0_l.fClaims.length c0_1] ag_25 rfl rfl rfl) ?_
  obtain ⟨y9,hy10,h⟩:=bind_some h
  refine ox_y rfl (y_call [.agg #[.slice A0_0 p0_l.fNodes.length c0_0,.slice A0_1 p0_l.fClaims.length c0_1]] go_13 rfl (fun W2 hW2 => ref09_Cases_ok p0_l y9 hy10 W2 A0_0 p0_l.fNodes.length c0_0 rfl ((RdL.arg hr0_0) W2 hW2) A0_1 p0_l.fClaims.length c0_1 ys0_1 rfl ((RdL.arg hr0_1) W2 hW2) (NestL.at (NestL.arg hN0_1) W2 hW2)) rfl) ?_
  refine ox_y rfl (y_move_tuple rfl) ?_
  refine ox_y rfl (y_extract (vs:=[.int .i64 y9.1,.int .i64 y9.2]) (v:=.int .i64 y9.1) rfl rfl) ?_
  refine ox_y rfl (y_extract (vs:=[.int .i64 y9.1,.int .i64 y9.2]) (v:=.int .i64 y9.2) rfl rfl) ?_
  refine ox_y rfl (y_assign_int rfl) ?_
  refine ox_y rfl (y_assign_int rfl) ?_
  refine ox_nil (ex_then (cx_seq ?_))
  refine cx_draws 19 mixed (by kernel_rfl) (by kernel_rfl) ?_
  refine qx_y rfl (y_move_bool rfl) ?_
  refine qx_y rfl (y_move_bool rfl) ?_
  obtain ⟨b12,hb13,h⟩:=bind_some h
  refine qx_join 6 (fun tm0 => (upd (upd (upd (upd (upd (upd tm0 2 (.bool false)) 4 (.int .i64 y7.1)) 5 (.int .i64 y7.2)) 6 (.int .i64 y9.1)) 7 (.int .i64 y9.2)) 30 (.bool b12))) (fun tm0 => ?_) (fun key => ?_)
  ·refine qx_y rfl (y_move_bool rfl) ?_
   refine qx_join 4 (fun tm0 => (upd (upd (upd (upd tm0 2 (.bool false)) 5 (.int .i64 y7.2)) 7 (.int .i64 y9.2)) 35 (.bool (b12 && (y7.1 == y9.1))))) (fun tm0 => ?_) (fun key => ?_)
   ·refine qx_y rfl (y_move_bool rfl) ?_
    refine qx_join 4 (fun tm0 => (upd (upd tm0 2 (.bool false)) 40 (.bool ((b12 && (y7.1 == y9.1)) && (y7.2 == y9.2))))) (fun tm0 => ?_) (fun key => ?_)
    ·refine qx_y rfl (y_assign_bool rfl) ?_
     refine qx_nil ?_
     refine ox_nil (ex_then (cx_ret ?_))
     obtain rfl:=Option.some.inj h
     exact ex_res1 (.inl rfl) rfl (resV_tmp (v:=.bool ((b12 && (y7.1 == y9.1)) && (y7.2 == y9.2))) rfl) (fun W2 hW2 => ⟨rfl,hW2.none⟩)
    ·rcases bool_cases (b12 && (y7.1 == y9.1)) with hp15 | hp15
     ·refine qx_y (sees_t rfl rfl rfl rfl hp15) (y_move_int rfl) ?_
      refine qx_y (sees_t rfl rfl rfl rfl hp15) (y_move_int rfl) ?_
      refine qx_y (sees_t rfl rfl rfl rfl hp15) (y_eql rfl rfl) ?_
      refine qx_y rfl (y_pick_tb (congrArg Value.bool hp15) rfl) ?_
      exact key _ _ (keep (keep rfl rfl) (congrArg Value.bool (and_t hp15)))
     ·refine qx_skip (sees_f rfl rfl rfl rfl hp15) ?_
      refine qx_skip (sees_f rfl rfl rfl rfl hp15) ?_
      refine qx_skip (sees_f rfl rfl rfl rfl hp15) ?_
      refine qx_y rfl (y_pick_fb (congrArg Value.bool hp15) rfl) ?_
      exact key _ _ (keep (keep rfl rfl) (congrArg Value.bool (and_f hp15)))
   ·rcases bool_cases b12 with hp14 | hp14
    ·refine qx_y (sees_t rfl rfl rfl rfl hp14) (y_move_int rfl) ?_
     refine qx_y (sees_t rfl rfl rfl rfl hp14) (y_move_int rfl) ?_
     refine qx_y (sees_t rfl rfl rfl rfl hp14) (y_eql rfl rfl) ?_
     refine qx_y rfl (y_pick_tb (congrArg Value.bool hp14) rfl) ?_
     exact key _ _ (keep (keep (keep (keep rfl rfl) rfl) rfl) (congrArg Value.bool (and_t hp14)))
    ·refine qx_skip (sees_f rfl rfl rfl rfl hp14) ?_
     refine qx_skip (sees_f rfl rfl rfl rfl hp14) ?_
     refine qx_skip (sees_f rfl rfl rfl rfl hp14) ?_
     refine qx_y rfl (y_pick_fb (congrArg Value.bool hp14) rfl) ?_
     exact key _ _ (keep (keep (keep (keep rfl rfl) rfl) rfl) (congrArg Value.bool (and_f hp14)))
  ·clear h; rcases ite_some hb13 with ⟨hp11,h⟩ | ⟨hp11,h⟩
   ·refine qx_y (sees_t rfl rfl rfl rfl hp11) (y_loadN 0 [.slice A0_0 p0_l.fNodes.length c0_0,.slice A0_1 p0_l.fClaims.length c0_1] ag_25 rfl rfl rfl) ?_
    obtain ⟨y16,hy17,h⟩:=bind_some h
    refine qx_y (sees_t rfl rfl rfl rfl hp11) (y_call [.agg #[.slice A0_0 p0_l.fNodes.length c0_0,.slice A0_1 p0_l.fClaims.length c0_1]] go_14 rfl (fun W2 hW2 => recall_Check_ok p0_l y16 hy17 W2 A0_0 p0_l.fNodes.length c0_0 rfl ((RdL.arg hr0_0) W2 hW2) A0_1 p0_l.fClaims.length c0_1 ys0_1 rfl ((RdL.arg hr0_1) W2 hW2) (NestL.at (NestL.arg hN0_1) W2 hW2)) rfl) ?_
    refine qx_y (sees_t rfl rfl rfl rfl hp11) (y_loadN 0 [.slice A0_0 p0_l.fNodes.length c0_0,.slice A0_1 p0_l.fClaims.length c0_1] ag_25 rfl rfl rfl) ?_
    obtain ⟨y18,hy19,h⟩:=bind_some h
    refine qx_y (sees_t rfl rfl rfl rfl hp11) (y_call [.agg #[.slice A0_0 p0_l.fNodes.length c0_0,.slice A0_1 p0_l.fClaims.length c0_1]] go_15 rfl (fun W2 hW2 => ref09_Check_ok p0_l y18 hy19 W2 A0_0 p0_l.fNodes.length c0_0 rfl ((RdL.arg hr0_0) W2 hW2) A0_1 p0_l.fClaims.length c0_1 ys0_1 rfl ((RdL.arg hr0_1) W2 hW2) (NestL.at (NestL.arg hN0_1) W2 hW2)) rfl) ?_
    refine qx_y (sees_t rfl rfl rfl rfl hp11) (y_eql rfl rfl) ?_
    refine qx_y rfl (y_pick_tb (congrArg Value.bool hp11) rfl) ?_
    obtain rfl:=Option.some.inj h
    exact key _ _ (keep (keep (keep (keep (keep (keep rfl rfl) rfl) rfl) rfl) rfl) rfl)
   ·refine qx_skip (sees_f rfl rfl rfl rfl hp11) ?_
    refine qx_skip (sees_f rfl rfl rfl rfl hp11) ?_
    refine qx_skip (sees_f rfl rfl rfl rfl hp11) ?_
    refine qx_skip (sees_f rfl rfl rfl rfl hp11) ?_
    refine qx_skip (sees_f rfl rfl rfl rfl hp11) ?_
    refine qx_y rfl (y_pick_fb (congrArg Value.bool hp11) rfl) ?_
    obtain rfl:=Option.some.inj h
    exact key _ _ (keep (keep (keep (keep (keep (keep rfl rfl) rfl) rfl) rfl) rfl) rfl)

end Go.Proofs.Ytbblpokfbmekfaa
