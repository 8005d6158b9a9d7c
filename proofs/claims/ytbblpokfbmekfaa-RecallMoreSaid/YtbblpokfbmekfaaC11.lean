import Derived.Test.YtbblpokfbmekfaaF
import Derived.Test.YtbblpokfbmekfaaGk
import Derived.Test.YtbblpokfbmekfaaC1
import Derived.Test.YtbblpokfbmekfaaC2
import Derived.Test.YtbblpokfbmekfaaC7
/- The calls hand back what the plain functions say. -/
set_option linter.unusedVariables false
set_option maxHeartbeats 4000000
set_option maxRecDepth 100000
namespace Go.Proofs.Ytbblpokfbmekfaa
open Go.RowKit (Below)
attribute [local irreducible] OX QX CX EX OpY Calls CallsIn

theorem calxlaw09_RecallMore_ok (p0:TLineage) (p1:(List Int)) (p2:Int) (p3:TClaim) (res:Bool) (h:calxlaw09_RecallMore p0 p1 p2 p3 = some res) (W:World) (A0_0:Option Addr) (n0_0 c0_0 : Nat) (hn0_0:n0_0 = p0.fNodes.length) (hr0_0:Rd W A0_0 n0_0 c0_0 (encL TNode_cells p0.fNodes)) (A0_1:Option Addr) (n0_1 c0_1 : Nat) (ys0_1:List (Hd × TClaim)) (hn0_1:n0_1 = p0.fClaims.length) (hr0_1:Rd W A0_1 n0_1 c0_1 (encL TClaim_cells2 ys0_1)) (hN0_1:NestW W (fun z : TClaim => z.fOptions) THop_cells ys0_1 p0.fClaims) (A1_0:Option Addr) (n1_0 c1_0 : Nat) (hn1_0:n1_0 = p1.length) (hr1_0:Rd W A1_0 n1_0 c1_0 (encL cI p1)) (A3_1:Option Addr) (n3_1 c3_1 : Nat) (hn3_1:n3_1 = p3.fOptions.length) (hr3_1:Rd W A3_1 n3_1 c3_1 (encL THop_cells p3.fOptions)) :
  Calls Try.prog 4 [.agg #[.slice A0_0 n0_0 c0_0,.slice A0_1 n0_1 c0_1],.slice A1_0 n1_0 c1_0,.int .i64 p2,.agg #[.int .i64 p3.fID,.slice A3_1 n3_1 c3_1]].toArray W fun e W2 => e = .returned (.bool res) ∧ Ext W W2 []:=by
 subst hn0_0
 subst hn0_1
 subst hn1_0
 subst hn3_1
 unfold calxlaw09_RecallMore at h
 refine calls_enter (m:=194) Try.func4 rfl rfl (Nat.le_of_ble_eq_true rfl) ?_
 refine cx_seq (cx_region ?_)
 refine ox_box [.slice A0_0 p0.fNodes.length c0_0,.slice A0_1 p0.fClaims.length c0_1] rfl rfl rfl (fun b1 => ?_)
 refine ox_box [.int .i64 p3.fID,.slice A3_1 p3.fOptions.length c3_1] rfl rfl rfl (fun b2 => ?_)
 refine ox_y rfl (y_assign_bool rfl) ?_
 refine ox_nil (ex_then (cx_seq (cx_region ?_)))
 obtain ⟨y3,hy4,h⟩:=bind_some h
 refine ox_y rfl (y_call [] go_10 rfl (fun W2 hW2 => calxlaw09_head_ok  y3 hy4 W2 ) rfl) ?_
 refine ox_y rfl (y_assign_bool rfl) ?_
 refine ox_nil (ex_then (cx_seq (cx_seq (cx_region ?_))))
 refine ox_y rfl (y_loadN 0 [.slice A0_0 p0.fNodes.length c0_0,.slice A0_1 p0.fClaims.length c0_1] ag_25 rfl rfl rfl) ?_
 obtain ⟨y5,hy6,h⟩:=bind_some h
 refine ox_y rfl (y_call [.agg #[.slice A0_0 p0.fNodes.length c0_0,.slice A0_1 p0.fClaims.length c0_1]] go_11 rfl (fun W2 hW2 => calxlaw09_few_ok p0 y5 hy6 W2 A0_0 p0.fNodes.length c0_0 rfl ((RdL.arg hr0_0) W2 hW2) A0_1 p0.fClaims.length c0_1 ys0_1 rfl ((RdL.arg hr0_1) W2 hW2) (NestL.at (NestL.arg hN0_1) W2 hW2)) rfl) ?_
 refine ox_y rfl (y_not rfl) ?_
 refine ox_y rfl (y_move_bool rfl) ?_
 refine ox_join 4 (fun tm0 => (upd (upd (upd (upd (upd (upd (upd tm0 1 (.slice A1_0 p1.length c1_0)) 2 (.int .i64 p2)) 4 (.pointer (some ⟨b1,0,none⟩))) 7 (.pointer (some ⟨b2,0,none⟩))) 8 (.bool false)) 9 (.bool y3)) 33 (.bool ((!y5) || (decide (30 < (p1.length:Int))))))) (fun tm0 => ?_) (fun key => ?_)
 ·refine ox_y rfl (y_move_bool rfl) ?_
  refine ox_join 5 (fun tm0 => (upd (upd (upd (upd (upd (upd (upd tm0 1 (.slice A1_0 p1.length c1_0)) 2 (.int .i64 p2)) 4 (.pointer (some ⟨b1,0,none⟩))) 7 (.pointer (some ⟨b2,0,none⟩))) 8 (.bool false)) 9 (.bool y3)) 39 (.bool (((!y5) || (decide (30 < (p1.length:Int)))) || (decide (4 < (p3.fOptions.length:Int))))))) (fun tm0 => ?_) (fun key => ?_)
  ·refine ox_nil (ex_then ?_)
   rcases ite_some h with ⟨hp9,h⟩ | ⟨hp9,h⟩
   ·refine cx_true (congrArg Value.bool hp9) ?_
    refine cx_seq (cx_region ?_)
    refine ox_y rfl (y_move_bool rfl) ?_
    refine ox_y rfl (y_assign_bool rfl) ?_
    refine ox_nil (ex_then (cx_ret (ex_then_ret ?_)))
    obtain rfl:=Option.some.inj h
    exact ex_res1 (.inl rfl) rfl (resV_tmp (v:=.bool y3) rfl) (fun W2 hW2 => ⟨rfl,hW2.none⟩)
   ·refine cx_false (congrArg Value.bool hp9) ?_
    refine cx_skip (ex_then (cx_seq (cx_region ?_)))
    refine ox_y rfl (y_loadN 0 [.slice A0_0 p0.fNodes.length c0_0,.slice A0_1 p0.fClaims.length c0_1] ag_25 rfl rfl rfl) ?_
    refine ox_y rfl (y_move_slice rfl) ?_
    obtain ⟨y10,hy11,h⟩:=bind_some h
    refine ox_call [.agg #[.slice A0_0 p0.fNodes.length c0_0,.slice A0_1 p0.fClaims.length c0_1],.slice A1_0 p1.length c1_0] _ _ _ rfl go_16 rfl (fun W2 hW2 => recall_Surely_ok p0 p1 y10 hy11 W2 A0_0 p0.fNodes.length c0_0 rfl ((RdL.arg hr0_0) W2 hW2) A0_1 p0.fClaims.length c0_1 ys0_1 rfl ((RdL.arg hr0_1) W2 hW2) (NestL.at (NestL.arg hN0_1) W2 hW2) A1_0 p1.length c1_0 rfl ((RdL.arg hr1_0) W2 hW2)) ?_
    rintro ⟨A12,n14,c13⟩ hn15
    replace hn15 : n14 = y10.1.length:=hn15; subst hn15
    refine ox_y rfl (y_move_tuple rfl) ?_
    refine ox_y rfl (y_extract (vs:=[.slice A12 y10.1.length c13,.int .i64 y10.2]) (v:=.slice A12 y10.1.length c13) rfl rfl) ?_
    refine ox_y rfl (y_extract (vs:=[.slice A12 y10.1.length c13,.int .i64 y10.2]) (v:=.int .i64 y10.2) rfl rfl) ?_
    refine ox_y rfl (y_assign_slice rfl) ?_
    refine ox_y rfl (y_assign_int rfl) ?_
    refine ox_nil (ex_then (cx_seq (cx_region ?_)))
    refine ox_y rfl (y_loadN 0 [.slice A0_0 p0.fNodes.length c0_0,.slice A0_1 p0.fClaims.length c0_1] ag_25 rfl rfl rfl) ?_
    refine ox_y rfl (y_move_slice rfl) ?_
    obtain ⟨y16,hy17,h⟩:=bind_some h
    refine ox_call [.agg #[.slice A0_0 p0.fNodes.length c0_0,.slice A0_1 p0.fClaims.length c0_1],.slice A1_0 p1.length c1_0] _ _ _ rfl go_17 rfl (fun W2 hW2 => recall_Possibly_ok p0 p1 y16 hy17 W2 A0_0 p0.fNodes.length c0_0 rfl ((RdL.arg hr0_0) W2 hW2) A0_1 p0.fClaims.length c0_1 ys0_1 rfl ((RdL.arg hr0_1) W2 hW2) (NestL.at (NestL.arg hN0_1) W2 hW2) A1_0 p1.length c1_0 rfl ((RdL.arg hr1_0) W2 hW2)) ?_
    rintro ⟨A18,n20,c19⟩ hn21
    replace hn21 : n20 = y16.1.length:=hn21; subst hn21
    refine ox_y rfl (y_move_tuple rfl) ?_
    refine ox_y rfl (y_extract (vs:=[.slice A18 y16.1.length c19,.int .i64 y16.2]) (v:=.slice A18 y16.1.length c19) rfl rfl) ?_
    refine ox_y rfl (y_extract (vs:=[.slice A18 y16.1.length c19,.int .i64 y16.2]) (v:=.int .i64 y16.2) rfl rfl) ?_
    refine ox_y rfl (y_assign_slice rfl) ?_
    refine ox_y rfl (y_assign_int rfl) ?_
    refine ox_nil (ex_then (cx_seq (cx_seq (cx_region ?_))))
    refine ox_y rfl (y_move_int rfl) ?_
    refine ox_y rfl (y_neq rfl rfl) ?_
    refine ox_y rfl (y_move_bool rfl) ?_
    refine ox_join 3 (fun tm0 => (upd (upd (upd (upd (upd (upd (upd (upd (upd (upd (upd tm0 1 (.slice A1_0 p1.length c1_0)) 2 (.int .i64 p2)) 4 (.pointer (some ⟨b1,0,none⟩))) 7 (.pointer (some ⟨b2,0,none⟩))) 8 (.bool false)) 9 (.bool y3)) 10 (.slice A12 y10.1.length c13)) 11 (.int .i64 y10.2)) 12 (.slice A18 y16.1.length c19)) 13 (.int .i64 y16.2)) 58 (.bool ((y10.2 != 0) || (y16.2 != 0))))) (fun tm0 => ?_) (fun key => ?_)
    ·refine ox_nil (ex_then ?_)
     rcases ite_some h with ⟨hp23,h⟩ | ⟨hp23,h⟩
     ·refine cx_true (congrArg Value.bool hp23) ?_
      refine cx_seq (cx_region ?_)
      refine ox_y rfl (y_move_bool rfl) ?_
      refine ox_y rfl (y_move_bool rfl) ?_
      refine ox_join 4 (fun tm0 => (upd (upd (upd (upd (upd (upd (upd (upd (upd tm0 1 (.slice A1_0 p1.length c1_0)) 2 (.int .i64 p2)) 4 (.pointer (some ⟨b1,0,none⟩))) 7 (.pointer (some ⟨b2,0,none⟩))) 8 (.bool false)) 9 (.bool y3)) 10 (.slice A12 y10.1.length c13)) 12 (.slice A18 y16.1.length c19)) 64 (.bool (y3 && (y10.2 == y16.2))))) (fun tm0 => ?_) (fun key => ?_)
      ·refine ox_y rfl (y_assign_bool rfl) ?_
       refine ox_nil (ex_then (cx_ret (ex_then_ret ?_)))
       obtain rfl:=Option.some.inj h
       exact ex_res1 (.inl rfl) rfl (resV_tmp (v:=.bool (y3 && (y10.2 == y16.2))) rfl) (fun W2 hW2 => ⟨rfl,hW2.none⟩)
      ·rcases bool_cases y3 with hp24 | hp24
       ·refine ox_y (sees_t rfl rfl rfl rfl hp24) (y_move_int rfl) ?_
        refine ox_y (sees_t rfl rfl rfl rfl hp24) (y_move_int rfl) ?_
        refine ox_y (sees_t rfl rfl rfl rfl hp24) (y_eql rfl rfl) ?_
        refine ox_y rfl (y_pick_tb (congrArg Value.bool hp24) rfl) ?_
        exact key _ _ (keep (keep (keep (keep (keep (keep (keep (keep (keep rfl rfl) rfl) rfl) rfl) rfl) rfl) rfl) rfl) (congrArg Value.bool (and_t hp24)))
       ·refine ox_skip (sees_f rfl rfl rfl rfl hp24) ?_
        refine ox_skip (sees_f rfl rfl rfl rfl hp24) ?_
        refine ox_skip (sees_f rfl rfl rfl rfl hp24) ?_
        refine ox_y rfl (y_pick_fb (congrArg Value.bool hp24) rfl) ?_
        exact key _ _ (keep (keep (keep (keep (keep (keep (keep (keep (keep rfl rfl) rfl) rfl) rfl) rfl) rfl) rfl) rfl) (congrArg Value.bool (and_f hp24)))
     ·refine cx_false (congrArg Value.bool hp23) ?_
      refine cx_skip (ex_then (cx_seq (cx_region ?_)))
      refine ox_y rfl (y_assign_slice rfl) ?_
      refine ox_nil (ex_then (cx_seq (cx_seq (cx_region ?_))))
      refine ox_y rfl (y_assign_int rfl) ?_
      refine ox_nil (ex_then (cx_block ?_))
      obtain ⟨u28,hl53,h⟩:=bind_some h
      refine cx_nilrow 3 1 ?_
      refine cx_loop (fun (s:(Int × (List Int))) L tm => ∃ (tm0:Nat → Value) (A4_s:Option Addr) (c4_s:Nat) (n4_s:Nat),n4_s = s.2.length ∧ L = [cellsR b1 25 [.slice A0_0 p0.fNodes.length c0_0,.slice A0_1 p0.fClaims.length c0_1],cellsR b2 35 [.int .i64 p3.fID,.slice A3_1 p3.fOptions.length c3_1],rowR A12 c13 3 1 y10.1.length (encL cI y10.1),rowR A18 c19 3 1 y16.1.length (encL cI y16.1),rowR A4_s c4_s 3 1 n4_s (encL cI s.2)] ∧ tm = (upd (upd (upd (upd (upd (upd (upd (upd (upd (upd (upd (upd (upd tm0 1 (.slice A1_0 p1.length c1_0)) 2 (.int .i64 p2)) 4 (.pointer (some ⟨b1,0,none⟩))) 7 (.pointer (some ⟨b2,0,none⟩))) 8 (.bool false)) 9 (.bool y3)) 10 (.slice A12 y10.1.length c13)) 11 (.int .i64 y10.2)) 12 (.slice A18 y16.1.length c19)) 13 (.int .i64 y16.2)) 58 (.bool ((y10.2 != 0) || (y16.2 != 0)))) 14 (.slice A4_s n4_s c4_s)) 15 (.int .i64 s.1))) (fun s e L tm => e = .exit 0 ∧ ∃ (tm0:Nat → Value) (A4_s:Option Addr) (c4_s:Nat) (n4_s:Nat),n4_s = s.2.length ∧ L = [cellsR b1 25 [.slice A0_0 p0.fNodes.length c0_0,.slice A0_1 p0.fClaims.length c0_1],cellsR b2 35 [.int .i64 p3.fID,.slice A3_1 p3.fOptions.length c3_1],rowR A12 c13 3 1 y10.1.length (encL cI y10.1),rowR A18 c19 3 1 y16.1.length (encL cI y16.1),rowR A4_s c4_s 3 1 n4_s (encL cI s.2)] ∧ tm = (upd (upd (upd (upd (upd (upd (upd (upd (upd (upd (upd (upd (upd tm0 1 (.slice A1_0 p1.length c1_0)) 2 (.int .i64 p2)) 4 (.pointer (some ⟨b1,0,none⟩))) 7 (.pointer (some ⟨b2,0,none⟩))) 8 (.bool false)) 9 (.bool y3)) 10 (.slice A12 y10.1.length c13)) 11 (.int .i64 y10.2)) 12 (.slice A18 y16.1.length c19)) 13 (.int .i64 y16.2)) 58 (.bool ((y10.2 != 0) || (y16.2 != 0)))) 14 (.slice A4_s n4_s c4_s)) 15 (.int .i64 s.1))) hl53 ⟨_,none,0,0,rfl,rfl,(keep (keep (keep (keep (keep (keep (keep (keep (keep (keep (keep (keep (keep rfl rfl) rfl) rfl) rfl) rfl) rfl) rfl) rfl) rfl) rfl) rfl) rfl) rfl)⟩ ?_ ?_
      ·rintro s27 L tm st ⟨tm0_s27,A4_s27,c4_s27,n4_s27,rfl,rfl,rfl⟩ h
       unfold calxlaw09_RecallMore_l1 at h
       refine cx_seq (cx_seq (cx_region ?_))
       refine ox_y rfl (y_move_int rfl) ?_
       refine ox_y rfl (y_move_slice rfl) ?_
       refine ox_y rfl (y_len (us:=[]) us_32 rfl) ?_
       refine ox_y rfl (y_lss rfl rfl) ?_
       refine ox_nil (ex_then ?_)
       rcases ite_some h with ⟨hp29,h⟩ | ⟨hp29,h⟩
       ·refine cx_true (congrArg Value.bool hp29) ?_
        refine cx_skip (ex_then (cx_seq (cx_block (cx_seq (cx_seq (cx_region ?_))))))
        refine ox_y rfl (y_move_int rfl) ?_
        refine ox_y rfl (y_move_slice rfl) ?_
        refine ox_y rfl (y_move_int rfl) ?_
        obtain ⟨hg30,h⟩:=guardO_some h
        refine ox_y rfl (y_indexR sl_32 (by decide) hg30.1 hg30.2 (RdL.arg hr1_0) (encL_len cI_len rfl) rfl rfl) ?_
        refine ox_y rfl (y_loadR1 (A:=A1_0) (j:=(Int.toNat s27.1 * 1)) (v:=.int .i64 (rdL p1 s27.1)) sc_3 (RdL.arg hr1_0) rfl (encL_get0 cI_len hg30.1 (lt_nat hg30.2 rfl) rfl)) ?_
        refine ox_y rfl (y_lss rfl rfl) ?_
        refine ox_y rfl (y_move_bool rfl) ?_
        obtain ⟨b32,hb33,h⟩:=bind_some h
        refine ox_join 12 (fun tm0 => (upd (upd (upd (upd (upd (upd (upd (upd (upd (upd (upd (upd (upd (upd (upd tm0 1 (.slice A1_0 p1.length c1_0)) 2 (.int .i64 p2)) 4 (.pointer (some ⟨b1,0,none⟩))) 7 (.pointer (some ⟨b2,0,none⟩))) 8 (.bool false)) 9 (.bool y3)) 10 (.slice A12 y10.1.length c13)) 11 (.int .i64 y10.2)) 12 (.slice A18 y16.1.length c19)) 13 (.int .i64 y16.2)) 58 (.bool ((y10.2 != 0) || (y16.2 != 0)))) 14 (.slice A4_s27 s27.2.length c4_s27)) 15 (.int .i64 s27.1)) 68 (.bool (decide (s27.1 < (p1.length:Int))))) 89 (.bool b32))) (fun tm0 => ?_) (fun key => ?_)
        ·refine ox_nil (ex_then ?_)
         rcases ite_some h with ⟨hp34,h⟩ | ⟨hp34,h⟩
         ·refine cx_true (congrArg Value.bool hp34) ?_
          refine cx_region ?_
          refine ox_y rfl (y_move_slice rfl) ?_
          refine ox_y rfl (y_move_int rfl) ?_
          refine ox_buildSliceE 1 (encL cI [p2]) _ mc_3_1 us_32 ze_3 by_3 (by decide) (by decide) (by kernel_rfl) (encL_len cI_len rfl) rfl (fun b35 => ?_)
          try dsimp only [lna,lca,lsz,lss]
          obtain ⟨hg38,h⟩:=guardO_some h
          refine ox_append0 4 us_32 ze_3 by_3 rfl rfl rfl (RdL.row 5 rfl) (encL_len cI_len rfl) (encL_one cI_one _) (app_room hg38 (by decide)) rfl (fun A36 c37 => ?_)
          refine ox_y rfl (y_assign_slice rfl) ?_
          refine ox_nil (ex_then (cx_region ?_))
          refine ox_y rfl (y_move_slice rfl) ?_
          refine ox_y rfl (y_move_slice rfl) ?_
          refine ox_y rfl (y_move_int rfl) ?_
          obtain ⟨hg39,h⟩:=guardO_some h
          refine ox_y rfl (y_indexR sl_32 (by decide) hg39.1 hg39.2 (RdL.arg hr1_0) (encL_len cI_len rfl) rfl rfl) ?_
          refine ox_y rfl (y_loadR1 (A:=A1_0) (j:=(Int.toNat s27.1 * 1)) (v:=.int .i64 (rdL p1 s27.1)) sc_3 (RdL.arg hr1_0) rfl (encL_get0 cI_len hg39.1 (lt_nat hg39.2 rfl) rfl)) ?_
          refine ox_buildSliceE 1 (encL cI [(rdL p1 s27.1)]) _ mc_3_1 us_32 ze_3 by_3 (by decide) (by decide) (by kernel_rfl) (encL_len cI_len rfl) rfl (fun b40 => ?_)
          try dsimp only [lna,lca,lsz,lss]
          obtain ⟨hg43,h⟩:=guardO_some h
          refine ox_append0 4 us_32 ze_3 by_3 rfl rfl rfl (RdL.row 6 rfl) (encL_len cI_len rfl) (encL_one cI_one _) (app_room hg43 (by decide)) rfl (fun A41 c42 => ?_)
          refine ox_y rfl (y_assign_slice rfl) ?_
          refine ox_nil ?_
          refine ex_block ?_
          refine ex_then (cx_region ?_)
          refine ox_y rfl (y_move_int rfl) ?_
          refine ox_y rfl (y_add rfl rfl) ?_
          refine ox_y rfl (y_assign_int rfl) ?_
          refine ox_nil ?_
          refine ex_take 5 ?_
          obtain rfl:=Option.some.inj h
          exact ex_next ⟨_,A41,c42,((s27.2.length + 1) + 1),(hn_app (hn_app rfl rfl) rfl),rfl,(keep (keep (keep (keep (keep (keep (keep (keep (keep (keep (keep (keep (keep rfl rfl) rfl) rfl) rfl) rfl) rfl) rfl) rfl) rfl) rfl) rfl) rfl) rfl)⟩
         ·refine cx_false (congrArg Value.bool hp34) ?_
          refine cx_skip (ex_then (cx_region ?_))
          refine ox_y rfl (y_move_slice rfl) ?_
          refine ox_y rfl (y_move_slice rfl) ?_
          refine ox_y rfl (y_move_int rfl) ?_
          obtain ⟨hg44,h⟩:=guardO_some h
          refine ox_y rfl (y_indexR sl_32 (by decide) hg44.1 hg44.2 (RdL.arg hr1_0) (encL_len cI_len rfl) rfl rfl) ?_
          refine ox_y rfl (y_loadR1 (A:=A1_0) (j:=(Int.toNat s27.1 * 1)) (v:=.int .i64 (rdL p1 s27.1)) sc_3 (RdL.arg hr1_0) rfl (encL_get0 cI_len hg44.1 (lt_nat hg44.2 rfl) rfl)) ?_
          refine ox_buildSliceE 1 (encL cI [(rdL p1 s27.1)]) _ mc_3_1 us_32 ze_3 by_3 (by decide) (by decide) (by kernel_rfl) (encL_len cI_len rfl) rfl (fun b45 => ?_)
          try dsimp only [lna,lca,lsz,lss]
          obtain ⟨hg48,h⟩:=guardO_some h
          refine ox_append0 4 us_32 ze_3 by_3 rfl rfl rfl (RdL.row 5 rfl) (encL_len cI_len rfl) (encL_one cI_one _) (app_room hg48 (by decide)) rfl (fun A46 c47 => ?_)
          refine ox_y rfl (y_assign_slice rfl) ?_
          refine ox_nil ?_
          refine ex_block ?_
          refine ex_then (cx_region ?_)
          refine ox_y rfl (y_move_int rfl) ?_
          refine ox_y rfl (y_add rfl rfl) ?_
          refine ox_y rfl (y_assign_int rfl) ?_
          refine ox_nil ?_
          refine ex_take 5 ?_
          obtain rfl:=Option.some.inj h
          exact ex_next ⟨_,A46,c47,(s27.2.length + 1),(hn_app rfl rfl),rfl,(keep (keep (keep (keep (keep (keep (keep (keep (keep (keep (keep (keep (keep rfl rfl) rfl) rfl) rfl) rfl) rfl) rfl) rfl) rfl) rfl) rfl) rfl) rfl)⟩
        ·clear h; rcases ite_some hb33 with ⟨hp31,h⟩ | ⟨hp31,h⟩
         ·refine ox_y (sees_t rfl rfl rfl rfl hp31) (y_move_int rfl) ?_
          refine ox_y (sees_t rfl rfl rfl rfl hp31) (y_eql rfl rfl) ?_
          refine ox_y (sees_t rfl rfl rfl rfl hp31) (y_move_bool rfl) ?_
          obtain ⟨b50,hb51,h⟩:=bind_some h
          refine ox_join 8 (fun tm0 => (upd (upd (upd (upd (upd (upd (upd (upd (upd (upd (upd (upd (upd (upd (upd (upd tm0 1 (.slice A1_0 p1.length c1_0)) 2 (.int .i64 p2)) 4 (.pointer (some ⟨b1,0,none⟩))) 7 (.pointer (some ⟨b2,0,none⟩))) 8 (.bool false)) 9 (.bool y3)) 10 (.slice A12 y10.1.length c13)) 11 (.int .i64 y10.2)) 12 (.slice A18 y16.1.length c19)) 13 (.int .i64 y16.2)) 58 (.bool ((y10.2 != 0) || (y16.2 != 0)))) 14 (.slice A4_s27 s27.2.length c4_s27)) 15 (.int .i64 s27.1)) 68 (.bool (decide (s27.1 < (p1.length:Int))))) 77 (.bool (decide (p2 < (rdL p1 s27.1))))) 88 (.bool b50))) (fun tm0 => ?_) (fun key => ?_)
          ·refine ox_y rfl (y_pick_tb (congrArg Value.bool hp31) rfl) ?_
           obtain rfl:=Option.some.inj h
           exact key _ _ (keep (keep (keep (keep (keep (keep (keep (keep (keep (keep (keep (keep (keep (keep (keep rfl rfl) rfl) rfl) rfl) rfl) rfl) rfl) rfl) rfl) rfl) rfl) rfl) rfl) rfl) rfl)
          ·clear h; rcases ite_some hb51 with ⟨hp49,h⟩ | ⟨hp49,h⟩
           ·refine ox_skip (sees_f rfl rfl rfl rfl hp49) ?_
            refine ox_skip (sees_f rfl rfl rfl rfl hp49) ?_
            refine ox_skip (sees_f rfl rfl rfl rfl hp49) ?_
            refine ox_skip (sees_f rfl rfl rfl rfl hp49) ?_
            refine ox_skip (sees_f rfl rfl rfl rfl hp49) ?_
            refine ox_skip (sees_f rfl rfl rfl rfl hp49) ?_
            refine ox_skip (sees_f rfl rfl rfl rfl hp49) ?_
            refine ox_y (sees_t rfl rfl rfl rfl hp31) (y_pick_tb (congrArg Value.bool hp49) rfl) ?_
            obtain rfl:=Option.some.inj h
            exact key _ _ (keep (keep (keep (keep (keep (keep (keep (keep (keep (keep (keep (keep (keep (keep (keep (keep rfl rfl) rfl) rfl) rfl) rfl) rfl) rfl) rfl) rfl) rfl) rfl) rfl) rfl) rfl) rfl) rfl)
           ·refine ox_y (sees_t rfl rfl rfl rfl hp49) (y_move_int rfl) ?_
            refine ox_y (sees_t rfl rfl rfl rfl hp49) (y_move_slice rfl) ?_
            refine ox_y (sees_t rfl rfl rfl rfl hp49) (y_move_int rfl) ?_
            refine ox_y (sees_t rfl rfl rfl rfl hp49) (y_sub rfl rfl) ?_
            obtain ⟨hg52,h⟩:=guardO_some h
            refine ox_y (sees_t rfl rfl rfl rfl hp49) (y_indexR sl_32 (by decide) hg52.1 hg52.2 (RdL.arg hr1_0) (encL_len cI_len rfl) rfl rfl) ?_
            refine ox_y (sees_t rfl rfl rfl rfl hp49) (y_loadR1 (A:=A1_0) (j:=(Int.toNat (w64 (s27.1 - 1)) * 1)) (v:=.int .i64 (rdL p1 (w64 (s27.1 - 1)))) sc_3 (RdL.arg hr1_0) rfl (encL_get0 cI_len hg52.1 (lt_nat hg52.2 rfl) rfl)) ?_
            refine ox_y (sees_t rfl rfl rfl rfl hp49) (y_gtr rfl rfl) ?_
            refine ox_y (sees_t rfl rfl rfl rfl hp31) (y_pick_fb (congrArg Value.bool hp49) rfl) ?_
            obtain rfl:=Option.some.inj h
            exact key _ _ (keep (keep (keep (keep (keep (keep (keep (keep (keep (keep (keep (keep (keep (keep (keep (keep rfl rfl) rfl) rfl) rfl) rfl) rfl) rfl) rfl) rfl) rfl) rfl) rfl) rfl) rfl) rfl) rfl)
         ·refine ox_skip (sees_f rfl rfl rfl rfl hp31) ?_
          refine ox_skip (sees_f rfl rfl rfl rfl hp31) ?_
          refine ox_skip (sees_f rfl rfl rfl rfl hp31) ?_
          refine ox_skip rfl ?_
          refine ox_skip rfl ?_
          refine ox_skip rfl ?_
          refine ox_skip rfl ?_
          refine ox_skip rfl ?_
          refine ox_skip rfl ?_
          refine ox_skip rfl ?_
          refine ox_skip (sees_f rfl rfl rfl rfl hp31) ?_
          refine ox_y rfl (y_pick_fb (congrArg Value.bool hp31) rfl) ?_
          obtain rfl:=Option.some.inj h
          exact key _ _ (keep (keep (keep (keep (keep (keep (keep (keep (keep (keep (keep (keep (keep (keep (keep rfl rfl) rfl) rfl) rfl) rfl) rfl) rfl) rfl) rfl) rfl) rfl) rfl) rfl) rfl) rfl)
       ·refine cx_false (congrArg Value.bool hp29) ?_
        refine cx_exit ?_
        refine ex_then_exit ?_
        obtain rfl:=Option.some.inj h
        exact ex_stop ⟨rfl,_,A4_s27,c4_s27,s27.2.length,rfl,rfl,(keep (keep (keep (keep (keep (keep (keep (keep (keep (keep (keep (keep (keep rfl rfl) rfl) rfl) rfl) rfl) rfl) rfl) rfl) rfl) rfl) rfl) rfl) rfl)⟩
      ·intro e L tm hJ
       obtain ⟨rfl,tm0_u28,A4_u28,c4_u28,n4_u28,rfl,rfl,rfl⟩:=hJ
       refine ⟨(by intro hc; cases hc),?_⟩
       refine ex_block_here ?_
       refine ex_then (cx_seq (cx_seq (cx_region ?_)))
       refine ox_y rfl (y_move_int rfl) ?_
       refine ox_y rfl (y_move_slice rfl) ?_
       refine ox_y rfl (y_move_slice rfl) ?_
       refine ox_y rfl (y_len (us:=[]) us_32 rfl) ?_
       refine ox_y rfl (y_sub rfl rfl) ?_
       obtain ⟨hg54,h⟩:=guardO_some h
       refine ox_y rfl (y_indexR sl_32 (by decide) hg54.1 hg54.2 (RdL.arg hr1_0) (encL_len cI_len rfl) rfl rfl) ?_
       refine ox_y rfl (y_loadR1 (A:=A1_0) (j:=(Int.toNat (w64 ((p1.length:Int) - 1)) * 1)) (v:=.int .i64 (rdL p1 (w64 ((p1.length:Int) - 1)))) sc_3 (RdL.arg hr1_0) rfl (encL_get0 cI_len hg54.1 (lt_nat hg54.2 rfl) rfl)) ?_
       refine ox_y rfl (y_gtr rfl rfl) ?_
       refine ox_nil (ex_then ?_)
       rcases ite_some h with ⟨hp55,h⟩ | ⟨hp55,h⟩
       ·refine cx_true (congrArg Value.bool hp55) ?_
        refine cx_region ?_
        refine ox_y rfl (y_move_slice rfl) ?_
        refine ox_y rfl (y_move_int rfl) ?_
        refine ox_buildSliceE 1 (encL cI [p2]) _ mc_3_1 us_32 ze_3 by_3 (by decide) (by decide) (by kernel_rfl) (encL_len cI_len rfl) rfl (fun b56 => ?_)
        try dsimp only [lna,lca,lsz,lss]
        obtain ⟨hg59,h⟩:=guardO_some h
        refine ox_append0 4 us_32 ze_3 by_3 rfl rfl rfl (RdL.row 5 rfl) (encL_len cI_len rfl) (encL_one cI_one _) (app_room hg59 (by decide)) rfl (fun A57 c58 => ?_)
        refine ox_y rfl (y_assign_slice rfl) ?_
        refine ox_nil (ex_then (cx_seq (cx_region ?_)))
        refine ox_y rfl (y_loadN 0 [.slice A0_0 p0.fNodes.length c0_0,.slice A0_1 p0.fClaims.length c0_1] ag_25 rfl rfl rfl) ?_
        refine ox_y rfl (y_move_slice rfl) ?_
        obtain ⟨y60,hy61,h⟩:=bind_some h
        refine ox_call [.agg #[.slice A0_0 p0.fNodes.length c0_0,.slice A0_1 p0.fClaims.length c0_1],.slice A57 (u28.2.length + 1) c58] _ _ _ rfl go_16 rfl (fun W2 hW2 => recall_Surely_ok p0 (u28.2 ++ [p2]) y60 hy61 W2 A0_0 p0.fNodes.length c0_0 rfl ((RdL.arg hr0_0) W2 hW2) A0_1 p0.fClaims.length c0_1 ys0_1 rfl ((RdL.arg hr0_1) W2 hW2) (NestL.at (NestL.arg hN0_1) W2 hW2) A57 (u28.2.length + 1) c58 (hn_app rfl rfl) ((RdL.row 4 rfl) W2 hW2)) ?_
        rintro ⟨A62,n64,c63⟩ hn65
        replace hn65 : n64 = y60.1.length:=hn65; subst hn65
        try dsimp only [lna,lca,lsz,lss]
        refine ox_y rfl (y_move_tuple rfl) ?_
        refine ox_y rfl (y_extract (vs:=[.slice A62 y60.1.length c63,.int .i64 y60.2]) (v:=.slice A62 y60.1.length c63) rfl rfl) ?_
        refine ox_y rfl (y_extract (vs:=[.slice A62 y60.1.length c63,.int .i64 y60.2]) (v:=.int .i64 y60.2) rfl rfl) ?_
        refine ox_y rfl (y_assign_slice rfl) ?_
        refine ox_y rfl (y_assign_int rfl) ?_
        refine ox_nil (ex_then (cx_seq (cx_region ?_)))
        refine ox_y rfl (y_loadN 0 [.slice A0_0 p0.fNodes.length c0_0,.slice A0_1 p0.fClaims.length c0_1] ag_25 rfl rfl rfl) ?_
        refine ox_y rfl (y_move_slice rfl) ?_
        obtain ⟨y66,hy67,h⟩:=bind_some h
        refine ox_call [.agg #[.slice A0_0 p0.fNodes.length c0_0,.slice A0_1 p0.fClaims.length c0_1],.slice A57 (u28.2.length + 1) c58] _ _ _ rfl go_17 rfl (fun W2 hW2 => recall_Possibly_ok p0 (u28.2 ++ [p2]) y66 hy67 W2 A0_0 p0.fNodes.length c0_0 rfl ((RdL.arg hr0_0) W2 hW2) A0_1 p0.fClaims.length c0_1 ys0_1 rfl ((RdL.arg hr0_1) W2 hW2) (NestL.at (NestL.arg hN0_1) W2 hW2) A57 (u28.2.length + 1) c58 (hn_app rfl rfl) ((RdL.row 4 rfl) W2 hW2)) ?_
        rintro ⟨A68,n70,c69⟩ hn71
        replace hn71 : n70 = y66.1.length:=hn71; subst hn71
        try dsimp only [lna,lca,lsz,lss]
        refine ox_y rfl (y_move_tuple rfl) ?_
        refine ox_y rfl (y_extract (vs:=[.slice A68 y66.1.length c69,.int .i64 y66.2]) (v:=.slice A68 y66.1.length c69) rfl rfl) ?_
        refine ox_y rfl (y_extract (vs:=[.slice A68 y66.1.length c69,.int .i64 y66.2]) (v:=.int .i64 y66.2) rfl rfl) ?_
        refine ox_y rfl (y_assign_slice rfl) ?_
        refine ox_y rfl (y_assign_int rfl) ?_
        refine ox_nil (ex_then (cx_seq (cx_seq (cx_region ?_))))
        refine ox_y rfl (y_move_int rfl) ?_
        refine ox_y rfl (y_move_int rfl) ?_
        refine ox_y rfl (y_neq rfl rfl) ?_
        refine ox_y rfl (y_move_bool rfl) ?_
        obtain ⟨b73,hb74,h⟩:=bind_some h
        refine ox_join 15 (fun tm0 => (upd (upd (upd (upd (upd (upd (upd (upd tm0 1 (.slice A1_0 p1.length c1_0)) 4 (.pointer (some ⟨b1,0,none⟩))) 7 (.pointer (some ⟨b2,0,none⟩))) 8 (.bool false)) 9 (.bool y3)) 10 (.slice A12 y10.1.length c13)) 12 (.slice A18 y16.1.length c19)) 143 (.bool b73))) (fun tm0 => ?_) (fun key => ?_)
        ·refine ox_nil (ex_then ?_)
         rcases ite_some h with ⟨hp75,h⟩ | ⟨hp75,h⟩
         ·refine cx_true (congrArg Value.bool hp75) ?_
          refine cx_seq (cx_region ?_)
          refine ox_y rfl (y_assign_bool rfl) ?_
          refine ox_nil (ex_then (cx_ret (ex_then_ret ?_)))
          obtain rfl:=Option.some.inj h
          exact ex_res1 (.inl rfl) rfl (resV_tmp (v:=.bool false) rfl) (fun W2 hW2 => ⟨rfl,hW2.none⟩)
         ·refine cx_false (congrArg Value.bool hp75) ?_
          refine cx_skip (ex_then (cx_seq ?_))
          obtain ⟨hg80,h⟩:=guardO_some h
          obtain ⟨hg84,h⟩:=guardO_some h
          refine cx_drawsG [[],[0],[],[],[3],[2,3,4],[],[6],[2,3,4,5,6,7],[0,1,2,3,4,5,6,7,8],[],[0,1,2,3,4,5,6,7,8,9,10]] [(none,0,[true,true,true,true,true,true,true,true]),(none,0,[true,true,true,true,true,true,true,true]),(none,1,[true,true,true,true,true,true,true,true]),(none,0,[true,true,true,true,true,true,true,true,false]),(none,0,[true,true,true,true,true,true,true,true,false]),(some 8,0,[true,true,true,true,true,true,true,true,true]),(none,0,[true,true,true,true,true,true,true,true,false]),(none,1,[true,true,true,true,true,true,true,true,false]),(some 8,0,[true,true,true,true,true,true,true,true,true,true]),(none,0,[true,true,true,true,true,true,true,true,true,true]),(none,1,[true,true,true,true,true,true,true,true,false,false]),(some 10,0,[true,true,true,true,true,true,true,true,true,true,true])] [⟨fun _ => .pointer (some ⟨b1,0 + 0,none⟩),fun _ => noR,fun _ => []⟩,⟨fun _ => .slice A0_0 p0.fNodes.length c0_0,fun _ => noR,fun _ => []⟩,⟨fun ξ76 => .slice (some ⟨(ξ76 2 0).2.1,0,none⟩) 0 0,fun _ => noR,fun ξ76 => [rowR (some ⟨(ξ76 2 0).2.1,0,none⟩) 0 35 2 0 (encL TClaim_cells2 ([]:List (Hd × TClaim)))]⟩,⟨fun _ => .pointer (some ⟨b1,0 + 1,none⟩),fun _ => noR,fun _ => []⟩,⟨fun _ => .slice A0_1 p0.fClaims.length c0_1,fun _ => noR,fun _ => []⟩,⟨fun ξ76 => .slice (ξ76 5 0).1 (0 + p0.fClaims.length) (ξ76 5 0).2.2,fun ξ76 => rowR (ξ76 5 0).1 (ξ76 5 0).2.2 35 2 (0 + p0.fClaims.length) (encL TClaim_cells2 (([]:List (Hd × TClaim)) ++ ys0_1)),fun _ => []⟩,⟨fun _ => .agg #[.int .i64 p3.fID,.slice A3_1 p3.fOptions.length c3_1],fun _ => noR,fun _ => []⟩,⟨fun ξ76 => .slice (some ⟨(ξ76 7 0).2.1,0,none⟩) 1 1,fun _ => noR,fun ξ76 => [rowR (some ⟨(ξ76 7 0).2.1,0,none⟩) 1 35 2 1 (encL TClaim_cells2 [((A3_1,p3.fOptions.length,c3_1),p3)])]⟩,⟨fun ξ76 => .slice (ξ76 8 0).1 ((0 + p0.fClaims.length) + 1) (ξ76 8 0).2.2,fun ξ76 => rowR (ξ76 8 0).1 (ξ76 8 0).2.2 35 2 ((0 + p0.fClaims.length) + 1) (encL TClaim_cells2 ((([]:List (Hd × TClaim)) ++ ys0_1) ++ [((A3_1,p3.fOptions.length,c3_1),p3)])),fun _ => []⟩,⟨fun ξ76 => .agg #[.slice A0_0 p0.fNodes.length c0_0,.slice (ξ76 8 0).1 ((0 + p0.fClaims.length) + 1) (ξ76 8 0).2.2],fun _ => noR,fun _ => []⟩,⟨fun ξ76 => .pointer (some ⟨(ξ76 10 0).2.1,0,none⟩),fun _ => noR,fun ξ76 => [cellsR (ξ76 10 0).2.1 25 [.slice none 0 0,.slice none 0 0]]⟩,⟨fun _ => undef,fun ξ76 => cellsR (ξ76 10 0).2.1 25 [.slice A0_0 p0.fNodes.length c0_0,.slice (ξ76 8 0).1 ((0 + p0.fClaims.length) + 1) (ξ76 8 0).2.2],fun _ => []⟩] 8 mixed (by kernel_rfl) (by kernel_rfl) ⟨⟨fun ξ76 ξ76' h => ⟨rfl,rfl,rfl⟩,fun _ => rfl⟩,⟨fun ξ76 ξ76' h => ⟨rfl,rfl,rfl⟩,fun _ => rfl⟩,⟨fun ξ76 ξ76' h => ⟨by simp only [h 2 (.inl rfl)],rfl,by simp only [h 2 (.inl rfl)]⟩,fun _ => rfl⟩,⟨fun ξ76 ξ76' h => ⟨rfl,rfl,rfl⟩,fun _ => rfl⟩,⟨fun ξ76 ξ76' h => ⟨rfl,rfl,rfl⟩,fun _ => rfl⟩,⟨fun ξ76 ξ76' h => ⟨by simp only [h 5 (.inl rfl)],by simp only [h 5 (.inl rfl)],rfl⟩,fun _ => rfl⟩,⟨fun ξ76 ξ76' h => ⟨rfl,rfl,rfl⟩,fun _ => rfl⟩,⟨fun ξ76 ξ76' h => ⟨by simp only [h 7 (.inl rfl)],rfl,by simp only [h 7 (.inl rfl)]⟩,fun _ => rfl⟩,⟨fun ξ76 ξ76' h => ⟨by simp only [h 8 (.inl rfl)],by simp only [h 8 (.inl rfl)],rfl⟩,fun _ => rfl⟩,⟨fun ξ76 ξ76' h => ⟨by simp only [h 8 (.inr rfl)],rfl,rfl⟩,fun _ => rfl⟩,⟨fun ξ76 ξ76' h => ⟨by simp only [h 10 (.inl rfl)],rfl,by simp only [h 10 (.inl rfl)]⟩,fun _ => rfl⟩,⟨fun ξ76 ξ76' h => ⟨rfl,by simp only [h 8 (.inr rfl),h 10 (.inr rfl)],rfl⟩,fun _ => rfl⟩,trivial⟩ rfl (fun ξ76 => ?_)
          refine gx_o rfl (fun L2 => ?_) ?_
          ·dsimp only [maskL,lca,lna]
           refine ox_y rfl (y_fieldAddr fo_25_0 rfl) ?_
           refine ox_nil ?_
           exact ex_capG (fun _ => (none,0,0)) rfl (List.append_nil _)
          dsimp only [aftL,lsz,lss,lna,lca,List.append_nil]
          refine gx_o rfl (fun L2 => ?_) ?_
          ·dsimp only [maskL,lca,lna]
           refine ox_y rfl (y_load1 0 (v:=.slice A0_0 p0.fNodes.length c0_0) sc_22 rfl rfl rfl) ?_
           refine ox_nil ?_
           exact ex_capG (fun _ => (none,0,0)) rfl (List.append_nil _)
          dsimp only [aftL,lsz,lss,lna,lca,List.append_nil]
          refine gx_o rfl (fun L2 => ?_) ?_
          ·dsimp only [maskL,lca,lna]
           refine ox_buildSlice0 TClaim_cells2 us_23 ze_35 by_35 rfl (fun b77 => ?_)
           refine ox_nil ?_
           exact ex_capG (fun _ => (none,b77,0)) rfl rfl
          dsimp only [aftL,lsz,lss,lna,lca,List.append_nil]
          refine gx_o rfl (fun L2 => ?_) ?_
          ·dsimp only [maskL,lca,lna]
           refine ox_y rfl (y_fieldAddr fo_25_1 rfl) ?_
           refine ox_nil ?_
           exact ex_capG (fun _ => (none,0,0)) rfl (List.append_nil _)
          dsimp only [aftL,lsz,lss,lna,lca,List.append_nil]
          refine gx_o rfl (fun L2 => ?_) ?_
          ·dsimp only [maskL,lca,lna]
           refine ox_y rfl (y_load1 0 (v:=.slice A0_1 p0.fClaims.length c0_1) sc_23 rfl rfl rfl) ?_
           refine ox_nil ?_
           exact ex_capG (fun _ => (none,0,0)) rfl (List.append_nil _)
          dsimp only [aftL,lsz,lss,lna,lca,List.append_nil]
          refine gx_o rfl (fun L2 => ?_) ?_
          ·dsimp only [maskL,lca,lna]
           refine ox_append0 8 us_23 ze_35 by_35 rfl rfl rfl (RdL.arg hr0_1) (encL_len TClaim_cells2_len (NestP.hn hN0_1.p rfl)) (encL_one TClaim_cells2_one _) (app_room hg80 (by decide)) rfl (fun A78 c79 => ?_)
           refine ox_nil ?_
           exact ex_capG (fun _ => (A78,0,c79)) rfl (List.append_nil _)
          dsimp only [aftL,lsz,lss,lna,lca,List.append_nil]
          refine gx_o rfl (fun L2 => ?_) ?_
          ·dsimp only [maskL,lca,lna]
           refine ox_y rfl (y_loadN 1 [.int .i64 p3.fID,.slice A3_1 p3.fOptions.length c3_1] ag_35 rfl rfl rfl) ?_
           refine ox_nil ?_
           exact ex_capG (fun _ => (none,0,0)) rfl (List.append_nil _)
          dsimp only [aftL,lsz,lss,lna,lca,List.append_nil]
          refine gx_o rfl (fun L2 => ?_) ?_
          ·dsimp only [maskL,lca,lna]
           refine ox_buildSliceE 1 (encL TClaim_cells2 [((A3_1,p3.fOptions.length,c3_1),p3)]) _ mc_35_1 us_23 ze_35 by_35 (by decide) (by decide) (by kernel_rfl) (encL_len TClaim_cells2_len rfl) rfl (fun b81 => ?_)
           refine ox_nil ?_
           exact ex_capG (fun _ => (none,b81,0)) rfl rfl
          dsimp only [aftL,lsz,lss,lna,lca,List.append_nil]
          refine gx_o rfl (fun L2 => ?_) ?_
          ·dsimp only [maskL,lca,lna]
           refine ox_append0 8 us_23 ze_35 by_35 rfl rfl rfl (RdL.row 9 rfl) (encL_len TClaim_cells2_len (NestP.hn (NestP.cons rfl NestP.nil) rfl)) (encL_one TClaim_cells2_one _) (app_room hg84 (by decide)) rfl (fun A82 c83 => ?_)
           refine ox_nil ?_
           exact ex_capG (fun _ => (A82,0,c83)) rfl (List.append_nil _)
          dsimp only [aftL,lsz,lss,lna,lca,List.append_nil]
          refine gx_o rfl (fun L2 => ?_) ?_
          ·dsimp only [maskL,lca,lna]
           refine ox_y rfl (y_buildS [.slice A0_0 p0.fNodes.length c0_0,.slice (ξ76 8 0).1 ((0 + p0.fClaims.length) + 1) (ξ76 8 0).2.2] [(0,1),(1,1)] ust_25 ze_25 (by kernel_rfl)) ?_
           refine ox_nil ?_
           exact ex_capG (fun _ => (none,0,0)) rfl (List.append_nil _)
          dsimp only [aftL,lsz,lss,lna,lca,List.append_nil]
          refine gx_o rfl (fun L2 => ?_) ?_
          ·dsimp only [maskL,lca,lna]
           refine ox_alloc ze_25 rfl (fun b85 => ?_)
           refine ox_nil ?_
           exact ex_capG (fun _ => (none,b85,0)) rfl rfl
          dsimp only [aftL,lsz,lss,lna,lca,List.append_nil]
          refine gx_n rfl (fun L2 => ?_) ?_
          ·dsimp only [maskL,lca,lna]
           refine ox_n rfl (y_storeN 10 [.slice A0_0 p0.fNodes.length c0_0,.slice (ξ76 8 0).1 ((0 + p0.fClaims.length) + 1) (ξ76 8 0).2.2] sz_25 rfl (Nat.le_of_ble_eq_true rfl) rfl rfl rfl) ?_
           refine ox_nil ?_
           exact ex_capGn (fun _ => (none,0,0)) (List.append_nil _)
          dsimp only [aftL,lsz,lss,lna,lca,List.append_nil]
          refine gx_nil ?_
          refine ex_then (cx_seq (cx_seq (cx_region ?_)))
          try dsimp only [lna,lca,lsz,lss]
          refine ox_y rfl (y_loadN 10 [.slice A0_0 p0.fNodes.length c0_0,.slice (ξ76 8 0).1 ((0 + p0.fClaims.length) + 1) (ξ76 8 0).2.2] ag_25 rfl rfl rfl) ?_
          obtain ⟨y86,hy87,h⟩:=bind_some h
          refine ox_y rfl (y_call [.agg #[.slice A0_0 p0.fNodes.length c0_0,.slice (ξ76 8 0).1 ((0 + p0.fClaims.length) + 1) (ξ76 8 0).2.2]] go_11 rfl (fun W2 hW2 => calxlaw09_few_ok (TLineage.mk p0.fNodes ((([]:List TClaim) ++ p0.fClaims) ++ [p3])) y86 hy87 W2 A0_0 p0.fNodes.length c0_0 rfl ((RdL.arg hr0_0) W2 hW2) (ξ76 8 0).1 ((0 + p0.fClaims.length) + 1) (ξ76 8 0).2.2 ((([]:List (Hd × TClaim)) ++ ys0_1) ++ [((A3_1,p3.fOptions.length,c3_1),p3)]) (hn_app (hn_app rfl rfl) rfl) ((RdL.row 8 rfl) W2 hW2) (NestL.at (PvL.nestL (NestP.app (NestP.app NestP.nil hN0_1.p) (NestP.cons rfl NestP.nil)) (PvL.app (PvL.app PvL.nil (PvL.of_nest hN0_1)) (PvL.cons (Pv.of_rd hr3_1) PvL.nil)) (fun W2 hW2 => ⟨hW2.below,trivial⟩)) W2 hW2)) rfl) ?_
          refine ox_y rfl (y_not rfl) ?_
          refine ox_y rfl (y_move_bool rfl) ?_
          obtain ⟨b89,hb90,h⟩:=bind_some h
          refine ox_join 4 (fun tm0 => (upd (upd (upd (upd (upd (upd (upd tm0 1 (.slice A1_0 p1.length c1_0)) 8 (.bool false)) 9 (.bool y3)) 10 (.slice A12 y10.1.length c13)) 12 (.slice A18 y16.1.length c19)) 20 (.pointer (some ⟨(ξ76 10 0).2.1,0,none⟩))) 161 (.bool b89))) (fun tm0 => ?_) (fun key => ?_)
          ·refine ox_nil (ex_then ?_)
           rcases ite_some h with ⟨hp91,h⟩ | ⟨hp91,h⟩
           ·refine cx_true (congrArg Value.bool hp91) ?_
            refine cx_seq (cx_region ?_)
            refine ox_y rfl (y_move_bool rfl) ?_
            refine ox_y rfl (y_assign_bool rfl) ?_
            refine ox_nil (ex_then (cx_ret (ex_then_ret ?_)))
            obtain rfl:=Option.some.inj h
            exact ex_res1 (.inl rfl) rfl (resV_tmp (v:=.bool y3) rfl) (fun W2 hW2 => ⟨rfl,hW2.none⟩)
           ·refine cx_false (congrArg Value.bool hp91) ?_
            refine cx_skip (ex_then (cx_seq (cx_region ?_)))
            refine ox_y rfl (y_loadN 10 [.slice A0_0 p0.fNodes.length c0_0,.slice (ξ76 8 0).1 ((0 + p0.fClaims.length) + 1) (ξ76 8 0).2.2] ag_25 rfl rfl rfl) ?_
            refine ox_y rfl (y_move_slice rfl) ?_
            obtain ⟨y92,hy93,h⟩:=bind_some h
            refine ox_call [.agg #[.slice A0_0 p0.fNodes.length c0_0,.slice (ξ76 8 0).1 ((0 + p0.fClaims.length) + 1) (ξ76 8 0).2.2],.slice A1_0 p1.length c1_0] _ _ _ rfl go_16 rfl (fun W2 hW2 => recall_Surely_ok (TLineage.mk p0.fNodes ((([]:List TClaim) ++ p0.fClaims) ++ [p3])) p1 y92 hy93 W2 A0_0 p0.fNodes.length c0_0 rfl ((RdL.arg hr0_0) W2 hW2) (ξ76 8 0).1 ((0 + p0.fClaims.length) + 1) (ξ76 8 0).2.2 ((([]:List (Hd × TClaim)) ++ ys0_1) ++ [((A3_1,p3.fOptions.length,c3_1),p3)]) (hn_app (hn_app rfl rfl) rfl) ((RdL.row 8 rfl) W2 hW2) (NestL.at (PvL.nestL (NestP.app (NestP.app NestP.nil hN0_1.p) (NestP.cons rfl NestP.nil)) (PvL.app (PvL.app PvL.nil (PvL.of_nest hN0_1)) (PvL.cons (Pv.of_rd hr3_1) PvL.nil)) (fun W2 hW2 => ⟨hW2.below,trivial⟩)) W2 hW2) A1_0 p1.length c1_0 rfl ((RdL.arg hr1_0) W2 hW2)) ?_
            rintro ⟨A94,n96,c95⟩ hn97
            replace hn97 : n96 = y92.1.length:=hn97; subst hn97
            try dsimp only [lna,lca,lsz,lss]
            refine ox_y rfl (y_move_tuple rfl) ?_
            refine ox_y rfl (y_extract (vs:=[.slice A94 y92.1.length c95,.int .i64 y92.2]) (v:=.slice A94 y92.1.length c95) rfl rfl) ?_
            refine ox_y rfl (y_extract (vs:=[.slice A94 y92.1.length c95,.int .i64 y92.2]) (v:=.int .i64 y92.2) rfl rfl) ?_
            refine ox_y rfl (y_assign_slice rfl) ?_
            refine ox_y rfl (y_assign_int rfl) ?_
            refine ox_nil (ex_then (cx_seq (cx_region ?_)))
            refine ox_y rfl (y_loadN 10 [.slice A0_0 p0.fNodes.length c0_0,.slice (ξ76 8 0).1 ((0 + p0.fClaims.length) + 1) (ξ76 8 0).2.2] ag_25 rfl rfl rfl) ?_
            refine ox_y rfl (y_move_slice rfl) ?_
            obtain ⟨y98,hy99,h⟩:=bind_some h
            refine ox_call [.agg #[.slice A0_0 p0.fNodes.length c0_0,.slice (ξ76 8 0).1 ((0 + p0.fClaims.length) + 1) (ξ76 8 0).2.2],.slice A1_0 p1.length c1_0] _ _ _ rfl go_17 rfl (fun W2 hW2 => recall_Possibly_ok (TLineage.mk p0.fNodes ((([]:List TClaim) ++ p0.fClaims) ++ [p3])) p1 y98 hy99 W2 A0_0 p0.fNodes.length c0_0 rfl ((RdL.arg hr0_0) W2 hW2) (ξ76 8 0).1 ((0 + p0.fClaims.length) + 1) (ξ76 8 0).2.2 ((([]:List (Hd × TClaim)) ++ ys0_1) ++ [((A3_1,p3.fOptions.length,c3_1),p3)]) (hn_app (hn_app rfl rfl) rfl) ((RdL.row 8 rfl) W2 hW2) (NestL.at (PvL.nestL (NestP.app (NestP.app NestP.nil hN0_1.p) (NestP.cons rfl NestP.nil)) (PvL.app (PvL.app PvL.nil (PvL.of_nest hN0_1)) (PvL.cons (Pv.of_rd hr3_1) PvL.nil)) (fun W2 hW2 => ⟨hW2.below,trivial⟩)) W2 hW2) A1_0 p1.length c1_0 rfl ((RdL.arg hr1_0) W2 hW2)) ?_
            rintro ⟨A100,n102,c101⟩ hn103
            replace hn103 : n102 = y98.1.length:=hn103; subst hn103
            try dsimp only [lna,lca,lsz,lss]
            refine ox_y rfl (y_move_tuple rfl) ?_
            refine ox_y rfl (y_extract (vs:=[.slice A100 y98.1.length c101,.int .i64 y98.2]) (v:=.slice A100 y98.1.length c101) rfl rfl) ?_
            refine ox_y rfl (y_extract (vs:=[.slice A100 y98.1.length c101,.int .i64 y98.2]) (v:=.int .i64 y98.2) rfl rfl) ?_
            refine ox_y rfl (y_assign_slice rfl) ?_
            refine ox_y rfl (y_assign_int rfl) ?_
            refine ox_nil (ex_then (cx_seq (cx_region ?_)))
            refine ox_y rfl (y_move_bool rfl) ?_
            refine ox_y rfl (y_move_bool rfl) ?_
            refine ox_join 3 (fun tm0 => (upd (upd (upd (upd (upd (upd (upd tm0 8 (.bool false)) 10 (.slice A12 y10.1.length c13)) 12 (.slice A18 y16.1.length c19)) 21 (.slice A94 y92.1.length c95)) 23 (.slice A100 y98.1.length c101)) 24 (.int .i64 y98.2)) 179 (.bool (y3 && (y92.2 == 0))))) (fun tm0 => ?_) (fun key => ?_)
            ·refine ox_y rfl (y_move_bool rfl) ?_
             refine ox_join 3 (fun tm0 => (upd (upd (upd (upd (upd (upd tm0 8 (.bool false)) 10 (.slice A12 y10.1.length c13)) 12 (.slice A18 y16.1.length c19)) 21 (.slice A94 y92.1.length c95)) 23 (.slice A100 y98.1.length c101)) 183 (.bool ((y3 && (y92.2 == 0)) && (y98.2 == 0))))) (fun tm0 => ?_) (fun key => ?_)
             ·refine ox_y rfl (y_move_bool rfl) ?_
              obtain ⟨b107,hb108,h⟩:=bind_some h
              refine ox_join 4 (fun tm0 => (upd (upd (upd (upd tm0 8 (.bool false)) 12 (.slice A18 y16.1.length c19)) 23 (.slice A100 y98.1.length c101)) 188 (.bool b107))) (fun tm0 => ?_) (fun key => ?_)
              ·refine ox_y rfl (y_move_bool rfl) ?_
               obtain ⟨b110,hb111,h⟩:=bind_some h
               refine ox_join 4 (fun tm0 => (upd (upd tm0 8 (.bool false)) 193 (.bool b110))) (fun tm0 => ?_) (fun key => ?_)
               ·refine ox_y rfl (y_assign_bool rfl) ?_
                refine ox_nil (ex_then (cx_ret ?_))
                obtain rfl:=Option.some.inj h
                exact ex_res1 (.inl rfl) rfl (resV_tmp (v:=.bool b110) rfl) (fun W2 hW2 => ⟨rfl,hW2.none⟩)
               ·clear h; rcases ite_some hb111 with ⟨hp109,h⟩ | ⟨hp109,h⟩
                ·refine ox_y (sees_t rfl rfl rfl rfl hp109) (y_move_slice rfl) ?_
                 refine ox_y (sees_t rfl rfl rfl rfl hp109) (y_move_slice rfl) ?_
                 obtain ⟨y112,hy113,h⟩:=bind_some h
                 refine ox_y (sees_t rfl rfl rfl rfl hp109) (y_call [.slice A100 y98.1.length c101,.slice A18 y16.1.length c19] go_18 rfl (fun W2 hW2 => calxlaw09_all_ok y98.1 y16.1 y112 hy113 W2 A100 y98.1.length c101 rfl ((RdL.row 12 rfl) W2 hW2) A18 y16.1.length c19 rfl ((RdL.row 3 rfl) W2 hW2)) rfl) ?_
                 refine ox_y rfl (y_pick_tb (congrArg Value.bool hp109) rfl) ?_
                 obtain rfl:=Option.some.inj h
                 exact key _ _ (keep (keep rfl rfl) rfl)
                ·refine ox_skip (sees_f rfl rfl rfl rfl hp109) ?_
                 refine ox_skip (sees_f rfl rfl rfl rfl hp109) ?_
                 refine ox_skip (sees_f rfl rfl rfl rfl hp109) ?_
                 refine ox_y rfl (y_pick_fb (congrArg Value.bool hp109) rfl) ?_
                 obtain rfl:=Option.some.inj h
                 exact key _ _ (keep (keep rfl rfl) rfl)
              ·clear h; rcases ite_some hb108 with ⟨hp106,h⟩ | ⟨hp106,h⟩
               ·refine ox_y (sees_t rfl rfl rfl rfl hp106) (y_move_slice rfl) ?_
                refine ox_y (sees_t rfl rfl rfl rfl hp106) (y_move_slice rfl) ?_
                obtain ⟨y114,hy115,h⟩:=bind_some h
                refine ox_y (sees_t rfl rfl rfl rfl hp106) (y_call [.slice A94 y92.1.length c95,.slice A12 y10.1.length c13] go_18 rfl (fun W2 hW2 => calxlaw09_all_ok y92.1 y10.1 y114 hy115 W2 A94 y92.1.length c95 rfl ((RdL.row 11 rfl) W2 hW2) A12 y10.1.length c13 rfl ((RdL.row 2 rfl) W2 hW2)) rfl) ?_
                refine ox_y rfl (y_pick_tb (congrArg Value.bool hp106) rfl) ?_
                obtain rfl:=Option.some.inj h
                exact key _ _ (keep (keep (keep (keep rfl rfl) rfl) rfl) rfl)
               ·refine ox_skip (sees_f rfl rfl rfl rfl hp106) ?_
                refine ox_skip (sees_f rfl rfl rfl rfl hp106) ?_
                refine ox_skip (sees_f rfl rfl rfl rfl hp106) ?_
                refine ox_y rfl (y_pick_fb (congrArg Value.bool hp106) rfl) ?_
                obtain rfl:=Option.some.inj h
                exact key _ _ (keep (keep (keep (keep rfl rfl) rfl) rfl) rfl)
             ·rcases bool_cases (y3 && (y92.2 == 0)) with hp105 | hp105
              ·refine ox_y (sees_t rfl rfl rfl rfl hp105) (y_move_int rfl) ?_
               refine ox_y (sees_t rfl rfl rfl rfl hp105) (y_eql rfl rfl) ?_
               refine ox_y rfl (y_pick_tb (congrArg Value.bool hp105) rfl) ?_
               exact key _ _ (keep (keep (keep (keep (keep (keep rfl rfl) rfl) rfl) rfl) rfl) (congrArg Value.bool (and_t hp105)))
              ·refine ox_skip (sees_f rfl rfl rfl rfl hp105) ?_
               refine ox_skip (sees_f rfl rfl rfl rfl hp105) ?_
               refine ox_y rfl (y_pick_fb (congrArg Value.bool hp105) rfl) ?_
               exact key _ _ (keep (keep (keep (keep (keep (keep rfl rfl) rfl) rfl) rfl) rfl) (congrArg Value.bool (and_f hp105)))
            ·rcases bool_cases y3 with hp104 | hp104
             ·refine ox_y (sees_t rfl rfl rfl rfl hp104) (y_move_int rfl) ?_
              refine ox_y (sees_t rfl rfl rfl rfl hp104) (y_eql rfl rfl) ?_
              refine ox_y rfl (y_pick_tb (congrArg Value.bool hp104) rfl) ?_
              exact key _ _ (keep (keep (keep (keep (keep (keep (keep rfl rfl) rfl) rfl) rfl) rfl) rfl) (congrArg Value.bool (and_t hp104)))
             ·refine ox_skip (sees_f rfl rfl rfl rfl hp104) ?_
              refine ox_skip (sees_f rfl rfl rfl rfl hp104) ?_
              refine ox_y rfl (y_pick_fb (congrArg Value.bool hp104) rfl) ?_
              exact key _ _ (keep (keep (keep (keep (keep (keep (keep rfl rfl) rfl) rfl) rfl) rfl) rfl) (congrArg Value.bool (and_f hp104)))
          ·clear h; rcases ite_some hb90 with ⟨hp88,h⟩ | ⟨hp88,h⟩
           ·refine ox_skip (sees_f rfl rfl rfl rfl hp88) ?_
            refine ox_skip (sees_f rfl rfl rfl rfl hp88) ?_
            refine ox_skip (sees_f rfl rfl rfl rfl hp88) ?_
            refine ox_y rfl (y_pick_tb (congrArg Value.bool hp88) rfl) ?_
            obtain rfl:=Option.some.inj h
            exact key _ _ (keep (keep (keep (keep (keep (keep (keep rfl rfl) rfl) rfl) rfl) rfl) rfl) rfl)
           ·refine ox_y (sees_t rfl rfl rfl rfl hp88) (y_loadN 10 [.slice A0_0 p0.fNodes.length c0_0,.slice (ξ76 8 0).1 ((0 + p0.fClaims.length) + 1) (ξ76 8 0).2.2] ag_25 rfl rfl rfl) ?_
            obtain ⟨y116,hy117,h⟩:=bind_some h
            refine ox_y (sees_t rfl rfl rfl rfl hp88) (y_call [.agg #[.slice A0_0 p0.fNodes.length c0_0,.slice (ξ76 8 0).1 ((0 + p0.fClaims.length) + 1) (ξ76 8 0).2.2]] go_14 rfl (fun W2 hW2 => recall_Check_ok (TLineage.mk p0.fNodes ((([]:List TClaim) ++ p0.fClaims) ++ [p3])) y116 hy117 W2 A0_0 p0.fNodes.length c0_0 rfl ((RdL.arg hr0_0) W2 hW2) (ξ76 8 0).1 ((0 + p0.fClaims.length) + 1) (ξ76 8 0).2.2 ((([]:List (Hd × TClaim)) ++ ys0_1) ++ [((A3_1,p3.fOptions.length,c3_1),p3)]) (hn_app (hn_app rfl rfl) rfl) ((RdL.row 8 rfl) W2 hW2) (NestL.at (PvL.nestL (NestP.app (NestP.app NestP.nil hN0_1.p) (NestP.cons rfl NestP.nil)) (PvL.app (PvL.app PvL.nil (PvL.of_nest hN0_1)) (PvL.cons (Pv.of_rd hr3_1) PvL.nil)) (fun W2 hW2 => ⟨hW2.below,trivial⟩)) W2 hW2)) rfl) ?_
            refine ox_y (sees_t rfl rfl rfl rfl hp88) (y_neq rfl rfl) ?_
            refine ox_y rfl (y_pick_fb (congrArg Value.bool hp88) rfl) ?_
            obtain rfl:=Option.some.inj h
            exact key _ _ (keep (keep (keep (keep (keep (keep (keep rfl rfl) rfl) rfl) rfl) rfl) rfl) rfl)
        ·clear h; rcases ite_some hb74 with ⟨hp72,h⟩ | ⟨hp72,h⟩
         ·refine ox_skip (sees_f rfl rfl rfl rfl hp72) ?_
          refine ox_skip (sees_f rfl rfl rfl rfl hp72) ?_
          refine ox_skip (sees_f rfl rfl rfl rfl hp72) ?_
          refine ox_skip rfl ?_
          refine ox_skip rfl ?_
          refine ox_skip rfl ?_
          refine ox_skip rfl ?_
          refine ox_skip rfl ?_
          refine ox_skip rfl ?_
          refine ox_skip rfl ?_
          refine ox_skip rfl ?_
          refine ox_skip rfl ?_
          refine ox_skip rfl ?_
          refine ox_skip (sees_f rfl rfl rfl rfl hp72) ?_
          refine ox_y rfl (y_pick_tb (congrArg Value.bool hp72) rfl) ?_
          obtain rfl:=Option.some.inj h
          exact key _ _ (keep (keep (keep (keep (keep (keep (keep (keep rfl rfl) rfl) rfl) rfl) rfl) rfl) rfl) rfl)
         ·refine ox_y (sees_t rfl rfl rfl rfl hp72) (y_move_int rfl) ?_
          refine ox_y (sees_t rfl rfl rfl rfl hp72) (y_eql rfl rfl) ?_
          refine ox_y (sees_t rfl rfl rfl rfl hp72) (y_move_bool rfl) ?_
          obtain ⟨b119,hb120,h⟩:=bind_some h
          refine ox_join 11 (fun tm0 => (upd (upd (upd (upd (upd (upd (upd (upd (upd tm0 1 (.slice A1_0 p1.length c1_0)) 4 (.pointer (some ⟨b1,0,none⟩))) 7 (.pointer (some ⟨b2,0,none⟩))) 8 (.bool false)) 9 (.bool y3)) 10 (.slice A12 y10.1.length c13)) 12 (.slice A18 y16.1.length c19)) 128 (.bool (y60.2 != y66.2))) 142 (.bool b119))) (fun tm0 => ?_) (fun key => ?_)
          ·refine ox_y rfl (y_pick_fb (congrArg Value.bool hp72) rfl) ?_
           obtain rfl:=Option.some.inj h
           exact key _ _ (keep (keep (keep (keep (keep (keep (keep (keep rfl rfl) rfl) rfl) rfl) rfl) rfl) rfl) rfl)
          ·clear h; rcases ite_some hb120 with ⟨hp118,h⟩ | ⟨hp118,h⟩
           ·refine ox_y (sees_t rfl rfl rfl rfl hp118) (y_move_slice rfl) ?_
            refine ox_y (sees_t rfl rfl rfl rfl hp118) (y_move_slice rfl) ?_
            obtain ⟨y121,hy122,h⟩:=bind_some h
            refine ox_y (sees_t rfl rfl rfl rfl hp118) (y_call [.slice A62 y60.1.length c63,.slice A12 y10.1.length c13] go_18 rfl (fun W2 hW2 => calxlaw09_all_ok y60.1 y10.1 y121 hy122 W2 A62 y60.1.length c63 rfl ((RdL.row 6 rfl) W2 hW2) A12 y10.1.length c13 rfl ((RdL.row 2 rfl) W2 hW2)) rfl) ?_
            refine ox_y (sees_t rfl rfl rfl rfl hp118) (y_not rfl) ?_
            refine ox_y (sees_t rfl rfl rfl rfl hp118) (y_move_bool rfl) ?_
            obtain ⟨b124,hb125,h⟩:=bind_some h
            refine ox_join 5 (fun tm0 => (upd (upd (upd (upd (upd (upd (upd (upd (upd (upd tm0 1 (.slice A1_0 p1.length c1_0)) 4 (.pointer (some ⟨b1,0,none⟩))) 7 (.pointer (some ⟨b2,0,none⟩))) 8 (.bool false)) 9 (.bool y3)) 10 (.slice A12 y10.1.length c13)) 12 (.slice A18 y16.1.length c19)) 128 (.bool (y60.2 != y66.2))) 131 (.bool (y60.2 == 0))) 141 (.bool b124))) (fun tm0 => ?_) (fun key => ?_)
            ·refine ox_y (sees_t rfl rfl rfl rfl hp72) (y_pick_tb (congrArg Value.bool hp118) rfl) ?_
             obtain rfl:=Option.some.inj h
             exact key _ _ (keep (keep (keep (keep (keep (keep (keep (keep (keep rfl rfl) rfl) rfl) rfl) rfl) rfl) rfl) rfl) rfl)
            ·clear h; rcases ite_some hb125 with ⟨hp123,h⟩ | ⟨hp123,h⟩
             ·refine ox_skip (sees_f rfl rfl rfl rfl hp123) ?_
              refine ox_skip (sees_f rfl rfl rfl rfl hp123) ?_
              refine ox_skip (sees_f rfl rfl rfl rfl hp123) ?_
              refine ox_skip (sees_f rfl rfl rfl rfl hp123) ?_
              refine ox_y (sees_t rfl rfl rfl rfl hp118) (y_pick_tb (congrArg Value.bool hp123) rfl) ?_
              obtain rfl:=Option.some.inj h
              exact key _ _ (keep (keep (keep (keep (keep (keep (keep (keep (keep (keep rfl rfl) rfl) rfl) rfl) rfl) rfl) rfl) rfl) rfl) rfl)
             ·refine ox_y (sees_t rfl rfl rfl rfl hp123) (y_move_slice rfl) ?_
              refine ox_y (sees_t rfl rfl rfl rfl hp123) (y_move_slice rfl) ?_
              obtain ⟨y126,hy127,h⟩:=bind_some h
              refine ox_y (sees_t rfl rfl rfl rfl hp123) (y_call [.slice A68 y66.1.length c69,.slice A18 y16.1.length c19] go_18 rfl (fun W2 hW2 => calxlaw09_all_ok y66.1 y16.1 y126 hy127 W2 A68 y66.1.length c69 rfl ((RdL.row 7 rfl) W2 hW2) A18 y16.1.length c19 rfl ((RdL.row 3 rfl) W2 hW2)) rfl) ?_
              refine ox_y (sees_t rfl rfl rfl rfl hp123) (y_not rfl) ?_
              refine ox_y (sees_t rfl rfl rfl rfl hp118) (y_pick_fb (congrArg Value.bool hp123) rfl) ?_
              obtain rfl:=Option.some.inj h
              exact key _ _ (keep (keep (keep (keep (keep (keep (keep (keep (keep (keep rfl rfl) rfl) rfl) rfl) rfl) rfl) rfl) rfl) rfl) rfl)
           ·refine ox_skip (sees_f rfl rfl rfl rfl hp118) ?_
            refine ox_skip (sees_f rfl rfl rfl rfl hp118) ?_
            refine ox_skip (sees_f rfl rfl rfl rfl hp118) ?_
            refine ox_skip (sees_f rfl rfl rfl rfl hp118) ?_
            refine ox_skip (sees_f rfl rfl rfl rfl hp118) ?_
            refine ox_skip rfl ?_
            refine ox_skip rfl ?_
            refine ox_skip rfl ?_
            refine ox_skip rfl ?_
            refine ox_skip (sees_f rfl rfl rfl rfl hp118) ?_
            refine ox_y (sees_t rfl rfl rfl rfl hp72) (y_pick_fb (congrArg Value.bool hp118) rfl) ?_
            obtain rfl:=Option.some.inj h
            exact key _ _ (keep (keep (keep (keep (keep (keep (keep (keep (keep rfl rfl) rfl) rfl) rfl) rfl) rfl) rfl) rfl) rfl)
       ·refine cx_false (congrArg Value.bool hp55) ?_
        refine cx_skip (ex_then (cx_seq (cx_region ?_)))
        refine ox_y rfl (y_loadN 0 [.slice A0_0 p0.fNodes.length c0_0,.slice A0_1 p0.fClaims.length c0_1] ag_25 rfl rfl rfl) ?_
        refine ox_y rfl (y_move_slice rfl) ?_
        obtain ⟨y128,hy129,h⟩:=bind_some h
        refine ox_call [.agg #[.slice A0_0 p0.fNodes.length c0_0,.slice A0_1 p0.fClaims.length c0_1],.slice A4_u28 u28.2.length c4_u28] _ _ _ rfl go_16 rfl (fun W2 hW2 => recall_Surely_ok p0 u28.2 y128 hy129 W2 A0_0 p0.fNodes.length c0_0 rfl ((RdL.arg hr0_0) W2 hW2) A0_1 p0.fClaims.length c0_1 ys0_1 rfl ((RdL.arg hr0_1) W2 hW2) (NestL.at (NestL.arg hN0_1) W2 hW2) A4_u28 u28.2.length c4_u28 rfl ((RdL.row 4 rfl) W2 hW2)) ?_
        rintro ⟨A130,n132,c131⟩ hn133
        replace hn133 : n132 = y128.1.length:=hn133; subst hn133
        try dsimp only [lna,lca,lsz,lss]
        refine ox_y rfl (y_move_tuple rfl) ?_
        refine ox_y rfl (y_extract (vs:=[.slice A130 y128.1.length c131,.int .i64 y128.2]) (v:=.slice A130 y128.1.length c131) rfl rfl) ?_
        refine ox_y rfl (y_extract (vs:=[.slice A130 y128.1.length c131,.int .i64 y128.2]) (v:=.int .i64 y128.2) rfl rfl) ?_
        refine ox_y rfl (y_assign_slice rfl) ?_
        refine ox_y rfl (y_assign_int rfl) ?_
        refine ox_nil (ex_then (cx_seq (cx_region ?_)))
        refine ox_y rfl (y_loadN 0 [.slice A0_0 p0.fNodes.length c0_0,.slice A0_1 p0.fClaims.length c0_1] ag_25 rfl rfl rfl) ?_
        refine ox_y rfl (y_move_slice rfl) ?_
        obtain ⟨y134,hy135,h⟩:=bind_some h
        refine ox_call [.agg #[.slice A0_0 p0.fNodes.length c0_0,.slice A0_1 p0.fClaims.length c0_1],.slice A4_u28 u28.2.length c4_u28] _ _ _ rfl go_17 rfl (fun W2 hW2 => recall_Possibly_ok p0 u28.2 y134 hy135 W2 A0_0 p0.fNodes.length c0_0 rfl ((RdL.arg hr0_0) W2 hW2) A0_1 p0.fClaims.length c0_1 ys0_1 rfl ((RdL.arg hr0_1) W2 hW2) (NestL.at (NestL.arg hN0_1) W2 hW2) A4_u28 u28.2.length c4_u28 rfl ((RdL.row 4 rfl) W2 hW2)) ?_
        rintro ⟨A136,n138,c137⟩ hn139
        replace hn139 : n138 = y134.1.length:=hn139; subst hn139
        try dsimp only [lna,lca,lsz,lss]
        refine ox_y rfl (y_move_tuple rfl) ?_
        refine ox_y rfl (y_extract (vs:=[.slice A136 y134.1.length c137,.int .i64 y134.2]) (v:=.slice A136 y134.1.length c137) rfl rfl) ?_
        refine ox_y rfl (y_extract (vs:=[.slice A136 y134.1.length c137,.int .i64 y134.2]) (v:=.int .i64 y134.2) rfl rfl) ?_
        refine ox_y rfl (y_assign_slice rfl) ?_
        refine ox_y rfl (y_assign_int rfl) ?_
        refine ox_nil (ex_then (cx_seq (cx_seq (cx_region ?_))))
        refine ox_y rfl (y_move_int rfl) ?_
        refine ox_y rfl (y_move_int rfl) ?_
        refine ox_y rfl (y_neq rfl rfl) ?_
        refine ox_y rfl (y_move_bool rfl) ?_
        obtain ⟨b141,hb142,h⟩:=bind_some h
        refine ox_join 15 (fun tm0 => (upd (upd (upd (upd (upd (upd (upd (upd tm0 1 (.slice A1_0 p1.length c1_0)) 4 (.pointer (some ⟨b1,0,none⟩))) 7 (.pointer (some ⟨b2,0,none⟩))) 8 (.bool false)) 9 (.bool y3)) 10 (.slice A12 y10.1.length c13)) 12 (.slice A18 y16.1.length c19)) 143 (.bool b141))) (fun tm0 => ?_) (fun key => ?_)
        ·refine ox_nil (ex_then ?_)
         rcases ite_some h with ⟨hp143,h⟩ | ⟨hp143,h⟩
         ·refine cx_true (congrArg Value.bool hp143) ?_
          refine cx_seq (cx_region ?_)
          refine ox_y rfl (y_assign_bool rfl) ?_
          refine ox_nil (ex_then (cx_ret (ex_then_ret ?_)))
          obtain rfl:=Option.some.inj h
          exact ex_res1 (.inl rfl) rfl (resV_tmp (v:=.bool false) rfl) (fun W2 hW2 => ⟨rfl,hW2.none⟩)
         ·refine cx_false (congrArg Value.bool hp143) ?_
          refine cx_skip (ex_then (cx_seq ?_))
          obtain ⟨hg148,h⟩:=guardO_some h
          obtain ⟨hg152,h⟩:=guardO_some h
          refine cx_drawsG [[],[0],[],[],[3],[2,3,4],[],[6],[2,3,4,5,6,7],[0,1,2,3,4,5,6,7,8],[],[0,1,2,3,4,5,6,7,8,9,10]] [(none,0,[true,true,true,true,true,true,true]),(none,0,[true,true,true,true,true,true,true]),(none,1,[true,true,true,true,true,true,true]),(none,0,[true,true,true,true,true,true,true,false]),(none,0,[true,true,true,true,true,true,true,false]),(some 7,0,[true,true,true,true,true,true,true,true]),(none,0,[true,true,true,true,true,true,true,false]),(none,1,[true,true,true,true,true,true,true,false]),(some 7,0,[true,true,true,true,true,true,true,true,true]),(none,0,[true,true,true,true,true,true,true,true,true]),(none,1,[true,true,true,true,true,true,true,false,false]),(some 9,0,[true,true,true,true,true,true,true,true,true,true])] [⟨fun _ => .pointer (some ⟨b1,0 + 0,none⟩),fun _ => noR,fun _ => []⟩,⟨fun _ => .slice A0_0 p0.fNodes.length c0_0,fun _ => noR,fun _ => []⟩,⟨fun ξ144 => .slice (some ⟨(ξ144 2 0).2.1,0,none⟩) 0 0,fun _ => noR,fun ξ144 => [rowR (some ⟨(ξ144 2 0).2.1,0,none⟩) 0 35 2 0 (encL TClaim_cells2 ([]:List (Hd × TClaim)))]⟩,⟨fun _ => .pointer (some ⟨b1,0 + 1,none⟩),fun _ => noR,fun _ => []⟩,⟨fun _ => .slice A0_1 p0.fClaims.length c0_1,fun _ => noR,fun _ => []⟩,⟨fun ξ144 => .slice (ξ144 5 0).1 (0 + p0.fClaims.length) (ξ144 5 0).2.2,fun ξ144 => rowR (ξ144 5 0).1 (ξ144 5 0).2.2 35 2 (0 + p0.fClaims.length) (encL TClaim_cells2 (([]:List (Hd × TClaim)) ++ ys0_1)),fun _ => []⟩,⟨fun _ => .agg #[.int .i64 p3.fID,.slice A3_1 p3.fOptions.length c3_1],fun _ => noR,fun _ => []⟩,⟨fun ξ144 => .slice (some ⟨(ξ144 7 0).2.1,0,none⟩) 1 1,fun _ => noR,fun ξ144 => [rowR (some ⟨(ξ144 7 0).2.1,0,none⟩) 1 35 2 1 (encL TClaim_cells2 [((A3_1,p3.fOptions.length,c3_1),p3)])]⟩,⟨fun ξ144 => .slice (ξ144 8 0).1 ((0 + p0.fClaims.length) + 1) (ξ144 8 0).2.2,fun ξ144 => rowR (ξ144 8 0).1 (ξ144 8 0).2.2 35 2 ((0 + p0.fClaims.length) + 1) (encL TClaim_cells2 ((([]:List (Hd × TClaim)) ++ ys0_1) ++ [((A3_1,p3.fOptions.length,c3_1),p3)])),fun _ => []⟩,⟨fun ξ144 => .agg #[.slice A0_0 p0.fNodes.length c0_0,.slice (ξ144 8 0).1 ((0 + p0.fClaims.length) + 1) (ξ144 8 0).2.2],fun _ => noR,fun _ => []⟩,⟨fun ξ144 => .pointer (some ⟨(ξ144 10 0).2.1,0,none⟩),fun _ => noR,fun ξ144 => [cellsR (ξ144 10 0).2.1 25 [.slice none 0 0,.slice none 0 0]]⟩,⟨fun _ => undef,fun ξ144 => cellsR (ξ144 10 0).2.1 25 [.slice A0_0 p0.fNodes.length c0_0,.slice (ξ144 8 0).1 ((0 + p0.fClaims.length) + 1) (ξ144 8 0).2.2],fun _ => []⟩] 7 mixed (by kernel_rfl) (by kernel_rfl) ⟨⟨fun ξ144 ξ144' h => ⟨rfl,rfl,rfl⟩,fun _ => rfl⟩,⟨fun ξ144 ξ144' h => ⟨rfl,rfl,rfl⟩,fun _ => rfl⟩,⟨fun ξ144 ξ144' h => ⟨by simp only [h 2 (.inl rfl)],rfl,by simp only [h 2 (.inl rfl)]⟩,fun _ => rfl⟩,⟨fun ξ144 ξ144' h => ⟨rfl,rfl,rfl⟩,fun _ => rfl⟩,⟨fun ξ144 ξ144' h => ⟨rfl,rfl,rfl⟩,fun _ => rfl⟩,⟨fun ξ144 ξ144' h => ⟨by simp only [h 5 (.inl rfl)],by simp only [h 5 (.inl rfl)],rfl⟩,fun _ => rfl⟩,⟨fun ξ144 ξ144' h => ⟨rfl,rfl,rfl⟩,fun _ => rfl⟩,⟨fun ξ144 ξ144' h => ⟨by simp only [h 7 (.inl rfl)],rfl,by simp only [h 7 (.inl rfl)]⟩,fun _ => rfl⟩,⟨fun ξ144 ξ144' h => ⟨by simp only [h 8 (.inl rfl)],by simp only [h 8 (.inl rfl)],rfl⟩,fun _ => rfl⟩,⟨fun ξ144 ξ144' h => ⟨by simp only [h 8 (.inr rfl)],rfl,rfl⟩,fun _ => rfl⟩,⟨fun ξ144 ξ144' h => ⟨by simp only [h 10 (.inl rfl)],rfl,by simp only [h 10 (.inl rfl)]⟩,fun _ => rfl⟩,⟨fun ξ144 ξ144' h => ⟨rfl,by simp only [h 8 (.inr rfl),h 10 (.inr rfl)],rfl⟩,fun _ => rfl⟩,trivial⟩ rfl (fun ξ144 => ?_)
          refine gx_o rfl (fun L2 => ?_) ?_
          ·dsimp only [maskL,lca,lna]
           refine ox_y rfl (y_fieldAddr fo_25_0 rfl) ?_
           refine ox_nil ?_
           exact ex_capG (fun _ => (none,0,0)) rfl (List.append_nil _)
          dsimp only [aftL,lsz,lss,lna,lca,List.append_nil]
          refine gx_o rfl (fun L2 => ?_) ?_
          ·dsimp only [maskL,lca,lna]
           refine ox_y rfl (y_load1 0 (v:=.slice A0_0 p0.fNodes.length c0_0) sc_22 rfl rfl rfl) ?_
           refine ox_nil ?_
           exact ex_capG (fun _ => (none,0,0)) rfl (List.append_nil _)
          dsimp only [aftL,lsz,lss,lna,lca,List.append_nil]
          refine gx_o rfl (fun L2 => ?_) ?_
          ·dsimp only [maskL,lca,lna]
           refine ox_buildSlice0 TClaim_cells2 us_23 ze_35 by_35 rfl (fun b145 => ?_)
           refine ox_nil ?_
           exact ex_capG (fun _ => (none,b145,0)) rfl rfl
          dsimp only [aftL,lsz,lss,lna,lca,List.append_nil]
          refine gx_o rfl (fun L2 => ?_) ?_
          ·dsimp only [maskL,lca,lna]
           refine ox_y rfl (y_fieldAddr fo_25_1 rfl) ?_
           refine ox_nil ?_
           exact ex_capG (fun _ => (none,0,0)) rfl (List.append_nil _)
          dsimp only [aftL,lsz,lss,lna,lca,List.append_nil]
          refine gx_o rfl (fun L2 => ?_) ?_
          ·dsimp only [maskL,lca,lna]
           refine ox_y rfl (y_load1 0 (v:=.slice A0_1 p0.fClaims.length c0_1) sc_23 rfl rfl rfl) ?_
           refine ox_nil ?_
           exact ex_capG (fun _ => (none,0,0)) rfl (List.append_nil _)
          dsimp only [aftL,lsz,lss,lna,lca,List.append_nil]
          refine gx_o rfl (fun L2 => ?_) ?_
          ·dsimp only [maskL,lca,lna]
           refine ox_append0 7 us_23 ze_35 by_35 rfl rfl rfl (RdL.arg hr0_1) (encL_len TClaim_cells2_len (NestP.hn hN0_1.p rfl)) (encL_one TClaim_cells2_one _) (app_room hg148 (by decide)) rfl (fun A146 c147 => ?_)
           refine ox_nil ?_
           exact ex_capG (fun _ => (A146,0,c147)) rfl (List.append_nil _)
          dsimp only [aftL,lsz,lss,lna,lca,List.append_nil]
          refine gx_o rfl (fun L2 => ?_) ?_
          ·dsimp only [maskL,lca,lna]
           refine ox_y rfl (y_loadN 1 [.int .i64 p3.fID,.slice A3_1 p3.fOptions.length c3_1] ag_35 rfl rfl rfl) ?_
           refine ox_nil ?_
           exact ex_capG (fun _ => (none,0,0)) rfl (List.append_nil _)
          dsimp only [aftL,lsz,lss,lna,lca,List.append_nil]
          refine gx_o rfl (fun L2 => ?_) ?_
          ·dsimp only [maskL,lca,lna]
           refine ox_buildSliceE 1 (encL TClaim_cells2 [((A3_1,p3.fOptions.length,c3_1),p3)]) _ mc_35_1 us_23 ze_35 by_35 (by decide) (by decide) (by kernel_rfl) (encL_len TClaim_cells2_len rfl) rfl (fun b149 => ?_)
           refine ox_nil ?_
           exact ex_capG (fun _ => (none,b149,0)) rfl rfl
          dsimp only [aftL,lsz,lss,lna,lca,List.append_nil]
          refine gx_o rfl (fun L2 => ?_) ?_
          ·dsimp only [maskL,lca,lna]
           refine ox_append0 7 us_23 ze_35 by_35 rfl rfl rfl (RdL.row 8 rfl) (encL_len TClaim_cells2_len (NestP.hn (NestP.cons rfl NestP.nil) rfl)) (encL_one TClaim_cells2_one _) (app_room hg152 (by decide)) rfl (fun A150 c151 => ?_)
           refine ox_nil ?_
           exact ex_capG (fun _ => (A150,0,c151)) rfl (List.append_nil _)
          dsimp only [aftL,lsz,lss,lna,lca,List.append_nil]
          refine gx_o rfl (fun L2 => ?_) ?_
          ·dsimp only [maskL,lca,lna]
           refine ox_y rfl (y_buildS [.slice A0_0 p0.fNodes.length c0_0,.slice (ξ144 8 0).1 ((0 + p0.fClaims.length) + 1) (ξ144 8 0).2.2] [(0,1),(1,1)] ust_25 ze_25 (by kernel_rfl)) ?_
           refine ox_nil ?_
           exact ex_capG (fun _ => (none,0,0)) rfl (List.append_nil _)
          dsimp only [aftL,lsz,lss,lna,lca,List.append_nil]
          refine gx_o rfl (fun L2 => ?_) ?_
          ·dsimp only [maskL,lca,lna]
           refine ox_alloc ze_25 rfl (fun b153 => ?_)
           refine ox_nil ?_
           exact ex_capG (fun _ => (none,b153,0)) rfl rfl
          dsimp only [aftL,lsz,lss,lna,lca,List.append_nil]
          refine gx_n rfl (fun L2 => ?_) ?_
          ·dsimp only [maskL,lca,lna]
           refine ox_n rfl (y_storeN 9 [.slice A0_0 p0.fNodes.length c0_0,.slice (ξ144 8 0).1 ((0 + p0.fClaims.length) + 1) (ξ144 8 0).2.2] sz_25 rfl (Nat.le_of_ble_eq_true rfl) rfl rfl rfl) ?_
           refine ox_nil ?_
           exact ex_capGn (fun _ => (none,0,0)) (List.append_nil _)
          dsimp only [aftL,lsz,lss,lna,lca,List.append_nil]
          refine gx_nil ?_
          refine ex_then (cx_seq (cx_seq (cx_region ?_)))
          try dsimp only [lna,lca,lsz,lss]
          refine ox_y rfl (y_loadN 9 [.slice A0_0 p0.fNodes.length c0_0,.slice (ξ144 8 0).1 ((0 + p0.fClaims.length) + 1) (ξ144 8 0).2.2] ag_25 rfl rfl rfl) ?_
          obtain ⟨y154,hy155,h⟩:=bind_some h
          refine ox_y rfl (y_call [.agg #[.slice A0_0 p0.fNodes.length c0_0,.slice (ξ144 8 0).1 ((0 + p0.fClaims.length) + 1) (ξ144 8 0).2.2]] go_11 rfl (fun W2 hW2 => calxlaw09_few_ok (TLineage.mk p0.fNodes ((([]:List TClaim) ++ p0.fClaims) ++ [p3])) y154 hy155 W2 A0_0 p0.fNodes.length c0_0 rfl ((RdL.arg hr0_0) W2 hW2) (ξ144 8 0).1 ((0 + p0.fClaims.length) + 1) (ξ144 8 0).2.2 ((([]:List (Hd × TClaim)) ++ ys0_1) ++ [((A3_1,p3.fOptions.length,c3_1),p3)]) (hn_app (hn_app rfl rfl) rfl) ((RdL.row 7 rfl) W2 hW2) (NestL.at (PvL.nestL (NestP.app (NestP.app NestP.nil hN0_1.p) (NestP.cons rfl NestP.nil)) (PvL.app (PvL.app PvL.nil (PvL.of_nest hN0_1)) (PvL.cons (Pv.of_rd hr3_1) PvL.nil)) (fun W2 hW2 => ⟨hW2.below,trivial⟩)) W2 hW2)) rfl) ?_
          refine ox_y rfl (y_not rfl) ?_
          refine ox_y rfl (y_move_bool rfl) ?_
          obtain ⟨b157,hb158,h⟩:=bind_some h
          refine ox_join 4 (fun tm0 => (upd (upd (upd (upd (upd (upd (upd tm0 1 (.slice A1_0 p1.length c1_0)) 8 (.bool false)) 9 (.bool y3)) 10 (.slice A12 y10.1.length c13)) 12 (.slice A18 y16.1.length c19)) 20 (.pointer (some ⟨(ξ144 10 0).2.1,0,none⟩))) 161 (.bool b157))) (fun tm0 => ?_) (fun key => ?_)
          ·refine ox_nil (ex_then ?_)
           rcases ite_some h with ⟨hp159,h⟩ | ⟨hp159,h⟩
           ·refine cx_true (congrArg Value.bool hp159) ?_
            refine cx_seq (cx_region ?_)
            refine ox_y rfl (y_move_bool rfl) ?_
            refine ox_y rfl (y_assign_bool rfl) ?_
            refine ox_nil (ex_then (cx_ret (ex_then_ret ?_)))
            obtain rfl:=Option.some.inj h
            exact ex_res1 (.inl rfl) rfl (resV_tmp (v:=.bool y3) rfl) (fun W2 hW2 => ⟨rfl,hW2.none⟩)
           ·refine cx_false (congrArg Value.bool hp159) ?_
            refine cx_skip (ex_then (cx_seq (cx_region ?_)))
            refine ox_y rfl (y_loadN 9 [.slice A0_0 p0.fNodes.length c0_0,.slice (ξ144 8 0).1 ((0 + p0.fClaims.length) + 1) (ξ144 8 0).2.2] ag_25 rfl rfl rfl) ?_
            refine ox_y rfl (y_move_slice rfl) ?_
            obtain ⟨y160,hy161,h⟩:=bind_some h
            refine ox_call [.agg #[.slice A0_0 p0.fNodes.length c0_0,.slice (ξ144 8 0).1 ((0 + p0.fClaims.length) + 1) (ξ144 8 0).2.2],.slice A1_0 p1.length c1_0] _ _ _ rfl go_16 rfl (fun W2 hW2 => recall_Surely_ok (TLineage.mk p0.fNodes ((([]:List TClaim) ++ p0.fClaims) ++ [p3])) p1 y160 hy161 W2 A0_0 p0.fNodes.length c0_0 rfl ((RdL.arg hr0_0) W2 hW2) (ξ144 8 0).1 ((0 + p0.fClaims.length) + 1) (ξ144 8 0).2.2 ((([]:List (Hd × TClaim)) ++ ys0_1) ++ [((A3_1,p3.fOptions.length,c3_1),p3)]) (hn_app (hn_app rfl rfl) rfl) ((RdL.row 7 rfl) W2 hW2) (NestL.at (PvL.nestL (NestP.app (NestP.app NestP.nil hN0_1.p) (NestP.cons rfl NestP.nil)) (PvL.app (PvL.app PvL.nil (PvL.of_nest hN0_1)) (PvL.cons (Pv.of_rd hr3_1) PvL.nil)) (fun W2 hW2 => ⟨hW2.below,trivial⟩)) W2 hW2) A1_0 p1.length c1_0 rfl ((RdL.arg hr1_0) W2 hW2)) ?_
            rintro ⟨A162,n164,c163⟩ hn165
            replace hn165 : n164 = y160.1.length:=hn165; subst hn165
            try dsimp only [lna,lca,lsz,lss]
            refine ox_y rfl (y_move_tuple rfl) ?_
            refine ox_y rfl (y_extract (vs:=[.slice A162 y160.1.length c163,.int .i64 y160.2]) (v:=.slice A162 y160.1.length c163) rfl rfl) ?_
            refine ox_y rfl (y_extract (vs:=[.slice A162 y160.1.length c163,.int .i64 y160.2]) (v:=.int .i64 y160.2) rfl rfl) ?_
            refine ox_y rfl (y_assign_slice rfl) ?_
            refine ox_y rfl (y_assign_int rfl) ?_
            refine ox_nil (ex_then (cx_seq (cx_region ?_)))
            refine ox_y rfl (y_loadN 9 [.slice A0_0 p0.fNodes.length c0_0,.slice (ξ144 8 0).1 ((0 + p0.fClaims.length) + 1) (ξ144 8 0).2.2] ag_25 rfl rfl rfl) ?_
            refine ox_y rfl (y_move_slice rfl) ?_
            obtain ⟨y166,hy167,h⟩:=bind_some h
            refine ox_call [.agg #[.slice A0_0 p0.fNodes.length c0_0,.slice (ξ144 8 0).1 ((0 + p0.fClaims.length) + 1) (ξ144 8 0).2.2],.slice A1_0 p1.length c1_0] _ _ _ rfl go_17 rfl (fun W2 hW2 => recall_Possibly_ok (TLineage.mk p0.fNodes ((([]:List TClaim) ++ p0.fClaims) ++ [p3])) p1 y166 hy167 W2 A0_0 p0.fNodes.length c0_0 rfl ((RdL.arg hr0_0) W2 hW2) (ξ144 8 0).1 ((0 + p0.fClaims.length) + 1) (ξ144 8 0).2.2 ((([]:List (Hd × TClaim)) ++ ys0_1) ++ [((A3_1,p3.fOptions.length,c3_1),p3)]) (hn_app (hn_app rfl rfl) rfl) ((RdL.row 7 rfl) W2 hW2) (NestL.at (PvL.nestL (NestP.app (NestP.app NestP.nil hN0_1.p) (NestP.cons rfl NestP.nil)) (PvL.app (PvL.app PvL.nil (PvL.of_nest hN0_1)) (PvL.cons (Pv.of_rd hr3_1) PvL.nil)) (fun W2 hW2 => ⟨hW2.below,trivial⟩)) W2 hW2) A1_0 p1.length c1_0 rfl ((RdL.arg hr1_0) W2 hW2)) ?_
            rintro ⟨A168,n170,c169⟩ hn171
            replace hn171 : n170 = y166.1.length:=hn171; subst hn171
            try dsimp only [lna,lca,lsz,lss]
            refine ox_y rfl (y_move_tuple rfl) ?_
            refine ox_y rfl (y_extract (vs:=[.slice A168 y166.1.length c169,.int .i64 y166.2]) (v:=.slice A168 y166.1.length c169) rfl rfl) ?_
            refine ox_y rfl (y_extract (vs:=[.slice A168 y166.1.length c169,.int .i64 y166.2]) (v:=.int .i64 y166.2) rfl rfl) ?_
            refine ox_y rfl (y_assign_slice rfl) ?_
            refine ox_y rfl (y_assign_int rfl) ?_
            refine ox_nil (ex_then (cx_seq (cx_region ?_)))
            refine ox_y rfl (y_move_bool rfl) ?_
            refine ox_y rfl (y_move_bool rfl) ?_
            refine ox_join 3 (fun tm0 => (upd (upd (upd (upd (upd (upd (upd tm0 8 (.bool false)) 10 (.slice A12 y10.1.length c13)) 12 (.slice A18 y16.1.length c19)) 21 (.slice A162 y160.1.length c163)) 23 (.slice A168 y166.1.length c169)) 24 (.int .i64 y166.2)) 179 (.bool (y3 && (y160.2 == 0))))) (fun tm0 => ?_) (fun key => ?_)
            ·refine ox_y rfl (y_move_bool rfl) ?_
             refine ox_join 3 (fun tm0 => (upd (upd (upd (upd (upd (upd tm0 8 (.bool false)) 10 (.slice A12 y10.1.length c13)) 12 (.slice A18 y16.1.length c19)) 21 (.slice A162 y160.1.length c163)) 23 (.slice A168 y166.1.length c169)) 183 (.bool ((y3 && (y160.2 == 0)) && (y166.2 == 0))))) (fun tm0 => ?_) (fun key => ?_)
             ·refine ox_y rfl (y_move_bool rfl) ?_
              obtain ⟨b175,hb176,h⟩:=bind_some h
              refine ox_join 4 (fun tm0 => (upd (upd (upd (upd tm0 8 (.bool false)) 12 (.slice A18 y16.1.length c19)) 23 (.slice A168 y166.1.length c169)) 188 (.bool b175))) (fun tm0 => ?_) (fun key => ?_)
              ·refine ox_y rfl (y_move_bool rfl) ?_
               obtain ⟨b178,hb179,h⟩:=bind_some h
               refine ox_join 4 (fun tm0 => (upd (upd tm0 8 (.bool false)) 193 (.bool b178))) (fun tm0 => ?_) (fun key => ?_)
               ·refine ox_y rfl (y_assign_bool rfl) ?_
                refine ox_nil (ex_then (cx_ret ?_))
                obtain rfl:=Option.some.inj h
                exact ex_res1 (.inl rfl) rfl (resV_tmp (v:=.bool b178) rfl) (fun W2 hW2 => ⟨rfl,hW2.none⟩)
               ·clear h; rcases ite_some hb179 with ⟨hp177,h⟩ | ⟨hp177,h⟩
                ·refine ox_y (sees_t rfl rfl rfl rfl hp177) (y_move_slice rfl) ?_
                 refine ox_y (sees_t rfl rfl rfl rfl hp177) (y_move_slice rfl) ?_
                 obtain ⟨y180,hy181,h⟩:=bind_some h
                 refine ox_y (sees_t rfl rfl rfl rfl hp177) (y_call [.slice A168 y166.1.length c169,.slice A18 y16.1.length c19] go_18 rfl (fun W2 hW2 => calxlaw09_all_ok y166.1 y16.1 y180 hy181 W2 A168 y166.1.length c169 rfl ((RdL.row 11 rfl) W2 hW2) A18 y16.1.length c19 rfl ((RdL.row 3 rfl) W2 hW2)) rfl) ?_
                 refine ox_y rfl (y_pick_tb (congrArg Value.bool hp177) rfl) ?_
                 obtain rfl:=Option.some.inj h
                 exact key _ _ (keep (keep rfl rfl) rfl)
                ·refine ox_skip (sees_f rfl rfl rfl rfl hp177) ?_
                 refine ox_skip (sees_f rfl rfl rfl rfl hp177) ?_
                 refine ox_skip (sees_f rfl rfl rfl rfl hp177) ?_
                 refine ox_y rfl (y_pick_fb (congrArg Value.bool hp177) rfl) ?_
                 obtain rfl:=Option.some.inj h
                 exact key _ _ (keep (keep rfl rfl) rfl)
              ·clear h; rcases ite_some hb176 with ⟨hp174,h⟩ | ⟨hp174,h⟩
               ·refine ox_y (sees_t rfl rfl rfl rfl hp174) (y_move_slice rfl) ?_
                refine ox_y (sees_t rfl rfl rfl rfl hp174) (y_move_slice rfl) ?_
                obtain ⟨y182,hy183,h⟩:=bind_some h
                refine ox_y (sees_t rfl rfl rfl rfl hp174) (y_call [.slice A162 y160.1.length c163,.slice A12 y10.1.length c13] go_18 rfl (fun W2 hW2 => calxlaw09_all_ok y160.1 y10.1 y182 hy183 W2 A162 y160.1.length c163 rfl ((RdL.row 10 rfl) W2 hW2) A12 y10.1.length c13 rfl ((RdL.row 2 rfl) W2 hW2)) rfl) ?_
                refine ox_y rfl (y_pick_tb (congrArg Value.bool hp174) rfl) ?_
                obtain rfl:=Option.some.inj h
                exact key _ _ (keep (keep (keep (keep rfl rfl) rfl) rfl) rfl)
               ·refine ox_skip (sees_f rfl rfl rfl rfl hp174) ?_
                refine ox_skip (sees_f rfl rfl rfl rfl hp174) ?_
                refine ox_skip (sees_f rfl rfl rfl rfl hp174) ?_
                refine ox_y rfl (y_pick_fb (congrArg Value.bool hp174) rfl) ?_
                obtain rfl:=Option.some.inj h
                exact key _ _ (keep (keep (keep (keep rfl rfl) rfl) rfl) rfl)
             ·rcases bool_cases (y3 && (y160.2 == 0)) with hp173 | hp173
              ·refine ox_y (sees_t rfl rfl rfl rfl hp173) (y_move_int rfl) ?_
               refine ox_y (sees_t rfl rfl rfl rfl hp173) (y_eql rfl rfl) ?_
               refine ox_y rfl (y_pick_tb (congrArg Value.bool hp173) rfl) ?_
               exact key _ _ (keep (keep (keep (keep (keep (keep rfl rfl) rfl) rfl) rfl) rfl) (congrArg Value.bool (and_t hp173)))
              ·refine ox_skip (sees_f rfl rfl rfl rfl hp173) ?_
               refine ox_skip (sees_f rfl rfl rfl rfl hp173) ?_
               refine ox_y rfl (y_pick_fb (congrArg Value.bool hp173) rfl) ?_
               exact key _ _ (keep (keep (keep (keep (keep (keep rfl rfl) rfl) rfl) rfl) rfl) (congrArg Value.bool (and_f hp173)))
            ·rcases bool_cases y3 with hp172 | hp172
             ·refine ox_y (sees_t rfl rfl rfl rfl hp172) (y_move_int rfl) ?_
              refine ox_y (sees_t rfl rfl rfl rfl hp172) (y_eql rfl rfl) ?_
              refine ox_y rfl (y_pick_tb (congrArg Value.bool hp172) rfl) ?_
              exact key _ _ (keep (keep (keep (keep (keep (keep (keep rfl rfl) rfl) rfl) rfl) rfl) rfl) (congrArg Value.bool (and_t hp172)))
             ·refine ox_skip (sees_f rfl rfl rfl rfl hp172) ?_
              refine ox_skip (sees_f rfl rfl rfl rfl hp172) ?_
              refine ox_y rfl (y_pick_fb (congrArg Value.bool hp172) rfl) ?_
              exact key _ _ (keep (keep (keep (keep (keep (keep (keep rfl rfl) rfl) rfl) rfl) rfl) rfl) (congrArg Value.bool (and_f hp172)))
          ·clear h; rcases ite_some hb158 with ⟨hp156,h⟩ | ⟨hp156,h⟩
           ·refine ox_skip (sees_f rfl rfl rfl rfl hp156) ?_
            refine ox_skip (sees_f rfl rfl rfl rfl hp156) ?_
            refine ox_skip (sees_f rfl rfl rfl rfl hp156) ?_
            refine ox_y rfl (y_pick_tb (congrArg Value.bool hp156) rfl) ?_
            obtain rfl:=Option.some.inj h
            exact key _ _ (keep (keep (keep (keep (keep (keep (keep rfl rfl) rfl) rfl) rfl) rfl) rfl) rfl)
           ·refine ox_y (sees_t rfl rfl rfl rfl hp156) (y_loadN 9 [.slice A0_0 p0.fNodes.length c0_0,.slice (ξ144 8 0).1 ((0 + p0.fClaims.length) + 1) (ξ144 8 0).2.2] ag_25 rfl rfl rfl) ?_
            obtain ⟨y184,hy185,h⟩:=bind_some h
            refine ox_y (sees_t rfl rfl rfl rfl hp156) (y_call [.agg #[.slice A0_0 p0.fNodes.length c0_0,.slice (ξ144 8 0).1 ((0 + p0.fClaims.length) + 1) (ξ144 8 0).2.2]] go_14 rfl (fun W2 hW2 => recall_Check_ok (TLineage.mk p0.fNodes ((([]:List TClaim) ++ p0.fClaims) ++ [p3])) y184 hy185 W2 A0_0 p0.fNodes.length c0_0 rfl ((RdL.arg hr0_0) W2 hW2) (ξ144 8 0).1 ((0 + p0.fClaims.length) + 1) (ξ144 8 0).2.2 ((([]:List (Hd × TClaim)) ++ ys0_1) ++ [((A3_1,p3.fOptions.length,c3_1),p3)]) (hn_app (hn_app rfl rfl) rfl) ((RdL.row 7 rfl) W2 hW2) (NestL.at (PvL.nestL (NestP.app (NestP.app NestP.nil hN0_1.p) (NestP.cons rfl NestP.nil)) (PvL.app (PvL.app PvL.nil (PvL.of_nest hN0_1)) (PvL.cons (Pv.of_rd hr3_1) PvL.nil)) (fun W2 hW2 => ⟨hW2.below,trivial⟩)) W2 hW2)) rfl) ?_
            refine ox_y (sees_t rfl rfl rfl rfl hp156) (y_neq rfl rfl) ?_
            refine ox_y rfl (y_pick_fb (congrArg Value.bool hp156) rfl) ?_
            obtain rfl:=Option.some.inj h
            exact key _ _ (keep (keep (keep (keep (keep (keep (keep rfl rfl) rfl) rfl) rfl) rfl) rfl) rfl)
        ·clear h; rcases ite_some hb142 with ⟨hp140,h⟩ | ⟨hp140,h⟩
         ·refine ox_skip (sees_f rfl rfl rfl rfl hp140) ?_
          refine ox_skip (sees_f rfl rfl rfl rfl hp140) ?_
          refine ox_skip (sees_f rfl rfl rfl rfl hp140) ?_
          refine ox_skip rfl ?_
          refine ox_skip rfl ?_
          refine ox_skip rfl ?_
          refine ox_skip rfl ?_
          refine ox_skip rfl ?_
          refine ox_skip rfl ?_
          refine ox_skip rfl ?_
          refine ox_skip rfl ?_
          refine ox_skip rfl ?_
          refine ox_skip rfl ?_
          refine ox_skip (sees_f rfl rfl rfl rfl hp140) ?_
          refine ox_y rfl (y_pick_tb (congrArg Value.bool hp140) rfl) ?_
          obtain rfl:=Option.some.inj h
          exact key _ _ (keep (keep (keep (keep (keep (keep (keep (keep rfl rfl) rfl) rfl) rfl) rfl) rfl) rfl) rfl)
         ·refine ox_y (sees_t rfl rfl rfl rfl hp140) (y_move_int rfl) ?_
          refine ox_y (sees_t rfl rfl rfl rfl hp140) (y_eql rfl rfl) ?_
          refine ox_y (sees_t rfl rfl rfl rfl hp140) (y_move_bool rfl) ?_
          obtain ⟨b187,hb188,h⟩:=bind_some h
          refine ox_join 11 (fun tm0 => (upd (upd (upd (upd (upd (upd (upd (upd (upd tm0 1 (.slice A1_0 p1.length c1_0)) 4 (.pointer (some ⟨b1,0,none⟩))) 7 (.pointer (some ⟨b2,0,none⟩))) 8 (.bool false)) 9 (.bool y3)) 10 (.slice A12 y10.1.length c13)) 12 (.slice A18 y16.1.length c19)) 128 (.bool (y128.2 != y134.2))) 142 (.bool b187))) (fun tm0 => ?_) (fun key => ?_)
          ·refine ox_y rfl (y_pick_fb (congrArg Value.bool hp140) rfl) ?_
           obtain rfl:=Option.some.inj h
           exact key _ _ (keep (keep (keep (keep (keep (keep (keep (keep rfl rfl) rfl) rfl) rfl) rfl) rfl) rfl) rfl)
          ·clear h; rcases ite_some hb188 with ⟨hp186,h⟩ | ⟨hp186,h⟩
           ·refine ox_y (sees_t rfl rfl rfl rfl hp186) (y_move_slice rfl) ?_
            refine ox_y (sees_t rfl rfl rfl rfl hp186) (y_move_slice rfl) ?_
            obtain ⟨y189,hy190,h⟩:=bind_some h
            refine ox_y (sees_t rfl rfl rfl rfl hp186) (y_call [.slice A130 y128.1.length c131,.slice A12 y10.1.length c13] go_18 rfl (fun W2 hW2 => calxlaw09_all_ok y128.1 y10.1 y189 hy190 W2 A130 y128.1.length c131 rfl ((RdL.row 5 rfl) W2 hW2) A12 y10.1.length c13 rfl ((RdL.row 2 rfl) W2 hW2)) rfl) ?_
            refine ox_y (sees_t rfl rfl rfl rfl hp186) (y_not rfl) ?_
            refine ox_y (sees_t rfl rfl rfl rfl hp186) (y_move_bool rfl) ?_
            obtain ⟨b192,hb193,h⟩:=bind_some h
            refine ox_join 5 (fun tm0 => (upd (upd (upd (upd (upd (upd (upd (upd (upd (upd tm0 1 (.slice A1_0 p1.length c1_0)) 4 (.pointer (some ⟨b1,0,none⟩))) 7 (.pointer (some ⟨b2,0,none⟩))) 8 (.bool false)) 9 (.bool y3)) 10 (.slice A12 y10.1.length c13)) 12 (.slice A18 y16.1.length c19)) 128 (.bool (y128.2 != y134.2))) 131 (.bool (y128.2 == 0))) 141 (.bool b192))) (fun tm0 => ?_) (fun key => ?_)
            ·refine ox_y (sees_t rfl rfl rfl rfl hp140) (y_pick_tb (congrArg Value.bool hp186) rfl) ?_
             obtain rfl:=Option.some.inj h
             exact key _ _ (keep (keep (keep (keep (keep (keep (keep (keep (keep rfl rfl) rfl) rfl) rfl) rfl) rfl) rfl) rfl) rfl)
            ·clear h; rcases ite_some hb193 with ⟨hp191,h⟩ | ⟨hp191,h⟩
             ·refine ox_skip (sees_f rfl rfl rfl rfl hp191) ?_
              refine ox_skip (sees_f rfl rfl rfl rfl hp191) ?_
              refine ox_skip (sees_f rfl rfl rfl rfl hp191) ?_
              refine ox_skip (sees_f rfl rfl rfl rfl hp191) ?_
              refine ox_y (sees_t rfl rfl rfl rfl hp186) (y_pick_tb (congrArg Value.bool hp191) rfl) ?_
              obtain rfl:=Option.some.inj h
              exact key _ _ (keep (keep (keep (keep (keep (keep (keep (keep (keep (keep rfl rfl) rfl) rfl) rfl) rfl) rfl) rfl) rfl) rfl) rfl)
             ·refine ox_y (sees_t rfl rfl rfl rfl hp191) (y_move_slice rfl) ?_
              refine ox_y (sees_t rfl rfl rfl rfl hp191) (y_move_slice rfl) ?_
              obtain ⟨y194,hy195,h⟩:=bind_some h
              refine ox_y (sees_t rfl rfl rfl rfl hp191) (y_call [.slice A136 y134.1.length c137,.slice A18 y16.1.length c19] go_18 rfl (fun W2 hW2 => calxlaw09_all_ok y134.1 y16.1 y194 hy195 W2 A136 y134.1.length c137 rfl ((RdL.row 6 rfl) W2 hW2) A18 y16.1.length c19 rfl ((RdL.row 3 rfl) W2 hW2)) rfl) ?_
              refine ox_y (sees_t rfl rfl rfl rfl hp191) (y_not rfl) ?_
              refine ox_y (sees_t rfl rfl rfl rfl hp186) (y_pick_fb (congrArg Value.bool hp191) rfl) ?_
              obtain rfl:=Option.some.inj h
              exact key _ _ (keep (keep (keep (keep (keep (keep (keep (keep (keep (keep rfl rfl) rfl) rfl) rfl) rfl) rfl) rfl) rfl) rfl) rfl)
           ·refine ox_skip (sees_f rfl rfl rfl rfl hp186) ?_
            refine ox_skip (sees_f rfl rfl rfl rfl hp186) ?_
            refine ox_skip (sees_f rfl rfl rfl rfl hp186) ?_
            refine ox_skip (sees_f rfl rfl rfl rfl hp186) ?_
            refine ox_skip (sees_f rfl rfl rfl rfl hp186) ?_
            refine ox_skip rfl ?_
            refine ox_skip rfl ?_
            refine ox_skip rfl ?_
            refine ox_skip rfl ?_
            refine ox_skip (sees_f rfl rfl rfl rfl hp186) ?_
            refine ox_y (sees_t rfl rfl rfl rfl hp140) (y_pick_fb (congrArg Value.bool hp186) rfl) ?_
            obtain rfl:=Option.some.inj h
            exact key _ _ (keep (keep (keep (keep (keep (keep (keep (keep (keep rfl rfl) rfl) rfl) rfl) rfl) rfl) rfl) rfl) rfl)
    ·rcases bool_cases (y10.2 != 0) with hp22 | hp22
     ·refine ox_skip (sees_f rfl rfl rfl rfl hp22) ?_
      refine ox_skip (sees_f rfl rfl rfl rfl hp22) ?_
      refine ox_y rfl (y_pick_tb (congrArg Value.bool hp22) rfl) ?_
      exact key _ _ (keep (keep (keep (keep (keep (keep (keep (keep (keep (keep (keep rfl rfl) rfl) rfl) rfl) rfl) rfl) rfl) rfl) rfl) rfl) (congrArg Value.bool (or_t hp22)))
     ·refine ox_y (sees_t rfl rfl rfl rfl hp22) (y_move_int rfl) ?_
      refine ox_y (sees_t rfl rfl rfl rfl hp22) (y_neq rfl rfl) ?_
      refine ox_y rfl (y_pick_fb (congrArg Value.bool hp22) rfl) ?_
      exact key _ _ (keep (keep (keep (keep (keep (keep (keep (keep (keep (keep (keep rfl rfl) rfl) rfl) rfl) rfl) rfl) rfl) rfl) rfl) rfl) (congrArg Value.bool (or_f hp22)))
  ·rcases bool_cases ((!y5) || (decide (30 < (p1.length:Int)))) with hp8 | hp8
   ·refine ox_skip (sees_f rfl rfl rfl rfl hp8) ?_
    refine ox_skip (sees_f rfl rfl rfl rfl hp8) ?_
    refine ox_skip (sees_f rfl rfl rfl rfl hp8) ?_
    refine ox_skip (sees_f rfl rfl rfl rfl hp8) ?_
    refine ox_y rfl (y_pick_tb (congrArg Value.bool hp8) rfl) ?_
    exact key _ _ (keep (keep (keep (keep (keep (keep (keep rfl rfl) rfl) rfl) rfl) rfl) rfl) (congrArg Value.bool (or_t hp8)))
   ·refine ox_y (sees_t rfl rfl rfl rfl hp8) (y_fieldAddr fo_35_1 rfl) ?_
    refine ox_y (sees_t rfl rfl rfl rfl hp8) (y_load1 1 (v:=.slice A3_1 p3.fOptions.length c3_1) sc_33 rfl rfl rfl) ?_
    refine ox_y (sees_t rfl rfl rfl rfl hp8) (y_len (us:=[]) us_33 rfl) ?_
    refine ox_y (sees_t rfl rfl rfl rfl hp8) (y_gtr rfl rfl) ?_
    refine ox_y rfl (y_pick_fb (congrArg Value.bool hp8) rfl) ?_
    exact key _ _ (keep (keep (keep (keep (keep (keep (keep rfl rfl) rfl) rfl) rfl) rfl) rfl) (congrArg Value.bool (or_f hp8)))
 ·rcases bool_cases (!y5) with hp7 | hp7
  ·refine ox_skip (sees_f rfl rfl rfl rfl hp7) ?_
   refine ox_skip (sees_f rfl rfl rfl rfl hp7) ?_
   refine ox_skip (sees_f rfl rfl rfl rfl hp7) ?_
   refine ox_y rfl (y_pick_tb (congrArg Value.bool hp7) rfl) ?_
   exact key _ _ (keep (keep (keep (keep (keep (keep (keep rfl rfl) rfl) rfl) rfl) rfl) rfl) (congrArg Value.bool (or_t hp7)))
  ·refine ox_y (sees_t rfl rfl rfl rfl hp7) (y_move_slice rfl) ?_
   refine ox_y (sees_t rfl rfl rfl rfl hp7) (y_len (us:=[]) us_32 rfl) ?_
   refine ox_y (sees_t rfl rfl rfl rfl hp7) (y_gtr rfl rfl) ?_
   refine ox_y rfl (y_pick_fb (congrArg Value.bool hp7) rfl) ?_
   exact key _ _ (keep (keep (keep (keep (keep (keep (keep rfl rfl) rfl) rfl) rfl) rfl) rfl) (congrArg Value.bool (or_f hp7)))

end Go.Proofs.Ytbblpokfbmekfaa
