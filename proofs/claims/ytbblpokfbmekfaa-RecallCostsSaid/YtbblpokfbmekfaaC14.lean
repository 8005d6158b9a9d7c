import Derived.Test.YtbblpokfbmekfaaF
import Derived.Test.YtbblpokfbmekfaaGk
import Derived.Test.YtbblpokfbmekfaaC1
import Derived.Test.YtbblpokfbmekfaaC2
import Derived.Test.YtbblpokfbmekfaaC3
/- The calls hand back what the plain functions say. -/
set_option linter.unusedVariables false
set_option maxHeartbeats 4000000
set_option maxRecDepth 100000
namespace Go.Proofs.Ytbblpokfbmekfaa
open Go.RowKit (Below)
attribute [local irreducible] OX QX CX EX OpY Calls CallsIn

theorem recall_Hangs_ok (p0_l:TLineage) (p1_from:(List Int)) (p2_to:Int) (res:((List Int) × Int)) (h:recall_Hangs p0_l p1_from p2_to = some res) (W:World) (A0_0:Option Addr) (n0_0 c0_0 : Nat) (hn0_0:n0_0 = p0_l.fNodes.length) (hr0_0:Rd W A0_0 n0_0 c0_0 (encL TNode_cells p0_l.fNodes)) (A0_1:Option Addr) (n0_1 c0_1 : Nat) (ys0_1:List (Hd × TClaim)) (hn0_1:n0_1 = p0_l.fClaims.length) (hr0_1:Rd W A0_1 n0_1 c0_1 (encL TClaim_cells2 ys0_1)) (hN0_1:NestW W (fun z : TClaim => z.fOptions) THop_cells ys0_1 p0_l.fClaims) (A1_0:Option Addr) (n1_0 c1_0 : Nat) (hn1_0:n1_0 = p1_from.length) (hr1_0:Rd W A1_0 n1_0 c1_0 (encL cI p1_from)) :
  Calls Try.prog 30 [.agg #[.slice A0_0 n0_0 c0_0,.slice A0_1 n0_1 c0_1],.slice A1_0 n1_0 c1_0,.int .i64 p2_to].toArray W fun e W2 => ∃ x : Option Addr × Nat × Nat,x.2.1 = res.1.length ∧ e = .returned (.tuple #[.slice x.1 x.2.1 x.2.2,.int .i64 res.2]) ∧ Ext W W2 [rowR x.1 x.2.2 3 1 x.2.1 (encL cI res.1)]:=by
 subst hn0_0
 subst hn0_1
 subst hn1_0
 unfold recall_Hangs at h
 refine calls_enter (m:=47) Try.func30 rfl rfl (Nat.le_of_ble_eq_true rfl) ?_
 refine cx_seq (cx_region ?_)
 refine ox_box [.slice A0_0 p0_l.fNodes.length c0_0,.slice A0_1 p0_l.fClaims.length c0_1] rfl rfl rfl (fun b1 => ?_)
 refine ox_y rfl (y_assign_slice rfl) ?_
 refine ox_y rfl (y_assign_int rfl) ?_
 refine ox_nil (ex_then (cx_seq (cx_seq (cx_region ?_))))
 refine ox_y rfl (y_loadN 0 [.slice A0_0 p0_l.fNodes.length c0_0,.slice A0_1 p0_l.fClaims.length c0_1] ag_25 rfl rfl rfl) ?_
 refine ox_y rfl (y_move_slice rfl) ?_
 refine ox_y rfl (y_move_int rfl) ?_
 obtain ⟨y2,hy3,h⟩:=bind_some h
 refine ox_y rfl (y_call [.agg #[.slice A0_0 p0_l.fNodes.length c0_0,.slice A0_1 p0_l.fClaims.length c0_1],.slice A1_0 p1_from.length c1_0,.int .i64 p2_to] go_47 rfl (fun W2 hW2 => recall_askedTo_ok p0_l p1_from p2_to y2 hy3 W2 A0_0 p0_l.fNodes.length c0_0 rfl ((RdL.arg hr0_0) W2 hW2) A0_1 p0_l.fClaims.length c0_1 ys0_1 rfl ((RdL.arg hr0_1) W2 hW2) (NestL.at (NestL.arg hN0_1) W2 hW2) A1_0 p1_from.length c1_0 rfl ((RdL.arg hr1_0) W2 hW2)) rfl) ?_
 refine ox_y rfl (y_assign_int rfl) ?_
 refine ox_nil (ex_then (cx_seq (cx_region ?_)))
 refine ox_y rfl (y_move_int rfl) ?_
 refine ox_y rfl (y_neq rfl rfl) ?_
 refine ox_nil (ex_then ?_)
 rcases ite_some h with ⟨hp4,h⟩ | ⟨hp4,h⟩
 ·refine cx_true (congrArg Value.bool hp4) ?_
  refine cx_seq (cx_region ?_)
  refine ox_y rfl (y_move_int rfl) ?_
  refine ox_y rfl (y_assign_slice rfl) ?_
  refine ox_y rfl (y_assign_int rfl) ?_
  refine ox_nil (ex_then (cx_ret (ex_then_ret ?_)))
  obtain rfl:=Option.some.inj h
  exact ex_res2 (.inl rfl) rfl (resV_tmp (v:=.slice none 0 0) rfl) (resV_tmp (v:=.int .i64 y2) rfl) (fun W2 hW2 => ⟨(none,0,0),rfl,rfl,((hW2.nilrow 3 1).pick 1 rfl)⟩)
 ·refine cx_false (congrArg Value.bool hp4) ?_
  refine cx_skip (ex_then (cx_seq (cx_seq (cx_region ?_))))
  refine ox_y rfl (y_loadN 0 [.slice A0_0 p0_l.fNodes.length c0_0,.slice A0_1 p0_l.fClaims.length c0_1] ag_25 rfl rfl rfl) ?_
  refine ox_y rfl (y_move_slice rfl) ?_
  refine ox_y rfl (y_move_int rfl) ?_
  obtain ⟨y7,hy8,h⟩:=bind_some h
  refine ox_y rfl (y_call [.agg #[.slice A0_0 p0_l.fNodes.length c0_0,.slice A0_1 p0_l.fClaims.length c0_1],.slice A1_0 p1_from.length c1_0,.int .i64 p2_to,.func (.func 65) #[] #[]] go_64 rfl (fun W2 hW2 => recall_maybe_ok p0_l p1_from p2_to (fun x5 x6 => recall_anyOption x5 x6) y7 hy8 W2 A0_0 p0_l.fNodes.length c0_0 rfl ((RdL.arg hr0_0) W2 hW2) A0_1 p0_l.fClaims.length c0_1 ys0_1 rfl ((RdL.arg hr0_1) W2 hW2) (NestL.at (NestL.arg hN0_1) W2 hW2) A1_0 p1_from.length c1_0 rfl ((RdL.arg hr1_0) W2 hW2) 65 [] [] go_65 (fun W3 hb x0 x1 y hxy => recall_anyOption_ok  x0 x1  y hxy W3 )) rfl) ?_
  refine ox_y rfl (y_not rfl) ?_
  refine ox_nil (ex_then ?_)
  rcases ite_some h with ⟨hp9,h⟩ | ⟨hp9,h⟩
  ·refine cx_true (congrArg Value.bool hp9) ?_
   refine cx_seq (cx_region ?_)
   refine ox_y rfl (y_assign_slice rfl) ?_
   refine ox_y rfl (y_assign_int rfl) ?_
   refine ox_nil (ex_then (cx_ret (ex_then_ret ?_)))
   obtain rfl:=Option.some.inj h
   exact ex_res2 (.inl rfl) rfl (resV_tmp (v:=.slice none 0 0) rfl) (resV_tmp (v:=.int .i64 5) rfl) (fun W2 hW2 => ⟨(none,0,0),rfl,rfl,((hW2.nilrow 3 1).pick 1 rfl)⟩)
  ·refine cx_false (congrArg Value.bool hp9) ?_
   refine cx_skip (ex_then (cx_seq (cx_region ?_)))
   refine ox_y rfl (y_assign_slice rfl) ?_
   refine ox_nil (ex_then (cx_seq (cx_seq (cx_region ?_))))
   refine ox_y rfl (y_fieldAddr fo_25_1 rfl) ?_
   refine ox_y rfl (y_load1 0 (v:=.slice A0_1 p0_l.fClaims.length c0_1) sc_23 rfl rfl rfl) ?_
   refine ox_y rfl (y_len (us:=[]) us_23 rfl) ?_
   refine ox_y rfl (y_move_int rfl) ?_
   refine ox_nil (ex_then (cx_block ?_))
   obtain ⟨u13,hl27,h⟩:=bind_some h
   refine cx_nilrow 3 1 ?_
   refine cx_loop (fun (s:(Int × (List Int))) L tm => ∃ (tm0:Nat → Value) (A1_s:Option Addr) (c1_s:Nat) (n1_s:Nat),n1_s = s.2.length ∧ L = [cellsR b1 25 [.slice A0_0 p0_l.fNodes.length c0_0,.slice A0_1 p0_l.fClaims.length c0_1],rowR A1_s c1_s 3 1 n1_s (encL cI s.2)] ∧ tm = (upd (upd (upd (upd (upd (upd (upd (upd (upd (upd (upd (upd (upd tm0 0 (.agg #[.slice A0_0 p0_l.fNodes.length c0_0,.slice A0_1 p0_l.fClaims.length c0_1])) 1 (.slice A1_0 p1_from.length c1_0)) 2 (.int .i64 p2_to)) 3 (.pointer (some ⟨b1,0,none⟩))) 6 (.slice none 0 0)) 7 (.int .i64 0)) 8 (.int .i64 y2)) 17 (.bool (y2 != 0))) 23 (.bool (!y7))) 9 (.slice A1_s n1_s c1_s)) 25 (.slice A0_1 p0_l.fClaims.length c0_1)) 26 (.int .i64 (p0_l.fClaims.length:Int))) 27 (.int .i64 s.1))) (fun s e L tm => e = .exit 0 ∧ ∃ (tm0:Nat → Value) (A1_s:Option Addr) (c1_s:Nat) (n1_s:Nat),n1_s = s.2.length ∧ L = [cellsR b1 25 [.slice A0_0 p0_l.fNodes.length c0_0,.slice A0_1 p0_l.fClaims.length c0_1],rowR A1_s c1_s 3 1 n1_s (encL cI s.2)] ∧ tm = (upd (upd (upd (upd (upd (upd (upd (upd (upd (upd (upd (upd (upd tm0 0 (.agg #[.slice A0_0 p0_l.fNodes.length c0_0,.slice A0_1 p0_l.fClaims.length c0_1])) 1 (.slice A1_0 p1_from.length c1_0)) 2 (.int .i64 p2_to)) 3 (.pointer (some ⟨b1,0,none⟩))) 6 (.slice none 0 0)) 7 (.int .i64 0)) 8 (.int .i64 y2)) 17 (.bool (y2 != 0))) 23 (.bool (!y7))) 9 (.slice A1_s n1_s c1_s)) 25 (.slice A0_1 p0_l.fClaims.length c0_1)) 26 (.int .i64 (p0_l.fClaims.length:Int))) 27 (.int .i64 s.1))) hl27 ⟨_,none,0,0,rfl,rfl,(keep (keep (keep (keep (keep (keep (keep (keep (keep (keep (keep (keep (keep rfl rfl) rfl) rfl) rfl) rfl) rfl) rfl) rfl) rfl) rfl) rfl) rfl) rfl)⟩ ?_ ?_
   ·rintro s12 L tm st ⟨tm0_s12,A1_s12,c1_s12,n1_s12,rfl,rfl,rfl⟩ h
    unfold recall_Hangs_l1 at h
    refine cx_seq (cx_region ?_)
    refine ox_y rfl (y_lss rfl rfl) ?_
    refine ox_nil (ex_then (cx_seq ?_))
    rcases ite_some h with ⟨hp14,h⟩ | ⟨hp14,h⟩
    ·refine cx_true (congrArg Value.bool hp14) ?_
     refine cx_skip (ex_then (cx_seq (cx_block (cx_seq (cx_region ?_)))))
     refine ox_y rfl (y_move_int rfl) ?_
     obtain ⟨hg15,h⟩:=guardO_some h
     refine ox_y rfl (y_indexR sl_23 (by decide) hg15.1 hg15.2 (RdL.arg hr0_1) (encL_len TClaim_cells2_len (NestP.hn hN0_1.p rfl)) rfl rfl) ?_
     refine ox_y rfl (y_loadRN (A:=A0_1) (j:=(Int.toNat s12.1 * 2)) [.int .i64 ((rdL p0_l.fClaims s12.1).fID),.slice ((rdL ys0_1 s12.1).1.1) ((rdL p0_l.fClaims s12.1).fOptions.length) ((rdL ys0_1 s12.1).1.2.2)] ag_35 (Nat.succ_pos _) (RdL.arg hr0_1) rfl (gets_eq (TClaim_cells2_eq (NestP.snd hN0_1.p s12.1) (NestP.len hN0_1.p hg15.1 (lt_nat hg15.2 rfl))).symm (encL_gets TClaim_cells2_len hg15.1 (lt_nat hg15.2 (NestP.hn hN0_1.p rfl))))) ?_
     refine ox_alloc ze_3 rfl (fun b16 => ?_)
     refine ox_alloc ze_35 rfl (fun b17 => ?_)
     refine ox_n rfl (y_store1 2 (v:=.int .i64 s12.1) sz_3 rfl (Nat.lt_of_lt_of_le (Nat.lt_succ_self _) (Nat.le_of_ble_eq_true rfl)) rfl rfl rfl) ?_
     refine ox_n rfl (y_storeN 3 [.int .i64 ((rdL p0_l.fClaims s12.1).fID),.slice ((rdL ys0_1 s12.1).1.1) ((rdL p0_l.fClaims s12.1).fOptions.length) ((rdL ys0_1 s12.1).1.2.2)] sz_35 rfl (Nat.le_of_ble_eq_true rfl) rfl rfl rfl) ?_
     refine ox_nil (ex_then (cx_seq (cx_region ?_)))
     refine ox_y rfl (y_loadN 0 [.slice A0_0 p0_l.fNodes.length c0_0,.slice A0_1 p0_l.fClaims.length c0_1] ag_25 rfl rfl rfl) ?_
     refine ox_y rfl (y_move_slice rfl) ?_
     refine ox_y rfl (y_move_int rfl) ?_
     refine ox_y rfl (y_makeFunc [.pointer (some ⟨b16,0,none⟩)] rfl rfl) ?_
     obtain ⟨y20,hy21,h⟩:=bind_some h
     refine ox_y rfl (y_call [.agg #[.slice A0_0 p0_l.fNodes.length c0_0,.slice A0_1 p0_l.fClaims.length c0_1],.slice A1_0 p1_from.length c1_0,.int .i64 p2_to,.func (.func 66) #[] #[.pointer (some ⟨b16,0,none⟩)]] go_64 rfl (fun W2 hW2 => recall_maybe_ok p0_l p1_from p2_to (fun x18 x19 => recall_Hangs_1 x18 x19 s12.1) y20 hy21 W2 A0_0 p0_l.fNodes.length c0_0 rfl ((RdL.arg hr0_0) W2 hW2) A0_1 p0_l.fClaims.length c0_1 ys0_1 rfl ((RdL.arg hr0_1) W2 hW2) (NestL.at (NestL.arg hN0_1) W2 hW2) A1_0 p1_from.length c1_0 rfl ((RdL.arg hr1_0) W2 hW2) 66 [] [.pointer (some ⟨b16,0,none⟩)] go_66 (fun W3 hb x0 x1 y hxy => recall_Hangs_1_ok  x0 x1 s12.1 y hxy W3 b16 (((RdL.cells 2 rfl) W2 hW2).later hb))) rfl) ?_
     refine ox_y rfl (y_not rfl) ?_
     refine ox_nil (ex_then ?_)
     rcases ite_some h with ⟨hp22,h⟩ | ⟨hp22,h⟩
     ·refine cx_true (congrArg Value.bool hp22) ?_
      refine cx_region ?_
      refine ox_y rfl (y_move_slice rfl) ?_
      refine ox_y rfl (y_fieldAddr fo_35_0 rfl) ?_
      refine ox_y rfl (y_load1 3 (v:=.int .i64 ((rdL p0_l.fClaims s12.1).fID)) sc_3 rfl rfl rfl) ?_
      refine ox_buildSliceE 1 (encL cI [(rdL p0_l.fClaims s12.1).fID]) _ mc_3_1 us_32 ze_3 by_3 (by decide) (by decide) (by kernel_rfl) (encL_len cI_len rfl) rfl (fun b23 => ?_)
      obtain ⟨hg26,h⟩:=guardO_some h
      refine ox_append0 1 us_32 ze_3 by_3 rfl rfl rfl (RdL.row 4 rfl) (encL_len cI_len rfl) (encL_one cI_one _) (app_room hg26 (by decide)) rfl (fun A24 c25 => ?_)
      refine ox_y rfl (y_assign_slice rfl) ?_
      refine ox_nil ?_
      refine ex_block ?_
      refine ex_then (cx_region ?_)
      refine ox_y rfl (y_add rfl rfl) ?_
      refine ox_y rfl (y_move_int rfl) ?_
      refine ox_nil ?_
      refine ex_take 2 ?_
      obtain rfl:=Option.some.inj h
      exact ex_next ⟨_,A24,c25,(s12.2.length + 1),(hn_app rfl rfl),rfl,(keep (keep (keep (keep (keep (keep (keep (keep (keep (keep (keep (keep (keep rfl rfl) rfl) rfl) rfl) rfl) rfl) rfl) rfl) rfl) rfl) rfl) rfl) rfl)⟩
     ·refine cx_false (congrArg Value.bool hp22) ?_
      refine cx_skip ?_
      refine ex_block ?_
      refine ex_then (cx_region ?_)
      refine ox_y rfl (y_add rfl rfl) ?_
      refine ox_y rfl (y_move_int rfl) ?_
      refine ox_nil ?_
      refine ex_take 2 ?_
      obtain rfl:=Option.some.inj h
      exact ex_next ⟨_,A1_s12,c1_s12,s12.2.length,rfl,rfl,(keep (keep (keep (keep (keep (keep (keep (keep (keep (keep (keep (keep (keep rfl rfl) rfl) rfl) rfl) rfl) rfl) rfl) rfl) rfl) rfl) rfl) rfl) rfl)⟩
    ·refine cx_false (congrArg Value.bool hp14) ?_
     refine cx_exit ?_
     refine ex_then_exit ?_
     obtain rfl:=Option.some.inj h
     exact ex_stop ⟨rfl,_,A1_s12,c1_s12,s12.2.length,rfl,rfl,(keep (keep (keep (keep (keep (keep (keep (keep (keep (keep (keep (keep (keep rfl rfl) rfl) rfl) rfl) rfl) rfl) rfl) rfl) rfl) rfl) rfl) rfl) rfl)⟩
   ·intro e L tm hJ
    obtain ⟨rfl,tm0_u13,A1_u13,c1_u13,n1_u13,rfl,rfl,rfl⟩:=hJ
    refine ⟨(by intro hc; cases hc),?_⟩
    refine ex_block_here ?_
    refine ex_then (cx_seq (cx_region ?_))
    refine ox_y rfl (y_move_slice rfl) ?_
    obtain ⟨y28,hy29,h⟩:=bind_some h
    refine ox_callT 1 [.slice A1_u13 u13.2.length c1_u13] (fun (_:Unit) => u13.2.length = y28.length) (fun _ => .tuple #[]) (fun _ => rowR A1_u13 c1_u13 3 1 u13.2.length (encL cI y28)) (fun _ => []) rfl rfl go_67 rfl (fun W2 hW2 => (slices_Sort_int_int_ok u13.2 y28 hy29 W2 _ (restR [cellsR b1 25 [.slice A0_0 p0_l.fNodes.length c0_0,.slice A0_1 p0_l.fClaims.length c0_1],rowR A1_u13 c1_u13 3 1 u13.2.length (encL cI u13.2)] [1]) A1_u13 u13.2.length c1_u13 rfl hW2).mono (fun e W3 h3 => ⟨(),h3.2.1,h3.1,h3.2.2⟩)) ?_
    rintro - hn30
    try dsimp only [lsz,lss,List.append_nil]
    refine ox_nil (ex_then (cx_seq (cx_region ?_)))
    refine ox_y rfl (y_move_slice rfl) ?_
    refine ox_y rfl (y_assign_slice rfl) ?_
    refine ox_y rfl (y_assign_int rfl) ?_
    refine ox_nil (ex_then (cx_ret ?_))
    obtain rfl:=Option.some.inj h
    exact ex_res2 (.inl rfl) rfl (resV_tmp (v:=.slice A1_u13 u13.2.length c1_u13) rfl) (resV_tmp (v:=.int .i64 0) rfl) (fun W2 hW2 => ⟨(A1_u13,u13.2.length,c1_u13),hn30,rfl,(hW2.pick 1 rfl)⟩)

theorem recall_Gates_1_ok (p0_link:Int) (p1_h:Int) (cap0:TLineage) (cap1:TNode) (res:Bool) (h:recall_Gates_1 p0_link p1_h cap0 cap1 = some res) (W:World) (bc0:Nat) (A100_0:Option Addr) (n100_0 c100_0 : Nat) (hn100_0:n100_0 = cap0.fNodes.length) (hr100_0:Rd W A100_0 n100_0 c100_0 (encL TNode_cells cap0.fNodes)) (A100_1:Option Addr) (n100_1 c100_1 : Nat) (ys100_1:List (Hd × TClaim)) (hn100_1:n100_1 = cap0.fClaims.length) (hr100_1:Rd W A100_1 n100_1 c100_1 (encL TClaim_cells2 ys100_1)) (hN100_1:NestW W (fun z : TClaim => z.fOptions) THop_cells ys100_1 cap0.fClaims) (hcap0:Rd W (some ⟨bc0,0,none⟩) 1 1 [.slice A100_0 n100_0 c100_0,.slice A100_1 n100_1 c100_1]) (bc1:Nat) (hcap1:Rd W (some ⟨bc1,0,none⟩) 1 1 (TNode_cells cap1)) :
  Calls Try.prog 68 [.int .i64 p0_link,.int .i64 p1_h,.pointer (some ⟨bc0,0,none⟩),.pointer (some ⟨bc1,0,none⟩)].toArray W fun e W2 => e = .returned (.bool res) ∧ Ext W W2 []:=by
 subst hn100_0
 subst hn100_1
 unfold recall_Gates_1 at h
 refine calls_enter (m:=20) Try.func68 rfl rfl (Nat.le_of_ble_eq_true rfl) ?_
 refine cx_seq (cx_region ?_)
 refine ox_y rfl (y_assign_bool rfl) ?_
 refine ox_nil (ex_then (cx_seq ?_))
 refine cx_draws 14 mixed (by kernel_rfl) (by kernel_rfl) ?_
 refine qx_y rfl (y_fieldAddrR (A:=(some ⟨bc0,0,none⟩)) (j:=0) fo_25_1 rfl) ?_
 refine qx_y rfl (y_loadR1 (A:=(some ⟨bc0,0,none⟩)) (j:=(0 + 1)) (v:=.slice A100_1 cap0.fClaims.length c100_1) sc_23 (RdL.arg hcap0) rfl rfl) ?_
 refine qx_y rfl (y_move_int rfl) ?_
 obtain ⟨hg1,h⟩:=guardO_some h
 refine qx_y rfl (y_indexR sl_23 (by decide) hg1.1 hg1.2 (RdL.arg hr100_1) (encL_len TClaim_cells2_len (NestP.hn hN100_1.p rfl)) rfl rfl) ?_
 refine qx_y rfl (y_fieldAddrR (A:=A100_1) (j:=(Int.toNat p0_link * 2)) fo_35_1 rfl) ?_
 refine qx_y rfl (y_loadR1 (A:=A100_1) (j:=((Int.toNat p0_link * 2) + 1)) (v:=.slice ((rdL ys100_1 p0_link).1.1) ((rdL cap0.fClaims p0_link).fOptions.length) ((rdL ys100_1 p0_link).1.2.2)) sc_33 (RdL.arg hr100_1) rfl (encL_get TClaim_cells2_len hg1.1 (lt_nat hg1.2 (NestP.hn hN100_1.p rfl)) (congrArg (fun n : Nat => some (Value.slice (rdL ys100_1 p0_link).1.1 n (rdL ys100_1 p0_link).1.2.2)) (NestP.len hN100_1.p hg1.1 (lt_nat hg1.2 rfl))))) ?_
 refine qx_y rfl (y_move_int rfl) ?_
 obtain ⟨hg2,h⟩:=guardO_some h
 refine qx_y rfl (y_indexR sl_33 (by decide) hg2.1 hg2.2 (NestL.rd (NestL.arg hN100_1) hg1.1 (lt_nat hg1.2 rfl)) (encL_len THop_cells_len rfl) rfl rfl) ?_
 refine qx_y rfl (y_fieldAddrR (A:=((rdL ys100_1 p0_link).1.1)) (j:=(Int.toNat p1_h * 2)) fo_93_1 rfl) ?_
 refine qx_y rfl (y_loadR1 (A:=((rdL ys100_1 p0_link).1.1)) (j:=((Int.toNat p1_h * 2) + 1)) (v:=.int .i64 ((rdL ((rdL cap0.fClaims p0_link).fOptions) p1_h).fTo)) sc_3 (NestL.rd (NestL.arg hN100_1) hg1.1 (lt_nat hg1.2 rfl)) rfl (encL_get THop_cells_len hg2.1 (lt_nat hg2.2 rfl) rfl)) ?_
 refine qx_y rfl (y_fieldAddrR (A:=(some ⟨bc1,0,none⟩)) (j:=0) fo_41_0 rfl) ?_
 refine qx_y rfl (y_loadR1 (A:=(some ⟨bc1,0,none⟩)) (j:=(0 + 0)) (v:=.int .i64 cap1.fID) sc_3 (RdL.arg hcap1) rfl rfl) ?_
 refine qx_y rfl (y_neq rfl rfl) ?_
 refine qx_y rfl (y_assign_bool rfl) ?_
 refine qx_nil ?_
 refine ox_nil (ex_then (cx_ret ?_))
 obtain rfl:=Option.some.inj h
 exact ex_res1 (.inl rfl) rfl (resV_tmp (v:=.bool (((rdL ((rdL cap0.fClaims p0_link).fOptions) p1_h).fTo) != cap1.fID)) rfl) (fun W2 hW2 => ⟨rfl,hW2.none⟩)

theorem recall_Gates_ok (p0_l:TLineage) (p1_from:(List Int)) (p2_to:Int) (res:((List Int) × Int)) (h:recall_Gates p0_l p1_from p2_to = some res) (W:World) (A0_0:Option Addr) (n0_0 c0_0 : Nat) (hn0_0:n0_0 = p0_l.fNodes.length) (hr0_0:Rd W A0_0 n0_0 c0_0 (encL TNode_cells p0_l.fNodes)) (A0_1:Option Addr) (n0_1 c0_1 : Nat) (ys0_1:List (Hd × TClaim)) (hn0_1:n0_1 = p0_l.fClaims.length) (hr0_1:Rd W A0_1 n0_1 c0_1 (encL TClaim_cells2 ys0_1)) (hN0_1:NestW W (fun z : TClaim => z.fOptions) THop_cells ys0_1 p0_l.fClaims) (A1_0:Option Addr) (n1_0 c1_0 : Nat) (hn1_0:n1_0 = p1_from.length) (hr1_0:Rd W A1_0 n1_0 c1_0 (encL cI p1_from)) :
  Calls Try.prog 31 [.agg #[.slice A0_0 n0_0 c0_0,.slice A0_1 n0_1 c0_1],.slice A1_0 n1_0 c1_0,.int .i64 p2_to].toArray W fun e W2 => ∃ x : Option Addr × Nat × Nat,x.2.1 = res.1.length ∧ e = .returned (.tuple #[.slice x.1 x.2.1 x.2.2,.int .i64 res.2]) ∧ Ext W W2 [rowR x.1 x.2.2 3 1 x.2.1 (encL cI res.1)]:=by
 subst hn0_0
 subst hn0_1
 subst hn1_0
 unfold recall_Gates at h
 refine calls_enter (m:=56) Try.func31 rfl rfl (Nat.le_of_ble_eq_true rfl) ?_
 refine cx_seq (cx_region ?_)
 refine ox_box [.slice A0_0 p0_l.fNodes.length c0_0,.slice A0_1 p0_l.fClaims.length c0_1] rfl rfl rfl (fun b1 => ?_)
 refine ox_y rfl (y_assign_slice rfl) ?_
 refine ox_y rfl (y_assign_int rfl) ?_
 refine ox_nil (ex_then (cx_seq (cx_seq (cx_region ?_))))
 refine ox_y rfl (y_loadN 0 [.slice A0_0 p0_l.fNodes.length c0_0,.slice A0_1 p0_l.fClaims.length c0_1] ag_25 rfl rfl rfl) ?_
 refine ox_y rfl (y_move_slice rfl) ?_
 refine ox_y rfl (y_move_int rfl) ?_
 obtain ⟨y2,hy3,h⟩:=bind_some h
 refine ox_y rfl (y_call [.agg #[.slice A0_0 p0_l.fNodes.length c0_0,.slice A0_1 p0_l.fClaims.length c0_1],.slice A1_0 p1_from.length c1_0,.int .i64 p2_to] go_47 rfl (fun W2 hW2 => recall_askedTo_ok p0_l p1_from p2_to y2 hy3 W2 A0_0 p0_l.fNodes.length c0_0 rfl ((RdL.arg hr0_0) W2 hW2) A0_1 p0_l.fClaims.length c0_1 ys0_1 rfl ((RdL.arg hr0_1) W2 hW2) (NestL.at (NestL.arg hN0_1) W2 hW2) A1_0 p1_from.length c1_0 rfl ((RdL.arg hr1_0) W2 hW2)) rfl) ?_
 refine ox_y rfl (y_assign_int rfl) ?_
 refine ox_nil (ex_then (cx_seq (cx_region ?_)))
 refine ox_y rfl (y_move_int rfl) ?_
 refine ox_y rfl (y_neq rfl rfl) ?_
 refine ox_nil (ex_then ?_)
 rcases ite_some h with ⟨hp4,h⟩ | ⟨hp4,h⟩
 ·refine cx_true (congrArg Value.bool hp4) ?_
  refine cx_seq (cx_region ?_)
  refine ox_y rfl (y_move_int rfl) ?_
  refine ox_y rfl (y_assign_slice rfl) ?_
  refine ox_y rfl (y_assign_int rfl) ?_
  refine ox_nil (ex_then (cx_ret (ex_then_ret ?_)))
  obtain rfl:=Option.some.inj h
  exact ex_res2 (.inl rfl) rfl (resV_tmp (v:=.slice none 0 0) rfl) (resV_tmp (v:=.int .i64 y2) rfl) (fun W2 hW2 => ⟨(none,0,0),rfl,rfl,((hW2.nilrow 3 1).pick 1 rfl)⟩)
 ·refine cx_false (congrArg Value.bool hp4) ?_
  refine cx_skip (ex_then (cx_seq (cx_seq (cx_region ?_))))
  refine ox_y rfl (y_loadN 0 [.slice A0_0 p0_l.fNodes.length c0_0,.slice A0_1 p0_l.fClaims.length c0_1] ag_25 rfl rfl rfl) ?_
  refine ox_y rfl (y_move_slice rfl) ?_
  refine ox_y rfl (y_move_int rfl) ?_
  obtain ⟨y7,hy8,h⟩:=bind_some h
  refine ox_y rfl (y_call [.agg #[.slice A0_0 p0_l.fNodes.length c0_0,.slice A0_1 p0_l.fClaims.length c0_1],.slice A1_0 p1_from.length c1_0,.int .i64 p2_to,.func (.func 65) #[] #[]] go_64 rfl (fun W2 hW2 => recall_maybe_ok p0_l p1_from p2_to (fun x5 x6 => recall_anyOption x5 x6) y7 hy8 W2 A0_0 p0_l.fNodes.length c0_0 rfl ((RdL.arg hr0_0) W2 hW2) A0_1 p0_l.fClaims.length c0_1 ys0_1 rfl ((RdL.arg hr0_1) W2 hW2) (NestL.at (NestL.arg hN0_1) W2 hW2) A1_0 p1_from.length c1_0 rfl ((RdL.arg hr1_0) W2 hW2) 65 [] [] go_65 (fun W3 hb x0 x1 y hxy => recall_anyOption_ok  x0 x1  y hxy W3 )) rfl) ?_
  refine ox_y rfl (y_not rfl) ?_
  refine ox_nil (ex_then ?_)
  rcases ite_some h with ⟨hp9,h⟩ | ⟨hp9,h⟩
  ·refine cx_true (congrArg Value.bool hp9) ?_
   refine cx_seq (cx_region ?_)
   refine ox_y rfl (y_assign_slice rfl) ?_
   refine ox_y rfl (y_assign_int rfl) ?_
   refine ox_nil (ex_then (cx_ret (ex_then_ret ?_)))
   obtain rfl:=Option.some.inj h
   exact ex_res2 (.inl rfl) rfl (resV_tmp (v:=.slice none 0 0) rfl) (resV_tmp (v:=.int .i64 5) rfl) (fun W2 hW2 => ⟨(none,0,0),rfl,rfl,((hW2.nilrow 3 1).pick 1 rfl)⟩)
  ·refine cx_false (congrArg Value.bool hp9) ?_
   refine cx_skip (ex_then (cx_seq (cx_region ?_)))
   refine ox_y rfl (y_assign_slice rfl) ?_
   refine ox_nil (ex_then (cx_seq (cx_seq (cx_region ?_))))
   refine ox_y rfl (y_fieldAddr fo_25_0 rfl) ?_
   refine ox_y rfl (y_load1 0 (v:=.slice A0_0 p0_l.fNodes.length c0_0) sc_22 rfl rfl rfl) ?_
   refine ox_y rfl (y_len (us:=[]) us_22 rfl) ?_
   refine ox_y rfl (y_move_int rfl) ?_
   refine ox_nil (ex_then (cx_block ?_))
   obtain ⟨u13,hl32,h⟩:=bind_some h
   refine cx_nilrow 3 1 ?_
   refine cx_loop (fun (s:(Int × (List Int))) L tm => ∃ (tm0:Nat → Value) (A1_s:Option Addr) (c1_s:Nat) (n1_s:Nat),n1_s = s.2.length ∧ L = [cellsR b1 25 [.slice A0_0 p0_l.fNodes.length c0_0,.slice A0_1 p0_l.fClaims.length c0_1],rowR A1_s c1_s 3 1 n1_s (encL cI s.2)] ∧ tm = (upd (upd (upd (upd (upd (upd (upd (upd (upd (upd (upd (upd (upd tm0 0 (.agg #[.slice A0_0 p0_l.fNodes.length c0_0,.slice A0_1 p0_l.fClaims.length c0_1])) 1 (.slice A1_0 p1_from.length c1_0)) 2 (.int .i64 p2_to)) 3 (.pointer (some ⟨b1,0,none⟩))) 6 (.slice none 0 0)) 7 (.int .i64 0)) 8 (.int .i64 y2)) 17 (.bool (y2 != 0))) 23 (.bool (!y7))) 9 (.slice A1_s n1_s c1_s)) 25 (.slice A0_0 p0_l.fNodes.length c0_0)) 26 (.int .i64 (p0_l.fNodes.length:Int))) 27 (.int .i64 s.1))) (fun s e L tm => e = .exit 0 ∧ ∃ (tm0:Nat → Value) (A1_s:Option Addr) (c1_s:Nat) (n1_s:Nat),n1_s = s.2.length ∧ L = [cellsR b1 25 [.slice A0_0 p0_l.fNodes.length c0_0,.slice A0_1 p0_l.fClaims.length c0_1],rowR A1_s c1_s 3 1 n1_s (encL cI s.2)] ∧ tm = (upd (upd (upd (upd (upd (upd (upd (upd (upd (upd (upd (upd (upd tm0 0 (.agg #[.slice A0_0 p0_l.fNodes.length c0_0,.slice A0_1 p0_l.fClaims.length c0_1])) 1 (.slice A1_0 p1_from.length c1_0)) 2 (.int .i64 p2_to)) 3 (.pointer (some ⟨b1,0,none⟩))) 6 (.slice none 0 0)) 7 (.int .i64 0)) 8 (.int .i64 y2)) 17 (.bool (y2 != 0))) 23 (.bool (!y7))) 9 (.slice A1_s n1_s c1_s)) 25 (.slice A0_0 p0_l.fNodes.length c0_0)) 26 (.int .i64 (p0_l.fNodes.length:Int))) 27 (.int .i64 s.1))) hl32 ⟨_,none,0,0,rfl,rfl,(keep (keep (keep (keep (keep (keep (keep (keep (keep (keep (keep (keep (keep rfl rfl) rfl) rfl) rfl) rfl) rfl) rfl) rfl) rfl) rfl) rfl) rfl) rfl)⟩ ?_ ?_
   ·rintro s12 L tm st ⟨tm0_s12,A1_s12,c1_s12,n1_s12,rfl,rfl,rfl⟩ h
    unfold recall_Gates_l1 at h
    refine cx_seq (cx_region ?_)
    refine ox_y rfl (y_lss rfl rfl) ?_
    refine ox_nil (ex_then (cx_seq ?_))
    rcases ite_some h with ⟨hp14,h⟩ | ⟨hp14,h⟩
    ·refine cx_true (congrArg Value.bool hp14) ?_
     refine cx_skip (ex_then (cx_seq (cx_block (cx_seq (cx_region ?_)))))
     obtain ⟨hg15,h⟩:=guardO_some h
     refine ox_y rfl (y_indexR sl_22 (by decide) hg15.1 hg15.2 (RdL.arg hr0_0) (encL_len TNode_cells_len rfl) rfl rfl) ?_
     refine ox_y rfl (y_loadRN (A:=A0_0) (j:=(Int.toNat s12.1 * 3)) [.int .i64 ((rdL p0_l.fNodes s12.1).fID),.int .i64 ((rdL p0_l.fNodes s12.1).fLevel),.int .i64 ((rdL p0_l.fNodes s12.1).fCost)] ag_41 (Nat.succ_pos _) (RdL.arg hr0_0) rfl (encL_gets TNode_cells_len hg15.1 (lt_nat hg15.2 rfl))) ?_
     refine ox_alloc ze_41 rfl (fun b16 => ?_)
     refine ox_n rfl (y_storeN 2 [.int .i64 ((rdL p0_l.fNodes s12.1).fID),.int .i64 ((rdL p0_l.fNodes s12.1).fLevel),.int .i64 ((rdL p0_l.fNodes s12.1).fCost)] sz_41 rfl (Nat.le_of_ble_eq_true rfl) rfl rfl rfl) ?_
     refine ox_nil (ex_then (cx_seq (cx_seq (cx_region ?_))))
     refine ox_y rfl (y_fieldAddr fo_41_0 rfl) ?_
     refine ox_y rfl (y_load1 2 (v:=.int .i64 ((rdL p0_l.fNodes s12.1).fID)) sc_3 rfl rfl rfl) ?_
     refine ox_y rfl (y_move_int rfl) ?_
     refine ox_y rfl (y_eql rfl rfl) ?_
     refine ox_y rfl (y_move_bool rfl) ?_
     obtain ⟨b18,hb19,h⟩:=bind_some h
     refine ox_join 5 (fun tm0 => (upd (upd (upd (upd (upd (upd (upd (upd (upd (upd (upd (upd (upd (upd (upd (upd tm0 0 (.agg #[.slice A0_0 p0_l.fNodes.length c0_0,.slice A0_1 p0_l.fClaims.length c0_1])) 1 (.slice A1_0 p1_from.length c1_0)) 2 (.int .i64 p2_to)) 3 (.pointer (some ⟨b1,0,none⟩))) 6 (.slice none 0 0)) 7 (.int .i64 0)) 8 (.int .i64 y2)) 17 (.bool (y2 != 0))) 23 (.bool (!y7))) 9 (.slice A1_s12 s12.2.length c1_s12)) 25 (.slice A0_0 p0_l.fNodes.length c0_0)) 26 (.int .i64 (p0_l.fNodes.length:Int))) 27 (.int .i64 s12.1)) 28 (.bool (decide (s12.1 < (p0_l.fNodes.length:Int))))) 11 (.pointer (some ⟨b16,0,none⟩))) 40 (.bool b18))) (fun tm0 => ?_) (fun key => ?_)
     ·refine ox_nil (ex_then ?_)
      rcases ite_some h with ⟨hp20,h⟩ | ⟨hp20,h⟩
      ·refine cx_true (congrArg Value.bool hp20) ?_
       refine cx_exit ?_
       refine ex_then_exit ?_
       refine ex_block_here ?_
       refine ex_then (cx_region ?_)
       refine ox_y rfl (y_add rfl rfl) ?_
       refine ox_y rfl (y_move_int rfl) ?_
       refine ox_nil ?_
       refine ex_take 2 ?_
       obtain rfl:=Option.some.inj h
       exact ex_next ⟨_,A1_s12,c1_s12,s12.2.length,rfl,rfl,(keep (keep (keep (keep (keep (keep (keep (keep (keep (keep (keep (keep (keep rfl rfl) rfl) rfl) rfl) rfl) rfl) rfl) rfl) rfl) rfl) rfl) rfl) rfl)⟩
      ·refine cx_false (congrArg Value.bool hp20) ?_
       refine cx_skip (ex_then (cx_seq (cx_region ?_)))
       refine ox_y rfl (y_loadN 0 [.slice A0_0 p0_l.fNodes.length c0_0,.slice A0_1 p0_l.fClaims.length c0_1] ag_25 rfl rfl rfl) ?_
       refine ox_y rfl (y_move_slice rfl) ?_
       refine ox_y rfl (y_move_int rfl) ?_
       refine ox_y rfl (y_makeFunc [.pointer (some ⟨b1,0,none⟩),.pointer (some ⟨b16,0,none⟩)] rfl rfl) ?_
       obtain ⟨y23,hy24,h⟩:=bind_some h
       refine ox_y rfl (y_call [.agg #[.slice A0_0 p0_l.fNodes.length c0_0,.slice A0_1 p0_l.fClaims.length c0_1],.slice A1_0 p1_from.length c1_0,.int .i64 p2_to,.func (.func 68) #[] #[.pointer (some ⟨b1,0,none⟩),.pointer (some ⟨b16,0,none⟩)]] go_64 rfl (fun W2 hW2 => recall_maybe_ok p0_l p1_from p2_to (fun x21 x22 => recall_Gates_1 x21 x22 p0_l (TNode.mk ((rdL p0_l.fNodes s12.1).fID) ((rdL p0_l.fNodes s12.1).fLevel) ((rdL p0_l.fNodes s12.1).fCost))) y23 hy24 W2 A0_0 p0_l.fNodes.length c0_0 rfl ((RdL.arg hr0_0) W2 hW2) A0_1 p0_l.fClaims.length c0_1 ys0_1 rfl ((RdL.arg hr0_1) W2 hW2) (NestL.at (NestL.arg hN0_1) W2 hW2) A1_0 p1_from.length c1_0 rfl ((RdL.arg hr1_0) W2 hW2) 68 [] [.pointer (some ⟨b1,0,none⟩),.pointer (some ⟨b16,0,none⟩)] go_68 (fun W3 hb x0 x1 y hxy => recall_Gates_1_ok  x0 x1 p0_l (TNode.mk ((rdL p0_l.fNodes s12.1).fID) ((rdL p0_l.fNodes s12.1).fLevel) ((rdL p0_l.fNodes s12.1).fCost)) y hxy W3 b1 A0_0 p0_l.fNodes.length c0_0 rfl (((RdL.arg hr0_0) W2 hW2).later hb) A0_1 p0_l.fClaims.length c0_1 ys0_1 rfl (((RdL.arg hr0_1) W2 hW2).later hb) ((NestL.at (NestL.arg hN0_1) W2 hW2).later hb) (((RdL.cells 0 rfl) W2 hW2).later hb) b16 (((RdL.cells 2 rfl) W2 hW2).later hb))) rfl) ?_
       refine ox_y rfl (y_not rfl) ?_
       refine ox_nil (ex_then ?_)
       rcases ite_some h with ⟨hp25,h⟩ | ⟨hp25,h⟩
       ·refine cx_true (congrArg Value.bool hp25) ?_
        refine cx_region ?_
        refine ox_y rfl (y_move_slice rfl) ?_
        refine ox_y rfl (y_fieldAddr fo_41_0 rfl) ?_
        refine ox_y rfl (y_load1 2 (v:=.int .i64 ((rdL p0_l.fNodes s12.1).fID)) sc_3 rfl rfl rfl) ?_
        refine ox_buildSliceE 1 (encL cI [(rdL p0_l.fNodes s12.1).fID]) _ mc_3_1 us_32 ze_3 by_3 (by decide) (by decide) (by kernel_rfl) (encL_len cI_len rfl) rfl (fun b26 => ?_)
        obtain ⟨hg29,h⟩:=guardO_some h
        refine ox_append0 1 us_32 ze_3 by_3 rfl rfl rfl (RdL.row 3 rfl) (encL_len cI_len rfl) (encL_one cI_one _) (app_room hg29 (by decide)) rfl (fun A27 c28 => ?_)
        refine ox_y rfl (y_assign_slice rfl) ?_
        refine ox_nil ?_
        refine ex_block ?_
        refine ex_then (cx_region ?_)
        refine ox_y rfl (y_add rfl rfl) ?_
        refine ox_y rfl (y_move_int rfl) ?_
        refine ox_nil ?_
        refine ex_take 2 ?_
        obtain rfl:=Option.some.inj h
        exact ex_next ⟨_,A27,c28,(s12.2.length + 1),(hn_app rfl rfl),rfl,(keep (keep (keep (keep (keep (keep (keep (keep (keep (keep (keep (keep (keep rfl rfl) rfl) rfl) rfl) rfl) rfl) rfl) rfl) rfl) rfl) rfl) rfl) rfl)⟩
       ·refine cx_false (congrArg Value.bool hp25) ?_
        refine cx_skip ?_
        refine ex_block ?_
        refine ex_then (cx_region ?_)
        refine ox_y rfl (y_add rfl rfl) ?_
        refine ox_y rfl (y_move_int rfl) ?_
        refine ox_nil ?_
        refine ex_take 2 ?_
        obtain rfl:=Option.some.inj h
        exact ex_next ⟨_,A1_s12,c1_s12,s12.2.length,rfl,rfl,(keep (keep (keep (keep (keep (keep (keep (keep (keep (keep (keep (keep (keep rfl rfl) rfl) rfl) rfl) rfl) rfl) rfl) rfl) rfl) rfl) rfl) rfl) rfl)⟩
     ·clear h; rcases ite_some hb19 with ⟨hp17,h⟩ | ⟨hp17,h⟩
      ·refine ox_skip (sees_f rfl rfl rfl rfl hp17) ?_
       refine ox_skip (sees_f rfl rfl rfl rfl hp17) ?_
       refine ox_skip (sees_f rfl rfl rfl rfl hp17) ?_
       refine ox_skip (sees_f rfl rfl rfl rfl hp17) ?_
       refine ox_y rfl (y_pick_tb (congrArg Value.bool hp17) rfl) ?_
       obtain rfl:=Option.some.inj h
       exact key _ _ (keep (keep (keep (keep (keep (keep (keep (keep (keep (keep (keep (keep (keep (keep (keep (keep rfl rfl) rfl) rfl) rfl) rfl) rfl) rfl) rfl) rfl) rfl) rfl) rfl) rfl) rfl) rfl) rfl)
      ·refine ox_y (sees_t rfl rfl rfl rfl hp17) (y_move_slice rfl) ?_
       refine ox_y (sees_t rfl rfl rfl rfl hp17) (y_fieldAddr fo_41_0 rfl) ?_
       refine ox_y (sees_t rfl rfl rfl rfl hp17) (y_load1 2 (v:=.int .i64 ((rdL p0_l.fNodes s12.1).fID)) sc_3 rfl rfl rfl) ?_
       obtain ⟨y30,hy31,h⟩:=bind_some h
       refine ox_y (sees_t rfl rfl rfl rfl hp17) (y_call [.slice A1_0 p1_from.length c1_0,.int .i64 ((rdL p0_l.fNodes s12.1).fID)] go_58 rfl (fun W2 hW2 => slices_Contains_int_int_ok p1_from ((rdL p0_l.fNodes s12.1).fID) y30 hy31 W2 A1_0 p1_from.length c1_0 rfl ((RdL.arg hr1_0) W2 hW2)) rfl) ?_
       refine ox_y rfl (y_pick_fb (congrArg Value.bool hp17) rfl) ?_
       obtain rfl:=Option.some.inj h
       exact key _ _ (keep (keep (keep (keep (keep (keep (keep (keep (keep (keep (keep (keep (keep (keep (keep (keep rfl rfl) rfl) rfl) rfl) rfl) rfl) rfl) rfl) rfl) rfl) rfl) rfl) rfl) rfl) rfl) rfl)
    ·refine cx_false (congrArg Value.bool hp14) ?_
     refine cx_exit ?_
     refine ex_then_exit ?_
     obtain rfl:=Option.some.inj h
     exact ex_stop ⟨rfl,_,A1_s12,c1_s12,s12.2.length,rfl,rfl,(keep (keep (keep (keep (keep (keep (keep (keep (keep (keep (keep (keep (keep rfl rfl) rfl) rfl) rfl) rfl) rfl) rfl) rfl) rfl) rfl) rfl) rfl) rfl)⟩
   ·intro e L tm hJ
    obtain ⟨rfl,tm0_u13,A1_u13,c1_u13,n1_u13,rfl,rfl,rfl⟩:=hJ
    refine ⟨(by intro hc; cases hc),?_⟩
    refine ex_block_here ?_
    refine ex_then (cx_seq (cx_region ?_))
    refine ox_y rfl (y_move_slice rfl) ?_
    obtain ⟨y33,hy34,h⟩:=bind_some h
    refine ox_callT 1 [.slice A1_u13 u13.2.length c1_u13] (fun (_:Unit) => u13.2.length = y33.length) (fun _ => .tuple #[]) (fun _ => rowR A1_u13 c1_u13 3 1 u13.2.length (encL cI y33)) (fun _ => []) rfl rfl go_67 rfl (fun W2 hW2 => (slices_Sort_int_int_ok u13.2 y33 hy34 W2 _ (restR [cellsR b1 25 [.slice A0_0 p0_l.fNodes.length c0_0,.slice A0_1 p0_l.fClaims.length c0_1],rowR A1_u13 c1_u13 3 1 u13.2.length (encL cI u13.2)] [1]) A1_u13 u13.2.length c1_u13 rfl hW2).mono (fun e W3 h3 => ⟨(),h3.2.1,h3.1,h3.2.2⟩)) ?_
    rintro - hn35
    try dsimp only [lsz,lss,List.append_nil]
    refine ox_nil (ex_then (cx_seq (cx_region ?_)))
    refine ox_y rfl (y_move_slice rfl) ?_
    refine ox_y rfl (y_assign_slice rfl) ?_
    refine ox_y rfl (y_assign_int rfl) ?_
    refine ox_nil (ex_then (cx_ret ?_))
    obtain rfl:=Option.some.inj h
    exact ex_res2 (.inl rfl) rfl (resV_tmp (v:=.slice A1_u13 u13.2.length c1_u13) rfl) (resV_tmp (v:=.int .i64 0) rfl) (fun W2 hW2 => ⟨(A1_u13,u13.2.length,c1_u13),hn35,rfl,(hW2.pick 1 rfl)⟩)

theorem recall_level_ok (p0_l:TLineage) (p1_n:Int) (res:(List (Int × Bool))) (h:recall_level p0_l p1_n = some res) (W:World) (A0_0:Option Addr) (n0_0 c0_0 : Nat) (hn0_0:n0_0 = p0_l.fNodes.length) (hr0_0:Rd W A0_0 n0_0 c0_0 (encL TNode_cells p0_l.fNodes)) (A0_1:Option Addr) (n0_1 c0_1 : Nat) (ys0_1:List (Hd × TClaim)) (hn0_1:n0_1 = p0_l.fClaims.length) (hr0_1:Rd W A0_1 n0_1 c0_1 (encL TClaim_cells2 ys0_1)) (hN0_1:NestW W (fun z : TClaim => z.fOptions) THop_cells ys0_1 p0_l.fClaims) :
  Calls Try.prog 89 [.agg #[.slice A0_0 n0_0 c0_0,.slice A0_1 n0_1 c0_1],.int .i64 p1_n].toArray W fun e W2 => ∃ x : Nat,e = .returned (.map (some x)) ∧ Ext W W2 [mapV Try.prog 3 kI rngB kB false x res]:=by
 subst hn0_0
 subst hn0_1
 unfold recall_level at h
 refine calls_enter (m:=25) Try.func89 rfl rfl (Nat.le_of_ble_eq_true rfl) ?_
 refine cx_seq (cx_region ?_)
 refine ox_box [.slice A0_0 p0_l.fNodes.length c0_0,.slice A0_1 p0_l.fClaims.length c0_1] rfl rfl rfl (fun b1 => ?_)
 refine ox_y rfl (y_assign_map rfl) ?_
 refine ox_nil (ex_then (cx_seq (cx_region ?_)))
 refine ox_makeMapV 3 kI rngB kB false rfl (fun b2 => ?_)
 refine ox_y rfl (y_assign_map rfl) ?_
 refine ox_nil (ex_then (cx_seq (cx_seq (cx_region ?_))))
 refine ox_y rfl (y_fieldAddr fo_25_0 rfl) ?_
 refine ox_y rfl (y_load1 0 (v:=.slice A0_0 p0_l.fNodes.length c0_0) sc_22 rfl rfl rfl) ?_
 refine ox_y rfl (y_len (us:=[]) us_22 rfl) ?_
 refine ox_y rfl (y_move_int rfl) ?_
 refine ox_nil (ex_then (cx_block ?_))
 obtain ⟨u6,hl12,h⟩:=bind_some h
 refine cx_loop (fun (s:(Int × (List (Int × Bool)))) L tm => ∃ (tm0:Nat → Value),L = [cellsR b1 25 [.slice A0_0 p0_l.fNodes.length c0_0,.slice A0_1 p0_l.fClaims.length c0_1],mapV Try.prog 3 kI rngB kB false b2 s.2] ∧ tm = (upd (upd (upd (upd (upd (upd (upd (upd tm0 0 (.agg #[.slice A0_0 p0_l.fNodes.length c0_0,.slice A0_1 p0_l.fClaims.length c0_1])) 1 (.int .i64 p1_n)) 2 (.pointer (some ⟨b1,0,none⟩))) 4 (.map none)) 5 (.map (some b2))) 10 (.slice A0_0 p0_l.fNodes.length c0_0)) 11 (.int .i64 (p0_l.fNodes.length:Int))) 12 (.int .i64 s.1))) (fun s e L tm => e = .exit 0 ∧ ∃ (tm0:Nat → Value),L = [cellsR b1 25 [.slice A0_0 p0_l.fNodes.length c0_0,.slice A0_1 p0_l.fClaims.length c0_1],mapV Try.prog 3 kI rngB kB false b2 s.2] ∧ tm = (upd (upd (upd (upd (upd (upd (upd (upd tm0 0 (.agg #[.slice A0_0 p0_l.fNodes.length c0_0,.slice A0_1 p0_l.fClaims.length c0_1])) 1 (.int .i64 p1_n)) 2 (.pointer (some ⟨b1,0,none⟩))) 4 (.map none)) 5 (.map (some b2))) 10 (.slice A0_0 p0_l.fNodes.length c0_0)) 11 (.int .i64 (p0_l.fNodes.length:Int))) 12 (.int .i64 s.1))) hl12 ⟨_,rfl,(keep (keep (keep (keep (keep (keep (keep (keep rfl rfl) rfl) rfl) rfl) rfl) rfl) rfl) rfl)⟩ ?_ ?_
 ·rintro s5 L tm st ⟨tm0_s5,rfl,rfl⟩ h
  unfold recall_level_l1 at h
  refine cx_seq (cx_region ?_)
  refine ox_y rfl (y_lss rfl rfl) ?_
  refine ox_nil (ex_then (cx_seq ?_))
  rcases ite_some h with ⟨hp7,h⟩ | ⟨hp7,h⟩
  ·refine cx_true (congrArg Value.bool hp7) ?_
   refine cx_skip (ex_then (cx_seq (cx_block (cx_seq (cx_region ?_)))))
   obtain ⟨hg8,h⟩:=guardO_some h
   refine ox_y rfl (y_indexR sl_22 (by decide) hg8.1 hg8.2 (RdL.arg hr0_0) (encL_len TNode_cells_len rfl) rfl rfl) ?_
   refine ox_y rfl (y_loadRN (A:=A0_0) (j:=(Int.toNat s5.1 * 3)) [.int .i64 ((rdL p0_l.fNodes s5.1).fID),.int .i64 ((rdL p0_l.fNodes s5.1).fLevel),.int .i64 ((rdL p0_l.fNodes s5.1).fCost)] ag_41 (Nat.succ_pos _) (RdL.arg hr0_0) rfl (encL_gets TNode_cells_len hg8.1 (lt_nat hg8.2 rfl))) ?_
   refine ox_alloc ze_41 rfl (fun b9 => ?_)
   refine ox_n rfl (y_storeN 2 [.int .i64 ((rdL p0_l.fNodes s5.1).fID),.int .i64 ((rdL p0_l.fNodes s5.1).fLevel),.int .i64 ((rdL p0_l.fNodes s5.1).fCost)] sz_41 rfl (Nat.le_of_ble_eq_true rfl) rfl rfl rfl) ?_
   refine ox_nil (ex_then (cx_seq (cx_region ?_)))
   refine ox_y rfl (y_fieldAddr fo_41_1 rfl) ?_
   refine ox_y rfl (y_load1 2 (v:=.int .i64 ((rdL p0_l.fNodes s5.1).fLevel)) sc_3 rfl rfl rfl) ?_
   refine ox_y rfl (y_move_int rfl) ?_
   refine ox_y rfl (y_eql rfl rfl) ?_
   refine ox_nil (ex_then ?_)
   rcases ite_some h with ⟨hp10,h⟩ | ⟨hp10,h⟩
   ·refine cx_true (congrArg Value.bool hp10) ?_
    refine cx_region ?_
    refine ox_y rfl (y_move_map rfl) ?_
    refine ox_y rfl (y_fieldAddr fo_41_0 rfl) ?_
    refine ox_y rfl (y_load1 2 (v:=.int .i64 ((rdL p0_l.fNodes s5.1).fID)) sc_3 rfl rfl rfl) ?_
    obtain ⟨hg11,h⟩:=guardO_some h
    refine ox_n rfl (y_updateV 1 (k:=(rdL p0_l.fNodes s5.1).fID) (v:=true) rfl ke_3 um_74 rfl rfl rfl hg11) ?_
    refine ox_nil ?_
    refine ex_block ?_
    refine ex_then (cx_region ?_)
    refine ox_y rfl (y_add rfl rfl) ?_
    refine ox_y rfl (y_move_int rfl) ?_
    refine ox_nil ?_
    refine ex_take 2 ?_
    obtain rfl:=Option.some.inj h
    exact ex_next ⟨_,rfl,(keep (keep (keep (keep (keep (keep (keep (keep rfl rfl) rfl) rfl) rfl) rfl) rfl) rfl) rfl)⟩
   ·refine cx_false (congrArg Value.bool hp10) ?_
    refine cx_skip ?_
    refine ex_block ?_
    refine ex_then (cx_region ?_)
    refine ox_y rfl (y_add rfl rfl) ?_
    refine ox_y rfl (y_move_int rfl) ?_
    refine ox_nil ?_
    refine ex_take 2 ?_
    obtain rfl:=Option.some.inj h
    exact ex_next ⟨_,rfl,(keep (keep (keep (keep (keep (keep (keep (keep rfl rfl) rfl) rfl) rfl) rfl) rfl) rfl) rfl)⟩
  ·refine cx_false (congrArg Value.bool hp7) ?_
   refine cx_exit ?_
   refine ex_then_exit ?_
   obtain rfl:=Option.some.inj h
   exact ex_stop ⟨rfl,_,rfl,(keep (keep (keep (keep (keep (keep (keep (keep rfl rfl) rfl) rfl) rfl) rfl) rfl) rfl) rfl)⟩
 ·intro e L tm hJ
  obtain ⟨rfl,tm0_u6,rfl,rfl⟩:=hJ
  refine ⟨(by intro hc; cases hc),?_⟩
  refine ex_block_here ?_
  refine ex_then (cx_seq (cx_region ?_))
  refine ox_y rfl (y_move_map rfl) ?_
  refine ox_y rfl (y_assign_map rfl) ?_
  refine ox_nil (ex_then (cx_ret ?_))
  obtain rfl:=Option.some.inj h
  exact ex_res1 (.inl rfl) rfl (resV_tmp (v:=.map (some b2)) rfl) (fun W2 hW2 => ⟨b2,rfl,(hW2.pick 1 rfl)⟩)

theorem recall_charges_ok (p0_l:TLineage) (res:(List Int)) (h:recall_charges p0_l = some res) (W:World) (A0_0:Option Addr) (n0_0 c0_0 : Nat) (hn0_0:n0_0 = p0_l.fNodes.length) (hr0_0:Rd W A0_0 n0_0 c0_0 (encL TNode_cells p0_l.fNodes)) (A0_1:Option Addr) (n0_1 c0_1 : Nat) (ys0_1:List (Hd × TClaim)) (hn0_1:n0_1 = p0_l.fClaims.length) (hr0_1:Rd W A0_1 n0_1 c0_1 (encL TClaim_cells2 ys0_1)) (hN0_1:NestW W (fun z : TClaim => z.fOptions) THop_cells ys0_1 p0_l.fClaims) :
  Calls Try.prog 69 [.agg #[.slice A0_0 n0_0 c0_0,.slice A0_1 n0_1 c0_1]].toArray W fun e W2 => ∃ x : Option Addr × Nat × Nat,x.2.1 = res.length ∧ e = .returned (.slice x.1 x.2.1 x.2.2) ∧ Ext W W2 [rowR x.1 x.2.2 3 1 x.2.1 (encL cI res)]:=by
 subst hn0_0
 subst hn0_1
 unfold recall_charges at h
 refine calls_enter (m:=6) Try.func69 rfl rfl (Nat.le_of_ble_eq_true rfl) ?_
 refine cx_seq (cx_region ?_)
 refine ox_box [.slice A0_0 p0_l.fNodes.length c0_0,.slice A0_1 p0_l.fClaims.length c0_1] rfl rfl rfl (fun b1 => ?_)
 refine ox_y rfl (y_assign_slice rfl) ?_
 refine ox_nil (ex_then (cx_seq (cx_region ?_)))
 refine ox_y rfl (y_loadN 0 [.slice A0_0 p0_l.fNodes.length c0_0,.slice A0_1 p0_l.fClaims.length c0_1] ag_25 rfl rfl rfl) ?_
 obtain ⟨y2,hy3,h⟩:=bind_some h
 refine ox_call1 [.agg #[.slice A0_0 p0_l.fNodes.length c0_0,.slice A0_1 p0_l.fClaims.length c0_1],.int .i64 0] _ _ rfl go_89 rfl (fun W2 hW2 => recall_level_ok p0_l 0 y2 hy3 W2 A0_0 p0_l.fNodes.length c0_0 rfl ((RdL.arg hr0_0) W2 hW2) A0_1 p0_l.fClaims.length c0_1 ys0_1 rfl ((RdL.arg hr0_1) W2 hW2) (NestL.at (NestL.arg hN0_1) W2 hW2)) ?_
 rintro b4
 obtain ⟨y5,hy6,h⟩:=bind_some h
 refine ox_call [.map (some b4)] _ _ _ rfl go_44 rfl (fun W2 hW2 => recall_listed_ok y2 y5 hy6 W2 b4 ((MpL.own 1 rfl) W2 hW2)) ?_
 rintro ⟨A7,n9,c8⟩ hn10
 replace hn10 : n9 = y5.length:=hn10; subst hn10
 refine ox_y rfl (y_assign_slice rfl) ?_
 refine ox_nil (ex_then (cx_ret ?_))
 obtain rfl:=Option.some.inj h
 exact ex_res1 (.inl rfl) rfl (resV_tmp (v:=.slice A7 y5.length c8) rfl) (fun W2 hW2 => ⟨(A7,y5.length,c8),rfl,rfl,(hW2.pick 2 rfl)⟩)

theorem recall_Origins_ok (p0_l:TLineage) (p1_to:Int) (res:((List Int) × (List Int) × Int)) (h:recall_Origins p0_l p1_to = some res) (W:World) (A0_0:Option Addr) (n0_0 c0_0 : Nat) (hn0_0:n0_0 = p0_l.fNodes.length) (hr0_0:Rd W A0_0 n0_0 c0_0 (encL TNode_cells p0_l.fNodes)) (A0_1:Option Addr) (n0_1 c0_1 : Nat) (ys0_1:List (Hd × TClaim)) (hn0_1:n0_1 = p0_l.fClaims.length) (hr0_1:Rd W A0_1 n0_1 c0_1 (encL TClaim_cells2 ys0_1)) (hN0_1:NestW W (fun z : TClaim => z.fOptions) THop_cells ys0_1 p0_l.fClaims) :
  Calls Try.prog 32 [.agg #[.slice A0_0 n0_0 c0_0,.slice A0_1 n0_1 c0_1],.int .i64 p1_to].toArray W fun e W2 => ∃ x : ((Option Addr × Nat × Nat) × (Option Addr × Nat × Nat)),(x.1.2.1 = res.1.length ∧ x.2.2.1 = res.2.1.length) ∧ e = .returned (.tuple #[.slice x.1.1 x.1.2.1 x.1.2.2,.slice x.2.1 x.2.2.1 x.2.2.2,.int .i64 res.2.2]) ∧ Ext W W2 [rowR x.1.1 x.1.2.2 3 1 x.1.2.1 (encL cI res.1),rowR x.2.1 x.2.2.2 3 1 x.2.2.1 (encL cI res.2.1)]:=by
 subst hn0_0
 subst hn0_1
 unfold recall_Origins at h
 refine calls_enter (m:=51) Try.func32 rfl rfl (Nat.le_of_ble_eq_true rfl) ?_
 refine cx_seq (cx_region ?_)
 refine ox_box [.slice A0_0 p0_l.fNodes.length c0_0,.slice A0_1 p0_l.fClaims.length c0_1] rfl rfl rfl (fun b1 => ?_)
 refine ox_y rfl (y_assign_slice rfl) ?_
 refine ox_y rfl (y_assign_slice rfl) ?_
 refine ox_y rfl (y_assign_int rfl) ?_
 refine ox_nil (ex_then (cx_seq (cx_seq (cx_region ?_))))
 refine ox_y rfl (y_loadN 0 [.slice A0_0 p0_l.fNodes.length c0_0,.slice A0_1 p0_l.fClaims.length c0_1] ag_25 rfl rfl rfl) ?_
 obtain ⟨y2,hy3,h⟩:=bind_some h
 refine ox_y rfl (y_call [.agg #[.slice A0_0 p0_l.fNodes.length c0_0,.slice A0_1 p0_l.fClaims.length c0_1]] go_14 rfl (fun W2 hW2 => recall_Check_ok p0_l y2 hy3 W2 A0_0 p0_l.fNodes.length c0_0 rfl ((RdL.arg hr0_0) W2 hW2) A0_1 p0_l.fClaims.length c0_1 ys0_1 rfl ((RdL.arg hr0_1) W2 hW2) (NestL.at (NestL.arg hN0_1) W2 hW2)) rfl) ?_
 refine ox_y rfl (y_assign_int rfl) ?_
 refine ox_nil (ex_then (cx_seq (cx_region ?_)))
 refine ox_y rfl (y_move_int rfl) ?_
 refine ox_y rfl (y_neq rfl rfl) ?_
 refine ox_nil (ex_then ?_)
 rcases ite_some h with ⟨hp4,h⟩ | ⟨hp4,h⟩
 ·refine cx_true (congrArg Value.bool hp4) ?_
  refine cx_seq (cx_region ?_)
  refine ox_y rfl (y_move_int rfl) ?_
  refine ox_y rfl (y_assign_slice rfl) ?_
  refine ox_y rfl (y_assign_slice rfl) ?_
  refine ox_y rfl (y_assign_int rfl) ?_
  refine ox_nil (ex_then (cx_ret (ex_then_ret ?_)))
  obtain rfl:=Option.some.inj h
  exact ex_res3 (.inl rfl) rfl (resV_tmp (v:=.slice none 0 0) rfl) (resV_tmp (v:=.slice none 0 0) rfl) (resV_tmp (v:=.int .i64 y2) rfl) (fun W2 hW2 => ⟨((none,0,0),(none,0,0)),⟨rfl,rfl⟩,rfl,((hW2.nilrow 3 1).nilrow 3 1).pickL [1,2] (by decide) rfl⟩)
 ·refine cx_false (congrArg Value.bool hp4) ?_
  refine cx_skip (ex_then (cx_seq (cx_seq (cx_region ?_))))
  refine ox_y rfl (y_loadN 0 [.slice A0_0 p0_l.fNodes.length c0_0,.slice A0_1 p0_l.fClaims.length c0_1] ag_25 rfl rfl rfl) ?_
  refine ox_y rfl (y_move_int rfl) ?_
  obtain ⟨y5,hy6,h⟩:=bind_some h
  refine ox_y rfl (y_call [.agg #[.slice A0_0 p0_l.fNodes.length c0_0,.slice A0_1 p0_l.fClaims.length c0_1],.int .i64 p1_to] go_36 rfl (fun W2 hW2 => recall_nodeOf_ok p0_l p1_to y5 hy6 W2 A0_0 p0_l.fNodes.length c0_0 rfl ((RdL.arg hr0_0) W2 hW2) A0_1 p0_l.fClaims.length c0_1 ys0_1 rfl ((RdL.arg hr0_1) W2 hW2) (NestL.at (NestL.arg hN0_1) W2 hW2)) rfl) ?_
  refine ox_y rfl (y_lss rfl rfl) ?_
  refine ox_nil (ex_then ?_)
  rcases ite_some h with ⟨hp7,h⟩ | ⟨hp7,h⟩
  ·refine cx_true (congrArg Value.bool hp7) ?_
   refine cx_seq (cx_region ?_)
   refine ox_y rfl (y_assign_slice rfl) ?_
   refine ox_y rfl (y_assign_slice rfl) ?_
   refine ox_y rfl (y_assign_int rfl) ?_
   refine ox_nil (ex_then (cx_ret (ex_then_ret ?_)))
   obtain rfl:=Option.some.inj h
   exact ex_res3 (.inl rfl) rfl (resV_tmp (v:=.slice none 0 0) rfl) (resV_tmp (v:=.slice none 0 0) rfl) (resV_tmp (v:=.int .i64 5) rfl) (fun W2 hW2 => ⟨((none,0,0),(none,0,0)),⟨rfl,rfl⟩,rfl,((hW2.nilrow 3 1).nilrow 3 1).pickL [1,2] (by decide) rfl⟩)
  ·refine cx_false (congrArg Value.bool hp7) ?_
   refine cx_skip (ex_then (cx_seq (cx_region ?_)))
   refine ox_y rfl (y_assign_slice rfl) ?_
   refine ox_y rfl (y_assign_slice rfl) ?_
   refine ox_nil (ex_then (cx_seq (cx_seq (cx_region ?_))))
   refine ox_y rfl (y_loadN 0 [.slice A0_0 p0_l.fNodes.length c0_0,.slice A0_1 p0_l.fClaims.length c0_1] ag_25 rfl rfl rfl) ?_
   obtain ⟨y8,hy9,h⟩:=bind_some h
   refine ox_call [.agg #[.slice A0_0 p0_l.fNodes.length c0_0,.slice A0_1 p0_l.fClaims.length c0_1]] _ _ _ rfl go_69 rfl (fun W2 hW2 => recall_charges_ok p0_l y8 hy9 W2 A0_0 p0_l.fNodes.length c0_0 rfl ((RdL.arg hr0_0) W2 hW2) A0_1 p0_l.fClaims.length c0_1 ys0_1 rfl ((RdL.arg hr0_1) W2 hW2) (NestL.at (NestL.arg hN0_1) W2 hW2)) ?_
   rintro ⟨A10,n12,c11⟩ hn13
   replace hn13 : n12 = y8.length:=hn13; subst hn13
   refine ox_y rfl (y_len (us:=[]) us_32 rfl) ?_
   refine ox_y rfl (y_move_int rfl) ?_
   refine ox_nil (ex_then (cx_block ?_))
   obtain ⟨u17,hl50,h⟩:=bind_some h
   refine cx_nilrow 3 1 ?_
   refine cx_nilrow 3 1 ?_
   refine cx_loop (fun (s:(Int × (List Int) × (List Int))) L tm => ∃ (tm0:Nat → Value) (A2_s:Option Addr) (c2_s:Nat) (n2_s:Nat) (A3_s:Option Addr) (c3_s:Nat) (n3_s:Nat),n2_s = s.2.1.length ∧ n3_s = s.2.2.length ∧ L = [cellsR b1 25 [.slice A0_0 p0_l.fNodes.length c0_0,.slice A0_1 p0_l.fClaims.length c0_1],rowR A10 c11 3 1 y8.length (encL cI y8),rowR A2_s c2_s 3 1 n2_s (encL cI s.2.1),rowR A3_s c3_s 3 1 n3_s (encL cI s.2.2)] ∧ tm = (upd (upd (upd (upd (upd (upd (upd (upd (upd (upd (upd (upd (upd (upd tm0 0 (.agg #[.slice A0_0 p0_l.fNodes.length c0_0,.slice A0_1 p0_l.fClaims.length c0_1])) 1 (.int .i64 p1_to)) 2 (.pointer (some ⟨b1,0,none⟩))) 4 (.slice none 0 0)) 5 (.slice none 0 0)) 6 (.int .i64 0)) 7 (.int .i64 y2)) 15 (.bool (y2 != 0))) 20 (.bool (decide (y5 < 0)))) 8 (.slice A2_s n2_s c2_s)) 9 (.slice A3_s n3_s c3_s)) 22 (.slice A10 y8.length c11)) 23 (.int .i64 (y8.length:Int))) 24 (.int .i64 s.1))) (fun s e L tm => e = .exit 0 ∧ ∃ (tm0:Nat → Value) (A2_s:Option Addr) (c2_s:Nat) (n2_s:Nat) (A3_s:Option Addr) (c3_s:Nat) (n3_s:Nat),n2_s = s.2.1.length ∧ n3_s = s.2.2.length ∧ L = [cellsR b1 25 [.slice A0_0 p0_l.fNodes.length c0_0,.slice A0_1 p0_l.fClaims.length c0_1],rowR A10 c11 3 1 y8.length (encL cI y8),rowR A2_s c2_s 3 1 n2_s (encL cI s.2.1),rowR A3_s c3_s 3 1 n3_s (encL cI s.2.2)] ∧ tm = (upd (upd (upd (upd (upd (upd (upd (upd (upd (upd (upd (upd (upd (upd tm0 0 (.agg #[.slice A0_0 p0_l.fNodes.length c0_0,.slice A0_1 p0_l.fClaims.length c0_1])) 1 (.int .i64 p1_to)) 2 (.pointer (some ⟨b1,0,none⟩))) 4 (.slice none 0 0)) 5 (.slice none 0 0)) 6 (.int .i64 0)) 7 (.int .i64 y2)) 15 (.bool (y2 != 0))) 20 (.bool (decide (y5 < 0)))) 8 (.slice A2_s n2_s c2_s)) 9 (.slice A3_s n3_s c3_s)) 22 (.slice A10 y8.length c11)) 23 (.int .i64 (y8.length:Int))) 24 (.int .i64 s.1))) hl50 ⟨_,none,0,0,none,0,0,rfl,rfl,rfl,(keep (keep (keep (keep (keep (keep (keep (keep (keep (keep (keep (keep (keep (keep rfl rfl) rfl) rfl) rfl) rfl) rfl) rfl) rfl) rfl) rfl) rfl) rfl) rfl) rfl)⟩ ?_ ?_
   ·rintro s16 L tm st ⟨tm0_s16,A2_s16,c2_s16,n2_s16,A3_s16,c3_s16,n3_s16,rfl,rfl,rfl,rfl⟩ h
    unfold recall_Origins_l1 at h
    refine cx_seq (cx_region ?_)
    refine ox_y rfl (y_lss rfl rfl) ?_
    refine ox_nil (ex_then (cx_seq ?_))
    rcases ite_some h with ⟨hp18,h⟩ | ⟨hp18,h⟩
    ·refine cx_true (congrArg Value.bool hp18) ?_
     refine cx_skip (ex_then (cx_seq (cx_block (cx_seq (cx_region ?_)))))
     obtain ⟨hg19,h⟩:=guardO_some h
     refine ox_y rfl (y_indexR sl_32 (by decide) hg19.1 hg19.2 (RdL.row 1 rfl) (encL_len cI_len rfl) rfl rfl) ?_
     refine ox_y rfl (y_loadR1 (A:=A10) (j:=(Int.toNat s16.1 * 1)) (v:=.int .i64 (rdL y8 s16.1)) sc_3 (RdL.row 1 rfl) rfl (encL_get0 cI_len hg19.1 (lt_nat hg19.2 rfl) rfl)) ?_
     refine ox_y rfl (y_assign_int rfl) ?_
     refine ox_nil (ex_then (cx_seq (cx_seq (cx_region ?_))))
     refine ox_y rfl (y_loadN 0 [.slice A0_0 p0_l.fNodes.length c0_0,.slice A0_1 p0_l.fClaims.length c0_1] ag_25 rfl rfl rfl) ?_
     refine ox_y rfl (y_move_int rfl) ?_
     refine ox_buildSliceE 1 (encL cI [(rdL y8 s16.1)]) _ mc_3_1 us_32 ze_3 by_3 (by decide) (by decide) (by kernel_rfl) (encL_len cI_len rfl) rfl (fun b20 => ?_)
     obtain ⟨y21,hy22,h⟩:=bind_some h
     refine ox_call1 [.agg #[.slice A0_0 p0_l.fNodes.length c0_0,.slice A0_1 p0_l.fClaims.length c0_1],.slice (some ⟨b20,0,none⟩) 1 1] _ _ rfl go_45 rfl (fun W2 hW2 => recall_sure_ok p0_l [(rdL y8 s16.1)] y21 hy22 W2 A0_0 p0_l.fNodes.length c0_0 rfl ((RdL.arg hr0_0) W2 hW2) A0_1 p0_l.fClaims.length c0_1 ys0_1 rfl ((RdL.arg hr0_1) W2 hW2) (NestL.at (NestL.arg hN0_1) W2 hW2) (some ⟨b20,0,none⟩) 1 1 rfl ((RdL.row 4 rfl) W2 hW2)) ?_
     rintro b23
     try dsimp only [lna,lca,lsz,lss]
     refine ox_y rfl (y_move_int rfl) ?_
     obtain ⟨hg24,h⟩:=guardO_some h
     refine ox_y rfl (y_lookupV (k:=p1_to) (MpL.own 5 rfl) ke_3 um_74 ze_4 rfl rfl hg24) ?_
     refine ox_nil (ex_then ?_)
     rcases ite_some h with ⟨hp25,h⟩ | ⟨hp25,h⟩
     ·refine cx_true (congrArg Value.bool hp25) ?_
      refine cx_region ?_
      refine ox_y rfl (y_move_slice rfl) ?_
      refine ox_y rfl (y_move_int rfl) ?_
      refine ox_buildSliceE 1 (encL cI [(rdL y8 s16.1)]) _ mc_3_1 us_32 ze_3 by_3 (by decide) (by decide) (by kernel_rfl) (encL_len cI_len rfl) rfl (fun b26 => ?_)
      try dsimp only [lna,lca,lsz,lss]
      obtain ⟨hg29,h⟩:=guardO_some h
      refine ox_append0 2 us_32 ze_3 by_3 rfl rfl rfl (RdL.row 6 rfl) (encL_len cI_len rfl) (encL_one cI_one _) (app_room hg29 (by decide)) rfl (fun A27 c28 => ?_)
      refine ox_y rfl (y_assign_slice rfl) ?_
      refine ox_nil (ex_then (cx_seq (cx_region ?_)))
      refine ox_y rfl (y_loadN 0 [.slice A0_0 p0_l.fNodes.length c0_0,.slice A0_1 p0_l.fClaims.length c0_1] ag_25 rfl rfl rfl) ?_
      refine ox_y rfl (y_move_int rfl) ?_
      refine ox_buildSliceE 1 (encL cI [(rdL y8 s16.1)]) _ mc_3_1 us_32 ze_3 by_3 (by decide) (by decide) (by kernel_rfl) (encL_len cI_len rfl) rfl (fun b30 => ?_)
      try dsimp only [lna,lca,lsz,lss]
      obtain ⟨y31,hy32,h⟩:=bind_some h
      refine ox_call1 [.agg #[.slice A0_0 p0_l.fNodes.length c0_0,.slice A0_1 p0_l.fClaims.length c0_1],.slice (some ⟨b30,0,none⟩) 1 1] _ _ rfl go_46 rfl (fun W2 hW2 => recall_possible_ok p0_l [(rdL y8 s16.1)] y31 hy32 W2 A0_0 p0_l.fNodes.length c0_0 rfl ((RdL.arg hr0_0) W2 hW2) A0_1 p0_l.fClaims.length c0_1 ys0_1 rfl ((RdL.arg hr0_1) W2 hW2) (NestL.at (NestL.arg hN0_1) W2 hW2) (some ⟨b30,0,none⟩) 1 1 rfl ((RdL.row 7 rfl) W2 hW2)) ?_
      rintro b33
      try dsimp only [lna,lca,lsz,lss]
      refine ox_y rfl (y_move_int rfl) ?_
      obtain ⟨hg34,h⟩:=guardO_some h
      refine ox_y rfl (y_lookupV (k:=p1_to) (MpL.own 8 rfl) ke_3 um_74 ze_4 rfl rfl hg34) ?_
      refine ox_nil (ex_then ?_)
      rcases ite_some h with ⟨hp35,h⟩ | ⟨hp35,h⟩
      ·refine cx_true (congrArg Value.bool hp35) ?_
       refine cx_region ?_
       refine ox_y rfl (y_move_slice rfl) ?_
       refine ox_y rfl (y_move_int rfl) ?_
       refine ox_buildSliceE 1 (encL cI [(rdL y8 s16.1)]) _ mc_3_1 us_32 ze_3 by_3 (by decide) (by decide) (by kernel_rfl) (encL_len cI_len rfl) rfl (fun b36 => ?_)
       try dsimp only [lna,lca,lsz,lss]
       obtain ⟨hg39,h⟩:=guardO_some h
       refine ox_append0 3 us_32 ze_3 by_3 rfl rfl rfl (RdL.row 9 rfl) (encL_len cI_len rfl) (encL_one cI_one _) (app_room hg39 (by decide)) rfl (fun A37 c38 => ?_)
       refine ox_y rfl (y_assign_slice rfl) ?_
       refine ox_nil ?_
       refine ex_block ?_
       refine ex_then (cx_region ?_)
       refine ox_y rfl (y_add rfl rfl) ?_
       refine ox_y rfl (y_move_int rfl) ?_
       refine ox_nil ?_
       refine ex_take 4 ?_
       obtain rfl:=Option.some.inj h
       exact ex_next ⟨_,A27,c28,(s16.2.1.length + 1),A37,c38,(s16.2.2.length + 1),(hn_app rfl rfl),(hn_app rfl rfl),rfl,(keep (keep (keep (keep (keep (keep (keep (keep (keep (keep (keep (keep (keep (keep rfl rfl) rfl) rfl) rfl) rfl) rfl) rfl) rfl) rfl) rfl) rfl) rfl) rfl) rfl)⟩
      ·refine cx_false (congrArg Value.bool hp35) ?_
       refine cx_skip ?_
       refine ex_block ?_
       refine ex_then (cx_region ?_)
       refine ox_y rfl (y_add rfl rfl) ?_
       refine ox_y rfl (y_move_int rfl) ?_
       refine ox_nil ?_
       refine ex_take 4 ?_
       obtain rfl:=Option.some.inj h
       exact ex_next ⟨_,A27,c28,(s16.2.1.length + 1),A3_s16,c3_s16,s16.2.2.length,(hn_app rfl rfl),rfl,rfl,(keep (keep (keep (keep (keep (keep (keep (keep (keep (keep (keep (keep (keep (keep rfl rfl) rfl) rfl) rfl) rfl) rfl) rfl) rfl) rfl) rfl) rfl) rfl) rfl) rfl)⟩
     ·refine cx_false (congrArg Value.bool hp25) ?_
      refine cx_skip (ex_then (cx_seq (cx_region ?_)))
      refine ox_y rfl (y_loadN 0 [.slice A0_0 p0_l.fNodes.length c0_0,.slice A0_1 p0_l.fClaims.length c0_1] ag_25 rfl rfl rfl) ?_
      refine ox_y rfl (y_move_int rfl) ?_
      refine ox_buildSliceE 1 (encL cI [(rdL y8 s16.1)]) _ mc_3_1 us_32 ze_3 by_3 (by decide) (by decide) (by kernel_rfl) (encL_len cI_len rfl) rfl (fun b40 => ?_)
      try dsimp only [lna,lca,lsz,lss]
      obtain ⟨y41,hy42,h⟩:=bind_some h
      refine ox_call1 [.agg #[.slice A0_0 p0_l.fNodes.length c0_0,.slice A0_1 p0_l.fClaims.length c0_1],.slice (some ⟨b40,0,none⟩) 1 1] _ _ rfl go_46 rfl (fun W2 hW2 => recall_possible_ok p0_l [(rdL y8 s16.1)] y41 hy42 W2 A0_0 p0_l.fNodes.length c0_0 rfl ((RdL.arg hr0_0) W2 hW2) A0_1 p0_l.fClaims.length c0_1 ys0_1 rfl ((RdL.arg hr0_1) W2 hW2) (NestL.at (NestL.arg hN0_1) W2 hW2) (some ⟨b40,0,none⟩) 1 1 rfl ((RdL.row 6 rfl) W2 hW2)) ?_
      rintro b43
      try dsimp only [lna,lca,lsz,lss]
      refine ox_y rfl (y_move_int rfl) ?_
      obtain ⟨hg44,h⟩:=guardO_some h
      refine ox_y rfl (y_lookupV (k:=p1_to) (MpL.own 7 rfl) ke_3 um_74 ze_4 rfl rfl hg44) ?_
      refine ox_nil (ex_then ?_)
      rcases ite_some h with ⟨hp45,h⟩ | ⟨hp45,h⟩
      ·refine cx_true (congrArg Value.bool hp45) ?_
       refine cx_region ?_
       refine ox_y rfl (y_move_slice rfl) ?_
       refine ox_y rfl (y_move_int rfl) ?_
       refine ox_buildSliceE 1 (encL cI [(rdL y8 s16.1)]) _ mc_3_1 us_32 ze_3 by_3 (by decide) (by decide) (by kernel_rfl) (encL_len cI_len rfl) rfl (fun b46 => ?_)
       try dsimp only [lna,lca,lsz,lss]
       obtain ⟨hg49,h⟩:=guardO_some h
       refine ox_append0 3 us_32 ze_3 by_3 rfl rfl rfl (RdL.row 8 rfl) (encL_len cI_len rfl) (encL_one cI_one _) (app_room hg49 (by decide)) rfl (fun A47 c48 => ?_)
       refine ox_y rfl (y_assign_slice rfl) ?_
       refine ox_nil ?_
       refine ex_block ?_
       refine ex_then (cx_region ?_)
       refine ox_y rfl (y_add rfl rfl) ?_
       refine ox_y rfl (y_move_int rfl) ?_
       refine ox_nil ?_
       refine ex_take 4 ?_
       obtain rfl:=Option.some.inj h
       exact ex_next ⟨_,A2_s16,c2_s16,s16.2.1.length,A47,c48,(s16.2.2.length + 1),rfl,(hn_app rfl rfl),rfl,(keep (keep (keep (keep (keep (keep (keep (keep (keep (keep (keep (keep (keep (keep rfl rfl) rfl) rfl) rfl) rfl) rfl) rfl) rfl) rfl) rfl) rfl) rfl) rfl) rfl)⟩
      ·refine cx_false (congrArg Value.bool hp45) ?_
       refine cx_skip ?_
       refine ex_block ?_
       refine ex_then (cx_region ?_)
       refine ox_y rfl (y_add rfl rfl) ?_
       refine ox_y rfl (y_move_int rfl) ?_
       refine ox_nil ?_
       refine ex_take 4 ?_
       obtain rfl:=Option.some.inj h
       exact ex_next ⟨_,A2_s16,c2_s16,s16.2.1.length,A3_s16,c3_s16,s16.2.2.length,rfl,rfl,rfl,(keep (keep (keep (keep (keep (keep (keep (keep (keep (keep (keep (keep (keep (keep rfl rfl) rfl) rfl) rfl) rfl) rfl) rfl) rfl) rfl) rfl) rfl) rfl) rfl) rfl)⟩
    ·refine cx_false (congrArg Value.bool hp18) ?_
     refine cx_exit ?_
     refine ex_then_exit ?_
     obtain rfl:=Option.some.inj h
     exact ex_stop ⟨rfl,_,A2_s16,c2_s16,s16.2.1.length,A3_s16,c3_s16,s16.2.2.length,rfl,rfl,rfl,(keep (keep (keep (keep (keep (keep (keep (keep (keep (keep (keep (keep (keep (keep rfl rfl) rfl) rfl) rfl) rfl) rfl) rfl) rfl) rfl) rfl) rfl) rfl) rfl) rfl)⟩
   ·intro e L tm hJ
    obtain ⟨rfl,tm0_u17,A2_u17,c2_u17,n2_u17,A3_u17,c3_u17,n3_u17,rfl,rfl,rfl,rfl⟩:=hJ
    refine ⟨(by intro hc; cases hc),?_⟩
    refine ex_block_here ?_
    refine ex_then (cx_seq (cx_region ?_))
    refine ox_y rfl (y_move_slice rfl) ?_
    refine ox_y rfl (y_move_slice rfl) ?_
    refine ox_y rfl (y_assign_slice rfl) ?_
    refine ox_y rfl (y_assign_slice rfl) ?_
    refine ox_y rfl (y_assign_int rfl) ?_
    refine ox_nil (ex_then (cx_ret ?_))
    obtain rfl:=Option.some.inj h
    exact ex_res3 (.inl rfl) rfl (resV_tmp (v:=.slice A2_u17 u17.2.1.length c2_u17) rfl) (resV_tmp (v:=.slice A3_u17 u17.2.2.length c3_u17) rfl) (resV_tmp (v:=.int .i64 0) rfl) (fun W2 hW2 => ⟨((A2_u17,u17.2.1.length,c2_u17),(A3_u17,u17.2.2.length,c3_u17)),⟨rfl,rfl⟩,rfl,hW2.pickL [2,3] (by decide) rfl⟩)

theorem calxlaw09_head_ok  (res:Bool) (h:calxlaw09_head = some res) (W:World)  :
  Calls Try.prog 10 [].toArray W fun e W2 => e = .returned (.bool res) ∧ Ext W W2 []:=by
 unfold calxlaw09_head at h
 refine calls_enter (m:=188) Try.func10 rfl rfl (Nat.le_of_ble_eq_true rfl) ?_
 refine cx_seq (cx_region ?_)
 refine ox_y rfl (y_assign_bool rfl) ?_
 refine ox_nil (ex_then (cx_seq (cx_region ?_)))
 obtain ⟨y1,hy2,h⟩:=bind_some h
 refine ox_call [] _ _ _ rfl go_29 rfl (fun W2 hW2 => calxlaw09_Example_ok  y1 hy2 W2 W (fun _ => True) (fun W3 hb => ⟨belowT hW2.below hb,trivial⟩) ) ?_
 rintro ⟨⟨A7,n9,c8⟩,⟨A11,n13,c12⟩,ys16,F17⟩ ⟨hn10,hn14,hP15,hV18⟩
 replace hn10 : n9 = y1.fNodes.length:=hn10; subst hn10
 replace hn14 : n13 = y1.fClaims.length:=hn14; subst hn14
 refine ox_alloc ze_25 rfl (fun b19 => ?_)
 refine ox_n rfl (y_storeN 3 [.slice A7 y1.fNodes.length c8,.slice A11 y1.fClaims.length c12] sz_25 rfl (Nat.le_of_ble_eq_true rfl) rfl rfl rfl) ?_
 refine ox_nil (ex_then (cx_seq (cx_region ?_)))
 refine ox_y rfl (y_loadN 3 [.slice A7 y1.fNodes.length c8,.slice A11 y1.fClaims.length c12] ag_25 rfl rfl rfl) ?_
 obtain ⟨y20,hy21,h⟩:=bind_some h
 refine ox_y rfl (y_call [.agg #[.slice A7 y1.fNodes.length c8,.slice A11 y1.fClaims.length c12]] go_12 rfl (fun W2 hW2 => recall_Cases_ok y1 y20 hy21 W2 A7 y1.fNodes.length c8 rfl ((RdL.row 0 rfl) W2 hW2) A11 y1.fClaims.length c12 ys16 rfl ((RdL.row 1 rfl) W2 hW2) (NestL.at (PvL.nestL hP15 hV18 (fun W2 hW2 => ⟨hW2.below,trivial,hW2.mem (i:=2) rfl⟩)) W2 hW2)) rfl) ?_
 refine ox_y rfl (y_move_tuple rfl) ?_
 refine ox_y rfl (y_extract (vs:=[.int .i64 y20.1,.int .i64 y20.2]) (v:=.int .i64 y20.1) rfl rfl) ?_
 refine ox_y rfl (y_extract (vs:=[.int .i64 y20.1,.int .i64 y20.2]) (v:=.int .i64 y20.2) rfl rfl) ?_
 refine ox_y rfl (y_assign_int rfl) ?_
 refine ox_y rfl (y_assign_int rfl) ?_
 refine ox_nil (ex_then (cx_seq (cx_region ?_)))
 refine ox_y rfl (y_loadN 3 [.slice A7 y1.fNodes.length c8,.slice A11 y1.fClaims.length c12] ag_25 rfl rfl rfl) ?_
 refine ox_buildSliceE 1 (encL cI [1]) _ mc_3_1 us_32 ze_3 by_3 (by decide) (by decide) (by kernel_rfl) (encL_len cI_len rfl) rfl (fun b22 => ?_)
 obtain ⟨y23,hy24,h⟩:=bind_some h
 refine ox_call [.agg #[.slice A7 y1.fNodes.length c8,.slice A11 y1.fClaims.length c12],.slice (some ⟨b22,0,none⟩) 1 1] _ _ _ rfl go_16 rfl (fun W2 hW2 => recall_Surely_ok y1 [1] y23 hy24 W2 A7 y1.fNodes.length c8 rfl ((RdL.row 0 rfl) W2 hW2) A11 y1.fClaims.length c12 ys16 rfl ((RdL.row 1 rfl) W2 hW2) (NestL.at (PvL.nestL hP15 hV18 (fun W2 hW2 => ⟨hW2.below,trivial,hW2.mem (i:=2) rfl⟩)) W2 hW2) (some ⟨b22,0,none⟩) 1 1 rfl ((RdL.row 4 rfl) W2 hW2)) ?_
 rintro ⟨A25,n27,c26⟩ hn28
 replace hn28 : n27 = y23.1.length:=hn28; subst hn28
 try dsimp only [lna,lca,lsz,lss]
 refine ox_y rfl (y_move_tuple rfl) ?_
 refine ox_y rfl (y_extract (vs:=[.slice A25 y23.1.length c26,.int .i64 y23.2]) (v:=.slice A25 y23.1.length c26) rfl rfl) ?_
 refine ox_y rfl (y_extract (vs:=[.slice A25 y23.1.length c26,.int .i64 y23.2]) (v:=.int .i64 y23.2) rfl rfl) ?_
 refine ox_y rfl (y_assign_slice rfl) ?_
 refine ox_y rfl (y_assign_int rfl) ?_
 refine ox_nil (ex_then (cx_seq (cx_region ?_)))
 refine ox_y rfl (y_loadN 3 [.slice A7 y1.fNodes.length c8,.slice A11 y1.fClaims.length c12] ag_25 rfl rfl rfl) ?_
 refine ox_buildSliceE 1 (encL cI [2]) _ mc_3_1 us_32 ze_3 by_3 (by decide) (by decide) (by kernel_rfl) (encL_len cI_len rfl) rfl (fun b29 => ?_)
 try dsimp only [lna,lca,lsz,lss]
 obtain ⟨y30,hy31,h⟩:=bind_some h
 refine ox_call [.agg #[.slice A7 y1.fNodes.length c8,.slice A11 y1.fClaims.length c12],.slice (some ⟨b29,0,none⟩) 1 1] _ _ _ rfl go_17 rfl (fun W2 hW2 => recall_Possibly_ok y1 [2] y30 hy31 W2 A7 y1.fNodes.length c8 rfl ((RdL.row 0 rfl) W2 hW2) A11 y1.fClaims.length c12 ys16 rfl ((RdL.row 1 rfl) W2 hW2) (NestL.at (PvL.nestL hP15 hV18 (fun W2 hW2 => ⟨hW2.below,trivial,hW2.mem (i:=2) rfl⟩)) W2 hW2) (some ⟨b29,0,none⟩) 1 1 rfl ((RdL.row 6 rfl) W2 hW2)) ?_
 rintro ⟨A32,n34,c33⟩ hn35
 replace hn35 : n34 = y30.1.length:=hn35; subst hn35
 try dsimp only [lna,lca,lsz,lss]
 refine ox_y rfl (y_move_tuple rfl) ?_
 refine ox_y rfl (y_extract (vs:=[.slice A32 y30.1.length c33,.int .i64 y30.2]) (v:=.slice A32 y30.1.length c33) rfl rfl) ?_
 refine ox_y rfl (y_extract (vs:=[.slice A32 y30.1.length c33,.int .i64 y30.2]) (v:=.int .i64 y30.2) rfl rfl) ?_
 refine ox_y rfl (y_assign_slice rfl) ?_
 refine ox_y rfl (y_assign_int rfl) ?_
 refine ox_nil (ex_then (cx_seq (cx_region ?_)))
 refine ox_y rfl (y_loadN 3 [.slice A7 y1.fNodes.length c8,.slice A11 y1.fClaims.length c12] ag_25 rfl rfl rfl) ?_
 refine ox_buildSliceE 1 (encL cI [1]) _ mc_3_1 us_32 ze_3 by_3 (by decide) (by decide) (by kernel_rfl) (encL_len cI_len rfl) rfl (fun b36 => ?_)
 try dsimp only [lna,lca,lsz,lss]
 obtain ⟨y37,hy38,h⟩:=bind_some h
 refine ox_call [.agg #[.slice A7 y1.fNodes.length c8,.slice A11 y1.fClaims.length c12],.slice (some ⟨b36,0,none⟩) 1 1,.int .i64 6] _ _ _ rfl go_30 rfl (fun W2 hW2 => recall_Hangs_ok y1 [1] 6 y37 hy38 W2 A7 y1.fNodes.length c8 rfl ((RdL.row 0 rfl) W2 hW2) A11 y1.fClaims.length c12 ys16 rfl ((RdL.row 1 rfl) W2 hW2) (NestL.at (PvL.nestL hP15 hV18 (fun W2 hW2 => ⟨hW2.below,trivial,hW2.mem (i:=2) rfl⟩)) W2 hW2) (some ⟨b36,0,none⟩) 1 1 rfl ((RdL.row 8 rfl) W2 hW2)) ?_
 rintro ⟨A39,n41,c40⟩ hn42
 replace hn42 : n41 = y37.1.length:=hn42; subst hn42
 try dsimp only [lna,lca,lsz,lss]
 refine ox_y rfl (y_move_tuple rfl) ?_
 refine ox_y rfl (y_extract (vs:=[.slice A39 y37.1.length c40,.int .i64 y37.2]) (v:=.slice A39 y37.1.length c40) rfl rfl) ?_
 refine ox_y rfl (y_extract (vs:=[.slice A39 y37.1.length c40,.int .i64 y37.2]) (v:=.int .i64 y37.2) rfl rfl) ?_
 refine ox_y rfl (y_assign_slice rfl) ?_
 refine ox_y rfl (y_assign_int rfl) ?_
 refine ox_nil (ex_then (cx_seq (cx_region ?_)))
 refine ox_y rfl (y_loadN 3 [.slice A7 y1.fNodes.length c8,.slice A11 y1.fClaims.length c12] ag_25 rfl rfl rfl) ?_
 refine ox_buildSliceE 1 (encL cI [1]) _ mc_3_1 us_32 ze_3 by_3 (by decide) (by decide) (by kernel_rfl) (encL_len cI_len rfl) rfl (fun b43 => ?_)
 try dsimp only [lna,lca,lsz,lss]
 obtain ⟨y44,hy45,h⟩:=bind_some h
 refine ox_call [.agg #[.slice A7 y1.fNodes.length c8,.slice A11 y1.fClaims.length c12],.slice (some ⟨b43,0,none⟩) 1 1,.int .i64 6] _ _ _ rfl go_31 rfl (fun W2 hW2 => recall_Gates_ok y1 [1] 6 y44 hy45 W2 A7 y1.fNodes.length c8 rfl ((RdL.row 0 rfl) W2 hW2) A11 y1.fClaims.length c12 ys16 rfl ((RdL.row 1 rfl) W2 hW2) (NestL.at (PvL.nestL hP15 hV18 (fun W2 hW2 => ⟨hW2.below,trivial,hW2.mem (i:=2) rfl⟩)) W2 hW2) (some ⟨b43,0,none⟩) 1 1 rfl ((RdL.row 10 rfl) W2 hW2)) ?_
 rintro ⟨A46,n48,c47⟩ hn49
 replace hn49 : n48 = y44.1.length:=hn49; subst hn49
 try dsimp only [lna,lca,lsz,lss]
 refine ox_y rfl (y_move_tuple rfl) ?_
 refine ox_y rfl (y_extract (vs:=[.slice A46 y44.1.length c47,.int .i64 y44.2]) (v:=.slice A46 y44.1.length c47) rfl rfl) ?_
 refine ox_y rfl (y_extract (vs:=[.slice A46 y44.1.length c47,.int .i64 y44.2]) (v:=.int .i64 y44.2) rfl rfl) ?_
 refine ox_y rfl (y_assign_slice rfl) ?_
 refine ox_y rfl (y_assign_int rfl) ?_
 refine ox_nil (ex_then (cx_seq (cx_region ?_)))
 refine ox_y rfl (y_loadN 3 [.slice A7 y1.fNodes.length c8,.slice A11 y1.fClaims.length c12] ag_25 rfl rfl rfl) ?_
 refine ox_buildSliceE 1 (encL cI [1]) _ mc_3_1 us_32 ze_3 by_3 (by decide) (by decide) (by kernel_rfl) (encL_len cI_len rfl) rfl (fun b50 => ?_)
 try dsimp only [lna,lca,lsz,lss]
 obtain ⟨y51,hy52,h⟩:=bind_some h
 refine ox_call [.agg #[.slice A7 y1.fNodes.length c8,.slice A11 y1.fClaims.length c12],.slice (some ⟨b50,0,none⟩) 1 1,.int .i64 5] _ _ _ rfl go_26 rfl (fun W2 hW2 => recall_Cut_ok y1 [1] 5 y51 hy52 W2 A7 y1.fNodes.length c8 rfl ((RdL.row 0 rfl) W2 hW2) A11 y1.fClaims.length c12 ys16 rfl ((RdL.row 1 rfl) W2 hW2) (NestL.at (PvL.nestL hP15 hV18 (fun W2 hW2 => ⟨hW2.below,trivial,hW2.mem (i:=2) rfl⟩)) W2 hW2) (some ⟨b50,0,none⟩) 1 1 rfl ((RdL.row 12 rfl) W2 hW2)) ?_
 rintro ⟨A53,n55,c54⟩ hn56
 replace hn56 : n55 = y51.1.length:=hn56; subst hn56
 try dsimp only [lna,lca,lsz,lss]
 refine ox_y rfl (y_move_tuple rfl) ?_
 refine ox_y rfl (y_extract (vs:=[.slice A53 y51.1.length c54,.int .i64 y51.2]) (v:=.slice A53 y51.1.length c54) rfl rfl) ?_
 refine ox_y rfl (y_extract (vs:=[.slice A53 y51.1.length c54,.int .i64 y51.2]) (v:=.int .i64 y51.2) rfl rfl) ?_
 refine ox_y rfl (y_assign_slice rfl) ?_
 refine ox_y rfl (y_assign_int rfl) ?_
 refine ox_nil (ex_then (cx_seq (cx_region ?_)))
 refine ox_y rfl (y_loadN 3 [.slice A7 y1.fNodes.length c8,.slice A11 y1.fClaims.length c12] ag_25 rfl rfl rfl) ?_
 refine ox_buildSliceE 1 (encL cI [2]) _ mc_3_1 us_32 ze_3 by_3 (by decide) (by decide) (by kernel_rfl) (encL_len cI_len rfl) rfl (fun b57 => ?_)
 try dsimp only [lna,lca,lsz,lss]
 obtain ⟨y58,hy59,h⟩:=bind_some h
 refine ox_y rfl (y_call [.agg #[.slice A7 y1.fNodes.length c8,.slice A11 y1.fClaims.length c12],.slice (some ⟨b57,0,none⟩) 1 1,.int .i64 5] go_19 rfl (fun W2 hW2 => recall_Share_ok y1 [2] 5 y58 hy59 W2 A7 y1.fNodes.length c8 rfl ((RdL.row 0 rfl) W2 hW2) A11 y1.fClaims.length c12 ys16 rfl ((RdL.row 1 rfl) W2 hW2) (NestL.at (PvL.nestL hP15 hV18 (fun W2 hW2 => ⟨hW2.below,trivial,hW2.mem (i:=2) rfl⟩)) W2 hW2) (some ⟨b57,0,none⟩) 1 1 rfl ((RdL.row 14 rfl) W2 hW2)) rfl) ?_
 refine ox_y rfl (y_move_tuple rfl) ?_
 refine ox_y rfl (y_extract (vs:=[.agg #[.int .i64 y58.1.fNum,.int .i64 y58.1.fDen],.int .i64 y58.2]) (v:=.agg #[.int .i64 y58.1.fNum,.int .i64 y58.1.fDen]) rfl rfl) ?_
 refine ox_y rfl (y_extract (vs:=[.agg #[.int .i64 y58.1.fNum,.int .i64 y58.1.fDen],.int .i64 y58.2]) (v:=.int .i64 y58.2) rfl rfl) ?_
 refine ox_alloc ze_43 rfl (fun b60 => ?_)
 try dsimp only [lna,lca,lsz,lss]
 refine ox_n rfl (y_storeN 15 [.int .i64 y58.1.fNum,.int .i64 y58.1.fDen] sz_43 rfl (Nat.le_of_ble_eq_true rfl) rfl rfl rfl) ?_
 refine ox_y rfl (y_assign_int rfl) ?_
 refine ox_nil (ex_then (cx_seq (cx_region ?_)))
 refine ox_y rfl (y_loadN 3 [.slice A7 y1.fNodes.length c8,.slice A11 y1.fClaims.length c12] ag_25 rfl rfl rfl) ?_
 refine ox_buildSliceE 1 (encL cI [1]) _ mc_3_1 us_32 ze_3 by_3 (by decide) (by decide) (by kernel_rfl) (encL_len cI_len rfl) rfl (fun b61 => ?_)
 try dsimp only [lna,lca,lsz,lss]
 obtain ⟨y62,hy63,h⟩:=bind_some h
 refine ox_call [.agg #[.slice A7 y1.fNodes.length c8,.slice A11 y1.fClaims.length c12],.slice (some ⟨b61,0,none⟩) 1 1,.bool false] _ _ _ rfl go_23 rfl (fun W2 hW2 => recall_Recall_ok y1 [1] false y62 hy63 W2 A7 y1.fNodes.length c8 rfl ((RdL.row 0 rfl) W2 hW2) A11 y1.fClaims.length c12 ys16 rfl ((RdL.row 1 rfl) W2 hW2) (NestL.at (PvL.nestL hP15 hV18 (fun W2 hW2 => ⟨hW2.below,trivial,hW2.mem (i:=2) rfl⟩)) W2 hW2) (some ⟨b61,0,none⟩) 1 1 rfl ((RdL.row 16 rfl) W2 hW2)) ?_
 rintro ⟨A64,n66,c65⟩ hn67
 replace hn67 : n66 = y62.1.length:=hn67; subst hn67
 try dsimp only [lna,lca,lsz,lss]
 refine ox_y rfl (y_move_tuple rfl) ?_
 refine ox_y rfl (y_extract (vs:=[.slice A64 y62.1.length c65,.int .i64 y62.2.1,.int .i64 y62.2.2]) (v:=.slice A64 y62.1.length c65) rfl rfl) ?_
 refine ox_y rfl (y_extract (vs:=[.slice A64 y62.1.length c65,.int .i64 y62.2.1,.int .i64 y62.2.2]) (v:=.int .i64 y62.2.1) rfl rfl) ?_
 refine ox_y rfl (y_extract (vs:=[.slice A64 y62.1.length c65,.int .i64 y62.2.1,.int .i64 y62.2.2]) (v:=.int .i64 y62.2.2) rfl rfl) ?_
 refine ox_y rfl (y_assign_slice rfl) ?_
 refine ox_y rfl (y_assign_int rfl) ?_
 refine ox_y rfl (y_assign_int rfl) ?_
 refine ox_nil (ex_then (cx_seq (cx_region ?_)))
 refine ox_y rfl (y_loadN 3 [.slice A7 y1.fNodes.length c8,.slice A11 y1.fClaims.length c12] ag_25 rfl rfl rfl) ?_
 refine ox_buildSliceE 1 (encL cI [1]) _ mc_3_1 us_32 ze_3 by_3 (by decide) (by decide) (by kernel_rfl) (encL_len cI_len rfl) rfl (fun b68 => ?_)
 try dsimp only [lna,lca,lsz,lss]
 obtain ⟨y69,hy70,h⟩:=bind_some h
 refine ox_y rfl (y_call [.agg #[.slice A7 y1.fNodes.length c8,.slice A11 y1.fClaims.length c12],.slice (some ⟨b68,0,none⟩) 1 1] go_24 rfl (fun W2 hW2 => recall_Ask_ok y1 [1] y69 hy70 W2 A7 y1.fNodes.length c8 rfl ((RdL.row 0 rfl) W2 hW2) A11 y1.fClaims.length c12 ys16 rfl ((RdL.row 1 rfl) W2 hW2) (NestL.at (PvL.nestL hP15 hV18 (fun W2 hW2 => ⟨hW2.below,trivial,hW2.mem (i:=2) rfl⟩)) W2 hW2) (some ⟨b68,0,none⟩) 1 1 rfl ((RdL.row 18 rfl) W2 hW2)) rfl) ?_
 refine ox_y rfl (y_move_tuple rfl) ?_
 refine ox_y rfl (y_extract (vs:=[.int .i64 y69.1,.int .i64 y69.2.1,.int .i64 y69.2.2]) (v:=.int .i64 y69.1) rfl rfl) ?_
 refine ox_y rfl (y_extract (vs:=[.int .i64 y69.1,.int .i64 y69.2.1,.int .i64 y69.2.2]) (v:=.int .i64 y69.2.1) rfl rfl) ?_
 refine ox_y rfl (y_extract (vs:=[.int .i64 y69.1,.int .i64 y69.2.1,.int .i64 y69.2.2]) (v:=.int .i64 y69.2.2) rfl rfl) ?_
 refine ox_y rfl (y_assign_int rfl) ?_
 refine ox_y rfl (y_assign_int rfl) ?_
 refine ox_y rfl (y_assign_int rfl) ?_
 refine ox_nil (ex_then (cx_seq (cx_region ?_)))
 refine ox_y rfl (y_loadN 3 [.slice A7 y1.fNodes.length c8,.slice A11 y1.fClaims.length c12] ag_25 rfl rfl rfl) ?_
 obtain ⟨y71,hy72,h⟩:=bind_some h
 refine ox_call [.agg #[.slice A7 y1.fNodes.length c8,.slice A11 y1.fClaims.length c12],.int .i64 5] _ _ _ rfl go_32 rfl (fun W2 hW2 => recall_Origins_ok y1 5 y71 hy72 W2 A7 y1.fNodes.length c8 rfl ((RdL.row 0 rfl) W2 hW2) A11 y1.fClaims.length c12 ys16 rfl ((RdL.row 1 rfl) W2 hW2) (NestL.at (PvL.nestL hP15 hV18 (fun W2 hW2 => ⟨hW2.below,trivial,hW2.mem (i:=2) rfl⟩)) W2 hW2)) ?_
 rintro ⟨⟨A73,n77,c74⟩,⟨A75,n79,c76⟩⟩ ⟨hn78,hn80⟩
 replace hn78 : n77 = y71.1.length:=hn78; subst hn78
 replace hn80 : n79 = y71.2.1.length:=hn80; subst hn80
 try dsimp only [lna,lca,lsz,lss]
 refine ox_y rfl (y_move_tuple rfl) ?_
 refine ox_y rfl (y_extract (vs:=[.slice A73 y71.1.length c74,.slice A75 y71.2.1.length c76,.int .i64 y71.2.2]) (v:=.slice A73 y71.1.length c74) rfl rfl) ?_
 refine ox_y rfl (y_extract (vs:=[.slice A73 y71.1.length c74,.slice A75 y71.2.1.length c76,.int .i64 y71.2.2]) (v:=.slice A75 y71.2.1.length c76) rfl rfl) ?_
 refine ox_y rfl (y_extract (vs:=[.slice A73 y71.1.length c74,.slice A75 y71.2.1.length c76,.int .i64 y71.2.2]) (v:=.int .i64 y71.2.2) rfl rfl) ?_
 refine ox_y rfl (y_assign_slice rfl) ?_
 refine ox_y rfl (y_assign_slice rfl) ?_
 refine ox_y rfl (y_assign_int rfl) ?_
 refine ox_nil (ex_then (cx_seq (cx_seq (cx_region ?_))))
 refine ox_y rfl (y_move_int rfl) ?_
 refine ox_y rfl (y_neq rfl rfl) ?_
 refine ox_y rfl (y_move_bool rfl) ?_
 refine ox_join 3 (fun tm0 => (upd (upd (upd (upd (upd (upd (upd (upd (upd (upd (upd (upd (upd (upd (upd (upd (upd (upd (upd (upd (upd (upd (upd tm0 0 (.bool false)) 2 (.int .i64 y20.1)) 4 (.slice A25 y23.1.length c26)) 6 (.slice A32 y30.1.length c33)) 7 (.int .i64 y30.2)) 8 (.slice A39 y37.1.length c40)) 9 (.int .i64 y37.2)) 10 (.slice A46 y44.1.length c47)) 11 (.int .i64 y44.2)) 12 (.slice A53 y51.1.length c54)) 13 (.int .i64 y51.2)) 14 (.pointer (some ⟨b60,0,none⟩))) 15 (.int .i64 y58.2)) 16 (.slice A64 y62.1.length c65)) 17 (.int .i64 y62.2.1)) 18 (.int .i64 y62.2.2)) 19 (.int .i64 y69.1)) 20 (.int .i64 y69.2.1)) 21 (.int .i64 y69.2.2)) 22 (.slice A73 y71.1.length c74)) 23 (.slice A75 y71.2.1.length c76)) 24 (.int .i64 y71.2.2)) 94 (.bool ((y20.2 != 0) || (y23.2 != 0))))) (fun tm0 => ?_) (fun key => ?_)
 ·refine ox_y rfl (y_move_bool rfl) ?_
  refine ox_join 3 (fun tm0 => (upd (upd (upd (upd (upd (upd (upd (upd (upd (upd (upd (upd (upd (upd (upd (upd (upd (upd (upd (upd (upd (upd tm0 0 (.bool false)) 2 (.int .i64 y20.1)) 4 (.slice A25 y23.1.length c26)) 6 (.slice A32 y30.1.length c33)) 8 (.slice A39 y37.1.length c40)) 9 (.int .i64 y37.2)) 10 (.slice A46 y44.1.length c47)) 11 (.int .i64 y44.2)) 12 (.slice A53 y51.1.length c54)) 13 (.int .i64 y51.2)) 14 (.pointer (some ⟨b60,0,none⟩))) 15 (.int .i64 y58.2)) 16 (.slice A64 y62.1.length c65)) 17 (.int .i64 y62.2.1)) 18 (.int .i64 y62.2.2)) 19 (.int .i64 y69.1)) 20 (.int .i64 y69.2.1)) 21 (.int .i64 y69.2.2)) 22 (.slice A73 y71.1.length c74)) 23 (.slice A75 y71.2.1.length c76)) 24 (.int .i64 y71.2.2)) 98 (.bool (((y20.2 != 0) || (y23.2 != 0)) || (y30.2 != 0))))) (fun tm0 => ?_) (fun key => ?_)
  ·refine ox_y rfl (y_move_bool rfl) ?_
   refine ox_join 3 (fun tm0 => (upd (upd (upd (upd (upd (upd (upd (upd (upd (upd (upd (upd (upd (upd (upd (upd (upd (upd (upd (upd (upd tm0 0 (.bool false)) 2 (.int .i64 y20.1)) 4 (.slice A25 y23.1.length c26)) 6 (.slice A32 y30.1.length c33)) 8 (.slice A39 y37.1.length c40)) 10 (.slice A46 y44.1.length c47)) 11 (.int .i64 y44.2)) 12 (.slice A53 y51.1.length c54)) 13 (.int .i64 y51.2)) 14 (.pointer (some ⟨b60,0,none⟩))) 15 (.int .i64 y58.2)) 16 (.slice A64 y62.1.length c65)) 17 (.int .i64 y62.2.1)) 18 (.int .i64 y62.2.2)) 19 (.int .i64 y69.1)) 20 (.int .i64 y69.2.1)) 21 (.int .i64 y69.2.2)) 22 (.slice A73 y71.1.length c74)) 23 (.slice A75 y71.2.1.length c76)) 24 (.int .i64 y71.2.2)) 102 (.bool ((((y20.2 != 0) || (y23.2 != 0)) || (y30.2 != 0)) || (y37.2 != 0))))) (fun tm0 => ?_) (fun key => ?_)
   ·refine ox_y rfl (y_move_bool rfl) ?_
    refine ox_join 3 (fun tm0 => (upd (upd (upd (upd (upd (upd (upd (upd (upd (upd (upd (upd (upd (upd (upd (upd (upd (upd (upd (upd tm0 0 (.bool false)) 2 (.int .i64 y20.1)) 4 (.slice A25 y23.1.length c26)) 6 (.slice A32 y30.1.length c33)) 8 (.slice A39 y37.1.length c40)) 10 (.slice A46 y44.1.length c47)) 12 (.slice A53 y51.1.length c54)) 13 (.int .i64 y51.2)) 14 (.pointer (some ⟨b60,0,none⟩))) 15 (.int .i64 y58.2)) 16 (.slice A64 y62.1.length c65)) 17 (.int .i64 y62.2.1)) 18 (.int .i64 y62.2.2)) 19 (.int .i64 y69.1)) 20 (.int .i64 y69.2.1)) 21 (.int .i64 y69.2.2)) 22 (.slice A73 y71.1.length c74)) 23 (.slice A75 y71.2.1.length c76)) 24 (.int .i64 y71.2.2)) 106 (.bool (((((y20.2 != 0) || (y23.2 != 0)) || (y30.2 != 0)) || (y37.2 != 0)) || (y44.2 != 0))))) (fun tm0 => ?_) (fun key => ?_)
    ·refine ox_y rfl (y_move_bool rfl) ?_
     refine ox_join 3 (fun tm0 => (upd (upd (upd (upd (upd (upd (upd (upd (upd (upd (upd (upd (upd (upd (upd (upd (upd (upd (upd tm0 0 (.bool false)) 2 (.int .i64 y20.1)) 4 (.slice A25 y23.1.length c26)) 6 (.slice A32 y30.1.length c33)) 8 (.slice A39 y37.1.length c40)) 10 (.slice A46 y44.1.length c47)) 12 (.slice A53 y51.1.length c54)) 14 (.pointer (some ⟨b60,0,none⟩))) 15 (.int .i64 y58.2)) 16 (.slice A64 y62.1.length c65)) 17 (.int .i64 y62.2.1)) 18 (.int .i64 y62.2.2)) 19 (.int .i64 y69.1)) 20 (.int .i64 y69.2.1)) 21 (.int .i64 y69.2.2)) 22 (.slice A73 y71.1.length c74)) 23 (.slice A75 y71.2.1.length c76)) 24 (.int .i64 y71.2.2)) 110 (.bool ((((((y20.2 != 0) || (y23.2 != 0)) || (y30.2 != 0)) || (y37.2 != 0)) || (y44.2 != 0)) || (y51.2 != 0))))) (fun tm0 => ?_) (fun key => ?_)
     ·refine ox_y rfl (y_move_bool rfl) ?_
      refine ox_join 3 (fun tm0 => (upd (upd (upd (upd (upd (upd (upd (upd (upd (upd (upd (upd (upd (upd (upd (upd (upd (upd tm0 0 (.bool false)) 2 (.int .i64 y20.1)) 4 (.slice A25 y23.1.length c26)) 6 (.slice A32 y30.1.length c33)) 8 (.slice A39 y37.1.length c40)) 10 (.slice A46 y44.1.length c47)) 12 (.slice A53 y51.1.length c54)) 14 (.pointer (some ⟨b60,0,none⟩))) 16 (.slice A64 y62.1.length c65)) 17 (.int .i64 y62.2.1)) 18 (.int .i64 y62.2.2)) 19 (.int .i64 y69.1)) 20 (.int .i64 y69.2.1)) 21 (.int .i64 y69.2.2)) 22 (.slice A73 y71.1.length c74)) 23 (.slice A75 y71.2.1.length c76)) 24 (.int .i64 y71.2.2)) 114 (.bool (((((((y20.2 != 0) || (y23.2 != 0)) || (y30.2 != 0)) || (y37.2 != 0)) || (y44.2 != 0)) || (y51.2 != 0)) || (y58.2 != 0))))) (fun tm0 => ?_) (fun key => ?_)
      ·refine ox_y rfl (y_move_bool rfl) ?_
       refine ox_join 3 (fun tm0 => (upd (upd (upd (upd (upd (upd (upd (upd (upd (upd (upd (upd (upd (upd (upd (upd (upd tm0 0 (.bool false)) 2 (.int .i64 y20.1)) 4 (.slice A25 y23.1.length c26)) 6 (.slice A32 y30.1.length c33)) 8 (.slice A39 y37.1.length c40)) 10 (.slice A46 y44.1.length c47)) 12 (.slice A53 y51.1.length c54)) 14 (.pointer (some ⟨b60,0,none⟩))) 16 (.slice A64 y62.1.length c65)) 17 (.int .i64 y62.2.1)) 19 (.int .i64 y69.1)) 20 (.int .i64 y69.2.1)) 21 (.int .i64 y69.2.2)) 22 (.slice A73 y71.1.length c74)) 23 (.slice A75 y71.2.1.length c76)) 24 (.int .i64 y71.2.2)) 118 (.bool ((((((((y20.2 != 0) || (y23.2 != 0)) || (y30.2 != 0)) || (y37.2 != 0)) || (y44.2 != 0)) || (y51.2 != 0)) || (y58.2 != 0)) || (y62.2.2 != 0))))) (fun tm0 => ?_) (fun key => ?_)
       ·refine ox_y rfl (y_move_bool rfl) ?_
        refine ox_join 3 (fun tm0 => (upd (upd (upd (upd (upd (upd (upd (upd (upd (upd (upd (upd (upd (upd (upd (upd tm0 0 (.bool false)) 2 (.int .i64 y20.1)) 4 (.slice A25 y23.1.length c26)) 6 (.slice A32 y30.1.length c33)) 8 (.slice A39 y37.1.length c40)) 10 (.slice A46 y44.1.length c47)) 12 (.slice A53 y51.1.length c54)) 14 (.pointer (some ⟨b60,0,none⟩))) 16 (.slice A64 y62.1.length c65)) 17 (.int .i64 y62.2.1)) 19 (.int .i64 y69.1)) 20 (.int .i64 y69.2.1)) 22 (.slice A73 y71.1.length c74)) 23 (.slice A75 y71.2.1.length c76)) 24 (.int .i64 y71.2.2)) 122 (.bool (((((((((y20.2 != 0) || (y23.2 != 0)) || (y30.2 != 0)) || (y37.2 != 0)) || (y44.2 != 0)) || (y51.2 != 0)) || (y58.2 != 0)) || (y62.2.2 != 0)) || (y69.2.2 != 0))))) (fun tm0 => ?_) (fun key => ?_)
        ·refine ox_y rfl (y_move_bool rfl) ?_
         refine ox_join 3 (fun tm0 => (upd (upd (upd (upd (upd (upd (upd (upd (upd (upd (upd (upd (upd (upd (upd tm0 0 (.bool false)) 2 (.int .i64 y20.1)) 4 (.slice A25 y23.1.length c26)) 6 (.slice A32 y30.1.length c33)) 8 (.slice A39 y37.1.length c40)) 10 (.slice A46 y44.1.length c47)) 12 (.slice A53 y51.1.length c54)) 14 (.pointer (some ⟨b60,0,none⟩))) 16 (.slice A64 y62.1.length c65)) 17 (.int .i64 y62.2.1)) 19 (.int .i64 y69.1)) 20 (.int .i64 y69.2.1)) 22 (.slice A73 y71.1.length c74)) 23 (.slice A75 y71.2.1.length c76)) 126 (.bool ((((((((((y20.2 != 0) || (y23.2 != 0)) || (y30.2 != 0)) || (y37.2 != 0)) || (y44.2 != 0)) || (y51.2 != 0)) || (y58.2 != 0)) || (y62.2.2 != 0)) || (y69.2.2 != 0)) || (y71.2.2 != 0))))) (fun tm0 => ?_) (fun key => ?_)
         ·refine ox_nil (ex_then ?_)
          rcases ite_some h with ⟨hp90,h⟩ | ⟨hp90,h⟩
          ·refine cx_true (congrArg Value.bool hp90) ?_
           refine cx_seq (cx_region ?_)
           refine ox_y rfl (y_assign_bool rfl) ?_
           refine ox_nil (ex_then (cx_ret (ex_then_ret ?_)))
           obtain rfl:=Option.some.inj h
           exact ex_res1 (.inl rfl) rfl (resV_tmp (v:=.bool false) rfl) (fun W2 hW2 => ⟨rfl,hW2.none⟩)
          ·refine cx_false (congrArg Value.bool hp90) ?_
           refine cx_skip (ex_then (cx_seq (cx_region ?_)))
           refine ox_y rfl (y_move_slice rfl) ?_
           refine ox_buildSliceE 3 (encL cI [1,3,5]) _ mc_3_3 us_32 ze_3 by_3 (by decide) (by decide) (by kernel_rfl) (encL_len cI_len rfl) rfl (fun b91 => ?_)
           try dsimp only [lna,lca,lsz,lss]
           obtain ⟨y92,hy93,h⟩:=bind_some h
           refine ox_y rfl (y_call [.slice A25 y23.1.length c26,.slice (some ⟨b91,0,none⟩) 3 3] go_20 rfl (fun W2 hW2 => ref09_SameInts_ok y23.1 [1,3,5] y92 hy93 W2 A25 y23.1.length c26 rfl ((RdL.row 5 rfl) W2 hW2) (some ⟨b91,0,none⟩) 3 3 rfl ((RdL.row 21 rfl) W2 hW2)) rfl) ?_
           refine ox_y rfl (y_move_bool rfl) ?_
           obtain ⟨b95,hb96,h⟩:=bind_some h
           refine ox_join 4 (fun tm0 => (upd (upd (upd (upd (upd (upd (upd (upd (upd (upd (upd (upd (upd tm0 0 (.bool false)) 2 (.int .i64 y20.1)) 8 (.slice A39 y37.1.length c40)) 10 (.slice A46 y44.1.length c47)) 12 (.slice A53 y51.1.length c54)) 14 (.pointer (some ⟨b60,0,none⟩))) 16 (.slice A64 y62.1.length c65)) 17 (.int .i64 y62.2.1)) 19 (.int .i64 y69.1)) 20 (.int .i64 y69.2.1)) 22 (.slice A73 y71.1.length c74)) 23 (.slice A75 y71.2.1.length c76)) 134 (.bool b95))) (fun tm0 => ?_) (fun key => ?_)
           ·refine ox_y rfl (y_move_bool rfl) ?_
            obtain ⟨b98,hb99,h⟩:=bind_some h
            refine ox_join 4 (fun tm0 => (upd (upd (upd (upd (upd (upd (upd (upd (upd (upd (upd (upd tm0 0 (.bool false)) 2 (.int .i64 y20.1)) 10 (.slice A46 y44.1.length c47)) 12 (.slice A53 y51.1.length c54)) 14 (.pointer (some ⟨b60,0,none⟩))) 16 (.slice A64 y62.1.length c65)) 17 (.int .i64 y62.2.1)) 19 (.int .i64 y69.1)) 20 (.int .i64 y69.2.1)) 22 (.slice A73 y71.1.length c74)) 23 (.slice A75 y71.2.1.length c76)) 139 (.bool b98))) (fun tm0 => ?_) (fun key => ?_)
            ·refine ox_y rfl (y_move_bool rfl) ?_
             obtain ⟨b101,hb102,h⟩:=bind_some h
             refine ox_join 4 (fun tm0 => (upd (upd (upd (upd (upd (upd (upd (upd (upd (upd (upd tm0 0 (.bool false)) 2 (.int .i64 y20.1)) 12 (.slice A53 y51.1.length c54)) 14 (.pointer (some ⟨b60,0,none⟩))) 16 (.slice A64 y62.1.length c65)) 17 (.int .i64 y62.2.1)) 19 (.int .i64 y69.1)) 20 (.int .i64 y69.2.1)) 22 (.slice A73 y71.1.length c74)) 23 (.slice A75 y71.2.1.length c76)) 144 (.bool b101))) (fun tm0 => ?_) (fun key => ?_)
             ·refine ox_y rfl (y_assign_bool rfl) ?_
              refine ox_nil (ex_then (cx_seq (cx_region ?_)))
              refine ox_y rfl (y_move_slice rfl) ?_
              refine ox_buildSliceE 2 (encL cI [13,14]) _ mc_3_2 us_32 ze_3 by_3 (by decide) (by decide) (by kernel_rfl) (encL_len cI_len rfl) rfl (fun b103 => ?_)
              try dsimp only [lna,lca,lsz,lss]
              obtain ⟨y104,hy105,h⟩:=bind_some h
              refine ox_y rfl (y_call [.slice A53 y51.1.length c54,.slice (some ⟨b103,0,none⟩) 2 2] go_20 rfl (fun W2 hW2 => ref09_SameInts_ok y51.1 [13,14] y104 hy105 W2 A53 y51.1.length c54 rfl ((RdL.row 13 rfl) W2 hW2) (some ⟨b103,0,none⟩) 2 2 rfl ((RdL.row 22 rfl) W2 hW2)) rfl) ?_
              refine ox_y rfl (y_move_bool rfl) ?_
              obtain ⟨b107,hb108,h⟩:=bind_some h
              refine ox_join 4 (fun tm0 => (upd (upd (upd (upd (upd (upd (upd (upd (upd (upd tm0 0 (.bool false)) 2 (.int .i64 y20.1)) 14 (.pointer (some ⟨b60,0,none⟩))) 17 (.int .i64 y62.2.1)) 19 (.int .i64 y69.1)) 20 (.int .i64 y69.2.1)) 22 (.slice A73 y71.1.length c74)) 23 (.slice A75 y71.2.1.length c76)) 25 (.bool b101)) 152 (.bool b107))) (fun tm0 => ?_) (fun key => ?_)
              ·refine ox_y rfl (y_move_bool rfl) ?_
               obtain ⟨b110,hb111,h⟩:=bind_some h
               refine ox_join 4 (fun tm0 => (upd (upd (upd (upd (upd (upd (upd (upd (upd tm0 0 (.bool false)) 2 (.int .i64 y20.1)) 14 (.pointer (some ⟨b60,0,none⟩))) 17 (.int .i64 y62.2.1)) 19 (.int .i64 y69.1)) 20 (.int .i64 y69.2.1)) 23 (.slice A75 y71.2.1.length c76)) 25 (.bool b101)) 157 (.bool b110))) (fun tm0 => ?_) (fun key => ?_)
               ·refine ox_y rfl (y_move_bool rfl) ?_
                obtain ⟨b113,hb114,h⟩:=bind_some h
                refine ox_join 4 (fun tm0 => (upd (upd (upd (upd (upd (upd (upd (upd tm0 0 (.bool false)) 2 (.int .i64 y20.1)) 14 (.pointer (some ⟨b60,0,none⟩))) 17 (.int .i64 y62.2.1)) 19 (.int .i64 y69.1)) 20 (.int .i64 y69.2.1)) 25 (.bool b101)) 162 (.bool b113))) (fun tm0 => ?_) (fun key => ?_)
                ·refine ox_y rfl (y_assign_bool rfl) ?_
                 refine ox_nil (ex_then (cx_seq (cx_region ?_)))
                 refine ox_y rfl (y_move_bool rfl) ?_
                 refine ox_y rfl (y_move_bool rfl) ?_
                 refine ox_join 2 (fun tm0 => (upd (upd (upd (upd (upd (upd (upd tm0 0 (.bool false)) 2 (.int .i64 y20.1)) 14 (.pointer (some ⟨b60,0,none⟩))) 17 (.int .i64 y62.2.1)) 19 (.int .i64 y69.1)) 20 (.int .i64 y69.2.1)) 166 (.bool (b101 && b113)))) (fun tm0 => ?_) (fun key => ?_)
                 ·refine ox_y rfl (y_move_bool rfl) ?_
                  refine ox_join 3 (fun tm0 => (upd (upd (upd (upd (upd (upd tm0 0 (.bool false)) 14 (.pointer (some ⟨b60,0,none⟩))) 17 (.int .i64 y62.2.1)) 19 (.int .i64 y69.1)) 20 (.int .i64 y69.2.1)) 170 (.bool ((b101 && b113) && (y20.1 == 4))))) (fun tm0 => ?_) (fun key => ?_)
                  ·refine ox_y rfl (y_move_bool rfl) ?_
                   refine ox_join 4 (fun tm0 => (upd (upd (upd (upd (upd tm0 0 (.bool false)) 17 (.int .i64 y62.2.1)) 19 (.int .i64 y69.1)) 20 (.int .i64 y69.2.1)) 175 (.bool (((b101 && b113) && (y20.1 == 4)) && ((y58.1.fNum == 1) && (y58.1.fDen == 4)))))) (fun tm0 => ?_) (fun key => ?_)
                   ·refine ox_y rfl (y_move_bool rfl) ?_
                    refine ox_join 3 (fun tm0 => (upd (upd (upd (upd tm0 0 (.bool false)) 19 (.int .i64 y69.1)) 20 (.int .i64 y69.2.1)) 179 (.bool ((((b101 && b113) && (y20.1 == 4)) && ((y58.1.fNum == 1) && (y58.1.fDen == 4))) && (y62.2.1 == 17))))) (fun tm0 => ?_) (fun key => ?_)
                    ·refine ox_y rfl (y_move_bool rfl) ?_
                     refine ox_join 3 (fun tm0 => (upd (upd (upd tm0 0 (.bool false)) 20 (.int .i64 y69.2.1)) 183 (.bool (((((b101 && b113) && (y20.1 == 4)) && ((y58.1.fNum == 1) && (y58.1.fDen == 4))) && (y62.2.1 == 17)) && (y69.1 == 12))))) (fun tm0 => ?_) (fun key => ?_)
                     ·refine ox_y rfl (y_move_bool rfl) ?_
                      refine ox_join 3 (fun tm0 => (upd (upd tm0 0 (.bool false)) 187 (.bool ((((((b101 && b113) && (y20.1 == 4)) && ((y58.1.fNum == 1) && (y58.1.fDen == 4))) && (y62.2.1 == 17)) && (y69.1 == 12)) && (y69.2.1 == 7))))) (fun tm0 => ?_) (fun key => ?_)
                      ·refine ox_y rfl (y_assign_bool rfl) ?_
                       refine ox_nil (ex_then (cx_ret ?_))
                       obtain rfl:=Option.some.inj h
                       exact ex_res1 (.inl rfl) rfl (resV_tmp (v:=.bool ((((((b101 && b113) && (y20.1 == 4)) && ((y58.1.fNum == 1) && (y58.1.fDen == 4))) && (y62.2.1 == 17)) && (y69.1 == 12)) && (y69.2.1 == 7))) rfl) (fun W2 hW2 => ⟨rfl,hW2.none⟩)
                      ·rcases bool_cases (((((b101 && b113) && (y20.1 == 4)) && ((y58.1.fNum == 1) && (y58.1.fDen == 4))) && (y62.2.1 == 17)) && (y69.1 == 12)) with hp120 | hp120
                       ·refine ox_y (sees_t rfl rfl rfl rfl hp120) (y_move_int rfl) ?_
                        refine ox_y (sees_t rfl rfl rfl rfl hp120) (y_eql rfl rfl) ?_
                        refine ox_y rfl (y_pick_tb (congrArg Value.bool hp120) rfl) ?_
                        exact key _ _ (keep (keep rfl rfl) (congrArg Value.bool (and_t hp120)))
                       ·refine ox_skip (sees_f rfl rfl rfl rfl hp120) ?_
                        refine ox_skip (sees_f rfl rfl rfl rfl hp120) ?_
                        refine ox_y rfl (y_pick_fb (congrArg Value.bool hp120) rfl) ?_
                        exact key _ _ (keep (keep rfl rfl) (congrArg Value.bool (and_f hp120)))
                     ·rcases bool_cases ((((b101 && b113) && (y20.1 == 4)) && ((y58.1.fNum == 1) && (y58.1.fDen == 4))) && (y62.2.1 == 17)) with hp119 | hp119
                      ·refine ox_y (sees_t rfl rfl rfl rfl hp119) (y_move_int rfl) ?_
                       refine ox_y (sees_t rfl rfl rfl rfl hp119) (y_eql rfl rfl) ?_
                       refine ox_y rfl (y_pick_tb (congrArg Value.bool hp119) rfl) ?_
                       exact key _ _ (keep (keep (keep rfl rfl) rfl) (congrArg Value.bool (and_t hp119)))
                      ·refine ox_skip (sees_f rfl rfl rfl rfl hp119) ?_
                       refine ox_skip (sees_f rfl rfl rfl rfl hp119) ?_
                       refine ox_y rfl (y_pick_fb (congrArg Value.bool hp119) rfl) ?_
                       exact key _ _ (keep (keep (keep rfl rfl) rfl) (congrArg Value.bool (and_f hp119)))
                    ·rcases bool_cases (((b101 && b113) && (y20.1 == 4)) && ((y58.1.fNum == 1) && (y58.1.fDen == 4))) with hp118 | hp118
                     ·refine ox_y (sees_t rfl rfl rfl rfl hp118) (y_move_int rfl) ?_
                      refine ox_y (sees_t rfl rfl rfl rfl hp118) (y_eql rfl rfl) ?_
                      refine ox_y rfl (y_pick_tb (congrArg Value.bool hp118) rfl) ?_
                      exact key _ _ (keep (keep (keep (keep rfl rfl) rfl) rfl) (congrArg Value.bool (and_t hp118)))
                     ·refine ox_skip (sees_f rfl rfl rfl rfl hp118) ?_
                      refine ox_skip (sees_f rfl rfl rfl rfl hp118) ?_
                      refine ox_y rfl (y_pick_fb (congrArg Value.bool hp118) rfl) ?_
                      exact key _ _ (keep (keep (keep (keep rfl rfl) rfl) rfl) (congrArg Value.bool (and_f hp118)))
                   ·rcases bool_cases ((b101 && b113) && (y20.1 == 4)) with hp117 | hp117
                    ·refine ox_y (sees_t rfl rfl rfl rfl hp117) (y_loadN 15 [.int .i64 y58.1.fNum,.int .i64 y58.1.fDen] ag_43 rfl rfl rfl) ?_
                     refine ox_y (sees_t rfl rfl rfl rfl hp117) (y_buildS [.int .i64 1,.int .i64 4] [(0,1),(1,1)] ust_43 ze_43 (by kernel_rfl)) ?_
                     refine ox_y (sees_t rfl rfl rfl rfl hp117) (y_eqla (b:=((y58.1.fNum == 1) && (y58.1.fDen == 4))) eg_43 rfl rfl (fun _ => (eqS2 fl_43 (part1 sc_3 rfl) (part1 sc_3 rfl) (part1 sc_3 rfl) (part1 sc_3 rfl) (run_equalIn_int _ _ _ _ _ _ _ ui_3) (run_equalIn_int _ _ _ _ _ _ _ ui_3)))) ?_
                     refine ox_y rfl (y_pick_tb (congrArg Value.bool hp117) rfl) ?_
                     exact key _ _ (keep (keep (keep (keep (keep rfl rfl) rfl) rfl) rfl) (congrArg Value.bool (and_t hp117)))
                    ·refine ox_skip (sees_f rfl rfl rfl rfl hp117) ?_
                     refine ox_skip (sees_f rfl rfl rfl rfl hp117) ?_
                     refine ox_skip (sees_f rfl rfl rfl rfl hp117) ?_
                     refine ox_y rfl (y_pick_fb (congrArg Value.bool hp117) rfl) ?_
                     exact key _ _ (keep (keep (keep (keep (keep rfl rfl) rfl) rfl) rfl) (congrArg Value.bool (and_f hp117)))
                  ·rcases bool_cases (b101 && b113) with hp116 | hp116
                   ·refine ox_y (sees_t rfl rfl rfl rfl hp116) (y_move_int rfl) ?_
                    refine ox_y (sees_t rfl rfl rfl rfl hp116) (y_eql rfl rfl) ?_
                    refine ox_y rfl (y_pick_tb (congrArg Value.bool hp116) rfl) ?_
                    exact key _ _ (keep (keep (keep (keep (keep (keep rfl rfl) rfl) rfl) rfl) rfl) (congrArg Value.bool (and_t hp116)))
                   ·refine ox_skip (sees_f rfl rfl rfl rfl hp116) ?_
                    refine ox_skip (sees_f rfl rfl rfl rfl hp116) ?_
                    refine ox_y rfl (y_pick_fb (congrArg Value.bool hp116) rfl) ?_
                    exact key _ _ (keep (keep (keep (keep (keep (keep rfl rfl) rfl) rfl) rfl) rfl) (congrArg Value.bool (and_f hp116)))
                 ·rcases bool_cases b101 with hp115 | hp115
                  ·refine ox_y (sees_t rfl rfl rfl rfl hp115) (y_move_bool rfl) ?_
                   refine ox_y rfl (y_pick_tb (congrArg Value.bool hp115) rfl) ?_
                   exact key _ _ (keep (keep (keep (keep (keep (keep (keep rfl rfl) rfl) rfl) rfl) rfl) rfl) (congrArg Value.bool (and_t hp115)))
                  ·refine ox_skip (sees_f rfl rfl rfl rfl hp115) ?_
                   refine ox_y rfl (y_pick_fb (congrArg Value.bool hp115) rfl) ?_
                   exact key _ _ (keep (keep (keep (keep (keep (keep (keep rfl rfl) rfl) rfl) rfl) rfl) rfl) (congrArg Value.bool (and_f hp115)))
                ·clear h; rcases ite_some hb114 with ⟨hp112,h⟩ | ⟨hp112,h⟩
                 ·refine ox_y (sees_t rfl rfl rfl rfl hp112) (y_move_slice rfl) ?_
                  refine ox_buildSliceE 2 (encL cI [1,2]) _ mc_3_2 us_32 ze_3 by_3 (by decide) (by decide) (by kernel_rfl) (encL_len cI_len rfl) (sees_t rfl rfl rfl rfl hp112) (fun b121 => ?_)
                  try dsimp only [lna,lca,lsz,lss]
                  obtain ⟨y122,hy123,h⟩:=bind_some h
                  refine ox_y (sees_t rfl rfl rfl rfl hp112) (y_call [.slice A75 y71.2.1.length c76,.slice (some ⟨b121,0,none⟩) 2 2] go_20 rfl (fun W2 hW2 => ref09_SameInts_ok y71.2.1 [1,2] y122 hy123 W2 A75 y71.2.1.length c76 rfl ((RdL.row 20 rfl) W2 hW2) (some ⟨b121,0,none⟩) 2 2 rfl ((RdL.row 23 rfl) W2 hW2)) rfl) ?_
                  refine ox_y rfl (y_pick_tb (congrArg Value.bool hp112) rfl) ?_
                  obtain rfl:=Option.some.inj h
                  refine ox_take 23 ?_
                  exact key _ _ (keep (keep (keep (keep (keep (keep (keep (keep rfl rfl) rfl) rfl) rfl) rfl) rfl) rfl) rfl)
                 ·refine ox_skip (sees_f rfl rfl rfl rfl hp112) ?_
                  refine ox_skip (sees_f rfl rfl rfl rfl hp112) ?_
                  refine ox_skip (sees_f rfl rfl rfl rfl hp112) ?_
                  refine ox_y rfl (y_pick_fb (congrArg Value.bool hp112) rfl) ?_
                  obtain rfl:=Option.some.inj h
                  exact key _ _ (keep (keep (keep (keep (keep (keep (keep (keep rfl rfl) rfl) rfl) rfl) rfl) rfl) rfl) rfl)
               ·clear h; rcases ite_some hb111 with ⟨hp109,h⟩ | ⟨hp109,h⟩
                ·refine ox_y (sees_t rfl rfl rfl rfl hp109) (y_move_slice rfl) ?_
                 refine ox_buildSliceE 1 (encL cI [1]) _ mc_3_1 us_32 ze_3 by_3 (by decide) (by decide) (by kernel_rfl) (encL_len cI_len rfl) (sees_t rfl rfl rfl rfl hp109) (fun b124 => ?_)
                 try dsimp only [lna,lca,lsz,lss]
                 obtain ⟨y125,hy126,h⟩:=bind_some h
                 refine ox_y (sees_t rfl rfl rfl rfl hp109) (y_call [.slice A73 y71.1.length c74,.slice (some ⟨b124,0,none⟩) 1 1] go_20 rfl (fun W2 hW2 => ref09_SameInts_ok y71.1 [1] y125 hy126 W2 A73 y71.1.length c74 rfl ((RdL.row 19 rfl) W2 hW2) (some ⟨b124,0,none⟩) 1 1 rfl ((RdL.row 23 rfl) W2 hW2)) rfl) ?_
                 refine ox_y rfl (y_pick_tb (congrArg Value.bool hp109) rfl) ?_
                 obtain rfl:=Option.some.inj h
                 refine ox_take 23 ?_
                 exact key _ _ (keep (keep (keep (keep (keep (keep (keep (keep (keep rfl rfl) rfl) rfl) rfl) rfl) rfl) rfl) rfl) rfl)
                ·refine ox_skip (sees_f rfl rfl rfl rfl hp109) ?_
                 refine ox_skip (sees_f rfl rfl rfl rfl hp109) ?_
                 refine ox_skip (sees_f rfl rfl rfl rfl hp109) ?_
                 refine ox_y rfl (y_pick_fb (congrArg Value.bool hp109) rfl) ?_
                 obtain rfl:=Option.some.inj h
                 exact key _ _ (keep (keep (keep (keep (keep (keep (keep (keep (keep rfl rfl) rfl) rfl) rfl) rfl) rfl) rfl) rfl) rfl)
              ·clear h; rcases ite_some hb108 with ⟨hp106,h⟩ | ⟨hp106,h⟩
               ·refine ox_y (sees_t rfl rfl rfl rfl hp106) (y_move_slice rfl) ?_
                refine ox_buildSliceE 2 (encL cI [5,6]) _ mc_3_2 us_32 ze_3 by_3 (by decide) (by decide) (by kernel_rfl) (encL_len cI_len rfl) (sees_t rfl rfl rfl rfl hp106) (fun b127 => ?_)
                try dsimp only [lna,lca,lsz,lss]
                obtain ⟨y128,hy129,h⟩:=bind_some h
                refine ox_y (sees_t rfl rfl rfl rfl hp106) (y_call [.slice A64 y62.1.length c65,.slice (some ⟨b127,0,none⟩) 2 2] go_20 rfl (fun W2 hW2 => ref09_SameInts_ok y62.1 [5,6] y128 hy129 W2 A64 y62.1.length c65 rfl ((RdL.row 17 rfl) W2 hW2) (some ⟨b127,0,none⟩) 2 2 rfl ((RdL.row 23 rfl) W2 hW2)) rfl) ?_
                refine ox_y rfl (y_pick_tb (congrArg Value.bool hp106) rfl) ?_
                obtain rfl:=Option.some.inj h
                refine ox_take 23 ?_
                exact key _ _ (keep (keep (keep (keep (keep (keep (keep (keep (keep (keep rfl rfl) rfl) rfl) rfl) rfl) rfl) rfl) rfl) rfl) rfl)
               ·refine ox_skip (sees_f rfl rfl rfl rfl hp106) ?_
                refine ox_skip (sees_f rfl rfl rfl rfl hp106) ?_
                refine ox_skip (sees_f rfl rfl rfl rfl hp106) ?_
                refine ox_y rfl (y_pick_fb (congrArg Value.bool hp106) rfl) ?_
                obtain rfl:=Option.some.inj h
                exact key _ _ (keep (keep (keep (keep (keep (keep (keep (keep (keep (keep rfl rfl) rfl) rfl) rfl) rfl) rfl) rfl) rfl) rfl) rfl)
             ·clear h; rcases ite_some hb102 with ⟨hp100,h⟩ | ⟨hp100,h⟩
              ·refine ox_y (sees_t rfl rfl rfl rfl hp100) (y_move_slice rfl) ?_
               refine ox_buildSliceE 1 (encL cI [4]) _ mc_3_1 us_32 ze_3 by_3 (by decide) (by decide) (by kernel_rfl) (encL_len cI_len rfl) (sees_t rfl rfl rfl rfl hp100) (fun b130 => ?_)
               try dsimp only [lna,lca,lsz,lss]
               obtain ⟨y131,hy132,h⟩:=bind_some h
               refine ox_y (sees_t rfl rfl rfl rfl hp100) (y_call [.slice A46 y44.1.length c47,.slice (some ⟨b130,0,none⟩) 1 1] go_20 rfl (fun W2 hW2 => ref09_SameInts_ok y44.1 [4] y131 hy132 W2 A46 y44.1.length c47 rfl ((RdL.row 11 rfl) W2 hW2) (some ⟨b130,0,none⟩) 1 1 rfl ((RdL.row 22 rfl) W2 hW2)) rfl) ?_
               refine ox_y rfl (y_pick_tb (congrArg Value.bool hp100) rfl) ?_
               obtain rfl:=Option.some.inj h
               refine ox_take 22 ?_
               exact key _ _ (keep (keep (keep (keep (keep (keep (keep (keep (keep (keep (keep rfl rfl) rfl) rfl) rfl) rfl) rfl) rfl) rfl) rfl) rfl) rfl)
              ·refine ox_skip (sees_f rfl rfl rfl rfl hp100) ?_
               refine ox_skip (sees_f rfl rfl rfl rfl hp100) ?_
               refine ox_skip (sees_f rfl rfl rfl rfl hp100) ?_
               refine ox_y rfl (y_pick_fb (congrArg Value.bool hp100) rfl) ?_
               obtain rfl:=Option.some.inj h
               exact key _ _ (keep (keep (keep (keep (keep (keep (keep (keep (keep (keep (keep rfl rfl) rfl) rfl) rfl) rfl) rfl) rfl) rfl) rfl) rfl) rfl)
            ·clear h; rcases ite_some hb99 with ⟨hp97,h⟩ | ⟨hp97,h⟩
             ·refine ox_y (sees_t rfl rfl rfl rfl hp97) (y_move_slice rfl) ?_
              refine ox_buildSliceE 2 (encL cI [12,14]) _ mc_3_2 us_32 ze_3 by_3 (by decide) (by decide) (by kernel_rfl) (encL_len cI_len rfl) (sees_t rfl rfl rfl rfl hp97) (fun b133 => ?_)
              try dsimp only [lna,lca,lsz,lss]
              obtain ⟨y134,hy135,h⟩:=bind_some h
              refine ox_y (sees_t rfl rfl rfl rfl hp97) (y_call [.slice A39 y37.1.length c40,.slice (some ⟨b133,0,none⟩) 2 2] go_20 rfl (fun W2 hW2 => ref09_SameInts_ok y37.1 [12,14] y134 hy135 W2 A39 y37.1.length c40 rfl ((RdL.row 9 rfl) W2 hW2) (some ⟨b133,0,none⟩) 2 2 rfl ((RdL.row 22 rfl) W2 hW2)) rfl) ?_
              refine ox_y rfl (y_pick_tb (congrArg Value.bool hp97) rfl) ?_
              obtain rfl:=Option.some.inj h
              refine ox_take 22 ?_
              exact key _ _ (keep (keep (keep (keep (keep (keep (keep (keep (keep (keep (keep (keep rfl rfl) rfl) rfl) rfl) rfl) rfl) rfl) rfl) rfl) rfl) rfl) rfl)
             ·refine ox_skip (sees_f rfl rfl rfl rfl hp97) ?_
              refine ox_skip (sees_f rfl rfl rfl rfl hp97) ?_
              refine ox_skip (sees_f rfl rfl rfl rfl hp97) ?_
              refine ox_y rfl (y_pick_fb (congrArg Value.bool hp97) rfl) ?_
              obtain rfl:=Option.some.inj h
              exact key _ _ (keep (keep (keep (keep (keep (keep (keep (keep (keep (keep (keep (keep rfl rfl) rfl) rfl) rfl) rfl) rfl) rfl) rfl) rfl) rfl) rfl) rfl)
           ·clear h; rcases ite_some hb96 with ⟨hp94,h⟩ | ⟨hp94,h⟩
            ·refine ox_y (sees_t rfl rfl rfl rfl hp94) (y_move_slice rfl) ?_
             refine ox_buildSliceE 4 (encL cI [2,4,5,6]) _ mc_3_4 us_32 ze_3 by_3 (by decide) (by decide) (by kernel_rfl) (encL_len cI_len rfl) (sees_t rfl rfl rfl rfl hp94) (fun b136 => ?_)
             try dsimp only [lna,lca,lsz,lss]
             obtain ⟨y137,hy138,h⟩:=bind_some h
             refine ox_y (sees_t rfl rfl rfl rfl hp94) (y_call [.slice A32 y30.1.length c33,.slice (some ⟨b136,0,none⟩) 4 4] go_20 rfl (fun W2 hW2 => ref09_SameInts_ok y30.1 [2,4,5,6] y137 hy138 W2 A32 y30.1.length c33 rfl ((RdL.row 7 rfl) W2 hW2) (some ⟨b136,0,none⟩) 4 4 rfl ((RdL.row 22 rfl) W2 hW2)) rfl) ?_
             refine ox_y rfl (y_pick_tb (congrArg Value.bool hp94) rfl) ?_
             obtain rfl:=Option.some.inj h
             refine ox_take 22 ?_
             exact key _ _ (keep (keep (keep (keep (keep (keep (keep (keep (keep (keep (keep (keep (keep rfl rfl) rfl) rfl) rfl) rfl) rfl) rfl) rfl) rfl) rfl) rfl) rfl) rfl)
            ·refine ox_skip (sees_f rfl rfl rfl rfl hp94) ?_
             refine ox_skip (sees_f rfl rfl rfl rfl hp94) ?_
             refine ox_skip (sees_f rfl rfl rfl rfl hp94) ?_
             refine ox_y rfl (y_pick_fb (congrArg Value.bool hp94) rfl) ?_
             obtain rfl:=Option.some.inj h
             exact key _ _ (keep (keep (keep (keep (keep (keep (keep (keep (keep (keep (keep (keep (keep rfl rfl) rfl) rfl) rfl) rfl) rfl) rfl) rfl) rfl) rfl) rfl) rfl) rfl)
         ·rcases bool_cases (((((((((y20.2 != 0) || (y23.2 != 0)) || (y30.2 != 0)) || (y37.2 != 0)) || (y44.2 != 0)) || (y51.2 != 0)) || (y58.2 != 0)) || (y62.2.2 != 0)) || (y69.2.2 != 0)) with hp89 | hp89
          ·refine ox_skip (sees_f rfl rfl rfl rfl hp89) ?_
           refine ox_skip (sees_f rfl rfl rfl rfl hp89) ?_
           refine ox_y rfl (y_pick_tb (congrArg Value.bool hp89) rfl) ?_
           exact key _ _ (keep (keep (keep (keep (keep (keep (keep (keep (keep (keep (keep (keep (keep (keep (keep rfl rfl) rfl) rfl) rfl) rfl) rfl) rfl) rfl) rfl) rfl) rfl) rfl) rfl) rfl) (congrArg Value.bool (or_t hp89)))
          ·refine ox_y (sees_t rfl rfl rfl rfl hp89) (y_move_int rfl) ?_
           refine ox_y (sees_t rfl rfl rfl rfl hp89) (y_neq rfl rfl) ?_
           refine ox_y rfl (y_pick_fb (congrArg Value.bool hp89) rfl) ?_
           exact key _ _ (keep (keep (keep (keep (keep (keep (keep (keep (keep (keep (keep (keep (keep (keep (keep rfl rfl) rfl) rfl) rfl) rfl) rfl) rfl) rfl) rfl) rfl) rfl) rfl) rfl) rfl) (congrArg Value.bool (or_f hp89)))
        ·rcases bool_cases ((((((((y20.2 != 0) || (y23.2 != 0)) || (y30.2 != 0)) || (y37.2 != 0)) || (y44.2 != 0)) || (y51.2 != 0)) || (y58.2 != 0)) || (y62.2.2 != 0)) with hp88 | hp88
         ·refine ox_skip (sees_f rfl rfl rfl rfl hp88) ?_
          refine ox_skip (sees_f rfl rfl rfl rfl hp88) ?_
          refine ox_y rfl (y_pick_tb (congrArg Value.bool hp88) rfl) ?_
          exact key _ _ (keep (keep (keep (keep (keep (keep (keep (keep (keep (keep (keep (keep (keep (keep (keep (keep rfl rfl) rfl) rfl) rfl) rfl) rfl) rfl) rfl) rfl) rfl) rfl) rfl) rfl) rfl) rfl) (congrArg Value.bool (or_t hp88)))
         ·refine ox_y (sees_t rfl rfl rfl rfl hp88) (y_move_int rfl) ?_
          refine ox_y (sees_t rfl rfl rfl rfl hp88) (y_neq rfl rfl) ?_
          refine ox_y rfl (y_pick_fb (congrArg Value.bool hp88) rfl) ?_
          exact key _ _ (keep (keep (keep (keep (keep (keep (keep (keep (keep (keep (keep (keep (keep (keep (keep (keep rfl rfl) rfl) rfl) rfl) rfl) rfl) rfl) rfl) rfl) rfl) rfl) rfl) rfl) rfl) rfl) (congrArg Value.bool (or_f hp88)))
       ·rcases bool_cases (((((((y20.2 != 0) || (y23.2 != 0)) || (y30.2 != 0)) || (y37.2 != 0)) || (y44.2 != 0)) || (y51.2 != 0)) || (y58.2 != 0)) with hp87 | hp87
        ·refine ox_skip (sees_f rfl rfl rfl rfl hp87) ?_
         refine ox_skip (sees_f rfl rfl rfl rfl hp87) ?_
         refine ox_y rfl (y_pick_tb (congrArg Value.bool hp87) rfl) ?_
         exact key _ _ (keep (keep (keep (keep (keep (keep (keep (keep (keep (keep (keep (keep (keep (keep (keep (keep (keep rfl rfl) rfl) rfl) rfl) rfl) rfl) rfl) rfl) rfl) rfl) rfl) rfl) rfl) rfl) rfl) rfl) (congrArg Value.bool (or_t hp87)))
        ·refine ox_y (sees_t rfl rfl rfl rfl hp87) (y_move_int rfl) ?_
         refine ox_y (sees_t rfl rfl rfl rfl hp87) (y_neq rfl rfl) ?_
         refine ox_y rfl (y_pick_fb (congrArg Value.bool hp87) rfl) ?_
         exact key _ _ (keep (keep (keep (keep (keep (keep (keep (keep (keep (keep (keep (keep (keep (keep (keep (keep (keep rfl rfl) rfl) rfl) rfl) rfl) rfl) rfl) rfl) rfl) rfl) rfl) rfl) rfl) rfl) rfl) rfl) (congrArg Value.bool (or_f hp87)))
      ·rcases bool_cases ((((((y20.2 != 0) || (y23.2 != 0)) || (y30.2 != 0)) || (y37.2 != 0)) || (y44.2 != 0)) || (y51.2 != 0)) with hp86 | hp86
       ·refine ox_skip (sees_f rfl rfl rfl rfl hp86) ?_
        refine ox_skip (sees_f rfl rfl rfl rfl hp86) ?_
        refine ox_y rfl (y_pick_tb (congrArg Value.bool hp86) rfl) ?_
        exact key _ _ (keep (keep (keep (keep (keep (keep (keep (keep (keep (keep (keep (keep (keep (keep (keep (keep (keep (keep rfl rfl) rfl) rfl) rfl) rfl) rfl) rfl) rfl) rfl) rfl) rfl) rfl) rfl) rfl) rfl) rfl) rfl) (congrArg Value.bool (or_t hp86)))
       ·refine ox_y (sees_t rfl rfl rfl rfl hp86) (y_move_int rfl) ?_
        refine ox_y (sees_t rfl rfl rfl rfl hp86) (y_neq rfl rfl) ?_
        refine ox_y rfl (y_pick_fb (congrArg Value.bool hp86) rfl) ?_
        exact key _ _ (keep (keep (keep (keep (keep (keep (keep (keep (keep (keep (keep (keep (keep (keep (keep (keep (keep (keep rfl rfl) rfl) rfl) rfl) rfl) rfl) rfl) rfl) rfl) rfl) rfl) rfl) rfl) rfl) rfl) rfl) rfl) (congrArg Value.bool (or_f hp86)))
     ·rcases bool_cases (((((y20.2 != 0) || (y23.2 != 0)) || (y30.2 != 0)) || (y37.2 != 0)) || (y44.2 != 0)) with hp85 | hp85
      ·refine ox_skip (sees_f rfl rfl rfl rfl hp85) ?_
       refine ox_skip (sees_f rfl rfl rfl rfl hp85) ?_
       refine ox_y rfl (y_pick_tb (congrArg Value.bool hp85) rfl) ?_
       exact key _ _ (keep (keep (keep (keep (keep (keep (keep (keep (keep (keep (keep (keep (keep (keep (keep (keep (keep (keep (keep rfl rfl) rfl) rfl) rfl) rfl) rfl) rfl) rfl) rfl) rfl) rfl) rfl) rfl) rfl) rfl) rfl) rfl) rfl) (congrArg Value.bool (or_t hp85)))
      ·refine ox_y (sees_t rfl rfl rfl rfl hp85) (y_move_int rfl) ?_
       refine ox_y (sees_t rfl rfl rfl rfl hp85) (y_neq rfl rfl) ?_
       refine ox_y rfl (y_pick_fb (congrArg Value.bool hp85) rfl) ?_
       exact key _ _ (keep (keep (keep (keep (keep (keep (keep (keep (keep (keep (keep (keep (keep (keep (keep (keep (keep (keep (keep rfl rfl) rfl) rfl) rfl) rfl) rfl) rfl) rfl) rfl) rfl) rfl) rfl) rfl) rfl) rfl) rfl) rfl) rfl) (congrArg Value.bool (or_f hp85)))
    ·rcases bool_cases ((((y20.2 != 0) || (y23.2 != 0)) || (y30.2 != 0)) || (y37.2 != 0)) with hp84 | hp84
     ·refine ox_skip (sees_f rfl rfl rfl rfl hp84) ?_
      refine ox_skip (sees_f rfl rfl rfl rfl hp84) ?_
      refine ox_y rfl (y_pick_tb (congrArg Value.bool hp84) rfl) ?_
      exact key _ _ (keep (keep (keep (keep (keep (keep (keep (keep (keep (keep (keep (keep (keep (keep (keep (keep (keep (keep (keep (keep rfl rfl) rfl) rfl) rfl) rfl) rfl) rfl) rfl) rfl) rfl) rfl) rfl) rfl) rfl) rfl) rfl) rfl) rfl) rfl) (congrArg Value.bool (or_t hp84)))
     ·refine ox_y (sees_t rfl rfl rfl rfl hp84) (y_move_int rfl) ?_
      refine ox_y (sees_t rfl rfl rfl rfl hp84) (y_neq rfl rfl) ?_
      refine ox_y rfl (y_pick_fb (congrArg Value.bool hp84) rfl) ?_
      exact key _ _ (keep (keep (keep (keep (keep (keep (keep (keep (keep (keep (keep (keep (keep (keep (keep (keep (keep (keep (keep (keep rfl rfl) rfl) rfl) rfl) rfl) rfl) rfl) rfl) rfl) rfl) rfl) rfl) rfl) rfl) rfl) rfl) rfl) rfl) rfl) (congrArg Value.bool (or_f hp84)))
   ·rcases bool_cases (((y20.2 != 0) || (y23.2 != 0)) || (y30.2 != 0)) with hp83 | hp83
    ·refine ox_skip (sees_f rfl rfl rfl rfl hp83) ?_
     refine ox_skip (sees_f rfl rfl rfl rfl hp83) ?_
     refine ox_y rfl (y_pick_tb (congrArg Value.bool hp83) rfl) ?_
     exact key _ _ (keep (keep (keep (keep (keep (keep (keep (keep (keep (keep (keep (keep (keep (keep (keep (keep (keep (keep (keep (keep (keep rfl rfl) rfl) rfl) rfl) rfl) rfl) rfl) rfl) rfl) rfl) rfl) rfl) rfl) rfl) rfl) rfl) rfl) rfl) rfl) rfl) (congrArg Value.bool (or_t hp83)))
    ·refine ox_y (sees_t rfl rfl rfl rfl hp83) (y_move_int rfl) ?_
     refine ox_y (sees_t rfl rfl rfl rfl hp83) (y_neq rfl rfl) ?_
     refine ox_y rfl (y_pick_fb (congrArg Value.bool hp83) rfl) ?_
     exact key _ _ (keep (keep (keep (keep (keep (keep (keep (keep (keep (keep (keep (keep (keep (keep (keep (keep (keep (keep (keep (keep (keep rfl rfl) rfl) rfl) rfl) rfl) rfl) rfl) rfl) rfl) rfl) rfl) rfl) rfl) rfl) rfl) rfl) rfl) rfl) rfl) rfl) (congrArg Value.bool (or_f hp83)))
  ·rcases bool_cases ((y20.2 != 0) || (y23.2 != 0)) with hp82 | hp82
   ·refine ox_skip (sees_f rfl rfl rfl rfl hp82) ?_
    refine ox_skip (sees_f rfl rfl rfl rfl hp82) ?_
    refine ox_y rfl (y_pick_tb (congrArg Value.bool hp82) rfl) ?_
    exact key _ _ (keep (keep (keep (keep (keep (keep (keep (keep (keep (keep (keep (keep (keep (keep (keep (keep (keep (keep (keep (keep (keep (keep rfl rfl) rfl) rfl) rfl) rfl) rfl) rfl) rfl) rfl) rfl) rfl) rfl) rfl) rfl) rfl) rfl) rfl) rfl) rfl) rfl) rfl) (congrArg Value.bool (or_t hp82)))
   ·refine ox_y (sees_t rfl rfl rfl rfl hp82) (y_move_int rfl) ?_
    refine ox_y (sees_t rfl rfl rfl rfl hp82) (y_neq rfl rfl) ?_
    refine ox_y rfl (y_pick_fb (congrArg Value.bool hp82) rfl) ?_
    exact key _ _ (keep (keep (keep (keep (keep (keep (keep (keep (keep (keep (keep (keep (keep (keep (keep (keep (keep (keep (keep (keep (keep (keep rfl rfl) rfl) rfl) rfl) rfl) rfl) rfl) rfl) rfl) rfl) rfl) rfl) rfl) rfl) rfl) rfl) rfl) rfl) rfl) rfl) rfl) (congrArg Value.bool (or_f hp82)))
 ·rcases bool_cases (y20.2 != 0) with hp81 | hp81
  ·refine ox_skip (sees_f rfl rfl rfl rfl hp81) ?_
   refine ox_skip (sees_f rfl rfl rfl rfl hp81) ?_
   refine ox_y rfl (y_pick_tb (congrArg Value.bool hp81) rfl) ?_
   exact key _ _ (keep (keep (keep (keep (keep (keep (keep (keep (keep (keep (keep (keep (keep (keep (keep (keep (keep (keep (keep (keep (keep (keep (keep rfl rfl) rfl) rfl) rfl) rfl) rfl) rfl) rfl) rfl) rfl) rfl) rfl) rfl) rfl) rfl) rfl) rfl) rfl) rfl) rfl) rfl) rfl) (congrArg Value.bool (or_t hp81)))
  ·refine ox_y (sees_t rfl rfl rfl rfl hp81) (y_move_int rfl) ?_
   refine ox_y (sees_t rfl rfl rfl rfl hp81) (y_neq rfl rfl) ?_
   refine ox_y rfl (y_pick_fb (congrArg Value.bool hp81) rfl) ?_
   exact key _ _ (keep (keep (keep (keep (keep (keep (keep (keep (keep (keep (keep (keep (keep (keep (keep (keep (keep (keep (keep (keep (keep (keep (keep rfl rfl) rfl) rfl) rfl) rfl) rfl) rfl) rfl) rfl) rfl) rfl) rfl) rfl) rfl) rfl) rfl) rfl) rfl) rfl) rfl) rfl) rfl) (congrArg Value.bool (or_f hp81)))

end Go.Proofs.Ytbblpokfbmekfaa
/- The calls hand back what the plain functions say. -/
set_option linter.unusedVariables false
set_option maxHeartbeats 4000000
set_option maxRecDepth 100000
namespace Go.Proofs.Ytbblpokfbmekfaa
open Go.RowKit (Below)
attribute [local irreducible] OX QX CX EX OpY Calls CallsIn

theorem calxlaw09_few_ok (p0:TLineage) (res:Bool) (h:calxlaw09_few p0 = some res) (W:World) (A0_0:Option Addr) (n0_0 c0_0 : Nat) (hn0_0:n0_0 = p0.fNodes.length) (hr0_0:Rd W A0_0 n0_0 c0_0 (encL TNode_cells p0.fNodes)) (A0_1:Option Addr) (n0_1 c0_1 : Nat) (ys0_1:List (Hd × TClaim)) (hn0_1:n0_1 = p0.fClaims.length) (hr0_1:Rd W A0_1 n0_1 c0_1 (encL TClaim_cells2 ys0_1)) (hN0_1:NestW W (fun z : TClaim => z.fOptions) THop_cells ys0_1 p0.fClaims) :
  Calls Try.prog 11 [.agg #[.slice A0_0 n0_0 c0_0,.slice A0_1 n0_1 c0_1]].toArray W fun e W2 => e = .returned (.bool res) ∧ Ext W W2 []:=by
 subst hn0_0
 subst hn0_1
 unfold calxlaw09_few at h
 refine calls_enter (m:=73) Try.func11 rfl rfl (Nat.le_of_ble_eq_true rfl) ?_
 refine cx_seq (cx_region ?_)
 refine ox_box [.slice A0_0 p0.fNodes.length c0_0,.slice A0_1 p0.fClaims.length c0_1] rfl rfl rfl (fun b1 => ?_)
 refine ox_y rfl (y_assign_bool rfl) ?_
 refine ox_nil (ex_then (cx_seq (cx_region ?_)))
 refine ox_y rfl (y_assign_int rfl) ?_
 refine ox_nil (ex_then (cx_seq (cx_seq (cx_region ?_))))
 refine ox_y rfl (y_assign_int rfl) ?_
 refine ox_nil (ex_then (cx_block ?_))
 obtain ⟨u4,hl8,h⟩:=bind_some h
 refine cx_loop (fun (s:(Bool × Int × Int)) L tm => ∃ (tm0:Nat → Value),L = [cellsR b1 25 [.slice A0_0 p0.fNodes.length c0_0,.slice A0_1 p0.fClaims.length c0_1]] ∧ tm = (upd (upd (upd (upd (upd tm0 0 (.agg #[.slice A0_0 p0.fNodes.length c0_0,.slice A0_1 p0.fClaims.length c0_1])) 1 (.pointer (some ⟨b1,0,none⟩))) 2 (.bool s.1)) 3 (.int .i64 s.2.1)) 4 (.int .i64 s.2.2))) (fun | (.inl s),e,L,tm => e = .ret ∧ ∃ (tm0:Nat → Value),L = [cellsR b1 25 [.slice A0_0 p0.fNodes.length c0_0,.slice A0_1 p0.fClaims.length c0_1]] ∧ tm = (upd (upd (upd (upd (upd tm0 0 (.agg #[.slice A0_0 p0.fNodes.length c0_0,.slice A0_1 p0.fClaims.length c0_1])) 1 (.pointer (some ⟨b1,0,none⟩))) 2 (.bool s.1)) 3 (.int .i64 s.2.1)) 4 (.int .i64 s.2.2)) | (.inr s),e,L,tm => e = .exit 0 ∧ ∃ (tm0:Nat → Value),L = [cellsR b1 25 [.slice A0_0 p0.fNodes.length c0_0,.slice A0_1 p0.fClaims.length c0_1]] ∧ tm = (upd (upd (upd (upd (upd tm0 0 (.agg #[.slice A0_0 p0.fNodes.length c0_0,.slice A0_1 p0.fClaims.length c0_1])) 1 (.pointer (some ⟨b1,0,none⟩))) 2 (.bool s.1)) 3 (.int .i64 s.2.1)) 4 (.int .i64 s.2.2))) hl8 ⟨_,rfl,(keep (keep (keep (keep (keep rfl rfl) rfl) rfl) rfl) rfl)⟩ ?_ ?_
 ·rintro s3 L tm st ⟨tm0_s3,rfl,rfl⟩ h
  unfold calxlaw09_few_l1 at h
  refine cx_seq (cx_seq (cx_region ?_))
  refine ox_y rfl (y_move_int rfl) ?_
  refine ox_y rfl (y_fieldAddr fo_25_1 rfl) ?_
  refine ox_y rfl (y_load1 0 (v:=.slice A0_1 p0.fClaims.length c0_1) sc_23 rfl rfl rfl) ?_
  refine ox_y rfl (y_len (us:=[]) us_23 rfl) ?_
  refine ox_y rfl (y_lss rfl rfl) ?_
  refine ox_nil (ex_then ?_)
  rcases ite_some h with ⟨hp5,h⟩ | ⟨hp5,h⟩
  ·refine cx_true (congrArg Value.bool hp5) ?_
   refine cx_skip (ex_then (cx_seq (cx_block (cx_seq (cx_region ?_)))))
   refine ox_y rfl (y_fieldAddr fo_25_1 rfl) ?_
   refine ox_y rfl (y_load1 0 (v:=.slice A0_1 p0.fClaims.length c0_1) sc_23 rfl rfl rfl) ?_
   refine ox_y rfl (y_move_int rfl) ?_
   obtain ⟨hg6,h⟩:=guardO_some h
   refine ox_y rfl (y_indexR sl_23 (by decide) hg6.1 hg6.2 (RdL.arg hr0_1) (encL_len TClaim_cells2_len (NestP.hn hN0_1.p rfl)) rfl rfl) ?_
   refine ox_y rfl (y_fieldAddrR (A:=A0_1) (j:=(Int.toNat s3.2.2 * 2)) fo_35_1 rfl) ?_
   refine ox_y rfl (y_loadR1 (A:=A0_1) (j:=((Int.toNat s3.2.2 * 2) + 1)) (v:=.slice ((rdL ys0_1 s3.2.2).1.1) ((rdL p0.fClaims s3.2.2).fOptions.length) ((rdL ys0_1 s3.2.2).1.2.2)) sc_33 (RdL.arg hr0_1) rfl (encL_get TClaim_cells2_len hg6.1 (lt_nat hg6.2 (NestP.hn hN0_1.p rfl)) (congrArg (fun n : Nat => some (Value.slice (rdL ys0_1 s3.2.2).1.1 n (rdL ys0_1 s3.2.2).1.2.2)) (NestP.len hN0_1.p hg6.1 (lt_nat hg6.2 rfl))))) ?_
   refine ox_y rfl (y_len (us:=[]) us_33 rfl) ?_
   refine ox_y rfl (y_assign_int rfl) ?_
   refine ox_nil (ex_then (cx_seq (cx_seq (cx_region ?_))))
   refine ox_y rfl (y_move_int rfl) ?_
   refine ox_y rfl (y_gtr rfl rfl) ?_
   refine ox_nil (ex_then ?_)
   rcases ite_some h with ⟨hp7,h⟩ | ⟨hp7,h⟩
   ·refine cx_true (congrArg Value.bool hp7) ?_
    refine cx_seq (cx_region ?_)
    refine ox_y rfl (y_assign_bool rfl) ?_
    refine ox_nil (ex_then (cx_ret (ex_then_ret (ex_block_ret (ex_then_ret ?_)))))
    obtain rfl:=Option.some.inj h
    exact ex_stop ⟨rfl,_,rfl,(keep (keep (keep (keep (keep rfl rfl) rfl) rfl) rfl) rfl)⟩
   ·refine cx_false (congrArg Value.bool hp7) ?_
    refine cx_skip (ex_then (cx_region ?_))
    refine ox_y rfl (y_move_int rfl) ?_
    refine ox_y rfl (y_move_int rfl) ?_
    refine ox_y rfl (y_max rfl rfl) ?_
    refine ox_y rfl (y_mul rfl rfl) ?_
    refine ox_y rfl (y_min rfl rfl) ?_
    refine ox_y rfl (y_assign_int rfl) ?_
    refine ox_nil ?_
    refine ex_block ?_
    refine ex_then (cx_region ?_)
    refine ox_y rfl (y_move_int rfl) ?_
    refine ox_y rfl (y_add rfl rfl) ?_
    refine ox_y rfl (y_assign_int rfl) ?_
    refine ox_nil ?_
    obtain rfl:=Option.some.inj h
    exact ex_next ⟨_,rfl,(keep (keep (keep (keep (keep rfl rfl) rfl) rfl) rfl) rfl)⟩
  ·refine cx_false (congrArg Value.bool hp5) ?_
   refine cx_exit ?_
   refine ex_then_exit ?_
   obtain rfl:=Option.some.inj h
   exact ex_stop ⟨rfl,_,rfl,(keep (keep (keep (keep (keep rfl rfl) rfl) rfl) rfl) rfl)⟩
 ·intro e L tm hJ
  rcases u4 with u9 | u10
  ·dsimp only at h hJ
   obtain ⟨rfl,tm0_u9,rfl,rfl⟩:=hJ
   refine ⟨(by intro hc; cases hc),?_⟩
   refine ex_block_ret (ex_then_ret ?_)
   obtain rfl:=Option.some.inj h
   exact ex_res1 (.inl rfl) rfl (resV_tmp (v:=.bool u9.1) rfl) (fun W2 hW2 => ⟨rfl,hW2.none⟩)
  ·dsimp only at h hJ
   obtain ⟨rfl,tm0_u10,rfl,rfl⟩:=hJ
   refine ⟨(by intro hc; cases hc),?_⟩
   refine ex_block_here ?_
   refine ex_then (cx_seq (cx_region ?_))
   refine ox_y rfl (y_fieldAddr fo_25_0 rfl) ?_
   refine ox_y rfl (y_load1 0 (v:=.slice A0_0 p0.fNodes.length c0_0) sc_22 rfl rfl rfl) ?_
   refine ox_y rfl (y_len (us:=[]) us_22 rfl) ?_
   refine ox_y rfl (y_leq rfl rfl) ?_
   refine ox_y rfl (y_move_bool rfl) ?_
   refine ox_join 11 (fun tm0 => (upd (upd (upd (upd tm0 1 (.pointer (some ⟨b1,0,none⟩))) 2 (.bool u10.1)) 3 (.int .i64 u10.2.1)) 44 (.bool ((decide ((p0.fNodes.length:Int) ≤ 12)) || ((decide (60 < (p0.fNodes.length:Int))) && (decide ((p0.fNodes.length:Int) ≤ 80))))))) (fun tm0 => ?_) (fun key => ?_)
   ·refine ox_y rfl (y_assign_bool rfl) ?_
    refine ox_nil (ex_then (cx_seq (cx_region ?_)))
    refine ox_y rfl (y_fieldAddr fo_25_1 rfl) ?_
    refine ox_y rfl (y_load1 0 (v:=.slice A0_1 p0.fClaims.length c0_1) sc_23 rfl rfl rfl) ?_
    refine ox_y rfl (y_len (us:=[]) us_23 rfl) ?_
    refine ox_y rfl (y_leq rfl rfl) ?_
    refine ox_y rfl (y_move_bool rfl) ?_
    refine ox_join 11 (fun tm0 => (upd (upd (upd (upd tm0 2 (.bool u10.1)) 3 (.int .i64 u10.2.1)) 6 (.bool ((decide ((p0.fNodes.length:Int) ≤ 12)) || ((decide (60 < (p0.fNodes.length:Int))) && (decide ((p0.fNodes.length:Int) ≤ 80)))))) 60 (.bool ((decide ((p0.fClaims.length:Int) ≤ 12)) || ((decide (80 < (p0.fClaims.length:Int))) && (decide ((p0.fClaims.length:Int) ≤ 100))))))) (fun tm0 => ?_) (fun key => ?_)
    ·refine ox_y rfl (y_assign_bool rfl) ?_
     refine ox_nil (ex_then (cx_seq (cx_region ?_)))
     refine ox_y rfl (y_move_bool rfl) ?_
     refine ox_y rfl (y_move_bool rfl) ?_
     refine ox_join 2 (fun tm0 => (upd (upd (upd tm0 2 (.bool u10.1)) 3 (.int .i64 u10.2.1)) 64 (.bool (((decide ((p0.fNodes.length:Int) ≤ 12)) || ((decide (60 < (p0.fNodes.length:Int))) && (decide ((p0.fNodes.length:Int) ≤ 80)))) && ((decide ((p0.fClaims.length:Int) ≤ 12)) || ((decide (80 < (p0.fClaims.length:Int))) && (decide ((p0.fClaims.length:Int) ≤ 100)))))))) (fun tm0 => ?_) (fun key => ?_)
     ·refine ox_y rfl (y_move_bool rfl) ?_
      refine ox_join 7 (fun tm0 => (upd (upd tm0 2 (.bool u10.1)) 72 (.bool ((((decide ((p0.fNodes.length:Int) ≤ 12)) || ((decide (60 < (p0.fNodes.length:Int))) && (decide ((p0.fNodes.length:Int) ≤ 80)))) && ((decide ((p0.fClaims.length:Int) ≤ 12)) || ((decide (80 < (p0.fClaims.length:Int))) && (decide ((p0.fClaims.length:Int) ≤ 100))))) && ((decide (u10.2.1 ≤ 64)) || (decide (4096 < u10.2.1))))))) (fun tm0 => ?_) (fun key => ?_)
      ·refine ox_y rfl (y_assign_bool rfl) ?_
       refine ox_nil (ex_then (cx_ret ?_))
       obtain rfl:=Option.some.inj h
       exact ex_res1 (.inl rfl) rfl (resV_tmp (v:=.bool ((((decide ((p0.fNodes.length:Int) ≤ 12)) || ((decide (60 < (p0.fNodes.length:Int))) && (decide ((p0.fNodes.length:Int) ≤ 80)))) && ((decide ((p0.fClaims.length:Int) ≤ 12)) || ((decide (80 < (p0.fClaims.length:Int))) && (decide ((p0.fClaims.length:Int) ≤ 100))))) && ((decide (u10.2.1 ≤ 64)) || (decide (4096 < u10.2.1))))) rfl) (fun W2 hW2 => ⟨rfl,hW2.none⟩)
      ·rcases bool_cases (((decide ((p0.fNodes.length:Int) ≤ 12)) || ((decide (60 < (p0.fNodes.length:Int))) && (decide ((p0.fNodes.length:Int) ≤ 80)))) && ((decide ((p0.fClaims.length:Int) ≤ 12)) || ((decide (80 < (p0.fClaims.length:Int))) && (decide ((p0.fClaims.length:Int) ≤ 100))))) with hp14 | hp14
       ·refine ox_y (sees_t rfl rfl rfl rfl hp14) (y_move_int rfl) ?_
        refine ox_y (sees_t rfl rfl rfl rfl hp14) (y_leq rfl rfl) ?_
        refine ox_y (sees_t rfl rfl rfl rfl hp14) (y_move_bool rfl) ?_
        refine ox_join 3 (fun tm0 => (upd (upd (upd tm0 2 (.bool u10.1)) 65 (.bool (((decide ((p0.fNodes.length:Int) ≤ 12)) || ((decide (60 < (p0.fNodes.length:Int))) && (decide ((p0.fNodes.length:Int) ≤ 80)))) && ((decide ((p0.fClaims.length:Int) ≤ 12)) || ((decide (80 < (p0.fClaims.length:Int))) && (decide ((p0.fClaims.length:Int) ≤ 100))))))) 71 (.bool ((decide (u10.2.1 ≤ 64)) || (decide (4096 < u10.2.1)))))) (fun tm0 => ?_) (fun key => ?_)
        ·refine ox_y rfl (y_pick_tb (congrArg Value.bool hp14) rfl) ?_
         exact key _ _ (keep (keep rfl rfl) (congrArg Value.bool (and_t hp14)))
        ·rcases bool_cases (decide (u10.2.1 ≤ 64)) with hp15 | hp15
         ·refine ox_skip (sees_f rfl rfl rfl rfl hp15) ?_
          refine ox_skip (sees_f rfl rfl rfl rfl hp15) ?_
          refine ox_y (sees_t rfl rfl rfl rfl hp14) (y_pick_tb (congrArg Value.bool hp15) rfl) ?_
          exact key _ _ (keep (keep (keep rfl rfl) rfl) (congrArg Value.bool (or_t hp15)))
         ·refine ox_y (sees_t rfl rfl rfl rfl hp15) (y_move_int rfl) ?_
          refine ox_y (sees_t rfl rfl rfl rfl hp15) (y_gtr rfl rfl) ?_
          refine ox_y (sees_t rfl rfl rfl rfl hp14) (y_pick_fb (congrArg Value.bool hp15) rfl) ?_
          exact key _ _ (keep (keep (keep rfl rfl) rfl) (congrArg Value.bool (or_f hp15)))
       ·refine ox_skip (sees_f rfl rfl rfl rfl hp14) ?_
        refine ox_skip (sees_f rfl rfl rfl rfl hp14) ?_
        refine ox_skip (sees_f rfl rfl rfl rfl hp14) ?_
        refine ox_skip rfl ?_
        refine ox_skip rfl ?_
        refine ox_skip (sees_f rfl rfl rfl rfl hp14) ?_
        refine ox_y rfl (y_pick_fb (congrArg Value.bool hp14) rfl) ?_
        exact key _ _ (keep (keep rfl rfl) (congrArg Value.bool (and_f hp14)))
     ·rcases bool_cases ((decide ((p0.fNodes.length:Int) ≤ 12)) || ((decide (60 < (p0.fNodes.length:Int))) && (decide ((p0.fNodes.length:Int) ≤ 80)))) with hp13 | hp13
      ·refine ox_y (sees_t rfl rfl rfl rfl hp13) (y_move_bool rfl) ?_
       refine ox_y rfl (y_pick_tb (congrArg Value.bool hp13) rfl) ?_
       exact key _ _ (keep (keep (keep rfl rfl) rfl) (congrArg Value.bool (and_t hp13)))
      ·refine ox_skip (sees_f rfl rfl rfl rfl hp13) ?_
       refine ox_y rfl (y_pick_fb (congrArg Value.bool hp13) rfl) ?_
       exact key _ _ (keep (keep (keep rfl rfl) rfl) (congrArg Value.bool (and_f hp13)))
    ·rcases bool_cases (decide ((p0.fClaims.length:Int) ≤ 12)) with hp12 | hp12
     ·refine ox_skip (sees_f rfl rfl rfl rfl hp12) ?_
      refine ox_skip (sees_f rfl rfl rfl rfl hp12) ?_
      refine ox_skip (sees_f rfl rfl rfl rfl hp12) ?_
      refine ox_skip (sees_f rfl rfl rfl rfl hp12) ?_
      refine ox_skip (sees_f rfl rfl rfl rfl hp12) ?_
      refine ox_skip rfl ?_
      refine ox_skip rfl ?_
      refine ox_skip rfl ?_
      refine ox_skip rfl ?_
      refine ox_skip (sees_f rfl rfl rfl rfl hp12) ?_
      refine ox_y rfl (y_pick_tb (congrArg Value.bool hp12) rfl) ?_
      exact key _ _ (keep (keep (keep (keep rfl rfl) rfl) rfl) (congrArg Value.bool (or_t hp12)))
     ·refine ox_y (sees_t rfl rfl rfl rfl hp12) (y_fieldAddr fo_25_1 rfl) ?_
      refine ox_y (sees_t rfl rfl rfl rfl hp12) (y_load1 0 (v:=.slice A0_1 p0.fClaims.length c0_1) sc_23 rfl rfl rfl) ?_
      refine ox_y (sees_t rfl rfl rfl rfl hp12) (y_len (us:=[]) us_23 rfl) ?_
      refine ox_y (sees_t rfl rfl rfl rfl hp12) (y_gtr rfl rfl) ?_
      refine ox_y (sees_t rfl rfl rfl rfl hp12) (y_move_bool rfl) ?_
      refine ox_join 5 (fun tm0 => (upd (upd (upd (upd (upd tm0 2 (.bool u10.1)) 3 (.int .i64 u10.2.1)) 6 (.bool ((decide ((p0.fNodes.length:Int) ≤ 12)) || ((decide (60 < (p0.fNodes.length:Int))) && (decide ((p0.fNodes.length:Int) ≤ 80)))))) 49 (.bool (decide ((p0.fClaims.length:Int) ≤ 12)))) 59 (.bool ((decide (80 < (p0.fClaims.length:Int))) && (decide ((p0.fClaims.length:Int) ≤ 100)))))) (fun tm0 => ?_) (fun key => ?_)
      ·refine ox_y rfl (y_pick_fb (congrArg Value.bool hp12) rfl) ?_
       exact key _ _ (keep (keep (keep (keep rfl rfl) rfl) rfl) (congrArg Value.bool (or_f hp12)))
      ·rcases bool_cases (decide (80 < (p0.fClaims.length:Int))) with hp16 | hp16
       ·refine ox_y (sees_t rfl rfl rfl rfl hp16) (y_fieldAddr fo_25_1 rfl) ?_
        refine ox_y (sees_t rfl rfl rfl rfl hp16) (y_load1 0 (v:=.slice A0_1 p0.fClaims.length c0_1) sc_23 rfl rfl rfl) ?_
        refine ox_y (sees_t rfl rfl rfl rfl hp16) (y_len (us:=[]) us_23 rfl) ?_
        refine ox_y (sees_t rfl rfl rfl rfl hp16) (y_leq rfl rfl) ?_
        refine ox_y (sees_t rfl rfl rfl rfl hp12) (y_pick_tb (congrArg Value.bool hp16) rfl) ?_
        exact key _ _ (keep (keep (keep (keep (keep rfl rfl) rfl) rfl) rfl) (congrArg Value.bool (and_t hp16)))
       ·refine ox_skip (sees_f rfl rfl rfl rfl hp16) ?_
        refine ox_skip (sees_f rfl rfl rfl rfl hp16) ?_
        refine ox_skip (sees_f rfl rfl rfl rfl hp16) ?_
        refine ox_skip (sees_f rfl rfl rfl rfl hp16) ?_
        refine ox_y (sees_t rfl rfl rfl rfl hp12) (y_pick_fb (congrArg Value.bool hp16) rfl) ?_
        exact key _ _ (keep (keep (keep (keep (keep rfl rfl) rfl) rfl) rfl) (congrArg Value.bool (and_f hp16)))
   ·rcases bool_cases (decide ((p0.fNodes.length:Int) ≤ 12)) with hp11 | hp11
    ·refine ox_skip (sees_f rfl rfl rfl rfl hp11) ?_
     refine ox_skip (sees_f rfl rfl rfl rfl hp11) ?_
     refine ox_skip (sees_f rfl rfl rfl rfl hp11) ?_
     refine ox_skip (sees_f rfl rfl rfl rfl hp11) ?_
     refine ox_skip (sees_f rfl rfl rfl rfl hp11) ?_
     refine ox_skip rfl ?_
     refine ox_skip rfl ?_
     refine ox_skip rfl ?_
     refine ox_skip rfl ?_
     refine ox_skip (sees_f rfl rfl rfl rfl hp11) ?_
     refine ox_y rfl (y_pick_tb (congrArg Value.bool hp11) rfl) ?_
     exact key _ _ (keep (keep (keep (keep rfl rfl) rfl) rfl) (congrArg Value.bool (or_t hp11)))
    ·refine ox_y (sees_t rfl rfl rfl rfl hp11) (y_fieldAddr fo_25_0 rfl) ?_
     refine ox_y (sees_t rfl rfl rfl rfl hp11) (y_load1 0 (v:=.slice A0_0 p0.fNodes.length c0_0) sc_22 rfl rfl rfl) ?_
     refine ox_y (sees_t rfl rfl rfl rfl hp11) (y_len (us:=[]) us_22 rfl) ?_
     refine ox_y (sees_t rfl rfl rfl rfl hp11) (y_gtr rfl rfl) ?_
     refine ox_y (sees_t rfl rfl rfl rfl hp11) (y_move_bool rfl) ?_
     refine ox_join 5 (fun tm0 => (upd (upd (upd (upd (upd tm0 1 (.pointer (some ⟨b1,0,none⟩))) 2 (.bool u10.1)) 3 (.int .i64 u10.2.1)) 33 (.bool (decide ((p0.fNodes.length:Int) ≤ 12)))) 43 (.bool ((decide (60 < (p0.fNodes.length:Int))) && (decide ((p0.fNodes.length:Int) ≤ 80)))))) (fun tm0 => ?_) (fun key => ?_)
     ·refine ox_y rfl (y_pick_fb (congrArg Value.bool hp11) rfl) ?_
      exact key _ _ (keep (keep (keep (keep rfl rfl) rfl) rfl) (congrArg Value.bool (or_f hp11)))
     ·rcases bool_cases (decide (60 < (p0.fNodes.length:Int))) with hp17 | hp17
      ·refine ox_y (sees_t rfl rfl rfl rfl hp17) (y_fieldAddr fo_25_0 rfl) ?_
       refine ox_y (sees_t rfl rfl rfl rfl hp17) (y_load1 0 (v:=.slice A0_0 p0.fNodes.length c0_0) sc_22 rfl rfl rfl) ?_
       refine ox_y (sees_t rfl rfl rfl rfl hp17) (y_len (us:=[]) us_22 rfl) ?_
       refine ox_y (sees_t rfl rfl rfl rfl hp17) (y_leq rfl rfl) ?_
       refine ox_y (sees_t rfl rfl rfl rfl hp11) (y_pick_tb (congrArg Value.bool hp17) rfl) ?_
       exact key _ _ (keep (keep (keep (keep (keep rfl rfl) rfl) rfl) rfl) (congrArg Value.bool (and_t hp17)))
      ·refine ox_skip (sees_f rfl rfl rfl rfl hp17) ?_
       refine ox_skip (sees_f rfl rfl rfl rfl hp17) ?_
       refine ox_skip (sees_f rfl rfl rfl rfl hp17) ?_
       refine ox_skip (sees_f rfl rfl rfl rfl hp17) ?_
       refine ox_y (sees_t rfl rfl rfl rfl hp11) (y_pick_fb (congrArg Value.bool hp17) rfl) ?_
       exact key _ _ (keep (keep (keep (keep (keep rfl rfl) rfl) rfl) rfl) (congrArg Value.bool (and_f hp17)))

end Go.Proofs.Ytbblpokfbmekfaa
/- The calls hand back what the plain functions say. -/
set_option linter.unusedVariables false
set_option maxHeartbeats 4000000
set_option maxRecDepth 100000
namespace Go.Proofs.Ytbblpokfbmekfaa
open Go.RowKit (Below)
attribute [local irreducible] OX QX CX EX OpY Calls CallsIn

theorem calxlaw09_among_ok (p0_l:(List Int)) (p1_n:Int) (res:Bool) (h:calxlaw09_among p0_l p1_n = some res) (W:World) (A0_0:Option Addr) (n0_0 c0_0 : Nat) (hn0_0:n0_0 = p0_l.length) (hr0_0:Rd W A0_0 n0_0 c0_0 (encL cI p0_l)) :
  Calls Try.prog 22 [.slice A0_0 n0_0 c0_0,.int .i64 p1_n].toArray W fun e W2 => e = .returned (.bool res) ∧ Ext W W2 []:=by
 subst hn0_0
 unfold calxlaw09_among at h
 refine calls_enter (m:=18) Try.func22 rfl rfl (Nat.le_of_ble_eq_true rfl) ?_
 refine cx_seq (cx_region ?_)
 refine ox_y rfl (y_assign_bool rfl) ?_
 refine ox_nil (ex_then (cx_seq (cx_seq (cx_region ?_))))
 refine ox_y rfl (y_assign_int rfl) ?_
 refine ox_nil (ex_then (cx_block ?_))
 obtain ⟨u3,hl7,h⟩:=bind_some h
 refine cx_loop (fun (s:(Bool × Int)) L tm => ∃ (tm0:Nat → Value),L = [] ∧ tm = (upd (upd (upd (upd tm0 0 (.slice A0_0 p0_l.length c0_0)) 1 (.int .i64 p1_n)) 4 (.bool s.1)) 5 (.int .i64 s.2))) (fun | (.inl s),e,L,tm => e = .ret ∧ ∃ (tm0:Nat → Value),L = [] ∧ tm = (upd (upd (upd (upd tm0 0 (.slice A0_0 p0_l.length c0_0)) 1 (.int .i64 p1_n)) 4 (.bool s.1)) 5 (.int .i64 s.2)) | (.inr s),e,L,tm => e = .exit 0 ∧ ∃ (tm0:Nat → Value),L = [] ∧ tm = (upd (upd (upd (upd tm0 0 (.slice A0_0 p0_l.length c0_0)) 1 (.int .i64 p1_n)) 4 (.bool s.1)) 5 (.int .i64 s.2))) hl7 ⟨_,rfl,(keep (keep (keep (keep rfl rfl) rfl) rfl) rfl)⟩ ?_ ?_
 ·rintro s2 L tm st ⟨tm0_s2,rfl,rfl⟩ h
  unfold calxlaw09_among_l1 at h
  refine cx_seq (cx_seq (cx_region ?_))
  refine ox_y rfl (y_move_int rfl) ?_
  refine ox_y rfl (y_move_slice rfl) ?_
  refine ox_y rfl (y_len (us:=[]) us_32 rfl) ?_
  refine ox_y rfl (y_lss rfl rfl) ?_
  refine ox_nil (ex_then ?_)
  rcases ite_some h with ⟨hp4,h⟩ | ⟨hp4,h⟩
  ·refine cx_true (congrArg Value.bool hp4) ?_
   refine cx_skip (ex_then (cx_seq (cx_block (cx_seq (cx_region ?_)))))
   refine ox_y rfl (y_move_slice rfl) ?_
   refine ox_y rfl (y_move_int rfl) ?_
   obtain ⟨hg5,h⟩:=guardO_some h
   refine ox_y rfl (y_indexR sl_32 (by decide) hg5.1 hg5.2 (RdL.arg hr0_0) (encL_len cI_len rfl) rfl rfl) ?_
   refine ox_y rfl (y_loadR1 (A:=A0_0) (j:=(Int.toNat s2.2 * 1)) (v:=.int .i64 (rdL p0_l s2.2)) sc_3 (RdL.arg hr0_0) rfl (encL_get0 cI_len hg5.1 (lt_nat hg5.2 rfl) rfl)) ?_
   refine ox_y rfl (y_move_int rfl) ?_
   refine ox_y rfl (y_eql rfl rfl) ?_
   refine ox_nil (ex_then ?_)
   rcases ite_some h with ⟨hp6,h⟩ | ⟨hp6,h⟩
   ·refine cx_true (congrArg Value.bool hp6) ?_
    refine cx_seq (cx_region ?_)
    refine ox_y rfl (y_assign_bool rfl) ?_
    refine ox_nil (ex_then (cx_ret (ex_block_ret (ex_then_ret ?_))))
    obtain rfl:=Option.some.inj h
    exact ex_stop ⟨rfl,_,rfl,(keep (keep (keep (keep rfl rfl) rfl) rfl) rfl)⟩
   ·refine cx_false (congrArg Value.bool hp6) ?_
    refine cx_skip ?_
    refine ex_block ?_
    refine ex_then (cx_region ?_)
    refine ox_y rfl (y_move_int rfl) ?_
    refine ox_y rfl (y_add rfl rfl) ?_
    refine ox_y rfl (y_assign_int rfl) ?_
    refine ox_nil ?_
    obtain rfl:=Option.some.inj h
    exact ex_next ⟨_,rfl,(keep (keep (keep (keep rfl rfl) rfl) rfl) rfl)⟩
  ·refine cx_false (congrArg Value.bool hp4) ?_
   refine cx_exit ?_
   refine ex_then_exit ?_
   obtain rfl:=Option.some.inj h
   exact ex_stop ⟨rfl,_,rfl,(keep (keep (keep (keep rfl rfl) rfl) rfl) rfl)⟩
 ·intro e L tm hJ
  rcases u3 with u8 | u9
  ·dsimp only at h hJ
   obtain ⟨rfl,tm0_u8,rfl,rfl⟩:=hJ
   refine ⟨(by intro hc; cases hc),?_⟩
   refine ex_block_ret (ex_then_ret ?_)
   obtain rfl:=Option.some.inj h
   exact ex_res1 (.inl rfl) rfl (resV_tmp (v:=.bool u8.1) rfl) (fun W2 hW2 => ⟨rfl,hW2.none⟩)
  ·dsimp only at h hJ
   obtain ⟨rfl,tm0_u9,rfl,rfl⟩:=hJ
   refine ⟨(by intro hc; cases hc),?_⟩
   refine ex_block_here ?_
   refine ex_then (cx_seq (cx_region ?_))
   refine ox_y rfl (y_assign_bool rfl) ?_
   refine ox_nil (ex_then (cx_ret ?_))
   obtain rfl:=Option.some.inj h
   exact ex_res1 (.inl rfl) rfl (resV_tmp (v:=.bool false) rfl) (fun W2 hW2 => ⟨rfl,hW2.none⟩)

end Go.Proofs.Ytbblpokfbmekfaa
/- The calls hand back what the plain functions say. -/
set_option linter.unusedVariables false
set_option maxHeartbeats 4000000
set_option maxRecDepth 100000
namespace Go.Proofs.Ytbblpokfbmekfaa
open Go.RowKit (Below)
attribute [local irreducible] OX QX CX EX OpY Calls CallsIn

theorem calxlaw09_all_ok (p0_l:(List Int)) (p1_some:(List Int)) (res:Bool) (h:calxlaw09_all p0_l p1_some = some res) (W:World) (A0_0:Option Addr) (n0_0 c0_0 : Nat) (hn0_0:n0_0 = p0_l.length) (hr0_0:Rd W A0_0 n0_0 c0_0 (encL cI p0_l)) (A1_0:Option Addr) (n1_0 c1_0 : Nat) (hn1_0:n1_0 = p1_some.length) (hr1_0:Rd W A1_0 n1_0 c1_0 (encL cI p1_some)) :
  Calls Try.prog 18 [.slice A0_0 n0_0 c0_0,.slice A1_0 n1_0 c1_0].toArray W fun e W2 => e = .returned (.bool res) ∧ Ext W W2 []:=by
 subst hn0_0
 subst hn1_0
 unfold calxlaw09_all at h
 refine calls_enter (m:=19) Try.func18 rfl rfl (Nat.le_of_ble_eq_true rfl) ?_
 refine cx_seq (cx_region ?_)
 refine ox_y rfl (y_assign_bool rfl) ?_
 refine ox_nil (ex_then (cx_seq (cx_seq (cx_region ?_))))
 refine ox_y rfl (y_assign_int rfl) ?_
 refine ox_nil (ex_then (cx_block ?_))
 obtain ⟨u3,hl9,h⟩:=bind_some h
 refine cx_loop (fun (s:(Bool × Int)) L tm => ∃ (tm0:Nat → Value),L = [] ∧ tm = (upd (upd (upd (upd tm0 0 (.slice A0_0 p0_l.length c0_0)) 1 (.slice A1_0 p1_some.length c1_0)) 4 (.bool s.1)) 5 (.int .i64 s.2))) (fun | (.inl s),e,L,tm => e = .ret ∧ ∃ (tm0:Nat → Value),L = [] ∧ tm = (upd (upd (upd (upd tm0 0 (.slice A0_0 p0_l.length c0_0)) 1 (.slice A1_0 p1_some.length c1_0)) 4 (.bool s.1)) 5 (.int .i64 s.2)) | (.inr s),e,L,tm => e = .exit 0 ∧ ∃ (tm0:Nat → Value),L = [] ∧ tm = (upd (upd (upd (upd tm0 0 (.slice A0_0 p0_l.length c0_0)) 1 (.slice A1_0 p1_some.length c1_0)) 4 (.bool s.1)) 5 (.int .i64 s.2))) hl9 ⟨_,rfl,(keep (keep (keep (keep rfl rfl) rfl) rfl) rfl)⟩ ?_ ?_
 ·rintro s2 L tm st ⟨tm0_s2,rfl,rfl⟩ h
  unfold calxlaw09_all_l1 at h
  refine cx_seq (cx_seq (cx_region ?_))
  refine ox_y rfl (y_move_int rfl) ?_
  refine ox_y rfl (y_move_slice rfl) ?_
  refine ox_y rfl (y_len (us:=[]) us_32 rfl) ?_
  refine ox_y rfl (y_lss rfl rfl) ?_
  refine ox_nil (ex_then ?_)
  rcases ite_some h with ⟨hp4,h⟩ | ⟨hp4,h⟩
  ·refine cx_true (congrArg Value.bool hp4) ?_
   refine cx_skip (ex_then (cx_seq (cx_block (cx_seq (cx_region ?_)))))
   refine ox_y rfl (y_move_slice rfl) ?_
   refine ox_y rfl (y_move_slice rfl) ?_
   refine ox_y rfl (y_move_int rfl) ?_
   obtain ⟨hg5,h⟩:=guardO_some h
   refine ox_y rfl (y_indexR sl_32 (by decide) hg5.1 hg5.2 (RdL.arg hr1_0) (encL_len cI_len rfl) rfl rfl) ?_
   refine ox_y rfl (y_loadR1 (A:=A1_0) (j:=(Int.toNat s2.2 * 1)) (v:=.int .i64 (rdL p1_some s2.2)) sc_3 (RdL.arg hr1_0) rfl (encL_get0 cI_len hg5.1 (lt_nat hg5.2 rfl) rfl)) ?_
   obtain ⟨y6,hy7,h⟩:=bind_some h
   refine ox_y rfl (y_call [.slice A0_0 p0_l.length c0_0,.int .i64 (rdL p1_some s2.2)] go_22 rfl (fun W2 hW2 => calxlaw09_among_ok p0_l (rdL p1_some s2.2) y6 hy7 W2 A0_0 p0_l.length c0_0 rfl ((RdL.arg hr0_0) W2 hW2)) rfl) ?_
   refine ox_y rfl (y_not rfl) ?_
   refine ox_nil (ex_then ?_)
   rcases ite_some h with ⟨hp8,h⟩ | ⟨hp8,h⟩
   ·refine cx_true (congrArg Value.bool hp8) ?_
    refine cx_seq (cx_region ?_)
    refine ox_y rfl (y_assign_bool rfl) ?_
    refine ox_nil (ex_then (cx_ret (ex_block_ret (ex_then_ret ?_))))
    obtain rfl:=Option.some.inj h
    exact ex_stop ⟨rfl,_,rfl,(keep (keep (keep (keep rfl rfl) rfl) rfl) rfl)⟩
   ·refine cx_false (congrArg Value.bool hp8) ?_
    refine cx_skip ?_
    refine ex_block ?_
    refine ex_then (cx_region ?_)
    refine ox_y rfl (y_move_int rfl) ?_
    refine ox_y rfl (y_add rfl rfl) ?_
    refine ox_y rfl (y_assign_int rfl) ?_
    refine ox_nil ?_
    obtain rfl:=Option.some.inj h
    exact ex_next ⟨_,rfl,(keep (keep (keep (keep rfl rfl) rfl) rfl) rfl)⟩
  ·refine cx_false (congrArg Value.bool hp4) ?_
   refine cx_exit ?_
   refine ex_then_exit ?_
   obtain rfl:=Option.some.inj h
   exact ex_stop ⟨rfl,_,rfl,(keep (keep (keep (keep rfl rfl) rfl) rfl) rfl)⟩
 ·intro e L tm hJ
  rcases u3 with u10 | u11
  ·dsimp only at h hJ
   obtain ⟨rfl,tm0_u10,rfl,rfl⟩:=hJ
   refine ⟨(by intro hc; cases hc),?_⟩
   refine ex_block_ret (ex_then_ret ?_)
   obtain rfl:=Option.some.inj h
   exact ex_res1 (.inl rfl) rfl (resV_tmp (v:=.bool u10.1) rfl) (fun W2 hW2 => ⟨rfl,hW2.none⟩)
  ·dsimp only at h hJ
   obtain ⟨rfl,tm0_u11,rfl,rfl⟩:=hJ
   refine ⟨(by intro hc; cases hc),?_⟩
   refine ex_block_here ?_
   refine ex_then (cx_seq (cx_region ?_))
   refine ox_y rfl (y_assign_bool rfl) ?_
   refine ox_nil (ex_then (cx_ret ?_))
   obtain rfl:=Option.some.inj h
   exact ex_res1 (.inl rfl) rfl (resV_tmp (v:=.bool true) rfl) (fun W2 hW2 => ⟨rfl,hW2.none⟩)

end Go.Proofs.Ytbblpokfbmekfaa
/- The calls hand back what the plain functions say. -/
set_option linter.unusedVariables false
set_option maxHeartbeats 4000000
set_option maxRecDepth 100000
namespace Go.Proofs.Ytbblpokfbmekfaa
open Go.RowKit (Below)
attribute [local irreducible] OX QX CX EX OpY Calls CallsIn

theorem recall_option_ok (p0_l:TLineage) (p1_link:Int) (p2_h:Int) (res:(Int × Int)) (h:recall_option p0_l p1_link p2_h = some res) (W:World) (A0_0:Option Addr) (n0_0 c0_0 : Nat) (hn0_0:n0_0 = p0_l.fNodes.length) (hr0_0:Rd W A0_0 n0_0 c0_0 (encL TNode_cells p0_l.fNodes)) (A0_1:Option Addr) (n0_1 c0_1 : Nat) (ys0_1:List (Hd × TClaim)) (hn0_1:n0_1 = p0_l.fClaims.length) (hr0_1:Rd W A0_1 n0_1 c0_1 (encL TClaim_cells2 ys0_1)) (hN0_1:NestW W (fun z : TClaim => z.fOptions) THop_cells ys0_1 p0_l.fClaims) :
  Calls Try.prog 50 [.agg #[.slice A0_0 n0_0 c0_0,.slice A0_1 n0_1 c0_1],.int .i64 p1_link,.int .i64 p2_h].toArray W fun e W2 => e = .returned (.tuple #[.int .i64 res.1,.int .i64 res.2]) ∧ Ext W W2 []:=by
 subst hn0_0
 subst hn0_1
 unfold recall_option at h
 refine calls_enter (m:=32) Try.func50 rfl rfl (Nat.le_of_ble_eq_true rfl) ?_
 refine cx_seq (cx_region ?_)
 refine ox_box [.slice A0_0 p0_l.fNodes.length c0_0,.slice A0_1 p0_l.fClaims.length c0_1] rfl rfl rfl (fun b1 => ?_)
 refine ox_y rfl (y_assign_int rfl) ?_
 refine ox_y rfl (y_assign_int rfl) ?_
 refine ox_nil (ex_then (cx_seq (cx_seq (cx_region ?_))))
 refine ox_y rfl (y_loadN 0 [.slice A0_0 p0_l.fNodes.length c0_0,.slice A0_1 p0_l.fClaims.length c0_1] ag_25 rfl rfl rfl) ?_
 obtain ⟨y2,hy3,h⟩:=bind_some h
 refine ox_y rfl (y_call [.agg #[.slice A0_0 p0_l.fNodes.length c0_0,.slice A0_1 p0_l.fClaims.length c0_1]] go_14 rfl (fun W2 hW2 => recall_Check_ok p0_l y2 hy3 W2 A0_0 p0_l.fNodes.length c0_0 rfl ((RdL.arg hr0_0) W2 hW2) A0_1 p0_l.fClaims.length c0_1 ys0_1 rfl ((RdL.arg hr0_1) W2 hW2) (NestL.at (NestL.arg hN0_1) W2 hW2)) rfl) ?_
 refine ox_y rfl (y_assign_int rfl) ?_
 refine ox_nil (ex_then (cx_seq (cx_region ?_)))
 refine ox_y rfl (y_move_int rfl) ?_
 refine ox_y rfl (y_neq rfl rfl) ?_
 refine ox_nil (ex_then ?_)
 rcases ite_some h with ⟨hp4,h⟩ | ⟨hp4,h⟩
 ·refine cx_true (congrArg Value.bool hp4) ?_
  refine cx_seq (cx_region ?_)
  refine ox_y rfl (y_move_int rfl) ?_
  refine ox_y rfl (y_assign_int rfl) ?_
  refine ox_y rfl (y_assign_int rfl) ?_
  refine ox_nil (ex_then (cx_ret (ex_then_ret ?_)))
  obtain rfl:=Option.some.inj h
  exact ex_res2 (.inl rfl) rfl (resV_tmp (v:=.int .i64 0) rfl) (resV_tmp (v:=.int .i64 y2) rfl) (fun W2 hW2 => ⟨rfl,hW2.none⟩)
 ·refine cx_false (congrArg Value.bool hp4) ?_
  refine cx_skip (ex_then (cx_seq (cx_region ?_)))
  refine ox_y rfl (y_loadN 0 [.slice A0_0 p0_l.fNodes.length c0_0,.slice A0_1 p0_l.fClaims.length c0_1] ag_25 rfl rfl rfl) ?_
  refine ox_y rfl (y_move_int rfl) ?_
  obtain ⟨y5,hy6,h⟩:=bind_some h
  refine ox_y rfl (y_call [.agg #[.slice A0_0 p0_l.fNodes.length c0_0,.slice A0_1 p0_l.fClaims.length c0_1],.int .i64 p1_link] go_38 rfl (fun W2 hW2 => recall_linkOf_ok p0_l p1_link y5 hy6 W2 A0_0 p0_l.fNodes.length c0_0 rfl ((RdL.arg hr0_0) W2 hW2) A0_1 p0_l.fClaims.length c0_1 ys0_1 rfl ((RdL.arg hr0_1) W2 hW2) (NestL.at (NestL.arg hN0_1) W2 hW2)) rfl) ?_
  refine ox_y rfl (y_assign_int rfl) ?_
  refine ox_nil (ex_then (cx_seq (cx_seq (cx_region ?_))))
  refine ox_y rfl (y_move_int rfl) ?_
  refine ox_y rfl (y_lss rfl rfl) ?_
  refine ox_nil (ex_then ?_)
  rcases ite_some h with ⟨hp7,h⟩ | ⟨hp7,h⟩
  ·refine cx_true (congrArg Value.bool hp7) ?_
   refine cx_seq (cx_region ?_)
   refine ox_y rfl (y_assign_int rfl) ?_
   refine ox_y rfl (y_assign_int rfl) ?_
   refine ox_nil (ex_then (cx_ret (ex_then_ret ?_)))
   obtain rfl:=Option.some.inj h
   exact ex_res2 (.inl rfl) rfl (resV_tmp (v:=.int .i64 0) rfl) (resV_tmp (v:=.int .i64 5) rfl) (fun W2 hW2 => ⟨rfl,hW2.none⟩)
  ·refine cx_false (congrArg Value.bool hp7) ?_
   refine cx_skip (ex_then (cx_seq (cx_seq (cx_region ?_))))
   refine ox_y rfl (y_move_int rfl) ?_
   refine ox_y rfl (y_fieldAddr fo_25_1 rfl) ?_
   refine ox_y rfl (y_load1 0 (v:=.slice A0_1 p0_l.fClaims.length c0_1) sc_23 rfl rfl rfl) ?_
   refine ox_y rfl (y_move_int rfl) ?_
   obtain ⟨hg8,h⟩:=guardO_some h
   refine ox_y rfl (y_indexR sl_23 (by decide) hg8.1 hg8.2 (RdL.arg hr0_1) (encL_len TClaim_cells2_len (NestP.hn hN0_1.p rfl)) rfl rfl) ?_
   refine ox_y rfl (y_fieldAddrR (A:=A0_1) (j:=(Int.toNat y5 * 2)) fo_35_1 rfl) ?_
   refine ox_y rfl (y_loadR1 (A:=A0_1) (j:=((Int.toNat y5 * 2) + 1)) (v:=.slice ((rdL ys0_1 y5).1.1) ((rdL p0_l.fClaims y5).fOptions.length) ((rdL ys0_1 y5).1.2.2)) sc_33 (RdL.arg hr0_1) rfl (encL_get TClaim_cells2_len hg8.1 (lt_nat hg8.2 (NestP.hn hN0_1.p rfl)) (congrArg (fun n : Nat => some (Value.slice (rdL ys0_1 y5).1.1 n (rdL ys0_1 y5).1.2.2)) (NestP.len hN0_1.p hg8.1 (lt_nat hg8.2 rfl))))) ?_
   refine ox_y rfl (y_len (us:=[]) us_33 rfl) ?_
   refine ox_y rfl (y_sub rfl rfl) ?_
   obtain ⟨y9,hy10,h⟩:=bind_some h
   refine ox_y rfl (y_call [.int .i64 p2_h,.int .i64 0,.int .i64 (w64 ((((rdL p0_l.fClaims y5).fOptions.length : Nat) : Int) - 1))] go_35 rfl (fun W2 hW2 => recall_within_ok p2_h 0 (w64 ((((rdL p0_l.fClaims y5).fOptions.length : Nat) : Int) - 1)) y9 hy10 W2 ) rfl) ?_
   refine ox_y rfl (y_not rfl) ?_
   refine ox_nil (ex_then ?_)
   rcases ite_some h with ⟨hp11,h⟩ | ⟨hp11,h⟩
   ·refine cx_true (congrArg Value.bool hp11) ?_
    refine cx_seq (cx_region ?_)
    refine ox_y rfl (y_assign_int rfl) ?_
    refine ox_y rfl (y_assign_int rfl) ?_
    refine ox_nil (ex_then (cx_ret (ex_then_ret ?_)))
    obtain rfl:=Option.some.inj h
    exact ex_res2 (.inl rfl) rfl (resV_tmp (v:=.int .i64 0) rfl) (resV_tmp (v:=.int .i64 1) rfl) (fun W2 hW2 => ⟨rfl,hW2.none⟩)
   ·refine cx_false (congrArg Value.bool hp11) ?_
    refine cx_skip (ex_then (cx_seq (cx_region ?_)))
    refine ox_y rfl (y_move_int rfl) ?_
    refine ox_y rfl (y_assign_int rfl) ?_
    refine ox_y rfl (y_assign_int rfl) ?_
    refine ox_nil (ex_then (cx_ret ?_))
    obtain rfl:=Option.some.inj h
    exact ex_res2 (.inl rfl) rfl (resV_tmp (v:=.int .i64 y5) rfl) (resV_tmp (v:=.int .i64 0) rfl) (fun W2 hW2 => ⟨rfl,hW2.none⟩)

end Go.Proofs.Ytbblpokfbmekfaa
/- The calls hand back what the plain functions say. -/
set_option linter.unusedVariables false
set_option maxHeartbeats 4000000
set_option maxRecDepth 100000
namespace Go.Proofs.Ytbblpokfbmekfaa
open Go.RowKit (Below)
attribute [local irreducible] OX QX CX EX OpY Calls CallsIn

theorem recall_Told_ok (p0_l:TLineage) (p1_link:Int) (p2_h:Int) (res:(TLineage × Int)) (h:recall_Told p0_l p1_link p2_h = some res) (W:World) (A0_0:Option Addr) (n0_0 c0_0 : Nat) (hn0_0:n0_0 = p0_l.fNodes.length) (hr0_0:Rd W A0_0 n0_0 c0_0 (encL TNode_cells p0_l.fNodes)) (A0_1:Option Addr) (n0_1 c0_1 : Nat) (ys0_1:List (Hd × TClaim)) (hn0_1:n0_1 = p0_l.fClaims.length) (hr0_1:Rd W A0_1 n0_1 c0_1 (encL TClaim_cells2 ys0_1)) (hN0_1:NestW W (fun z : TClaim => z.fOptions) THop_cells ys0_1 p0_l.fClaims) (wb:World) (Hb:World → Prop) (hB:∀ W3,Below W.heap.size W W3 → Below wb.heap.size wb W3 ∧ Hb W3) (hp0_1:PvL (fun z : TClaim => z.fOptions) THop_cells wb Hb ys0_1) :
  Calls Try.prog 21 [.agg #[.slice A0_0 n0_0 c0_0,.slice A0_1 n0_1 c0_1],.int .i64 p1_link,.int .i64 p2_h].toArray W fun e W2 => ∃ x : ((Option Addr × Nat × Nat) × (Option Addr × Nat × Nat) × (List (Hd × TClaim)) × Res),(x.1.2.1 = res.1.fNodes.length ∧ x.2.1.2.1 = res.1.fClaims.length ∧ NestP (fun z : TClaim => z.fOptions) x.2.2.1 res.1.fClaims ∧ PvL (fun z : TClaim => z.fOptions) THop_cells wb (fun W4 => Hb W4 ∧ Res.holds x.2.2.2 W4) x.2.2.1) ∧ e = .returned (.tuple #[.agg #[.slice x.1.1 x.1.2.1 x.1.2.2,.slice x.2.1.1 x.2.1.2.1 x.2.1.2.2],.int .i64 res.2]) ∧ Ext W W2 [rowR x.1.1 x.1.2.2 41 3 x.1.2.1 (encL TNode_cells res.1.fNodes),rowR x.2.1.1 x.2.1.2.2 35 2 x.2.1.2.1 (encL TClaim_cells2 x.2.2.1),x.2.2.2]:=by
 subst hn0_0
 subst hn0_1
 unfold recall_Told at h
 refine calls_enter (m:=34) Try.func21 rfl rfl (Nat.le_of_ble_eq_true rfl) ?_
 refine cx_seq (cx_region ?_)
 refine ox_box [.slice A0_0 p0_l.fNodes.length c0_0,.slice A0_1 p0_l.fClaims.length c0_1] rfl rfl rfl (fun b1 => ?_)
 refine ox_alloc ze_25 rfl (fun b2 => ?_)
 refine ox_y rfl (y_assign_int rfl) ?_
 refine ox_nil (ex_then (cx_seq (cx_region ?_)))
 refine ox_y rfl (y_loadN 0 [.slice A0_0 p0_l.fNodes.length c0_0,.slice A0_1 p0_l.fClaims.length c0_1] ag_25 rfl rfl rfl) ?_
 refine ox_y rfl (y_move_int rfl) ?_
 refine ox_y rfl (y_move_int rfl) ?_
 obtain ⟨y3,hy4,h⟩:=bind_some h
 refine ox_y rfl (y_call [.agg #[.slice A0_0 p0_l.fNodes.length c0_0,.slice A0_1 p0_l.fClaims.length c0_1],.int .i64 p1_link,.int .i64 p2_h] go_50 rfl (fun W2 hW2 => recall_option_ok p0_l p1_link p2_h y3 hy4 W2 A0_0 p0_l.fNodes.length c0_0 rfl ((RdL.arg hr0_0) W2 hW2) A0_1 p0_l.fClaims.length c0_1 ys0_1 rfl ((RdL.arg hr0_1) W2 hW2) (NestL.at (NestL.arg hN0_1) W2 hW2)) rfl) ?_
 refine ox_y rfl (y_move_tuple rfl) ?_
 refine ox_y rfl (y_extract (vs:=[.int .i64 y3.1,.int .i64 y3.2]) (v:=.int .i64 y3.1) rfl rfl) ?_
 refine ox_y rfl (y_extract (vs:=[.int .i64 y3.1,.int .i64 y3.2]) (v:=.int .i64 y3.2) rfl rfl) ?_
 refine ox_y rfl (y_assign_int rfl) ?_
 refine ox_y rfl (y_assign_int rfl) ?_
 refine ox_nil (ex_then (cx_seq (cx_seq (cx_region ?_))))
 refine ox_y rfl (y_move_int rfl) ?_
 refine ox_y rfl (y_neq rfl rfl) ?_
 refine ox_nil (ex_then ?_)
 rcases ite_some h with ⟨hp5,h⟩ | ⟨hp5,h⟩
 ·refine cx_true (congrArg Value.bool hp5) ?_
  refine cx_seq (cx_region ?_)
  refine ox_y rfl (y_buildS [.slice none 0 0,.slice none 0 0] [(0,1),(1,1)] ust_25 ze_25 (by kernel_rfl)) ?_
  refine ox_y rfl (y_move_int rfl) ?_
  refine ox_n rfl (y_storeN 1 [.slice none 0 0,.slice none 0 0] sz_25 rfl (Nat.le_of_ble_eq_true rfl) rfl rfl rfl) ?_
  refine ox_y rfl (y_assign_int rfl) ?_
  refine ox_nil (ex_then (cx_ret (ex_then_ret ?_)))
  obtain rfl:=Option.some.inj h
  exact ex_res2 (.inl rfl) rfl (resV_cellN 1 [.slice none 0 0,.slice none 0 0] ag_25 rfl rfl rfl) (resV_tmp (v:=.int .i64 y3.2) rfl) (fun W2 hW2 => ⟨((none,0,0),(none,0,0),[],noR),⟨rfl,rfl,NestP.nil,PvL.nil⟩,rfl,((hW2.nilrow 41 3).nilrow 35 2).addNo.pickL [2,3,4] (by decide) rfl⟩)
 ·refine cx_false (congrArg Value.bool hp5) ?_
  refine cx_skip (ex_then (cx_seq ?_))
  refine cx_draws 12 mixed (by kernel_rfl) (by kernel_rfl) ?_
  refine qx_y rfl (y_loadN 0 [.slice A0_0 p0_l.fNodes.length c0_0,.slice A0_1 p0_l.fClaims.length c0_1] ag_25 rfl rfl rfl) ?_
  refine qx_y rfl (y_move_int rfl) ?_
  refine qx_y rfl (y_fieldAddr fo_25_1 rfl) ?_
  refine qx_y rfl (y_load1 0 (v:=.slice A0_1 p0_l.fClaims.length c0_1) sc_23 rfl rfl rfl) ?_
  refine qx_y rfl (y_move_int rfl) ?_
  obtain ⟨hg6,h⟩:=guardO_some h
  refine qx_y rfl (y_indexR sl_23 (by decide) hg6.1 hg6.2 (RdL.arg hr0_1) (encL_len TClaim_cells2_len (NestP.hn hN0_1.p rfl)) rfl rfl) ?_
  refine qx_y rfl (y_fieldAddrR (A:=A0_1) (j:=(Int.toNat y3.1 * 2)) fo_35_1 rfl) ?_
  refine qx_y rfl (y_loadR1 (A:=A0_1) (j:=((Int.toNat y3.1 * 2) + 1)) (v:=.slice ((rdL ys0_1 y3.1).1.1) ((rdL p0_l.fClaims y3.1).fOptions.length) ((rdL ys0_1 y3.1).1.2.2)) sc_33 (RdL.arg hr0_1) rfl (encL_get TClaim_cells2_len hg6.1 (lt_nat hg6.2 (NestP.hn hN0_1.p rfl)) (congrArg (fun n : Nat => some (Value.slice (rdL ys0_1 y3.1).1.1 n (rdL ys0_1 y3.1).1.2.2)) (NestP.len hN0_1.p hg6.1 (lt_nat hg6.2 rfl))))) ?_
  refine qx_y rfl (y_move_int rfl) ?_
  refine qx_y rfl (y_move_int rfl) ?_
  refine qx_y rfl (y_add rfl rfl) ?_
  obtain ⟨hg7,h⟩:=guardO_some h
  refine qx_y rfl (y_cut sl_33 hg7.1 hg7.2.1 hg7.2.2 (NestL.rd (NestL.arg hN0_1) hg6.1 (lt_nat hg6.2 rfl)) rfl rfl rfl) ?_
  refine qx_nil ?_
  obtain ⟨y8,hy9,h⟩:=bind_some h
  refine ox_call [.agg #[.slice A0_0 p0_l.fNodes.length c0_0,.slice A0_1 p0_l.fClaims.length c0_1],.int .i64 y3.1,.slice (if (rdL ys0_1 y3.1).1.2.2 = Int.toNat p2_h then ((rdL ys0_1 y3.1).1.1) else Option.map (fun x => x.add (Int.toNat p2_h * 2)) ((rdL ys0_1 y3.1).1.1)) (Int.toNat (w64 (p2_h + 1)) - Int.toNat p2_h) ((rdL ys0_1 y3.1).1.2.2 - Int.toNat p2_h)] _ _ _ rfl go_51 rfl (fun W2 hW2 => recall_told_ok p0_l y3.1 ((((rdL p0_l.fClaims y3.1).fOptions).drop (Int.toNat p2_h)).take (Int.toNat (w64 (p2_h + 1)) - Int.toNat p2_h)) y8 hy9 W2 A0_0 p0_l.fNodes.length c0_0 rfl ((RdL.arg hr0_0) W2 hW2) A0_1 p0_l.fClaims.length c0_1 ys0_1 rfl ((RdL.arg hr0_1) W2 hW2) (NestL.at (NestL.arg hN0_1) W2 hW2) (if (rdL ys0_1 y3.1).1.2.2 = Int.toNat p2_h then ((rdL ys0_1 y3.1).1.1) else Option.map (fun x => x.add (Int.toNat p2_h * 2)) ((rdL ys0_1 y3.1).1.1)) (Int.toNat (w64 (p2_h + 1)) - Int.toNat p2_h) ((rdL ys0_1 y3.1).1.2.2 - Int.toNat p2_h) (cut_len hg7.1 hg7.2.1 hg7.2.2 rfl) ((RdL.cut THop_cells_len (NestL.rd (NestL.arg hN0_1) hg6.1 (lt_nat hg6.2 rfl)) hg7.1 hg7.2.1 hg7.2.2 rfl) W2 hW2) wb Hb (fun W3 hb => hB W3 (belowT hW2.below hb)) hp0_1) ?_
  rintro ⟨⟨A14,n16,c15⟩,⟨A18,n20,c19⟩,ys23,F24⟩ ⟨hn17,hn21,hP22,hV25⟩
  replace hn17 : n16 = y8.fNodes.length:=hn17; subst hn17
  replace hn21 : n20 = y8.fClaims.length:=hn21; subst hn21
  refine ox_n rfl (y_storeN 1 [.slice A14 y8.fNodes.length c15,.slice A18 y8.fClaims.length c19] sz_25 rfl (Nat.le_of_ble_eq_true rfl) rfl rfl rfl) ?_
  refine ox_y rfl (y_assign_int rfl) ?_
  refine ox_nil (ex_then (cx_ret ?_))
  obtain rfl:=Option.some.inj h
  exact ex_res2 (.inl rfl) rfl (resV_cellN 1 [.slice A14 y8.fNodes.length c15,.slice A18 y8.fClaims.length c19] ag_25 rfl rfl rfl) (resV_tmp (v:=.int .i64 0) rfl) (fun W2 hW2 => ⟨((A14,y8.fNodes.length,c15),(A18,y8.fClaims.length,c19),ys23,F24),⟨rfl,rfl,hP22,hV25⟩,rfl,hW2.pickL [2,3,4] (by decide) rfl⟩)

end Go.Proofs.Ytbblpokfbmekfaa
/- The calls hand back what the plain functions say. -/
set_option linter.unusedVariables false
set_option maxHeartbeats 4000000
set_option maxRecDepth 100000
namespace Go.Proofs.Ytbblpokfbmekfaa
open Go.RowKit (Below)
attribute [local irreducible] OX QX CX EX OpY Calls CallsIn

theorem calxlaw09_RecallCosts_ok (p0:TLineage) (p1:(List Int)) (res:Bool) (h:calxlaw09_RecallCosts p0 p1 = some res) (W:World) (A0_0:Option Addr) (n0_0 c0_0 : Nat) (hn0_0:n0_0 = p0.fNodes.length) (hr0_0:Rd W A0_0 n0_0 c0_0 (encL TNode_cells p0.fNodes)) (A0_1:Option Addr) (n0_1 c0_1 : Nat) (ys0_1:List (Hd × TClaim)) (hn0_1:n0_1 = p0.fClaims.length) (hr0_1:Rd W A0_1 n0_1 c0_1 (encL TClaim_cells2 ys0_1)) (hN0_1:NestW W (fun z : TClaim => z.fOptions) THop_cells ys0_1 p0.fClaims) (A1_0:Option Addr) (n1_0 c1_0 : Nat) (hn1_0:n1_0 = p1.length) (hr1_0:Rd W A1_0 n1_0 c1_0 (encL cI p1)) :
  Calls Try.prog 7 [.agg #[.slice A0_0 n0_0 c0_0,.slice A0_1 n0_1 c0_1],.slice A1_0 n1_0 c1_0].toArray W fun e W2 => e = .returned (.bool res) ∧ Ext W W2 []:=by
 subst hn0_0
 subst hn0_1
 subst hn1_0
 unfold calxlaw09_RecallCosts at h
 refine calls_enter (m:=153) Try.func7 rfl rfl (Nat.le_of_ble_eq_true rfl) ?_
 refine cx_seq (cx_region ?_)
 refine ox_box [.slice A0_0 p0.fNodes.length c0_0,.slice A0_1 p0.fClaims.length c0_1] rfl rfl rfl (fun b1 => ?_)
 refine ox_y rfl (y_assign_bool rfl) ?_
 refine ox_nil (ex_then (cx_seq (cx_region ?_)))
 obtain ⟨y2,hy3,h⟩:=bind_some h
 refine ox_y rfl (y_call [] go_10 rfl (fun W2 hW2 => calxlaw09_head_ok  y2 hy3 W2 ) rfl) ?_
 refine ox_y rfl (y_assign_bool rfl) ?_
 refine ox_nil (ex_then (cx_seq (cx_seq (cx_region ?_))))
 refine ox_y rfl (y_loadN 0 [.slice A0_0 p0.fNodes.length c0_0,.slice A0_1 p0.fClaims.length c0_1] ag_25 rfl rfl rfl) ?_
 obtain ⟨y4,hy5,h⟩:=bind_some h
 refine ox_y rfl (y_call [.agg #[.slice A0_0 p0.fNodes.length c0_0,.slice A0_1 p0.fClaims.length c0_1]] go_11 rfl (fun W2 hW2 => calxlaw09_few_ok p0 y4 hy5 W2 A0_0 p0.fNodes.length c0_0 rfl ((RdL.arg hr0_0) W2 hW2) A0_1 p0.fClaims.length c0_1 ys0_1 rfl ((RdL.arg hr0_1) W2 hW2) (NestL.at (NestL.arg hN0_1) W2 hW2)) rfl) ?_
 refine ox_y rfl (y_not rfl) ?_
 refine ox_y rfl (y_move_bool rfl) ?_
 refine ox_join 4 (fun tm0 => (upd (upd (upd (upd (upd tm0 1 (.slice A1_0 p1.length c1_0)) 2 (.pointer (some ⟨b1,0,none⟩))) 4 (.bool false)) 5 (.bool y2)) 34 (.bool ((!y4) || (decide (30 < (p1.length:Int))))))) (fun tm0 => ?_) (fun key => ?_)
 ·refine ox_nil (ex_then ?_)
  rcases ite_some h with ⟨hp7,h⟩ | ⟨hp7,h⟩
  ·refine cx_true (congrArg Value.bool hp7) ?_
   refine cx_seq (cx_region ?_)
   refine ox_y rfl (y_move_bool rfl) ?_
   refine ox_y rfl (y_assign_bool rfl) ?_
   refine ox_nil (ex_then (cx_ret (ex_then_ret ?_)))
   obtain rfl:=Option.some.inj h
   exact ex_res1 (.inl rfl) rfl (resV_tmp (v:=.bool y2) rfl) (fun W2 hW2 => ⟨rfl,hW2.none⟩)
  ·refine cx_false (congrArg Value.bool hp7) ?_
   refine cx_skip (ex_then (cx_seq (cx_region ?_)))
   refine ox_y rfl (y_loadN 0 [.slice A0_0 p0.fNodes.length c0_0,.slice A0_1 p0.fClaims.length c0_1] ag_25 rfl rfl rfl) ?_
   refine ox_y rfl (y_move_slice rfl) ?_
   obtain ⟨y8,hy9,h⟩:=bind_some h
   refine ox_call [.agg #[.slice A0_0 p0.fNodes.length c0_0,.slice A0_1 p0.fClaims.length c0_1],.slice A1_0 p1.length c1_0,.bool true] _ _ _ rfl go_23 rfl (fun W2 hW2 => recall_Recall_ok p0 p1 true y8 hy9 W2 A0_0 p0.fNodes.length c0_0 rfl ((RdL.arg hr0_0) W2 hW2) A0_1 p0.fClaims.length c0_1 ys0_1 rfl ((RdL.arg hr0_1) W2 hW2) (NestL.at (NestL.arg hN0_1) W2 hW2) A1_0 p1.length c1_0 rfl ((RdL.arg hr1_0) W2 hW2)) ?_
   rintro ⟨A10,n12,c11⟩ hn13
   replace hn13 : n12 = y8.1.length:=hn13; subst hn13
   refine ox_y rfl (y_move_tuple rfl) ?_
   refine ox_y rfl (y_extract (vs:=[.slice A10 y8.1.length c11,.int .i64 y8.2.1,.int .i64 y8.2.2]) (v:=.slice A10 y8.1.length c11) rfl rfl) ?_
   refine ox_y rfl (y_extract (vs:=[.slice A10 y8.1.length c11,.int .i64 y8.2.1,.int .i64 y8.2.2]) (v:=.int .i64 y8.2.1) rfl rfl) ?_
   refine ox_y rfl (y_extract (vs:=[.slice A10 y8.1.length c11,.int .i64 y8.2.1,.int .i64 y8.2.2]) (v:=.int .i64 y8.2.2) rfl rfl) ?_
   refine ox_y rfl (y_assign_slice rfl) ?_
   refine ox_y rfl (y_assign_int rfl) ?_
   refine ox_y rfl (y_assign_int rfl) ?_
   refine ox_nil (ex_then (cx_seq (cx_region ?_)))
   refine ox_y rfl (y_loadN 0 [.slice A0_0 p0.fNodes.length c0_0,.slice A0_1 p0.fClaims.length c0_1] ag_25 rfl rfl rfl) ?_
   refine ox_y rfl (y_move_slice rfl) ?_
   obtain ⟨y14,hy15,h⟩:=bind_some h
   refine ox_call [.agg #[.slice A0_0 p0.fNodes.length c0_0,.slice A0_1 p0.fClaims.length c0_1],.slice A1_0 p1.length c1_0,.bool false] _ _ _ rfl go_23 rfl (fun W2 hW2 => recall_Recall_ok p0 p1 false y14 hy15 W2 A0_0 p0.fNodes.length c0_0 rfl ((RdL.arg hr0_0) W2 hW2) A0_1 p0.fClaims.length c0_1 ys0_1 rfl ((RdL.arg hr0_1) W2 hW2) (NestL.at (NestL.arg hN0_1) W2 hW2) A1_0 p1.length c1_0 rfl ((RdL.arg hr1_0) W2 hW2)) ?_
   rintro ⟨A16,n18,c17⟩ hn19
   replace hn19 : n18 = y14.1.length:=hn19; subst hn19
   refine ox_y rfl (y_move_tuple rfl) ?_
   refine ox_y rfl (y_extract (vs:=[.slice A16 y14.1.length c17,.int .i64 y14.2.1,.int .i64 y14.2.2]) (v:=.slice A16 y14.1.length c17) rfl rfl) ?_
   refine ox_y rfl (y_extract (vs:=[.slice A16 y14.1.length c17,.int .i64 y14.2.1,.int .i64 y14.2.2]) (v:=.int .i64 y14.2.1) rfl rfl) ?_
   refine ox_y rfl (y_extract (vs:=[.slice A16 y14.1.length c17,.int .i64 y14.2.1,.int .i64 y14.2.2]) (v:=.int .i64 y14.2.2) rfl rfl) ?_
   refine ox_y rfl (y_assign_slice rfl) ?_
   refine ox_y rfl (y_assign_int rfl) ?_
   refine ox_y rfl (y_assign_int rfl) ?_
   refine ox_nil (ex_then (cx_seq (cx_seq (cx_region ?_))))
   refine ox_y rfl (y_move_int rfl) ?_
   refine ox_y rfl (y_move_int rfl) ?_
   refine ox_y rfl (y_neq rfl rfl) ?_
   refine ox_nil (ex_then ?_)
   rcases ite_some h with ⟨hp20,h⟩ | ⟨hp20,h⟩
   ·refine cx_true (congrArg Value.bool hp20) ?_
    refine cx_seq (cx_region ?_)
    refine ox_y rfl (y_assign_bool rfl) ?_
    refine ox_nil (ex_then (cx_ret (ex_then_ret ?_)))
    obtain rfl:=Option.some.inj h
    exact ex_res1 (.inl rfl) rfl (resV_tmp (v:=.bool false) rfl) (fun W2 hW2 => ⟨rfl,hW2.none⟩)
   ·refine cx_false (congrArg Value.bool hp20) ?_
    refine cx_skip (ex_then (cx_seq (cx_seq (cx_region ?_))))
    refine ox_y rfl (y_move_int rfl) ?_
    refine ox_y rfl (y_neq rfl rfl) ?_
    refine ox_nil (ex_then ?_)
    rcases ite_some h with ⟨hp21,h⟩ | ⟨hp21,h⟩
    ·refine cx_true (congrArg Value.bool hp21) ?_
     refine cx_seq (cx_region ?_)
     refine ox_y rfl (y_move_bool rfl) ?_
     refine ox_y rfl (y_assign_bool rfl) ?_
     refine ox_nil (ex_then (cx_ret (ex_then_ret ?_)))
     obtain rfl:=Option.some.inj h
     exact ex_res1 (.inl rfl) rfl (resV_tmp (v:=.bool y2) rfl) (fun W2 hW2 => ⟨rfl,hW2.none⟩)
    ·refine cx_false (congrArg Value.bool hp21) ?_
     refine cx_skip (ex_then (cx_seq (cx_seq (cx_region ?_))))
     refine ox_y rfl (y_move_slice rfl) ?_
     refine ox_y rfl (y_move_slice rfl) ?_
     obtain ⟨y22,hy23,h⟩:=bind_some h
     refine ox_y rfl (y_call [.slice A16 y14.1.length c17,.slice A10 y8.1.length c11] go_18 rfl (fun W2 hW2 => calxlaw09_all_ok y14.1 y8.1 y22 hy23 W2 A16 y14.1.length c17 rfl ((RdL.row 2 rfl) W2 hW2) A10 y8.1.length c11 rfl ((RdL.row 1 rfl) W2 hW2)) rfl) ?_
     refine ox_y rfl (y_not rfl) ?_
     refine ox_y rfl (y_move_bool rfl) ?_
     refine ox_join 4 (fun tm0 => (upd (upd (upd (upd (upd (upd tm0 1 (.slice A1_0 p1.length c1_0)) 2 (.pointer (some ⟨b1,0,none⟩))) 4 (.bool false)) 5 (.bool y2)) 7 (.int .i64 y8.2.1)) 64 (.bool ((!y22) || (decide (y14.2.1 < y8.2.1)))))) (fun tm0 => ?_) (fun key => ?_)
     ·refine ox_y rfl (y_move_bool rfl) ?_
      refine ox_join 3 (fun tm0 => (upd (upd (upd (upd (upd tm0 1 (.slice A1_0 p1.length c1_0)) 2 (.pointer (some ⟨b1,0,none⟩))) 4 (.bool false)) 5 (.bool y2)) 68 (.bool (((!y22) || (decide (y14.2.1 < y8.2.1))) || (decide (y8.2.1 < 0)))))) (fun tm0 => ?_) (fun key => ?_)
      ·refine ox_nil (ex_then ?_)
       rcases ite_some h with ⟨hp26,h⟩ | ⟨hp26,h⟩
       ·refine cx_true (congrArg Value.bool hp26) ?_
        refine cx_seq (cx_region ?_)
        refine ox_y rfl (y_assign_bool rfl) ?_
        refine ox_nil (ex_then (cx_ret (ex_then_ret ?_)))
        obtain rfl:=Option.some.inj h
        exact ex_res1 (.inl rfl) rfl (resV_tmp (v:=.bool false) rfl) (fun W2 hW2 => ⟨rfl,hW2.none⟩)
       ·refine cx_false (congrArg Value.bool hp26) ?_
        refine cx_skip (ex_then (cx_seq (cx_region ?_)))
        refine ox_y rfl (y_loadN 0 [.slice A0_0 p0.fNodes.length c0_0,.slice A0_1 p0.fClaims.length c0_1] ag_25 rfl rfl rfl) ?_
        refine ox_y rfl (y_move_slice rfl) ?_
        obtain ⟨y27,hy28,h⟩:=bind_some h
        refine ox_y rfl (y_call [.agg #[.slice A0_0 p0.fNodes.length c0_0,.slice A0_1 p0.fClaims.length c0_1],.slice A1_0 p1.length c1_0] go_24 rfl (fun W2 hW2 => recall_Ask_ok p0 p1 y27 hy28 W2 A0_0 p0.fNodes.length c0_0 rfl ((RdL.arg hr0_0) W2 hW2) A0_1 p0.fClaims.length c0_1 ys0_1 rfl ((RdL.arg hr0_1) W2 hW2) (NestL.at (NestL.arg hN0_1) W2 hW2) A1_0 p1.length c1_0 rfl ((RdL.arg hr1_0) W2 hW2)) rfl) ?_
        refine ox_y rfl (y_move_tuple rfl) ?_
        refine ox_y rfl (y_extract (vs:=[.int .i64 y27.1,.int .i64 y27.2.1,.int .i64 y27.2.2]) (v:=.int .i64 y27.1) rfl rfl) ?_
        refine ox_y rfl (y_extract (vs:=[.int .i64 y27.1,.int .i64 y27.2.1,.int .i64 y27.2.2]) (v:=.int .i64 y27.2.1) rfl rfl) ?_
        refine ox_y rfl (y_extract (vs:=[.int .i64 y27.1,.int .i64 y27.2.1,.int .i64 y27.2.2]) (v:=.int .i64 y27.2.2) rfl rfl) ?_
        refine ox_y rfl (y_assign_int rfl) ?_
        refine ox_y rfl (y_assign_int rfl) ?_
        refine ox_y rfl (y_assign_int rfl) ?_
        refine ox_nil (ex_then (cx_seq (cx_seq (cx_region ?_))))
        refine ox_y rfl (y_move_int rfl) ?_
        refine ox_y rfl (y_neq rfl rfl) ?_
        refine ox_nil (ex_then ?_)
        rcases ite_some h with ⟨hp29,h⟩ | ⟨hp29,h⟩
        ·refine cx_true (congrArg Value.bool hp29) ?_
         refine cx_seq (cx_region ?_)
         refine ox_y rfl (y_move_bool rfl) ?_
         refine ox_y rfl (y_move_bool rfl) ?_
         refine ox_join 3 (fun tm0 => (upd (upd (upd (upd (upd (upd (upd tm0 1 (.slice A1_0 p1.length c1_0)) 2 (.pointer (some ⟨b1,0,none⟩))) 4 (.bool false)) 5 (.bool y2)) 12 (.int .i64 y27.1)) 13 (.int .i64 y27.2.1)) 82 (.bool (y2 && (y27.2.2 == 5))))) (fun tm0 => ?_) (fun key => ?_)
         ·refine ox_y rfl (y_assign_bool rfl) ?_
          refine ox_nil (ex_then (cx_ret (ex_then_ret ?_)))
          obtain rfl:=Option.some.inj h
          exact ex_res1 (.inl rfl) rfl (resV_tmp (v:=.bool (y2 && (y27.2.2 == 5))) rfl) (fun W2 hW2 => ⟨rfl,hW2.none⟩)
         ·rcases bool_cases y2 with hp30 | hp30
          ·refine ox_y (sees_t rfl rfl rfl rfl hp30) (y_move_int rfl) ?_
           refine ox_y (sees_t rfl rfl rfl rfl hp30) (y_eql rfl rfl) ?_
           refine ox_y rfl (y_pick_tb (congrArg Value.bool hp30) rfl) ?_
           exact key _ _ (keep (keep (keep (keep (keep (keep (keep rfl rfl) rfl) rfl) rfl) rfl) rfl) (congrArg Value.bool (and_t hp30)))
          ·refine ox_skip (sees_f rfl rfl rfl rfl hp30) ?_
           refine ox_skip (sees_f rfl rfl rfl rfl hp30) ?_
           refine ox_y rfl (y_pick_fb (congrArg Value.bool hp30) rfl) ?_
           exact key _ _ (keep (keep (keep (keep (keep (keep (keep rfl rfl) rfl) rfl) rfl) rfl) rfl) (congrArg Value.bool (and_f hp30)))
        ·refine cx_false (congrArg Value.bool hp29) ?_
         refine cx_skip (ex_then (cx_seq (cx_region ?_)))
         refine ox_y rfl (y_assign_int rfl) ?_
         refine ox_nil (ex_then (cx_seq (cx_seq (cx_region ?_))))
         refine ox_y rfl (y_assign_int rfl) ?_
         refine ox_nil (ex_then (cx_block ?_))
         obtain ⟨u33,hl81,h⟩:=bind_some h
         refine cx_loop (fun (s:(Bool × Int × Int)) L tm => ∃ (tm0:Nat → Value),L = [cellsR b1 25 [.slice A0_0 p0.fNodes.length c0_0,.slice A0_1 p0.fClaims.length c0_1],rowR A10 c11 3 1 y8.1.length (encL cI y8.1),rowR A16 c17 3 1 y14.1.length (encL cI y14.1)] ∧ tm = (upd (upd (upd (upd (upd (upd (upd (upd (upd (upd (upd tm0 1 (.slice A1_0 p1.length c1_0)) 2 (.pointer (some ⟨b1,0,none⟩))) 4 (.bool s.1)) 5 (.bool y2)) 68 (.bool (((!y22) || (decide (y14.2.1 < y8.2.1))) || (decide (y8.2.1 < 0))))) 12 (.int .i64 y27.1)) 13 (.int .i64 y27.2.1)) 14 (.int .i64 y27.2.2)) 77 (.bool (y27.2.2 != 0))) 15 (.int .i64 s.2.1)) 16 (.int .i64 s.2.2))) (fun | (.inl s),e,L,tm => e = .ret ∧ ∃ (tm0:Nat → Value),L = [cellsR b1 25 [.slice A0_0 p0.fNodes.length c0_0,.slice A0_1 p0.fClaims.length c0_1],rowR A10 c11 3 1 y8.1.length (encL cI y8.1),rowR A16 c17 3 1 y14.1.length (encL cI y14.1)] ∧ tm = (upd (upd (upd (upd (upd (upd (upd (upd (upd (upd (upd tm0 1 (.slice A1_0 p1.length c1_0)) 2 (.pointer (some ⟨b1,0,none⟩))) 4 (.bool s.1)) 5 (.bool y2)) 68 (.bool (((!y22) || (decide (y14.2.1 < y8.2.1))) || (decide (y8.2.1 < 0))))) 12 (.int .i64 y27.1)) 13 (.int .i64 y27.2.1)) 14 (.int .i64 y27.2.2)) 77 (.bool (y27.2.2 != 0))) 15 (.int .i64 s.2.1)) 16 (.int .i64 s.2.2)) | (.inr s),e,L,tm => e = .exit 0 ∧ ∃ (tm0:Nat → Value),L = [cellsR b1 25 [.slice A0_0 p0.fNodes.length c0_0,.slice A0_1 p0.fClaims.length c0_1],rowR A10 c11 3 1 y8.1.length (encL cI y8.1),rowR A16 c17 3 1 y14.1.length (encL cI y14.1)] ∧ tm = (upd (upd (upd (upd (upd (upd (upd (upd (upd (upd (upd tm0 1 (.slice A1_0 p1.length c1_0)) 2 (.pointer (some ⟨b1,0,none⟩))) 4 (.bool s.1)) 5 (.bool y2)) 68 (.bool (((!y22) || (decide (y14.2.1 < y8.2.1))) || (decide (y8.2.1 < 0))))) 12 (.int .i64 y27.1)) 13 (.int .i64 y27.2.1)) 14 (.int .i64 y27.2.2)) 77 (.bool (y27.2.2 != 0))) 15 (.int .i64 s.2.1)) 16 (.int .i64 s.2.2))) hl81 ⟨_,rfl,(keep (keep (keep (keep (keep (keep (keep (keep (keep (keep (keep rfl rfl) rfl) rfl) rfl) rfl) rfl) rfl) rfl) rfl) rfl) rfl)⟩ ?_ ?_
         ·rintro s32 L tm st ⟨tm0_s32,rfl,rfl⟩ h
          unfold calxlaw09_RecallCosts_l1 at h
          refine cx_seq (cx_seq (cx_region ?_))
          refine ox_y rfl (y_move_int rfl) ?_
          refine ox_y rfl (y_fieldAddr fo_25_1 rfl) ?_
          refine ox_y rfl (y_load1 0 (v:=.slice A0_1 p0.fClaims.length c0_1) sc_23 rfl rfl rfl) ?_
          refine ox_y rfl (y_len (us:=[]) us_23 rfl) ?_
          refine ox_y rfl (y_lss rfl rfl) ?_
          refine ox_nil (ex_then ?_)
          rcases ite_some h with ⟨hp34,h⟩ | ⟨hp34,h⟩
          ·refine cx_true (congrArg Value.bool hp34) ?_
           refine cx_skip (ex_then (cx_seq (cx_block (cx_seq (cx_region ?_)))))
           refine ox_y rfl (y_assign_int rfl) ?_
           refine ox_nil (ex_then (cx_block ?_))
           obtain ⟨u37,hl78,h⟩:=bind_some h
           refine cx_loop (fun (s:(Bool × Int × Int)) L tm => ∃ (tm0:Nat → Value),L = [cellsR b1 25 [.slice A0_0 p0.fNodes.length c0_0,.slice A0_1 p0.fClaims.length c0_1],rowR A10 c11 3 1 y8.1.length (encL cI y8.1),rowR A16 c17 3 1 y14.1.length (encL cI y14.1)] ∧ tm = (upd (upd (upd (upd (upd (upd (upd (upd (upd (upd (upd (upd (upd tm0 1 (.slice A1_0 p1.length c1_0)) 2 (.pointer (some ⟨b1,0,none⟩))) 4 (.bool s.1)) 5 (.bool y2)) 68 (.bool (((!y22) || (decide (y14.2.1 < y8.2.1))) || (decide (y8.2.1 < 0))))) 12 (.int .i64 y27.1)) 13 (.int .i64 y27.2.1)) 14 (.int .i64 y27.2.2)) 77 (.bool (y27.2.2 != 0))) 15 (.int .i64 s.2.1)) 16 (.int .i64 s32.2.2)) 87 (.bool (decide (s32.2.2 < (p0.fClaims.length:Int))))) 17 (.int .i64 s.2.2))) (fun | (.inl s),e,L,tm => e = .ret ∧ ∃ (tm0:Nat → Value),L = [cellsR b1 25 [.slice A0_0 p0.fNodes.length c0_0,.slice A0_1 p0.fClaims.length c0_1],rowR A10 c11 3 1 y8.1.length (encL cI y8.1),rowR A16 c17 3 1 y14.1.length (encL cI y14.1)] ∧ tm = (upd (upd (upd (upd (upd (upd (upd (upd (upd (upd (upd (upd (upd tm0 1 (.slice A1_0 p1.length c1_0)) 2 (.pointer (some ⟨b1,0,none⟩))) 4 (.bool s.1)) 5 (.bool y2)) 68 (.bool (((!y22) || (decide (y14.2.1 < y8.2.1))) || (decide (y8.2.1 < 0))))) 12 (.int .i64 y27.1)) 13 (.int .i64 y27.2.1)) 14 (.int .i64 y27.2.2)) 77 (.bool (y27.2.2 != 0))) 15 (.int .i64 s.2.1)) 16 (.int .i64 s32.2.2)) 87 (.bool (decide (s32.2.2 < (p0.fClaims.length:Int))))) 17 (.int .i64 s.2.2)) | (.inr s),e,L,tm => e = .exit 2 ∧ ∃ (tm0:Nat → Value),L = [cellsR b1 25 [.slice A0_0 p0.fNodes.length c0_0,.slice A0_1 p0.fClaims.length c0_1],rowR A10 c11 3 1 y8.1.length (encL cI y8.1),rowR A16 c17 3 1 y14.1.length (encL cI y14.1)] ∧ tm = (upd (upd (upd (upd (upd (upd (upd (upd (upd (upd (upd (upd (upd tm0 1 (.slice A1_0 p1.length c1_0)) 2 (.pointer (some ⟨b1,0,none⟩))) 4 (.bool s.1)) 5 (.bool y2)) 68 (.bool (((!y22) || (decide (y14.2.1 < y8.2.1))) || (decide (y8.2.1 < 0))))) 12 (.int .i64 y27.1)) 13 (.int .i64 y27.2.1)) 14 (.int .i64 y27.2.2)) 77 (.bool (y27.2.2 != 0))) 15 (.int .i64 s.2.1)) 16 (.int .i64 s32.2.2)) 87 (.bool (decide (s32.2.2 < (p0.fClaims.length:Int))))) 17 (.int .i64 s.2.2))) hl78 ⟨_,rfl,(keep (keep (keep (keep (keep (keep (keep (keep (keep (keep (keep (keep (keep rfl rfl) rfl) rfl) rfl) rfl) rfl) rfl) rfl) rfl) rfl) rfl) rfl) rfl)⟩ ?_ ?_
           ·rintro s36 L tm st ⟨tm0_s36,rfl,rfl⟩ h
            unfold calxlaw09_RecallCosts_l2 at h
            refine cx_seq (cx_seq (cx_region ?_))
            refine ox_y rfl (y_fieldAddr fo_25_1 rfl) ?_
            refine ox_y rfl (y_load1 0 (v:=.slice A0_1 p0.fClaims.length c0_1) sc_23 rfl rfl rfl) ?_
            refine ox_y rfl (y_move_int rfl) ?_
            obtain ⟨hg38,h⟩:=guardO_some h
            refine ox_y rfl (y_indexR sl_23 (by decide) hg38.1 hg38.2 (RdL.arg hr0_1) (encL_len TClaim_cells2_len (NestP.hn hN0_1.p rfl)) rfl rfl) ?_
            refine ox_y rfl (y_fieldAddrR (A:=A0_1) (j:=(Int.toNat s32.2.2 * 2)) fo_35_0 rfl) ?_
            refine ox_y rfl (y_loadR1 (A:=A0_1) (j:=((Int.toNat s32.2.2 * 2) + 0)) (v:=.int .i64 ((rdL p0.fClaims s32.2.2).fID)) sc_3 (RdL.arg hr0_1) rfl (encL_get TClaim_cells2_len hg38.1 (lt_nat hg38.2 (NestP.hn hN0_1.p rfl)) (congrArg (fun z : TClaim => some (Value.int .i64 z.fID)) (NestP.snd hN0_1.p s32.2.2)))) ?_
            refine ox_y rfl (y_move_int rfl) ?_
            refine ox_y rfl (y_eql rfl rfl) ?_
            refine ox_y rfl (y_move_bool rfl) ?_
            obtain ⟨b40,hb41,h⟩:=bind_some h
            refine ox_join 10 (fun tm0 => (upd (upd (upd (upd (upd (upd (upd (upd (upd (upd (upd (upd (upd (upd tm0 1 (.slice A1_0 p1.length c1_0)) 2 (.pointer (some ⟨b1,0,none⟩))) 4 (.bool s36.1)) 5 (.bool y2)) 68 (.bool (((!y22) || (decide (y14.2.1 < y8.2.1))) || (decide (y8.2.1 < 0))))) 12 (.int .i64 y27.1)) 13 (.int .i64 y27.2.1)) 14 (.int .i64 y27.2.2)) 77 (.bool (y27.2.2 != 0))) 15 (.int .i64 s36.2.1)) 16 (.int .i64 s32.2.2)) 87 (.bool (decide (s32.2.2 < (p0.fClaims.length:Int))))) 17 (.int .i64 s36.2.2)) 108 (.bool b40))) (fun tm0 => ?_) (fun key => ?_)
            ·refine ox_nil (ex_then ?_)
             rcases ite_some h with ⟨hp42,h⟩ | ⟨hp42,h⟩
             ·refine cx_true (congrArg Value.bool hp42) ?_
              refine cx_skip (ex_then (cx_seq (cx_block (cx_seq (cx_region ?_)))))
              refine ox_y rfl (y_loadN 0 [.slice A0_0 p0.fNodes.length c0_0,.slice A0_1 p0.fClaims.length c0_1] ag_25 rfl rfl rfl) ?_
              refine ox_y rfl (y_move_int rfl) ?_
              refine ox_y rfl (y_move_int rfl) ?_
              obtain ⟨y43,hy44,h⟩:=bind_some h
              refine ox_call [.agg #[.slice A0_0 p0.fNodes.length c0_0,.slice A0_1 p0.fClaims.length c0_1],.int .i64 y27.1,.int .i64 s36.2.2] _ _ _ rfl go_21 rfl (fun W2 hW2 => recall_Told_ok p0 y27.1 s36.2.2 y43 hy44 W2 A0_0 p0.fNodes.length c0_0 rfl ((RdL.arg hr0_0) W2 hW2) A0_1 p0.fClaims.length c0_1 ys0_1 rfl ((RdL.arg hr0_1) W2 hW2) (NestL.at (NestL.arg hN0_1) W2 hW2) W (fun _ => True) (fun W3 hb => ⟨belowT hW2.below hb,trivial⟩) (PvL.of_nest hN0_1)) ?_
              rintro ⟨⟨A49,n51,c50⟩,⟨A53,n55,c54⟩,ys58,F59⟩ ⟨hn52,hn56,hP57,hV60⟩
              replace hn52 : n51 = y43.1.fNodes.length:=hn52; subst hn52
              replace hn56 : n55 = y43.1.fClaims.length:=hn56; subst hn56
              try dsimp only [lna,lca,lsz,lss]
              refine ox_y rfl (y_move_tuple rfl) ?_
              refine ox_y rfl (y_extract (vs:=[.agg #[.slice A49 y43.1.fNodes.length c50,.slice A53 y43.1.fClaims.length c54],.int .i64 y43.2]) (v:=.agg #[.slice A49 y43.1.fNodes.length c50,.slice A53 y43.1.fClaims.length c54]) rfl rfl) ?_
              refine ox_y rfl (y_extract (vs:=[.agg #[.slice A49 y43.1.fNodes.length c50,.slice A53 y43.1.fClaims.length c54],.int .i64 y43.2]) (v:=.int .i64 y43.2) rfl rfl) ?_
              refine ox_alloc ze_25 rfl (fun b61 => ?_)
              try dsimp only [lna,lca,lsz,lss]
              refine ox_n rfl (y_storeN 6 [.slice A49 y43.1.fNodes.length c50,.slice A53 y43.1.fClaims.length c54] sz_25 rfl (Nat.le_of_ble_eq_true rfl) rfl rfl rfl) ?_
              refine ox_y rfl (y_assign_int rfl) ?_
              refine ox_nil (ex_then (cx_seq (cx_region ?_)))
              refine ox_y rfl (y_loadN 6 [.slice A49 y43.1.fNodes.length c50,.slice A53 y43.1.fClaims.length c54] ag_25 rfl rfl rfl) ?_
              refine ox_y rfl (y_move_slice rfl) ?_
              obtain ⟨y62,hy63,h⟩:=bind_some h
              refine ox_call [.agg #[.slice A49 y43.1.fNodes.length c50,.slice A53 y43.1.fClaims.length c54],.slice A1_0 p1.length c1_0,.bool true] _ _ _ rfl go_23 rfl (fun W2 hW2 => recall_Recall_ok y43.1 p1 true y62 hy63 W2 A49 y43.1.fNodes.length c50 rfl ((RdL.row 3 rfl) W2 hW2) A53 y43.1.fClaims.length c54 ys58 rfl ((RdL.row 4 rfl) W2 hW2) (NestL.at (PvL.nestL hP57 hV60 (fun W2 hW2 => ⟨hW2.below,trivial,hW2.mem (i:=5) rfl⟩)) W2 hW2) A1_0 p1.length c1_0 rfl ((RdL.arg hr1_0) W2 hW2)) ?_
              rintro ⟨A64,n66,c65⟩ hn67
              replace hn67 : n66 = y62.1.length:=hn67; subst hn67
              try dsimp only [lna,lca,lsz,lss]
              refine ox_y rfl (y_move_tuple rfl) ?_
              refine ox_y rfl (y_extract (vs:=[.slice A64 y62.1.length c65,.int .i64 y62.2.1,.int .i64 y62.2.2]) (v:=.slice A64 y62.1.length c65) rfl rfl) ?_
              refine ox_y rfl (y_extract (vs:=[.slice A64 y62.1.length c65,.int .i64 y62.2.1,.int .i64 y62.2.2]) (v:=.int .i64 y62.2.1) rfl rfl) ?_
              refine ox_y rfl (y_extract (vs:=[.slice A64 y62.1.length c65,.int .i64 y62.2.1,.int .i64 y62.2.2]) (v:=.int .i64 y62.2.2) rfl rfl) ?_
              refine ox_y rfl (y_assign_slice rfl) ?_
              refine ox_y rfl (y_assign_int rfl) ?_
              refine ox_y rfl (y_assign_int rfl) ?_
              refine ox_nil (ex_then (cx_seq (cx_region ?_)))
              refine ox_y rfl (y_loadN 6 [.slice A49 y43.1.fNodes.length c50,.slice A53 y43.1.fClaims.length c54] ag_25 rfl rfl rfl) ?_
              refine ox_y rfl (y_move_slice rfl) ?_
              obtain ⟨y68,hy69,h⟩:=bind_some h
              refine ox_call [.agg #[.slice A49 y43.1.fNodes.length c50,.slice A53 y43.1.fClaims.length c54],.slice A1_0 p1.length c1_0,.bool false] _ _ _ rfl go_23 rfl (fun W2 hW2 => recall_Recall_ok y43.1 p1 false y68 hy69 W2 A49 y43.1.fNodes.length c50 rfl ((RdL.row 3 rfl) W2 hW2) A53 y43.1.fClaims.length c54 ys58 rfl ((RdL.row 4 rfl) W2 hW2) (NestL.at (PvL.nestL hP57 hV60 (fun W2 hW2 => ⟨hW2.below,trivial,hW2.mem (i:=5) rfl⟩)) W2 hW2) A1_0 p1.length c1_0 rfl ((RdL.arg hr1_0) W2 hW2)) ?_
              rintro ⟨A70,n72,c71⟩ hn73
              replace hn73 : n72 = y68.1.length:=hn73; subst hn73
              try dsimp only [lna,lca,lsz,lss]
              refine ox_y rfl (y_move_tuple rfl) ?_
              refine ox_y rfl (y_extract (vs:=[.slice A70 y68.1.length c71,.int .i64 y68.2.1,.int .i64 y68.2.2]) (v:=.slice A70 y68.1.length c71) rfl rfl) ?_
              refine ox_y rfl (y_extract (vs:=[.slice A70 y68.1.length c71,.int .i64 y68.2.1,.int .i64 y68.2.2]) (v:=.int .i64 y68.2.1) rfl rfl) ?_
              refine ox_y rfl (y_extract (vs:=[.slice A70 y68.1.length c71,.int .i64 y68.2.1,.int .i64 y68.2.2]) (v:=.int .i64 y68.2.2) rfl rfl) ?_
              refine ox_y rfl (y_assign_slice rfl) ?_
              refine ox_y rfl (y_assign_int rfl) ?_
              refine ox_y rfl (y_assign_int rfl) ?_
              refine ox_nil (ex_then (cx_seq (cx_seq (cx_region ?_))))
              refine ox_y rfl (y_move_int rfl) ?_
              refine ox_y rfl (y_neq rfl rfl) ?_
              refine ox_y rfl (y_move_bool rfl) ?_
              refine ox_join 3 (fun tm0 => (upd (upd (upd (upd (upd (upd (upd (upd (upd (upd (upd (upd (upd (upd (upd (upd (upd (upd (upd (upd (upd tm0 1 (.slice A1_0 p1.length c1_0)) 2 (.pointer (some ⟨b1,0,none⟩))) 4 (.bool s36.1)) 5 (.bool y2)) 68 (.bool (((!y22) || (decide (y14.2.1 < y8.2.1))) || (decide (y8.2.1 < 0))))) 12 (.int .i64 y27.1)) 13 (.int .i64 y27.2.1)) 14 (.int .i64 y27.2.2)) 77 (.bool (y27.2.2 != 0))) 15 (.int .i64 s36.2.1)) 16 (.int .i64 s32.2.2)) 87 (.bool (decide (s32.2.2 < (p0.fClaims.length:Int))))) 17 (.int .i64 s36.2.2)) 108 (.bool b40)) 18 (.pointer (some ⟨b61,0,none⟩))) 19 (.int .i64 y43.2)) 21 (.int .i64 y62.2.1)) 22 (.int .i64 y62.2.2)) 24 (.int .i64 y68.2.1)) 25 (.int .i64 y68.2.2)) 137 (.bool ((y43.2 != 0) || (y62.2.2 != 0))))) (fun tm0 => ?_) (fun key => ?_)
              ·refine ox_y rfl (y_move_bool rfl) ?_
               refine ox_join 3 (fun tm0 => (upd (upd (upd (upd (upd (upd (upd (upd (upd (upd (upd (upd (upd (upd (upd (upd (upd (upd (upd (upd (upd tm0 1 (.slice A1_0 p1.length c1_0)) 2 (.pointer (some ⟨b1,0,none⟩))) 4 (.bool s36.1)) 5 (.bool y2)) 68 (.bool (((!y22) || (decide (y14.2.1 < y8.2.1))) || (decide (y8.2.1 < 0))))) 12 (.int .i64 y27.1)) 13 (.int .i64 y27.2.1)) 14 (.int .i64 y27.2.2)) 77 (.bool (y27.2.2 != 0))) 15 (.int .i64 s36.2.1)) 16 (.int .i64 s32.2.2)) 87 (.bool (decide (s32.2.2 < (p0.fClaims.length:Int))))) 17 (.int .i64 s36.2.2)) 108 (.bool b40)) 18 (.pointer (some ⟨b61,0,none⟩))) 19 (.int .i64 y43.2)) 21 (.int .i64 y62.2.1)) 22 (.int .i64 y62.2.2)) 24 (.int .i64 y68.2.1)) 25 (.int .i64 y68.2.2)) 141 (.bool (((y43.2 != 0) || (y62.2.2 != 0)) || (y68.2.2 != 0))))) (fun tm0 => ?_) (fun key => ?_)
               ·refine ox_nil (ex_then ?_)
                rcases ite_some h with ⟨hp76,h⟩ | ⟨hp76,h⟩
                ·refine cx_true (congrArg Value.bool hp76) ?_
                 refine cx_seq (cx_region ?_)
                 refine ox_y rfl (y_assign_bool rfl) ?_
                 refine ox_nil (ex_then (cx_ret (ex_then_ret (ex_block_ret (ex_then_ret ?_)))))
                 refine ex_take 3 ?_
                 obtain rfl:=Option.some.inj h
                 exact ex_stop ⟨rfl,_,rfl,(keep (keep (keep (keep (keep (keep (keep (keep (keep (keep (keep (keep (keep rfl rfl) rfl) rfl) rfl) rfl) rfl) rfl) rfl) rfl) rfl) rfl) rfl) rfl)⟩
                ·refine cx_false (congrArg Value.bool hp76) ?_
                 refine cx_skip (ex_then (cx_region ?_))
                 refine ox_y rfl (y_move_int rfl) ?_
                 refine ox_y rfl (y_move_int rfl) ?_
                 refine ox_y rfl (y_move_int rfl) ?_
                 refine ox_y rfl (y_sub rfl rfl) ?_
                 refine ox_y rfl (y_max rfl rfl) ?_
                 refine ox_y rfl (y_assign_int rfl) ?_
                 refine ox_nil ?_
                 refine ex_block ?_
                 refine ex_then (cx_region ?_)
                 refine ox_y rfl (y_move_int rfl) ?_
                 refine ox_y rfl (y_add rfl rfl) ?_
                 refine ox_y rfl (y_assign_int rfl) ?_
                 refine ox_nil ?_
                 refine ex_take 3 ?_
                 obtain rfl:=Option.some.inj h
                 exact ex_next ⟨_,rfl,(keep (keep (keep (keep (keep (keep (keep (keep (keep (keep (keep (keep (keep rfl rfl) rfl) rfl) rfl) rfl) rfl) rfl) rfl) rfl) rfl) rfl) rfl) rfl)⟩
               ·rcases bool_cases ((y43.2 != 0) || (y62.2.2 != 0)) with hp75 | hp75
                ·refine ox_skip (sees_f rfl rfl rfl rfl hp75) ?_
                 refine ox_skip (sees_f rfl rfl rfl rfl hp75) ?_
                 refine ox_y rfl (y_pick_tb (congrArg Value.bool hp75) rfl) ?_
                 exact key _ _ (keep (keep (keep (keep (keep (keep (keep (keep (keep (keep (keep (keep (keep (keep (keep (keep (keep (keep (keep (keep (keep rfl rfl) rfl) rfl) rfl) rfl) rfl) rfl) rfl) rfl) rfl) rfl) rfl) rfl) rfl) rfl) rfl) rfl) rfl) rfl) rfl) (congrArg Value.bool (or_t hp75)))
                ·refine ox_y (sees_t rfl rfl rfl rfl hp75) (y_move_int rfl) ?_
                 refine ox_y (sees_t rfl rfl rfl rfl hp75) (y_neq rfl rfl) ?_
                 refine ox_y rfl (y_pick_fb (congrArg Value.bool hp75) rfl) ?_
                 exact key _ _ (keep (keep (keep (keep (keep (keep (keep (keep (keep (keep (keep (keep (keep (keep (keep (keep (keep (keep (keep (keep (keep rfl rfl) rfl) rfl) rfl) rfl) rfl) rfl) rfl) rfl) rfl) rfl) rfl) rfl) rfl) rfl) rfl) rfl) rfl) rfl) rfl) (congrArg Value.bool (or_f hp75)))
              ·rcases bool_cases (y43.2 != 0) with hp74 | hp74
               ·refine ox_skip (sees_f rfl rfl rfl rfl hp74) ?_
                refine ox_skip (sees_f rfl rfl rfl rfl hp74) ?_
                refine ox_y rfl (y_pick_tb (congrArg Value.bool hp74) rfl) ?_
                exact key _ _ (keep (keep (keep (keep (keep (keep (keep (keep (keep (keep (keep (keep (keep (keep (keep (keep (keep (keep (keep (keep (keep rfl rfl) rfl) rfl) rfl) rfl) rfl) rfl) rfl) rfl) rfl) rfl) rfl) rfl) rfl) rfl) rfl) rfl) rfl) rfl) rfl) (congrArg Value.bool (or_t hp74)))
               ·refine ox_y (sees_t rfl rfl rfl rfl hp74) (y_move_int rfl) ?_
                refine ox_y (sees_t rfl rfl rfl rfl hp74) (y_neq rfl rfl) ?_
                refine ox_y rfl (y_pick_fb (congrArg Value.bool hp74) rfl) ?_
                exact key _ _ (keep (keep (keep (keep (keep (keep (keep (keep (keep (keep (keep (keep (keep (keep (keep (keep (keep (keep (keep (keep (keep rfl rfl) rfl) rfl) rfl) rfl) rfl) rfl) rfl) rfl) rfl) rfl) rfl) rfl) rfl) rfl) rfl) rfl) rfl) rfl) rfl) (congrArg Value.bool (or_f hp74)))
             ·refine cx_false (congrArg Value.bool hp42) ?_
              refine cx_exit ?_
              refine ex_then_exit ?_
              obtain rfl:=Option.some.inj h
              exact ex_stop ⟨rfl,_,rfl,(keep (keep (keep (keep (keep (keep (keep (keep (keep (keep (keep (keep (keep rfl rfl) rfl) rfl) rfl) rfl) rfl) rfl) rfl) rfl) rfl) rfl) rfl) rfl)⟩
            ·clear h; rcases ite_some hb41 with ⟨hp39,h⟩ | ⟨hp39,h⟩
             ·refine ox_y (sees_t rfl rfl rfl rfl hp39) (y_move_int rfl) ?_
              refine ox_y (sees_t rfl rfl rfl rfl hp39) (y_fieldAddr fo_25_1 rfl) ?_
              refine ox_y (sees_t rfl rfl rfl rfl hp39) (y_load1 0 (v:=.slice A0_1 p0.fClaims.length c0_1) sc_23 rfl rfl rfl) ?_
              refine ox_y (sees_t rfl rfl rfl rfl hp39) (y_move_int rfl) ?_
              obtain ⟨hg77,h⟩:=guardO_some h
              refine ox_y (sees_t rfl rfl rfl rfl hp39) (y_indexR sl_23 (by decide) hg77.1 hg77.2 (RdL.arg hr0_1) (encL_len TClaim_cells2_len (NestP.hn hN0_1.p rfl)) rfl rfl) ?_
              refine ox_y (sees_t rfl rfl rfl rfl hp39) (y_fieldAddrR (A:=A0_1) (j:=(Int.toNat s32.2.2 * 2)) fo_35_1 rfl) ?_
              refine ox_y (sees_t rfl rfl rfl rfl hp39) (y_loadR1 (A:=A0_1) (j:=((Int.toNat s32.2.2 * 2) + 1)) (v:=.slice ((rdL ys0_1 s32.2.2).1.1) ((rdL p0.fClaims s32.2.2).fOptions.length) ((rdL ys0_1 s32.2.2).1.2.2)) sc_33 (RdL.arg hr0_1) rfl (encL_get TClaim_cells2_len hg77.1 (lt_nat hg77.2 (NestP.hn hN0_1.p rfl)) (congrArg (fun n : Nat => some (Value.slice (rdL ys0_1 s32.2.2).1.1 n (rdL ys0_1 s32.2.2).1.2.2)) (NestP.len hN0_1.p hg77.1 (lt_nat hg77.2 rfl))))) ?_
              refine ox_y (sees_t rfl rfl rfl rfl hp39) (y_len (us:=[]) us_33 rfl) ?_
              refine ox_y (sees_t rfl rfl rfl rfl hp39) (y_lss rfl rfl) ?_
              refine ox_y rfl (y_pick_tb (congrArg Value.bool hp39) rfl) ?_
              obtain rfl:=Option.some.inj h
              exact key _ _ (keep (keep (keep (keep (keep (keep (keep (keep (keep (keep (keep (keep (keep (keep rfl rfl) rfl) rfl) rfl) rfl) rfl) rfl) rfl) rfl) rfl) rfl) rfl) rfl) rfl)
             ·refine ox_skip (sees_f rfl rfl rfl rfl hp39) ?_
              refine ox_skip (sees_f rfl rfl rfl rfl hp39) ?_
              refine ox_skip (sees_f rfl rfl rfl rfl hp39) ?_
              refine ox_skip (sees_f rfl rfl rfl rfl hp39) ?_
              refine ox_skip (sees_f rfl rfl rfl rfl hp39) ?_
              refine ox_skip (sees_f rfl rfl rfl rfl hp39) ?_
              refine ox_skip (sees_f rfl rfl rfl rfl hp39) ?_
              refine ox_skip (sees_f rfl rfl rfl rfl hp39) ?_
              refine ox_skip (sees_f rfl rfl rfl rfl hp39) ?_
              refine ox_y rfl (y_pick_fb (congrArg Value.bool hp39) rfl) ?_
              obtain rfl:=Option.some.inj h
              exact key _ _ (keep (keep (keep (keep (keep (keep (keep (keep (keep (keep (keep (keep (keep (keep rfl rfl) rfl) rfl) rfl) rfl) rfl) rfl) rfl) rfl) rfl) rfl) rfl) rfl) rfl)
           ·intro e L tm hJ
            rcases u37 with u79 | u80
            ·dsimp only at h hJ
             obtain ⟨rfl,tm0_u79,rfl,rfl⟩:=hJ
             refine ⟨(by intro hc; cases hc),?_⟩
             refine ex_block_ret (ex_block_ret (ex_then_ret ?_))
             obtain rfl:=Option.some.inj h
             exact ex_stop ⟨rfl,_,rfl,(keep (keep (keep (keep (keep (keep (keep (keep (keep (keep (keep rfl rfl) rfl) rfl) rfl) rfl) rfl) rfl) rfl) rfl) rfl) rfl)⟩
            ·dsimp only at h hJ
             obtain ⟨rfl,tm0_u80,rfl,rfl⟩:=hJ
             refine ⟨(by intro hc; cases hc),?_⟩
             refine ex_block_here ?_
             refine ex_block ?_
             refine ex_then (cx_region ?_)
             refine ox_y rfl (y_move_int rfl) ?_
             refine ox_y rfl (y_add rfl rfl) ?_
             refine ox_y rfl (y_assign_int rfl) ?_
             refine ox_nil ?_
             obtain rfl:=Option.some.inj h
             exact ex_next ⟨_,rfl,(keep (keep (keep (keep (keep (keep (keep (keep (keep (keep (keep rfl rfl) rfl) rfl) rfl) rfl) rfl) rfl) rfl) rfl) rfl) rfl)⟩
          ·refine cx_false (congrArg Value.bool hp34) ?_
           refine cx_exit ?_
           refine ex_then_exit ?_
           obtain rfl:=Option.some.inj h
           exact ex_stop ⟨rfl,_,rfl,(keep (keep (keep (keep (keep (keep (keep (keep (keep (keep (keep rfl rfl) rfl) rfl) rfl) rfl) rfl) rfl) rfl) rfl) rfl) rfl)⟩
         ·intro e L tm hJ
          rcases u33 with u82 | u83
          ·dsimp only at h hJ
           obtain ⟨rfl,tm0_u82,rfl,rfl⟩:=hJ
           refine ⟨(by intro hc; cases hc),?_⟩
           refine ex_block_ret (ex_then_ret ?_)
           obtain rfl:=Option.some.inj h
           exact ex_res1 (.inl rfl) rfl (resV_tmp (v:=.bool u82.1) rfl) (fun W2 hW2 => ⟨rfl,hW2.none⟩)
          ·dsimp only at h hJ
           obtain ⟨rfl,tm0_u83,rfl,rfl⟩:=hJ
           refine ⟨(by intro hc; cases hc),?_⟩
           refine ex_block_here ?_
           refine ex_then (cx_seq (cx_region ?_))
           refine ox_y rfl (y_move_bool rfl) ?_
           refine ox_y rfl (y_move_bool rfl) ?_
           refine ox_join 4 (fun tm0 => (upd (upd tm0 4 (.bool u83.1)) 152 (.bool (y2 && (u83.2.1 == y27.2.1))))) (fun tm0 => ?_) (fun key => ?_)
           ·refine ox_y rfl (y_assign_bool rfl) ?_
            refine ox_nil (ex_then (cx_ret ?_))
            obtain rfl:=Option.some.inj h
            exact ex_res1 (.inl rfl) rfl (resV_tmp (v:=.bool (y2 && (u83.2.1 == y27.2.1))) rfl) (fun W2 hW2 => ⟨rfl,hW2.none⟩)
           ·rcases bool_cases y2 with hp84 | hp84
            ·refine ox_y (sees_t rfl rfl rfl rfl hp84) (y_move_int rfl) ?_
             refine ox_y (sees_t rfl rfl rfl rfl hp84) (y_move_int rfl) ?_
             refine ox_y (sees_t rfl rfl rfl rfl hp84) (y_eql rfl rfl) ?_
             refine ox_y rfl (y_pick_tb (congrArg Value.bool hp84) rfl) ?_
             exact key _ _ (keep (keep rfl rfl) (congrArg Value.bool (and_t hp84)))
            ·refine ox_skip (sees_f rfl rfl rfl rfl hp84) ?_
             refine ox_skip (sees_f rfl rfl rfl rfl hp84) ?_
             refine ox_skip (sees_f rfl rfl rfl rfl hp84) ?_
             refine ox_y rfl (y_pick_fb (congrArg Value.bool hp84) rfl) ?_
             exact key _ _ (keep (keep rfl rfl) (congrArg Value.bool (and_f hp84)))
      ·rcases bool_cases ((!y22) || (decide (y14.2.1 < y8.2.1))) with hp25 | hp25
       ·refine ox_skip (sees_f rfl rfl rfl rfl hp25) ?_
        refine ox_skip (sees_f rfl rfl rfl rfl hp25) ?_
        refine ox_y rfl (y_pick_tb (congrArg Value.bool hp25) rfl) ?_
        exact key _ _ (keep (keep (keep (keep (keep rfl rfl) rfl) rfl) rfl) (congrArg Value.bool (or_t hp25)))
       ·refine ox_y (sees_t rfl rfl rfl rfl hp25) (y_move_int rfl) ?_
        refine ox_y (sees_t rfl rfl rfl rfl hp25) (y_lss rfl rfl) ?_
        refine ox_y rfl (y_pick_fb (congrArg Value.bool hp25) rfl) ?_
        exact key _ _ (keep (keep (keep (keep (keep rfl rfl) rfl) rfl) rfl) (congrArg Value.bool (or_f hp25)))
     ·rcases bool_cases (!y22) with hp24 | hp24
      ·refine ox_skip (sees_f rfl rfl rfl rfl hp24) ?_
       refine ox_skip (sees_f rfl rfl rfl rfl hp24) ?_
       refine ox_skip (sees_f rfl rfl rfl rfl hp24) ?_
       refine ox_y rfl (y_pick_tb (congrArg Value.bool hp24) rfl) ?_
       exact key _ _ (keep (keep (keep (keep (keep (keep rfl rfl) rfl) rfl) rfl) rfl) (congrArg Value.bool (or_t hp24)))
      ·refine ox_y (sees_t rfl rfl rfl rfl hp24) (y_move_int rfl) ?_
       refine ox_y (sees_t rfl rfl rfl rfl hp24) (y_move_int rfl) ?_
       refine ox_y (sees_t rfl rfl rfl rfl hp24) (y_gtr rfl rfl) ?_
       refine ox_y rfl (y_pick_fb (congrArg Value.bool hp24) rfl) ?_
       exact key _ _ (keep (keep (keep (keep (keep (keep rfl rfl) rfl) rfl) rfl) rfl) (congrArg Value.bool (or_f hp24)))
 ·rcases bool_cases (!y4) with hp6 | hp6
  ·refine ox_skip (sees_f rfl rfl rfl rfl hp6) ?_
   refine ox_skip (sees_f rfl rfl rfl rfl hp6) ?_
   refine ox_skip (sees_f rfl rfl rfl rfl hp6) ?_
   refine ox_y rfl (y_pick_tb (congrArg Value.bool hp6) rfl) ?_
   exact key _ _ (keep (keep (keep (keep (keep rfl rfl) rfl) rfl) rfl) (congrArg Value.bool (or_t hp6)))
  ·refine ox_y (sees_t rfl rfl rfl rfl hp6) (y_move_slice rfl) ?_
   refine ox_y (sees_t rfl rfl rfl rfl hp6) (y_len (us:=[]) us_32 rfl) ?_
   refine ox_y (sees_t rfl rfl rfl rfl hp6) (y_gtr rfl rfl) ?_
   refine ox_y rfl (y_pick_fb (congrArg Value.bool hp6) rfl) ?_
   exact key _ _ (keep (keep (keep (keep (keep rfl rfl) rfl) rfl) rfl) (congrArg Value.bool (or_f hp6)))

end Go.Proofs.Ytbblpokfbmekfaa
