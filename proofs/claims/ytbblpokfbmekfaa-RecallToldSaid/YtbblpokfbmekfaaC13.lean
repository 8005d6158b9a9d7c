import Derived.Test.YtbblpokfbmekfaaF
import Derived.Test.YtbblpokfbmekfaaG8
import Derived.Test.YtbblpokfbmekfaaC1
import Derived.Test.YtbblpokfbmekfaaC2
import Derived.Test.YtbblpokfbmekfaaC9
/- The calls hand back what the plain functions say. -/
set_option linter.unusedVariables false
set_option maxHeartbeats 4000000
set_option maxRecDepth 100000
namespace Go.Proofs.Ytbblpokfbmekfaa
open Go.RowKit (Below)
attribute [local irreducible] OX QX CX EX OpY Calls CallsIn

theorem calxlaw09_RecallTold_ok (p0:TLineage) (p1:(List Int)) (p2:Int) (p3:Int) (res:Bool) (h:calxlaw09_RecallTold p0 p1 p2 p3 = some res) (W:World) (A0_0:Option Addr) (n0_0 c0_0 : Nat) (hn0_0:n0_0 = p0.fNodes.length) (hr0_0:Rd W A0_0 n0_0 c0_0 (encL TNode_cells p0.fNodes)) (A0_1:Option Addr) (n0_1 c0_1 : Nat) (ys0_1:List (Hd × TClaim)) (hn0_1:n0_1 = p0.fClaims.length) (hr0_1:Rd W A0_1 n0_1 c0_1 (encL TClaim_cells2 ys0_1)) (hN0_1:NestW W (fun z : TClaim => z.fOptions) THop_cells ys0_1 p0.fClaims) (A1_0:Option Addr) (n1_0 c1_0 : Nat) (hn1_0:n1_0 = p1.length) (hr1_0:Rd W A1_0 n1_0 c1_0 (encL cI p1)) :
  Calls Try.prog 6 [.agg #[.slice A0_0 n0_0 c0_0,.slice A0_1 n0_1 c0_1],.slice A1_0 n1_0 c1_0,.int .i64 p2,.int .u8 p3].toArray W fun e W2 => e = .returned (.bool res) ∧ Ext W W2 []:=by
 subst hn0_0
 subst hn0_1
 subst hn1_0
 unfold calxlaw09_RecallTold at h
 refine calls_enter (m:=261) Try.func6 rfl rfl (Nat.le_of_ble_eq_true rfl) ?_
 refine cx_seq (cx_region ?_)
 refine ox_box [.slice A0_0 p0.fNodes.length c0_0,.slice A0_1 p0.fClaims.length c0_1] rfl rfl rfl (fun b1 => ?_)
 refine ox_y rfl (y_assign_bool rfl) ?_
 refine ox_nil (ex_then (cx_seq (cx_region ?_)))
 obtain ⟨y2,hy3,h⟩:=bind_some h
 refine ox_y rfl (y_call [] go_10 rfl (fun W2 hW2 => calxlaw09_head_ok  y2 hy3 W2 ) rfl) ?_
 refine ox_y rfl (y_assign_bool rfl) ?_
 refine ox_nil (ex_then (cx_seq (cx_seq (cx_region ?_))))
 refine ox_y rfl (y_loadN 0 [.slice A0_0 p0.fNodes.length c0_0,.slice A0_1 p0.fClaims.length c0_1] ag_25 rfl rfl rfl) ?_
 obtain ⟨y4,hy5,h⟩:=bind_some h
 refine ox_y rfl (y_call [.agg #[.slice A0_0 p0.fNodes.length c0_0,.slice A0_1 p0.fClaims.length c0_1]] go_11 rfl (fun W2 hW2 => calxlaw09_few_ok p0 y4 hy5 W2 A0_0 p0.fNodes.length c0_0 rfl ((RdL.arg hr0_0) W2 hW2) A0_1 p0.fClaims.length c0_1 ys0_1 rfl ((RdL.arg hr0_1) W2 hW2) (NestL.at (NestL.arg hN0_1) W2 hW2)) rfl) ?_
 refine ox_y rfl (y_not rfl) ?_
 refine ox_y rfl (y_move_bool rfl) ?_
 refine ox_join 4 (fun tm0 => (upd (upd (upd (upd (upd (upd (upd tm0 1 (.slice A1_0 p1.length c1_0)) 2 (.int .i64 p2)) 3 (.int .u8 p3)) 4 (.pointer (some ⟨b1,0,none⟩))) 8 (.bool false)) 9 (.bool y2)) 41 (.bool ((!y4) || (decide (30 < (p1.length:Int))))))) (fun tm0 => ?_) (fun key => ?_)
 ·refine ox_y rfl (y_move_bool rfl) ?_
  refine ox_join 5 (fun tm0 => (upd (upd (upd (upd (upd (upd (upd tm0 1 (.slice A1_0 p1.length c1_0)) 2 (.int .i64 p2)) 3 (.int .u8 p3)) 4 (.pointer (some ⟨b1,0,none⟩))) 8 (.bool false)) 9 (.bool y2)) 47 (.bool (((!y4) || (decide (30 < (p1.length:Int)))) || ((p0.fClaims.length:Int) == 0))))) (fun tm0 => ?_) (fun key => ?_)
  ·refine ox_nil (ex_then ?_)
   rcases ite_some h with ⟨hp8,h⟩ | ⟨hp8,h⟩
   ·refine cx_true (congrArg Value.bool hp8) ?_
    refine cx_seq (cx_region ?_)
    refine ox_y rfl (y_move_bool rfl) ?_
    refine ox_y rfl (y_assign_bool rfl) ?_
    refine ox_nil (ex_then (cx_ret (ex_then_ret ?_)))
    obtain rfl:=Option.some.inj h
    exact ex_res1 (.inl rfl) rfl (resV_tmp (v:=.bool y2) rfl) (fun W2 hW2 => ⟨rfl,hW2.none⟩)
   ·refine cx_false (congrArg Value.bool hp8) ?_
    refine cx_skip (ex_then (cx_seq (cx_region ?_)))
    refine ox_y rfl (y_loadN 0 [.slice A0_0 p0.fNodes.length c0_0,.slice A0_1 p0.fClaims.length c0_1] ag_25 rfl rfl rfl) ?_
    refine ox_y rfl (y_move_slice rfl) ?_
    refine ox_y rfl (y_move_int rfl) ?_
    obtain ⟨y9,hy10,h⟩:=bind_some h
    refine ox_y rfl (y_call [.agg #[.slice A0_0 p0.fNodes.length c0_0,.slice A0_1 p0.fClaims.length c0_1],.slice A1_0 p1.length c1_0,.int .i64 p2] go_19 rfl (fun W2 hW2 => recall_Share_ok p0 p1 p2 y9 hy10 W2 A0_0 p0.fNodes.length c0_0 rfl ((RdL.arg hr0_0) W2 hW2) A0_1 p0.fClaims.length c0_1 ys0_1 rfl ((RdL.arg hr0_1) W2 hW2) (NestL.at (NestL.arg hN0_1) W2 hW2) A1_0 p1.length c1_0 rfl ((RdL.arg hr1_0) W2 hW2)) rfl) ?_
    refine ox_y rfl (y_move_tuple rfl) ?_
    refine ox_y rfl (y_extract (vs:=[.agg #[.int .i64 y9.1.fNum,.int .i64 y9.1.fDen],.int .i64 y9.2]) (v:=.agg #[.int .i64 y9.1.fNum,.int .i64 y9.1.fDen]) rfl rfl) ?_
    refine ox_y rfl (y_extract (vs:=[.agg #[.int .i64 y9.1.fNum,.int .i64 y9.1.fDen],.int .i64 y9.2]) (v:=.int .i64 y9.2) rfl rfl) ?_
    refine ox_alloc ze_43 rfl (fun b11 => ?_)
    refine ox_n rfl (y_storeN 1 [.int .i64 y9.1.fNum,.int .i64 y9.1.fDen] sz_43 rfl (Nat.le_of_ble_eq_true rfl) rfl rfl rfl) ?_
    refine ox_y rfl (y_assign_int rfl) ?_
    refine ox_nil (ex_then (cx_seq (cx_seq (cx_region ?_))))
    refine ox_y rfl (y_move_int rfl) ?_
    refine ox_y rfl (y_neq rfl rfl) ?_
    refine ox_nil (ex_then ?_)
    rcases ite_some h with ⟨hp12,h⟩ | ⟨hp12,h⟩
    ·refine cx_true (congrArg Value.bool hp12) ?_
     refine cx_seq (cx_region ?_)
     refine ox_y rfl (y_move_bool rfl) ?_
     refine ox_y rfl (y_assign_bool rfl) ?_
     refine ox_nil (ex_then (cx_ret (ex_then_ret ?_)))
     obtain rfl:=Option.some.inj h
     exact ex_res1 (.inl rfl) rfl (resV_tmp (v:=.bool y2) rfl) (fun W2 hW2 => ⟨rfl,hW2.none⟩)
    ·refine cx_false (congrArg Value.bool hp12) ?_
     refine cx_skip (ex_then (cx_seq (cx_region ?_)))
     refine ox_y rfl (y_loadN 0 [.slice A0_0 p0.fNodes.length c0_0,.slice A0_1 p0.fClaims.length c0_1] ag_25 rfl rfl rfl) ?_
     refine ox_y rfl (y_move_slice rfl) ?_
     obtain ⟨y13,hy14,h⟩:=bind_some h
     refine ox_call [.agg #[.slice A0_0 p0.fNodes.length c0_0,.slice A0_1 p0.fClaims.length c0_1],.slice A1_0 p1.length c1_0] _ _ _ rfl go_16 rfl (fun W2 hW2 => recall_Surely_ok p0 p1 y13 hy14 W2 A0_0 p0.fNodes.length c0_0 rfl ((RdL.arg hr0_0) W2 hW2) A0_1 p0.fClaims.length c0_1 ys0_1 rfl ((RdL.arg hr0_1) W2 hW2) (NestL.at (NestL.arg hN0_1) W2 hW2) A1_0 p1.length c1_0 rfl ((RdL.arg hr1_0) W2 hW2)) ?_
     rintro ⟨A15,n17,c16⟩ hn18
     replace hn18 : n17 = y13.1.length:=hn18; subst hn18
     refine ox_y rfl (y_move_tuple rfl) ?_
     refine ox_y rfl (y_extract (vs:=[.slice A15 y13.1.length c16,.int .i64 y13.2]) (v:=.slice A15 y13.1.length c16) rfl rfl) ?_
     refine ox_y rfl (y_extract (vs:=[.slice A15 y13.1.length c16,.int .i64 y13.2]) (v:=.int .i64 y13.2) rfl rfl) ?_
     refine ox_y rfl (y_assign_slice rfl) ?_
     refine ox_y rfl (y_assign_int rfl) ?_
     refine ox_nil (ex_then (cx_seq (cx_region ?_)))
     refine ox_y rfl (y_loadN 0 [.slice A0_0 p0.fNodes.length c0_0,.slice A0_1 p0.fClaims.length c0_1] ag_25 rfl rfl rfl) ?_
     refine ox_y rfl (y_move_slice rfl) ?_
     obtain ⟨y19,hy20,h⟩:=bind_some h
     refine ox_call [.agg #[.slice A0_0 p0.fNodes.length c0_0,.slice A0_1 p0.fClaims.length c0_1],.slice A1_0 p1.length c1_0] _ _ _ rfl go_17 rfl (fun W2 hW2 => recall_Possibly_ok p0 p1 y19 hy20 W2 A0_0 p0.fNodes.length c0_0 rfl ((RdL.arg hr0_0) W2 hW2) A0_1 p0.fClaims.length c0_1 ys0_1 rfl ((RdL.arg hr0_1) W2 hW2) (NestL.at (NestL.arg hN0_1) W2 hW2) A1_0 p1.length c1_0 rfl ((RdL.arg hr1_0) W2 hW2)) ?_
     rintro ⟨A21,n23,c22⟩ hn24
     replace hn24 : n23 = y19.1.length:=hn24; subst hn24
     refine ox_y rfl (y_move_tuple rfl) ?_
     refine ox_y rfl (y_extract (vs:=[.slice A21 y19.1.length c22,.int .i64 y19.2]) (v:=.slice A21 y19.1.length c22) rfl rfl) ?_
     refine ox_y rfl (y_extract (vs:=[.slice A21 y19.1.length c22,.int .i64 y19.2]) (v:=.int .i64 y19.2) rfl rfl) ?_
     refine ox_y rfl (y_assign_slice rfl) ?_
     refine ox_y rfl (y_assign_int rfl) ?_
     refine ox_nil (ex_then (cx_seq (cx_region ?_)))
     refine ox_y rfl (y_loadN 0 [.slice A0_0 p0.fNodes.length c0_0,.slice A0_1 p0.fClaims.length c0_1] ag_25 rfl rfl rfl) ?_
     obtain ⟨y25,hy26,h⟩:=bind_some h
     refine ox_y rfl (y_call [.agg #[.slice A0_0 p0.fNodes.length c0_0,.slice A0_1 p0.fClaims.length c0_1]] go_12 rfl (fun W2 hW2 => recall_Cases_ok p0 y25 hy26 W2 A0_0 p0.fNodes.length c0_0 rfl ((RdL.arg hr0_0) W2 hW2) A0_1 p0.fClaims.length c0_1 ys0_1 rfl ((RdL.arg hr0_1) W2 hW2) (NestL.at (NestL.arg hN0_1) W2 hW2)) rfl) ?_
     refine ox_y rfl (y_move_tuple rfl) ?_
     refine ox_y rfl (y_extract (vs:=[.int .i64 y25.1,.int .i64 y25.2]) (v:=.int .i64 y25.1) rfl rfl) ?_
     refine ox_y rfl (y_extract (vs:=[.int .i64 y25.1,.int .i64 y25.2]) (v:=.int .i64 y25.2) rfl rfl) ?_
     refine ox_y rfl (y_assign_int rfl) ?_
     refine ox_y rfl (y_assign_int rfl) ?_
     refine ox_nil (ex_then (cx_seq (cx_seq (cx_region ?_))))
     refine ox_y rfl (y_move_int rfl) ?_
     refine ox_y rfl (y_neq rfl rfl) ?_
     refine ox_y rfl (y_move_bool rfl) ?_
     refine ox_join 3 (fun tm0 => (upd (upd (upd (upd (upd (upd (upd (upd (upd (upd (upd (upd tm0 1 (.slice A1_0 p1.length c1_0)) 2 (.int .i64 p2)) 3 (.int .u8 p3)) 4 (.pointer (some ⟨b1,0,none⟩))) 8 (.bool false)) 9 (.bool y2)) 10 (.pointer (some ⟨b11,0,none⟩))) 12 (.slice A15 y13.1.length c16)) 14 (.slice A21 y19.1.length c22)) 16 (.int .i64 y25.1)) 17 (.int .i64 y25.2)) 81 (.bool ((y13.2 != 0) || (y19.2 != 0))))) (fun tm0 => ?_) (fun key => ?_)
     ·refine ox_y rfl (y_move_bool rfl) ?_
      refine ox_join 3 (fun tm0 => (upd (upd (upd (upd (upd (upd (upd (upd (upd (upd (upd tm0 1 (.slice A1_0 p1.length c1_0)) 2 (.int .i64 p2)) 3 (.int .u8 p3)) 4 (.pointer (some ⟨b1,0,none⟩))) 8 (.bool false)) 9 (.bool y2)) 10 (.pointer (some ⟨b11,0,none⟩))) 12 (.slice A15 y13.1.length c16)) 14 (.slice A21 y19.1.length c22)) 16 (.int .i64 y25.1)) 85 (.bool (((y13.2 != 0) || (y19.2 != 0)) || (y25.2 != 0))))) (fun tm0 => ?_) (fun key => ?_)
      ·refine ox_y rfl (y_move_bool rfl) ?_
       refine ox_join 4 (fun tm0 => (upd (upd (upd (upd (upd (upd (upd (upd (upd (upd (upd tm0 1 (.slice A1_0 p1.length c1_0)) 2 (.int .i64 p2)) 3 (.int .u8 p3)) 4 (.pointer (some ⟨b1,0,none⟩))) 8 (.bool false)) 9 (.bool y2)) 10 (.pointer (some ⟨b11,0,none⟩))) 12 (.slice A15 y13.1.length c16)) 14 (.slice A21 y19.1.length c22)) 16 (.int .i64 y25.1)) 90 (.bool ((((y13.2 != 0) || (y19.2 != 0)) || (y25.2 != 0)) || (decide (y9.1.fDen < 1)))))) (fun tm0 => ?_) (fun key => ?_)
       ·refine ox_y rfl (y_move_bool rfl) ?_
        obtain ⟨b31,hb32,h⟩:=bind_some h
        refine ox_join 6 (fun tm0 => (upd (upd (upd (upd (upd (upd (upd (upd (upd (upd (upd tm0 1 (.slice A1_0 p1.length c1_0)) 2 (.int .i64 p2)) 3 (.int .u8 p3)) 4 (.pointer (some ⟨b1,0,none⟩))) 8 (.bool false)) 9 (.bool y2)) 10 (.pointer (some ⟨b11,0,none⟩))) 12 (.slice A15 y13.1.length c16)) 14 (.slice A21 y19.1.length c22)) 16 (.int .i64 y25.1)) 97 (.bool b31))) (fun tm0 => ?_) (fun key => ?_)
        ·refine ox_nil (ex_then ?_)
         rcases ite_some h with ⟨hp33,h⟩ | ⟨hp33,h⟩
         ·refine cx_true (congrArg Value.bool hp33) ?_
          refine cx_seq (cx_region ?_)
          refine ox_y rfl (y_assign_bool rfl) ?_
          refine ox_nil (ex_then (cx_ret (ex_then_ret ?_)))
          obtain rfl:=Option.some.inj h
          exact ex_res1 (.inl rfl) rfl (resV_tmp (v:=.bool false) rfl) (fun W2 hW2 => ⟨rfl,hW2.none⟩)
         ·refine cx_false (congrArg Value.bool hp33) ?_
          refine cx_skip (ex_then (cx_seq ?_))
          refine cx_drawsA 10 mixed (by kernel_rfl) (by kernel_rfl) (by kernel_rfl) ?_
          refine ax_y rfl (fun _ => y_fieldAddr fo_25_1 rfl) ?_
          refine ax_y rfl (fun _ => y_load1 0 (v:=.slice A0_1 p0.fClaims.length c0_1) sc_23 rfl rfl rfl) ?_
          refine ax_y rfl (fun _ => y_move_int rfl) ?_
          refine ax_y rfl (fun _ => y_convert ui_5 ui_3 rfl) ?_
          refine ax_y rfl (fun _ => y_fieldAddr fo_25_1 rfl) ?_
          refine ax_y rfl (fun _ => y_load1 0 (v:=.slice A0_1 p0.fClaims.length c0_1) sc_23 rfl rfl rfl) ?_
          refine ax_y rfl (fun _ => y_len (us:=[]) us_23 rfl) ?_
          obtain ⟨hg34,h⟩:=guardO_some h
          refine ax_y rfl (fun _ => y_rem hg34 rfl rfl) ?_
          obtain ⟨hg35,h⟩:=guardO_some h
          refine ax_y rfl (fun _ => y_indexR sl_23 (by decide) hg35.1 hg35.2 (RdL.arg hr0_1) (encL_len TClaim_cells2_len (NestP.hn hN0_1.p rfl)) rfl rfl) ?_
          refine ax_y rfl (fun _ => y_loadRN (A:=A0_1) (j:=(Int.toNat (Int.tmod (w64 p3) (p0.fClaims.length:Int)) * 2)) [.int .i64 ((rdL p0.fClaims (Int.tmod (w64 p3) (p0.fClaims.length:Int))).fID),.slice ((rdL ys0_1 (Int.tmod (w64 p3) (p0.fClaims.length:Int))).1.1) ((rdL p0.fClaims (Int.tmod (w64 p3) (p0.fClaims.length:Int))).fOptions.length) ((rdL ys0_1 (Int.tmod (w64 p3) (p0.fClaims.length:Int))).1.2.2)] ag_35 (Nat.succ_pos _) (RdL.arg hr0_1) rfl (gets_eq (TClaim_cells2_eq (NestP.snd hN0_1.p (Int.tmod (w64 p3) (p0.fClaims.length:Int))) (NestP.len hN0_1.p hg35.1 (lt_nat hg35.2 rfl))).symm (encL_gets TClaim_cells2_len hg35.1 (lt_nat hg35.2 (NestP.hn hN0_1.p rfl))))) ?_
          refine ax_nil rfl ze_35 (fun b36 => ?_)
          refine ox_n rfl (y_storeN 4 [.int .i64 ((rdL p0.fClaims (Int.tmod (w64 p3) (p0.fClaims.length:Int))).fID),.slice ((rdL ys0_1 (Int.tmod (w64 p3) (p0.fClaims.length:Int))).1.1) ((rdL p0.fClaims (Int.tmod (w64 p3) (p0.fClaims.length:Int))).fOptions.length) ((rdL ys0_1 (Int.tmod (w64 p3) (p0.fClaims.length:Int))).1.2.2)] sz_35 rfl (Nat.le_of_ble_eq_true rfl) rfl rfl rfl) ?_
          refine ox_nil ?_
          refine ex_only ?_
          refine ex_then (cx_seq (cx_region ?_))
          refine ox_y rfl (y_assign_int rfl) ?_
          refine ox_nil (ex_then (cx_seq (cx_region ?_)))
          refine ox_y rfl (y_assign_bool rfl) ?_
          refine ox_nil (ex_then (cx_seq (cx_region ?_)))
          refine ox_y rfl (y_assign_bool rfl) ?_
          refine ox_nil (ex_then (cx_seq (cx_seq (cx_region ?_))))
          refine ox_y rfl (y_assign_int rfl) ?_
          refine ox_nil (ex_then (cx_block ?_))
          obtain ⟨u39,hl109,h⟩:=bind_some h
          refine cx_loop (fun (s:(Bool × Int × Bool × Bool × Int)) L tm => ∃ (tm0:Nat → Value),L = [cellsR b1 25 [.slice A0_0 p0.fNodes.length c0_0,.slice A0_1 p0.fClaims.length c0_1],cellsR b11 43 [.int .i64 y9.1.fNum,.int .i64 y9.1.fDen],rowR A15 c16 3 1 y13.1.length (encL cI y13.1),rowR A21 c22 3 1 y19.1.length (encL cI y19.1),cellsR b36 35 [.int .i64 ((rdL p0.fClaims (Int.tmod (w64 p3) (p0.fClaims.length:Int))).fID),.slice ((rdL ys0_1 (Int.tmod (w64 p3) (p0.fClaims.length:Int))).1.1) ((rdL p0.fClaims (Int.tmod (w64 p3) (p0.fClaims.length:Int))).fOptions.length) ((rdL ys0_1 (Int.tmod (w64 p3) (p0.fClaims.length:Int))).1.2.2)]] ∧ tm = (upd (upd (upd (upd (upd (upd (upd (upd (upd (upd (upd (upd (upd (upd (upd (upd tm0 1 (.slice A1_0 p1.length c1_0)) 2 (.int .i64 p2)) 3 (.int .u8 p3)) 4 (.pointer (some ⟨b1,0,none⟩))) 8 (.bool s.1)) 9 (.bool y2)) 10 (.pointer (some ⟨b11,0,none⟩))) 12 (.slice A15 y13.1.length c16)) 14 (.slice A21 y19.1.length c22)) 16 (.int .i64 y25.1)) 97 (.bool b31)) 18 (.pointer (some ⟨b36,0,none⟩))) 19 (.int .i64 s.2.1)) 20 (.bool s.2.2.1)) 21 (.bool s.2.2.2.1)) 22 (.int .i64 s.2.2.2.2))) (fun | (.inl s),e,L,tm => e = .ret ∧ ∃ (tm0:Nat → Value),L = [cellsR b1 25 [.slice A0_0 p0.fNodes.length c0_0,.slice A0_1 p0.fClaims.length c0_1],cellsR b11 43 [.int .i64 y9.1.fNum,.int .i64 y9.1.fDen],rowR A15 c16 3 1 y13.1.length (encL cI y13.1),rowR A21 c22 3 1 y19.1.length (encL cI y19.1),cellsR b36 35 [.int .i64 ((rdL p0.fClaims (Int.tmod (w64 p3) (p0.fClaims.length:Int))).fID),.slice ((rdL ys0_1 (Int.tmod (w64 p3) (p0.fClaims.length:Int))).1.1) ((rdL p0.fClaims (Int.tmod (w64 p3) (p0.fClaims.length:Int))).fOptions.length) ((rdL ys0_1 (Int.tmod (w64 p3) (p0.fClaims.length:Int))).1.2.2)]] ∧ tm = (upd (upd (upd (upd (upd (upd (upd (upd (upd (upd (upd (upd (upd (upd (upd (upd tm0 1 (.slice A1_0 p1.length c1_0)) 2 (.int .i64 p2)) 3 (.int .u8 p3)) 4 (.pointer (some ⟨b1,0,none⟩))) 8 (.bool s.1)) 9 (.bool y2)) 10 (.pointer (some ⟨b11,0,none⟩))) 12 (.slice A15 y13.1.length c16)) 14 (.slice A21 y19.1.length c22)) 16 (.int .i64 y25.1)) 97 (.bool b31)) 18 (.pointer (some ⟨b36,0,none⟩))) 19 (.int .i64 s.2.1)) 20 (.bool s.2.2.1)) 21 (.bool s.2.2.2.1)) 22 (.int .i64 s.2.2.2.2)) | (.inr s),e,L,tm => e = .exit 0 ∧ ∃ (tm0:Nat → Value),L = [cellsR b1 25 [.slice A0_0 p0.fNodes.length c0_0,.slice A0_1 p0.fClaims.length c0_1],cellsR b11 43 [.int .i64 y9.1.fNum,.int .i64 y9.1.fDen],rowR A15 c16 3 1 y13.1.length (encL cI y13.1),rowR A21 c22 3 1 y19.1.length (encL cI y19.1),cellsR b36 35 [.int .i64 ((rdL p0.fClaims (Int.tmod (w64 p3) (p0.fClaims.length:Int))).fID),.slice ((rdL ys0_1 (Int.tmod (w64 p3) (p0.fClaims.length:Int))).1.1) ((rdL p0.fClaims (Int.tmod (w64 p3) (p0.fClaims.length:Int))).fOptions.length) ((rdL ys0_1 (Int.tmod (w64 p3) (p0.fClaims.length:Int))).1.2.2)]] ∧ tm = (upd (upd (upd (upd (upd (upd (upd (upd (upd (upd (upd (upd (upd (upd (upd (upd tm0 1 (.slice A1_0 p1.length c1_0)) 2 (.int .i64 p2)) 3 (.int .u8 p3)) 4 (.pointer (some ⟨b1,0,none⟩))) 8 (.bool s.1)) 9 (.bool y2)) 10 (.pointer (some ⟨b11,0,none⟩))) 12 (.slice A15 y13.1.length c16)) 14 (.slice A21 y19.1.length c22)) 16 (.int .i64 y25.1)) 97 (.bool b31)) 18 (.pointer (some ⟨b36,0,none⟩))) 19 (.int .i64 s.2.1)) 20 (.bool s.2.2.1)) 21 (.bool s.2.2.2.1)) 22 (.int .i64 s.2.2.2.2))) hl109 ⟨_,rfl,(keep (keep (keep (keep (keep (keep (keep (keep (keep (keep (keep (keep (keep (keep (keep (keep rfl rfl) rfl) rfl) rfl) rfl) rfl) rfl) rfl) rfl) rfl) rfl) rfl) rfl) rfl) rfl) rfl)⟩ ?_ ?_
          ·rintro s38 L tm st ⟨tm0_s38,rfl,rfl⟩ h
           unfold calxlaw09_RecallTold_l1 at h
           refine cx_seq (cx_seq (cx_region ?_))
           refine ox_y rfl (y_move_int rfl) ?_
           refine ox_y rfl (y_fieldAddr fo_35_1 rfl) ?_
           refine ox_y rfl (y_load1 4 (v:=.slice ((rdL ys0_1 (Int.tmod (w64 p3) (p0.fClaims.length:Int))).1.1) ((rdL p0.fClaims (Int.tmod (w64 p3) (p0.fClaims.length:Int))).fOptions.length) ((rdL ys0_1 (Int.tmod (w64 p3) (p0.fClaims.length:Int))).1.2.2)) sc_33 rfl rfl rfl) ?_
           refine ox_y rfl (y_len (us:=[]) us_33 rfl) ?_
           refine ox_y rfl (y_lss rfl rfl) ?_
           refine ox_nil (ex_then ?_)
           rcases ite_some h with ⟨hp40,h⟩ | ⟨hp40,h⟩
           ·refine cx_true (congrArg Value.bool hp40) ?_
            refine cx_skip (ex_then (cx_seq (cx_block (cx_seq (cx_region ?_)))))
            refine ox_y rfl (y_loadN 0 [.slice A0_0 p0.fNodes.length c0_0,.slice A0_1 p0.fClaims.length c0_1] ag_25 rfl rfl rfl) ?_
            refine ox_y rfl (y_fieldAddr fo_35_0 rfl) ?_
            refine ox_y rfl (y_load1 4 (v:=.int .i64 ((rdL p0.fClaims (Int.tmod (w64 p3) (p0.fClaims.length:Int))).fID)) sc_3 rfl rfl rfl) ?_
            refine ox_y rfl (y_move_int rfl) ?_
            obtain ⟨y41,hy42,h⟩:=bind_some h
            refine ox_call [.agg #[.slice A0_0 p0.fNodes.length c0_0,.slice A0_1 p0.fClaims.length c0_1],.int .i64 ((rdL p0.fClaims (Int.tmod (w64 p3) (p0.fClaims.length:Int))).fID),.int .i64 s38.2.2.2.2] _ _ _ rfl go_21 rfl (fun W2 hW2 => recall_Told_ok p0 ((rdL p0.fClaims (Int.tmod (w64 p3) (p0.fClaims.length:Int))).fID) s38.2.2.2.2 y41 hy42 W2 A0_0 p0.fNodes.length c0_0 rfl ((RdL.arg hr0_0) W2 hW2) A0_1 p0.fClaims.length c0_1 ys0_1 rfl ((RdL.arg hr0_1) W2 hW2) (NestL.at (NestL.arg hN0_1) W2 hW2) W (fun _ => True) (fun W3 hb => ⟨belowT hW2.below hb,trivial⟩) (PvL.of_nest hN0_1)) ?_
            rintro ⟨⟨A47,n49,c48⟩,⟨A51,n53,c52⟩,ys56,F57⟩ ⟨hn50,hn54,hP55,hV58⟩
            replace hn50 : n49 = y41.1.fNodes.length:=hn50; subst hn50
            replace hn54 : n53 = y41.1.fClaims.length:=hn54; subst hn54
            try dsimp only [lna,lca,lsz,lss]
            refine ox_y rfl (y_move_tuple rfl) ?_
            refine ox_y rfl (y_extract (vs:=[.agg #[.slice A47 y41.1.fNodes.length c48,.slice A51 y41.1.fClaims.length c52],.int .i64 y41.2]) (v:=.agg #[.slice A47 y41.1.fNodes.length c48,.slice A51 y41.1.fClaims.length c52]) rfl rfl) ?_
            refine ox_y rfl (y_extract (vs:=[.agg #[.slice A47 y41.1.fNodes.length c48,.slice A51 y41.1.fClaims.length c52],.int .i64 y41.2]) (v:=.int .i64 y41.2) rfl rfl) ?_
            refine ox_alloc ze_25 rfl (fun b59 => ?_)
            try dsimp only [lna,lca,lsz,lss]
            refine ox_n rfl (y_storeN 8 [.slice A47 y41.1.fNodes.length c48,.slice A51 y41.1.fClaims.length c52] sz_25 rfl (Nat.le_of_ble_eq_true rfl) rfl rfl rfl) ?_
            refine ox_y rfl (y_assign_int rfl) ?_
            refine ox_nil (ex_then (cx_seq (cx_region ?_)))
            refine ox_y rfl (y_loadN 8 [.slice A47 y41.1.fNodes.length c48,.slice A51 y41.1.fClaims.length c52] ag_25 rfl rfl rfl) ?_
            refine ox_y rfl (y_move_slice rfl) ?_
            obtain ⟨y60,hy61,h⟩:=bind_some h
            refine ox_call [.agg #[.slice A47 y41.1.fNodes.length c48,.slice A51 y41.1.fClaims.length c52],.slice A1_0 p1.length c1_0] _ _ _ rfl go_16 rfl (fun W2 hW2 => recall_Surely_ok y41.1 p1 y60 hy61 W2 A47 y41.1.fNodes.length c48 rfl ((RdL.row 5 rfl) W2 hW2) A51 y41.1.fClaims.length c52 ys56 rfl ((RdL.row 6 rfl) W2 hW2) (NestL.at (PvL.nestL hP55 hV58 (fun W2 hW2 => ⟨hW2.below,trivial,hW2.mem (i:=7) rfl⟩)) W2 hW2) A1_0 p1.length c1_0 rfl ((RdL.arg hr1_0) W2 hW2)) ?_
            rintro ⟨A62,n64,c63⟩ hn65
            replace hn65 : n64 = y60.1.length:=hn65; subst hn65
            try dsimp only [lna,lca,lsz,lss]
            refine ox_y rfl (y_move_tuple rfl) ?_
            refine ox_y rfl (y_extract (vs:=[.slice A62 y60.1.length c63,.int .i64 y60.2]) (v:=.slice A62 y60.1.length c63) rfl rfl) ?_
            refine ox_y rfl (y_extract (vs:=[.slice A62 y60.1.length c63,.int .i64 y60.2]) (v:=.int .i64 y60.2) rfl rfl) ?_
            refine ox_y rfl (y_assign_slice rfl) ?_
            refine ox_y rfl (y_assign_int rfl) ?_
            refine ox_nil (ex_then (cx_seq (cx_region ?_)))
            refine ox_y rfl (y_loadN 8 [.slice A47 y41.1.fNodes.length c48,.slice A51 y41.1.fClaims.length c52] ag_25 rfl rfl rfl) ?_
            refine ox_y rfl (y_move_slice rfl) ?_
            obtain ⟨y66,hy67,h⟩:=bind_some h
            refine ox_call [.agg #[.slice A47 y41.1.fNodes.length c48,.slice A51 y41.1.fClaims.length c52],.slice A1_0 p1.length c1_0] _ _ _ rfl go_17 rfl (fun W2 hW2 => recall_Possibly_ok y41.1 p1 y66 hy67 W2 A47 y41.1.fNodes.length c48 rfl ((RdL.row 5 rfl) W2 hW2) A51 y41.1.fClaims.length c52 ys56 rfl ((RdL.row 6 rfl) W2 hW2) (NestL.at (PvL.nestL hP55 hV58 (fun W2 hW2 => ⟨hW2.below,trivial,hW2.mem (i:=7) rfl⟩)) W2 hW2) A1_0 p1.length c1_0 rfl ((RdL.arg hr1_0) W2 hW2)) ?_
            rintro ⟨A68,n70,c69⟩ hn71
            replace hn71 : n70 = y66.1.length:=hn71; subst hn71
            try dsimp only [lna,lca,lsz,lss]
            refine ox_y rfl (y_move_tuple rfl) ?_
            refine ox_y rfl (y_extract (vs:=[.slice A68 y66.1.length c69,.int .i64 y66.2]) (v:=.slice A68 y66.1.length c69) rfl rfl) ?_
            refine ox_y rfl (y_extract (vs:=[.slice A68 y66.1.length c69,.int .i64 y66.2]) (v:=.int .i64 y66.2) rfl rfl) ?_
            refine ox_y rfl (y_assign_slice rfl) ?_
            refine ox_y rfl (y_assign_int rfl) ?_
            refine ox_nil (ex_then (cx_seq (cx_region ?_)))
            refine ox_y rfl (y_loadN 8 [.slice A47 y41.1.fNodes.length c48,.slice A51 y41.1.fClaims.length c52] ag_25 rfl rfl rfl) ?_
            refine ox_y rfl (y_move_slice rfl) ?_
            refine ox_y rfl (y_move_int rfl) ?_
            obtain ⟨y72,hy73,h⟩:=bind_some h
            refine ox_y rfl (y_call [.agg #[.slice A47 y41.1.fNodes.length c48,.slice A51 y41.1.fClaims.length c52],.slice A1_0 p1.length c1_0,.int .i64 p2] go_19 rfl (fun W2 hW2 => recall_Share_ok y41.1 p1 p2 y72 hy73 W2 A47 y41.1.fNodes.length c48 rfl ((RdL.row 5 rfl) W2 hW2) A51 y41.1.fClaims.length c52 ys56 rfl ((RdL.row 6 rfl) W2 hW2) (NestL.at (PvL.nestL hP55 hV58 (fun W2 hW2 => ⟨hW2.below,trivial,hW2.mem (i:=7) rfl⟩)) W2 hW2) A1_0 p1.length c1_0 rfl ((RdL.arg hr1_0) W2 hW2)) rfl) ?_
            refine ox_y rfl (y_move_tuple rfl) ?_
            refine ox_y rfl (y_extract (vs:=[.agg #[.int .i64 y72.1.fNum,.int .i64 y72.1.fDen],.int .i64 y72.2]) (v:=.agg #[.int .i64 y72.1.fNum,.int .i64 y72.1.fDen]) rfl rfl) ?_
            refine ox_y rfl (y_extract (vs:=[.agg #[.int .i64 y72.1.fNum,.int .i64 y72.1.fDen],.int .i64 y72.2]) (v:=.int .i64 y72.2) rfl rfl) ?_
            refine ox_alloc ze_43 rfl (fun b74 => ?_)
            try dsimp only [lna,lca,lsz,lss]
            refine ox_n rfl (y_storeN 11 [.int .i64 y72.1.fNum,.int .i64 y72.1.fDen] sz_43 rfl (Nat.le_of_ble_eq_true rfl) rfl rfl rfl) ?_
            refine ox_y rfl (y_assign_int rfl) ?_
            refine ox_nil (ex_then (cx_seq (cx_region ?_)))
            refine ox_y rfl (y_loadN 8 [.slice A47 y41.1.fNodes.length c48,.slice A51 y41.1.fClaims.length c52] ag_25 rfl rfl rfl) ?_
            obtain ⟨y75,hy76,h⟩:=bind_some h
            refine ox_y rfl (y_call [.agg #[.slice A47 y41.1.fNodes.length c48,.slice A51 y41.1.fClaims.length c52]] go_12 rfl (fun W2 hW2 => recall_Cases_ok y41.1 y75 hy76 W2 A47 y41.1.fNodes.length c48 rfl ((RdL.row 5 rfl) W2 hW2) A51 y41.1.fClaims.length c52 ys56 rfl ((RdL.row 6 rfl) W2 hW2) (NestL.at (PvL.nestL hP55 hV58 (fun W2 hW2 => ⟨hW2.below,trivial,hW2.mem (i:=7) rfl⟩)) W2 hW2)) rfl) ?_
            refine ox_y rfl (y_move_tuple rfl) ?_
            refine ox_y rfl (y_extract (vs:=[.int .i64 y75.1,.int .i64 y75.2]) (v:=.int .i64 y75.1) rfl rfl) ?_
            refine ox_y rfl (y_extract (vs:=[.int .i64 y75.1,.int .i64 y75.2]) (v:=.int .i64 y75.2) rfl rfl) ?_
            refine ox_y rfl (y_assign_int rfl) ?_
            refine ox_y rfl (y_assign_int rfl) ?_
            refine ox_nil (ex_then (cx_seq (cx_seq (cx_region ?_))))
            refine ox_y rfl (y_move_int rfl) ?_
            refine ox_y rfl (y_neq rfl rfl) ?_
            refine ox_y rfl (y_move_bool rfl) ?_
            refine ox_join 3 (fun tm0 => (upd (upd (upd (upd (upd (upd (upd (upd (upd (upd (upd (upd (upd (upd (upd (upd (upd (upd (upd (upd (upd (upd (upd (upd (upd (upd (upd (upd tm0 1 (.slice A1_0 p1.length c1_0)) 2 (.int .i64 p2)) 3 (.int .u8 p3)) 4 (.pointer (some ⟨b1,0,none⟩))) 8 (.bool s38.1)) 9 (.bool y2)) 10 (.pointer (some ⟨b11,0,none⟩))) 12 (.slice A15 y13.1.length c16)) 14 (.slice A21 y19.1.length c22)) 16 (.int .i64 y25.1)) 97 (.bool b31)) 18 (.pointer (some ⟨b36,0,none⟩))) 19 (.int .i64 s38.2.1)) 20 (.bool s38.2.2.1)) 21 (.bool s38.2.2.2.1)) 22 (.int .i64 s38.2.2.2.2)) 112 (.bool (decide (s38.2.2.2.2 < (((rdL p0.fClaims (Int.tmod (w64 p3) (p0.fClaims.length:Int))).fOptions.length : Nat) : Int))))) 23 (.pointer (some ⟨b59,0,none⟩))) 24 (.int .i64 y41.2)) 25 (.slice A62 y60.1.length c63)) 26 (.int .i64 y60.2)) 27 (.slice A68 y66.1.length c69)) 28 (.int .i64 y66.2)) 29 (.pointer (some ⟨b74,0,none⟩))) 30 (.int .i64 y72.2)) 31 (.int .i64 y75.1)) 32 (.int .i64 y75.2)) 152 (.bool ((y41.2 != 0) || (y60.2 != 0))))) (fun tm0 => ?_) (fun key => ?_)
            ·refine ox_y rfl (y_move_bool rfl) ?_
             refine ox_join 3 (fun tm0 => (upd (upd (upd (upd (upd (upd (upd (upd (upd (upd (upd (upd (upd (upd (upd (upd (upd (upd (upd (upd (upd (upd (upd (upd (upd (upd (upd (upd tm0 1 (.slice A1_0 p1.length c1_0)) 2 (.int .i64 p2)) 3 (.int .u8 p3)) 4 (.pointer (some ⟨b1,0,none⟩))) 8 (.bool s38.1)) 9 (.bool y2)) 10 (.pointer (some ⟨b11,0,none⟩))) 12 (.slice A15 y13.1.length c16)) 14 (.slice A21 y19.1.length c22)) 16 (.int .i64 y25.1)) 97 (.bool b31)) 18 (.pointer (some ⟨b36,0,none⟩))) 19 (.int .i64 s38.2.1)) 20 (.bool s38.2.2.1)) 21 (.bool s38.2.2.2.1)) 22 (.int .i64 s38.2.2.2.2)) 112 (.bool (decide (s38.2.2.2.2 < (((rdL p0.fClaims (Int.tmod (w64 p3) (p0.fClaims.length:Int))).fOptions.length : Nat) : Int))))) 23 (.pointer (some ⟨b59,0,none⟩))) 24 (.int .i64 y41.2)) 25 (.slice A62 y60.1.length c63)) 26 (.int .i64 y60.2)) 27 (.slice A68 y66.1.length c69)) 28 (.int .i64 y66.2)) 29 (.pointer (some ⟨b74,0,none⟩))) 30 (.int .i64 y72.2)) 31 (.int .i64 y75.1)) 32 (.int .i64 y75.2)) 156 (.bool (((y41.2 != 0) || (y60.2 != 0)) || (y66.2 != 0))))) (fun tm0 => ?_) (fun key => ?_)
             ·refine ox_y rfl (y_move_bool rfl) ?_
              refine ox_join 3 (fun tm0 => (upd (upd (upd (upd (upd (upd (upd (upd (upd (upd (upd (upd (upd (upd (upd (upd (upd (upd (upd (upd (upd (upd (upd (upd (upd (upd (upd (upd tm0 1 (.slice A1_0 p1.length c1_0)) 2 (.int .i64 p2)) 3 (.int .u8 p3)) 4 (.pointer (some ⟨b1,0,none⟩))) 8 (.bool s38.1)) 9 (.bool y2)) 10 (.pointer (some ⟨b11,0,none⟩))) 12 (.slice A15 y13.1.length c16)) 14 (.slice A21 y19.1.length c22)) 16 (.int .i64 y25.1)) 97 (.bool b31)) 18 (.pointer (some ⟨b36,0,none⟩))) 19 (.int .i64 s38.2.1)) 20 (.bool s38.2.2.1)) 21 (.bool s38.2.2.2.1)) 22 (.int .i64 s38.2.2.2.2)) 112 (.bool (decide (s38.2.2.2.2 < (((rdL p0.fClaims (Int.tmod (w64 p3) (p0.fClaims.length:Int))).fOptions.length : Nat) : Int))))) 23 (.pointer (some ⟨b59,0,none⟩))) 24 (.int .i64 y41.2)) 25 (.slice A62 y60.1.length c63)) 26 (.int .i64 y60.2)) 27 (.slice A68 y66.1.length c69)) 28 (.int .i64 y66.2)) 29 (.pointer (some ⟨b74,0,none⟩))) 30 (.int .i64 y72.2)) 31 (.int .i64 y75.1)) 32 (.int .i64 y75.2)) 160 (.bool ((((y41.2 != 0) || (y60.2 != 0)) || (y66.2 != 0)) || (y72.2 != 0))))) (fun tm0 => ?_) (fun key => ?_)
              ·refine ox_y rfl (y_move_bool rfl) ?_
               refine ox_join 3 (fun tm0 => (upd (upd (upd (upd (upd (upd (upd (upd (upd (upd (upd (upd (upd (upd (upd (upd (upd (upd (upd (upd (upd (upd (upd (upd (upd (upd (upd (upd tm0 1 (.slice A1_0 p1.length c1_0)) 2 (.int .i64 p2)) 3 (.int .u8 p3)) 4 (.pointer (some ⟨b1,0,none⟩))) 8 (.bool s38.1)) 9 (.bool y2)) 10 (.pointer (some ⟨b11,0,none⟩))) 12 (.slice A15 y13.1.length c16)) 14 (.slice A21 y19.1.length c22)) 16 (.int .i64 y25.1)) 97 (.bool b31)) 18 (.pointer (some ⟨b36,0,none⟩))) 19 (.int .i64 s38.2.1)) 20 (.bool s38.2.2.1)) 21 (.bool s38.2.2.2.1)) 22 (.int .i64 s38.2.2.2.2)) 112 (.bool (decide (s38.2.2.2.2 < (((rdL p0.fClaims (Int.tmod (w64 p3) (p0.fClaims.length:Int))).fOptions.length : Nat) : Int))))) 23 (.pointer (some ⟨b59,0,none⟩))) 24 (.int .i64 y41.2)) 25 (.slice A62 y60.1.length c63)) 26 (.int .i64 y60.2)) 27 (.slice A68 y66.1.length c69)) 28 (.int .i64 y66.2)) 29 (.pointer (some ⟨b74,0,none⟩))) 30 (.int .i64 y72.2)) 31 (.int .i64 y75.1)) 32 (.int .i64 y75.2)) 164 (.bool (((((y41.2 != 0) || (y60.2 != 0)) || (y66.2 != 0)) || (y72.2 != 0)) || (y75.2 != 0))))) (fun tm0 => ?_) (fun key => ?_)
               ·refine ox_y rfl (y_move_bool rfl) ?_
                refine ox_join 4 (fun tm0 => (upd (upd (upd (upd (upd (upd (upd (upd (upd (upd (upd (upd (upd (upd (upd (upd (upd (upd (upd (upd (upd (upd (upd (upd (upd (upd (upd (upd tm0 1 (.slice A1_0 p1.length c1_0)) 2 (.int .i64 p2)) 3 (.int .u8 p3)) 4 (.pointer (some ⟨b1,0,none⟩))) 8 (.bool s38.1)) 9 (.bool y2)) 10 (.pointer (some ⟨b11,0,none⟩))) 12 (.slice A15 y13.1.length c16)) 14 (.slice A21 y19.1.length c22)) 16 (.int .i64 y25.1)) 97 (.bool b31)) 18 (.pointer (some ⟨b36,0,none⟩))) 19 (.int .i64 s38.2.1)) 20 (.bool s38.2.2.1)) 21 (.bool s38.2.2.2.1)) 22 (.int .i64 s38.2.2.2.2)) 112 (.bool (decide (s38.2.2.2.2 < (((rdL p0.fClaims (Int.tmod (w64 p3) (p0.fClaims.length:Int))).fOptions.length : Nat) : Int))))) 23 (.pointer (some ⟨b59,0,none⟩))) 24 (.int .i64 y41.2)) 25 (.slice A62 y60.1.length c63)) 26 (.int .i64 y60.2)) 27 (.slice A68 y66.1.length c69)) 28 (.int .i64 y66.2)) 29 (.pointer (some ⟨b74,0,none⟩))) 30 (.int .i64 y72.2)) 31 (.int .i64 y75.1)) 32 (.int .i64 y75.2)) 169 (.bool ((((((y41.2 != 0) || (y60.2 != 0)) || (y66.2 != 0)) || (y72.2 != 0)) || (y75.2 != 0)) || (decide (y72.1.fDen < 1)))))) (fun tm0 => ?_) (fun key => ?_)
                ·refine ox_y rfl (y_move_bool rfl) ?_
                 obtain ⟨b83,hb84,h⟩:=bind_some h
                 refine ox_join 6 (fun tm0 => (upd (upd (upd (upd (upd (upd (upd (upd (upd (upd (upd (upd (upd (upd (upd (upd (upd (upd (upd (upd (upd (upd (upd (upd (upd (upd (upd (upd tm0 1 (.slice A1_0 p1.length c1_0)) 2 (.int .i64 p2)) 3 (.int .u8 p3)) 4 (.pointer (some ⟨b1,0,none⟩))) 8 (.bool s38.1)) 9 (.bool y2)) 10 (.pointer (some ⟨b11,0,none⟩))) 12 (.slice A15 y13.1.length c16)) 14 (.slice A21 y19.1.length c22)) 16 (.int .i64 y25.1)) 97 (.bool b31)) 18 (.pointer (some ⟨b36,0,none⟩))) 19 (.int .i64 s38.2.1)) 20 (.bool s38.2.2.1)) 21 (.bool s38.2.2.2.1)) 22 (.int .i64 s38.2.2.2.2)) 112 (.bool (decide (s38.2.2.2.2 < (((rdL p0.fClaims (Int.tmod (w64 p3) (p0.fClaims.length:Int))).fOptions.length : Nat) : Int))))) 23 (.pointer (some ⟨b59,0,none⟩))) 24 (.int .i64 y41.2)) 25 (.slice A62 y60.1.length c63)) 26 (.int .i64 y60.2)) 27 (.slice A68 y66.1.length c69)) 28 (.int .i64 y66.2)) 29 (.pointer (some ⟨b74,0,none⟩))) 30 (.int .i64 y72.2)) 31 (.int .i64 y75.1)) 32 (.int .i64 y75.2)) 176 (.bool b83))) (fun tm0 => ?_) (fun key => ?_)
                 ·refine ox_y rfl (y_move_bool rfl) ?_
                  refine ox_join 8 (fun tm0 => (upd (upd (upd (upd (upd (upd (upd (upd (upd (upd (upd (upd (upd (upd (upd (upd (upd (upd (upd (upd (upd (upd (upd (upd (upd (upd (upd (upd tm0 1 (.slice A1_0 p1.length c1_0)) 2 (.int .i64 p2)) 3 (.int .u8 p3)) 4 (.pointer (some ⟨b1,0,none⟩))) 8 (.bool s38.1)) 9 (.bool y2)) 10 (.pointer (some ⟨b11,0,none⟩))) 12 (.slice A15 y13.1.length c16)) 14 (.slice A21 y19.1.length c22)) 16 (.int .i64 y25.1)) 97 (.bool b31)) 18 (.pointer (some ⟨b36,0,none⟩))) 19 (.int .i64 s38.2.1)) 20 (.bool s38.2.2.1)) 21 (.bool s38.2.2.2.1)) 22 (.int .i64 s38.2.2.2.2)) 112 (.bool (decide (s38.2.2.2.2 < (((rdL p0.fClaims (Int.tmod (w64 p3) (p0.fClaims.length:Int))).fOptions.length : Nat) : Int))))) 23 (.pointer (some ⟨b59,0,none⟩))) 24 (.int .i64 y41.2)) 25 (.slice A62 y60.1.length c63)) 26 (.int .i64 y60.2)) 27 (.slice A68 y66.1.length c69)) 28 (.int .i64 y66.2)) 29 (.pointer (some ⟨b74,0,none⟩))) 30 (.int .i64 y72.2)) 31 (.int .i64 y75.1)) 32 (.int .i64 y75.2)) 185 (.bool (b83 || ((w64 (y75.1 * (((rdL p0.fClaims (Int.tmod (w64 p3) (p0.fClaims.length:Int))).fOptions.length : Nat) : Int))) != y25.1))))) (fun tm0 => ?_) (fun key => ?_)
                  ·refine ox_y rfl (y_move_bool rfl) ?_
                   obtain ⟨b87,hb88,h⟩:=bind_some h
                   refine ox_join 5 (fun tm0 => (upd (upd (upd (upd (upd (upd (upd (upd (upd (upd (upd (upd (upd (upd (upd (upd (upd (upd (upd (upd (upd (upd (upd (upd (upd (upd (upd (upd tm0 1 (.slice A1_0 p1.length c1_0)) 2 (.int .i64 p2)) 3 (.int .u8 p3)) 4 (.pointer (some ⟨b1,0,none⟩))) 8 (.bool s38.1)) 9 (.bool y2)) 10 (.pointer (some ⟨b11,0,none⟩))) 12 (.slice A15 y13.1.length c16)) 14 (.slice A21 y19.1.length c22)) 16 (.int .i64 y25.1)) 97 (.bool b31)) 18 (.pointer (some ⟨b36,0,none⟩))) 19 (.int .i64 s38.2.1)) 20 (.bool s38.2.2.1)) 21 (.bool s38.2.2.2.1)) 22 (.int .i64 s38.2.2.2.2)) 112 (.bool (decide (s38.2.2.2.2 < (((rdL p0.fClaims (Int.tmod (w64 p3) (p0.fClaims.length:Int))).fOptions.length : Nat) : Int))))) 23 (.pointer (some ⟨b59,0,none⟩))) 24 (.int .i64 y41.2)) 25 (.slice A62 y60.1.length c63)) 26 (.int .i64 y60.2)) 27 (.slice A68 y66.1.length c69)) 28 (.int .i64 y66.2)) 29 (.pointer (some ⟨b74,0,none⟩))) 30 (.int .i64 y72.2)) 31 (.int .i64 y75.1)) 32 (.int .i64 y75.2)) 191 (.bool b87))) (fun tm0 => ?_) (fun key => ?_)
                   ·refine ox_y rfl (y_move_bool rfl) ?_
                    obtain ⟨b90,hb91,h⟩:=bind_some h
                    refine ox_join 5 (fun tm0 => (upd (upd (upd (upd (upd (upd (upd (upd (upd (upd (upd (upd (upd (upd (upd (upd (upd (upd (upd (upd (upd (upd (upd (upd (upd (upd (upd (upd tm0 1 (.slice A1_0 p1.length c1_0)) 2 (.int .i64 p2)) 3 (.int .u8 p3)) 4 (.pointer (some ⟨b1,0,none⟩))) 8 (.bool s38.1)) 9 (.bool y2)) 10 (.pointer (some ⟨b11,0,none⟩))) 12 (.slice A15 y13.1.length c16)) 14 (.slice A21 y19.1.length c22)) 16 (.int .i64 y25.1)) 97 (.bool b31)) 18 (.pointer (some ⟨b36,0,none⟩))) 19 (.int .i64 s38.2.1)) 20 (.bool s38.2.2.1)) 21 (.bool s38.2.2.2.1)) 22 (.int .i64 s38.2.2.2.2)) 112 (.bool (decide (s38.2.2.2.2 < (((rdL p0.fClaims (Int.tmod (w64 p3) (p0.fClaims.length:Int))).fOptions.length : Nat) : Int))))) 23 (.pointer (some ⟨b59,0,none⟩))) 24 (.int .i64 y41.2)) 25 (.slice A62 y60.1.length c63)) 26 (.int .i64 y60.2)) 27 (.slice A68 y66.1.length c69)) 28 (.int .i64 y66.2)) 29 (.pointer (some ⟨b74,0,none⟩))) 30 (.int .i64 y72.2)) 31 (.int .i64 y75.1)) 32 (.int .i64 y75.2)) 197 (.bool b90))) (fun tm0 => ?_) (fun key => ?_)
                    ·refine ox_nil (ex_then ?_)
                     rcases ite_some h with ⟨hp92,h⟩ | ⟨hp92,h⟩
                     ·refine cx_true (congrArg Value.bool hp92) ?_
                      refine cx_seq (cx_region ?_)
                      refine ox_y rfl (y_assign_bool rfl) ?_
                      refine ox_nil (ex_then (cx_ret (ex_then_ret (ex_block_ret (ex_then_ret ?_)))))
                      refine ex_take 5 ?_
                      obtain rfl:=Option.some.inj h
                      exact ex_stop ⟨rfl,_,rfl,(keep (keep (keep (keep (keep (keep (keep (keep (keep (keep (keep (keep (keep (keep (keep (keep rfl rfl) rfl) rfl) rfl) rfl) rfl) rfl) rfl) rfl) rfl) rfl) rfl) rfl) rfl) rfl) rfl)⟩
                     ·refine cx_false (congrArg Value.bool hp92) ?_
                      refine cx_skip (ex_then (cx_seq (cx_region ?_)))
                      refine ox_y rfl (y_move_bool rfl) ?_
                      refine ox_y rfl (y_move_bool rfl) ?_
                      obtain ⟨b94,hb95,h⟩:=bind_some h
                      refine ox_join 4 (fun tm0 => (upd (upd (upd (upd (upd (upd (upd (upd (upd (upd (upd (upd (upd (upd (upd (upd (upd (upd (upd (upd (upd (upd (upd (upd (upd (upd (upd (upd (upd tm0 1 (.slice A1_0 p1.length c1_0)) 2 (.int .i64 p2)) 3 (.int .u8 p3)) 4 (.pointer (some ⟨b1,0,none⟩))) 8 (.bool s38.1)) 9 (.bool y2)) 10 (.pointer (some ⟨b11,0,none⟩))) 12 (.slice A15 y13.1.length c16)) 14 (.slice A21 y19.1.length c22)) 16 (.int .i64 y25.1)) 97 (.bool b31)) 18 (.pointer (some ⟨b36,0,none⟩))) 19 (.int .i64 s38.2.1)) 20 (.bool s38.2.2.1)) 21 (.bool s38.2.2.2.1)) 22 (.int .i64 s38.2.2.2.2)) 112 (.bool (decide (s38.2.2.2.2 < (((rdL p0.fClaims (Int.tmod (w64 p3) (p0.fClaims.length:Int))).fOptions.length : Nat) : Int))))) 23 (.pointer (some ⟨b59,0,none⟩))) 24 (.int .i64 y41.2)) 25 (.slice A62 y60.1.length c63)) 26 (.int .i64 y60.2)) 27 (.slice A68 y66.1.length c69)) 28 (.int .i64 y66.2)) 29 (.pointer (some ⟨b74,0,none⟩))) 30 (.int .i64 y72.2)) 31 (.int .i64 y75.1)) 32 (.int .i64 y75.2)) 197 (.bool b90)) 203 (.bool b94))) (fun tm0 => ?_) (fun key => ?_)
                      ·refine ox_y rfl (y_assign_bool rfl) ?_
                       refine ox_nil (ex_then (cx_seq (cx_region ?_)))
                       refine ox_y rfl (y_move_bool rfl) ?_
                       refine ox_y rfl (y_move_bool rfl) ?_
                       obtain ⟨b97,hb98,h⟩:=bind_some h
                       refine ox_join 4 (fun tm0 => (upd (upd (upd (upd (upd (upd (upd (upd (upd (upd (upd (upd (upd (upd (upd (upd (upd (upd (upd (upd (upd (upd (upd (upd (upd (upd (upd (upd (upd tm0 1 (.slice A1_0 p1.length c1_0)) 2 (.int .i64 p2)) 3 (.int .u8 p3)) 4 (.pointer (some ⟨b1,0,none⟩))) 8 (.bool s38.1)) 9 (.bool y2)) 10 (.pointer (some ⟨b11,0,none⟩))) 12 (.slice A15 y13.1.length c16)) 14 (.slice A21 y19.1.length c22)) 16 (.int .i64 y25.1)) 97 (.bool b31)) 18 (.pointer (some ⟨b36,0,none⟩))) 19 (.int .i64 s38.2.1)) 20 (.bool b94)) 21 (.bool s38.2.2.2.1)) 22 (.int .i64 s38.2.2.2.2)) 112 (.bool (decide (s38.2.2.2.2 < (((rdL p0.fClaims (Int.tmod (w64 p3) (p0.fClaims.length:Int))).fOptions.length : Nat) : Int))))) 23 (.pointer (some ⟨b59,0,none⟩))) 24 (.int .i64 y41.2)) 25 (.slice A62 y60.1.length c63)) 26 (.int .i64 y60.2)) 27 (.slice A68 y66.1.length c69)) 28 (.int .i64 y66.2)) 29 (.pointer (some ⟨b74,0,none⟩))) 30 (.int .i64 y72.2)) 31 (.int .i64 y75.1)) 32 (.int .i64 y75.2)) 197 (.bool b90)) 209 (.bool b97))) (fun tm0 => ?_) (fun key => ?_)
                       ·refine ox_y rfl (y_assign_bool rfl) ?_
                        refine ox_nil (ex_then ?_)
                        refine cx_draws 10 mixed (by kernel_rfl) (by kernel_rfl) ?_
                        refine qx_y rfl (y_move_int rfl) ?_
                        refine qx_y rfl (y_move_int rfl) ?_
                        refine qx_y rfl (y_fieldAddr fo_43_1 rfl) ?_
                        refine qx_y rfl (y_load1 11 (v:=.int .i64 y72.1.fDen) sc_3 rfl rfl rfl) ?_
                        obtain ⟨hg99,h⟩:=guardO_some h
                        refine qx_y rfl (y_quo hg99 rfl rfl) ?_
                        refine qx_y rfl (y_fieldAddr fo_43_0 rfl) ?_
                        refine qx_y rfl (y_load1 11 (v:=.int .i64 y72.1.fNum) sc_3 rfl rfl rfl) ?_
                        refine qx_y rfl (y_mul rfl rfl) ?_
                        refine qx_y rfl (y_add rfl rfl) ?_
                        refine qx_y rfl (y_assign_int rfl) ?_
                        refine qx_nil ?_
                        refine ox_nil ?_
                        refine ex_block ?_
                        refine ex_then (cx_region ?_)
                        refine ox_y rfl (y_move_int rfl) ?_
                        refine ox_y rfl (y_add rfl rfl) ?_
                        refine ox_y rfl (y_assign_int rfl) ?_
                        refine ox_nil ?_
                        refine ex_take 5 ?_
                        obtain rfl:=Option.some.inj h
                        exact ex_next ⟨_,rfl,(keep (keep (keep (keep (keep (keep (keep (keep (keep (keep (keep (keep (keep (keep (keep (keep rfl rfl) rfl) rfl) rfl) rfl) rfl) rfl) rfl) rfl) rfl) rfl) rfl) rfl) rfl) rfl) rfl)⟩
                       ·clear h; rcases ite_some hb98 with ⟨hp96,h⟩ | ⟨hp96,h⟩
                        ·refine ox_y (sees_t rfl rfl rfl rfl hp96) (y_move_slice rfl) ?_
                         refine ox_y (sees_t rfl rfl rfl rfl hp96) (y_move_int rfl) ?_
                         obtain ⟨y100,hy101,h⟩:=bind_some h
                         refine ox_y (sees_t rfl rfl rfl rfl hp96) (y_call [.slice A62 y60.1.length c63,.int .i64 p2] go_22 rfl (fun W2 hW2 => calxlaw09_among_ok y60.1 p2 y100 hy101 W2 A62 y60.1.length c63 rfl ((RdL.row 9 rfl) W2 hW2)) rfl) ?_
                         refine ox_y rfl (y_pick_tb (congrArg Value.bool hp96) rfl) ?_
                         obtain rfl:=Option.some.inj h
                         exact key _ _ (keep (keep (keep (keep (keep (keep (keep (keep (keep (keep (keep (keep (keep (keep (keep (keep (keep (keep (keep (keep (keep (keep (keep (keep (keep (keep (keep (keep (keep rfl rfl) rfl) rfl) rfl) rfl) rfl) rfl) rfl) rfl) rfl) rfl) rfl) rfl) rfl) rfl) rfl) rfl) rfl) rfl) rfl) rfl) rfl) rfl) rfl) rfl) rfl) rfl) rfl) rfl)
                        ·refine ox_skip (sees_f rfl rfl rfl rfl hp96) ?_
                         refine ox_skip (sees_f rfl rfl rfl rfl hp96) ?_
                         refine ox_skip (sees_f rfl rfl rfl rfl hp96) ?_
                         refine ox_y rfl (y_pick_fb (congrArg Value.bool hp96) rfl) ?_
                         obtain rfl:=Option.some.inj h
                         exact key _ _ (keep (keep (keep (keep (keep (keep (keep (keep (keep (keep (keep (keep (keep (keep (keep (keep (keep (keep (keep (keep (keep (keep (keep (keep (keep (keep (keep (keep (keep rfl rfl) rfl) rfl) rfl) rfl) rfl) rfl) rfl) rfl) rfl) rfl) rfl) rfl) rfl) rfl) rfl) rfl) rfl) rfl) rfl) rfl) rfl) rfl) rfl) rfl) rfl) rfl) rfl) rfl)
                      ·clear h; rcases ite_some hb95 with ⟨hp93,h⟩ | ⟨hp93,h⟩
                       ·refine ox_skip (sees_f rfl rfl rfl rfl hp93) ?_
                        refine ox_skip (sees_f rfl rfl rfl rfl hp93) ?_
                        refine ox_skip (sees_f rfl rfl rfl rfl hp93) ?_
                        refine ox_y rfl (y_pick_tb (congrArg Value.bool hp93) rfl) ?_
                        obtain rfl:=Option.some.inj h
                        exact key _ _ (keep (keep (keep (keep (keep (keep (keep (keep (keep (keep (keep (keep (keep (keep (keep (keep (keep (keep (keep (keep (keep (keep (keep (keep (keep (keep (keep (keep (keep rfl rfl) rfl) rfl) rfl) rfl) rfl) rfl) rfl) rfl) rfl) rfl) rfl) rfl) rfl) rfl) rfl) rfl) rfl) rfl) rfl) rfl) rfl) rfl) rfl) rfl) rfl) rfl) rfl) rfl)
                       ·refine ox_y (sees_t rfl rfl rfl rfl hp93) (y_move_slice rfl) ?_
                        refine ox_y (sees_t rfl rfl rfl rfl hp93) (y_move_int rfl) ?_
                        obtain ⟨y102,hy103,h⟩:=bind_some h
                        refine ox_y (sees_t rfl rfl rfl rfl hp93) (y_call [.slice A68 y66.1.length c69,.int .i64 p2] go_22 rfl (fun W2 hW2 => calxlaw09_among_ok y66.1 p2 y102 hy103 W2 A68 y66.1.length c69 rfl ((RdL.row 10 rfl) W2 hW2)) rfl) ?_
                        refine ox_y rfl (y_pick_fb (congrArg Value.bool hp93) rfl) ?_
                        obtain rfl:=Option.some.inj h
                        exact key _ _ (keep (keep (keep (keep (keep (keep (keep (keep (keep (keep (keep (keep (keep (keep (keep (keep (keep (keep (keep (keep (keep (keep (keep (keep (keep (keep (keep (keep (keep rfl rfl) rfl) rfl) rfl) rfl) rfl) rfl) rfl) rfl) rfl) rfl) rfl) rfl) rfl) rfl) rfl) rfl) rfl) rfl) rfl) rfl) rfl) rfl) rfl) rfl) rfl) rfl) rfl) rfl)
                    ·clear h; rcases ite_some hb91 with ⟨hp89,h⟩ | ⟨hp89,h⟩
                     ·refine ox_skip (sees_f rfl rfl rfl rfl hp89) ?_
                      refine ox_skip (sees_f rfl rfl rfl rfl hp89) ?_
                      refine ox_skip (sees_f rfl rfl rfl rfl hp89) ?_
                      refine ox_skip (sees_f rfl rfl rfl rfl hp89) ?_
                      refine ox_y rfl (y_pick_tb (congrArg Value.bool hp89) rfl) ?_
                      obtain rfl:=Option.some.inj h
                      exact key _ _ (keep (keep (keep (keep (keep (keep (keep (keep (keep (keep (keep (keep (keep (keep (keep (keep (keep (keep (keep (keep (keep (keep (keep (keep (keep (keep (keep (keep rfl rfl) rfl) rfl) rfl) rfl) rfl) rfl) rfl) rfl) rfl) rfl) rfl) rfl) rfl) rfl) rfl) rfl) rfl) rfl) rfl) rfl) rfl) rfl) rfl) rfl) rfl) rfl) rfl)
                     ·refine ox_y (sees_t rfl rfl rfl rfl hp89) (y_move_slice rfl) ?_
                      refine ox_y (sees_t rfl rfl rfl rfl hp89) (y_move_slice rfl) ?_
                      obtain ⟨y104,hy105,h⟩:=bind_some h
                      refine ox_y (sees_t rfl rfl rfl rfl hp89) (y_call [.slice A21 y19.1.length c22,.slice A68 y66.1.length c69] go_18 rfl (fun W2 hW2 => calxlaw09_all_ok y19.1 y66.1 y104 hy105 W2 A21 y19.1.length c22 rfl ((RdL.row 3 rfl) W2 hW2) A68 y66.1.length c69 rfl ((RdL.row 10 rfl) W2 hW2)) rfl) ?_
                      refine ox_y (sees_t rfl rfl rfl rfl hp89) (y_not rfl) ?_
                      refine ox_y rfl (y_pick_fb (congrArg Value.bool hp89) rfl) ?_
                      obtain rfl:=Option.some.inj h
                      exact key _ _ (keep (keep (keep (keep (keep (keep (keep (keep (keep (keep (keep (keep (keep (keep (keep (keep (keep (keep (keep (keep (keep (keep (keep (keep (keep (keep (keep (keep rfl rfl) rfl) rfl) rfl) rfl) rfl) rfl) rfl) rfl) rfl) rfl) rfl) rfl) rfl) rfl) rfl) rfl) rfl) rfl) rfl) rfl) rfl) rfl) rfl) rfl) rfl) rfl) rfl)
                   ·clear h; rcases ite_some hb88 with ⟨hp86,h⟩ | ⟨hp86,h⟩
                    ·refine ox_skip (sees_f rfl rfl rfl rfl hp86) ?_
                     refine ox_skip (sees_f rfl rfl rfl rfl hp86) ?_
                     refine ox_skip (sees_f rfl rfl rfl rfl hp86) ?_
                     refine ox_skip (sees_f rfl rfl rfl rfl hp86) ?_
                     refine ox_y rfl (y_pick_tb (congrArg Value.bool hp86) rfl) ?_
                     obtain rfl:=Option.some.inj h
                     exact key _ _ (keep (keep (keep (keep (keep (keep (keep (keep (keep (keep (keep (keep (keep (keep (keep (keep (keep (keep (keep (keep (keep (keep (keep (keep (keep (keep (keep (keep rfl rfl) rfl) rfl) rfl) rfl) rfl) rfl) rfl) rfl) rfl) rfl) rfl) rfl) rfl) rfl) rfl) rfl) rfl) rfl) rfl) rfl) rfl) rfl) rfl) rfl) rfl) rfl) rfl)
                    ·refine ox_y (sees_t rfl rfl rfl rfl hp86) (y_move_slice rfl) ?_
                     refine ox_y (sees_t rfl rfl rfl rfl hp86) (y_move_slice rfl) ?_
                     obtain ⟨y106,hy107,h⟩:=bind_some h
                     refine ox_y (sees_t rfl rfl rfl rfl hp86) (y_call [.slice A62 y60.1.length c63,.slice A15 y13.1.length c16] go_18 rfl (fun W2 hW2 => calxlaw09_all_ok y60.1 y13.1 y106 hy107 W2 A62 y60.1.length c63 rfl ((RdL.row 9 rfl) W2 hW2) A15 y13.1.length c16 rfl ((RdL.row 2 rfl) W2 hW2)) rfl) ?_
                     refine ox_y (sees_t rfl rfl rfl rfl hp86) (y_not rfl) ?_
                     refine ox_y rfl (y_pick_fb (congrArg Value.bool hp86) rfl) ?_
                     obtain rfl:=Option.some.inj h
                     exact key _ _ (keep (keep (keep (keep (keep (keep (keep (keep (keep (keep (keep (keep (keep (keep (keep (keep (keep (keep (keep (keep (keep (keep (keep (keep (keep (keep (keep (keep rfl rfl) rfl) rfl) rfl) rfl) rfl) rfl) rfl) rfl) rfl) rfl) rfl) rfl) rfl) rfl) rfl) rfl) rfl) rfl) rfl) rfl) rfl) rfl) rfl) rfl) rfl) rfl) rfl)
                  ·rcases bool_cases b83 with hp85 | hp85
                   ·refine ox_skip (sees_f rfl rfl rfl rfl hp85) ?_
                    refine ox_skip (sees_f rfl rfl rfl rfl hp85) ?_
                    refine ox_skip (sees_f rfl rfl rfl rfl hp85) ?_
                    refine ox_skip (sees_f rfl rfl rfl rfl hp85) ?_
                    refine ox_skip (sees_f rfl rfl rfl rfl hp85) ?_
                    refine ox_skip (sees_f rfl rfl rfl rfl hp85) ?_
                    refine ox_skip (sees_f rfl rfl rfl rfl hp85) ?_
                    refine ox_y rfl (y_pick_tb (congrArg Value.bool hp85) rfl) ?_
                    exact key _ _ (keep (keep (keep (keep (keep (keep (keep (keep (keep (keep (keep (keep (keep (keep (keep (keep (keep (keep (keep (keep (keep (keep (keep (keep (keep (keep (keep (keep rfl rfl) rfl) rfl) rfl) rfl) rfl) rfl) rfl) rfl) rfl) rfl) rfl) rfl) rfl) rfl) rfl) rfl) rfl) rfl) rfl) rfl) rfl) rfl) rfl) rfl) rfl) rfl) (congrArg Value.bool (or_t hp85)))
                   ·refine ox_y (sees_t rfl rfl rfl rfl hp85) (y_move_int rfl) ?_
                    refine ox_y (sees_t rfl rfl rfl rfl hp85) (y_fieldAddr fo_35_1 rfl) ?_
                    refine ox_y (sees_t rfl rfl rfl rfl hp85) (y_load1 4 (v:=.slice ((rdL ys0_1 (Int.tmod (w64 p3) (p0.fClaims.length:Int))).1.1) ((rdL p0.fClaims (Int.tmod (w64 p3) (p0.fClaims.length:Int))).fOptions.length) ((rdL ys0_1 (Int.tmod (w64 p3) (p0.fClaims.length:Int))).1.2.2)) sc_33 rfl rfl rfl) ?_
                    refine ox_y (sees_t rfl rfl rfl rfl hp85) (y_len (us:=[]) us_33 rfl) ?_
                    refine ox_y (sees_t rfl rfl rfl rfl hp85) (y_mul rfl rfl) ?_
                    refine ox_y (sees_t rfl rfl rfl rfl hp85) (y_move_int rfl) ?_
                    refine ox_y (sees_t rfl rfl rfl rfl hp85) (y_neq rfl rfl) ?_
                    refine ox_y rfl (y_pick_fb (congrArg Value.bool hp85) rfl) ?_
                    exact key _ _ (keep (keep (keep (keep (keep (keep (keep (keep (keep (keep (keep (keep (keep (keep (keep (keep (keep (keep (keep (keep (keep (keep (keep (keep (keep (keep (keep (keep rfl rfl) rfl) rfl) rfl) rfl) rfl) rfl) rfl) rfl) rfl) rfl) rfl) rfl) rfl) rfl) rfl) rfl) rfl) rfl) rfl) rfl) rfl) rfl) rfl) rfl) rfl) rfl) (congrArg Value.bool (or_f hp85)))
                 ·clear h; rcases ite_some hb84 with ⟨hp82,h⟩ | ⟨hp82,h⟩
                  ·refine ox_skip (sees_f rfl rfl rfl rfl hp82) ?_
                   refine ox_skip (sees_f rfl rfl rfl rfl hp82) ?_
                   refine ox_skip (sees_f rfl rfl rfl rfl hp82) ?_
                   refine ox_skip (sees_f rfl rfl rfl rfl hp82) ?_
                   refine ox_skip (sees_f rfl rfl rfl rfl hp82) ?_
                   refine ox_y rfl (y_pick_tb (congrArg Value.bool hp82) rfl) ?_
                   obtain rfl:=Option.some.inj h
                   exact key _ _ (keep (keep (keep (keep (keep (keep (keep (keep (keep (keep (keep (keep (keep (keep (keep (keep (keep (keep (keep (keep (keep (keep (keep (keep (keep (keep (keep (keep rfl rfl) rfl) rfl) rfl) rfl) rfl) rfl) rfl) rfl) rfl) rfl) rfl) rfl) rfl) rfl) rfl) rfl) rfl) rfl) rfl) rfl) rfl) rfl) rfl) rfl) rfl) rfl) rfl)
                  ·refine ox_y (sees_t rfl rfl rfl rfl hp82) (y_move_int rfl) ?_
                   refine ox_y (sees_t rfl rfl rfl rfl hp82) (y_fieldAddr fo_43_1 rfl) ?_
                   refine ox_y (sees_t rfl rfl rfl rfl hp82) (y_load1 11 (v:=.int .i64 y72.1.fDen) sc_3 rfl rfl rfl) ?_
                   obtain ⟨hg108,h⟩:=guardO_some h
                   refine ox_y (sees_t rfl rfl rfl rfl hp82) (y_rem hg108 rfl rfl) ?_
                   refine ox_y (sees_t rfl rfl rfl rfl hp82) (y_neq rfl rfl) ?_
                   refine ox_y rfl (y_pick_fb (congrArg Value.bool hp82) rfl) ?_
                   obtain rfl:=Option.some.inj h
                   exact key _ _ (keep (keep (keep (keep (keep (keep (keep (keep (keep (keep (keep (keep (keep (keep (keep (keep (keep (keep (keep (keep (keep (keep (keep (keep (keep (keep (keep (keep rfl rfl) rfl) rfl) rfl) rfl) rfl) rfl) rfl) rfl) rfl) rfl) rfl) rfl) rfl) rfl) rfl) rfl) rfl) rfl) rfl) rfl) rfl) rfl) rfl) rfl) rfl) rfl) rfl)
                ·rcases bool_cases (((((y41.2 != 0) || (y60.2 != 0)) || (y66.2 != 0)) || (y72.2 != 0)) || (y75.2 != 0)) with hp81 | hp81
                 ·refine ox_skip (sees_f rfl rfl rfl rfl hp81) ?_
                  refine ox_skip (sees_f rfl rfl rfl rfl hp81) ?_
                  refine ox_skip (sees_f rfl rfl rfl rfl hp81) ?_
                  refine ox_y rfl (y_pick_tb (congrArg Value.bool hp81) rfl) ?_
                  exact key _ _ (keep (keep (keep (keep (keep (keep (keep (keep (keep (keep (keep (keep (keep (keep (keep (keep (keep (keep (keep (keep (keep (keep (keep (keep (keep (keep (keep (keep rfl rfl) rfl) rfl) rfl) rfl) rfl) rfl) rfl) rfl) rfl) rfl) rfl) rfl) rfl) rfl) rfl) rfl) rfl) rfl) rfl) rfl) rfl) rfl) rfl) rfl) rfl) rfl) (congrArg Value.bool (or_t hp81)))
                 ·refine ox_y (sees_t rfl rfl rfl rfl hp81) (y_fieldAddr fo_43_1 rfl) ?_
                  refine ox_y (sees_t rfl rfl rfl rfl hp81) (y_load1 11 (v:=.int .i64 y72.1.fDen) sc_3 rfl rfl rfl) ?_
                  refine ox_y (sees_t rfl rfl rfl rfl hp81) (y_lss rfl rfl) ?_
                  refine ox_y rfl (y_pick_fb (congrArg Value.bool hp81) rfl) ?_
                  exact key _ _ (keep (keep (keep (keep (keep (keep (keep (keep (keep (keep (keep (keep (keep (keep (keep (keep (keep (keep (keep (keep (keep (keep (keep (keep (keep (keep (keep (keep rfl rfl) rfl) rfl) rfl) rfl) rfl) rfl) rfl) rfl) rfl) rfl) rfl) rfl) rfl) rfl) rfl) rfl) rfl) rfl) rfl) rfl) rfl) rfl) rfl) rfl) rfl) rfl) (congrArg Value.bool (or_f hp81)))
               ·rcases bool_cases ((((y41.2 != 0) || (y60.2 != 0)) || (y66.2 != 0)) || (y72.2 != 0)) with hp80 | hp80
                ·refine ox_skip (sees_f rfl rfl rfl rfl hp80) ?_
                 refine ox_skip (sees_f rfl rfl rfl rfl hp80) ?_
                 refine ox_y rfl (y_pick_tb (congrArg Value.bool hp80) rfl) ?_
                 exact key _ _ (keep (keep (keep (keep (keep (keep (keep (keep (keep (keep (keep (keep (keep (keep (keep (keep (keep (keep (keep (keep (keep (keep (keep (keep (keep (keep (keep (keep rfl rfl) rfl) rfl) rfl) rfl) rfl) rfl) rfl) rfl) rfl) rfl) rfl) rfl) rfl) rfl) rfl) rfl) rfl) rfl) rfl) rfl) rfl) rfl) rfl) rfl) rfl) rfl) (congrArg Value.bool (or_t hp80)))
                ·refine ox_y (sees_t rfl rfl rfl rfl hp80) (y_move_int rfl) ?_
                 refine ox_y (sees_t rfl rfl rfl rfl hp80) (y_neq rfl rfl) ?_
                 refine ox_y rfl (y_pick_fb (congrArg Value.bool hp80) rfl) ?_
                 exact key _ _ (keep (keep (keep (keep (keep (keep (keep (keep (keep (keep (keep (keep (keep (keep (keep (keep (keep (keep (keep (keep (keep (keep (keep (keep (keep (keep (keep (keep rfl rfl) rfl) rfl) rfl) rfl) rfl) rfl) rfl) rfl) rfl) rfl) rfl) rfl) rfl) rfl) rfl) rfl) rfl) rfl) rfl) rfl) rfl) rfl) rfl) rfl) rfl) rfl) (congrArg Value.bool (or_f hp80)))
              ·rcases bool_cases (((y41.2 != 0) || (y60.2 != 0)) || (y66.2 != 0)) with hp79 | hp79
               ·refine ox_skip (sees_f rfl rfl rfl rfl hp79) ?_
                refine ox_skip (sees_f rfl rfl rfl rfl hp79) ?_
                refine ox_y rfl (y_pick_tb (congrArg Value.bool hp79) rfl) ?_
                exact key _ _ (keep (keep (keep (keep (keep (keep (keep (keep (keep (keep (keep (keep (keep (keep (keep (keep (keep (keep (keep (keep (keep (keep (keep (keep (keep (keep (keep (keep rfl rfl) rfl) rfl) rfl) rfl) rfl) rfl) rfl) rfl) rfl) rfl) rfl) rfl) rfl) rfl) rfl) rfl) rfl) rfl) rfl) rfl) rfl) rfl) rfl) rfl) rfl) rfl) (congrArg Value.bool (or_t hp79)))
               ·refine ox_y (sees_t rfl rfl rfl rfl hp79) (y_move_int rfl) ?_
                refine ox_y (sees_t rfl rfl rfl rfl hp79) (y_neq rfl rfl) ?_
                refine ox_y rfl (y_pick_fb (congrArg Value.bool hp79) rfl) ?_
                exact key _ _ (keep (keep (keep (keep (keep (keep (keep (keep (keep (keep (keep (keep (keep (keep (keep (keep (keep (keep (keep (keep (keep (keep (keep (keep (keep (keep (keep (keep rfl rfl) rfl) rfl) rfl) rfl) rfl) rfl) rfl) rfl) rfl) rfl) rfl) rfl) rfl) rfl) rfl) rfl) rfl) rfl) rfl) rfl) rfl) rfl) rfl) rfl) rfl) rfl) (congrArg Value.bool (or_f hp79)))
             ·rcases bool_cases ((y41.2 != 0) || (y60.2 != 0)) with hp78 | hp78
              ·refine ox_skip (sees_f rfl rfl rfl rfl hp78) ?_
               refine ox_skip (sees_f rfl rfl rfl rfl hp78) ?_
               refine ox_y rfl (y_pick_tb (congrArg Value.bool hp78) rfl) ?_
               exact key _ _ (keep (keep (keep (keep (keep (keep (keep (keep (keep (keep (keep (keep (keep (keep (keep (keep (keep (keep (keep (keep (keep (keep (keep (keep (keep (keep (keep (keep rfl rfl) rfl) rfl) rfl) rfl) rfl) rfl) rfl) rfl) rfl) rfl) rfl) rfl) rfl) rfl) rfl) rfl) rfl) rfl) rfl) rfl) rfl) rfl) rfl) rfl) rfl) rfl) (congrArg Value.bool (or_t hp78)))
              ·refine ox_y (sees_t rfl rfl rfl rfl hp78) (y_move_int rfl) ?_
               refine ox_y (sees_t rfl rfl rfl rfl hp78) (y_neq rfl rfl) ?_
               refine ox_y rfl (y_pick_fb (congrArg Value.bool hp78) rfl) ?_
               exact key _ _ (keep (keep (keep (keep (keep (keep (keep (keep (keep (keep (keep (keep (keep (keep (keep (keep (keep (keep (keep (keep (keep (keep (keep (keep (keep (keep (keep (keep rfl rfl) rfl) rfl) rfl) rfl) rfl) rfl) rfl) rfl) rfl) rfl) rfl) rfl) rfl) rfl) rfl) rfl) rfl) rfl) rfl) rfl) rfl) rfl) rfl) rfl) rfl) rfl) (congrArg Value.bool (or_f hp78)))
            ·rcases bool_cases (y41.2 != 0) with hp77 | hp77
             ·refine ox_skip (sees_f rfl rfl rfl rfl hp77) ?_
              refine ox_skip (sees_f rfl rfl rfl rfl hp77) ?_
              refine ox_y rfl (y_pick_tb (congrArg Value.bool hp77) rfl) ?_
              exact key _ _ (keep (keep (keep (keep (keep (keep (keep (keep (keep (keep (keep (keep (keep (keep (keep (keep (keep (keep (keep (keep (keep (keep (keep (keep (keep (keep (keep (keep rfl rfl) rfl) rfl) rfl) rfl) rfl) rfl) rfl) rfl) rfl) rfl) rfl) rfl) rfl) rfl) rfl) rfl) rfl) rfl) rfl) rfl) rfl) rfl) rfl) rfl) rfl) rfl) (congrArg Value.bool (or_t hp77)))
             ·refine ox_y (sees_t rfl rfl rfl rfl hp77) (y_move_int rfl) ?_
              refine ox_y (sees_t rfl rfl rfl rfl hp77) (y_neq rfl rfl) ?_
              refine ox_y rfl (y_pick_fb (congrArg Value.bool hp77) rfl) ?_
              exact key _ _ (keep (keep (keep (keep (keep (keep (keep (keep (keep (keep (keep (keep (keep (keep (keep (keep (keep (keep (keep (keep (keep (keep (keep (keep (keep (keep (keep (keep rfl rfl) rfl) rfl) rfl) rfl) rfl) rfl) rfl) rfl) rfl) rfl) rfl) rfl) rfl) rfl) rfl) rfl) rfl) rfl) rfl) rfl) rfl) rfl) rfl) rfl) rfl) rfl) (congrArg Value.bool (or_f hp77)))
           ·refine cx_false (congrArg Value.bool hp40) ?_
            refine cx_exit ?_
            refine ex_then_exit ?_
            obtain rfl:=Option.some.inj h
            exact ex_stop ⟨rfl,_,rfl,(keep (keep (keep (keep (keep (keep (keep (keep (keep (keep (keep (keep (keep (keep (keep (keep rfl rfl) rfl) rfl) rfl) rfl) rfl) rfl) rfl) rfl) rfl) rfl) rfl) rfl) rfl) rfl) rfl)⟩
          ·intro e L tm hJ
           rcases u39 with u110 | u111
           ·dsimp only at h hJ
            obtain ⟨rfl,tm0_u110,rfl,rfl⟩:=hJ
            refine ⟨(by intro hc; cases hc),?_⟩
            refine ex_block_ret (ex_then_ret ?_)
            obtain rfl:=Option.some.inj h
            exact ex_res1 (.inl rfl) rfl (resV_tmp (v:=.bool u110.1) rfl) (fun W2 hW2 => ⟨rfl,hW2.none⟩)
           ·dsimp only at h hJ
            obtain ⟨rfl,tm0_u111,rfl,rfl⟩:=hJ
            refine ⟨(by intro hc; cases hc),?_⟩
            refine ex_block_here ?_
            refine ex_then (cx_seq (cx_seq (cx_region ?_)))
            refine ox_y rfl (y_move_bool rfl) ?_
            refine ox_y rfl (y_move_slice rfl) ?_
            refine ox_y rfl (y_move_int rfl) ?_
            obtain ⟨y112,hy113,h⟩:=bind_some h
            refine ox_y rfl (y_call [.slice A21 y19.1.length c22,.int .i64 p2] go_22 rfl (fun W2 hW2 => calxlaw09_among_ok y19.1 p2 y112 hy113 W2 A21 y19.1.length c22 rfl ((RdL.row 3 rfl) W2 hW2)) rfl) ?_
            refine ox_y rfl (y_neqb ub_4 rfl rfl) ?_
            refine ox_y rfl (y_move_bool rfl) ?_
            obtain ⟨b115,hb116,h⟩:=bind_some h
            refine ox_join 6 (fun tm0 => (upd (upd (upd (upd (upd (upd (upd (upd (upd tm0 2 (.int .i64 p2)) 8 (.bool u111.1)) 9 (.bool y2)) 10 (.pointer (some ⟨b11,0,none⟩))) 12 (.slice A15 y13.1.length c16)) 14 (.slice A21 y19.1.length c22)) 16 (.int .i64 y25.1)) 19 (.int .i64 u111.2.1)) 230 (.bool b115))) (fun tm0 => ?_) (fun key => ?_)
            ·refine ox_nil (ex_then ?_)
             rcases ite_some h with ⟨hp117,h⟩ | ⟨hp117,h⟩
             ·refine cx_true (congrArg Value.bool hp117) ?_
              refine cx_seq (cx_region ?_)
              refine ox_y rfl (y_assign_bool rfl) ?_
              refine ox_nil (ex_then (cx_ret (ex_then_ret ?_)))
              obtain rfl:=Option.some.inj h
              exact ex_res1 (.inl rfl) rfl (resV_tmp (v:=.bool false) rfl) (fun W2 hW2 => ⟨rfl,hW2.none⟩)
             ·refine cx_false (congrArg Value.bool hp117) ?_
              refine cx_skip (ex_then (cx_seq ?_))
              refine cx_draws 31 mixed (by kernel_rfl) (by kernel_rfl) ?_
              refine qx_y rfl (y_move_bool rfl) ?_
              refine qx_y rfl (y_move_bool rfl) ?_
              obtain ⟨b119,hb120,h⟩:=bind_some h
              refine qx_join 10 (fun tm0 => (upd (upd (upd (upd (upd (upd tm0 2 (.int .i64 p2)) 8 (.bool u111.1)) 10 (.pointer (some ⟨b11,0,none⟩))) 12 (.slice A15 y13.1.length c16)) 14 (.slice A21 y19.1.length c22)) 242 (.bool b119))) (fun tm0 => ?_) (fun key => ?_)
              ·refine qx_y rfl (y_move_bool rfl) ?_
               obtain ⟨b122,hb123,h⟩:=bind_some h
               refine qx_join 8 (fun tm0 => (upd (upd (upd (upd (upd tm0 2 (.int .i64 p2)) 8 (.bool u111.1)) 10 (.pointer (some ⟨b11,0,none⟩))) 14 (.slice A21 y19.1.length c22)) 251 (.bool b122))) (fun tm0 => ?_) (fun key => ?_)
               ·refine qx_y rfl (y_move_bool rfl) ?_
                obtain ⟨b125,hb126,h⟩:=bind_some h
                refine qx_join 8 (fun tm0 => (upd (upd tm0 8 (.bool u111.1)) 260 (.bool b125))) (fun tm0 => ?_) (fun key => ?_)
                ·refine qx_y rfl (y_assign_bool rfl) ?_
                 refine qx_nil ?_
                 refine ox_nil (ex_then (cx_ret ?_))
                 obtain rfl:=Option.some.inj h
                 exact ex_res1 (.inl rfl) rfl (resV_tmp (v:=.bool b125) rfl) (fun W2 hW2 => ⟨rfl,hW2.none⟩)
                ·clear h; rcases ite_some hb126 with ⟨hp124,h⟩ | ⟨hp124,h⟩
                 ·refine qx_y (sees_t rfl rfl rfl rfl hp124) (y_fieldAddr fo_43_0 rfl) ?_
                  refine qx_y (sees_t rfl rfl rfl rfl hp124) (y_load1 1 (v:=.int .i64 y9.1.fNum) sc_3 rfl rfl rfl) ?_
                  refine qx_y (sees_t rfl rfl rfl rfl hp124) (y_gtr rfl rfl) ?_
                  refine qx_y (sees_t rfl rfl rfl rfl hp124) (y_move_slice rfl) ?_
                  refine qx_y (sees_t rfl rfl rfl rfl hp124) (y_move_int rfl) ?_
                  obtain ⟨y127,hy128,h⟩:=bind_some h
                  refine qx_y (sees_t rfl rfl rfl rfl hp124) (y_call [.slice A21 y19.1.length c22,.int .i64 p2] go_22 rfl (fun W2 hW2 => calxlaw09_among_ok y19.1 p2 y127 hy128 W2 A21 y19.1.length c22 rfl ((RdL.row 3 rfl) W2 hW2)) rfl) ?_
                  refine qx_y (sees_t rfl rfl rfl rfl hp124) (y_eqlb ub_4 rfl rfl) ?_
                  refine qx_y rfl (y_pick_tb (congrArg Value.bool hp124) rfl) ?_
                  obtain rfl:=Option.some.inj h
                  exact key _ _ (keep (keep rfl rfl) rfl)
                 ·refine qx_skip (sees_f rfl rfl rfl rfl hp124) ?_
                  refine qx_skip (sees_f rfl rfl rfl rfl hp124) ?_
                  refine qx_skip (sees_f rfl rfl rfl rfl hp124) ?_
                  refine qx_skip (sees_f rfl rfl rfl rfl hp124) ?_
                  refine qx_skip (sees_f rfl rfl rfl rfl hp124) ?_
                  refine qx_skip (sees_f rfl rfl rfl rfl hp124) ?_
                  refine qx_skip (sees_f rfl rfl rfl rfl hp124) ?_
                  refine qx_y rfl (y_pick_fb (congrArg Value.bool hp124) rfl) ?_
                  obtain rfl:=Option.some.inj h
                  exact key _ _ (keep (keep rfl rfl) rfl)
               ·clear h; rcases ite_some hb123 with ⟨hp121,h⟩ | ⟨hp121,h⟩
                ·refine qx_y (sees_t rfl rfl rfl rfl hp121) (y_loadN 1 [.int .i64 y9.1.fNum,.int .i64 y9.1.fDen] ag_43 rfl rfl rfl) ?_
                 refine qx_y (sees_t rfl rfl rfl rfl hp121) (y_buildS [.int .i64 1,.int .i64 1] [(0,1),(1,1)] ust_43 ze_43 (by kernel_rfl)) ?_
                 refine qx_y (sees_t rfl rfl rfl rfl hp121) (y_eqla (b:=((y9.1.fNum == 1) && (y9.1.fDen == 1))) eg_43 rfl rfl (fun _ => (eqS2 fl_43 (part1 sc_3 rfl) (part1 sc_3 rfl) (part1 sc_3 rfl) (part1 sc_3 rfl) (run_equalIn_int _ _ _ _ _ _ _ ui_3) (run_equalIn_int _ _ _ _ _ _ _ ui_3)))) ?_
                 refine qx_y (sees_t rfl rfl rfl rfl hp121) (y_move_slice rfl) ?_
                 refine qx_y (sees_t rfl rfl rfl rfl hp121) (y_move_int rfl) ?_
                 obtain ⟨y129,hy130,h⟩:=bind_some h
                 refine qx_y (sees_t rfl rfl rfl rfl hp121) (y_call [.slice A15 y13.1.length c16,.int .i64 p2] go_22 rfl (fun W2 hW2 => calxlaw09_among_ok y13.1 p2 y129 hy130 W2 A15 y13.1.length c16 rfl ((RdL.row 2 rfl) W2 hW2)) rfl) ?_
                 refine qx_y (sees_t rfl rfl rfl rfl hp121) (y_eqlb ub_4 rfl rfl) ?_
                 refine qx_y rfl (y_pick_tb (congrArg Value.bool hp121) rfl) ?_
                 obtain rfl:=Option.some.inj h
                 exact key _ _ (keep (keep (keep (keep (keep rfl rfl) rfl) rfl) rfl) rfl)
                ·refine qx_skip (sees_f rfl rfl rfl rfl hp121) ?_
                 refine qx_skip (sees_f rfl rfl rfl rfl hp121) ?_
                 refine qx_skip (sees_f rfl rfl rfl rfl hp121) ?_
                 refine qx_skip (sees_f rfl rfl rfl rfl hp121) ?_
                 refine qx_skip (sees_f rfl rfl rfl rfl hp121) ?_
                 refine qx_skip (sees_f rfl rfl rfl rfl hp121) ?_
                 refine qx_skip (sees_f rfl rfl rfl rfl hp121) ?_
                 refine qx_y rfl (y_pick_fb (congrArg Value.bool hp121) rfl) ?_
                 obtain rfl:=Option.some.inj h
                 exact key _ _ (keep (keep (keep (keep (keep rfl rfl) rfl) rfl) rfl) rfl)
              ·clear h; rcases ite_some hb120 with ⟨hp118,h⟩ | ⟨hp118,h⟩
               ·refine qx_y (sees_t rfl rfl rfl rfl hp118) (y_move_int rfl) ?_
                refine qx_y (sees_t rfl rfl rfl rfl hp118) (y_move_int rfl) ?_
                refine qx_y (sees_t rfl rfl rfl rfl hp118) (y_fieldAddr fo_43_1 rfl) ?_
                refine qx_y (sees_t rfl rfl rfl rfl hp118) (y_load1 1 (v:=.int .i64 y9.1.fDen) sc_3 rfl rfl rfl) ?_
                obtain ⟨hg131,h⟩:=guardO_some h
                refine qx_y (sees_t rfl rfl rfl rfl hp118) (y_quo hg131 rfl rfl) ?_
                refine qx_y (sees_t rfl rfl rfl rfl hp118) (y_fieldAddr fo_43_0 rfl) ?_
                refine qx_y (sees_t rfl rfl rfl rfl hp118) (y_load1 1 (v:=.int .i64 y9.1.fNum) sc_3 rfl rfl rfl) ?_
                refine qx_y (sees_t rfl rfl rfl rfl hp118) (y_mul rfl rfl) ?_
                refine qx_y (sees_t rfl rfl rfl rfl hp118) (y_eql rfl rfl) ?_
                refine qx_y rfl (y_pick_tb (congrArg Value.bool hp118) rfl) ?_
                obtain rfl:=Option.some.inj h
                exact key _ _ (keep (keep (keep (keep (keep (keep rfl rfl) rfl) rfl) rfl) rfl) rfl)
               ·refine qx_skip (sees_f rfl rfl rfl rfl hp118) ?_
                refine qx_skip (sees_f rfl rfl rfl rfl hp118) ?_
                refine qx_skip (sees_f rfl rfl rfl rfl hp118) ?_
                refine qx_skip (sees_f rfl rfl rfl rfl hp118) ?_
                refine qx_skip (sees_f rfl rfl rfl rfl hp118) ?_
                refine qx_skip (sees_f rfl rfl rfl rfl hp118) ?_
                refine qx_skip (sees_f rfl rfl rfl rfl hp118) ?_
                refine qx_skip (sees_f rfl rfl rfl rfl hp118) ?_
                refine qx_skip (sees_f rfl rfl rfl rfl hp118) ?_
                refine qx_y rfl (y_pick_fb (congrArg Value.bool hp118) rfl) ?_
                obtain rfl:=Option.some.inj h
                exact key _ _ (keep (keep (keep (keep (keep (keep rfl rfl) rfl) rfl) rfl) rfl) rfl)
            ·clear h; rcases ite_some hb116 with ⟨hp114,h⟩ | ⟨hp114,h⟩
             ·refine ox_skip (sees_f rfl rfl rfl rfl hp114) ?_
              refine ox_skip (sees_f rfl rfl rfl rfl hp114) ?_
              refine ox_skip (sees_f rfl rfl rfl rfl hp114) ?_
              refine ox_skip (sees_f rfl rfl rfl rfl hp114) ?_
              refine ox_skip (sees_f rfl rfl rfl rfl hp114) ?_
              refine ox_y rfl (y_pick_tb (congrArg Value.bool hp114) rfl) ?_
              obtain rfl:=Option.some.inj h
              exact key _ _ (keep (keep (keep (keep (keep (keep (keep (keep (keep rfl rfl) rfl) rfl) rfl) rfl) rfl) rfl) rfl) rfl)
             ·refine ox_y (sees_t rfl rfl rfl rfl hp114) (y_move_bool rfl) ?_
              refine ox_y (sees_t rfl rfl rfl rfl hp114) (y_move_slice rfl) ?_
              refine ox_y (sees_t rfl rfl rfl rfl hp114) (y_move_int rfl) ?_
              obtain ⟨y132,hy133,h⟩:=bind_some h
              refine ox_y (sees_t rfl rfl rfl rfl hp114) (y_call [.slice A15 y13.1.length c16,.int .i64 p2] go_22 rfl (fun W2 hW2 => calxlaw09_among_ok y13.1 p2 y132 hy133 W2 A15 y13.1.length c16 rfl ((RdL.row 2 rfl) W2 hW2)) rfl) ?_
              refine ox_y (sees_t rfl rfl rfl rfl hp114) (y_neqb ub_4 rfl rfl) ?_
              refine ox_y rfl (y_pick_fb (congrArg Value.bool hp114) rfl) ?_
              obtain rfl:=Option.some.inj h
              exact key _ _ (keep (keep (keep (keep (keep (keep (keep (keep (keep rfl rfl) rfl) rfl) rfl) rfl) rfl) rfl) rfl) rfl)
        ·clear h; rcases ite_some hb32 with ⟨hp30,h⟩ | ⟨hp30,h⟩
         ·refine ox_skip (sees_f rfl rfl rfl rfl hp30) ?_
          refine ox_skip (sees_f rfl rfl rfl rfl hp30) ?_
          refine ox_skip (sees_f rfl rfl rfl rfl hp30) ?_
          refine ox_skip (sees_f rfl rfl rfl rfl hp30) ?_
          refine ox_skip (sees_f rfl rfl rfl rfl hp30) ?_
          refine ox_y rfl (y_pick_tb (congrArg Value.bool hp30) rfl) ?_
          obtain rfl:=Option.some.inj h
          exact key _ _ (keep (keep (keep (keep (keep (keep (keep (keep (keep (keep (keep rfl rfl) rfl) rfl) rfl) rfl) rfl) rfl) rfl) rfl) rfl) rfl)
         ·refine ox_y (sees_t rfl rfl rfl rfl hp30) (y_move_int rfl) ?_
          refine ox_y (sees_t rfl rfl rfl rfl hp30) (y_fieldAddr fo_43_1 rfl) ?_
          refine ox_y (sees_t rfl rfl rfl rfl hp30) (y_load1 1 (v:=.int .i64 y9.1.fDen) sc_3 rfl rfl rfl) ?_
          obtain ⟨hg134,h⟩:=guardO_some h
          refine ox_y (sees_t rfl rfl rfl rfl hp30) (y_rem hg134 rfl rfl) ?_
          refine ox_y (sees_t rfl rfl rfl rfl hp30) (y_neq rfl rfl) ?_
          refine ox_y rfl (y_pick_fb (congrArg Value.bool hp30) rfl) ?_
          obtain rfl:=Option.some.inj h
          exact key _ _ (keep (keep (keep (keep (keep (keep (keep (keep (keep (keep (keep rfl rfl) rfl) rfl) rfl) rfl) rfl) rfl) rfl) rfl) rfl) rfl)
       ·rcases bool_cases (((y13.2 != 0) || (y19.2 != 0)) || (y25.2 != 0)) with hp29 | hp29
        ·refine ox_skip (sees_f rfl rfl rfl rfl hp29) ?_
         refine ox_skip (sees_f rfl rfl rfl rfl hp29) ?_
         refine ox_skip (sees_f rfl rfl rfl rfl hp29) ?_
         refine ox_y rfl (y_pick_tb (congrArg Value.bool hp29) rfl) ?_
         exact key _ _ (keep (keep (keep (keep (keep (keep (keep (keep (keep (keep (keep rfl rfl) rfl) rfl) rfl) rfl) rfl) rfl) rfl) rfl) rfl) (congrArg Value.bool (or_t hp29)))
        ·refine ox_y (sees_t rfl rfl rfl rfl hp29) (y_fieldAddr fo_43_1 rfl) ?_
         refine ox_y (sees_t rfl rfl rfl rfl hp29) (y_load1 1 (v:=.int .i64 y9.1.fDen) sc_3 rfl rfl rfl) ?_
         refine ox_y (sees_t rfl rfl rfl rfl hp29) (y_lss rfl rfl) ?_
         refine ox_y rfl (y_pick_fb (congrArg Value.bool hp29) rfl) ?_
         exact key _ _ (keep (keep (keep (keep (keep (keep (keep (keep (keep (keep (keep rfl rfl) rfl) rfl) rfl) rfl) rfl) rfl) rfl) rfl) rfl) (congrArg Value.bool (or_f hp29)))
      ·rcases bool_cases ((y13.2 != 0) || (y19.2 != 0)) with hp28 | hp28
       ·refine ox_skip (sees_f rfl rfl rfl rfl hp28) ?_
        refine ox_skip (sees_f rfl rfl rfl rfl hp28) ?_
        refine ox_y rfl (y_pick_tb (congrArg Value.bool hp28) rfl) ?_
        exact key _ _ (keep (keep (keep (keep (keep (keep (keep (keep (keep (keep (keep rfl rfl) rfl) rfl) rfl) rfl) rfl) rfl) rfl) rfl) rfl) (congrArg Value.bool (or_t hp28)))
       ·refine ox_y (sees_t rfl rfl rfl rfl hp28) (y_move_int rfl) ?_
        refine ox_y (sees_t rfl rfl rfl rfl hp28) (y_neq rfl rfl) ?_
        refine ox_y rfl (y_pick_fb (congrArg Value.bool hp28) rfl) ?_
        exact key _ _ (keep (keep (keep (keep (keep (keep (keep (keep (keep (keep (keep rfl rfl) rfl) rfl) rfl) rfl) rfl) rfl) rfl) rfl) rfl) (congrArg Value.bool (or_f hp28)))
     ·rcases bool_cases (y13.2 != 0) with hp27 | hp27
      ·refine ox_skip (sees_f rfl rfl rfl rfl hp27) ?_
       refine ox_skip (sees_f rfl rfl rfl rfl hp27) ?_
       refine ox_y rfl (y_pick_tb (congrArg Value.bool hp27) rfl) ?_
       exact key _ _ (keep (keep (keep (keep (keep (keep (keep (keep (keep (keep (keep (keep rfl rfl) rfl) rfl) rfl) rfl) rfl) rfl) rfl) rfl) rfl) rfl) (congrArg Value.bool (or_t hp27)))
      ·refine ox_y (sees_t rfl rfl rfl rfl hp27) (y_move_int rfl) ?_
       refine ox_y (sees_t rfl rfl rfl rfl hp27) (y_neq rfl rfl) ?_
       refine ox_y rfl (y_pick_fb (congrArg Value.bool hp27) rfl) ?_
       exact key _ _ (keep (keep (keep (keep (keep (keep (keep (keep (keep (keep (keep (keep rfl rfl) rfl) rfl) rfl) rfl) rfl) rfl) rfl) rfl) rfl) rfl) (congrArg Value.bool (or_f hp27)))
  ·rcases bool_cases ((!y4) || (decide (30 < (p1.length:Int)))) with hp7 | hp7
   ·refine ox_skip (sees_f rfl rfl rfl rfl hp7) ?_
    refine ox_skip (sees_f rfl rfl rfl rfl hp7) ?_
    refine ox_skip (sees_f rfl rfl rfl rfl hp7) ?_
    refine ox_skip (sees_f rfl rfl rfl rfl hp7) ?_
    refine ox_y rfl (y_pick_tb (congrArg Value.bool hp7) rfl) ?_
    exact key _ _ (keep (keep (keep (keep (keep (keep (keep rfl rfl) rfl) rfl) rfl) rfl) rfl) (congrArg Value.bool (or_t hp7)))
   ·refine ox_y (sees_t rfl rfl rfl rfl hp7) (y_fieldAddr fo_25_1 rfl) ?_
    refine ox_y (sees_t rfl rfl rfl rfl hp7) (y_load1 0 (v:=.slice A0_1 p0.fClaims.length c0_1) sc_23 rfl rfl rfl) ?_
    refine ox_y (sees_t rfl rfl rfl rfl hp7) (y_len (us:=[]) us_23 rfl) ?_
    refine ox_y (sees_t rfl rfl rfl rfl hp7) (y_eql rfl rfl) ?_
    refine ox_y rfl (y_pick_fb (congrArg Value.bool hp7) rfl) ?_
    exact key _ _ (keep (keep (keep (keep (keep (keep (keep rfl rfl) rfl) rfl) rfl) rfl) rfl) (congrArg Value.bool (or_f hp7)))
 ·rcases bool_cases (!y4) with hp6 | hp6
  ·refine ox_skip (sees_f rfl rfl rfl rfl hp6) ?_
   refine ox_skip (sees_f rfl rfl rfl rfl hp6) ?_
   refine ox_skip (sees_f rfl rfl rfl rfl hp6) ?_
   refine ox_y rfl (y_pick_tb (congrArg Value.bool hp6) rfl) ?_
   exact key _ _ (keep (keep (keep (keep (keep (keep (keep rfl rfl) rfl) rfl) rfl) rfl) rfl) (congrArg Value.bool (or_t hp6)))
  ·refine ox_y (sees_t rfl rfl rfl rfl hp6) (y_move_slice rfl) ?_
   refine ox_y (sees_t rfl rfl rfl rfl hp6) (y_len (us:=[]) us_32 rfl) ?_
   refine ox_y (sees_t rfl rfl rfl rfl hp6) (y_gtr rfl rfl) ?_
   refine ox_y rfl (y_pick_fb (congrArg Value.bool hp6) rfl) ?_
   exact key _ _ (keep (keep (keep (keep (keep (keep (keep rfl rfl) rfl) rfl) rfl) rfl) rfl) (congrArg Value.bool (or_f hp6)))

end Go.Proofs.Ytbblpokfbmekfaa
