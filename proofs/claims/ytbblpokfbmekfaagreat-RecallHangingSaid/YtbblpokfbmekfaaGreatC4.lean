import Derived.Test.YtbblpokfbmekfaaGreatF
import Derived.Test.YtbblpokfbmekfaaGreatG3
import Derived.Test.YtbblpokfbmekfaaGreatGv
import Derived.Test.YtbblpokfbmekfaaGreatC0
import Derived.Test.YtbblpokfbmekfaaGreatC1
import Derived.Test.YtbblpokfbmekfaaGreatC2
set_option maxHeartbeats 4000000
set_option maxRecDepth 100000
set_option linter.unusedVariables false
namespace Go.Proofs.YtbblpokfbmekfaaGreat
open Go.RowKit (Below)
attribute [local irreducible] OX QX CX EX OpY Calls CallsIn
theorem recall_Gates_ok (p0:TL) (p1:(List Int)) (p2:Int) (res:((List Int) × Int)) (h:recall_Gates p0 p1 p2 = some res) (W:World) (Aa:Option Addr) (n0_0 ca : Nat) (hn0_0:n0_0 = p0.fNo.length) (hr0_0:Rd W Aa n0_0 ca (encL TNode_cells p0.fNo)) (Ab:Option Addr) (n0_1 cb : Nat) (ys0_1:List (Hd × TC)) (hn0_1:n0_1 = p0.fC.length) (hr0_1:Rd W Ab n0_1 cb (encL TClaim_cells2 ys0_1)) (hN0_1:NestW W (fun z : TC => z.fO) THop_cells ys0_1 p0.fC) (Ac:Option Addr) (n1_0 cc : Nat) (hn1_0:n1_0 = p1.length) (hr1_0:Rd W Ac n1_0 cc (encL cI p1)) :
  Calls Tryz.prog 22 [.agg #[.slice Aa n0_0 ca,.slice Ab n0_1 cb],.slice Ac n1_0 cc,.int .i64 p2].toArray W fun e W2 => ∃ x : Option Addr × Nat × Nat,x.2.1 = res.1.length ∧ e = .returned (.tuple #[.slice x.1 x.2.1 x.2.2,.int .i64 res.2]) ∧ Ext W W2 [rowR x.1 x.2.2 3 1 x.2.1 (encL cI res.1)]:=by
 subst hn0_0
 subst hn0_1
 subst hn1_0
 unfold recall_Gates at h
 refine calls_enter (m:=56) Tryz.func22 rfl rfl (nB rfl) ?_
 refine cS (cR ?_)
 refine ox_box [.slice Aa p0.fNo.length ca,.slice Ab p0.fC.length cb] rfl rfl rfl (fun b1 => ?_)
 refine ox_y rfl (yAS rfl) (ox_y rfl (yAI rfl) ?_)
 refine oN (eT (cS (cS (cR ?_))))
 refine ox_y rfl (y_loadN 0 [.slice Aa p0.fNo.length ca,.slice Ab p0.fC.length cb] ag_25 rfl rfl rfl) (ox_y rfl (yMS rfl) (ox_y rfl (yMI rfl) ?_))
 obtain ⟨y2,hy3,h⟩:=bOs h
 refine ox_y rfl (y_call [.agg #[.slice Aa p0.fNo.length ca,.slice Ab p0.fC.length cb],.slice Ac p1.length cc,.int .i64 p2] go_74 rfl (fun W2 hW2 => recall_askedTo_ok p0 p1 p2 y2 hy3 W2 Aa p0.fNo.length ca rfl ((RdL.arg hr0_0) W2 hW2) Ab p0.fC.length cb ys0_1 rfl ((RdL.arg hr0_1) W2 hW2) (NestL.at (NestL.arg hN0_1) W2 hW2) Ac p1.length cc rfl ((RdL.arg hr1_0) W2 hW2)) rfl) (ox_y rfl (yAI rfl) ?_)
 refine oN (eT (cS (cR ?_)))
 refine ox_y rfl (yMI rfl) (ox_y rfl (y_neq rfl rfl) ?_)
 refine oN (eT ?_)
 rcases iOs h with ⟨hp4,h⟩ | ⟨hp4,h⟩
 ·refine cx_true (vB hp4) ?_
  refine cS (cR ?_)
  refine ox_y rfl (yMI rfl) (ox_y rfl (yAS rfl) (ox_y rfl (yAI rfl) ?_))
  refine oN (eT (cx_ret (ex_then_ret ?_)))
  obtain rfl:=sI h
  exact ex_res2 (.inl rfl) rfl (rVt (v:=.slice none 0 0) rfl) (rVt (v:=.int .i64 y2) rfl) (fun W2 hW2 => ⟨(none,0,0),rfl,rfl,((hW2.nilrow 3 1).pick 1 rfl)⟩)
 ·refine cx_false (vB hp4) ?_
  refine cx_skip (eT (cS (cS (cR ?_))))
  refine ox_y rfl (y_loadN 0 [.slice Aa p0.fNo.length ca,.slice Ab p0.fC.length cb] ag_25 rfl rfl rfl) (ox_y rfl (yMS rfl) (ox_y rfl (yMI rfl) ?_))
  obtain ⟨y7,hy8,h⟩:=bOs h
  refine ox_y rfl (y_call [.agg #[.slice Aa p0.fNo.length ca,.slice Ab p0.fC.length cb],.slice Ac p1.length cc,.int .i64 p2,.func (.func 76) #[] #[]] go_75 rfl (fun W2 hW2 => recall_maybe_ok p0 p1 p2 (fun x5 x6 => recall_anyOption x5 x6) y7 hy8 W2 Aa p0.fNo.length ca rfl ((RdL.arg hr0_0) W2 hW2) Ab p0.fC.length cb ys0_1 rfl ((RdL.arg hr0_1) W2 hW2) (NestL.at (NestL.arg hN0_1) W2 hW2) Ac p1.length cc rfl ((RdL.arg hr1_0) W2 hW2) 76 [] [] go_76 (fun W3 hb x0 x1 y hxy => recall_anyOption_ok  x0 x1  y hxy W3 )) rfl) (ox_y rfl (y_not rfl) ?_)
  refine oN (eT ?_)
  rcases iOs h with ⟨hp9,h⟩ | ⟨hp9,h⟩
  ·refine cx_true (vB hp9) ?_
   refine cS (cR ?_)
   refine ox_y rfl (yAS rfl) (ox_y rfl (yAI rfl) ?_)
   refine oN (eT (cx_ret (ex_then_ret ?_)))
   obtain rfl:=sI h
   exact ex_res2 (.inl rfl) rfl (rVt (v:=.slice none 0 0) rfl) (rVt (v:=.int .i64 5) rfl) (fun W2 hW2 => ⟨(none,0,0),rfl,rfl,((hW2.nilrow 3 1).pick 1 rfl)⟩)
  ·refine cx_false (vB hp9) ?_
   refine cx_skip (eT (cS (cR ?_)))
   refine ox_y rfl (yAS rfl) ?_
   refine oN (eT (cS (cS (cR ?_))))
   refine ox_y rfl (yFA fo_25_0 rfl) (ox_y rfl (y_load1 0 (v:=.slice Aa p0.fNo.length ca) sc_22 rfl rfl rfl) (ox_y rfl (y_len (us:=[]) us_22 rfl) (ox_y rfl (yMI rfl) ?_)))
   refine oN (eT (cx_block ?_))
   obtain ⟨u13,hl32,h⟩:=bOs h
   refine cx_nilrow 3 1 ?_
   refine cx_loop (fun (s:(Int × (List Int))) L tm => ∃ (tm0:Nat → Value) (A1_s:Option Addr) (c1_s:Nat) (n1_s:Nat),n1_s = s.2.length ∧ L = [cellsR b1 25 [.slice Aa p0.fNo.length ca,.slice Ab p0.fC.length cb],rowR A1_s c1_s 3 1 n1_s (encL cI s.2)] ∧ tm = (upd (upd (upd (upd (upd (upd (upd (upd (upd (upd (upd (upd (upd tm0 0 (.agg #[.slice Aa p0.fNo.length ca,.slice Ab p0.fC.length cb])) 1 (.slice Ac p1.length cc)) 2 (.int .i64 p2)) 3 (.pointer (some ⟨b1,0,none⟩))) 6 (.slice none 0 0)) 7 (.int .i64 0)) 8 (.int .i64 y2)) 17 (.bool (y2 != 0))) 23 (.bool (!y7))) 9 (.slice A1_s n1_s c1_s)) 25 (.slice Aa p0.fNo.length ca)) 26 (.int .i64 (p0.fNo.length:Int))) 27 (.int .i64 s.1))) (fun s e L tm => e = .exit 0 ∧ ∃ (tm0:Nat → Value) (A1_s:Option Addr) (c1_s:Nat) (n1_s:Nat),n1_s = s.2.length ∧ L = [cellsR b1 25 [.slice Aa p0.fNo.length ca,.slice Ab p0.fC.length cb],rowR A1_s c1_s 3 1 n1_s (encL cI s.2)] ∧ tm = (upd (upd (upd (upd (upd (upd (upd (upd (upd (upd (upd (upd (upd tm0 0 (.agg #[.slice Aa p0.fNo.length ca,.slice Ab p0.fC.length cb])) 1 (.slice Ac p1.length cc)) 2 (.int .i64 p2)) 3 (.pointer (some ⟨b1,0,none⟩))) 6 (.slice none 0 0)) 7 (.int .i64 0)) 8 (.int .i64 y2)) 17 (.bool (y2 != 0))) 23 (.bool (!y7))) 9 (.slice A1_s n1_s c1_s)) 25 (.slice Aa p0.fNo.length ca)) 26 (.int .i64 (p0.fNo.length:Int))) 27 (.int .i64 s.1))) hl32 ⟨_,none,0,0,rfl,rfl,(kp4 (kp4 (kp4 (kp rfl))))⟩ ?_ ?_
   ·rintro s12 L tm st ⟨tm0_s12,A1_s12,c1_s12,n1_s12,rfl,rfl,rfl⟩ h
    unfold recall_Gates_l1 at h
    refine cS (cR ?_)
    refine ox_y rfl (y_lss rfl rfl) ?_
    refine oN (eT (cS ?_))
    rcases iOs h with ⟨hp14,h⟩ | ⟨hp14,h⟩
    ·refine cx_true (vB hp14) ?_
     refine cx_skip (eT (cS (cx_block (cS (cR ?_)))))
     obtain ⟨hg15,h⟩:=gOs h
     refine ox_y rfl (y_indexR sl_22 (by decide) hg15.1 hg15.2 (RdL.arg hr0_0) (encL_len TNode_cells_len rfl) rfl rfl) ?_
     refine ox_y rfl (y_loadRN (A:=Aa) (j:=(Int.toNat s12.1 * 3)) [.int .i64 ((rdL p0.fNo s12.1).fID),.int .i64 ((rdL p0.fNo s12.1).fLevel),.int .i64 ((rdL p0.fNo s12.1).fCost)] ag_97 (Nat.succ_pos _) (RdL.arg hr0_0) rfl (encL_gets TNode_cells_len hg15.1 (lt_nat hg15.2 rfl))) ?_
     refine ox_alloc ze_97 rfl (fun b16 => ?_)
     refine ox_n rfl (y_storeN 2 [.int .i64 ((rdL p0.fNo s12.1).fID),.int .i64 ((rdL p0.fNo s12.1).fLevel),.int .i64 ((rdL p0.fNo s12.1).fCost)] sz_97 rfl (nB rfl) rfl rfl rfl) ?_
     refine oN (eT (cS (cS (cR ?_))))
     refine ox_y rfl (yFA fo_97_0 rfl) (ox_y rfl (y_load1 2 (v:=.int .i64 ((rdL p0.fNo s12.1).fID)) sc_3 rfl rfl rfl) (ox_y rfl (yMI rfl) (ox_y rfl (y_eql rfl rfl) (ox_y rfl (y_move_bool rfl) ?_))))
     obtain ⟨b18,hb19,h⟩:=bOs h
     refine ox_join 5 (fun tm0 => (upd (upd (upd (upd (upd (upd (upd (upd (upd (upd (upd (upd (upd (upd (upd (upd tm0 0 (.agg #[.slice Aa p0.fNo.length ca,.slice Ab p0.fC.length cb])) 1 (.slice Ac p1.length cc)) 2 (.int .i64 p2)) 3 (.pointer (some ⟨b1,0,none⟩))) 6 (.slice none 0 0)) 7 (.int .i64 0)) 8 (.int .i64 y2)) 17 (.bool (y2 != 0))) 23 (.bool (!y7))) 9 (.slice A1_s12 s12.2.length c1_s12)) 25 (.slice Aa p0.fNo.length ca)) 26 (.int .i64 (p0.fNo.length:Int))) 27 (.int .i64 s12.1)) 28 (.bool (decide (s12.1 < (p0.fNo.length:Int))))) 11 (.pointer (some ⟨b16,0,none⟩))) 40 (.bool b18))) (fun tm0 => ?_) (fun key => ?_)
     ·refine oN (eT ?_)
      rcases iOs h with ⟨hp20,h⟩ | ⟨hp20,h⟩
      ·refine cx_true (vB hp20) (cx_exit (ex_then_exit (ex_block_here ?_)))
       refine eT (cR ?_)
       refine ox_y rfl (y_add rfl rfl) (ox_y rfl (yMI rfl) (oN (ex_take 2 ?_)))
       obtain rfl:=sI h
       exact ex_next ⟨_,A1_s12,c1_s12,s12.2.length,rfl,rfl,(kp4 (kp4 (kp4 (kp rfl))))⟩
      ·refine cx_false (vB hp20) ?_
       refine cx_skip (eT (cS (cR ?_)))
       refine ox_y rfl (y_loadN 0 [.slice Aa p0.fNo.length ca,.slice Ab p0.fC.length cb] ag_25 rfl rfl rfl) (ox_y rfl (yMS rfl) (ox_y rfl (yMI rfl) (ox_y rfl (y_makeFunc [.pointer (some ⟨b1,0,none⟩),.pointer (some ⟨b16,0,none⟩)] rfl rfl) ?_)))
       obtain ⟨y23,hy24,h⟩:=bOs h
       refine ox_y rfl (y_call [.agg #[.slice Aa p0.fNo.length ca,.slice Ab p0.fC.length cb],.slice Ac p1.length cc,.int .i64 p2,.func (.func 81) #[] #[.pointer (some ⟨b1,0,none⟩),.pointer (some ⟨b16,0,none⟩)]] go_75 rfl (fun W2 hW2 => recall_maybe_ok p0 p1 p2 (fun x21 x22 => recall_Gates_1 x21 x22 p0 (TN.mk ((rdL p0.fNo s12.1).fID) ((rdL p0.fNo s12.1).fLevel) ((rdL p0.fNo s12.1).fCost))) y23 hy24 W2 Aa p0.fNo.length ca rfl ((RdL.arg hr0_0) W2 hW2) Ab p0.fC.length cb ys0_1 rfl ((RdL.arg hr0_1) W2 hW2) (NestL.at (NestL.arg hN0_1) W2 hW2) Ac p1.length cc rfl ((RdL.arg hr1_0) W2 hW2) 81 [] [.pointer (some ⟨b1,0,none⟩),.pointer (some ⟨b16,0,none⟩)] go_81 (fun W3 hb x0 x1 y hxy => recall_Gates_1_ok  x0 x1 p0 (TN.mk ((rdL p0.fNo s12.1).fID) ((rdL p0.fNo s12.1).fLevel) ((rdL p0.fNo s12.1).fCost)) y hxy W3 b1 Aa p0.fNo.length ca rfl (((RdL.arg hr0_0) W2 hW2).later hb) Ab p0.fC.length cb ys0_1 rfl (((RdL.arg hr0_1) W2 hW2).later hb) ((NestL.at (NestL.arg hN0_1) W2 hW2).later hb) (((RdL.cells 0 rfl) W2 hW2).later hb) b16 (((RdL.cells 2 rfl) W2 hW2).later hb))) rfl) (ox_y rfl (y_not rfl) ?_)
       refine oN (eT ?_)
       rcases iOs h with ⟨hp25,h⟩ | ⟨hp25,h⟩
       ·refine cx_true (vB hp25) (cR (ox_y rfl (yMS rfl) (ox_y rfl (yFA fo_97_0 rfl) (ox_y rfl (y_load1 2 (v:=.int .i64 ((rdL p0.fNo s12.1).fID)) sc_3 rfl rfl rfl) ?_))))
        refine ox_buildSliceE 1 (encL cI [(rdL p0.fNo s12.1).fID]) _ mc_3_1 us_26 ze_3 by_3 (by decide) (by decide) (by kernel_rfl) (encL_len cI_len rfl) rfl (fun b26 => ?_)
        obtain ⟨hg29,h⟩:=gOs h
        refine ox_append0 1 us_26 ze_3 by_3 rfl rfl rfl (RdL.row 3 rfl) (encL_len cI_len rfl) (encL_one cI_one _) (app_room hg29 (by decide)) rfl (fun A27 c28 => ?_)
        refine ox_y rfl (yAS rfl) (oN (ex_block ?_))
        refine eT (cR ?_)
        refine ox_y rfl (y_add rfl rfl) (ox_y rfl (yMI rfl) (oN (ex_take 2 ?_)))
        obtain rfl:=sI h
        exact ex_next ⟨_,A27,c28,(s12.2.length + 1),(hn_app rfl rfl),rfl,(kp4 (kp4 (kp4 (kp rfl))))⟩
       ·refine cx_false (vB hp25) (cx_skip (ex_block ?_))
        refine eT (cR ?_)
        refine ox_y rfl (y_add rfl rfl) (ox_y rfl (yMI rfl) (oN (ex_take 2 ?_)))
        obtain rfl:=sI h
        exact ex_next ⟨_,A1_s12,c1_s12,s12.2.length,rfl,rfl,(kp4 (kp4 (kp4 (kp rfl))))⟩
     ·clear h; rcases iOs hb19 with ⟨hp17,h⟩ | ⟨hp17,h⟩
      ·refine oSk (sF rfl rfl rfl rfl hp17) (oSk (sF rfl rfl rfl rfl hp17) (oSk (sF rfl rfl rfl rfl hp17) (oSk (sF rfl rfl rfl rfl hp17) (ox_y rfl (y_pick_tb (vB hp17) rfl) ?_))))
       obtain rfl:=sI h
       exact key _ _ (kp4 (kp4 (kp4 (kp4 rfl))))
      ·refine ox_y (sT rfl rfl rfl rfl hp17) (yMS rfl) (ox_y (sT rfl rfl rfl rfl hp17) (yFA fo_97_0 rfl) (ox_y (sT rfl rfl rfl rfl hp17) (y_load1 2 (v:=.int .i64 ((rdL p0.fNo s12.1).fID)) sc_3 rfl rfl rfl) ?_))
       obtain ⟨y30,hy31,h⟩:=bOs h
       refine ox_y (sT rfl rfl rfl rfl hp17) (y_call [.slice Ac p1.length cc,.int .i64 ((rdL p0.fNo s12.1).fID)] go_80 rfl (fun W2 hW2 => slices_Contains_int_int_ok p1 ((rdL p0.fNo s12.1).fID) y30 hy31 W2 Ac p1.length cc rfl ((RdL.arg hr1_0) W2 hW2)) rfl) (ox_y rfl (y_pick_fb (vB hp17) rfl) ?_)
       obtain rfl:=sI h
       exact key _ _ (kp4 (kp4 (kp4 (kp4 rfl))))
    ·refine cx_false (vB hp14) (cx_exit (ex_then_exit ?_))
     obtain rfl:=sI h
     exact ex_stop ⟨rfl,_,A1_s12,c1_s12,s12.2.length,rfl,rfl,(kp4 (kp4 (kp4 (kp rfl))))⟩
   ·intro e L tm hJ
    obtain ⟨rfl,tm0_u13,A1_u13,c1_u13,n1_u13,rfl,rfl,rfl⟩:=hJ
    refine ⟨(by intro hc; cases hc),?_⟩
    refine ex_block_here ?_
    refine eT (cS (cR ?_))
    refine ox_y rfl (yMS rfl) ?_
    obtain ⟨y33,hy34,h⟩:=bOs h
    refine ox_callT 1 [.slice A1_u13 u13.2.length c1_u13] (fun (_:Unit) => u13.2.length = y33.length) (fun _ => .tuple #[]) (fun _ => rowR A1_u13 c1_u13 3 1 u13.2.length (encL cI y33)) (fun _ => []) rfl rfl go_78 rfl (fun W2 hW2 => (slices_Sort_int_int_ok u13.2 y33 hy34 W2 _ (restR [cellsR b1 25 [.slice Aa p0.fNo.length ca,.slice Ab p0.fC.length cb],rowR A1_u13 c1_u13 3 1 u13.2.length (encL cI u13.2)] [1]) A1_u13 u13.2.length c1_u13 rfl hW2).mono (fun e W3 h3 => ⟨(),h3.2.1,h3.1,h3.2.2⟩)) ?_
    rintro - hn35
    try dsimp only [lsz,lss,List.append_nil]
    refine oN (eT (cS (cR ?_)))
    refine ox_y rfl (yMS rfl) (ox_y rfl (yAS rfl) (ox_y rfl (yAI rfl) ?_))
    refine oN (eT (cx_ret ?_))
    obtain rfl:=sI h
    exact ex_res2 (.inl rfl) rfl (rVt (v:=.slice A1_u13 u13.2.length c1_u13) rfl) (rVt (v:=.int .i64 0) rfl) (fun W2 hW2 => ⟨(A1_u13,u13.2.length,c1_u13),hn35,rfl,(hW2.pick 1 rfl)⟩)
theorem recall_Share_ok (p0:TL) (p1:(List Int)) (p2:Int) (res:(TRatio × Int)) (h:recall_Share p0 p1 p2 = some res) (W:World) (Aa:Option Addr) (n0_0 ca : Nat) (hn0_0:n0_0 = p0.fNo.length) (hr0_0:Rd W Aa n0_0 ca (encL TNode_cells p0.fNo)) (Ab:Option Addr) (n0_1 cb : Nat) (ys0_1:List (Hd × TC)) (hn0_1:n0_1 = p0.fC.length) (hr0_1:Rd W Ab n0_1 cb (encL TClaim_cells2 ys0_1)) (hN0_1:NestW W (fun z : TC => z.fO) THop_cells ys0_1 p0.fC) (Ac:Option Addr) (n1_0 cc : Nat) (hn1_0:n1_0 = p1.length) (hr1_0:Rd W Ac n1_0 cc (encL cI p1)) :
  Calls Tryz.prog 24 [.agg #[.slice Aa n0_0 ca,.slice Ab n0_1 cb],.slice Ac n1_0 cc,.int .i64 p2].toArray W fun e W2 => e = .returned (.tuple #[.agg #[.int .i64 res.1.fNum,.int .i64 res.1.fDen],.int .i64 res.2]) ∧ Ext W W2 []:=by
 subst hn0_0
 subst hn0_1
 subst hn1_0
 unfold recall_Share at h
 refine calls_enterM (m:=51) Tryz.func24 rfl rfl (nB rfl) ?_
 refine cS (cR ?_)
 refine ox_box [.slice Aa p0.fNo.length ca,.slice Ab p0.fC.length cb] rfl rfl rfl (fun b1 => ?_)
 refine ox_box [.slice Ac p1.length cc] rfl rfl rfl (fun b2 => ?_)
 refine ox_box [.int .i64 p2] rfl rfl rfl (fun b3 => ?_)
 refine ox_alloc ze_48 rfl (fun b4 => ?_)
 refine ox_y rfl (yAI rfl) ?_
 refine oN (eT (cS (cS (cR ?_))))
 refine ox_y rfl (y_loadN 0 [.slice Aa p0.fNo.length ca,.slice Ab p0.fC.length cb] ag_25 rfl rfl rfl) (ox_y rfl (y_load1 1 (v:=.slice Ac p1.length cc) sc_26 rfl rfl rfl) (ox_y rfl (y_load1 2 (v:=.int .i64 p2) sc_3 rfl rfl rfl) ?_))
 obtain ⟨y5,hy6,h⟩:=bOs h
 refine ox_y rfl (y_call [.agg #[.slice Aa p0.fNo.length ca,.slice Ab p0.fC.length cb],.slice Ac p1.length cc,.int .i64 p2] go_74 rfl (fun W2 hW2 => recall_askedTo_ok p0 p1 p2 y5 hy6 W2 Aa p0.fNo.length ca rfl ((RdL.arg hr0_0) W2 hW2) Ab p0.fC.length cb ys0_1 rfl ((RdL.arg hr0_1) W2 hW2) (NestL.at (NestL.arg hN0_1) W2 hW2) Ac p1.length cc rfl ((RdL.arg hr1_0) W2 hW2)) rfl) (ox_y rfl (yAI rfl) ?_)
 refine oN (eT (cS (cR ?_)))
 refine ox_y rfl (yMI rfl) (ox_y rfl (y_neq rfl rfl) ?_)
 refine oN (eT ?_)
 rcases iOs h with ⟨hp7,h⟩ | ⟨hp7,h⟩
 ·refine cx_true (vB hp7) ?_
  refine cS (cR ?_)
  refine ox_y rfl (y_buildS [.int .i64 0,.int .i64 0] [(0,1),(1,1)] ust_48 ze_48 (by kernel_rfl)) ?_
  refine ox_y rfl (yMI rfl) (ox_n rfl (y_storeN 3 [.int .i64 0,.int .i64 0] sz_48 rfl (nB rfl) rfl rfl rfl) (ox_y rfl (yAI rfl) ?_))
  refine oN (eT (cx_ret (ex_then_ret ?_)))
  refine ex_M0 (.inl rfl) ?_
  obtain rfl:=sI h
  exact ex_res2 (.inl rfl) rfl (resV_cellN 3 [.int .i64 0,.int .i64 0] ag_48 rfl rfl rfl) (rVt (v:=.int .i64 y5) rfl) (fun W2 hW2 => ⟨rfl,hW2.none⟩)
 ·refine cx_false (vB hp7) ?_
  refine cx_skip (eT (cS (cR ?_)))
  refine ox_alloc ze_3 rfl (fun b8 => ?_)
  refine ox_alloc ze_3 rfl (fun b9 => ?_)
  try dsimp only [lna,lca,lsz,lss]
  refine ox_n rfl (y_store1 4 (v:=.int .i64 0) sz_3 rfl (Nat.lt_of_lt_of_le (Nat.lt_succ_self _) (nB rfl)) rfl rfl rfl) (ox_n rfl (y_store1 5 (v:=.int .i64 0) sz_3 rfl (Nat.lt_of_lt_of_le (Nat.lt_succ_self _) (nB rfl)) rfl rfl rfl) ?_)
  refine oN (eT (cS (cS (cR ?_))))
  refine ox_y rfl (y_loadN 0 [.slice Aa p0.fNo.length ca,.slice Ab p0.fC.length cb] ag_25 rfl rfl rfl) ?_
  obtain ⟨y10,hy11,h⟩:=bOs h
  refine ox_call1 [.agg #[.slice Aa p0.fNo.length ca,.slice Ab p0.fC.length cb]] _ _ rfl go_86 rfl (fun W2 hW2 => recall_cases_ok p0 y10 hy11 W2 Aa p0.fNo.length ca rfl ((RdL.arg hr0_0) W2 hW2) Ab p0.fC.length cb ys0_1 rfl ((RdL.arg hr0_1) W2 hW2) (NestL.at (NestL.arg hN0_1) W2 hW2)) ?_
  rintro b12
  try dsimp only [lna,lca,lsz,lss]
  refine oN (eT (cx_block ?_))
  obtain ⟨hok37,h⟩:=gOs h
  obtain ⟨u25,hl36,h⟩:=bOs h
  refine cx_rangeC (caps:=[.pointer (some ⟨b12,0,none⟩)]) (fun (s:(Int × Int)) L => L = [cellsR b1 25 [.slice Aa p0.fNo.length ca,.slice Ab p0.fC.length cb],cellsR b2 26 [.slice Ac p1.length cc],cellsR b3 3 [.int .i64 p2],cellsR b4 48 [.int .i64 0,.int .i64 0],cellsR b8 3 [.int .i64 s.1],cellsR b9 3 [.int .i64 s.2],cellsR b12 25 [.slice Aa p0.fNo.length ca,.slice Ab p0.fC.length cb]]) (fun (_:Unit) _ _ => False) hl36 rfl go_130 (recall_cases_1_seq p0 hok37 b12 Aa p0.fNo.length ca Ab p0.fC.length cb rfl ys0_1 hN0_1.p) (fun W2 s L hI hW2 => by obtain rfl:=hI; exact ⟨(RdL.cells 6 rfl) W2 hW2,(RdL.arg hr0_1) W2 hW2⟩) rfl (fun _ _ _ h => h.elim) ?_ ?_ ?_
  ·rintro D13 l14 rec15 A17 c18 s23 x24 L st hrec16 rfl h
   unfold recall_Share_r1 at h
   refine cR ?_
   try dsimp only [lna,lca,lsz,lss]
   refine ox_y rfl (yAS rfl) (oN (ex_begin 8 rfl hrec16 ?_))
   refine cx_block (cS (cR ?_))
   refine ox_y rfl (y_load1 5 (v:=.int .i64 s23.2) sc_3 rfl rfl rfl) (ox_y rfl (y_add rfl rfl) (ox_n rfl (y_store1 5 (v:=.int .i64 (w64 (s23.2 + 1))) sz_3 rfl (Nat.lt_of_lt_of_le (Nat.lt_succ_self _) (nB rfl)) rfl rfl rfl) ?_))
   refine oN (eT (cS ?_))
   obtain ⟨y27,hy28,h⟩:=bOs h
   obtain ⟨y31,hy32,h⟩:=bOs h
   obtain ⟨hg34,h⟩:=gOs h
   refine cx_drawsG [[],[],[],[2],[0,1,2,3],[],[0,1,2,3,4,5]] [(none,0,[true,true,true,true,true,true,true,true,true,true]),(none,0,[true,true,true,true,true,true,true,true,true,true]),(none,0,[true,true,true,true,true,true,true,true,true,true]),(none,0,[true,true,true,true,true,true,true,true,true,true]),(none,1,[true,true,true,true,true,true,true,true,true,true]),(none,0,[true,true,true,true,true,true,true,true,true,true,false]),(none,0,[true,true,true,true,true,true,true,true,true,true,true])] [⟨fun _ => .agg #[.slice Aa p0.fNo.length ca,.slice Ab p0.fC.length cb],fun _ => noR,fun _ => []⟩,⟨fun _ => .slice Ac p1.length cc,fun _ => noR,fun _ => []⟩,⟨fun _ => .slice A17 x24.length c18,fun _ => noR,fun _ => []⟩,⟨fun _ => .func (.func 132) #[.slice A17 x24.length c18] #[],fun _ => noR,fun _ => []⟩,⟨fun ξ26 => .map (some (ξ26 4 0).2.1),fun _ => noR,fun ξ26 => [mapV Tryz.prog 3 kI rngB kB false (ξ26 4 0).2.1 y31]⟩,⟨fun _ => .int .i64 p2,fun _ => noR,fun _ => []⟩,⟨fun _ => .bool (mgetV false y31 p2),fun _ => noR,fun _ => []⟩] 10 mixed (by kernel_rfl) (by kernel_rfl) ⟨⟨fun ξ26 ξ26' h => ⟨rfl,rfl,rfl⟩,fun _ => rfl⟩,⟨fun ξ26 ξ26' h => ⟨rfl,rfl,rfl⟩,fun _ => rfl⟩,⟨fun ξ26 ξ26' h => ⟨rfl,rfl,rfl⟩,fun _ => rfl⟩,⟨fun ξ26 ξ26' h => ⟨rfl,rfl,rfl⟩,fun _ => rfl⟩,⟨fun ξ26 ξ26' h => ⟨by simp only [h 4 (.inl rfl)],rfl,by simp only [h 4 (.inl rfl)]⟩,fun _ => rfl⟩,⟨fun ξ26 ξ26' h => ⟨rfl,rfl,rfl⟩,fun _ => rfl⟩,⟨fun ξ26 ξ26' h => ⟨rfl,rfl,rfl⟩,fun _ => rfl⟩,trivial⟩ rfl (fun ξ26 => ?_)
   refine gx_o rfl (fun L2 => ?_) ?_
   ·dsimp only [maskL,lca,lna]
    refine ox_y rfl (y_loadN 0 [.slice Aa p0.fNo.length ca,.slice Ab p0.fC.length cb] ag_25 rfl rfl rfl) (oN ?_)
    exact ex_capG (fun _ => (none,0,0,[],noR)) rfl (List.append_nil _)
   dsimp only [aftL,lsz,lss,lna,lca,List.append_nil]
   refine gx_o rfl (fun L2 => ?_) ?_
   ·dsimp only [maskL,lca,lna]
    refine ox_y rfl (y_load1 1 (v:=.slice Ac p1.length cc) sc_26 rfl rfl rfl) (oN ?_)
    exact ex_capG (fun _ => (none,0,0,[],noR)) rfl (List.append_nil _)
   dsimp only [aftL,lsz,lss,lna,lca,List.append_nil]
   refine gx_o rfl (fun L2 => ?_) ?_
   ·dsimp only [maskL,lca,lna]
    refine ox_y rfl (yMS rfl) (oN ?_)
    exact ex_capG (fun _ => (none,0,0,[],noR)) rfl (List.append_nil _)
   dsimp only [aftL,lsz,lss,lna,lca,List.append_nil]
   refine gx_o rfl (fun L2 => ?_) ?_
   ·dsimp only [maskL,lca,lna]
    refine ox_y rfl (y_call [.slice A17 x24.length c18] go_88 rfl (fun W2 hW2 => recall_inCase_ok x24 y27 hy28 W2 A17 x24.length c18 rfl ((RdL.row 9 rfl) W2 hW2)) rfl) (oN ?_)
    exact ex_capG (fun _ => (none,0,0,[],noR)) rfl (List.append_nil _)
   dsimp only [aftL,lsz,lss,lna,lca,List.append_nil]
   refine gx_o rfl (fun L2 => ?_) ?_
   ·dsimp only [maskL,lca,lna]
    refine ox_call1 [.agg #[.slice Aa p0.fNo.length ca,.slice Ab p0.fC.length cb],.slice Ac p1.length cc,.func (.func 132) #[.slice A17 x24.length c18] #[]] _ _ rfl go_87 rfl (fun W2 hW2 => recall_reach_ok p0 p1 (fun x29 x30 => recall_fixed_has x24 x29 x30) y31 hy32 W2 Aa p0.fNo.length ca rfl ((RdL.arg hr0_0) W2 hW2) Ab p0.fC.length cb ys0_1 rfl ((RdL.arg hr0_1) W2 hW2) (NestL.at (NestL.arg hN0_1) W2 hW2) Ac p1.length cc rfl ((RdL.arg hr1_0) W2 hW2) 132 [.slice A17 x24.length c18] [] go_132 (fun W3 hb x0 x1 y hxy => recall_fixed_has_ok x24 x0 x1  y hxy W3 A17 x24.length c18 rfl (((RdL.row 9 rfl) W2 hW2).later hb))) ?_
    rintro b33
    refine oN ?_
    exact ex_capG (fun _ => (none,b33,0,[],noR)) rfl rfl
   dsimp only [aftL,lsz,lss,lna,lca,List.append_nil]
   refine gx_o rfl (fun L2 => ?_) ?_
   ·dsimp only [maskL,lca,lna]
    refine ox_y rfl (y_load1 2 (v:=.int .i64 p2) sc_3 rfl rfl rfl) (oN ?_)
    exact ex_capG (fun _ => (none,0,0,[],noR)) rfl (List.append_nil _)
   dsimp only [aftL,lsz,lss,lna,lca,List.append_nil]
   refine gx_o rfl (fun L2 => ?_) ?_
   ·dsimp only [maskL,lca,lna]
    refine ox_y rfl (y_lookupV (k:=p2) (MpL.own 10 rfl) ke_3 um_94 ze_4 rfl rfl hg34) (oN ?_)
    exact ex_capG (fun _ => (none,0,0,[],noR)) rfl (List.append_nil _)
   dsimp only [aftL,lsz,lss,lna,lca,List.append_nil]
   refine gx_nil (eT ?_)
   rcases iOs h with ⟨hp35,h⟩ | ⟨hp35,h⟩
   ·refine cx_true (vB hp35) (cR ?_)
    try dsimp only [lna,lca,lsz,lss]
    refine ox_y rfl (y_load1 4 (v:=.int .i64 s23.1) sc_3 rfl rfl rfl) (ox_y rfl (y_add rfl rfl) (ox_n rfl (y_store1 4 (v:=.int .i64 (w64 (s23.1 + 1))) sz_3 rfl (Nat.lt_of_lt_of_le (Nat.lt_succ_self _) (nB rfl)) rfl rfl rfl) (oN (ex_block (ex_take 10 ?_)))))
    obtain rfl:=sI h
    exact ex_cnext [cellsR b1 25 [.slice Aa p0.fNo.length ca,.slice Ab p0.fC.length cb],cellsR b2 26 [.slice Ac p1.length cc],cellsR b3 3 [.int .i64 p2],cellsR b4 48 [.int .i64 0,.int .i64 0],cellsR b8 3 [.int .i64 (w64 (s23.1 + 1))],cellsR b9 3 [.int .i64 (w64 (s23.2 + 1))],cellsR b12 25 [.slice Aa p0.fNo.length ca,.slice Ab p0.fC.length cb]] rfl
   ·refine cx_false (vB hp35) (cx_skip (ex_block (ex_take 10 ?_)))
    obtain rfl:=sI h
    exact ex_cnext [cellsR b1 25 [.slice Aa p0.fNo.length ca,.slice Ab p0.fC.length cb],cellsR b2 26 [.slice Ac p1.length cc],cellsR b3 3 [.int .i64 p2],cellsR b4 48 [.int .i64 0,.int .i64 0],cellsR b8 3 [.int .i64 s23.1],cellsR b9 3 [.int .i64 (w64 (s23.2 + 1))],cellsR b12 25 [.slice Aa p0.fNo.length ca,.slice Ab p0.fC.length cb]] rfl
  ·rintro D13 u38 L hst rfl
   subst hst
   dsimp only at h
   refine ex_block ?_
   refine eT (cS ?_)
   refine cx_draws 4 mixed (by kernel_rfl) (by kernel_rfl) ?_
   try dsimp only [lna,lca,lsz,lss]
   refine qx_y rfl (y_load1 4 (v:=.int .i64 u38.1) sc_3 rfl rfl rfl) (qx_y rfl (y_load1 5 (v:=.int .i64 u38.2) sc_3 rfl rfl rfl) (qx_y rfl (yAI rfl) (qx_y rfl (yAI rfl) (qx_nil ?_))))
   refine oN (eT (cS (cx_block ?_)))
   obtain ⟨u41,hl44,h⟩:=bOs h
   refine cx_loop (fun (s:(Int × Int)) L tm => ∃ (tm0:Nat → Value),L = [cellsR b1 25 [.slice Aa p0.fNo.length ca,.slice Ab p0.fC.length cb],cellsR b2 26 [.slice Ac p1.length cc],cellsR b3 3 [.int .i64 p2],cellsR b4 48 [.int .i64 0,.int .i64 0],cellsR b8 3 [.int .i64 u38.1],cellsR b9 3 [.int .i64 u38.2],cellsR b12 25 [.slice Aa p0.fNo.length ca,.slice Ab p0.fC.length cb],dfR D13] ∧ tm = (upd (upd (upd (upd (upd (upd (upd (upd (upd (upd (upd (upd (upd (upd (upd tm0 0 (.agg #[.slice Aa p0.fNo.length ca,.slice Ab p0.fC.length cb])) 1 (.slice Ac p1.length cc)) 2 (.int .i64 p2)) 3 (.pointer (some ⟨b1,0,none⟩))) 4 (.pointer (some ⟨b2,0,none⟩))) 5 (.pointer (some ⟨b3,0,none⟩))) 6 (.pointer (some ⟨b4,0,none⟩))) 7 (.int .i64 0)) 8 (.int .i64 y5)) 19 (.bool (y5 != 0))) 9 (.pointer (some ⟨b8,0,none⟩))) 10 (.pointer (some ⟨b9,0,none⟩))) 23 (.func (.func 130) #[] #[.pointer (some ⟨b12,0,none⟩)])) 12 (.int .i64 s.1)) 13 (.int .i64 s.2))) (fun s e L tm => e = .exit 2 ∧ ∃ (tm0:Nat → Value),L = [cellsR b1 25 [.slice Aa p0.fNo.length ca,.slice Ab p0.fC.length cb],cellsR b2 26 [.slice Ac p1.length cc],cellsR b3 3 [.int .i64 p2],cellsR b4 48 [.int .i64 0,.int .i64 0],cellsR b8 3 [.int .i64 u38.1],cellsR b9 3 [.int .i64 u38.2],cellsR b12 25 [.slice Aa p0.fNo.length ca,.slice Ab p0.fC.length cb],dfR D13] ∧ tm = (upd (upd (upd (upd (upd (upd (upd (upd (upd (upd (upd (upd (upd (upd (upd tm0 0 (.agg #[.slice Aa p0.fNo.length ca,.slice Ab p0.fC.length cb])) 1 (.slice Ac p1.length cc)) 2 (.int .i64 p2)) 3 (.pointer (some ⟨b1,0,none⟩))) 4 (.pointer (some ⟨b2,0,none⟩))) 5 (.pointer (some ⟨b3,0,none⟩))) 6 (.pointer (some ⟨b4,0,none⟩))) 7 (.int .i64 0)) 8 (.int .i64 y5)) 19 (.bool (y5 != 0))) 9 (.pointer (some ⟨b8,0,none⟩))) 10 (.pointer (some ⟨b9,0,none⟩))) 23 (.func (.func 130) #[] #[.pointer (some ⟨b12,0,none⟩)])) 12 (.int .i64 s.1)) 13 (.int .i64 s.2))) hl44 ⟨_,rfl,(kp4 (kp4 (kp4 (kp (kp (kp rfl))))))⟩ ?_ ?_
   ·rintro s40 L tm st ⟨tm0_s40,rfl,rfl⟩ h
    unfold recall_Share_l2 at h
    refine cS (cS (cR ?_))
    refine ox_y rfl (yMI rfl) (ox_y rfl (y_gtr rfl rfl) ?_)
    refine oN (eT ?_)
    rcases iOs h with ⟨hp42,h⟩ | ⟨hp42,h⟩
    ·refine cx_true (vB hp42) ?_
     refine cx_skip (eT (cx_block ?_))
     refine cx_draws 6 mixed (by kernel_rfl) (by kernel_rfl) ?_
     refine qx_y rfl (yMI rfl) (qx_y rfl (yMI rfl) (qx_y rfl (yMI rfl) ?_))
     obtain ⟨hg43,h⟩:=gOs h
     refine qx_y rfl (y_rem hg43 rfl rfl) (qx_y rfl (yAI rfl) (qx_y rfl (yAI rfl) (qx_nil (oN (ex_block ?_)))))
     obtain rfl:=sI h
     exact ex_next ⟨_,rfl,(kp4 (kp4 (kp4 (kp (kp (kp rfl))))))⟩
    ·refine cx_false (vB hp42) (cx_exit (ex_then_exit ?_))
     obtain rfl:=sI h
     exact ex_stop ⟨rfl,_,rfl,(kp4 (kp4 (kp4 (kp (kp (kp rfl))))))⟩
   ·intro e L tm hJ
    obtain ⟨rfl,tm0_u41,rfl,rfl⟩:=hJ
    refine ⟨(by intro hc; cases hc),?_⟩
    refine ex_block_here ?_
    refine eT (cS ?_)
    refine cx_draws 7 mixed (by kernel_rfl) (by kernel_rfl) ?_
    refine qx_y rfl (y_load1 4 (v:=.int .i64 u38.1) sc_3 rfl rfl rfl) (qx_y rfl (yMI rfl) ?_)
    obtain ⟨hg45,h⟩:=gOs h
    refine qx_y rfl (y_quo hg45 rfl rfl) (qx_y rfl (y_load1 5 (v:=.int .i64 u38.2) sc_3 rfl rfl rfl) (qx_y rfl (yMI rfl) ?_))
    obtain ⟨hg46,h⟩:=gOs h
    refine qx_y rfl (y_quo hg46 rfl rfl) ?_
    refine qx_y rfl (y_buildS [.int .i64 (w64 (Int.tdiv u38.1 u41.1)),.int .i64 (w64 (Int.tdiv u38.2 u41.1))] [(0,1),(1,1)] ust_48 ze_48 (by kernel_rfl)) ?_
    refine qx_nil (ox_n rfl (y_storeN 3 [.int .i64 (w64 (Int.tdiv u38.1 u41.1)),.int .i64 (w64 (Int.tdiv u38.2 u41.1))] sz_48 rfl (nB rfl) rfl rfl rfl) (ox_y rfl (yAI rfl) ?_))
    refine oN (eT (cx_ret ?_))
    refine ex_M1 7 rfl (.inl rfl) ?_
    obtain rfl:=sI h
    exact ex_res2 (.inl rfl) rfl (resV_cellN 3 [.int .i64 (w64 (Int.tdiv u38.1 u41.1)),.int .i64 (w64 (Int.tdiv u38.2 u41.1))] ag_48 rfl rfl rfl) (rVt (v:=.int .i64 0) rfl) (fun W2 hW2 => ⟨rfl,hW2.none⟩)
  ·intro D13 t e L _ hh
   exact hh.elim
theorem recall_doubt_ok (p0:TL) (p1:(List Int)) (res:Int) (h:recall_doubt p0 p1 = some res) (W:World) (Aa:Option Addr) (n0_0 ca : Nat) (hn0_0:n0_0 = p0.fNo.length) (hr0_0:Rd W Aa n0_0 ca (encL TNode_cells p0.fNo)) (Ab:Option Addr) (n0_1 cb : Nat) (ys0_1:List (Hd × TC)) (hn0_1:n0_1 = p0.fC.length) (hr0_1:Rd W Ab n0_1 cb (encL TClaim_cells2 ys0_1)) (hN0_1:NestW W (fun z : TC => z.fO) THop_cells ys0_1 p0.fC) (Ac:Option Addr) (n1_0 cc : Nat) (hn1_0:n1_0 = p1.length) (hr1_0:Rd W Ac n1_0 cc (encL cI p1)) :
  Calls Tryz.prog 90 [.agg #[.slice Aa n0_0 ca,.slice Ab n0_1 cb],.slice Ac n1_0 cc].toArray W fun e W2 => e = .returned (.int .i64 res) ∧ Ext W W2 []:=by
 subst hn0_0
 subst hn0_1
 subst hn1_0
 unfold recall_doubt at h
 refine calls_enter (m:=29) Tryz.func90 rfl rfl (nB rfl) ?_
 refine cS (cR ?_)
 refine ox_box [.slice Aa p0.fNo.length ca,.slice Ab p0.fC.length cb] rfl rfl rfl (fun b1 => ?_)
 refine ox_y rfl (yAI rfl) ?_
 refine oN (eT (cS (cR ?_)))
 refine ox_y rfl (y_loadN 0 [.slice Aa p0.fNo.length ca,.slice Ab p0.fC.length cb] ag_25 rfl rfl rfl) (ox_y rfl (yMS rfl) ?_)
 obtain ⟨y2,hy3,h⟩:=bOs h
 refine ox_call1 [.agg #[.slice Aa p0.fNo.length ca,.slice Ab p0.fC.length cb],.slice Ac p1.length cc] _ _ rfl go_65 rfl (fun W2 hW2 => recall_possible_ok p0 p1 y2 hy3 W2 Aa p0.fNo.length ca rfl ((RdL.arg hr0_0) W2 hW2) Ab p0.fC.length cb ys0_1 rfl ((RdL.arg hr0_1) W2 hW2) (NestL.at (NestL.arg hN0_1) W2 hW2) Ac p1.length cc rfl ((RdL.arg hr1_0) W2 hW2)) ?_
 rintro b4
 refine ox_y rfl (y_assign_map rfl) ?_
 refine oN (eT (cS (cS (cR ?_))))
 refine ox_y rfl (y_loadN 0 [.slice Aa p0.fNo.length ca,.slice Ab p0.fC.length cb] ag_25 rfl rfl rfl) (ox_y rfl (yMS rfl) ?_)
 obtain ⟨y5,hy6,h⟩:=bOs h
 refine ox_call1 [.agg #[.slice Aa p0.fNo.length ca,.slice Ab p0.fC.length cb],.slice Ac p1.length cc] _ _ rfl go_64 rfl (fun W2 hW2 => recall_sure_ok p0 p1 y5 hy6 W2 Aa p0.fNo.length ca rfl ((RdL.arg hr0_0) W2 hW2) Ab p0.fC.length cb ys0_1 rfl ((RdL.arg hr0_1) W2 hW2) (NestL.at (NestL.arg hN0_1) W2 hW2) Ac p1.length cc rfl ((RdL.arg hr1_0) W2 hW2)) ?_
 rintro b7
 refine ox_rangeV 2 rfl ke_3 um_94 rfl rfl (fun b8 k9 hk10 => ?_)
 refine oN (eT (cx_block ?_))
 refine cx_loopM (fun (s20:Nat × (Int → Bool) × (List (Int × Bool))) L tm => DiffI rngB false y5 y2 s20 ∧ ∃ (tm0:Nat → Value),L = [cellsR b1 25 [.slice Aa p0.fNo.length ca,.slice Ab p0.fC.length cb],mapV Tryz.prog 3 kI rngB kB false b4 s20.2.2,rngV Tryz.prog 3 kI rngB kB false b7 b8 y5 s20.2.1 s20.1 none] ∧ tm = (upd (upd (upd (upd (upd (upd tm0 0 (.agg #[.slice Aa p0.fNo.length ca,.slice Ab p0.fC.length cb])) 1 (.slice Ac p1.length cc)) 2 (.pointer (some ⟨b1,0,none⟩))) 4 (.int .i64 0)) 5 (.map (some b4))) 15 (.pointer (some ⟨b8,0,none⟩)))) (fun s => s.1) (k9,(fun y => mhasV y5 y),y2) ⟨DiffI.start,_,rfl,(kp4 (kp (kp rfl)))⟩ ?_
 rintro s20 L tm ⟨hI21,tm0,rfl,rfl⟩
 refine cS (cR ?_)
 refine ox_nextV 2 rfl ke_3 rfl rfl (fun hno17 => ?_) (fun y11 k12 hy13 hly14 hM15 hk16 => ?_)
 ·refine ox_y rfl (y_extract (vs:=[.bool false]) (v:=.bool false) rfl rfl) ?_
  refine oN (eT (cS ?_))
  refine cx_false rfl (cx_exit (ex_then_exit ?_))
  refine ex_outM (by intro h; cases h) ?_
  refine ex_mapExt 1 (diffV y5 y2) ke_3 rfl (hI21.done hno17) (ex_rngEnd 2 rfl ?_)
  try dsimp only [lsz,lss]
  refine ex_block_here ?_
  refine eT (cS (cR ?_))
  refine ox_y rfl (y_loadN 0 [.slice Aa p0.fNo.length ca,.slice Ab p0.fC.length cb] ag_25 rfl rfl rfl) (ox_y rfl (y_move_map rfl) ?_)
  obtain ⟨y23,hy24,h⟩:=bOs h
  refine ox_call [.agg #[.slice Aa p0.fNo.length ca,.slice Ab p0.fC.length cb],.map (some b4)] _ _ _ rfl go_71 rfl (fun W2 hW2 => recall_walls_ok p0 (diffV y5 y2) y23 hy24 W2 Aa p0.fNo.length ca rfl ((RdL.arg hr0_0) W2 hW2) Ab p0.fC.length cb ys0_1 rfl ((RdL.arg hr0_1) W2 hW2) (NestL.at (NestL.arg hN0_1) W2 hW2) b4 ((MpL.own 1 rfl) W2 hW2)) ?_
  rintro ⟨A25,n27,c26⟩ hn28
  replace hn28 : n27 = y23.1.length:=hn28; subst hn28
  refine ox_y rfl (y_move_tuple rfl) (ox_y rfl (y_extract (vs:=[.slice A25 y23.1.length c26,.int .i64 y23.2]) (v:=.slice A25 y23.1.length c26) rfl rfl) (ox_y rfl (y_extract (vs:=[.slice A25 y23.1.length c26,.int .i64 y23.2]) (v:=.int .i64 y23.2) rfl rfl) (ox_y rfl (yAS rfl) (ox_y rfl (yAI rfl) ?_))))
  refine oN (eT (cS (cR ?_)))
  refine ox_y rfl (yMI rfl) (ox_y rfl (yAI rfl) ?_)
  refine oN (eT (cx_ret ?_))
  obtain rfl:=sI h
  exact ex_res1 (.inl rfl) rfl (rVt (v:=.int .i64 y23.2) rfl) (fun W2 hW2 => ⟨rfl,hW2.none⟩)
 ·refine ox_y rfl (y_extract (vs:=[.bool true,.int .i64 y11,.bool (mgetV false y5 y11)]) (v:=.bool true) rfl rfl) ?_
  refine oN (eT (cS ?_))
  refine cx_true rfl ?_
  refine cx_skip (eT (cx_block (cS (cR ?_))))
  refine ox_y rfl (y_entryV 2 rfl rfl) (ox_y rfl (y_extract (vs:=[.int .i64 y11,.bool (mgetV false y5 y11)]) (v:=.int .i64 y11) rfl rfl) (ox_y rfl (yAI rfl) ?_))
  refine oN (eT (cR ?_))
  refine ox_y rfl (y_move_map rfl) (ox_y rfl (yMI rfl) (ox_n rfl (y_deleteV 1 (k:=y11) rfl ke_3 um_94 rfl rfl hy13) (oN (ex_block (ex_rngNone 2 rfl ?_)))))
  exact ex_nextM (k12,(fun q => s20.2.1 q && !decide (q = y11)),(mdelV s20.2.2 y11)) ⟨hI21.step hy13 hM15,_,rfl,(kp4 (kp (kp rfl)))⟩ hk16
theorem slices_Clone_Hop_Hop_ok (p0:(List TH)) (res:(List TH)) (h:slices_Clone_Hop_Hop p0 = some res) (W:World) (Aa:Option Addr) (n0_0 ca : Nat) (hn0_0:n0_0 = p0.length) (hr0_0:Rd W Aa n0_0 ca (encL THop_cells p0)) :
  Calls Tryz.prog 110 [.slice Aa n0_0 ca].toArray W fun e W2 => ∃ x : Option Addr × Nat × Nat,x.2.1 = res.length ∧ e = .returned (.slice x.1 x.2.1 x.2.2) ∧ Ext W W2 [rowR x.1 x.2.2 111 2 x.2.1 (encL THop_cells res)]:=by
 subst hn0_0
 unfold slices_Clone_Hop_Hop at h
 refine calls_enter (m:=8) Tryz.func110 rfl rfl (nB rfl) ?_
 refine cS (cR ?_)
 refine ox_y rfl (yAS rfl) ?_
 refine oN (eT (cS (cS (cR ?_))))
 refine ox_y rfl (yMS rfl) (ox_y rfl (y_eqnil us_88 rfl rfl) ?_)
 refine oN (eT ?_)
 rcases bool_cases (Option.isNone Aa) with hp1 | hp1
 ·refine cx_true (vB hp1) ?_
  have z6:=rd_none (Option.isNone_iff_eq_none.1 hp1 ▸ hr0_0) THop_cells_len (by decide)
  replace h:=(gOs h).2
  rw [z6] at h
  refine cS (cR ?_)
  refine ox_y rfl (yAS rfl) ?_
  refine oN (eT (cx_ret (ex_then_ret ?_)))
  obtain rfl:=sI h
  exact ex_res1 (.inl rfl) rfl (rVt (v:=.slice none 0 0) rfl) (fun W2 hW2 => ⟨(none,0,0),rfl,rfl,((hW2.nilrow 111 2).pick 0 rfl)⟩)
 ·refine cx_false (vB hp1) ?_
  refine cx_skip (eT (cS (cR ?_)))
  refine ox_buildSlice0 THop_cells us_88 ze_111 by_111 rfl (fun b2 => ?_)
  refine ox_y rfl (yMS rfl) ?_
  obtain ⟨hg5,h⟩:=gOs h
  refine ox_append0 0 us_88 ze_111 by_111 rfl rfl rfl (RdL.arg hr0_0) (encL_len THop_cells_len rfl) (encL_one THop_cells_one _) (app_room hg5 (by decide)) rfl (fun A3 c4 => ?_)
  refine ox_y rfl (yAS rfl) ?_
  refine oN (eT (cx_ret ?_))
  obtain rfl:=sI h
  exact ex_res1 (.inl rfl) rfl (rVt (v:=.slice A3 (0 + p0.length) c4) rfl) (fun W2 hW2 => ⟨(A3,(0 + p0.length),c4),(hn_app rfl rfl),rfl,(hW2.pick 0 rfl)⟩)
theorem slices_Clone_Node_Node_ok (p0:(List TN)) (res:(List TN)) (h:slices_Clone_Node_Node p0 = some res) (W:World) (Aa:Option Addr) (n0_0 ca : Nat) (hn0_0:n0_0 = p0.length) (hr0_0:Rd W Aa n0_0 ca (encL TNode_cells p0)) :
  Calls Tryz.prog 142 [.slice Aa n0_0 ca].toArray W fun e W2 => ∃ x : Option Addr × Nat × Nat,x.2.1 = res.length ∧ e = .returned (.slice x.1 x.2.1 x.2.2) ∧ Ext W W2 [rowR x.1 x.2.2 97 3 x.2.1 (encL TNode_cells res)]:=by
 subst hn0_0
 unfold slices_Clone_Node_Node at h
 refine calls_enter (m:=8) Tryz.func142 rfl rfl (nB rfl) ?_
 refine cS (cR ?_)
 refine ox_y rfl (yAS rfl) ?_
 refine oN (eT (cS (cS (cR ?_))))
 refine ox_y rfl (yMS rfl) (ox_y rfl (y_eqnil us_22 rfl rfl) ?_)
 refine oN (eT ?_)
 rcases bool_cases (Option.isNone Aa) with hp1 | hp1
 ·refine cx_true (vB hp1) ?_
  have z6:=rd_none (Option.isNone_iff_eq_none.1 hp1 ▸ hr0_0) TNode_cells_len (by decide)
  replace h:=(gOs h).2
  rw [z6] at h
  refine cS (cR ?_)
  refine ox_y rfl (yAS rfl) ?_
  refine oN (eT (cx_ret (ex_then_ret ?_)))
  obtain rfl:=sI h
  exact ex_res1 (.inl rfl) rfl (rVt (v:=.slice none 0 0) rfl) (fun W2 hW2 => ⟨(none,0,0),rfl,rfl,((hW2.nilrow 97 3).pick 0 rfl)⟩)
 ·refine cx_false (vB hp1) ?_
  refine cx_skip (eT (cS (cR ?_)))
  refine ox_buildSlice0 TNode_cells us_22 ze_97 by_97 rfl (fun b2 => ?_)
  refine ox_y rfl (yMS rfl) ?_
  obtain ⟨hg5,h⟩:=gOs h
  refine ox_append0 0 us_22 ze_97 by_97 rfl rfl rfl (RdL.arg hr0_0) (encL_len TNode_cells_len rfl) (encL_one TNode_cells_one _) (app_room hg5 (by decide)) rfl (fun A3 c4 => ?_)
  refine ox_y rfl (yAS rfl) ?_
  refine oN (eT (cx_ret ?_))
  obtain rfl:=sI h
  exact ex_res1 (.inl rfl) rfl (rVt (v:=.slice A3 (0 + p0.length) c4) rfl) (fun W2 hW2 => ⟨(A3,(0 + p0.length),c4),(hn_app rfl rfl),rfl,(hW2.pick 0 rfl)⟩)
theorem slices_Clone_Claim_Claim_ok (p0:(List TC)) (res:(List TC)) (h:slices_Clone_Claim_Claim p0 = some res) (W:World) (Aa:Option Addr) (n0_0 ca : Nat) (ys0_0:List (Hd × TC)) (hn0_0:n0_0 = p0.length) (hr0_0:Rd W Aa n0_0 ca (encL TClaim_cells2 ys0_0)) (hN0_0:NestW W (fun z : TC => z.fO) THop_cells ys0_0 p0) :
  Calls Tryz.prog 143 [.slice Aa n0_0 ca].toArray W fun e W2 => ∃ x : (Option Addr × Nat × Nat),(x.2.1 = res.length ∧ NestP (fun z : TC => z.fO) ys0_0 res) ∧ e = .returned (.slice x.1 x.2.1 x.2.2) ∧ Ext W W2 [rowR x.1 x.2.2 90 2 x.2.1 (encL TClaim_cells2 ys0_0)]:=by
 subst hn0_0
 unfold slices_Clone_Claim_Claim at h
 refine calls_enter (m:=8) Tryz.func143 rfl rfl (nB rfl) ?_
 refine cS (cR ?_)
 refine ox_y rfl (yAS rfl) ?_
 refine oN (eT (cS (cS (cR ?_))))
 refine ox_y rfl (yMS rfl) (ox_y rfl (y_eqnil us_23 rfl rfl) ?_)
 refine oN (eT ?_)
 rcases bool_cases (Option.isNone Aa) with hp1 | hp1
 ·refine cx_true (vB hp1) ?_
  have z6:=rd_none (Option.isNone_iff_eq_none.1 hp1 ▸ hr0_0) TClaim_cells2_len (by decide)
  replace h:=(gOs h).2
  subst z6
  have z2 : p0 = []:=hN0_0.p.eq.symm
  subst z2
  refine cS (cR ?_)
  refine ox_y rfl (yAS rfl) ?_
  refine oN (eT (cx_ret (ex_then_ret ?_)))
  obtain rfl:=sI h
  exact ex_res1 (.inl rfl) rfl (rVt (v:=.slice none 0 0) rfl) (fun W2 hW2 => ⟨(none,0,0),⟨rfl,NestP.nil⟩,rfl,(hW2.nilrow 90 2).pickL [0] (by decide) rfl⟩)
 ·refine cx_false (vB hp1) ?_
  refine cx_skip (eT (cS (cR ?_)))
  refine ox_buildSlice0 TClaim_cells2 us_23 ze_90 by_90 rfl (fun b2 => ?_)
  refine ox_y rfl (yMS rfl) ?_
  obtain ⟨hg5,h⟩:=gOs h
  refine ox_append0 0 us_23 ze_90 by_90 rfl rfl rfl (RdL.arg hr0_0) (encL_len TClaim_cells2_len (NestP.hn hN0_0.p rfl)) (encL_one TClaim_cells2_one _) (app_room hg5 (by decide)) rfl (fun A3 c4 => ?_)
  refine ox_y rfl (yAS rfl) ?_
  refine oN (eT (cx_ret ?_))
  obtain rfl:=sI h
  exact ex_res1 (.inl rfl) rfl (rVt (v:=.slice A3 (0 + p0.length) c4) rfl) (fun W2 hW2 => ⟨(A3,(0 + p0.length),c4),⟨(hn_app rfl rfl),(NestP.app NestP.nil hN0_0.p)⟩,rfl,hW2.pickL [0] (by decide) rfl⟩)
theorem slices_Clone_Claim_Claim_np {p : List TC} {res : List TC} {ys : List (Hd × TC)} {sel : TC → List TH} (h:slices_Clone_Claim_Claim p = some res) (hN:NestP sel ys p) : NestP sel ys res:=by
 unfold slices_Clone_Claim_Claim at h
 have h2:=Option.some.inj (gOs h).2
 rw [lna] at h2
 exact h2 ▸ hN
theorem recall_copied_ok (p0:TL) (res:TL) (h:recall_copied p0 = some res) (W:World) (Aa:Option Addr) (n0_0 ca : Nat) (hn0_0:n0_0 = p0.fNo.length) (hr0_0:Rd W Aa n0_0 ca (encL TNode_cells p0.fNo)) (Ab:Option Addr) (n0_1 cb : Nat) (ys0_1:List (Hd × TC)) (hn0_1:n0_1 = p0.fC.length) (hr0_1:Rd W Ab n0_1 cb (encL TClaim_cells2 ys0_1)) (hN0_1:NestW W (fun z : TC => z.fO) THop_cells ys0_1 p0.fC) (wb:World) (Hb:World → Prop) (hB:∀ W3,Below W.heap.size W W3 → Below wb.heap.size wb W3 ∧ Hb W3) (hp0_1:PvL (fun z : TC => z.fO) THop_cells wb Hb ys0_1) :
  Calls Tryz.prog 111 [.agg #[.slice Aa n0_0 ca,.slice Ab n0_1 cb]].toArray W fun e W2 => ∃ x : ((Option Addr × Nat × Nat) × (Option Addr × Nat × Nat) × (List (Hd × TC)) × Res),(x.1.2.1 = res.fNo.length ∧ x.2.1.2.1 = res.fC.length ∧ NestP (fun z : TC => z.fO) x.2.2.1 res.fC ∧ PvL (fun z : TC => z.fO) THop_cells wb (fun W4 => Hb W4 ∧ Res.holds x.2.2.2 W4) x.2.2.1) ∧ e = .returned (.agg #[.slice x.1.1 x.1.2.1 x.1.2.2,.slice x.2.1.1 x.2.1.2.1 x.2.1.2.2]) ∧ Ext W W2 [rowR x.1.1 x.1.2.2 97 3 x.1.2.1 (encL TNode_cells res.fNo),rowR x.2.1.1 x.2.1.2.2 90 2 x.2.1.2.1 (encL TClaim_cells2 x.2.2.1),x.2.2.2]:=by
 subst hn0_0
 subst hn0_1
 unfold recall_copied at h
 refine calls_enter (m:=32) Tryz.func111 rfl rfl (nB rfl) ?_
 refine cS (cR ?_)
 refine ox_box [.slice Aa p0.fNo.length ca,.slice Ab p0.fC.length cb] rfl rfl rfl (fun b1 => ?_)
 refine ox_alloc ze_25 rfl (fun b2 => ?_)
 refine oN (eT (cS ?_))
 obtain ⟨y4,hy5,h⟩:=bOs h
 obtain ⟨y10,hy11,h⟩:=bOs h
 have hPc_y10:=slices_Clone_Claim_Claim_np hy11 hN0_1.p
 refine cx_drawsG [[],[0],[0,1],[],[3],[0,1,2,3,4],[0,1,2,3,4,5],[],[0,1,2,3,4,5,6,7]] [(none,0,[true,true]),(none,0,[true,true]),(none,1,[true,true]),(none,0,[true,true,false]),(none,0,[true,true,false]),(none,1,[true,true,true]),(none,0,[true,true,true,true]),(none,1,[true,true,false,false]),(some 4,0,[true,true,true,true,true])] [⟨fun _ => .pointer (some ⟨b1,0 + 0,none⟩),fun _ => noR,fun _ => []⟩,⟨fun _ => .slice Aa p0.fNo.length ca,fun _ => noR,fun _ => []⟩,⟨fun ξ3 => .slice (ξ3 2 0).1 y4.length (ξ3 2 0).2.2.1,fun _ => noR,fun ξ3 => [rowR (ξ3 2 0).1 (ξ3 2 0).2.2.1 97 3 y4.length (encL TNode_cells y4)]⟩,⟨fun _ => .pointer (some ⟨b1,0 + 1,none⟩),fun _ => noR,fun _ => []⟩,⟨fun _ => .slice Ab p0.fC.length cb,fun _ => noR,fun _ => []⟩,⟨fun ξ3 => .slice (ξ3 5 0).1 y10.length (ξ3 5 0).2.2.1,fun _ => noR,fun ξ3 => [rowR (ξ3 5 0).1 (ξ3 5 0).2.2.1 90 2 y10.length (encL TClaim_cells2 ys0_1)]⟩,⟨fun ξ3 => .agg #[.slice (ξ3 2 0).1 y4.length (ξ3 2 0).2.2.1,.slice (ξ3 5 0).1 y10.length (ξ3 5 0).2.2.1],fun _ => noR,fun _ => []⟩,⟨fun ξ3 => .pointer (some ⟨(ξ3 7 0).2.1,0,none⟩),fun _ => noR,fun ξ3 => [cellsR (ξ3 7 0).2.1 25 [.slice none 0 0,.slice none 0 0]]⟩,⟨fun _ => undef,fun ξ3 => cellsR (ξ3 7 0).2.1 25 [.slice (ξ3 2 0).1 y4.length (ξ3 2 0).2.2.1,.slice (ξ3 5 0).1 y10.length (ξ3 5 0).2.2.1],fun _ => []⟩] 2 mixed (by kernel_rfl) (by kernel_rfl) ⟨⟨fun ξ3 ξ3' h => ⟨rfl,rfl,rfl⟩,fun _ => rfl⟩,⟨fun ξ3 ξ3' h => ⟨rfl,rfl,rfl⟩,fun _ => rfl⟩,⟨fun ξ3 ξ3' h => ⟨by simp only [h 2 (.inl rfl)],rfl,by simp only [h 2 (.inl rfl)]⟩,fun _ => rfl⟩,⟨fun ξ3 ξ3' h => ⟨rfl,rfl,rfl⟩,fun _ => rfl⟩,⟨fun ξ3 ξ3' h => ⟨rfl,rfl,rfl⟩,fun _ => rfl⟩,⟨fun ξ3 ξ3' h => ⟨by simp only [h 5 (.inl rfl)],rfl,by simp only [h 5 (.inl rfl)]⟩,fun _ => rfl⟩,⟨fun ξ3 ξ3' h => ⟨by simp only [h 2 (.inr rfl),h 5 (.inr rfl)],rfl,rfl⟩,fun _ => rfl⟩,⟨fun ξ3 ξ3' h => ⟨by simp only [h 7 (.inl rfl)],rfl,by simp only [h 7 (.inl rfl)]⟩,fun _ => rfl⟩,⟨fun ξ3 ξ3' h => ⟨rfl,by simp only [h 2 (.inr rfl),h 5 (.inr rfl),h 7 (.inr rfl)],rfl⟩,fun _ => rfl⟩,trivial⟩ rfl (fun ξ3 => ?_)
 refine gx_o rfl (fun L2 => ?_) ?_
 ·dsimp only [maskL,lca,lna]
  refine ox_y rfl (yFA fo_25_0 rfl) (oN ?_)
  exact ex_capG (fun _ => (none,0,0,[],noR)) rfl (List.append_nil _)
 dsimp only [aftL,lsz,lss,lna,lca,List.append_nil]
 refine gx_o rfl (fun L2 => ?_) ?_
 ·dsimp only [maskL,lca,lna]
  refine ox_y rfl (y_load1 0 (v:=.slice Aa p0.fNo.length ca) sc_22 rfl rfl rfl) (oN ?_)
  exact ex_capG (fun _ => (none,0,0,[],noR)) rfl (List.append_nil _)
 dsimp only [aftL,lsz,lss,lna,lca,List.append_nil]
 refine gx_o rfl (fun L2 => ?_) ?_
 ·dsimp only [maskL,lca,lna]
  refine ox_call [.slice Aa p0.fNo.length ca] _ _ _ rfl go_142 rfl (fun W2 hW2 => slices_Clone_Node_Node_ok p0.fNo y4 hy5 W2 Aa p0.fNo.length ca rfl ((RdL.arg hr0_0) W2 hW2)) ?_
  rintro ⟨A6,n8,c7⟩ hn9
  replace hn9 : n8 = y4.length:=hn9; subst hn9
  refine oN ?_
  exact ex_capG (fun _ => (A6,0,c7,[],noR)) rfl rfl
 dsimp only [aftL,lsz,lss,lna,lca,List.append_nil]
 refine gx_o rfl (fun L2 => ?_) ?_
 ·dsimp only [maskL,lca,lna]
  refine ox_y rfl (yFA fo_25_1 rfl) (oN ?_)
  exact ex_capG (fun _ => (none,0,0,[],noR)) rfl (List.append_nil _)
 dsimp only [aftL,lsz,lss,lna,lca,List.append_nil]
 refine gx_o rfl (fun L2 => ?_) ?_
 ·dsimp only [maskL,lca,lna]
  refine ox_y rfl (y_load1 0 (v:=.slice Ab p0.fC.length cb) sc_23 rfl rfl rfl) (oN ?_)
  exact ex_capG (fun _ => (none,0,0,[],noR)) rfl (List.append_nil _)
 dsimp only [aftL,lsz,lss,lna,lca,List.append_nil]
 refine gx_o rfl (fun L2 => ?_) ?_
 ·dsimp only [maskL,lca,lna]
  refine ox_call [.slice Ab p0.fC.length cb] _ _ _ rfl go_143 rfl (fun W2 hW2 => slices_Clone_Claim_Claim_ok p0.fC y10 hy11 W2 Ab p0.fC.length cb ys0_1 rfl ((RdL.arg hr0_1) W2 hW2) (NestL.at (NestL.arg hN0_1) W2 hW2)) ?_
  rintro ⟨A14,n16,c15⟩ ⟨hn17,hP18⟩
  replace hn17 : n16 = y10.length:=hn17; subst hn17
  refine oN ?_
  exact ex_capG (fun _ => (A14,0,c15,[],noR)) rfl rfl
 dsimp only [aftL,lsz,lss,lna,lca,List.append_nil]
 refine gx_o rfl (fun L2 => ?_) ?_
 ·dsimp only [maskL,lca,lna]
  refine ox_y rfl (y_buildS [.slice (ξ3 2 0).1 y4.length (ξ3 2 0).2.2.1,.slice (ξ3 5 0).1 y10.length (ξ3 5 0).2.2.1] [(0,1),(1,1)] ust_25 ze_25 (by kernel_rfl)) ?_
  refine oN ?_
  exact ex_capG (fun _ => (none,0,0,[],noR)) rfl (List.append_nil _)
 dsimp only [aftL,lsz,lss,lna,lca,List.append_nil]
 refine gx_o rfl (fun L2 => ?_) ?_
 ·dsimp only [maskL,lca,lna]
  refine ox_alloc ze_25 rfl (fun b19 => ?_)
  refine oN ?_
  exact ex_capG (fun _ => (none,b19,0,[],noR)) rfl rfl
 dsimp only [aftL,lsz,lss,lna,lca,List.append_nil]
 refine gx_n rfl (fun L2 => ?_) ?_
 ·dsimp only [maskL,lca,lna]
  refine ox_n rfl (y_storeN 4 [.slice (ξ3 2 0).1 y4.length (ξ3 2 0).2.2.1,.slice (ξ3 5 0).1 y10.length (ξ3 5 0).2.2.1] sz_25 rfl (nB rfl) rfl rfl rfl) (oN ?_)
  exact ex_capGn (fun _ => (none,0,0,[],noR)) (List.append_nil _)
 dsimp only [aftL,lsz,lss,lna,lca,List.append_nil]
 refine gx_nil ?_
 refine eT (cS (cS (cR ?_)))
 refine ox_y rfl (yFA fo_25_1 rfl) (ox_y rfl (y_load1 4 (v:=.slice (ξ3 5 0).1 y10.length (ξ3 5 0).2.2.1) sc_23 rfl rfl rfl) (ox_y rfl (y_len (us:=[]) us_23 rfl) (ox_y rfl (yMI rfl) ?_)))
 refine oN (eT (cx_block ?_))
 obtain ⟨u23,hl33,h⟩:=bOs h
 refine cx_addNo ?_
 refine cx_loop (fun (s:(Int × (List TC))) L tm => ∃ (tm0:Nat → Value) (ys3_s:List (Hd × TC)) (F3_s:Res),y10.length = s.2.length ∧ NestP (fun z : TC => z.fO) ys3_s s.2 ∧ PvL (fun z : TC => z.fO) THop_cells wb (fun W4 => Hb W4 ∧ Res.holds F3_s W4) ys3_s ∧ L = [cellsR b1 25 [.slice Aa p0.fNo.length ca,.slice Ab p0.fC.length cb],cellsR b2 25 [.slice none 0 0,.slice none 0 0],rowR (ξ3 2 0).1 (ξ3 2 0).2.2.1 97 3 y4.length (encL TNode_cells y4),rowR (ξ3 5 0).1 (ξ3 5 0).2.2.1 90 2 y10.length (encL TClaim_cells2 ys3_s),cellsR (ξ3 7 0).2.1 25 [.slice (ξ3 2 0).1 y4.length (ξ3 2 0).2.2.1,.slice (ξ3 5 0).1 y10.length (ξ3 5 0).2.2.1],F3_s] ∧ tm = (upd (upd (upd (upd (upd (upd tm0 0 (.agg #[.slice Aa p0.fNo.length ca,.slice Ab p0.fC.length cb])) 1 (.pointer (some ⟨b1,0,none⟩))) 2 (.pointer (some ⟨b2,0,none⟩))) 3 (.pointer (some ⟨(ξ3 7 0).2.1,0,none⟩))) 14 (.int .i64 (y10.length:Int))) 15 (.int .i64 s.1))) (fun s e L tm => e = .exit 0 ∧ ∃ (tm0:Nat → Value) (ys3_s:List (Hd × TC)) (F3_s:Res),y10.length = s.2.length ∧ NestP (fun z : TC => z.fO) ys3_s s.2 ∧ PvL (fun z : TC => z.fO) THop_cells wb (fun W4 => Hb W4 ∧ Res.holds F3_s W4) ys3_s ∧ L = [cellsR b1 25 [.slice Aa p0.fNo.length ca,.slice Ab p0.fC.length cb],cellsR b2 25 [.slice none 0 0,.slice none 0 0],rowR (ξ3 2 0).1 (ξ3 2 0).2.2.1 97 3 y4.length (encL TNode_cells y4),rowR (ξ3 5 0).1 (ξ3 5 0).2.2.1 90 2 y10.length (encL TClaim_cells2 ys3_s),cellsR (ξ3 7 0).2.1 25 [.slice (ξ3 2 0).1 y4.length (ξ3 2 0).2.2.1,.slice (ξ3 5 0).1 y10.length (ξ3 5 0).2.2.1],F3_s] ∧ tm = (upd (upd (upd (upd (upd (upd tm0 0 (.agg #[.slice Aa p0.fNo.length ca,.slice Ab p0.fC.length cb])) 1 (.pointer (some ⟨b1,0,none⟩))) 2 (.pointer (some ⟨b2,0,none⟩))) 3 (.pointer (some ⟨(ξ3 7 0).2.1,0,none⟩))) 14 (.int .i64 (y10.length:Int))) 15 (.int .i64 s.1))) hl33 ⟨_,ys0_1,noR,rfl,hPc_y10,(PvL.mono (Hb:=Hb) hp0_1 (fun _ _ h => h.1)),rfl,(kp4 (kp (kp rfl)))⟩ ?_ ?_
 ·rintro s22 L tm st ⟨tm0_s22,ys3_s22,F3_s22,hn3_s22,hP3_s22,hV3_s22,rfl,rfl⟩ h
  unfold recall_copied_l1 at h
  refine cS (cR ?_)
  try dsimp only [lna,lca,lsz,lss]
  refine ox_y rfl (y_lss rfl rfl) ?_
  refine oN (eT (cS ?_))
  rcases iOs h with ⟨hp24,h⟩ | ⟨hp24,h⟩
  ·refine cx_true (vB hp24) ?_
   refine cx_skip (eT (cS (cx_block (cS (cR ?_)))))
   refine ox_y rfl (yMI rfl) (ox_y rfl (yAI rfl) ?_)
   refine oN (eT ?_)
   obtain ⟨hg25,h⟩:=gOs h
   obtain ⟨y26,hy27,h⟩:=bOs h
   refine cx_drawsQ 9 10 (fun v L1 => ∃ x : (Option Addr × Nat × Nat),x.2.1 = y26.length ∧ v = .slice x.1 x.2.1 x.2.2 ∧ L1 = [rowR x.1 x.2.2 111 2 x.2.1 (encL THop_cells y26)]) mixed (by kernel_rfl) (by kernel_rfl) (by kernel_rfl) ?_
   refine bx_y rfl (fun _ => yFA fo_25_1 rfl) (bx_y rfl (fun _ => y_load1 4 (v:=.slice (ξ3 5 0).1 y10.length (ξ3 5 0).2.2.1) sc_23 rfl rfl rfl) (bx_y rfl (fun _ => yMI rfl) (bx_y rfl (fun _ => yFA fo_25_1 rfl) (bx_y rfl (fun _ => y_load1 4 (v:=.slice (ξ3 5 0).1 y10.length (ξ3 5 0).2.2.1) sc_23 rfl rfl rfl) (bx_y rfl (fun _ => yMI rfl) ?_)))))
   refine bx_y rfl (fun _ => y_indexR sl_23 (by decide) hg25.1 hg25.2 (RdL.row 3 rfl) (encL_len TClaim_cells2_len (NestP.hn hP3_s22 hn3_s22)) rfl rfl) ?_
   refine bx_y rfl (fun _ => y_fieldAddrR (A:=(ξ3 5 0).1) (j:=(Int.toNat s22.1 * 2)) fo_90_1 rfl) (bx_y rfl (fun _ => y_loadR1 (A:=(ξ3 5 0).1) (j:=((Int.toNat s22.1 * 2) + 1)) (v:=.slice ((rdL ys3_s22 s22.1).1.1) ((rdL s22.2 s22.1).fO.length) ((rdL ys3_s22 s22.1).1.2.2)) sc_88 (RdL.row 3 rfl) rfl (encL_get TClaim_cells2_len hg25.1 (lt_nat hg25.2 (NestP.hn hP3_s22 hn3_s22)) (congrArg (fun n : Nat => some (Value.slice (rdL ys3_s22 s22.1).1.1 n (rdL ys3_s22 s22.1).1.2.2)) (NestP.len hP3_s22 hg25.1 (lt_nat hg25.2 hn3_s22))))) (bx_q rfl (ox_call [.slice ((rdL ys3_s22 s22.1).1.1) ((rdL s22.2 s22.1).fO.length) ((rdL ys3_s22 s22.1).1.2.2)] _ _ _ rfl go_110 rfl (fun W2 hW2 => slices_Clone_Hop_Hop_ok ((rdL s22.2 s22.1).fO) y26 hy27 W2 ((rdL ys3_s22 s22.1).1.1) ((rdL s22.2 s22.1).fO.length) ((rdL ys3_s22 s22.1).1.2.2) rfl ((NestL.rd (PvL.nestL hP3_s22 hV3_s22 (fun W2 hW2 => ⟨(hB W2 hW2.below).1,(hB W2 hW2.below).2,hW2.mem (i:=5) rfl⟩)) hg25.1 (lt_nat hg25.2 hn3_s22)) W2 hW2)) (fun x hx => oN (ex_cap ⟨x,hx,rfl,rfl⟩))) (kx_nil rfl ?_)))
   rintro v L1 ⟨⟨A28,n30,c29⟩,hn31,rfl,rfl⟩
   replace hn31 : n30 = y26.length:=hn31; subst hn31
   try dsimp only [lna,lca,lsz,lss]
   obtain ⟨hg32,h⟩:=gOs h
   refine ox_y rfl (y_indexR sl_23 (by decide) hg32.1 hg32.2 (RdL.row 3 rfl) (encL_len TClaim_cells2_len (NestP.hn hP3_s22 hn3_s22)) rfl rfl) ?_
   refine ox_y rfl (y_fieldAddrR (A:=(ξ3 5 0).1) (j:=(Int.toNat s22.1 * 2)) fo_90_1 rfl) ?_
   refine ox_joinF 5 6 (by decide) rfl rfl ?_
   refine ox_n rfl (y_storeRF 3 (xs:=ys3_s22) TClaim_cells2_len ((A28,y26.length,c29),(TC.mk ((rdL ys3_s22 s22.1).2.fID) y26)) 1 (by decide) sz_88 rfl hg32.1 (lt_nat hg32.2 (NestP.hn hP3_s22 hn3_s22)) rfl rfl rfl rfl) ?_
   refine oN (ex_only (ex_block ?_))
   refine eT (cR ?_)
   refine ox_y rfl (y_add rfl rfl) (ox_y rfl (yMI rfl) (oN (ex_take 6 ?_)))
   obtain rfl:=sI h
   exact ex_next ⟨_,(ys3_s22.set (Int.toNat s22.1) ((A28,y26.length,c29),(TC.mk ((rdL ys3_s22 s22.1).2.fID) y26))),andR F3_s22 (rowR A28 c29 111 2 y26.length (encL THop_cells y26)),(hn_set hn3_s22),(NestP.set _ hP3_s22 rfl (congrArg (fun z : TC => (TC.mk z.fID y26)) (NestP.snd hP3_s22 s22.1))),(PvL.set _ (PvL.mono (Hb:=(fun W4 => Hb W4 ∧ Res.holds F3_s22 W4)) hV3_s22 (fun _ _ h => ⟨h.1,h.2.1⟩)) (fun _ _ h => rowR_rd h.2.2.1)),rfl,(kp4 (kp (kp rfl)))⟩
  ·refine cx_false (vB hp24) (cx_exit (ex_then_exit ?_))
   obtain rfl:=sI h
   exact ex_stop ⟨rfl,_,ys3_s22,F3_s22,hn3_s22,hP3_s22,hV3_s22,rfl,(kp4 (kp (kp rfl)))⟩
 ·intro e L tm hJ
  obtain ⟨rfl,tm0_u23,ys3_u23,F3_u23,hn3_u23,hP3_u23,hV3_u23,rfl,rfl⟩:=hJ
  refine ⟨(by intro hc; cases hc),?_⟩
  refine ex_block_here ?_
  refine eT (cS (cR ?_))
  try dsimp only [lna,lca,lsz,lss]
  refine ox_y rfl (y_loadN 4 [.slice (ξ3 2 0).1 y4.length (ξ3 2 0).2.2.1,.slice (ξ3 5 0).1 y10.length (ξ3 5 0).2.2.1] ag_25 rfl rfl rfl) (ox_n rfl (y_storeN 1 [.slice (ξ3 2 0).1 y4.length (ξ3 2 0).2.2.1,.slice (ξ3 5 0).1 y10.length (ξ3 5 0).2.2.1] sz_25 rfl (nB rfl) rfl rfl rfl) ?_)
  refine oN (eT (cx_ret ?_))
  obtain rfl:=sI h
  exact ex_res1 (.inl rfl) rfl (resV_cellN 1 [.slice (ξ3 2 0).1 y4.length (ξ3 2 0).2.2.1,.slice (ξ3 5 0).1 y10.length (ξ3 5 0).2.2.1] ag_25 rfl rfl rfl) (fun W2 hW2 => ⟨(((ξ3 2 0).1,y4.length,(ξ3 2 0).2.2.1),((ξ3 5 0).1,y10.length,(ξ3 5 0).2.2.1),ys3_u23,F3_u23),⟨rfl,hn3_u23,hP3_u23,hV3_u23⟩,rfl,hW2.pickL [2,3,5] (by decide) rfl⟩)
theorem recall_told_ok (p0:TL) (p1:Int) (p2:(List TH)) (res:TL) (h:recall_told p0 p1 p2 = some res) (W:World) (Aa:Option Addr) (n0_0 ca : Nat) (hn0_0:n0_0 = p0.fNo.length) (hr0_0:Rd W Aa n0_0 ca (encL TNode_cells p0.fNo)) (Ab:Option Addr) (n0_1 cb : Nat) (ys0_1:List (Hd × TC)) (hn0_1:n0_1 = p0.fC.length) (hr0_1:Rd W Ab n0_1 cb (encL TClaim_cells2 ys0_1)) (hN0_1:NestW W (fun z : TC => z.fO) THop_cells ys0_1 p0.fC) (A2_0:Option Addr) (n2_0 c2_0 : Nat) (hn2_0:n2_0 = p2.length) (hr2_0:Rd W A2_0 n2_0 c2_0 (encL THop_cells p2)) (wb:World) (Hb:World → Prop) (hB:∀ W3,Below W.heap.size W W3 → Below wb.heap.size wb W3 ∧ Hb W3) (hp0_1:PvL (fun z : TC => z.fO) THop_cells wb Hb ys0_1) :
  Calls Tryz.prog 91 [.agg #[.slice Aa n0_0 ca,.slice Ab n0_1 cb],.int .i64 p1,.slice A2_0 n2_0 c2_0].toArray W fun e W2 => ∃ x : ((Option Addr × Nat × Nat) × (Option Addr × Nat × Nat) × (List (Hd × TC)) × Res),(x.1.2.1 = res.fNo.length ∧ x.2.1.2.1 = res.fC.length ∧ NestP (fun z : TC => z.fO) x.2.2.1 res.fC ∧ PvL (fun z : TC => z.fO) THop_cells wb (fun W4 => Hb W4 ∧ Res.holds x.2.2.2 W4) x.2.2.1) ∧ e = .returned (.agg #[.slice x.1.1 x.1.2.1 x.1.2.2,.slice x.2.1.1 x.2.1.2.1 x.2.1.2.2]) ∧ Ext W W2 [rowR x.1.1 x.1.2.2 97 3 x.1.2.1 (encL TNode_cells res.fNo),rowR x.2.1.1 x.2.1.2.2 90 2 x.2.1.2.1 (encL TClaim_cells2 x.2.2.1),x.2.2.2]:=by
 subst hn0_0
 subst hn0_1
 subst hn2_0
 unfold recall_told at h
 refine calls_enter (m:=18) Tryz.func91 rfl rfl (nB rfl) ?_
 refine cS (cR ?_)
 refine ox_box [.slice Aa p0.fNo.length ca,.slice Ab p0.fC.length cb] rfl rfl rfl (fun b1 => ?_)
 refine ox_alloc ze_25 rfl (fun b2 => ?_)
 refine oN (eT (cS (cR ?_)))
 refine ox_y rfl (y_loadN 0 [.slice Aa p0.fNo.length ca,.slice Ab p0.fC.length cb] ag_25 rfl rfl rfl) ?_
 obtain ⟨y3,hy4,h⟩:=bOs h
 refine ox_call [.agg #[.slice Aa p0.fNo.length ca,.slice Ab p0.fC.length cb]] _ _ _ rfl go_111 rfl (fun W2 hW2 => recall_copied_ok p0 y3 hy4 W2 Aa p0.fNo.length ca rfl ((RdL.arg hr0_0) W2 hW2) Ab p0.fC.length cb ys0_1 rfl ((RdL.arg hr0_1) W2 hW2) (NestL.at (NestL.arg hN0_1) W2 hW2) wb Hb (fun W3 hb => hB W3 (belowT hW2.below hb)) hp0_1) ?_
 rintro ⟨⟨A9,n11,c10⟩,⟨A13,n15,c14⟩,ys18,F19⟩ ⟨hn12,hn16,hP17,hV20⟩
 replace hn12 : n11 = y3.fNo.length:=hn12; subst hn12
 replace hn16 : n15 = y3.fC.length:=hn16; subst hn16
 refine ox_alloc ze_25 rfl (fun b21 => ?_)
 try dsimp only [lna,lca,lsz,lss]
 refine ox_n rfl (y_storeN 5 [.slice A9 y3.fNo.length c10,.slice A13 y3.fC.length c14] sz_25 rfl (nB rfl) rfl rfl rfl) ?_
 refine oN (eT (cS ?_))
 obtain ⟨y22,hy23,h⟩:=bOs h
 refine cx_drawsQ 4 5 (fun v L1 => ∃ x : (Option Addr × Nat × Nat),x.2.1 = y22.length ∧ v = .slice x.1 x.2.1 x.2.2 ∧ L1 = [rowR x.1 x.2.2 111 2 x.2.1 (encL THop_cells y22)]) mixed (by kernel_rfl) (by kernel_rfl) (by kernel_rfl) ?_
 refine bx_y rfl (fun _ => yFA fo_25_1 rfl) (bx_y rfl (fun _ => y_load1 5 (v:=.slice A13 y3.fC.length c14) sc_23 rfl rfl rfl) (bx_y rfl (fun _ => yMI rfl) (bx_y rfl (fun _ => yMS rfl) (bx_q rfl (ox_call [.slice A2_0 p2.length c2_0] _ _ _ rfl go_110 rfl (fun W2 hW2 => slices_Clone_Hop_Hop_ok p2 y22 hy23 W2 A2_0 p2.length c2_0 rfl ((RdL.arg hr2_0) W2 hW2)) (fun x hx => oN (ex_cap ⟨x,hx,rfl,rfl⟩))) (kx_nil rfl ?_)))))
 rintro v L1 ⟨⟨A24,n26,c25⟩,hn27,rfl,rfl⟩
 replace hn27 : n26 = y22.length:=hn27; subst hn27
 try dsimp only [lna,lca,lsz,lss]
 obtain ⟨hg28,h⟩:=gOs h
 refine ox_y rfl (y_indexR sl_23 (by decide) hg28.1 hg28.2 (RdL.row 3 rfl) (encL_len TClaim_cells2_len (NestP.hn hP17 rfl)) rfl rfl) ?_
 refine ox_y rfl (y_fieldAddrR (A:=A13) (j:=(Int.toNat p1 * 2)) fo_90_1 rfl) ?_
 refine ox_joinF 4 6 (by decide) rfl rfl ?_
 refine ox_n rfl (y_storeRF 3 (xs:=ys18) TClaim_cells2_len ((A24,y22.length,c25),(TC.mk ((rdL ys18 p1).2.fID) y22)) 1 (by decide) sz_88 rfl hg28.1 (lt_nat hg28.2 (NestP.hn hP17 rfl)) rfl rfl rfl rfl) ?_
 refine oN (ex_only ?_)
 refine eT (cS (cR ?_))
 refine ox_y rfl (y_loadN 5 [.slice A9 y3.fNo.length c10,.slice A13 y3.fC.length c14] ag_25 rfl rfl rfl) (ox_n rfl (y_storeN 1 [.slice A9 y3.fNo.length c10,.slice A13 y3.fC.length c14] sz_25 rfl (nB rfl) rfl rfl rfl) ?_)
 refine oN (eT (cx_ret ?_))
 obtain rfl:=sI h
 exact ex_res1 (.inl rfl) rfl (resV_cellN 1 [.slice A9 y3.fNo.length c10,.slice A13 y3.fC.length c14] ag_25 rfl rfl rfl) (fun W2 hW2 => ⟨((A9,y3.fNo.length,c10),(A13,y3.fC.length,c14),(ys18.set (Int.toNat p1) ((A24,y22.length,c25),(TC.mk ((rdL ys18 p1).2.fID) y22))),andR F19 (rowR A24 c25 111 2 y22.length (encL THop_cells y22))),⟨rfl,(hn_set rfl),(NestP.set _ hP17 rfl (congrArg (fun z : TC => (TC.mk z.fID y22)) (NestP.snd hP17 p1))),(PvL.set _ (PvL.mono (Hb:=(fun W4 => Hb W4 ∧ Res.holds F19 W4)) hV20 (fun _ _ h => ⟨h.1,h.2.1⟩)) (fun _ _ h => rowR_rd h.2.2.1))⟩,rfl,hW2.pickL [2,3,4] (by decide) rfl⟩)
theorem recall_least_calx_recall_asking_ok (p0:(List Tasking)) (p1:Tasking → Tasking → Option Bool) (res:(Tasking × Bool)) (h:recall_least_calx_recall_asking p0 p1 = some res) (W:World) (Aa:Option Addr) (n0_0 ca : Nat) (hn0_0:n0_0 = p0.length) (hr0_0:Rd W Aa n0_0 ca (encL Tasking_cells p0)) (fid1:Nat) (fst1 caps1 : List Value) (hgo1:goes Tryz.prog fid1 = true) (hof1:∀ W2,Below W.heap.size W W2 → ∀ x0 x1,∀ y,p1 x0 x1 = some y → Calls Tryz.prog fid1 (fst1 ++ (([.agg #[.int .i64 x0.f_id,.int .i64 x0.f_left],.agg #[.int .i64 x1.f_id,.int .i64 x1.f_left]] : List Value) ++ caps1)).toArray W2 fun e W3 => e = .returned (.bool y) ∧ Ext W2 W3 []) :
  Calls Tryz.prog 92 [.slice Aa n0_0 ca,.func (.func fid1) fst1.toArray caps1.toArray].toArray W fun e W2 => e = .returned (.tuple #[.agg #[.int .i64 res.1.f_id,.int .i64 res.1.f_left],.bool res.2]) ∧ Ext W W2 []:=by
 subst hn0_0
 unfold recall_least_calx_recall_asking at h
 refine calls_enter (m:=30) Tryz.func92 rfl rfl (nB rfl) ?_
 refine cS (cR ?_)
 refine ox_alloc ze_123 rfl (fun b1 => ?_)
 refine ox_y rfl (y_assign_bool rfl) ?_
 refine oN (eT (cS (cR ?_)))
 refine ox_alloc ze_123 rfl (fun b2 => ?_)
 refine oN (eT (cS (cS (cR ?_))))
 refine ox_y rfl (yMS rfl) (ox_y rfl (y_len (us:=[]) us_121 rfl) (ox_y rfl (yMI rfl) ?_))
 refine oN (eT (cx_block ?_))
 obtain ⟨u6,hl16,h⟩:=bOs h
 refine cx_loop (fun (s:(Int × Int × Int)) L tm => ∃ (tm0:Nat → Value),L = [cellsR b1 123 [.int .i64 0,.int .i64 0],cellsR b2 123 [.int .i64 s.2.1,.int .i64 s.2.2]] ∧ tm = (upd (upd (upd (upd (upd (upd (upd (upd tm0 0 (.slice Aa p0.length ca)) 1 (.func (.func fid1) fst1.toArray caps1.toArray)) 4 (.pointer (some ⟨b1,0,none⟩))) 5 (.bool false)) 6 (.pointer (some ⟨b2,0,none⟩))) 9 (.slice Aa p0.length ca)) 10 (.int .i64 (p0.length:Int))) 11 (.int .i64 s.1))) (fun s e L tm => e = .exit 0 ∧ ∃ (tm0:Nat → Value),L = [cellsR b1 123 [.int .i64 0,.int .i64 0],cellsR b2 123 [.int .i64 s.2.1,.int .i64 s.2.2]] ∧ tm = (upd (upd (upd (upd (upd (upd (upd (upd tm0 0 (.slice Aa p0.length ca)) 1 (.func (.func fid1) fst1.toArray caps1.toArray)) 4 (.pointer (some ⟨b1,0,none⟩))) 5 (.bool false)) 6 (.pointer (some ⟨b2,0,none⟩))) 9 (.slice Aa p0.length ca)) 10 (.int .i64 (p0.length:Int))) 11 (.int .i64 s.1))) hl16 ⟨_,rfl,(kp4 (kp4 rfl))⟩ ?_ ?_
 ·rintro s5 L tm st ⟨tm0_s5,rfl,rfl⟩ h
  unfold recall_least_calx_recall_asking_l1 at h
  refine cS (cR ?_)
  refine ox_y rfl (y_lss rfl rfl) ?_
  refine oN (eT (cS ?_))
  rcases iOs h with ⟨hp7,h⟩ | ⟨hp7,h⟩
  ·refine cx_true (vB hp7) ?_
   refine cx_skip (eT (cS (cx_block (cS (cR ?_)))))
   refine ox_y rfl (yMI rfl) ?_
   obtain ⟨hg8,h⟩:=gOs h
   refine ox_y rfl (y_indexR sl_121 (by decide) hg8.1 hg8.2 (RdL.arg hr0_0) (encL_len Tasking_cells_len rfl) rfl rfl) ?_
   refine ox_y rfl (y_loadRN (A:=Aa) (j:=(Int.toNat s5.1 * 2)) [.int .i64 ((rdL p0 s5.1).f_id),.int .i64 ((rdL p0 s5.1).f_left)] ag_123 (Nat.succ_pos _) (RdL.arg hr0_0) rfl (encL_gets Tasking_cells_len hg8.1 (lt_nat hg8.2 rfl))) ?_
   refine ox_alloc ze_123 rfl (fun b9 => ?_)
   refine ox_y rfl (yAI rfl) (ox_n rfl (y_storeN 2 [.int .i64 ((rdL p0 s5.1).f_id),.int .i64 ((rdL p0 s5.1).f_left)] sz_123 rfl (nB rfl) rfl rfl rfl) ?_)
   refine oN (eT (cS (cR ?_)))
   refine ox_y rfl (yMI rfl) (ox_y rfl (y_eql rfl rfl) (ox_y rfl (y_move_bool rfl) ?_))
   obtain ⟨b11,hb12,h⟩:=bOs h
   refine ox_join 5 (fun tm0 => (upd (upd (upd (upd (upd (upd (upd (upd (upd (upd (upd (upd tm0 0 (.slice Aa p0.length ca)) 1 (.func (.func fid1) fst1.toArray caps1.toArray)) 4 (.pointer (some ⟨b1,0,none⟩))) 5 (.bool false)) 6 (.pointer (some ⟨b2,0,none⟩))) 9 (.slice Aa p0.length ca)) 10 (.int .i64 (p0.length:Int))) 11 (.int .i64 s5.1)) 12 (.bool (decide (s5.1 < (p0.length:Int))))) 8 (.pointer (some ⟨b9,0,none⟩))) 7 (.int .i64 s5.1)) 23 (.bool b11))) (fun tm0 => ?_) (fun key => ?_)
   ·refine oN (eT ?_)
    rcases iOs h with ⟨hp13,h⟩ | ⟨hp13,h⟩
    ·refine cx_true (vB hp13) (cR (ox_y rfl (y_loadN 2 [.int .i64 ((rdL p0 s5.1).f_id),.int .i64 ((rdL p0 s5.1).f_left)] ag_123 rfl rfl rfl) (ox_n rfl (y_storeN 1 [.int .i64 ((rdL p0 s5.1).f_id),.int .i64 ((rdL p0 s5.1).f_left)] sz_123 rfl (nB rfl) rfl rfl rfl) (oN (ex_block ?_)))))
     refine eT (cR ?_)
     refine ox_y rfl (y_add rfl rfl) (ox_y rfl (yMI rfl) (oN (ex_take 2 ?_)))
     obtain rfl:=sI h
     exact ex_next ⟨_,rfl,(kp4 (kp4 rfl))⟩
    ·refine cx_false (vB hp13) (cx_skip (ex_block ?_))
     refine eT (cR ?_)
     refine ox_y rfl (y_add rfl rfl) (ox_y rfl (yMI rfl) (oN (ex_take 2 ?_)))
     obtain rfl:=sI h
     exact ex_next ⟨_,rfl,(kp4 (kp4 rfl))⟩
   ·clear h; rcases iOs hb12 with ⟨hp10,h⟩ | ⟨hp10,h⟩
    ·refine oSk (sF rfl rfl rfl rfl hp10) (oSk (sF rfl rfl rfl rfl hp10) (oSk (sF rfl rfl rfl rfl hp10) (oSk (sF rfl rfl rfl rfl hp10) (ox_y rfl (y_pick_tb (vB hp10) rfl) ?_))))
     obtain rfl:=sI h
     exact key _ _ (kp4 (kp4 (kp4 rfl)))
    ·refine ox_y (sT rfl rfl rfl rfl hp10) (y_move (v:=.func (.func fid1) fst1.toArray caps1.toArray) rfl) (ox_y (sT rfl rfl rfl rfl hp10) (y_loadN 2 [.int .i64 ((rdL p0 s5.1).f_id),.int .i64 ((rdL p0 s5.1).f_left)] ag_123 rfl rfl rfl) (ox_y (sT rfl rfl rfl rfl hp10) (y_loadN 1 [.int .i64 s5.2.1,.int .i64 s5.2.2] ag_123 rfl rfl rfl) ?_))
     obtain ⟨y14,hy15,h⟩:=bOs h
     refine ox_y (sT rfl rfl rfl rfl hp10) (y_callvF [.agg #[.int .i64 ((rdL p0 s5.1).f_id),.int .i64 ((rdL p0 s5.1).f_left)],.agg #[.int .i64 s5.2.1,.int .i64 s5.2.2]] hgo1 rfl rfl (fun W2 hW2 => hof1 W2 hW2.below (Tasking.mk ((rdL p0 s5.1).f_id) ((rdL p0 s5.1).f_left)) (Tasking.mk s5.2.1 s5.2.2) y14 hy15)) (ox_y rfl (y_pick_fb (vB hp10) rfl) ?_)
     obtain rfl:=sI h
     exact key _ _ (kp4 (kp4 (kp4 rfl)))
  ·refine cx_false (vB hp7) (cx_exit (ex_then_exit ?_))
   obtain rfl:=sI h
   exact ex_stop ⟨rfl,_,rfl,(kp4 (kp4 rfl))⟩
 ·intro e L tm hJ
  obtain ⟨rfl,tm0_u6,rfl,rfl⟩:=hJ
  refine ⟨(by intro hc; cases hc),?_⟩
  refine ex_block_here ?_
  refine eT (cS (cR ?_))
  refine ox_y rfl (y_loadN 1 [.int .i64 u6.2.1,.int .i64 u6.2.2] ag_123 rfl rfl rfl) (ox_y rfl (yMS rfl) (ox_y rfl (y_len (us:=[]) us_121 rfl) (ox_y rfl (y_gtr rfl rfl) (ox_n rfl (y_storeN 0 [.int .i64 u6.2.1,.int .i64 u6.2.2] sz_123 rfl (nB rfl) rfl rfl rfl) (ox_y rfl (y_assign_bool rfl) ?_)))))
  refine oN (eT (cx_ret ?_))
  obtain rfl:=sI h
  exact ex_res2 (.inl rfl) rfl (resV_cellN 0 [.int .i64 u6.2.1,.int .i64 u6.2.2] ag_123 rfl rfl rfl) (rVt (v:=.bool (decide (0 < (p0.length:Int)))) rfl) (fun W2 hW2 => ⟨rfl,hW2.none⟩)
theorem recall_Ask_1_ok (p0:Tasking) (p1:Tasking) (res:Bool) (h:recall_Ask_1 p0 p1 = some res) (W:World)  :
  Calls Tryz.prog 93 [.agg #[.int .i64 p0.f_id,.int .i64 p0.f_left],.agg #[.int .i64 p1.f_id,.int .i64 p1.f_left]].toArray W fun e W2 => e = .returned (.bool res) ∧ Ext W W2 []:=by
 unfold recall_Ask_1 at h
 refine calls_enter (m:=24) Tryz.func93 rfl rfl (nB rfl) ?_
 refine cS (cR ?_)
 refine ox_box [.int .i64 p0.f_id,.int .i64 p0.f_left] rfl rfl rfl (fun b1 => ?_)
 refine ox_box [.int .i64 p1.f_id,.int .i64 p1.f_left] rfl rfl rfl (fun b2 => ?_)
 refine ox_y rfl (y_assign_bool rfl) ?_
 refine oN (eT (cS (cR ?_)))
 refine ox_y rfl (yFA fo_123_1 rfl) (ox_y rfl (y_load1 0 (v:=.int .i64 p0.f_left) sc_3 rfl rfl rfl) (ox_y rfl (yFA fo_123_1 rfl) (ox_y rfl (y_load1 1 (v:=.int .i64 p1.f_left) sc_3 rfl rfl rfl) (ox_y rfl (y_lss rfl rfl) (ox_y rfl (y_move_bool rfl) ?_)))))
 refine ox_join 13 (fun tm0 => (upd (upd tm0 4 (.bool false)) 23 (.bool ((decide (p0.f_left < p1.f_left)) || ((p0.f_left == p1.f_left) && (decide (p0.f_id < p1.f_id))))))) (fun tm0 => ?_) (fun key => ?_)
 ·refine ox_y rfl (y_assign_bool rfl) ?_
  refine oN (eT (cx_ret ?_))
  obtain rfl:=sI h
  exact ex_res1 (.inl rfl) rfl (rVt (v:=.bool ((decide (p0.f_left < p1.f_left)) || ((p0.f_left == p1.f_left) && (decide (p0.f_id < p1.f_id))))) rfl) (fun W2 hW2 => ⟨rfl,hW2.none⟩)
 ·rcases bool_cases (decide (p0.f_left < p1.f_left)) with hp3 | hp3
  ·refine oSk (sF rfl rfl rfl rfl hp3) (oSk (sF rfl rfl rfl rfl hp3) (oSk (sF rfl rfl rfl rfl hp3) (oSk (sF rfl rfl rfl rfl hp3) (oSk (sF rfl rfl rfl rfl hp3) (oSk (sF rfl rfl rfl rfl hp3) (oSk rfl (oSk rfl (oSk rfl (oSk rfl (oSk rfl (oSk (sF rfl rfl rfl rfl hp3) (ox_y rfl (y_pick_tb (vB hp3) rfl) ?_))))))))))))
   exact key _ _ (keep (keep rfl rfl) (vB (or_t hp3)))
  ·refine ox_y (sT rfl rfl rfl rfl hp3) (yFA fo_123_1 rfl) (ox_y (sT rfl rfl rfl rfl hp3) (y_load1 0 (v:=.int .i64 p0.f_left) sc_3 rfl rfl rfl) (ox_y (sT rfl rfl rfl rfl hp3) (yFA fo_123_1 rfl) (ox_y (sT rfl rfl rfl rfl hp3) (y_load1 1 (v:=.int .i64 p1.f_left) sc_3 rfl rfl rfl) (ox_y (sT rfl rfl rfl rfl hp3) (y_eql rfl rfl) (ox_y (sT rfl rfl rfl rfl hp3) (y_move_bool rfl) ?_)))))
   refine ox_join 6 (fun tm0 => (upd (upd (upd tm0 4 (.bool false)) 10 (.bool (decide (p0.f_left < p1.f_left)))) 22 (.bool ((p0.f_left == p1.f_left) && (decide (p0.f_id < p1.f_id)))))) (fun tm0 => ?_) (fun key => ?_)
   ·refine ox_y rfl (y_pick_fb (vB hp3) rfl) ?_
    exact key _ _ (keep (keep rfl rfl) (vB (or_f hp3)))
   ·rcases bool_cases (p0.f_left == p1.f_left) with hp4 | hp4
    ·refine ox_y (sT rfl rfl rfl rfl hp4) (yFA fo_123_0 rfl) (ox_y (sT rfl rfl rfl rfl hp4) (y_load1 0 (v:=.int .i64 p0.f_id) sc_3 rfl rfl rfl) (ox_y (sT rfl rfl rfl rfl hp4) (yFA fo_123_0 rfl) (ox_y (sT rfl rfl rfl rfl hp4) (y_load1 1 (v:=.int .i64 p1.f_id) sc_3 rfl rfl rfl) (ox_y (sT rfl rfl rfl rfl hp4) (y_lss rfl rfl) (ox_y (sT rfl rfl rfl rfl hp3) (y_pick_tb (vB hp4) rfl) ?_)))))
     exact key _ _ (keep (keep (keep rfl rfl) rfl) (vB (and_t hp4)))
    ·refine oSk (sF rfl rfl rfl rfl hp4) (oSk (sF rfl rfl rfl rfl hp4) (oSk (sF rfl rfl rfl rfl hp4) (oSk (sF rfl rfl rfl rfl hp4) (oSk (sF rfl rfl rfl rfl hp4) (ox_y (sT rfl rfl rfl rfl hp3) (y_pick_fb (vB hp4) rfl) ?_)))))
     exact key _ _ (keep (keep (keep rfl rfl) rfl) (vB (and_f hp4)))
theorem recall_Ask_ok (p0:TL) (p1:(List Int)) (res:(Int × Int × Int)) (h:recall_Ask p0 p1 = some res) (W:World) (Aa:Option Addr) (n0_0 ca : Nat) (hn0_0:n0_0 = p0.fNo.length) (hr0_0:Rd W Aa n0_0 ca (encL TNode_cells p0.fNo)) (Ab:Option Addr) (n0_1 cb : Nat) (ys0_1:List (Hd × TC)) (hn0_1:n0_1 = p0.fC.length) (hr0_1:Rd W Ab n0_1 cb (encL TClaim_cells2 ys0_1)) (hN0_1:NestW W (fun z : TC => z.fO) THop_cells ys0_1 p0.fC) (Ac:Option Addr) (n1_0 cc : Nat) (hn1_0:n1_0 = p1.length) (hr1_0:Rd W Ac n1_0 cc (encL cI p1)) :
  Calls Tryz.prog 26 [.agg #[.slice Aa n0_0 ca,.slice Ab n0_1 cb],.slice Ac n1_0 cc].toArray W fun e W2 => e = .returned (.tuple #[.int .i64 res.1,.int .i64 res.2.1,.int .i64 res.2.2]) ∧ Ext W W2 []:=by
 subst hn0_0
 subst hn0_1
 subst hn1_0
 unfold recall_Ask at h
 refine calls_enter (m:=76) Tryz.func26 rfl rfl (nB rfl) ?_
 refine cS (cR ?_)
 refine ox_box [.slice Aa p0.fNo.length ca,.slice Ab p0.fC.length cb] rfl rfl rfl (fun b1 => ?_)
 refine ox_y rfl (yAI rfl) (ox_y rfl (yAI rfl) (ox_y rfl (yAI rfl) ?_))
 refine oN (eT (cS (cS (cR ?_))))
 refine ox_y rfl (y_loadN 0 [.slice Aa p0.fNo.length ca,.slice Ab p0.fC.length cb] ag_25 rfl rfl rfl) (ox_y rfl (yMS rfl) ?_)
 obtain ⟨y2,hy3,h⟩:=bOs h
 refine ox_y rfl (y_call [.agg #[.slice Aa p0.fNo.length ca,.slice Ab p0.fC.length cb],.slice Ac p1.length cc] go_70 rfl (fun W2 hW2 => recall_asked_ok p0 p1 y2 hy3 W2 Aa p0.fNo.length ca rfl ((RdL.arg hr0_0) W2 hW2) Ab p0.fC.length cb ys0_1 rfl ((RdL.arg hr0_1) W2 hW2) (NestL.at (NestL.arg hN0_1) W2 hW2) Ac p1.length cc rfl ((RdL.arg hr1_0) W2 hW2)) rfl) (ox_y rfl (yAI rfl) ?_)
 refine oN (eT (cS (cR ?_)))
 refine ox_y rfl (yMI rfl) (ox_y rfl (y_neq rfl rfl) ?_)
 refine oN (eT ?_)
 rcases iOs h with ⟨hp4,h⟩ | ⟨hp4,h⟩
 ·refine cx_true (vB hp4) ?_
  refine cS (cR ?_)
  refine ox_y rfl (yMI rfl) (ox_y rfl (yAI rfl) (ox_y rfl (yAI rfl) (ox_y rfl (yAI rfl) ?_)))
  refine oN (eT (cx_ret (ex_then_ret ?_)))
  obtain rfl:=sI h
  exact ex_res3 (.inl rfl) rfl (rVt (v:=.int .i64 0) rfl) (rVt (v:=.int .i64 0) rfl) (rVt (v:=.int .i64 y2) rfl) (fun W2 hW2 => ⟨rfl,hW2.none⟩)
 ·refine cx_false (vB hp4) ?_
  refine cx_skip (eT (cS (cR ?_)))
  refine ox_y rfl (yAS rfl) ?_
  refine oN (eT (cS (cS (cR ?_))))
  refine ox_y rfl (yFA fo_25_1 rfl) (ox_y rfl (y_load1 0 (v:=.slice Ab p0.fC.length cb) sc_23 rfl rfl rfl) (ox_y rfl (y_len (us:=[]) us_23 rfl) (ox_y rfl (yMI rfl) ?_)))
  refine oN (eT (cx_block ?_))
  obtain ⟨u8,hl53,h⟩:=bOs h
  refine cx_nilrow 123 2 ?_
  refine cx_loop (fun (s:(Int × (List Tasking))) L tm => ∃ (tm0:Nat → Value) (A1_s:Option Addr) (c1_s:Nat) (n1_s:Nat),n1_s = s.2.length ∧ L = [cellsR b1 25 [.slice Aa p0.fNo.length ca,.slice Ab p0.fC.length cb],rowR A1_s c1_s 123 2 n1_s (encL Tasking_cells s.2)] ∧ tm = (upd (upd (upd (upd (upd (upd (upd (upd (upd (upd (upd (upd tm0 0 (.agg #[.slice Aa p0.fNo.length ca,.slice Ab p0.fC.length cb])) 1 (.slice Ac p1.length cc)) 2 (.pointer (some ⟨b1,0,none⟩))) 4 (.int .i64 0)) 5 (.int .i64 0)) 6 (.int .i64 0)) 7 (.int .i64 y2)) 19 (.bool (y2 != 0))) 8 (.slice A1_s n1_s c1_s)) 22 (.slice Ab p0.fC.length cb)) 23 (.int .i64 (p0.fC.length:Int))) 24 (.int .i64 s.1))) (fun s e L tm => e = .exit 0 ∧ ∃ (tm0:Nat → Value) (A1_s:Option Addr) (c1_s:Nat) (n1_s:Nat),n1_s = s.2.length ∧ L = [cellsR b1 25 [.slice Aa p0.fNo.length ca,.slice Ab p0.fC.length cb],rowR A1_s c1_s 123 2 n1_s (encL Tasking_cells s.2)] ∧ tm = (upd (upd (upd (upd (upd (upd (upd (upd (upd (upd (upd (upd tm0 0 (.agg #[.slice Aa p0.fNo.length ca,.slice Ab p0.fC.length cb])) 1 (.slice Ac p1.length cc)) 2 (.pointer (some ⟨b1,0,none⟩))) 4 (.int .i64 0)) 5 (.int .i64 0)) 6 (.int .i64 0)) 7 (.int .i64 y2)) 19 (.bool (y2 != 0))) 8 (.slice A1_s n1_s c1_s)) 22 (.slice Ab p0.fC.length cb)) 23 (.int .i64 (p0.fC.length:Int))) 24 (.int .i64 s.1))) hl53 ⟨_,none,0,0,rfl,rfl,(kp4 (kp4 (kp4 rfl)))⟩ ?_ ?_
  ·rintro s7 L tm st ⟨tm0_s7,A1_s7,c1_s7,n1_s7,rfl,rfl,rfl⟩ h
   unfold recall_Ask_l1 at h
   refine cS (cR ?_)
   refine ox_y rfl (y_lss rfl rfl) ?_
   refine oN (eT (cS ?_))
   rcases iOs h with ⟨hp9,h⟩ | ⟨hp9,h⟩
   ·refine cx_true (vB hp9) ?_
    refine cx_skip (eT (cS (cx_block (cS (cR ?_)))))
    refine ox_y rfl (yMI rfl) ?_
    obtain ⟨hg10,h⟩:=gOs h
    refine ox_y rfl (y_indexR sl_23 (by decide) hg10.1 hg10.2 (RdL.arg hr0_1) (encL_len TClaim_cells2_len (NestP.hn hN0_1.p rfl)) rfl rfl) ?_
    refine ox_y rfl (y_loadRN (A:=Ab) (j:=(Int.toNat s7.1 * 2)) [.int .i64 ((rdL p0.fC s7.1).fID),.slice ((rdL ys0_1 s7.1).1.1) ((rdL p0.fC s7.1).fO.length) ((rdL ys0_1 s7.1).1.2.2)] ag_90 (Nat.succ_pos _) (RdL.arg hr0_1) rfl (gets_eq (TClaim_cells2_eq (NestP.snd hN0_1.p s7.1) (NestP.len hN0_1.p hg10.1 (lt_nat hg10.2 rfl))).symm (encL_gets TClaim_cells2_len hg10.1 (lt_nat hg10.2 (NestP.hn hN0_1.p rfl))))) ?_
    refine ox_alloc ze_90 rfl (fun b11 => ?_)
    refine ox_y rfl (yAI rfl) (ox_n rfl (y_storeN 2 [.int .i64 ((rdL p0.fC s7.1).fID),.slice ((rdL ys0_1 s7.1).1.1) ((rdL p0.fC s7.1).fO.length) ((rdL ys0_1 s7.1).1.2.2)] sz_90 rfl (nB rfl) rfl rfl rfl) ?_)
    refine oN (eT (cS (cS (cR ?_))))
    refine ox_y rfl (yFA fo_90_1 rfl) (ox_y rfl (y_load1 2 (v:=.slice ((rdL ys0_1 s7.1).1.1) ((rdL p0.fC s7.1).fO.length) ((rdL ys0_1 s7.1).1.2.2)) sc_88 rfl rfl rfl) (ox_y rfl (y_len (us:=[]) us_88 rfl) (ox_y rfl (y_lss rfl rfl) ?_)))
    refine oN (eT ?_)
    rcases iOs h with ⟨hp12,h⟩ | ⟨hp12,h⟩
    ·refine cx_true (vB hp12) (cx_exit (ex_then_exit (ex_block_here ?_)))
     refine eT (cR ?_)
     refine ox_y rfl (y_add rfl rfl) (ox_y rfl (yMI rfl) (oN (ex_take 2 ?_)))
     obtain rfl:=sI h
     exact ex_next ⟨_,A1_s7,c1_s7,s7.2.length,rfl,rfl,(kp4 (kp4 (kp4 rfl)))⟩
    ·refine cx_false (vB hp12) ?_
     refine cx_skip (eT (cS (cR ?_)))
     refine ox_y rfl (yFA fo_90_0 rfl) (ox_y rfl (y_load1 2 (v:=.int .i64 ((rdL p0.fC s7.1).fID)) sc_3 rfl rfl rfl) ?_)
     refine ox_y rfl (y_buildS [.int .i64 ((rdL p0.fC s7.1).fID),.int .i64 0] [(0,1),(1,1)] ust_123 ze_123 (by kernel_rfl)) ?_
     refine ox_alloc ze_123 rfl (fun b13 => ?_)
     refine ox_n rfl (y_storeN 3 [.int .i64 ((rdL p0.fC s7.1).fID),.int .i64 0] sz_123 rfl (nB rfl) rfl rfl rfl) ?_
     refine oN (eT (cS (cS (cR ?_))))
     refine ox_y rfl (yFA fo_90_1 rfl) (ox_y rfl (y_load1 2 (v:=.slice ((rdL ys0_1 s7.1).1.1) ((rdL p0.fC s7.1).fO.length) ((rdL ys0_1 s7.1).1.2.2)) sc_88 rfl rfl rfl) (ox_y rfl (y_len (us:=[]) us_88 rfl) (ox_y rfl (yMI rfl) ?_)))
     refine oN (eT (cx_block ?_))
     obtain ⟨u17,hl48,h⟩:=bOs h
     refine cx_loop (fun (s:(Int × Int)) L tm => ∃ (tm0:Nat → Value),L = [cellsR b1 25 [.slice Aa p0.fNo.length ca,.slice Ab p0.fC.length cb],rowR A1_s7 c1_s7 123 2 s7.2.length (encL Tasking_cells s7.2),cellsR b11 90 [.int .i64 ((rdL p0.fC s7.1).fID),.slice ((rdL ys0_1 s7.1).1.1) ((rdL p0.fC s7.1).fO.length) ((rdL ys0_1 s7.1).1.2.2)],cellsR b13 123 [.int .i64 ((rdL p0.fC s7.1).fID),.int .i64 s.2]] ∧ tm = (upd (upd (upd (upd (upd (upd (upd (upd (upd (upd (upd (upd (upd (upd (upd (upd (upd (upd (upd tm0 0 (.agg #[.slice Aa p0.fNo.length ca,.slice Ab p0.fC.length cb])) 1 (.slice Ac p1.length cc)) 2 (.pointer (some ⟨b1,0,none⟩))) 4 (.int .i64 0)) 5 (.int .i64 0)) 6 (.int .i64 0)) 7 (.int .i64 y2)) 19 (.bool (y2 != 0))) 8 (.slice A1_s7 s7.2.length c1_s7)) 22 (.slice Ab p0.fC.length cb)) 23 (.int .i64 (p0.fC.length:Int))) 24 (.int .i64 s7.1)) 25 (.bool (decide (s7.1 < (p0.fC.length:Int))))) 10 (.pointer (some ⟨b11,0,none⟩))) 9 (.int .i64 s7.1)) 32 (.bool (decide ((((rdL p0.fC s7.1).fO.length : Nat) : Int) < 2)))) 11 (.pointer (some ⟨b13,0,none⟩))) 38 (.int .i64 (((rdL p0.fC s7.1).fO.length : Nat) : Int))) 39 (.int .i64 s.1))) (fun s e L tm => e = .exit 2 ∧ ∃ (tm0:Nat → Value),L = [cellsR b1 25 [.slice Aa p0.fNo.length ca,.slice Ab p0.fC.length cb],rowR A1_s7 c1_s7 123 2 s7.2.length (encL Tasking_cells s7.2),cellsR b11 90 [.int .i64 ((rdL p0.fC s7.1).fID),.slice ((rdL ys0_1 s7.1).1.1) ((rdL p0.fC s7.1).fO.length) ((rdL ys0_1 s7.1).1.2.2)],cellsR b13 123 [.int .i64 ((rdL p0.fC s7.1).fID),.int .i64 s.2]] ∧ tm = (upd (upd (upd (upd (upd (upd (upd (upd (upd (upd (upd (upd (upd (upd (upd (upd (upd (upd (upd tm0 0 (.agg #[.slice Aa p0.fNo.length ca,.slice Ab p0.fC.length cb])) 1 (.slice Ac p1.length cc)) 2 (.pointer (some ⟨b1,0,none⟩))) 4 (.int .i64 0)) 5 (.int .i64 0)) 6 (.int .i64 0)) 7 (.int .i64 y2)) 19 (.bool (y2 != 0))) 8 (.slice A1_s7 s7.2.length c1_s7)) 22 (.slice Ab p0.fC.length cb)) 23 (.int .i64 (p0.fC.length:Int))) 24 (.int .i64 s7.1)) 25 (.bool (decide (s7.1 < (p0.fC.length:Int))))) 10 (.pointer (some ⟨b11,0,none⟩))) 9 (.int .i64 s7.1)) 32 (.bool (decide ((((rdL p0.fC s7.1).fO.length : Nat) : Int) < 2)))) 11 (.pointer (some ⟨b13,0,none⟩))) 38 (.int .i64 (((rdL p0.fC s7.1).fO.length : Nat) : Int))) 39 (.int .i64 s.1))) hl48 ⟨_,rfl,(kp4 (kp4 (kp4 (kp4 (kp (kp (kp rfl)))))))⟩ ?_ ?_
     ·rintro s16 L tm st ⟨tm0_s16,rfl,rfl⟩ h
      unfold recall_Ask_l2 at h
      refine cS (cR ?_)
      refine ox_y rfl (y_lss rfl rfl) ?_
      refine oN (eT (cS ?_))
      rcases iOs h with ⟨hp18,h⟩ | ⟨hp18,h⟩
      ·refine cx_true (vB hp18) ?_
       refine cx_skip (eT (cS (cx_block (cS (cR ?_)))))
       refine ox_y rfl (yMI rfl) (ox_y rfl (yAI rfl) ?_)
       refine oN (eT ?_)
       obtain ⟨hg19,h⟩:=gOs h
       obtain ⟨y20,hy21,h⟩:=bOs h
       refine cx_drawsD 12 15 (fun v L1 => ∃ x : ((Option Addr × Nat × Nat) × (Option Addr × Nat × Nat) × (List (Hd × TC)) × Res),(x.1.2.1 = y20.fNo.length ∧ x.2.1.2.1 = y20.fC.length ∧ NestP (fun z : TC => z.fO) x.2.2.1 y20.fC ∧ PvL (fun z : TC => z.fO) THop_cells W (fun W4 => (fun _ => True) W4 ∧ Res.holds x.2.2.2 W4) x.2.2.1) ∧ v = .agg #[.slice x.1.1 x.1.2.1 x.1.2.2,.slice x.2.1.1 x.2.1.2.1 x.2.1.2.2] ∧ L1 = [rowR x.1.1 x.1.2.2 97 3 x.1.2.1 (encL TNode_cells y20.fNo),rowR x.2.1.1 x.2.1.2.2 90 2 x.2.1.2.1 (encL TClaim_cells2 x.2.2.1),x.2.2.2]) mixed (by kernel_rfl) (by kernel_rfl) (by kernel_rfl) ?_
       refine bdx_y rfl (fun _ => yFA fo_123_1 rfl) (bdx_y rfl (fun _ => y_load1 3 (v:=.int .i64 s16.2) sc_3 rfl rfl rfl) (bdx_y rfl (fun _ => y_loadN 0 [.slice Aa p0.fNo.length ca,.slice Ab p0.fC.length cb] ag_25 rfl rfl rfl) (bdx_y rfl (fun _ => yMI rfl) (bdx_y rfl (fun _ => yFA fo_90_1 rfl) (bdx_y rfl (fun _ => y_load1 2 (v:=.slice ((rdL ys0_1 s7.1).1.1) ((rdL p0.fC s7.1).fO.length) ((rdL ys0_1 s7.1).1.2.2)) sc_88 rfl rfl rfl) (bdx_y rfl (fun _ => yMI rfl) (bdx_y rfl (fun _ => yMI rfl) (bdx_y rfl (fun _ => y_add rfl rfl) (bdx_y rfl (fun _ => yMI rfl) (bdx_y rfl (fun _ => y_add rfl rfl) (bdx_y rfl (fun _ => y_cut3 sl_88 hg19.1 hg19.2.1 hg19.2.2.1 hg19.2.2.2 (NestL.rd (NestL.arg hN0_1) hg10.1 (lt_nat hg10.2 rfl)) rfl rfl rfl rfl) (bdx_q rfl (ox_call [.agg #[.slice Aa p0.fNo.length ca,.slice Ab p0.fC.length cb],.int .i64 s7.1,.slice (if Int.toNat (w64 (s16.1 + 1)) = Int.toNat s16.1 then ((rdL ys0_1 s7.1).1.1) else Option.map (fun x => x.add (Int.toNat s16.1 * 2)) ((rdL ys0_1 s7.1).1.1)) (Int.toNat (w64 (s16.1 + 1)) - Int.toNat s16.1) (Int.toNat (w64 (s16.1 + 1)) - Int.toNat s16.1)] _ _ _ rfl go_91 rfl (fun W2 hW2 => recall_told_ok p0 s7.1 ((((rdL p0.fC s7.1).fO).drop (Int.toNat s16.1)).take (Int.toNat (w64 (s16.1 + 1)) - Int.toNat s16.1)) y20 hy21 W2 Aa p0.fNo.length ca rfl ((RdL.arg hr0_0) W2 hW2) Ab p0.fC.length cb ys0_1 rfl ((RdL.arg hr0_1) W2 hW2) (NestL.at (NestL.arg hN0_1) W2 hW2) (if Int.toNat (w64 (s16.1 + 1)) = Int.toNat s16.1 then ((rdL ys0_1 s7.1).1.1) else Option.map (fun x => x.add (Int.toNat s16.1 * 2)) ((rdL ys0_1 s7.1).1.1)) (Int.toNat (w64 (s16.1 + 1)) - Int.toNat s16.1) (Int.toNat (w64 (s16.1 + 1)) - Int.toNat s16.1) (cut3_len hg19.1 hg19.2.1 hg19.2.2.1 hg19.2.2.2 rfl) ((RdL.cut3 THop_cells_len (NestL.rd (NestL.arg hN0_1) hg10.1 (lt_nat hg10.2 rfl)) hg19.1 hg19.2.1 hg19.2.2.1 hg19.2.2.2) W2 hW2) W (fun _ => True) (fun W3 hb => ⟨belowT hW2.below hb,trivial⟩) (PvL.of_nest hN0_1)) (fun x hx => oN (ex_cap ⟨x,hx,rfl,rfl⟩))) ?_))))))))))))
       refine kdx_y rfl (by kernel_rfl) (fun _ => yMS rfl) ?_
       obtain ⟨y34,hy35,h⟩:=bOs h
       refine kdx_dep (v:=.int .i64 y34) rfl (by kernel_rfl) rfl (by rintro v1 L1 ⟨⟨⟨A22,n24,c23⟩,⟨A26,n28,c27⟩,ys31,F32⟩,⟨hn25,hn29,hP30,hV33⟩,rfl,rfl⟩; replace hn25 : n24 = y20.fNo.length:=hn25; subst hn25; replace hn29 : n28 = y20.fC.length:=hn29; subst hn29; exact y_call [.agg #[.slice A22 y20.fNo.length c23,.slice A26 y20.fC.length c27],.slice Ac p1.length cc] go_90 rfl (fun W2 hW2 => recall_doubt_ok y20 p1 y34 hy35 W2 A22 y20.fNo.length c23 rfl ((RdL.row 4 rfl) W2 hW2) A26 y20.fC.length c27 ys31 rfl ((RdL.row 5 rfl) W2 hW2) (NestL.at (PvL.nestL hP30 hV33 (fun W2 hW2 => ⟨hW2.below,trivial,hW2.mem (i:=6) rfl⟩)) W2 hW2) Ac p1.length cc rfl ((RdL.arg hr1_0) W2 hW2)) rfl) ?_
       refine kdx_nil rfl ?_
       rintro v L1 ⟨⟨⟨A36,n38,c37⟩,⟨A40,n42,c41⟩,ys45,F46⟩,⟨hn39,hn43,hP44,hV47⟩,rfl,rfl⟩
       replace hn39 : n38 = y20.fNo.length:=hn39; subst hn39
       replace hn43 : n42 = y20.fC.length:=hn43; subst hn43
       try dsimp only [lna,lca,lsz,lss]
       refine ox_y rfl (y_max rfl rfl) (ox_y rfl (yFA fo_123_1 rfl) (ox_n rfl (y_store1 3 (v:=.int .i64 (max s16.2 y34)) sz_3 rfl (Nat.lt_of_lt_of_le (Nat.lt_succ_self _) (nB rfl)) rfl rfl rfl) (oN (ex_only (ex_block ?_)))))
       refine eT (cR ?_)
       refine ox_y rfl (y_add rfl rfl) (ox_y rfl (yMI rfl) (oN (ex_take 4 ?_)))
       obtain rfl:=sI h
       exact ex_next ⟨_,rfl,(kp4 (kp4 (kp4 (kp4 (kp (kp (kp rfl)))))))⟩
      ·refine cx_false (vB hp18) (cx_exit (ex_then_exit ?_))
       obtain rfl:=sI h
       exact ex_stop ⟨rfl,_,rfl,(kp4 (kp4 (kp4 (kp4 (kp (kp (kp rfl)))))))⟩
     ·intro e L tm hJ
      obtain ⟨rfl,tm0_u17,rfl,rfl⟩:=hJ
      refine ⟨(by intro hc; cases hc),?_⟩
      refine ex_block_here ?_
      refine eT (cR ?_)
      refine ox_y rfl (yMS rfl) (ox_y rfl (y_loadN 3 [.int .i64 ((rdL p0.fC s7.1).fID),.int .i64 u17.2] ag_123 rfl rfl rfl) ?_)
      refine ox_buildSliceE 1 (encL Tasking_cells [(Tasking.mk ((rdL p0.fC s7.1).fID) u17.2)]) _ mc_123_1 us_121 ze_123 by_123 (by decide) (by decide) (by kernel_rfl) (encL_len Tasking_cells_len rfl) rfl (fun b49 => ?_)
      obtain ⟨hg52,h⟩:=gOs h
      refine ox_append0 1 us_121 ze_123 by_123 rfl rfl rfl (RdL.row 4 rfl) (encL_len Tasking_cells_len rfl) (encL_one Tasking_cells_one _) (app_room hg52 (by decide)) rfl (fun A50 c51 => ?_)
      refine ox_y rfl (yAS rfl) (oN (ex_block ?_))
      refine eT (cR ?_)
      refine ox_y rfl (y_add rfl rfl) (ox_y rfl (yMI rfl) (oN (ex_take 2 ?_)))
      obtain rfl:=sI h
      exact ex_next ⟨_,A50,c51,(s7.2.length + 1),(hn_app rfl rfl),rfl,(kp4 (kp4 (kp4 rfl)))⟩
   ·refine cx_false (vB hp9) (cx_exit (ex_then_exit ?_))
    obtain rfl:=sI h
    exact ex_stop ⟨rfl,_,A1_s7,c1_s7,s7.2.length,rfl,rfl,(kp4 (kp4 (kp4 rfl)))⟩
  ·intro e L tm hJ
   obtain ⟨rfl,tm0_u8,A1_u8,c1_u8,n1_u8,rfl,rfl,rfl⟩:=hJ
   refine ⟨(by intro hc; cases hc),?_⟩
   refine ex_block_here ?_
   refine eT (cS (cR ?_))
   refine ox_y rfl (yMS rfl) ?_
   obtain ⟨y56,hy57,h⟩:=bOs h
   refine ox_y rfl (y_call [.slice A1_u8 u8.2.length c1_u8,.func (.func 93) #[] #[]] go_92 rfl (fun W2 hW2 => recall_least_calx_recall_asking_ok u8.2 (fun x54 x55 => recall_Ask_1 x54 x55) y56 hy57 W2 A1_u8 u8.2.length c1_u8 rfl ((RdL.row 1 rfl) W2 hW2) 93 [] [] go_93 (fun W3 hb x0 x1 y hxy => recall_Ask_1_ok  x0 x1  y hxy W3 )) rfl) (ox_y rfl (y_move_tuple rfl) (ox_y rfl (y_extract (vs:=[.agg #[.int .i64 y56.1.f_id,.int .i64 y56.1.f_left],.bool y56.2]) (v:=.agg #[.int .i64 y56.1.f_id,.int .i64 y56.1.f_left]) rfl rfl) (ox_y rfl (y_extract (vs:=[.agg #[.int .i64 y56.1.f_id,.int .i64 y56.1.f_left],.bool y56.2]) (v:=.bool y56.2) rfl rfl) ?_)))
   refine ox_alloc ze_123 rfl (fun b58 => ?_)
   refine ox_n rfl (y_storeN 2 [.int .i64 y56.1.f_id,.int .i64 y56.1.f_left] sz_123 rfl (nB rfl) rfl rfl rfl) (ox_y rfl (y_assign_bool rfl) ?_)
   refine oN (eT (cS (cS (cR ?_))))
   refine ox_y rfl (y_move_bool rfl) (ox_y rfl (y_not rfl) ?_)
   refine oN (eT ?_)
   rcases iOs h with ⟨hp59,h⟩ | ⟨hp59,h⟩
   ·refine cx_true (vB hp59) ?_
    refine cS (cR ?_)
    refine ox_y rfl (yAI rfl) (ox_y rfl (yAI rfl) (ox_y rfl (yAI rfl) ?_))
    refine oN (eT (cx_ret (ex_then_ret ?_)))
    obtain rfl:=sI h
    exact ex_res3 (.inl rfl) rfl (rVt (v:=.int .i64 0) rfl) (rVt (v:=.int .i64 0) rfl) (rVt (v:=.int .i64 5) rfl) (fun W2 hW2 => ⟨rfl,hW2.none⟩)
   ·refine cx_false (vB hp59) ?_
    refine cx_skip (eT (cS ?_))
    refine cx_draws 7 mixed (by kernel_rfl) (by kernel_rfl) ?_
    refine qx_y rfl (yFA fo_123_0 rfl) (qx_y rfl (y_load1 2 (v:=.int .i64 y56.1.f_id) sc_3 rfl rfl rfl) (qx_y rfl (yFA fo_123_1 rfl) (qx_y rfl (y_load1 2 (v:=.int .i64 y56.1.f_left) sc_3 rfl rfl rfl) (qx_y rfl (yAI rfl) (qx_y rfl (yAI rfl) (qx_y rfl (yAI rfl) (qx_nil ?_)))))))
    refine oN (eT (cx_ret ?_))
    obtain rfl:=sI h
    exact ex_res3 (.inl rfl) rfl (rVt (v:=.int .i64 y56.1.f_id) rfl) (rVt (v:=.int .i64 y56.1.f_left) rfl) (rVt (v:=.int .i64 0) rfl) (fun W2 hW2 => ⟨rfl,hW2.none⟩)
theorem recall_isCut_1_ok (p0:Int) (p1:Int) (cap0:(List (Int × Bool))) (cap1:TL) (res:Bool) (h:recall_isCut_1 p0 p1 cap0 cap1 = some res) (W:World) (bc0:Nat) (bm100_0:Nat) (hm100_0:(mapV Tryz.prog 3 kI rngB kB false bm100_0 cap0).holds W) (hcap0:Rd W (some ⟨bc0,0,none⟩) 1 1 [.map (some bm100_0)]) (bc1:Nat) (A101_0:Option Addr) (n101_0 c101_0 : Nat) (hn101_0:n101_0 = cap1.fNo.length) (hr101_0:Rd W A101_0 n101_0 c101_0 (encL TNode_cells cap1.fNo)) (A101_1:Option Addr) (n101_1 c101_1 : Nat) (ys101_1:List (Hd × TC)) (hn101_1:n101_1 = cap1.fC.length) (hr101_1:Rd W A101_1 n101_1 c101_1 (encL TClaim_cells2 ys101_1)) (hN101_1:NestW W (fun z : TC => z.fO) THop_cells ys101_1 cap1.fC) (hcap1:Rd W (some ⟨bc1,0,none⟩) 1 1 [.slice A101_0 n101_0 c101_0,.slice A101_1 n101_1 c101_1]) :
  Calls Tryz.prog 133 [.int .i64 p0,.int .i64 p1,.pointer (some ⟨bc0,0,none⟩),.pointer (some ⟨bc1,0,none⟩)].toArray W fun e W2 => e = .returned (.bool res) ∧ Ext W W2 []:=by
 subst hn101_0
 subst hn101_1
 unfold recall_isCut_1 at h
 refine calls_enter (m:=16) Tryz.func133 rfl rfl (nB rfl) ?_
 refine cS (cR ?_)
 refine ox_y rfl (y_assign_bool rfl) ?_
 refine oN (eT (cS ?_))
 refine cx_draws 10 mixed (by kernel_rfl) (by kernel_rfl) ?_
 refine qx_y rfl (y_loadR1 (A:=(some ⟨bc0,0,none⟩)) (j:=0) (v:=.map (some bm100_0)) sc_94 (RdL.arg hcap0) rfl rfl) (qx_y rfl (y_fieldAddrR (A:=(some ⟨bc1,0,none⟩)) (j:=0) fo_25_1 rfl) (qx_y rfl (y_loadR1 (A:=(some ⟨bc1,0,none⟩)) (j:=(0 + 1)) (v:=.slice A101_1 cap1.fC.length c101_1) sc_23 (RdL.arg hcap1) rfl rfl) (qx_y rfl (yMI rfl) ?_)))
 obtain ⟨hg1,h⟩:=gOs h
 refine qx_y rfl (y_indexR sl_23 (by decide) hg1.1 hg1.2 (RdL.arg hr101_1) (encL_len TClaim_cells2_len (NestP.hn hN101_1.p rfl)) rfl rfl) ?_
 refine qx_y rfl (y_fieldAddrR (A:=A101_1) (j:=(Int.toNat p0 * 2)) fo_90_0 rfl) (qx_y rfl (y_loadR1 (A:=A101_1) (j:=((Int.toNat p0 * 2) + 0)) (v:=.int .i64 ((rdL cap1.fC p0).fID)) sc_3 (RdL.arg hr101_1) rfl (encL_get TClaim_cells2_len hg1.1 (lt_nat hg1.2 (NestP.hn hN101_1.p rfl)) (congrArg (fun z : TC => some (Value.int .i64 z.fID)) (NestP.snd hN101_1.p p0)))) ?_)
 obtain ⟨hg2,h⟩:=gOs h
 refine qx_y rfl (y_lookupV (k:=(rdL cap1.fC p0).fID) (MpL.arg hm100_0) ke_3 um_94 ze_4 rfl rfl hg2) (qx_y rfl (y_not rfl) (qx_y rfl (y_assign_bool rfl) (qx_nil ?_)))
 refine oN (eT (cx_ret ?_))
 obtain rfl:=sI h
 exact ex_res1 (.inl rfl) rfl (rVt (v:=.bool (!(mgetV false cap0 ((rdL cap1.fC p0).fID)))) rfl) (fun W2 hW2 => ⟨rfl,hW2.none⟩)
theorem recall_isCut_ok (p0:TL) (p1:(List Int)) (p2:Int) (p3:(List (Int × Bool))) (res:Bool) (h:recall_isCut p0 p1 p2 p3 = some res) (W:World) (Aa:Option Addr) (n0_0 ca : Nat) (hn0_0:n0_0 = p0.fNo.length) (hr0_0:Rd W Aa n0_0 ca (encL TNode_cells p0.fNo)) (Ab:Option Addr) (n0_1 cb : Nat) (ys0_1:List (Hd × TC)) (hn0_1:n0_1 = p0.fC.length) (hr0_1:Rd W Ab n0_1 cb (encL TClaim_cells2 ys0_1)) (hN0_1:NestW W (fun z : TC => z.fO) THop_cells ys0_1 p0.fC) (Ac:Option Addr) (n1_0 cc : Nat) (hn1_0:n1_0 = p1.length) (hr1_0:Rd W Ac n1_0 cc (encL cI p1)) (bm3_0:Nat) (hm3_0:(mapV Tryz.prog 3 kI rngB kB false bm3_0 p3).holds W) :
  Calls Tryz.prog 97 [.agg #[.slice Aa n0_0 ca,.slice Ab n0_1 cb],.slice Ac n1_0 cc,.int .i64 p2,.map (some bm3_0)].toArray W fun e W2 => e = .returned (.bool res) ∧ Ext W W2 []:=by
 subst hn0_0
 subst hn0_1
 subst hn1_0
 unfold recall_isCut at h
 refine calls_enter (m:=15) Tryz.func97 rfl rfl (nB rfl) ?_
 refine cS (cR ?_)
 refine ox_box [.slice Aa p0.fNo.length ca,.slice Ab p0.fC.length cb] rfl rfl rfl (fun b1 => ?_)
 refine ox_box [.map (some bm3_0)] rfl rfl rfl (fun b2 => ?_)
 refine ox_y rfl (y_assign_bool rfl) ?_
 refine oN (eT (cS (cR ?_)))
 refine ox_y rfl (y_loadN 0 [.slice Aa p0.fNo.length ca,.slice Ab p0.fC.length cb] ag_25 rfl rfl rfl) (ox_y rfl (yMS rfl) (ox_y rfl (yMI rfl) (ox_y rfl (y_makeFunc [.pointer (some ⟨b2,0,none⟩),.pointer (some ⟨b1,0,none⟩)] rfl rfl) ?_)))
 obtain ⟨y5,hy6,h⟩:=bOs h
 refine ox_y rfl (y_call [.agg #[.slice Aa p0.fNo.length ca,.slice Ab p0.fC.length cb],.slice Ac p1.length cc,.int .i64 p2,.func (.func 133) #[] #[.pointer (some ⟨b2,0,none⟩),.pointer (some ⟨b1,0,none⟩)]] go_75 rfl (fun W2 hW2 => recall_maybe_ok p0 p1 p2 (fun x3 x4 => recall_isCut_1 x3 x4 p3 p0) y5 hy6 W2 Aa p0.fNo.length ca rfl ((RdL.arg hr0_0) W2 hW2) Ab p0.fC.length cb ys0_1 rfl ((RdL.arg hr0_1) W2 hW2) (NestL.at (NestL.arg hN0_1) W2 hW2) Ac p1.length cc rfl ((RdL.arg hr1_0) W2 hW2) 133 [] [.pointer (some ⟨b2,0,none⟩),.pointer (some ⟨b1,0,none⟩)] go_133 (fun W3 hb x0 x1 y hxy => recall_isCut_1_ok  x0 x1 p3 p0 y hxy W3 b2 bm3_0 (mapV.later ((MpL.arg hm3_0) W2 hW2) hb) (((RdL.cells 1 rfl) W2 hW2).later hb) b1 Aa p0.fNo.length ca rfl (((RdL.arg hr0_0) W2 hW2).later hb) Ab p0.fC.length cb ys0_1 rfl (((RdL.arg hr0_1) W2 hW2).later hb) ((NestL.at (NestL.arg hN0_1) W2 hW2).later hb) (((RdL.cells 0 rfl) W2 hW2).later hb))) rfl) (ox_y rfl (y_not rfl) (ox_y rfl (y_assign_bool rfl) ?_))
 refine oN (eT (cx_ret ?_))
 obtain rfl:=sI h
 exact ex_res1 (.inl rfl) rfl (rVt (v:=.bool (!y5)) rfl) (fun W2 hW2 => ⟨rfl,hW2.none⟩)
end Go.Proofs.YtbblpokfbmekfaaGreat
set_option maxHeartbeats 4000000
set_option maxRecDepth 100000
namespace Go.Proofs.YtbblpokfbmekfaaGreat
open Go.RowKit (Below)
attribute [local irreducible] OX QX CX EX OpY Calls CallsIn
theorem recall_Cut_ok (p0:TL) (p1:(List Int)) (p2:Int) (res:((List Int) × Int)) (h:recall_Cut p0 p1 p2 = some res) (W:World) (Aa:Option Addr) (n0_0 ca : Nat) (hn0_0:n0_0 = p0.fNo.length) (hr0_0:Rd W Aa n0_0 ca (encL TNode_cells p0.fNo)) (Ab:Option Addr) (n0_1 cb : Nat) (ys0_1:List (Hd × TC)) (hn0_1:n0_1 = p0.fC.length) (hr0_1:Rd W Ab n0_1 cb (encL TClaim_cells2 ys0_1)) (hN0_1:NestW W (fun z : TC => z.fO) THop_cells ys0_1 p0.fC) (Ac:Option Addr) (n1_0 cc : Nat) (hn1_0:n1_0 = p1.length) (hr1_0:Rd W Ac n1_0 cc (encL cI p1)) :
  Calls Tryz.prog 28 [.agg #[.slice Aa n0_0 ca,.slice Ab n0_1 cb],.slice Ac n1_0 cc,.int .i64 p2].toArray W fun e W2 => ∃ x : Option Addr × Nat × Nat,x.2.1 = res.1.length ∧ e = .returned (.tuple #[.slice x.1 x.2.1 x.2.2,.int .i64 res.2]) ∧ Ext W W2 [rowR x.1 x.2.2 3 1 x.2.1 (encL cI res.1)]:=by
 subst hn0_0
 subst hn0_1
 subst hn1_0
 unfold recall_Cut at h
 refine calls_enter (m:=56) Tryz.func28 rfl rfl (nB rfl) ?_
 refine cS (cR ?_)
 refine ox_box [.slice Aa p0.fNo.length ca,.slice Ab p0.fC.length cb] rfl rfl rfl (fun b1 => ?_)
 refine ox_y rfl (yAS rfl) (ox_y rfl (yAI rfl) ?_)
 refine oN (eT (cS (cS (cR ?_))))
 refine ox_y rfl (y_loadN 0 [.slice Aa p0.fNo.length ca,.slice Ab p0.fC.length cb] ag_25 rfl rfl rfl) (ox_y rfl (yMS rfl) (ox_y rfl (yMI rfl) ?_))
 obtain ⟨y2,hy3,h⟩:=bOs h
 refine ox_y rfl (y_call [.agg #[.slice Aa p0.fNo.length ca,.slice Ab p0.fC.length cb],.slice Ac p1.length cc,.int .i64 p2] go_74 rfl (fun W2 hW2 => recall_askedTo_ok p0 p1 p2 y2 hy3 W2 Aa p0.fNo.length ca rfl ((RdL.arg hr0_0) W2 hW2) Ab p0.fC.length cb ys0_1 rfl ((RdL.arg hr0_1) W2 hW2) (NestL.at (NestL.arg hN0_1) W2 hW2) Ac p1.length cc rfl ((RdL.arg hr1_0) W2 hW2)) rfl) (ox_y rfl (yAI rfl) ?_)
 refine oN (eT (cS (cR ?_)))
 refine ox_y rfl (yMI rfl) (ox_y rfl (y_neq rfl rfl) ?_)
 refine oN (eT ?_)
 rcases iOs h with ⟨hp4,h⟩ | ⟨hp4,h⟩
 ·refine cx_true (vB hp4) ?_
  refine cS (cR ?_)
  refine ox_y rfl (yMI rfl) (ox_y rfl (yAS rfl) (ox_y rfl (yAI rfl) ?_))
  refine oN (eT (cx_ret (ex_then_ret ?_)))
  obtain rfl:=sI h
  exact ex_res2 (.inl rfl) rfl (rVt (v:=.slice none 0 0) rfl) (rVt (v:=.int .i64 y2) rfl) (fun W2 hW2 => ⟨(none,0,0),rfl,rfl,((hW2.nilrow 3 1).pick 1 rfl)⟩)
 ·refine cx_false (vB hp4) ?_
  refine cx_skip (eT (cS (cS (cR ?_))))
  refine ox_y rfl (yMS rfl) (ox_y rfl (yMI rfl) ?_)
  obtain ⟨y5,hy6,h⟩:=bOs h
  refine ox_y rfl (y_call [.slice Ac p1.length cc,.int .i64 p2] go_80 rfl (fun W2 hW2 => slices_Contains_int_int_ok p1 p2 y5 hy6 W2 Ac p1.length cc rfl ((RdL.arg hr1_0) W2 hW2)) rfl) ?_
  refine oN (eT ?_)
  rcases iOs h with ⟨hp7,h⟩ | ⟨hp7,h⟩
  ·refine cx_true (vB hp7) ?_
   refine cS (cR ?_)
   refine ox_y rfl (yAS rfl) (ox_y rfl (yAI rfl) ?_)
   refine oN (eT (cx_ret (ex_then_ret ?_)))
   obtain rfl:=sI h
   exact ex_res2 (.inl rfl) rfl (rVt (v:=.slice none 0 0) rfl) (rVt (v:=.int .i64 5) rfl) (fun W2 hW2 => ⟨(none,0,0),rfl,rfl,((hW2.nilrow 3 1).pick 1 rfl)⟩)
  ·refine cx_false (vB hp7) ?_
   refine cx_skip (eT (cS (cR ?_)))
   refine ox_makeMapV 3 kI rngB kB false rfl (fun b8 => ?_)
   refine ox_y rfl (y_assign_map rfl) ?_
   refine oN (eT (cS (cS (cR ?_))))
   refine ox_y rfl (yFA fo_25_1 rfl) (ox_y rfl (y_load1 0 (v:=.slice Ab p0.fC.length cb) sc_23 rfl rfl rfl) (ox_y rfl (y_len (us:=[]) us_23 rfl) (ox_y rfl (yMI rfl) ?_)))
   refine oN (eT (cx_block ?_))
   obtain ⟨u12,hl17,h⟩:=bOs h
   refine cx_loop (fun (s:(Int × (List (Int × Bool)))) L tm => ∃ (tm0:Nat → Value),L = [cellsR b1 25 [.slice Aa p0.fNo.length ca,.slice Ab p0.fC.length cb],mapV Tryz.prog 3 kI rngB kB false b8 s.2] ∧ tm = (upd (upd (upd (upd (upd (upd (upd (upd (upd (upd (upd (upd (upd tm0 0 (.agg #[.slice Aa p0.fNo.length ca,.slice Ab p0.fC.length cb])) 1 (.slice Ac p1.length cc)) 2 (.int .i64 p2)) 3 (.pointer (some ⟨b1,0,none⟩))) 6 (.slice none 0 0)) 7 (.int .i64 0)) 8 (.int .i64 y2)) 19 (.bool (y2 != 0))) 23 (.bool y5)) 9 (.map (some b8))) 26 (.slice Ab p0.fC.length cb)) 27 (.int .i64 (p0.fC.length:Int))) 28 (.int .i64 s.1))) (fun s e L tm => e = .exit 0 ∧ ∃ (tm0:Nat → Value),L = [cellsR b1 25 [.slice Aa p0.fNo.length ca,.slice Ab p0.fC.length cb],mapV Tryz.prog 3 kI rngB kB false b8 s.2] ∧ tm = (upd (upd (upd (upd (upd (upd (upd (upd (upd (upd (upd (upd (upd tm0 0 (.agg #[.slice Aa p0.fNo.length ca,.slice Ab p0.fC.length cb])) 1 (.slice Ac p1.length cc)) 2 (.int .i64 p2)) 3 (.pointer (some ⟨b1,0,none⟩))) 6 (.slice none 0 0)) 7 (.int .i64 0)) 8 (.int .i64 y2)) 19 (.bool (y2 != 0))) 23 (.bool y5)) 9 (.map (some b8))) 26 (.slice Ab p0.fC.length cb)) 27 (.int .i64 (p0.fC.length:Int))) 28 (.int .i64 s.1))) hl17 ⟨_,rfl,(kp4 (kp4 (kp4 (kp rfl))))⟩ ?_ ?_
   ·rintro s11 L tm st ⟨tm0_s11,rfl,rfl⟩ h
    unfold recall_Cut_l1 at h
    refine cS (cR ?_)
    refine ox_y rfl (y_lss rfl rfl) ?_
    refine oN (eT (cS ?_))
    rcases iOs h with ⟨hp13,h⟩ | ⟨hp13,h⟩
    ·refine cx_true (vB hp13) ?_
     refine cx_skip (eT (cS (cx_block (cS (cR ?_)))))
     obtain ⟨hg14,h⟩:=gOs h
     refine ox_y rfl (y_indexR sl_23 (by decide) hg14.1 hg14.2 (RdL.arg hr0_1) (encL_len TClaim_cells2_len (NestP.hn hN0_1.p rfl)) rfl rfl) ?_
     refine ox_y rfl (y_loadRN (A:=Ab) (j:=(Int.toNat s11.1 * 2)) [.int .i64 ((rdL p0.fC s11.1).fID),.slice ((rdL ys0_1 s11.1).1.1) ((rdL p0.fC s11.1).fO.length) ((rdL ys0_1 s11.1).1.2.2)] ag_90 (Nat.succ_pos _) (RdL.arg hr0_1) rfl (gets_eq (TClaim_cells2_eq (NestP.snd hN0_1.p s11.1) (NestP.len hN0_1.p hg14.1 (lt_nat hg14.2 rfl))).symm (encL_gets TClaim_cells2_len hg14.1 (lt_nat hg14.2 (NestP.hn hN0_1.p rfl))))) ?_
     refine ox_alloc ze_90 rfl (fun b15 => ?_)
     refine ox_n rfl (y_storeN 2 [.int .i64 ((rdL p0.fC s11.1).fID),.slice ((rdL ys0_1 s11.1).1.1) ((rdL p0.fC s11.1).fO.length) ((rdL ys0_1 s11.1).1.2.2)] sz_90 rfl (nB rfl) rfl rfl rfl) ?_
     refine oN (eT (cR ?_))
     refine ox_y rfl (y_move_map rfl) (ox_y rfl (yFA fo_90_0 rfl) (ox_y rfl (y_load1 2 (v:=.int .i64 ((rdL p0.fC s11.1).fID)) sc_3 rfl rfl rfl) ?_))
     obtain ⟨hg16,h⟩:=gOs h
     refine ox_n rfl (y_updateV 1 (k:=(rdL p0.fC s11.1).fID) (v:=true) rfl ke_3 um_94 rfl rfl rfl hg16) (oN (ex_block ?_))
     refine eT (cR ?_)
     refine ox_y rfl (y_add rfl rfl) (ox_y rfl (yMI rfl) (oN (ex_take 2 ?_)))
     obtain rfl:=sI h
     exact ex_next ⟨_,rfl,(kp4 (kp4 (kp4 (kp rfl))))⟩
    ·refine cx_false (vB hp13) (cx_exit (ex_then_exit ?_))
     obtain rfl:=sI h
     exact ex_stop ⟨rfl,_,rfl,(kp4 (kp4 (kp4 (kp rfl))))⟩
   ·intro e L tm hJ
    obtain ⟨rfl,tm0_u12,rfl,rfl⟩:=hJ
    refine ⟨(by intro hc; cases hc),?_⟩
    refine ex_block_here ?_
    refine eT (cS (cS (cR ?_)))
    refine ox_y rfl (y_move_map rfl) ?_
    obtain ⟨y18,hy19,h⟩:=bOs h
    refine ox_call [.map (some b8)] _ _ _ rfl go_96 rfl (fun W2 hW2 => recall_listed_ok u12.2 y18 hy19 W2 b8 ((MpL.own 1 rfl) W2 hW2)) ?_
    rintro ⟨A20,n22,c21⟩ hn23
    replace hn23 : n22 = y18.length:=hn23; subst hn23
    refine ox_y rfl (y_len (us:=[]) us_26 rfl) (ox_y rfl (yMI rfl) ?_)
    refine oN (eT (cx_block ?_))
    obtain ⟨u27,hl35,h⟩:=bOs h
    refine cx_loop (fun (s:(Int × (List (Int × Bool)))) L tm => ∃ (tm0:Nat → Value),L = [cellsR b1 25 [.slice Aa p0.fNo.length ca,.slice Ab p0.fC.length cb],mapV Tryz.prog 3 kI rngB kB false b8 s.2,rowR A20 c21 3 1 y18.length (encL cI y18)] ∧ tm = (upd (upd (upd (upd (upd (upd (upd (upd (upd (upd (upd (upd (upd (upd (upd (upd tm0 0 (.agg #[.slice Aa p0.fNo.length ca,.slice Ab p0.fC.length cb])) 1 (.slice Ac p1.length cc)) 2 (.int .i64 p2)) 3 (.pointer (some ⟨b1,0,none⟩))) 6 (.slice none 0 0)) 7 (.int .i64 0)) 8 (.int .i64 y2)) 19 (.bool (y2 != 0))) 23 (.bool y5)) 9 (.map (some b8))) 26 (.slice Ab p0.fC.length cb)) 27 (.int .i64 (p0.fC.length:Int))) 28 (.int .i64 u12.1)) 37 (.slice A20 y18.length c21)) 38 (.int .i64 (y18.length:Int))) 39 (.int .i64 s.1))) (fun s e L tm => e = .exit 2 ∧ ∃ (tm0:Nat → Value),L = [cellsR b1 25 [.slice Aa p0.fNo.length ca,.slice Ab p0.fC.length cb],mapV Tryz.prog 3 kI rngB kB false b8 s.2,rowR A20 c21 3 1 y18.length (encL cI y18)] ∧ tm = (upd (upd (upd (upd (upd (upd (upd (upd (upd (upd (upd (upd (upd (upd (upd (upd tm0 0 (.agg #[.slice Aa p0.fNo.length ca,.slice Ab p0.fC.length cb])) 1 (.slice Ac p1.length cc)) 2 (.int .i64 p2)) 3 (.pointer (some ⟨b1,0,none⟩))) 6 (.slice none 0 0)) 7 (.int .i64 0)) 8 (.int .i64 y2)) 19 (.bool (y2 != 0))) 23 (.bool y5)) 9 (.map (some b8))) 26 (.slice Ab p0.fC.length cb)) 27 (.int .i64 (p0.fC.length:Int))) 28 (.int .i64 u12.1)) 37 (.slice A20 y18.length c21)) 38 (.int .i64 (y18.length:Int))) 39 (.int .i64 s.1))) hl35 ⟨_,rfl,(kp4 (kp4 (kp4 (kp4 rfl))))⟩ ?_ ?_
    ·rintro s26 L tm st ⟨tm0_s26,rfl,rfl⟩ h
     unfold recall_Cut_l2 at h
     refine cS (cR ?_)
     refine ox_y rfl (y_lss rfl rfl) ?_
     refine oN (eT (cS ?_))
     rcases iOs h with ⟨hp28,h⟩ | ⟨hp28,h⟩
     ·refine cx_true (vB hp28) ?_
      refine cx_skip (eT (cS (cx_block (cS (cR ?_)))))
      obtain ⟨hg29,h⟩:=gOs h
      refine ox_y rfl (y_indexR sl_26 (by decide) hg29.1 hg29.2 (RdL.row 2 rfl) (encL_len cI_len rfl) rfl rfl) ?_
      refine ox_y rfl (y_loadR1 (A:=A20) (j:=(Int.toNat s26.1 * 1)) (v:=.int .i64 (rdL y18 s26.1)) sc_3 (RdL.row 2 rfl) rfl (encL_get0 cI_len hg29.1 (lt_nat hg29.2 rfl) rfl)) (ox_y rfl (yAI rfl) ?_)
      refine oN (eT (cS (cR ?_)))
      refine ox_y rfl (y_move_map rfl) (ox_y rfl (yMI rfl) ?_)
      obtain ⟨hg30,h⟩:=gOs h
      refine ox_n rfl (y_updateV 1 (k:=(rdL y18 s26.1)) (v:=false) rfl ke_3 um_94 rfl rfl rfl hg30) ?_
      refine oN (eT (cS (cR ?_)))
      refine ox_y rfl (y_loadN 0 [.slice Aa p0.fNo.length ca,.slice Ab p0.fC.length cb] ag_25 rfl rfl rfl) (ox_y rfl (yMS rfl) (ox_y rfl (yMI rfl) (ox_y rfl (y_move_map rfl) ?_)))
      obtain ⟨y31,hy32,h⟩:=bOs h
      refine ox_y rfl (y_call [.agg #[.slice Aa p0.fNo.length ca,.slice Ab p0.fC.length cb],.slice Ac p1.length cc,.int .i64 p2,.map (some b8)] go_97 rfl (fun W2 hW2 => recall_isCut_ok p0 p1 p2 (((rdL y18 s26.1),false) :: s26.2) y31 hy32 W2 Aa p0.fNo.length ca rfl ((RdL.arg hr0_0) W2 hW2) Ab p0.fC.length cb ys0_1 rfl ((RdL.arg hr0_1) W2 hW2) (NestL.at (NestL.arg hN0_1) W2 hW2) Ac p1.length cc rfl ((RdL.arg hr1_0) W2 hW2) b8 ((MpL.own 1 rfl) W2 hW2)) rfl) (ox_y rfl (y_not rfl) ?_)
      refine oN (eT ?_)
      rcases iOs h with ⟨hp33,h⟩ | ⟨hp33,h⟩
      ·refine cx_true (vB hp33) (cR (ox_y rfl (y_move_map rfl) (ox_y rfl (yMI rfl) ?_)))
       obtain ⟨hg34,h⟩:=gOs h
       refine ox_n rfl (y_updateV 1 (k:=(rdL y18 s26.1)) (v:=true) rfl ke_3 um_94 rfl rfl rfl hg34) (oN (ex_block ?_))
       refine eT (cR ?_)
       refine ox_y rfl (y_add rfl rfl) (ox_y rfl (yMI rfl) (oN ?_))
       obtain rfl:=sI h
       exact ex_next ⟨_,rfl,(kp4 (kp4 (kp4 (kp4 rfl))))⟩
      ·refine cx_false (vB hp33) (cx_skip (ex_block ?_))
       refine eT (cR ?_)
       refine ox_y rfl (y_add rfl rfl) (ox_y rfl (yMI rfl) (oN ?_))
       obtain rfl:=sI h
       exact ex_next ⟨_,rfl,(kp4 (kp4 (kp4 (kp4 rfl))))⟩
     ·refine cx_false (vB hp28) (cx_exit (ex_then_exit ?_))
      obtain rfl:=sI h
      exact ex_stop ⟨rfl,_,rfl,(kp4 (kp4 (kp4 (kp4 rfl))))⟩
    ·intro e L tm hJ
     obtain ⟨rfl,tm0_u27,rfl,rfl⟩:=hJ
     refine ⟨(by intro hc; cases hc),?_⟩
     refine ex_block_here ?_
     refine eT (cS (cR ?_))
     refine ox_y rfl (y_move_map rfl) ?_
     obtain ⟨y36,hy37,h⟩:=bOs h
     refine ox_call [.map (some b8)] _ _ _ rfl go_96 rfl (fun W2 hW2 => recall_listed_ok u27.2 y36 hy37 W2 b8 ((MpL.own 1 rfl) W2 hW2)) ?_
     rintro ⟨A38,n40,c39⟩ hn41
     replace hn41 : n40 = y36.length:=hn41; subst hn41
     refine ox_y rfl (yAS rfl) (ox_y rfl (yAI rfl) ?_)
     refine oN (eT (cx_ret ?_))
     obtain rfl:=sI h
     exact ex_res2 (.inl rfl) rfl (rVt (v:=.slice A38 y36.length c39) rfl) (rVt (v:=.int .i64 0) rfl) (fun W2 hW2 => ⟨(A38,y36.length,c39),rfl,rfl,(hW2.pick 3 rfl)⟩)
theorem recall_Surely_ok (p0:TL) (p1:(List Int)) (res:((List Int) × Int)) (h:recall_Surely p0 p1 = some res) (W:World) (Aa:Option Addr) (n0_0 ca : Nat) (hn0_0:n0_0 = p0.fNo.length) (hr0_0:Rd W Aa n0_0 ca (encL TNode_cells p0.fNo)) (Ab:Option Addr) (n0_1 cb : Nat) (ys0_1:List (Hd × TC)) (hn0_1:n0_1 = p0.fC.length) (hr0_1:Rd W Ab n0_1 cb (encL TClaim_cells2 ys0_1)) (hN0_1:NestW W (fun z : TC => z.fO) THop_cells ys0_1 p0.fC) (Ac:Option Addr) (n1_0 cc : Nat) (hn1_0:n1_0 = p1.length) (hr1_0:Rd W Ac n1_0 cc (encL cI p1)) :
  Calls Tryz.prog 34 [.agg #[.slice Aa n0_0 ca,.slice Ab n0_1 cb],.slice Ac n1_0 cc].toArray W fun e W2 => ∃ x : Option Addr × Nat × Nat,x.2.1 = res.1.length ∧ e = .returned (.tuple #[.slice x.1 x.2.1 x.2.2,.int .i64 res.2]) ∧ Ext W W2 [rowR x.1 x.2.2 3 1 x.2.1 (encL cI res.1)]:=by
 subst hn0_0
 subst hn0_1
 subst hn1_0
 unfold recall_Surely at h
 refine calls_enter (m:=17) Tryz.func34 rfl rfl (nB rfl) ?_
 refine cS (cR ?_)
 refine ox_box [.slice Aa p0.fNo.length ca,.slice Ab p0.fC.length cb] rfl rfl rfl (fun b1 => ?_)
 refine ox_y rfl (yAS rfl) (ox_y rfl (yAI rfl) ?_)
 refine oN (eT (cS (cS (cR ?_))))
 refine ox_y rfl (y_loadN 0 [.slice Aa p0.fNo.length ca,.slice Ab p0.fC.length cb] ag_25 rfl rfl rfl) (ox_y rfl (yMS rfl) ?_)
 obtain ⟨y2,hy3,h⟩:=bOs h
 refine ox_y rfl (y_call [.agg #[.slice Aa p0.fNo.length ca,.slice Ab p0.fC.length cb],.slice Ac p1.length cc] go_70 rfl (fun W2 hW2 => recall_asked_ok p0 p1 y2 hy3 W2 Aa p0.fNo.length ca rfl ((RdL.arg hr0_0) W2 hW2) Ab p0.fC.length cb ys0_1 rfl ((RdL.arg hr0_1) W2 hW2) (NestL.at (NestL.arg hN0_1) W2 hW2) Ac p1.length cc rfl ((RdL.arg hr1_0) W2 hW2)) rfl) (ox_y rfl (yAI rfl) ?_)
 refine oN (eT (cS (cR ?_)))
 refine ox_y rfl (yMI rfl) (ox_y rfl (y_neq rfl rfl) ?_)
 refine oN (eT ?_)
 rcases iOs h with ⟨hp4,h⟩ | ⟨hp4,h⟩
 ·refine cx_true (vB hp4) ?_
  refine cS (cR ?_)
  refine ox_y rfl (yMI rfl) (ox_y rfl (yAS rfl) (ox_y rfl (yAI rfl) ?_))
  refine oN (eT (cx_ret (ex_then_ret ?_)))
  obtain rfl:=sI h
  exact ex_res2 (.inl rfl) rfl (rVt (v:=.slice none 0 0) rfl) (rVt (v:=.int .i64 y2) rfl) (fun W2 hW2 => ⟨(none,0,0),rfl,rfl,((hW2.nilrow 3 1).pick 1 rfl)⟩)
 ·refine cx_false (vB hp4) ?_
  refine cx_skip (eT (cS (cR ?_)))
  refine ox_y rfl (y_loadN 0 [.slice Aa p0.fNo.length ca,.slice Ab p0.fC.length cb] ag_25 rfl rfl rfl) (ox_y rfl (yMS rfl) ?_)
  obtain ⟨y5,hy6,h⟩:=bOs h
  refine ox_call1 [.agg #[.slice Aa p0.fNo.length ca,.slice Ab p0.fC.length cb],.slice Ac p1.length cc] _ _ rfl go_64 rfl (fun W2 hW2 => recall_sure_ok p0 p1 y5 hy6 W2 Aa p0.fNo.length ca rfl ((RdL.arg hr0_0) W2 hW2) Ab p0.fC.length cb ys0_1 rfl ((RdL.arg hr0_1) W2 hW2) (NestL.at (NestL.arg hN0_1) W2 hW2) Ac p1.length cc rfl ((RdL.arg hr1_0) W2 hW2)) ?_
  rintro b7
  obtain ⟨y8,hy9,h⟩:=bOs h
  refine ox_call [.map (some b7)] _ _ _ rfl go_96 rfl (fun W2 hW2 => recall_listed_ok y5 y8 hy9 W2 b7 ((MpL.own 1 rfl) W2 hW2)) ?_
  rintro ⟨A10,n12,c11⟩ hn13
  replace hn13 : n12 = y8.length:=hn13; subst hn13
  refine ox_y rfl (yAS rfl) (ox_y rfl (yAI rfl) ?_)
  refine oN (eT (cx_ret ?_))
  obtain rfl:=sI h
  exact ex_res2 (.inl rfl) rfl (rVt (v:=.slice A10 y8.length c11) rfl) (rVt (v:=.int .i64 0) rfl) (fun W2 hW2 => ⟨(A10,y8.length,c11),rfl,rfl,(hW2.pick 2 rfl)⟩)
theorem recall_Possibly_ok (p0:TL) (p1:(List Int)) (res:((List Int) × Int)) (h:recall_Possibly p0 p1 = some res) (W:World) (Aa:Option Addr) (n0_0 ca : Nat) (hn0_0:n0_0 = p0.fNo.length) (hr0_0:Rd W Aa n0_0 ca (encL TNode_cells p0.fNo)) (Ab:Option Addr) (n0_1 cb : Nat) (ys0_1:List (Hd × TC)) (hn0_1:n0_1 = p0.fC.length) (hr0_1:Rd W Ab n0_1 cb (encL TClaim_cells2 ys0_1)) (hN0_1:NestW W (fun z : TC => z.fO) THop_cells ys0_1 p0.fC) (Ac:Option Addr) (n1_0 cc : Nat) (hn1_0:n1_0 = p1.length) (hr1_0:Rd W Ac n1_0 cc (encL cI p1)) :
  Calls Tryz.prog 36 [.agg #[.slice Aa n0_0 ca,.slice Ab n0_1 cb],.slice Ac n1_0 cc].toArray W fun e W2 => ∃ x : Option Addr × Nat × Nat,x.2.1 = res.1.length ∧ e = .returned (.tuple #[.slice x.1 x.2.1 x.2.2,.int .i64 res.2]) ∧ Ext W W2 [rowR x.1 x.2.2 3 1 x.2.1 (encL cI res.1)]:=by
 subst hn0_0
 subst hn0_1
 subst hn1_0
 unfold recall_Possibly at h
 refine calls_enter (m:=17) Tryz.func36 rfl rfl (nB rfl) ?_
 refine cS (cR ?_)
 refine ox_box [.slice Aa p0.fNo.length ca,.slice Ab p0.fC.length cb] rfl rfl rfl (fun b1 => ?_)
 refine ox_y rfl (yAS rfl) (ox_y rfl (yAI rfl) ?_)
 refine oN (eT (cS (cS (cR ?_))))
 refine ox_y rfl (y_loadN 0 [.slice Aa p0.fNo.length ca,.slice Ab p0.fC.length cb] ag_25 rfl rfl rfl) (ox_y rfl (yMS rfl) ?_)
 obtain ⟨y2,hy3,h⟩:=bOs h
 refine ox_y rfl (y_call [.agg #[.slice Aa p0.fNo.length ca,.slice Ab p0.fC.length cb],.slice Ac p1.length cc] go_70 rfl (fun W2 hW2 => recall_asked_ok p0 p1 y2 hy3 W2 Aa p0.fNo.length ca rfl ((RdL.arg hr0_0) W2 hW2) Ab p0.fC.length cb ys0_1 rfl ((RdL.arg hr0_1) W2 hW2) (NestL.at (NestL.arg hN0_1) W2 hW2) Ac p1.length cc rfl ((RdL.arg hr1_0) W2 hW2)) rfl) (ox_y rfl (yAI rfl) ?_)
 refine oN (eT (cS (cR ?_)))
 refine ox_y rfl (yMI rfl) (ox_y rfl (y_neq rfl rfl) ?_)
 refine oN (eT ?_)
 rcases iOs h with ⟨hp4,h⟩ | ⟨hp4,h⟩
 ·refine cx_true (vB hp4) ?_
  refine cS (cR ?_)
  refine ox_y rfl (yMI rfl) (ox_y rfl (yAS rfl) (ox_y rfl (yAI rfl) ?_))
  refine oN (eT (cx_ret (ex_then_ret ?_)))
  obtain rfl:=sI h
  exact ex_res2 (.inl rfl) rfl (rVt (v:=.slice none 0 0) rfl) (rVt (v:=.int .i64 y2) rfl) (fun W2 hW2 => ⟨(none,0,0),rfl,rfl,((hW2.nilrow 3 1).pick 1 rfl)⟩)
 ·refine cx_false (vB hp4) ?_
  refine cx_skip (eT (cS (cR ?_)))
  refine ox_y rfl (y_loadN 0 [.slice Aa p0.fNo.length ca,.slice Ab p0.fC.length cb] ag_25 rfl rfl rfl) (ox_y rfl (yMS rfl) ?_)
  obtain ⟨y5,hy6,h⟩:=bOs h
  refine ox_call1 [.agg #[.slice Aa p0.fNo.length ca,.slice Ab p0.fC.length cb],.slice Ac p1.length cc] _ _ rfl go_65 rfl (fun W2 hW2 => recall_possible_ok p0 p1 y5 hy6 W2 Aa p0.fNo.length ca rfl ((RdL.arg hr0_0) W2 hW2) Ab p0.fC.length cb ys0_1 rfl ((RdL.arg hr0_1) W2 hW2) (NestL.at (NestL.arg hN0_1) W2 hW2) Ac p1.length cc rfl ((RdL.arg hr1_0) W2 hW2)) ?_
  rintro b7
  obtain ⟨y8,hy9,h⟩:=bOs h
  refine ox_call [.map (some b7)] _ _ _ rfl go_96 rfl (fun W2 hW2 => recall_listed_ok y5 y8 hy9 W2 b7 ((MpL.own 1 rfl) W2 hW2)) ?_
  rintro ⟨A10,n12,c11⟩ hn13
  replace hn13 : n12 = y8.length:=hn13; subst hn13
  refine ox_y rfl (yAS rfl) (ox_y rfl (yAI rfl) ?_)
  refine oN (eT (cx_ret ?_))
  obtain rfl:=sI h
  exact ex_res2 (.inl rfl) rfl (rVt (v:=.slice A10 y8.length c11) rfl) (rVt (v:=.int .i64 0) rfl) (fun W2 hW2 => ⟨(A10,y8.length,c11),rfl,rfl,(hW2.pick 2 rfl)⟩)
theorem calxlaw09_Example_ok  (res:TL) (h:calxlaw09_Example = some res) (W:World) (wb:World) (Hb:World → Prop) (hB:∀ W3,Below W.heap.size W W3 → Below wb.heap.size wb W3 ∧ Hb W3) :
  Calls Tryz.prog 59 [].toArray W fun e W2 => ∃ x : ((Option Addr × Nat × Nat) × (Option Addr × Nat × Nat) × (List (Hd × TC)) × Res),(x.1.2.1 = res.fNo.length ∧ x.2.1.2.1 = res.fC.length ∧ NestP (fun z : TC => z.fO) x.2.2.1 res.fC ∧ PvL (fun z : TC => z.fO) THop_cells wb (fun W4 => Hb W4 ∧ Res.holds x.2.2.2 W4) x.2.2.1) ∧ e = .returned (.agg #[.slice x.1.1 x.1.2.1 x.1.2.2,.slice x.2.1.1 x.2.1.2.1 x.2.1.2.2]) ∧ Ext W W2 [rowR x.1.1 x.1.2.2 97 3 x.1.2.1 (encL TNode_cells res.fNo),rowR x.2.1.1 x.2.1.2.2 90 2 x.2.1.2.1 (encL TClaim_cells2 x.2.2.1),x.2.2.2]:=by
 unfold calxlaw09_Example at h
 refine calls_enter (m:=24) Tryz.func59 rfl rfl (nB rfl) ?_
 refine cS (cR ?_)
 refine ox_alloc ze_25 rfl (fun b1 => ?_)
 refine oN (eT (cS (cR ?_)))
 refine ox_y rfl (y_buildS [.int .i64 1,.int .i64 0,.int .i64 0] [(0,1),(1,1),(2,1)] ust_97 ze_97 (by kernel_rfl)) ?_
 refine ox_y rfl (y_buildS [.int .i64 2,.int .i64 0,.int .i64 0] [(0,1),(1,1),(2,1)] ust_97 ze_97 (by kernel_rfl)) ?_
 refine ox_y rfl (y_buildS [.int .i64 3,.int .i64 3,.int .i64 0] [(0,1),(1,1),(2,1)] ust_97 ze_97 (by kernel_rfl)) ?_
 refine ox_y rfl (y_buildS [.int .i64 4,.int .i64 3,.int .i64 0] [(0,1),(1,1),(2,1)] ust_97 ze_97 (by kernel_rfl)) ?_
 refine ox_y rfl (y_buildS [.int .i64 5,.int .i64 9,.int .i64 10] [(0,1),(1,1),(2,1)] ust_97 ze_97 (by kernel_rfl)) ?_
 refine ox_y rfl (y_buildS [.int .i64 6,.int .i64 9,.int .i64 7] [(0,1),(1,1),(2,1)] ust_97 ze_97 (by kernel_rfl)) ?_
 refine ox_buildSliceE 6 (encL TNode_cells [(TN.mk 1 0 0),(TN.mk 2 0 0),(TN.mk 3 3 0),(TN.mk 4 3 0),(TN.mk 5 9 10),(TN.mk 6 9 7)]) _ mc_97_6 us_22 ze_97 by_97 (by decide) (by decide) (by kernel_rfl) (encL_len TNode_cells_len rfl) rfl (fun b2 => ?_)
 refine ox_y rfl (y_buildS [.int .i64 1,.int .i64 3] [(0,1),(1,1)] ust_111 ze_111 (by kernel_rfl)) ?_
 refine ox_buildSliceE 1 (encL THop_cells [(TH.mk 1 3)]) _ mc_111_1 us_88 ze_111 by_111 (by decide) (by decide) (by kernel_rfl) (encL_len THop_cells_len rfl) rfl (fun b3 => ?_)
 refine ox_y rfl (y_buildS [.int .i64 11,.slice (some ⟨b3,0,none⟩) 1 1] [(0,1),(1,1)] ust_90 ze_90 (by kernel_rfl)) ?_
 refine ox_y rfl (y_buildS [.int .i64 1,.int .i64 4] [(0,1),(1,1)] ust_111 ze_111 (by kernel_rfl)) ?_
 refine ox_y rfl (y_buildS [.int .i64 2,.int .i64 4] [(0,1),(1,1)] ust_111 ze_111 (by kernel_rfl)) ?_
 refine ox_buildSliceE 2 (encL THop_cells [(TH.mk 1 4),(TH.mk 2 4)]) _ mc_111_2 us_88 ze_111 by_111 (by decide) (by decide) (by kernel_rfl) (encL_len THop_cells_len rfl) rfl (fun b4 => ?_)
 refine ox_y rfl (y_buildS [.int .i64 12,.slice (some ⟨b4,0,none⟩) 2 2] [(0,1),(1,1)] ust_90 ze_90 (by kernel_rfl)) ?_
 refine ox_y rfl (y_buildS [.int .i64 3,.int .i64 5] [(0,1),(1,1)] ust_111 ze_111 (by kernel_rfl)) ?_
 refine ox_buildSliceE 1 (encL THop_cells [(TH.mk 3 5)]) _ mc_111_1 us_88 ze_111 by_111 (by decide) (by decide) (by kernel_rfl) (encL_len THop_cells_len rfl) rfl (fun b5 => ?_)
 refine ox_y rfl (y_buildS [.int .i64 13,.slice (some ⟨b5,0,none⟩) 1 1] [(0,1),(1,1)] ust_90 ze_90 (by kernel_rfl)) ?_
 refine ox_y rfl (y_buildS [.int .i64 4,.int .i64 5] [(0,1),(1,1)] ust_111 ze_111 (by kernel_rfl)) ?_
 refine ox_y rfl (y_buildS [.int .i64 4,.int .i64 6] [(0,1),(1,1)] ust_111 ze_111 (by kernel_rfl)) ?_
 refine ox_buildSliceE 2 (encL THop_cells [(TH.mk 4 5),(TH.mk 4 6)]) _ mc_111_2 us_88 ze_111 by_111 (by decide) (by decide) (by kernel_rfl) (encL_len THop_cells_len rfl) rfl (fun b6 => ?_)
 try dsimp only [lna,lca,lsz,lss]
 refine ox_y rfl (y_buildS [.int .i64 14,.slice (some ⟨b6,0,none⟩) 2 2] [(0,1),(1,1)] ust_90 ze_90 (by kernel_rfl)) ?_
 refine ox_addNo ?_
 refine ox_joinF 6 5 (by decide) rfl rfl ?_
 refine ox_joinF 6 4 (by decide) rfl rfl ?_
 refine ox_joinF 6 3 (by decide) rfl rfl ?_
 refine ox_joinF 6 2 (by decide) rfl rfl ?_
 refine ox_buildSliceE 4 (encL TClaim_cells2 [(((some ⟨b3,0,none⟩),1,1),(TC.mk 11 [(TH.mk 1 3)])),(((some ⟨b4,0,none⟩),2,2),(TC.mk 12 [(TH.mk 1 4),(TH.mk 2 4)])),(((some ⟨b5,0,none⟩),1,1),(TC.mk 13 [(TH.mk 3 5)])),(((some ⟨b6,0,none⟩),2,2),(TC.mk 14 [(TH.mk 4 5),(TH.mk 4 6)]))]) _ mc_90_4 us_23 ze_90 by_90 (by decide) (by decide) (by kernel_rfl) (encL_len TClaim_cells2_len rfl) rfl (fun b7 => ?_)
 try dsimp only [lna,lca,lsz,lss]
 refine ox_y rfl (y_buildS [.slice (some ⟨b2,0,none⟩) 6 6,.slice (some ⟨b7,0,none⟩) 4 4] [(0,1),(1,1)] ust_25 ze_25 (by kernel_rfl)) ?_
 refine ox_n rfl (y_storeN 0 [.slice (some ⟨b2,0,none⟩) 6 6,.slice (some ⟨b7,0,none⟩) 4 4] sz_25 rfl (nB rfl) rfl rfl rfl) ?_
 refine oN (eT (cx_ret ?_))
 obtain rfl:=sI h
 exact ex_res1 (.inl rfl) rfl (resV_cellN 0 [.slice (some ⟨b2,0,none⟩) 6 6,.slice (some ⟨b7,0,none⟩) 4 4] ag_25 rfl rfl rfl) (fun W2 hW2 => ⟨(((some ⟨b2,0,none⟩),6,6),((some ⟨b7,0,none⟩),4,4),[(((some ⟨b3,0,none⟩),1,1),(TC.mk 11 [(TH.mk 1 3)])),(((some ⟨b4,0,none⟩),2,2),(TC.mk 12 [(TH.mk 1 4),(TH.mk 2 4)])),(((some ⟨b5,0,none⟩),1,1),(TC.mk 13 [(TH.mk 3 5)])),(((some ⟨b6,0,none⟩),2,2),(TC.mk 14 [(TH.mk 4 5),(TH.mk 4 6)]))],andR (andR (andR (andR noR (rowR (some ⟨b6,0,none⟩) 2 111 2 2 (encL THop_cells [(TH.mk 4 5),(TH.mk 4 6)]))) (rowR (some ⟨b5,0,none⟩) 1 111 2 1 (encL THop_cells [(TH.mk 3 5)]))) (rowR (some ⟨b4,0,none⟩) 2 111 2 2 (encL THop_cells [(TH.mk 1 4),(TH.mk 2 4)]))) (rowR (some ⟨b3,0,none⟩) 1 111 2 1 (encL THop_cells [(TH.mk 1 3)]))),⟨rfl,rfl,(NestP.cons (sel:=(fun z : TC => z.fO)) rfl (NestP.cons (sel:=(fun z : TC => z.fO)) rfl (NestP.cons (sel:=(fun z : TC => z.fO)) rfl (NestP.cons (sel:=(fun z : TC => z.fO)) rfl NestP.nil)))),(PvL.cons (fun _ _ h => rowR_rd h.2.2.1) (PvL.mono (Hb:=(fun W4 => Hb W4 ∧ Res.holds (andR (andR (andR noR (rowR (some ⟨b6,0,none⟩) 2 111 2 2 (encL THop_cells [(TH.mk 4 5),(TH.mk 4 6)]))) (rowR (some ⟨b5,0,none⟩) 1 111 2 1 (encL THop_cells [(TH.mk 3 5)]))) (rowR (some ⟨b4,0,none⟩) 2 111 2 2 (encL THop_cells [(TH.mk 1 4),(TH.mk 2 4)]))) W4)) (PvL.cons (fun _ _ h => rowR_rd h.2.2.1) (PvL.mono (Hb:=(fun W4 => Hb W4 ∧ Res.holds (andR (andR noR (rowR (some ⟨b6,0,none⟩) 2 111 2 2 (encL THop_cells [(TH.mk 4 5),(TH.mk 4 6)]))) (rowR (some ⟨b5,0,none⟩) 1 111 2 1 (encL THop_cells [(TH.mk 3 5)]))) W4)) (PvL.cons (fun _ _ h => rowR_rd h.2.2.1) (PvL.mono (Hb:=(fun W4 => Hb W4 ∧ Res.holds (andR noR (rowR (some ⟨b6,0,none⟩) 2 111 2 2 (encL THop_cells [(TH.mk 4 5),(TH.mk 4 6)]))) W4)) (PvL.cons (fun _ _ h => rowR_rd h.2.2.1) (PvL.mono (Hb:=(fun W4 => Hb W4 ∧ Res.holds noR W4)) PvL.nil (fun _ _ h => ⟨h.1,h.2.1⟩))) (fun _ _ h => ⟨h.1,h.2.1⟩))) (fun _ _ h => ⟨h.1,h.2.1⟩))) (fun _ _ h => ⟨h.1,h.2.1⟩)))⟩,rfl,hW2.pickL [1,7,6] (by decide) rfl⟩)
theorem recall_Cases_ok (p0:TL) (res:(Int × Int)) (h:recall_Cases p0 = some res) (W:World) (Aa:Option Addr) (n0_0 ca : Nat) (hn0_0:n0_0 = p0.fNo.length) (hr0_0:Rd W Aa n0_0 ca (encL TNode_cells p0.fNo)) (Ab:Option Addr) (n0_1 cb : Nat) (ys0_1:List (Hd × TC)) (hn0_1:n0_1 = p0.fC.length) (hr0_1:Rd W Ab n0_1 cb (encL TClaim_cells2 ys0_1)) (hN0_1:NestW W (fun z : TC => z.fO) THop_cells ys0_1 p0.fC) :
  Calls Tryz.prog 60 [.agg #[.slice Aa n0_0 ca,.slice Ab n0_1 cb]].toArray W fun e W2 => e = .returned (.tuple #[.int .i64 res.1,.int .i64 res.2]) ∧ Ext W W2 []:=by
 subst hn0_0
 subst hn0_1
 unfold recall_Cases at h
 refine calls_enterM (m:=17) Tryz.func60 rfl rfl (nB rfl) ?_
 refine cS (cR ?_)
 refine ox_box [.slice Aa p0.fNo.length ca,.slice Ab p0.fC.length cb] rfl rfl rfl (fun b1 => ?_)
 refine ox_y rfl (yAI rfl) (ox_y rfl (yAI rfl) ?_)
 refine oN (eT (cS (cS (cR ?_))))
 refine ox_y rfl (y_loadN 0 [.slice Aa p0.fNo.length ca,.slice Ab p0.fC.length cb] ag_25 rfl rfl rfl) ?_
 obtain ⟨y2,hy3,h⟩:=bOs h
 refine ox_y rfl (y_call [.agg #[.slice Aa p0.fNo.length ca,.slice Ab p0.fC.length cb]] go_61 rfl (fun W2 hW2 => recall_Check_ok p0 y2 hy3 W2 Aa p0.fNo.length ca rfl ((RdL.arg hr0_0) W2 hW2) Ab p0.fC.length cb ys0_1 rfl ((RdL.arg hr0_1) W2 hW2) (NestL.at (NestL.arg hN0_1) W2 hW2)) rfl) (ox_y rfl (yAI rfl) ?_)
 refine oN (eT (cS (cR ?_)))
 refine ox_y rfl (yMI rfl) (ox_y rfl (y_neq rfl rfl) ?_)
 refine oN (eT ?_)
 rcases iOs h with ⟨hp4,h⟩ | ⟨hp4,h⟩
 ·refine cx_true (vB hp4) ?_
  refine cS (cR ?_)
  refine ox_y rfl (yMI rfl) (ox_y rfl (yAI rfl) (ox_y rfl (yAI rfl) ?_))
  refine oN (eT (cx_ret (ex_then_ret ?_)))
  refine ex_M0 (.inl rfl) ?_
  obtain rfl:=sI h
  exact ex_res2 (.inl rfl) rfl (rVt (v:=.int .i64 0) rfl) (rVt (v:=.int .i64 y2) rfl) (fun W2 hW2 => ⟨rfl,hW2.none⟩)
 ·refine cx_false (vB hp4) ?_
  refine cx_skip (eT (cS (cR ?_)))
  refine ox_alloc ze_3 rfl (fun b5 => ?_)
  refine ox_n rfl (y_store1 1 (v:=.int .i64 0) sz_3 rfl (Nat.lt_of_lt_of_le (Nat.lt_succ_self _) (nB rfl)) rfl rfl rfl) ?_
  refine oN (eT (cS (cS (cR ?_))))
  refine ox_y rfl (y_loadN 0 [.slice Aa p0.fNo.length ca,.slice Ab p0.fC.length cb] ag_25 rfl rfl rfl) ?_
  obtain ⟨y6,hy7,h⟩:=bOs h
  refine ox_call1 [.agg #[.slice Aa p0.fNo.length ca,.slice Ab p0.fC.length cb]] _ _ rfl go_86 rfl (fun W2 hW2 => recall_cases_ok p0 y6 hy7 W2 Aa p0.fNo.length ca rfl ((RdL.arg hr0_0) W2 hW2) Ab p0.fC.length cb ys0_1 rfl ((RdL.arg hr0_1) W2 hW2) (NestL.at (NestL.arg hN0_1) W2 hW2)) ?_
  rintro b8
  refine oN (eT (cx_block ?_))
  obtain ⟨hok23,h⟩:=gOs h
  obtain ⟨u21,hl22,h⟩:=bOs h
  refine cx_rangeC (caps:=[.pointer (some ⟨b8,0,none⟩)]) (fun (s:Int) L => L = [cellsR b1 25 [.slice Aa p0.fNo.length ca,.slice Ab p0.fC.length cb],cellsR b5 3 [.int .i64 s],cellsR b8 25 [.slice Aa p0.fNo.length ca,.slice Ab p0.fC.length cb]]) (fun (_:Unit) _ _ => False) hl22 rfl go_130 (recall_cases_1_seq p0 hok23 b8 Aa p0.fNo.length ca Ab p0.fC.length cb rfl ys0_1 hN0_1.p) (fun W2 s L hI hW2 => by obtain rfl:=hI; exact ⟨(RdL.cells 2 rfl) W2 hW2,(RdL.arg hr0_1) W2 hW2⟩) rfl (fun _ _ _ h => h.elim) ?_ ?_ ?_
  ·rintro D9 l10 rec11 A13 c14 s19 x20 L st hrec12 rfl h
   unfold recall_Cases_r1 at h
   refine cx_skip (ex_begin 4 rfl hrec12 ?_)
   refine cx_block (cR ?_)
   try dsimp only [lna,lca,lsz,lss]
   refine ox_y rfl (y_load1 1 (v:=.int .i64 s19) sc_3 rfl rfl rfl) (ox_y rfl (y_add rfl rfl) (ox_n rfl (y_store1 1 (v:=.int .i64 (w64 (s19 + 1))) sz_3 rfl (Nat.lt_of_lt_of_le (Nat.lt_succ_self _) (nB rfl)) rfl rfl rfl) (oN (ex_block ?_))))
   obtain rfl:=sI h
   exact ex_cnext [cellsR b1 25 [.slice Aa p0.fNo.length ca,.slice Ab p0.fC.length cb],cellsR b5 3 [.int .i64 (w64 (s19 + 1))],cellsR b8 25 [.slice Aa p0.fNo.length ca,.slice Ab p0.fC.length cb]] rfl
  ·rintro D9 u24 L hst rfl
   subst hst
   dsimp only at h
   refine ex_block ?_
   refine eT (cS (cR ?_))
   refine ox_y rfl (y_load1 1 (v:=.int .i64 u24) sc_3 rfl rfl rfl) (ox_y rfl (yAI rfl) (ox_y rfl (yAI rfl) ?_))
   refine oN (eT (cx_ret ?_))
   refine ex_M1 3 rfl (.inl rfl) ?_
   obtain rfl:=sI h
   exact ex_res2 (.inl rfl) rfl (rVt (v:=.int .i64 u24) rfl) (rVt (v:=.int .i64 0) rfl) (fun W2 hW2 => ⟨rfl,hW2.none⟩)
  ·intro D9 t e L _ hh
   exact hh.elim
theorem calxlaw09_head_ok  (res:Bool) (h:calxlaw09_head = some res) (W:World)  :
  Calls Tryz.prog 13 [].toArray W fun e W2 => e = .returned (.bool res) ∧ Ext W W2 []:=by
 unfold calxlaw09_head at h
 refine calls_enter (m:=188) Tryz.func13 rfl rfl (nB rfl) ?_
 refine cS (cR ?_)
 refine ox_y rfl (y_assign_bool rfl) ?_
 refine oN (eT (cS (cR ?_)))
 obtain ⟨y1,hy2,h⟩:=bOs h
 refine ox_call [] _ _ _ rfl go_59 rfl (fun W2 hW2 => calxlaw09_Example_ok  y1 hy2 W2 W (fun _ => True) (fun W3 hb => ⟨belowT hW2.below hb,trivial⟩) ) ?_
 rintro ⟨⟨A7,n9,c8⟩,⟨A11,n13,c12⟩,ys16,F17⟩ ⟨hn10,hn14,hP15,hV18⟩
 replace hn10 : n9 = y1.fNo.length:=hn10; subst hn10
 replace hn14 : n13 = y1.fC.length:=hn14; subst hn14
 refine ox_alloc ze_25 rfl (fun b19 => ?_)
 refine ox_n rfl (y_storeN 3 [.slice A7 y1.fNo.length c8,.slice A11 y1.fC.length c12] sz_25 rfl (nB rfl) rfl rfl rfl) ?_
 refine oN (eT (cS (cR ?_)))
 refine ox_y rfl (y_loadN 3 [.slice A7 y1.fNo.length c8,.slice A11 y1.fC.length c12] ag_25 rfl rfl rfl) ?_
 obtain ⟨y20,hy21,h⟩:=bOs h
 refine ox_y rfl (y_call [.agg #[.slice A7 y1.fNo.length c8,.slice A11 y1.fC.length c12]] go_60 rfl (fun W2 hW2 => recall_Cases_ok y1 y20 hy21 W2 A7 y1.fNo.length c8 rfl ((RdL.row 0 rfl) W2 hW2) A11 y1.fC.length c12 ys16 rfl ((RdL.row 1 rfl) W2 hW2) (NestL.at (PvL.nestL hP15 hV18 (fun W2 hW2 => ⟨hW2.below,trivial,hW2.mem (i:=2) rfl⟩)) W2 hW2)) rfl) (ox_y rfl (y_move_tuple rfl) (ox_y rfl (y_extract (vs:=[.int .i64 y20.1,.int .i64 y20.2]) (v:=.int .i64 y20.1) rfl rfl) (ox_y rfl (y_extract (vs:=[.int .i64 y20.1,.int .i64 y20.2]) (v:=.int .i64 y20.2) rfl rfl) (ox_y rfl (yAI rfl) (ox_y rfl (yAI rfl) ?_)))))
 refine oN (eT (cS (cR ?_)))
 refine ox_y rfl (y_loadN 3 [.slice A7 y1.fNo.length c8,.slice A11 y1.fC.length c12] ag_25 rfl rfl rfl) ?_
 refine ox_buildSliceE 1 (encL cI [1]) _ mc_3_1 us_26 ze_3 by_3 (by decide) (by decide) (by kernel_rfl) (encL_len cI_len rfl) rfl (fun b22 => ?_)
 obtain ⟨y23,hy24,h⟩:=bOs h
 refine ox_call [.agg #[.slice A7 y1.fNo.length c8,.slice A11 y1.fC.length c12],.slice (some ⟨b22,0,none⟩) 1 1] _ _ _ rfl go_34 rfl (fun W2 hW2 => recall_Surely_ok y1 [1] y23 hy24 W2 A7 y1.fNo.length c8 rfl ((RdL.row 0 rfl) W2 hW2) A11 y1.fC.length c12 ys16 rfl ((RdL.row 1 rfl) W2 hW2) (NestL.at (PvL.nestL hP15 hV18 (fun W2 hW2 => ⟨hW2.below,trivial,hW2.mem (i:=2) rfl⟩)) W2 hW2) (some ⟨b22,0,none⟩) 1 1 rfl ((RdL.row 4 rfl) W2 hW2)) ?_
 rintro ⟨A25,n27,c26⟩ hn28
 replace hn28 : n27 = y23.1.length:=hn28; subst hn28
 try dsimp only [lna,lca,lsz,lss]
 refine ox_y rfl (y_move_tuple rfl) (ox_y rfl (y_extract (vs:=[.slice A25 y23.1.length c26,.int .i64 y23.2]) (v:=.slice A25 y23.1.length c26) rfl rfl) (ox_y rfl (y_extract (vs:=[.slice A25 y23.1.length c26,.int .i64 y23.2]) (v:=.int .i64 y23.2) rfl rfl) (ox_y rfl (yAS rfl) (ox_y rfl (yAI rfl) ?_))))
 refine oN (eT (cS (cR ?_)))
 refine ox_y rfl (y_loadN 3 [.slice A7 y1.fNo.length c8,.slice A11 y1.fC.length c12] ag_25 rfl rfl rfl) ?_
 refine ox_buildSliceE 1 (encL cI [2]) _ mc_3_1 us_26 ze_3 by_3 (by decide) (by decide) (by kernel_rfl) (encL_len cI_len rfl) rfl (fun b29 => ?_)
 try dsimp only [lna,lca,lsz,lss]
 obtain ⟨y30,hy31,h⟩:=bOs h
 refine ox_call [.agg #[.slice A7 y1.fNo.length c8,.slice A11 y1.fC.length c12],.slice (some ⟨b29,0,none⟩) 1 1] _ _ _ rfl go_36 rfl (fun W2 hW2 => recall_Possibly_ok y1 [2] y30 hy31 W2 A7 y1.fNo.length c8 rfl ((RdL.row 0 rfl) W2 hW2) A11 y1.fC.length c12 ys16 rfl ((RdL.row 1 rfl) W2 hW2) (NestL.at (PvL.nestL hP15 hV18 (fun W2 hW2 => ⟨hW2.below,trivial,hW2.mem (i:=2) rfl⟩)) W2 hW2) (some ⟨b29,0,none⟩) 1 1 rfl ((RdL.row 6 rfl) W2 hW2)) ?_
 rintro ⟨A32,n34,c33⟩ hn35
 replace hn35 : n34 = y30.1.length:=hn35; subst hn35
 try dsimp only [lna,lca,lsz,lss]
 refine ox_y rfl (y_move_tuple rfl) (ox_y rfl (y_extract (vs:=[.slice A32 y30.1.length c33,.int .i64 y30.2]) (v:=.slice A32 y30.1.length c33) rfl rfl) (ox_y rfl (y_extract (vs:=[.slice A32 y30.1.length c33,.int .i64 y30.2]) (v:=.int .i64 y30.2) rfl rfl) (ox_y rfl (yAS rfl) (ox_y rfl (yAI rfl) ?_))))
 refine oN (eT (cS (cR ?_)))
 refine ox_y rfl (y_loadN 3 [.slice A7 y1.fNo.length c8,.slice A11 y1.fC.length c12] ag_25 rfl rfl rfl) ?_
 refine ox_buildSliceE 1 (encL cI [1]) _ mc_3_1 us_26 ze_3 by_3 (by decide) (by decide) (by kernel_rfl) (encL_len cI_len rfl) rfl (fun b36 => ?_)
 try dsimp only [lna,lca,lsz,lss]
 obtain ⟨y37,hy38,h⟩:=bOs h
 refine ox_call [.agg #[.slice A7 y1.fNo.length c8,.slice A11 y1.fC.length c12],.slice (some ⟨b36,0,none⟩) 1 1,.int .i64 6] _ _ _ rfl go_20 rfl (fun W2 hW2 => recall_Hangs_ok y1 [1] 6 y37 hy38 W2 A7 y1.fNo.length c8 rfl ((RdL.row 0 rfl) W2 hW2) A11 y1.fC.length c12 ys16 rfl ((RdL.row 1 rfl) W2 hW2) (NestL.at (PvL.nestL hP15 hV18 (fun W2 hW2 => ⟨hW2.below,trivial,hW2.mem (i:=2) rfl⟩)) W2 hW2) (some ⟨b36,0,none⟩) 1 1 rfl ((RdL.row 8 rfl) W2 hW2)) ?_
 rintro ⟨A39,n41,c40⟩ hn42
 replace hn42 : n41 = y37.1.length:=hn42; subst hn42
 try dsimp only [lna,lca,lsz,lss]
 refine ox_y rfl (y_move_tuple rfl) (ox_y rfl (y_extract (vs:=[.slice A39 y37.1.length c40,.int .i64 y37.2]) (v:=.slice A39 y37.1.length c40) rfl rfl) (ox_y rfl (y_extract (vs:=[.slice A39 y37.1.length c40,.int .i64 y37.2]) (v:=.int .i64 y37.2) rfl rfl) (ox_y rfl (yAS rfl) (ox_y rfl (yAI rfl) ?_))))
 refine oN (eT (cS (cR ?_)))
 refine ox_y rfl (y_loadN 3 [.slice A7 y1.fNo.length c8,.slice A11 y1.fC.length c12] ag_25 rfl rfl rfl) ?_
 refine ox_buildSliceE 1 (encL cI [1]) _ mc_3_1 us_26 ze_3 by_3 (by decide) (by decide) (by kernel_rfl) (encL_len cI_len rfl) rfl (fun b43 => ?_)
 try dsimp only [lna,lca,lsz,lss]
 obtain ⟨y44,hy45,h⟩:=bOs h
 refine ox_call [.agg #[.slice A7 y1.fNo.length c8,.slice A11 y1.fC.length c12],.slice (some ⟨b43,0,none⟩) 1 1,.int .i64 6] _ _ _ rfl go_22 rfl (fun W2 hW2 => recall_Gates_ok y1 [1] 6 y44 hy45 W2 A7 y1.fNo.length c8 rfl ((RdL.row 0 rfl) W2 hW2) A11 y1.fC.length c12 ys16 rfl ((RdL.row 1 rfl) W2 hW2) (NestL.at (PvL.nestL hP15 hV18 (fun W2 hW2 => ⟨hW2.below,trivial,hW2.mem (i:=2) rfl⟩)) W2 hW2) (some ⟨b43,0,none⟩) 1 1 rfl ((RdL.row 10 rfl) W2 hW2)) ?_
 rintro ⟨A46,n48,c47⟩ hn49
 replace hn49 : n48 = y44.1.length:=hn49; subst hn49
 try dsimp only [lna,lca,lsz,lss]
 refine ox_y rfl (y_move_tuple rfl) (ox_y rfl (y_extract (vs:=[.slice A46 y44.1.length c47,.int .i64 y44.2]) (v:=.slice A46 y44.1.length c47) rfl rfl) (ox_y rfl (y_extract (vs:=[.slice A46 y44.1.length c47,.int .i64 y44.2]) (v:=.int .i64 y44.2) rfl rfl) (ox_y rfl (yAS rfl) (ox_y rfl (yAI rfl) ?_))))
 refine oN (eT (cS (cR ?_)))
 refine ox_y rfl (y_loadN 3 [.slice A7 y1.fNo.length c8,.slice A11 y1.fC.length c12] ag_25 rfl rfl rfl) ?_
 refine ox_buildSliceE 1 (encL cI [1]) _ mc_3_1 us_26 ze_3 by_3 (by decide) (by decide) (by kernel_rfl) (encL_len cI_len rfl) rfl (fun b50 => ?_)
 try dsimp only [lna,lca,lsz,lss]
 obtain ⟨y51,hy52,h⟩:=bOs h
 refine ox_call [.agg #[.slice A7 y1.fNo.length c8,.slice A11 y1.fC.length c12],.slice (some ⟨b50,0,none⟩) 1 1,.int .i64 5] _ _ _ rfl go_28 rfl (fun W2 hW2 => recall_Cut_ok y1 [1] 5 y51 hy52 W2 A7 y1.fNo.length c8 rfl ((RdL.row 0 rfl) W2 hW2) A11 y1.fC.length c12 ys16 rfl ((RdL.row 1 rfl) W2 hW2) (NestL.at (PvL.nestL hP15 hV18 (fun W2 hW2 => ⟨hW2.below,trivial,hW2.mem (i:=2) rfl⟩)) W2 hW2) (some ⟨b50,0,none⟩) 1 1 rfl ((RdL.row 12 rfl) W2 hW2)) ?_
 rintro ⟨A53,n55,c54⟩ hn56
 replace hn56 : n55 = y51.1.length:=hn56; subst hn56
 try dsimp only [lna,lca,lsz,lss]
 refine ox_y rfl (y_move_tuple rfl) (ox_y rfl (y_extract (vs:=[.slice A53 y51.1.length c54,.int .i64 y51.2]) (v:=.slice A53 y51.1.length c54) rfl rfl) (ox_y rfl (y_extract (vs:=[.slice A53 y51.1.length c54,.int .i64 y51.2]) (v:=.int .i64 y51.2) rfl rfl) (ox_y rfl (yAS rfl) (ox_y rfl (yAI rfl) ?_))))
 refine oN (eT (cS (cR ?_)))
 refine ox_y rfl (y_loadN 3 [.slice A7 y1.fNo.length c8,.slice A11 y1.fC.length c12] ag_25 rfl rfl rfl) ?_
 refine ox_buildSliceE 1 (encL cI [2]) _ mc_3_1 us_26 ze_3 by_3 (by decide) (by decide) (by kernel_rfl) (encL_len cI_len rfl) rfl (fun b57 => ?_)
 try dsimp only [lna,lca,lsz,lss]
 obtain ⟨y58,hy59,h⟩:=bOs h
 refine ox_y rfl (y_call [.agg #[.slice A7 y1.fNo.length c8,.slice A11 y1.fC.length c12],.slice (some ⟨b57,0,none⟩) 1 1,.int .i64 5] go_24 rfl (fun W2 hW2 => recall_Share_ok y1 [2] 5 y58 hy59 W2 A7 y1.fNo.length c8 rfl ((RdL.row 0 rfl) W2 hW2) A11 y1.fC.length c12 ys16 rfl ((RdL.row 1 rfl) W2 hW2) (NestL.at (PvL.nestL hP15 hV18 (fun W2 hW2 => ⟨hW2.below,trivial,hW2.mem (i:=2) rfl⟩)) W2 hW2) (some ⟨b57,0,none⟩) 1 1 rfl ((RdL.row 14 rfl) W2 hW2)) rfl) (ox_y rfl (y_move_tuple rfl) (ox_y rfl (y_extract (vs:=[.agg #[.int .i64 y58.1.fNum,.int .i64 y58.1.fDen],.int .i64 y58.2]) (v:=.agg #[.int .i64 y58.1.fNum,.int .i64 y58.1.fDen]) rfl rfl) (ox_y rfl (y_extract (vs:=[.agg #[.int .i64 y58.1.fNum,.int .i64 y58.1.fDen],.int .i64 y58.2]) (v:=.int .i64 y58.2) rfl rfl) ?_)))
 refine ox_alloc ze_48 rfl (fun b60 => ?_)
 try dsimp only [lna,lca,lsz,lss]
 refine ox_n rfl (y_storeN 15 [.int .i64 y58.1.fNum,.int .i64 y58.1.fDen] sz_48 rfl (nB rfl) rfl rfl rfl) (ox_y rfl (yAI rfl) ?_)
 refine oN (eT (cS (cR ?_)))
 refine ox_y rfl (y_loadN 3 [.slice A7 y1.fNo.length c8,.slice A11 y1.fC.length c12] ag_25 rfl rfl rfl) ?_
 refine ox_buildSliceE 1 (encL cI [1]) _ mc_3_1 us_26 ze_3 by_3 (by decide) (by decide) (by kernel_rfl) (encL_len cI_len rfl) rfl (fun b61 => ?_)
 try dsimp only [lna,lca,lsz,lss]
 obtain ⟨y62,hy63,h⟩:=bOs h
 refine ox_call [.agg #[.slice A7 y1.fNo.length c8,.slice A11 y1.fC.length c12],.slice (some ⟨b61,0,none⟩) 1 1,.bool false] _ _ _ rfl go_17 rfl (fun W2 hW2 => recall_Recall_ok y1 [1] false y62 hy63 W2 A7 y1.fNo.length c8 rfl ((RdL.row 0 rfl) W2 hW2) A11 y1.fC.length c12 ys16 rfl ((RdL.row 1 rfl) W2 hW2) (NestL.at (PvL.nestL hP15 hV18 (fun W2 hW2 => ⟨hW2.below,trivial,hW2.mem (i:=2) rfl⟩)) W2 hW2) (some ⟨b61,0,none⟩) 1 1 rfl ((RdL.row 16 rfl) W2 hW2)) ?_
 rintro ⟨A64,n66,c65⟩ hn67
 replace hn67 : n66 = y62.1.length:=hn67; subst hn67
 try dsimp only [lna,lca,lsz,lss]
 refine ox_y rfl (y_move_tuple rfl) (ox_y rfl (y_extract (vs:=[.slice A64 y62.1.length c65,.int .i64 y62.2.1,.int .i64 y62.2.2]) (v:=.slice A64 y62.1.length c65) rfl rfl) (ox_y rfl (y_extract (vs:=[.slice A64 y62.1.length c65,.int .i64 y62.2.1,.int .i64 y62.2.2]) (v:=.int .i64 y62.2.1) rfl rfl) (ox_y rfl (y_extract (vs:=[.slice A64 y62.1.length c65,.int .i64 y62.2.1,.int .i64 y62.2.2]) (v:=.int .i64 y62.2.2) rfl rfl) (ox_y rfl (yAS rfl) (ox_y rfl (yAI rfl) (ox_y rfl (yAI rfl) ?_))))))
 refine oN (eT (cS (cR ?_)))
 refine ox_y rfl (y_loadN 3 [.slice A7 y1.fNo.length c8,.slice A11 y1.fC.length c12] ag_25 rfl rfl rfl) ?_
 refine ox_buildSliceE 1 (encL cI [1]) _ mc_3_1 us_26 ze_3 by_3 (by decide) (by decide) (by kernel_rfl) (encL_len cI_len rfl) rfl (fun b68 => ?_)
 try dsimp only [lna,lca,lsz,lss]
 obtain ⟨y69,hy70,h⟩:=bOs h
 refine ox_y rfl (y_call [.agg #[.slice A7 y1.fNo.length c8,.slice A11 y1.fC.length c12],.slice (some ⟨b68,0,none⟩) 1 1] go_26 rfl (fun W2 hW2 => recall_Ask_ok y1 [1] y69 hy70 W2 A7 y1.fNo.length c8 rfl ((RdL.row 0 rfl) W2 hW2) A11 y1.fC.length c12 ys16 rfl ((RdL.row 1 rfl) W2 hW2) (NestL.at (PvL.nestL hP15 hV18 (fun W2 hW2 => ⟨hW2.below,trivial,hW2.mem (i:=2) rfl⟩)) W2 hW2) (some ⟨b68,0,none⟩) 1 1 rfl ((RdL.row 18 rfl) W2 hW2)) rfl) (ox_y rfl (y_move_tuple rfl) (ox_y rfl (y_extract (vs:=[.int .i64 y69.1,.int .i64 y69.2.1,.int .i64 y69.2.2]) (v:=.int .i64 y69.1) rfl rfl) (ox_y rfl (y_extract (vs:=[.int .i64 y69.1,.int .i64 y69.2.1,.int .i64 y69.2.2]) (v:=.int .i64 y69.2.1) rfl rfl) (ox_y rfl (y_extract (vs:=[.int .i64 y69.1,.int .i64 y69.2.1,.int .i64 y69.2.2]) (v:=.int .i64 y69.2.2) rfl rfl) (ox_y rfl (yAI rfl) (ox_y rfl (yAI rfl) (ox_y rfl (yAI rfl) ?_)))))))
 refine oN (eT (cS (cR ?_)))
 refine ox_y rfl (y_loadN 3 [.slice A7 y1.fNo.length c8,.slice A11 y1.fC.length c12] ag_25 rfl rfl rfl) ?_
 obtain ⟨y71,hy72,h⟩:=bOs h
 refine ox_call [.agg #[.slice A7 y1.fNo.length c8,.slice A11 y1.fC.length c12],.int .i64 5] _ _ _ rfl go_15 rfl (fun W2 hW2 => recall_Origins_ok y1 5 y71 hy72 W2 A7 y1.fNo.length c8 rfl ((RdL.row 0 rfl) W2 hW2) A11 y1.fC.length c12 ys16 rfl ((RdL.row 1 rfl) W2 hW2) (NestL.at (PvL.nestL hP15 hV18 (fun W2 hW2 => ⟨hW2.below,trivial,hW2.mem (i:=2) rfl⟩)) W2 hW2)) ?_
 rintro ⟨⟨A73,n77,c74⟩,⟨A75,n79,c76⟩⟩ ⟨hn78,hn80⟩
 replace hn78 : n77 = y71.1.length:=hn78; subst hn78
 replace hn80 : n79 = y71.2.1.length:=hn80; subst hn80
 try dsimp only [lna,lca,lsz,lss]
 refine ox_y rfl (y_move_tuple rfl) (ox_y rfl (y_extract (vs:=[.slice A73 y71.1.length c74,.slice A75 y71.2.1.length c76,.int .i64 y71.2.2]) (v:=.slice A73 y71.1.length c74) rfl rfl) (ox_y rfl (y_extract (vs:=[.slice A73 y71.1.length c74,.slice A75 y71.2.1.length c76,.int .i64 y71.2.2]) (v:=.slice A75 y71.2.1.length c76) rfl rfl) (ox_y rfl (y_extract (vs:=[.slice A73 y71.1.length c74,.slice A75 y71.2.1.length c76,.int .i64 y71.2.2]) (v:=.int .i64 y71.2.2) rfl rfl) (ox_y rfl (yAS rfl) (ox_y rfl (yAS rfl) (ox_y rfl (yAI rfl) ?_))))))
 refine oN (eT (cS (cS (cR ?_))))
 refine ox_y rfl (yMI rfl) (ox_y rfl (y_neq rfl rfl) (ox_y rfl (y_move_bool rfl) ?_))
 refine ox_join 3 (fun tm0 => (upd (upd (upd (upd (upd (upd (upd (upd (upd (upd (upd (upd (upd (upd (upd (upd (upd (upd (upd (upd (upd (upd (upd tm0 0 (.bool false)) 2 (.int .i64 y20.1)) 4 (.slice A25 y23.1.length c26)) 6 (.slice A32 y30.1.length c33)) 7 (.int .i64 y30.2)) 8 (.slice A39 y37.1.length c40)) 9 (.int .i64 y37.2)) 10 (.slice A46 y44.1.length c47)) 11 (.int .i64 y44.2)) 12 (.slice A53 y51.1.length c54)) 13 (.int .i64 y51.2)) 14 (.pointer (some ⟨b60,0,none⟩))) 15 (.int .i64 y58.2)) 16 (.slice A64 y62.1.length c65)) 17 (.int .i64 y62.2.1)) 18 (.int .i64 y62.2.2)) 19 (.int .i64 y69.1)) 20 (.int .i64 y69.2.1)) 21 (.int .i64 y69.2.2)) 22 (.slice A73 y71.1.length c74)) 23 (.slice A75 y71.2.1.length c76)) 24 (.int .i64 y71.2.2)) 94 (.bool ((y20.2 != 0) || (y23.2 != 0))))) (fun tm0 => ?_) (fun key => ?_)
 ·refine ox_y rfl (y_move_bool rfl) ?_
  refine ox_join 3 (fun tm0 => (upd (upd (upd (upd (upd (upd (upd (upd (upd (upd (upd (upd (upd (upd (upd (upd (upd (upd (upd (upd (upd (upd tm0 0 (.bool false)) 2 (.int .i64 y20.1)) 4 (.slice A25 y23.1.length c26)) 6 (.slice A32 y30.1.length c33)) 8 (.slice A39 y37.1.length c40)) 9 (.int .i64 y37.2)) 10 (.slice A46 y44.1.length c47)) 11 (.int .i64 y44.2)) 12 (.slice A53 y51.1.length c54)) 13 (.int .i64 y51.2)) 14 (.pointer (some ⟨b60,0,none⟩))) 15 (.int .i64 y58.2)) 16 (.slice A64 y62.1.length c65)) 17 (.int .i64 y62.2.1)) 18 (.int .i64 y62.2.2)) 19 (.int .i64 y69.1)) 20 (.int .i64 y69.2.1)) 21 (.int .i64 y69.2.2)) 22 (.slice A73 y71.1.length c74)) 23 (.slice A75 y71.2.1.length c76)) 24 (.int .i64 y71.2.2)) 98 (.bool (((y20.2 != 0) || (y23.2 != 0)) || (y30.2 != 0))))) (fun tm0 => ?_) (fun key => ?_)
  ·refine ox_y rfl (y_move_bool rfl) ?_
   refine ox_join 3 (fun tm0 => (upd (upd (upd (upd (upd (upd (upd (upd (upd (upd (upd (upd (upd (upd (upd (upd (upd (upd (upd (upd (upd tm0 0 (.bool false)) 2 (.int .i64 y20.1)) 4 (.slice A25 y23.1.length c26)) 6 (.slice A32 y30.1.length c33)) 8 (.slice A39 y37.1.length c40)) 10 (.slice A46 y44.1.length c47)) 11 (.int .i64 y44.2)) 12 (.slice A53 y51.1.length c54)) 13 (.int .i64 y51.2)) 14 (.pointer (some ⟨b60,0,none⟩))) 15 (.int .i64 y58.2)) 16 (.slice A64 y62.1.length c65)) 17 (.int .i64 y62.2.1)) 18 (.int .i64 y62.2.2)) 19 (.int .i64 y69.1)) 20 (.int .i64 y69.2.1)) 21 (.int .i64 y69.2.2)) 22 (.slice A73 y71.1.length c74)) 23 (.slice A75 y71.2.1.length c76)) 24 (.int .i64 y71.2.2)) 102 (.bool ((((y20.2 != 0) || (y23.2 != 0)) || (y30.2 != 0)) || (y37.2 != 0))))) (fun tm0 => ?_) (fun key => ?_)
   ·refine ox_y rfl (y_move_bool rfl) ?_
    refine ox_join 3 (fun tm0 => (upd (upd (upd (upd (upd (upd (upd (upd (upd (upd (upd (upd (upd (upd (upd (upd (upd (upd (upd (upd tm0 0 (.bool false)) 2 (.int .i64 y20.1)) 4 (.slice A25 y23.1.length c26)) 6 (.slice A32 y30.1.length c33)) 8 (.slice A39 y37.1.length c40)) 10 (.slice A46 y44.1.length c47)) 12 (.slice A53 y51.1.length c54)) 13 (.int .i64 y51.2)) 14 (.pointer (some ⟨b60,0,none⟩))) 15 (.int .i64 y58.2)) 16 (.slice A64 y62.1.length c65)) 17 (.int .i64 y62.2.1)) 18 (.int .i64 y62.2.2)) 19 (.int .i64 y69.1)) 20 (.int .i64 y69.2.1)) 21 (.int .i64 y69.2.2)) 22 (.slice A73 y71.1.length c74)) 23 (.slice A75 y71.2.1.length c76)) 24 (.int .i64 y71.2.2)) 106 (.bool (((((y20.2 != 0) || (y23.2 != 0)) || (y30.2 != 0)) || (y37.2 != 0)) || (y44.2 != 0))))) (fun tm0 => ?_) (fun key => ?_)
    ·refine ox_y rfl (y_move_bool rfl) ?_
     refine ox_join 3 (fun tm0 => (upd (upd (upd (upd (upd (upd (upd (upd (upd (upd (upd (upd (upd (upd (upd (upd (upd (upd (upd tm0 0 (.bool false)) 2 (.int .i64 y20.1)) 4 (.slice A25 y23.1.length c26)) 6 (.slice A32 y30.1.length c33)) 8 (.slice A39 y37.1.length c40)) 10 (.slice A46 y44.1.length c47)) 12 (.slice A53 y51.1.length c54)) 14 (.pointer (some ⟨b60,0,none⟩))) 15 (.int .i64 y58.2)) 16 (.slice A64 y62.1.length c65)) 17 (.int .i64 y62.2.1)) 18 (.int .i64 y62.2.2)) 19 (.int .i64 y69.1)) 20 (.int .i64 y69.2.1)) 21 (.int .i64 y69.2.2)) 22 (.slice A73 y71.1.length c74)) 23 (.slice A75 y71.2.1.length c76)) 24 (.int .i64 y71.2.2)) 110 (.bool ((((((y20.2 != 0) || (y23.2 != 0)) || (y30.2 != 0)) || (y37.2 != 0)) || (y44.2 != 0)) || (y51.2 != 0))))) (fun tm0 => ?_) (fun key => ?_)
     ·refine ox_y rfl (y_move_bool rfl) ?_
      refine ox_join 3 (fun tm0 => (upd (upd (upd (upd (upd (upd (upd (upd (upd (upd (upd (upd (upd (upd (upd (upd (upd (upd tm0 0 (.bool false)) 2 (.int .i64 y20.1)) 4 (.slice A25 y23.1.length c26)) 6 (.slice A32 y30.1.length c33)) 8 (.slice A39 y37.1.length c40)) 10 (.slice A46 y44.1.length c47)) 12 (.slice A53 y51.1.length c54)) 14 (.pointer (some ⟨b60,0,none⟩))) 16 (.slice A64 y62.1.length c65)) 17 (.int .i64 y62.2.1)) 18 (.int .i64 y62.2.2)) 19 (.int .i64 y69.1)) 20 (.int .i64 y69.2.1)) 21 (.int .i64 y69.2.2)) 22 (.slice A73 y71.1.length c74)) 23 (.slice A75 y71.2.1.length c76)) 24 (.int .i64 y71.2.2)) 114 (.bool (((((((y20.2 != 0) || (y23.2 != 0)) || (y30.2 != 0)) || (y37.2 != 0)) || (y44.2 != 0)) || (y51.2 != 0)) || (y58.2 != 0))))) (fun tm0 => ?_) (fun key => ?_)
      ·refine ox_y rfl (y_move_bool rfl) ?_
       refine ox_join 3 (fun tm0 => (upd (upd (upd (upd (upd (upd (upd (upd (upd (upd (upd (upd (upd (upd (upd (upd (upd tm0 0 (.bool false)) 2 (.int .i64 y20.1)) 4 (.slice A25 y23.1.length c26)) 6 (.slice A32 y30.1.length c33)) 8 (.slice A39 y37.1.length c40)) 10 (.slice A46 y44.1.length c47)) 12 (.slice A53 y51.1.length c54)) 14 (.pointer (some ⟨b60,0,none⟩))) 16 (.slice A64 y62.1.length c65)) 17 (.int .i64 y62.2.1)) 19 (.int .i64 y69.1)) 20 (.int .i64 y69.2.1)) 21 (.int .i64 y69.2.2)) 22 (.slice A73 y71.1.length c74)) 23 (.slice A75 y71.2.1.length c76)) 24 (.int .i64 y71.2.2)) 118 (.bool ((((((((y20.2 != 0) || (y23.2 != 0)) || (y30.2 != 0)) || (y37.2 != 0)) || (y44.2 != 0)) || (y51.2 != 0)) || (y58.2 != 0)) || (y62.2.2 != 0))))) (fun tm0 => ?_) (fun key => ?_)
       ·refine ox_y rfl (y_move_bool rfl) ?_
        refine ox_join 3 (fun tm0 => (upd (upd (upd (upd (upd (upd (upd (upd (upd (upd (upd (upd (upd (upd (upd (upd tm0 0 (.bool false)) 2 (.int .i64 y20.1)) 4 (.slice A25 y23.1.length c26)) 6 (.slice A32 y30.1.length c33)) 8 (.slice A39 y37.1.length c40)) 10 (.slice A46 y44.1.length c47)) 12 (.slice A53 y51.1.length c54)) 14 (.pointer (some ⟨b60,0,none⟩))) 16 (.slice A64 y62.1.length c65)) 17 (.int .i64 y62.2.1)) 19 (.int .i64 y69.1)) 20 (.int .i64 y69.2.1)) 22 (.slice A73 y71.1.length c74)) 23 (.slice A75 y71.2.1.length c76)) 24 (.int .i64 y71.2.2)) 122 (.bool (((((((((y20.2 != 0) || (y23.2 != 0)) || (y30.2 != 0)) || (y37.2 != 0)) || (y44.2 != 0)) || (y51.2 != 0)) || (y58.2 != 0)) || (y62.2.2 != 0)) || (y69.2.2 != 0))))) (fun tm0 => ?_) (fun key => ?_)
        ·refine ox_y rfl (y_move_bool rfl) ?_
         refine ox_join 3 (fun tm0 => (upd (upd (upd (upd (upd (upd (upd (upd (upd (upd (upd (upd (upd (upd (upd tm0 0 (.bool false)) 2 (.int .i64 y20.1)) 4 (.slice A25 y23.1.length c26)) 6 (.slice A32 y30.1.length c33)) 8 (.slice A39 y37.1.length c40)) 10 (.slice A46 y44.1.length c47)) 12 (.slice A53 y51.1.length c54)) 14 (.pointer (some ⟨b60,0,none⟩))) 16 (.slice A64 y62.1.length c65)) 17 (.int .i64 y62.2.1)) 19 (.int .i64 y69.1)) 20 (.int .i64 y69.2.1)) 22 (.slice A73 y71.1.length c74)) 23 (.slice A75 y71.2.1.length c76)) 126 (.bool ((((((((((y20.2 != 0) || (y23.2 != 0)) || (y30.2 != 0)) || (y37.2 != 0)) || (y44.2 != 0)) || (y51.2 != 0)) || (y58.2 != 0)) || (y62.2.2 != 0)) || (y69.2.2 != 0)) || (y71.2.2 != 0))))) (fun tm0 => ?_) (fun key => ?_)
         ·refine oN (eT ?_)
          rcases iOs h with ⟨hp90,h⟩ | ⟨hp90,h⟩
          ·refine cx_true (vB hp90) ?_
           refine cS (cR ?_)
           refine ox_y rfl (y_assign_bool rfl) ?_
           refine oN (eT (cx_ret (ex_then_ret ?_)))
           obtain rfl:=sI h
           exact ex_res1 (.inl rfl) rfl (rVt (v:=.bool false) rfl) (fun W2 hW2 => ⟨rfl,hW2.none⟩)
          ·refine cx_false (vB hp90) ?_
           refine cx_skip (eT (cS (cR ?_)))
           refine ox_y rfl (yMS rfl) ?_
           refine ox_buildSliceE 3 (encL cI [1,3,5]) _ mc_3_3 us_26 ze_3 by_3 (by decide) (by decide) (by kernel_rfl) (encL_len cI_len rfl) rfl (fun b91 => ?_)
           try dsimp only [lna,lca,lsz,lss]
           obtain ⟨y92,hy93,h⟩:=bOs h
           refine ox_y rfl (y_call [.slice A25 y23.1.length c26,.slice (some ⟨b91,0,none⟩) 3 3] go_19 rfl (fun W2 hW2 => ref09_SameInts_ok y23.1 [1,3,5] y92 hy93 W2 A25 y23.1.length c26 rfl ((RdL.row 5 rfl) W2 hW2) (some ⟨b91,0,none⟩) 3 3 rfl ((RdL.row 21 rfl) W2 hW2)) rfl) (ox_y rfl (y_move_bool rfl) ?_)
           obtain ⟨b95,hb96,h⟩:=bOs h
           refine ox_join 4 (fun tm0 => (upd (upd (upd (upd (upd (upd (upd (upd (upd (upd (upd (upd (upd tm0 0 (.bool false)) 2 (.int .i64 y20.1)) 8 (.slice A39 y37.1.length c40)) 10 (.slice A46 y44.1.length c47)) 12 (.slice A53 y51.1.length c54)) 14 (.pointer (some ⟨b60,0,none⟩))) 16 (.slice A64 y62.1.length c65)) 17 (.int .i64 y62.2.1)) 19 (.int .i64 y69.1)) 20 (.int .i64 y69.2.1)) 22 (.slice A73 y71.1.length c74)) 23 (.slice A75 y71.2.1.length c76)) 134 (.bool b95))) (fun tm0 => ?_) (fun key => ?_)
           ·refine ox_y rfl (y_move_bool rfl) ?_
            obtain ⟨b98,hb99,h⟩:=bOs h
            refine ox_join 4 (fun tm0 => (upd (upd (upd (upd (upd (upd (upd (upd (upd (upd (upd (upd tm0 0 (.bool false)) 2 (.int .i64 y20.1)) 10 (.slice A46 y44.1.length c47)) 12 (.slice A53 y51.1.length c54)) 14 (.pointer (some ⟨b60,0,none⟩))) 16 (.slice A64 y62.1.length c65)) 17 (.int .i64 y62.2.1)) 19 (.int .i64 y69.1)) 20 (.int .i64 y69.2.1)) 22 (.slice A73 y71.1.length c74)) 23 (.slice A75 y71.2.1.length c76)) 139 (.bool b98))) (fun tm0 => ?_) (fun key => ?_)
            ·refine ox_y rfl (y_move_bool rfl) ?_
             obtain ⟨b101,hb102,h⟩:=bOs h
             refine ox_join 4 (fun tm0 => (upd (upd (upd (upd (upd (upd (upd (upd (upd (upd (upd tm0 0 (.bool false)) 2 (.int .i64 y20.1)) 12 (.slice A53 y51.1.length c54)) 14 (.pointer (some ⟨b60,0,none⟩))) 16 (.slice A64 y62.1.length c65)) 17 (.int .i64 y62.2.1)) 19 (.int .i64 y69.1)) 20 (.int .i64 y69.2.1)) 22 (.slice A73 y71.1.length c74)) 23 (.slice A75 y71.2.1.length c76)) 144 (.bool b101))) (fun tm0 => ?_) (fun key => ?_)
             ·refine ox_y rfl (y_assign_bool rfl) ?_
              refine oN (eT (cS (cR ?_)))
              refine ox_y rfl (yMS rfl) ?_
              refine ox_buildSliceE 2 (encL cI [13,14]) _ mc_3_2 us_26 ze_3 by_3 (by decide) (by decide) (by kernel_rfl) (encL_len cI_len rfl) rfl (fun b103 => ?_)
              try dsimp only [lna,lca,lsz,lss]
              obtain ⟨y104,hy105,h⟩:=bOs h
              refine ox_y rfl (y_call [.slice A53 y51.1.length c54,.slice (some ⟨b103,0,none⟩) 2 2] go_19 rfl (fun W2 hW2 => ref09_SameInts_ok y51.1 [13,14] y104 hy105 W2 A53 y51.1.length c54 rfl ((RdL.row 13 rfl) W2 hW2) (some ⟨b103,0,none⟩) 2 2 rfl ((RdL.row 22 rfl) W2 hW2)) rfl) (ox_y rfl (y_move_bool rfl) ?_)
              obtain ⟨b107,hb108,h⟩:=bOs h
              refine ox_join 4 (fun tm0 => (upd (upd (upd (upd (upd (upd (upd (upd (upd (upd tm0 0 (.bool false)) 2 (.int .i64 y20.1)) 14 (.pointer (some ⟨b60,0,none⟩))) 17 (.int .i64 y62.2.1)) 19 (.int .i64 y69.1)) 20 (.int .i64 y69.2.1)) 22 (.slice A73 y71.1.length c74)) 23 (.slice A75 y71.2.1.length c76)) 25 (.bool b101)) 152 (.bool b107))) (fun tm0 => ?_) (fun key => ?_)
              ·refine ox_y rfl (y_move_bool rfl) ?_
               obtain ⟨b110,hb111,h⟩:=bOs h
               refine ox_join 4 (fun tm0 => (upd (upd (upd (upd (upd (upd (upd (upd (upd tm0 0 (.bool false)) 2 (.int .i64 y20.1)) 14 (.pointer (some ⟨b60,0,none⟩))) 17 (.int .i64 y62.2.1)) 19 (.int .i64 y69.1)) 20 (.int .i64 y69.2.1)) 23 (.slice A75 y71.2.1.length c76)) 25 (.bool b101)) 157 (.bool b110))) (fun tm0 => ?_) (fun key => ?_)
               ·refine ox_y rfl (y_move_bool rfl) ?_
                obtain ⟨b113,hb114,h⟩:=bOs h
                refine ox_join 4 (fun tm0 => (upd (upd (upd (upd (upd (upd (upd (upd tm0 0 (.bool false)) 2 (.int .i64 y20.1)) 14 (.pointer (some ⟨b60,0,none⟩))) 17 (.int .i64 y62.2.1)) 19 (.int .i64 y69.1)) 20 (.int .i64 y69.2.1)) 25 (.bool b101)) 162 (.bool b113))) (fun tm0 => ?_) (fun key => ?_)
                ·refine ox_y rfl (y_assign_bool rfl) ?_
                 refine oN (eT (cS (cR ?_)))
                 refine ox_y rfl (y_move_bool rfl) (ox_y rfl (y_move_bool rfl) ?_)
                 refine ox_join 2 (fun tm0 => (upd (upd (upd (upd (upd (upd (upd tm0 0 (.bool false)) 2 (.int .i64 y20.1)) 14 (.pointer (some ⟨b60,0,none⟩))) 17 (.int .i64 y62.2.1)) 19 (.int .i64 y69.1)) 20 (.int .i64 y69.2.1)) 166 (.bool (b101 && b113)))) (fun tm0 => ?_) (fun key => ?_)
                 ·refine ox_y rfl (y_move_bool rfl) ?_
                  refine ox_join 3 (fun tm0 => (upd (upd (upd (upd (upd (upd tm0 0 (.bool false)) 14 (.pointer (some ⟨b60,0,none⟩))) 17 (.int .i64 y62.2.1)) 19 (.int .i64 y69.1)) 20 (.int .i64 y69.2.1)) 170 (.bool ((b101 && b113) && (y20.1 == 4))))) (fun tm0 => ?_) (fun key => ?_)
                  ·refine ox_y rfl (y_move_bool rfl) ?_
                   refine ox_join 4 (fun tm0 => (upd (upd (upd (upd (upd tm0 0 (.bool false)) 17 (.int .i64 y62.2.1)) 19 (.int .i64 y69.1)) 20 (.int .i64 y69.2.1)) 175 (.bool (((b101 && b113) && (y20.1 == 4)) && ((y58.1.fNum == 1) && (y58.1.fDen == 4)))))) (fun tm0 => ?_) (fun key => ?_)
                   ·refine ox_y rfl (y_move_bool rfl) ?_
                    refine ox_join 3 (fun tm0 => (upd (upd (upd (upd tm0 0 (.bool false)) 19 (.int .i64 y69.1)) 20 (.int .i64 y69.2.1)) 179 (.bool ((((b101 && b113) && (y20.1 == 4)) && ((y58.1.fNum == 1) && (y58.1.fDen == 4))) && (y62.2.1 == 17))))) (fun tm0 => ?_) (fun key => ?_)
                    ·refine ox_y rfl (y_move_bool rfl) ?_
                     refine ox_join 3 (fun tm0 => (upd (upd (upd tm0 0 (.bool false)) 20 (.int .i64 y69.2.1)) 183 (.bool (((((b101 && b113) && (y20.1 == 4)) && ((y58.1.fNum == 1) && (y58.1.fDen == 4))) && (y62.2.1 == 17)) && (y69.1 == 12))))) (fun tm0 => ?_) (fun key => ?_)
                     ·refine ox_y rfl (y_move_bool rfl) ?_
                      refine ox_join 3 (fun tm0 => (upd (upd tm0 0 (.bool false)) 187 (.bool ((((((b101 && b113) && (y20.1 == 4)) && ((y58.1.fNum == 1) && (y58.1.fDen == 4))) && (y62.2.1 == 17)) && (y69.1 == 12)) && (y69.2.1 == 7))))) (fun tm0 => ?_) (fun key => ?_)
                      ·refine ox_y rfl (y_assign_bool rfl) ?_
                       refine oN (eT (cx_ret ?_))
                       obtain rfl:=sI h
                       exact ex_res1 (.inl rfl) rfl (rVt (v:=.bool ((((((b101 && b113) && (y20.1 == 4)) && ((y58.1.fNum == 1) && (y58.1.fDen == 4))) && (y62.2.1 == 17)) && (y69.1 == 12)) && (y69.2.1 == 7))) rfl) (fun W2 hW2 => ⟨rfl,hW2.none⟩)
                      ·rcases bool_cases (((((b101 && b113) && (y20.1 == 4)) && ((y58.1.fNum == 1) && (y58.1.fDen == 4))) && (y62.2.1 == 17)) && (y69.1 == 12)) with hp120 | hp120
                       ·refine ox_y (sT rfl rfl rfl rfl hp120) (yMI rfl) (ox_y (sT rfl rfl rfl rfl hp120) (y_eql rfl rfl) (ox_y rfl (y_pick_tb (vB hp120) rfl) ?_))
                        exact key _ _ (keep (keep rfl rfl) (vB (and_t hp120)))
                       ·refine oSk (sF rfl rfl rfl rfl hp120) (oSk (sF rfl rfl rfl rfl hp120) (ox_y rfl (y_pick_fb (vB hp120) rfl) ?_))
                        exact key _ _ (keep (keep rfl rfl) (vB (and_f hp120)))
                     ·rcases bool_cases ((((b101 && b113) && (y20.1 == 4)) && ((y58.1.fNum == 1) && (y58.1.fDen == 4))) && (y62.2.1 == 17)) with hp119 | hp119
                      ·refine ox_y (sT rfl rfl rfl rfl hp119) (yMI rfl) (ox_y (sT rfl rfl rfl rfl hp119) (y_eql rfl rfl) (ox_y rfl (y_pick_tb (vB hp119) rfl) ?_))
                       exact key _ _ (keep (keep (keep rfl rfl) rfl) (vB (and_t hp119)))
                      ·refine oSk (sF rfl rfl rfl rfl hp119) (oSk (sF rfl rfl rfl rfl hp119) (ox_y rfl (y_pick_fb (vB hp119) rfl) ?_))
                       exact key _ _ (keep (keep (keep rfl rfl) rfl) (vB (and_f hp119)))
                    ·rcases bool_cases (((b101 && b113) && (y20.1 == 4)) && ((y58.1.fNum == 1) && (y58.1.fDen == 4))) with hp118 | hp118
                     ·refine ox_y (sT rfl rfl rfl rfl hp118) (yMI rfl) (ox_y (sT rfl rfl rfl rfl hp118) (y_eql rfl rfl) (ox_y rfl (y_pick_tb (vB hp118) rfl) ?_))
                      exact key _ _ (keep (keep (keep (keep rfl rfl) rfl) rfl) (vB (and_t hp118)))
                     ·refine oSk (sF rfl rfl rfl rfl hp118) (oSk (sF rfl rfl rfl rfl hp118) (ox_y rfl (y_pick_fb (vB hp118) rfl) ?_))
                      exact key _ _ (keep (keep (keep (keep rfl rfl) rfl) rfl) (vB (and_f hp118)))
                   ·rcases bool_cases ((b101 && b113) && (y20.1 == 4)) with hp117 | hp117
                    ·refine ox_y (sT rfl rfl rfl rfl hp117) (y_loadN 15 [.int .i64 y58.1.fNum,.int .i64 y58.1.fDen] ag_48 rfl rfl rfl) ?_
                     refine ox_y (sT rfl rfl rfl rfl hp117) (y_buildS [.int .i64 1,.int .i64 4] [(0,1),(1,1)] ust_48 ze_48 (by kernel_rfl)) ?_
                     refine ox_y (sT rfl rfl rfl rfl hp117) (y_eqla (b:=((y58.1.fNum == 1) && (y58.1.fDen == 4))) eg_48 rfl rfl (fun _ => (eqS2 fl_48 (part1 sc_3 rfl) (part1 sc_3 rfl) (part1 sc_3 rfl) (part1 sc_3 rfl) (run_equalIn_int _ _ _ _ _ _ _ ui_3) (run_equalIn_int _ _ _ _ _ _ _ ui_3)))) (ox_y rfl (y_pick_tb (vB hp117) rfl) ?_)
                     exact key _ _ (keep (keep (keep (keep (keep rfl rfl) rfl) rfl) rfl) (vB (and_t hp117)))
                    ·refine oSk (sF rfl rfl rfl rfl hp117) (oSk (sF rfl rfl rfl rfl hp117) (oSk (sF rfl rfl rfl rfl hp117) (ox_y rfl (y_pick_fb (vB hp117) rfl) ?_)))
                     exact key _ _ (keep (keep (keep (keep (keep rfl rfl) rfl) rfl) rfl) (vB (and_f hp117)))
                  ·rcases bool_cases (b101 && b113) with hp116 | hp116
                   ·refine ox_y (sT rfl rfl rfl rfl hp116) (yMI rfl) (ox_y (sT rfl rfl rfl rfl hp116) (y_eql rfl rfl) (ox_y rfl (y_pick_tb (vB hp116) rfl) ?_))
                    exact key _ _ (keep (keep (keep (keep (keep (keep rfl rfl) rfl) rfl) rfl) rfl) (vB (and_t hp116)))
                   ·refine oSk (sF rfl rfl rfl rfl hp116) (oSk (sF rfl rfl rfl rfl hp116) (ox_y rfl (y_pick_fb (vB hp116) rfl) ?_))
                    exact key _ _ (keep (keep (keep (keep (keep (keep rfl rfl) rfl) rfl) rfl) rfl) (vB (and_f hp116)))
                 ·rcases bool_cases b101 with hp115 | hp115
                  ·refine ox_y (sT rfl rfl rfl rfl hp115) (y_move_bool rfl) (ox_y rfl (y_pick_tb (vB hp115) rfl) ?_)
                   exact key _ _ (keep (keep (keep (keep (keep (keep (keep rfl rfl) rfl) rfl) rfl) rfl) rfl) (vB (and_t hp115)))
                  ·refine oSk (sF rfl rfl rfl rfl hp115) (ox_y rfl (y_pick_fb (vB hp115) rfl) ?_)
                   exact key _ _ (keep (keep (keep (keep (keep (keep (keep rfl rfl) rfl) rfl) rfl) rfl) rfl) (vB (and_f hp115)))
                ·clear h; rcases iOs hb114 with ⟨hp112,h⟩ | ⟨hp112,h⟩
                 ·refine ox_y (sT rfl rfl rfl rfl hp112) (yMS rfl) ?_
                  refine ox_buildSliceE 2 (encL cI [1,2]) _ mc_3_2 us_26 ze_3 by_3 (by decide) (by decide) (by kernel_rfl) (encL_len cI_len rfl) (sT rfl rfl rfl rfl hp112) (fun b121 => ?_)
                  try dsimp only [lna,lca,lsz,lss]
                  obtain ⟨y122,hy123,h⟩:=bOs h
                  refine ox_y (sT rfl rfl rfl rfl hp112) (y_call [.slice A75 y71.2.1.length c76,.slice (some ⟨b121,0,none⟩) 2 2] go_19 rfl (fun W2 hW2 => ref09_SameInts_ok y71.2.1 [1,2] y122 hy123 W2 A75 y71.2.1.length c76 rfl ((RdL.row 20 rfl) W2 hW2) (some ⟨b121,0,none⟩) 2 2 rfl ((RdL.row 23 rfl) W2 hW2)) rfl) (ox_y rfl (y_pick_tb (vB hp112) rfl) ?_)
                  obtain rfl:=sI h
                  refine ox_take 23 ?_
                  exact key _ _ (kp4 (kp4 rfl))
                 ·refine oSk (sF rfl rfl rfl rfl hp112) (oSk (sF rfl rfl rfl rfl hp112) (oSk (sF rfl rfl rfl rfl hp112) (ox_y rfl (y_pick_fb (vB hp112) rfl) ?_)))
                  obtain rfl:=sI h
                  exact key _ _ (kp4 (kp4 rfl))
               ·clear h; rcases iOs hb111 with ⟨hp109,h⟩ | ⟨hp109,h⟩
                ·refine ox_y (sT rfl rfl rfl rfl hp109) (yMS rfl) ?_
                 refine ox_buildSliceE 1 (encL cI [1]) _ mc_3_1 us_26 ze_3 by_3 (by decide) (by decide) (by kernel_rfl) (encL_len cI_len rfl) (sT rfl rfl rfl rfl hp109) (fun b124 => ?_)
                 try dsimp only [lna,lca,lsz,lss]
                 obtain ⟨y125,hy126,h⟩:=bOs h
                 refine ox_y (sT rfl rfl rfl rfl hp109) (y_call [.slice A73 y71.1.length c74,.slice (some ⟨b124,0,none⟩) 1 1] go_19 rfl (fun W2 hW2 => ref09_SameInts_ok y71.1 [1] y125 hy126 W2 A73 y71.1.length c74 rfl ((RdL.row 19 rfl) W2 hW2) (some ⟨b124,0,none⟩) 1 1 rfl ((RdL.row 23 rfl) W2 hW2)) rfl) (ox_y rfl (y_pick_tb (vB hp109) rfl) ?_)
                 obtain rfl:=sI h
                 refine ox_take 23 ?_
                 exact key _ _ (kp4 (kp4 (kp rfl)))
                ·refine oSk (sF rfl rfl rfl rfl hp109) (oSk (sF rfl rfl rfl rfl hp109) (oSk (sF rfl rfl rfl rfl hp109) (ox_y rfl (y_pick_fb (vB hp109) rfl) ?_)))
                 obtain rfl:=sI h
                 exact key _ _ (kp4 (kp4 (kp rfl)))
              ·clear h; rcases iOs hb108 with ⟨hp106,h⟩ | ⟨hp106,h⟩
               ·refine ox_y (sT rfl rfl rfl rfl hp106) (yMS rfl) ?_
                refine ox_buildSliceE 2 (encL cI [5,6]) _ mc_3_2 us_26 ze_3 by_3 (by decide) (by decide) (by kernel_rfl) (encL_len cI_len rfl) (sT rfl rfl rfl rfl hp106) (fun b127 => ?_)
                try dsimp only [lna,lca,lsz,lss]
                obtain ⟨y128,hy129,h⟩:=bOs h
                refine ox_y (sT rfl rfl rfl rfl hp106) (y_call [.slice A64 y62.1.length c65,.slice (some ⟨b127,0,none⟩) 2 2] go_19 rfl (fun W2 hW2 => ref09_SameInts_ok y62.1 [5,6] y128 hy129 W2 A64 y62.1.length c65 rfl ((RdL.row 17 rfl) W2 hW2) (some ⟨b127,0,none⟩) 2 2 rfl ((RdL.row 23 rfl) W2 hW2)) rfl) (ox_y rfl (y_pick_tb (vB hp106) rfl) ?_)
                obtain rfl:=sI h
                refine ox_take 23 ?_
                exact key _ _ (kp4 (kp4 (kp (kp rfl))))
               ·refine oSk (sF rfl rfl rfl rfl hp106) (oSk (sF rfl rfl rfl rfl hp106) (oSk (sF rfl rfl rfl rfl hp106) (ox_y rfl (y_pick_fb (vB hp106) rfl) ?_)))
                obtain rfl:=sI h
                exact key _ _ (kp4 (kp4 (kp (kp rfl))))
             ·clear h; rcases iOs hb102 with ⟨hp100,h⟩ | ⟨hp100,h⟩
              ·refine ox_y (sT rfl rfl rfl rfl hp100) (yMS rfl) ?_
               refine ox_buildSliceE 1 (encL cI [4]) _ mc_3_1 us_26 ze_3 by_3 (by decide) (by decide) (by kernel_rfl) (encL_len cI_len rfl) (sT rfl rfl rfl rfl hp100) (fun b130 => ?_)
               try dsimp only [lna,lca,lsz,lss]
               obtain ⟨y131,hy132,h⟩:=bOs h
               refine ox_y (sT rfl rfl rfl rfl hp100) (y_call [.slice A46 y44.1.length c47,.slice (some ⟨b130,0,none⟩) 1 1] go_19 rfl (fun W2 hW2 => ref09_SameInts_ok y44.1 [4] y131 hy132 W2 A46 y44.1.length c47 rfl ((RdL.row 11 rfl) W2 hW2) (some ⟨b130,0,none⟩) 1 1 rfl ((RdL.row 22 rfl) W2 hW2)) rfl) (ox_y rfl (y_pick_tb (vB hp100) rfl) ?_)
               obtain rfl:=sI h
               refine ox_take 22 ?_
               exact key _ _ (kp4 (kp4 (kp (kp (kp rfl)))))
              ·refine oSk (sF rfl rfl rfl rfl hp100) (oSk (sF rfl rfl rfl rfl hp100) (oSk (sF rfl rfl rfl rfl hp100) (ox_y rfl (y_pick_fb (vB hp100) rfl) ?_)))
               obtain rfl:=sI h
               exact key _ _ (kp4 (kp4 (kp (kp (kp rfl)))))
            ·clear h; rcases iOs hb99 with ⟨hp97,h⟩ | ⟨hp97,h⟩
             ·refine ox_y (sT rfl rfl rfl rfl hp97) (yMS rfl) ?_
              refine ox_buildSliceE 2 (encL cI [12,14]) _ mc_3_2 us_26 ze_3 by_3 (by decide) (by decide) (by kernel_rfl) (encL_len cI_len rfl) (sT rfl rfl rfl rfl hp97) (fun b133 => ?_)
              try dsimp only [lna,lca,lsz,lss]
              obtain ⟨y134,hy135,h⟩:=bOs h
              refine ox_y (sT rfl rfl rfl rfl hp97) (y_call [.slice A39 y37.1.length c40,.slice (some ⟨b133,0,none⟩) 2 2] go_19 rfl (fun W2 hW2 => ref09_SameInts_ok y37.1 [12,14] y134 hy135 W2 A39 y37.1.length c40 rfl ((RdL.row 9 rfl) W2 hW2) (some ⟨b133,0,none⟩) 2 2 rfl ((RdL.row 22 rfl) W2 hW2)) rfl) (ox_y rfl (y_pick_tb (vB hp97) rfl) ?_)
              obtain rfl:=sI h
              refine ox_take 22 ?_
              exact key _ _ (kp4 (kp4 (kp4 rfl)))
             ·refine oSk (sF rfl rfl rfl rfl hp97) (oSk (sF rfl rfl rfl rfl hp97) (oSk (sF rfl rfl rfl rfl hp97) (ox_y rfl (y_pick_fb (vB hp97) rfl) ?_)))
              obtain rfl:=sI h
              exact key _ _ (kp4 (kp4 (kp4 rfl)))
           ·clear h; rcases iOs hb96 with ⟨hp94,h⟩ | ⟨hp94,h⟩
            ·refine ox_y (sT rfl rfl rfl rfl hp94) (yMS rfl) ?_
             refine ox_buildSliceE 4 (encL cI [2,4,5,6]) _ mc_3_4 us_26 ze_3 by_3 (by decide) (by decide) (by kernel_rfl) (encL_len cI_len rfl) (sT rfl rfl rfl rfl hp94) (fun b136 => ?_)
             try dsimp only [lna,lca,lsz,lss]
             obtain ⟨y137,hy138,h⟩:=bOs h
             refine ox_y (sT rfl rfl rfl rfl hp94) (y_call [.slice A32 y30.1.length c33,.slice (some ⟨b136,0,none⟩) 4 4] go_19 rfl (fun W2 hW2 => ref09_SameInts_ok y30.1 [2,4,5,6] y137 hy138 W2 A32 y30.1.length c33 rfl ((RdL.row 7 rfl) W2 hW2) (some ⟨b136,0,none⟩) 4 4 rfl ((RdL.row 22 rfl) W2 hW2)) rfl) (ox_y rfl (y_pick_tb (vB hp94) rfl) ?_)
             obtain rfl:=sI h
             refine ox_take 22 ?_
             exact key _ _ (kp4 (kp4 (kp4 (kp rfl))))
            ·refine oSk (sF rfl rfl rfl rfl hp94) (oSk (sF rfl rfl rfl rfl hp94) (oSk (sF rfl rfl rfl rfl hp94) (ox_y rfl (y_pick_fb (vB hp94) rfl) ?_)))
             obtain rfl:=sI h
             exact key _ _ (kp4 (kp4 (kp4 (kp rfl))))
         ·rcases bool_cases (((((((((y20.2 != 0) || (y23.2 != 0)) || (y30.2 != 0)) || (y37.2 != 0)) || (y44.2 != 0)) || (y51.2 != 0)) || (y58.2 != 0)) || (y62.2.2 != 0)) || (y69.2.2 != 0)) with hp89 | hp89
          ·refine oSk (sF rfl rfl rfl rfl hp89) (oSk (sF rfl rfl rfl rfl hp89) (ox_y rfl (y_pick_tb (vB hp89) rfl) ?_))
           exact key _ _ (keep (keep (keep (keep (keep (keep (keep (keep (keep (keep (keep (keep (keep (keep (keep rfl rfl) rfl) rfl) rfl) rfl) rfl) rfl) rfl) rfl) rfl) rfl) rfl) rfl) rfl) (vB (or_t hp89)))
          ·refine ox_y (sT rfl rfl rfl rfl hp89) (yMI rfl) (ox_y (sT rfl rfl rfl rfl hp89) (y_neq rfl rfl) (ox_y rfl (y_pick_fb (vB hp89) rfl) ?_))
           exact key _ _ (keep (keep (keep (keep (keep (keep (keep (keep (keep (keep (keep (keep (keep (keep (keep rfl rfl) rfl) rfl) rfl) rfl) rfl) rfl) rfl) rfl) rfl) rfl) rfl) rfl) rfl) (vB (or_f hp89)))
        ·rcases bool_cases ((((((((y20.2 != 0) || (y23.2 != 0)) || (y30.2 != 0)) || (y37.2 != 0)) || (y44.2 != 0)) || (y51.2 != 0)) || (y58.2 != 0)) || (y62.2.2 != 0)) with hp88 | hp88
         ·refine oSk (sF rfl rfl rfl rfl hp88) (oSk (sF rfl rfl rfl rfl hp88) (ox_y rfl (y_pick_tb (vB hp88) rfl) ?_))
          exact key _ _ (keep (keep (keep (keep (keep (keep (keep (keep (keep (keep (keep (keep (keep (keep (keep (keep rfl rfl) rfl) rfl) rfl) rfl) rfl) rfl) rfl) rfl) rfl) rfl) rfl) rfl) rfl) rfl) (vB (or_t hp88)))
         ·refine ox_y (sT rfl rfl rfl rfl hp88) (yMI rfl) (ox_y (sT rfl rfl rfl rfl hp88) (y_neq rfl rfl) (ox_y rfl (y_pick_fb (vB hp88) rfl) ?_))
          exact key _ _ (keep (keep (keep (keep (keep (keep (keep (keep (keep (keep (keep (keep (keep (keep (keep (keep rfl rfl) rfl) rfl) rfl) rfl) rfl) rfl) rfl) rfl) rfl) rfl) rfl) rfl) rfl) rfl) (vB (or_f hp88)))
       ·rcases bool_cases (((((((y20.2 != 0) || (y23.2 != 0)) || (y30.2 != 0)) || (y37.2 != 0)) || (y44.2 != 0)) || (y51.2 != 0)) || (y58.2 != 0)) with hp87 | hp87
        ·refine oSk (sF rfl rfl rfl rfl hp87) (oSk (sF rfl rfl rfl rfl hp87) (ox_y rfl (y_pick_tb (vB hp87) rfl) ?_))
         exact key _ _ (keep (keep (keep (keep (keep (keep (keep (keep (keep (keep (keep (keep (keep (keep (keep (keep (keep rfl rfl) rfl) rfl) rfl) rfl) rfl) rfl) rfl) rfl) rfl) rfl) rfl) rfl) rfl) rfl) rfl) (vB (or_t hp87)))
        ·refine ox_y (sT rfl rfl rfl rfl hp87) (yMI rfl) (ox_y (sT rfl rfl rfl rfl hp87) (y_neq rfl rfl) (ox_y rfl (y_pick_fb (vB hp87) rfl) ?_))
         exact key _ _ (keep (keep (keep (keep (keep (keep (keep (keep (keep (keep (keep (keep (keep (keep (keep (keep (keep rfl rfl) rfl) rfl) rfl) rfl) rfl) rfl) rfl) rfl) rfl) rfl) rfl) rfl) rfl) rfl) rfl) (vB (or_f hp87)))
      ·rcases bool_cases ((((((y20.2 != 0) || (y23.2 != 0)) || (y30.2 != 0)) || (y37.2 != 0)) || (y44.2 != 0)) || (y51.2 != 0)) with hp86 | hp86
       ·refine oSk (sF rfl rfl rfl rfl hp86) (oSk (sF rfl rfl rfl rfl hp86) (ox_y rfl (y_pick_tb (vB hp86) rfl) ?_))
        exact key _ _ (keep (keep (keep (keep (keep (keep (keep (keep (keep (keep (keep (keep (keep (keep (keep (keep (keep (keep rfl rfl) rfl) rfl) rfl) rfl) rfl) rfl) rfl) rfl) rfl) rfl) rfl) rfl) rfl) rfl) rfl) rfl) (vB (or_t hp86)))
       ·refine ox_y (sT rfl rfl rfl rfl hp86) (yMI rfl) (ox_y (sT rfl rfl rfl rfl hp86) (y_neq rfl rfl) (ox_y rfl (y_pick_fb (vB hp86) rfl) ?_))
        exact key _ _ (keep (keep (keep (keep (keep (keep (keep (keep (keep (keep (keep (keep (keep (keep (keep (keep (keep (keep rfl rfl) rfl) rfl) rfl) rfl) rfl) rfl) rfl) rfl) rfl) rfl) rfl) rfl) rfl) rfl) rfl) rfl) (vB (or_f hp86)))
     ·rcases bool_cases (((((y20.2 != 0) || (y23.2 != 0)) || (y30.2 != 0)) || (y37.2 != 0)) || (y44.2 != 0)) with hp85 | hp85
      ·refine oSk (sF rfl rfl rfl rfl hp85) (oSk (sF rfl rfl rfl rfl hp85) (ox_y rfl (y_pick_tb (vB hp85) rfl) ?_))
       exact key _ _ (keep (keep (keep (keep (keep (keep (keep (keep (keep (keep (keep (keep (keep (keep (keep (keep (keep (keep (keep rfl rfl) rfl) rfl) rfl) rfl) rfl) rfl) rfl) rfl) rfl) rfl) rfl) rfl) rfl) rfl) rfl) rfl) rfl) (vB (or_t hp85)))
      ·refine ox_y (sT rfl rfl rfl rfl hp85) (yMI rfl) (ox_y (sT rfl rfl rfl rfl hp85) (y_neq rfl rfl) (ox_y rfl (y_pick_fb (vB hp85) rfl) ?_))
       exact key _ _ (keep (keep (keep (keep (keep (keep (keep (keep (keep (keep (keep (keep (keep (keep (keep (keep (keep (keep (keep rfl rfl) rfl) rfl) rfl) rfl) rfl) rfl) rfl) rfl) rfl) rfl) rfl) rfl) rfl) rfl) rfl) rfl) rfl) (vB (or_f hp85)))
    ·rcases bool_cases ((((y20.2 != 0) || (y23.2 != 0)) || (y30.2 != 0)) || (y37.2 != 0)) with hp84 | hp84
     ·refine oSk (sF rfl rfl rfl rfl hp84) (oSk (sF rfl rfl rfl rfl hp84) (ox_y rfl (y_pick_tb (vB hp84) rfl) ?_))
      exact key _ _ (keep (keep (keep (keep (keep (keep (keep (keep (keep (keep (keep (keep (keep (keep (keep (keep (keep (keep (keep (keep rfl rfl) rfl) rfl) rfl) rfl) rfl) rfl) rfl) rfl) rfl) rfl) rfl) rfl) rfl) rfl) rfl) rfl) rfl) rfl) (vB (or_t hp84)))
     ·refine ox_y (sT rfl rfl rfl rfl hp84) (yMI rfl) (ox_y (sT rfl rfl rfl rfl hp84) (y_neq rfl rfl) (ox_y rfl (y_pick_fb (vB hp84) rfl) ?_))
      exact key _ _ (keep (keep (keep (keep (keep (keep (keep (keep (keep (keep (keep (keep (keep (keep (keep (keep (keep (keep (keep (keep rfl rfl) rfl) rfl) rfl) rfl) rfl) rfl) rfl) rfl) rfl) rfl) rfl) rfl) rfl) rfl) rfl) rfl) rfl) rfl) (vB (or_f hp84)))
   ·rcases bool_cases (((y20.2 != 0) || (y23.2 != 0)) || (y30.2 != 0)) with hp83 | hp83
    ·refine oSk (sF rfl rfl rfl rfl hp83) (oSk (sF rfl rfl rfl rfl hp83) (ox_y rfl (y_pick_tb (vB hp83) rfl) ?_))
     exact key _ _ (keep (keep (keep (keep (keep (keep (keep (keep (keep (keep (keep (keep (keep (keep (keep (keep (keep (keep (keep (keep (keep rfl rfl) rfl) rfl) rfl) rfl) rfl) rfl) rfl) rfl) rfl) rfl) rfl) rfl) rfl) rfl) rfl) rfl) rfl) rfl) rfl) (vB (or_t hp83)))
    ·refine ox_y (sT rfl rfl rfl rfl hp83) (yMI rfl) (ox_y (sT rfl rfl rfl rfl hp83) (y_neq rfl rfl) (ox_y rfl (y_pick_fb (vB hp83) rfl) ?_))
     exact key _ _ (keep (keep (keep (keep (keep (keep (keep (keep (keep (keep (keep (keep (keep (keep (keep (keep (keep (keep (keep (keep (keep rfl rfl) rfl) rfl) rfl) rfl) rfl) rfl) rfl) rfl) rfl) rfl) rfl) rfl) rfl) rfl) rfl) rfl) rfl) rfl) rfl) (vB (or_f hp83)))
  ·rcases bool_cases ((y20.2 != 0) || (y23.2 != 0)) with hp82 | hp82
   ·refine oSk (sF rfl rfl rfl rfl hp82) (oSk (sF rfl rfl rfl rfl hp82) (ox_y rfl (y_pick_tb (vB hp82) rfl) ?_))
    exact key _ _ (keep (keep (keep (keep (keep (keep (keep (keep (keep (keep (keep (keep (keep (keep (keep (keep (keep (keep (keep (keep (keep (keep rfl rfl) rfl) rfl) rfl) rfl) rfl) rfl) rfl) rfl) rfl) rfl) rfl) rfl) rfl) rfl) rfl) rfl) rfl) rfl) rfl) rfl) (vB (or_t hp82)))
   ·refine ox_y (sT rfl rfl rfl rfl hp82) (yMI rfl) (ox_y (sT rfl rfl rfl rfl hp82) (y_neq rfl rfl) (ox_y rfl (y_pick_fb (vB hp82) rfl) ?_))
    exact key _ _ (keep (keep (keep (keep (keep (keep (keep (keep (keep (keep (keep (keep (keep (keep (keep (keep (keep (keep (keep (keep (keep (keep rfl rfl) rfl) rfl) rfl) rfl) rfl) rfl) rfl) rfl) rfl) rfl) rfl) rfl) rfl) rfl) rfl) rfl) rfl) rfl) rfl) rfl) (vB (or_f hp82)))
 ·rcases bool_cases (y20.2 != 0) with hp81 | hp81
  ·refine oSk (sF rfl rfl rfl rfl hp81) (oSk (sF rfl rfl rfl rfl hp81) (ox_y rfl (y_pick_tb (vB hp81) rfl) ?_))
   exact key _ _ (keep (keep (keep (keep (keep (keep (keep (keep (keep (keep (keep (keep (keep (keep (keep (keep (keep (keep (keep (keep (keep (keep (keep rfl rfl) rfl) rfl) rfl) rfl) rfl) rfl) rfl) rfl) rfl) rfl) rfl) rfl) rfl) rfl) rfl) rfl) rfl) rfl) rfl) rfl) rfl) (vB (or_t hp81)))
  ·refine ox_y (sT rfl rfl rfl rfl hp81) (yMI rfl) (ox_y (sT rfl rfl rfl rfl hp81) (y_neq rfl rfl) (ox_y rfl (y_pick_fb (vB hp81) rfl) ?_))
   exact key _ _ (keep (keep (keep (keep (keep (keep (keep (keep (keep (keep (keep (keep (keep (keep (keep (keep (keep (keep (keep (keep (keep (keep (keep rfl rfl) rfl) rfl) rfl) rfl) rfl) rfl) rfl) rfl) rfl) rfl) rfl) rfl) rfl) rfl) rfl) rfl) rfl) rfl) rfl) rfl) rfl) (vB (or_f hp81)))
theorem calxlaw09_few_ok (p0:TL) (res:Bool) (h:calxlaw09_few p0 = some res) (W:World) (Aa:Option Addr) (n0_0 ca : Nat) (hn0_0:n0_0 = p0.fNo.length) (hr0_0:Rd W Aa n0_0 ca (encL TNode_cells p0.fNo)) (Ab:Option Addr) (n0_1 cb : Nat) (ys0_1:List (Hd × TC)) (hn0_1:n0_1 = p0.fC.length) (hr0_1:Rd W Ab n0_1 cb (encL TClaim_cells2 ys0_1)) (hN0_1:NestW W (fun z : TC => z.fO) THop_cells ys0_1 p0.fC) :
  Calls Tryz.prog 14 [.agg #[.slice Aa n0_0 ca,.slice Ab n0_1 cb]].toArray W fun e W2 => e = .returned (.bool res) ∧ Ext W W2 []:=by
 subst hn0_0
 subst hn0_1
 unfold calxlaw09_few at h
 refine calls_enter (m:=73) Tryz.func14 rfl rfl (nB rfl) ?_
 refine cS (cR ?_)
 refine ox_box [.slice Aa p0.fNo.length ca,.slice Ab p0.fC.length cb] rfl rfl rfl (fun b1 => ?_)
 refine ox_y rfl (y_assign_bool rfl) ?_
 refine oN (eT (cS (cR ?_)))
 refine ox_y rfl (yAI rfl) ?_
 refine oN (eT (cS (cS (cR ?_))))
 refine ox_y rfl (yAI rfl) ?_
 refine oN (eT (cx_block ?_))
 obtain ⟨u4,hl8,h⟩:=bOs h
 refine cx_loop (fun (s:(Bool × Int × Int)) L tm => ∃ (tm0:Nat → Value),L = [cellsR b1 25 [.slice Aa p0.fNo.length ca,.slice Ab p0.fC.length cb]] ∧ tm = (upd (upd (upd (upd (upd tm0 0 (.agg #[.slice Aa p0.fNo.length ca,.slice Ab p0.fC.length cb])) 1 (.pointer (some ⟨b1,0,none⟩))) 2 (.bool s.1)) 3 (.int .i64 s.2.1)) 4 (.int .i64 s.2.2))) (fun | (.inl s),e,L,tm => e = .ret ∧ ∃ (tm0:Nat → Value),L = [cellsR b1 25 [.slice Aa p0.fNo.length ca,.slice Ab p0.fC.length cb]] ∧ tm = (upd (upd (upd (upd (upd tm0 0 (.agg #[.slice Aa p0.fNo.length ca,.slice Ab p0.fC.length cb])) 1 (.pointer (some ⟨b1,0,none⟩))) 2 (.bool s.1)) 3 (.int .i64 s.2.1)) 4 (.int .i64 s.2.2)) | (.inr s),e,L,tm => e = .exit 0 ∧ ∃ (tm0:Nat → Value),L = [cellsR b1 25 [.slice Aa p0.fNo.length ca,.slice Ab p0.fC.length cb]] ∧ tm = (upd (upd (upd (upd (upd tm0 0 (.agg #[.slice Aa p0.fNo.length ca,.slice Ab p0.fC.length cb])) 1 (.pointer (some ⟨b1,0,none⟩))) 2 (.bool s.1)) 3 (.int .i64 s.2.1)) 4 (.int .i64 s.2.2))) hl8 ⟨_,rfl,(kp4 (kp rfl))⟩ ?_ ?_
 ·rintro s3 L tm st ⟨tm0_s3,rfl,rfl⟩ h
  unfold calxlaw09_few_l1 at h
  refine cS (cS (cR ?_))
  refine ox_y rfl (yMI rfl) (ox_y rfl (yFA fo_25_1 rfl) (ox_y rfl (y_load1 0 (v:=.slice Ab p0.fC.length cb) sc_23 rfl rfl rfl) (ox_y rfl (y_len (us:=[]) us_23 rfl) (ox_y rfl (y_lss rfl rfl) ?_))))
  refine oN (eT ?_)
  rcases iOs h with ⟨hp5,h⟩ | ⟨hp5,h⟩
  ·refine cx_true (vB hp5) ?_
   refine cx_skip (eT (cS (cx_block (cS (cR ?_)))))
   refine ox_y rfl (yFA fo_25_1 rfl) (ox_y rfl (y_load1 0 (v:=.slice Ab p0.fC.length cb) sc_23 rfl rfl rfl) (ox_y rfl (yMI rfl) ?_))
   obtain ⟨hg6,h⟩:=gOs h
   refine ox_y rfl (y_indexR sl_23 (by decide) hg6.1 hg6.2 (RdL.arg hr0_1) (encL_len TClaim_cells2_len (NestP.hn hN0_1.p rfl)) rfl rfl) ?_
   refine ox_y rfl (y_fieldAddrR (A:=Ab) (j:=(Int.toNat s3.2.2 * 2)) fo_90_1 rfl) (ox_y rfl (y_loadR1 (A:=Ab) (j:=((Int.toNat s3.2.2 * 2) + 1)) (v:=.slice ((rdL ys0_1 s3.2.2).1.1) ((rdL p0.fC s3.2.2).fO.length) ((rdL ys0_1 s3.2.2).1.2.2)) sc_88 (RdL.arg hr0_1) rfl (encL_get TClaim_cells2_len hg6.1 (lt_nat hg6.2 (NestP.hn hN0_1.p rfl)) (congrArg (fun n : Nat => some (Value.slice (rdL ys0_1 s3.2.2).1.1 n (rdL ys0_1 s3.2.2).1.2.2)) (NestP.len hN0_1.p hg6.1 (lt_nat hg6.2 rfl))))) (ox_y rfl (y_len (us:=[]) us_88 rfl) (ox_y rfl (yAI rfl) ?_)))
   refine oN (eT (cS (cS (cR ?_))))
   refine ox_y rfl (yMI rfl) (ox_y rfl (y_gtr rfl rfl) ?_)
   refine oN (eT ?_)
   rcases iOs h with ⟨hp7,h⟩ | ⟨hp7,h⟩
   ·refine cx_true (vB hp7) ?_
    refine cS (cR ?_)
    refine ox_y rfl (y_assign_bool rfl) ?_
    refine oN (eT (cx_ret (ex_then_ret (ex_block_ret (ex_then_ret ?_)))))
    obtain rfl:=sI h
    exact ex_stop ⟨rfl,_,rfl,(kp4 (kp rfl))⟩
   ·refine cx_false (vB hp7) ?_
    refine cx_skip (eT (cR ?_))
    refine ox_y rfl (yMI rfl) (ox_y rfl (yMI rfl) (ox_y rfl (y_max rfl rfl) (ox_y rfl (y_mul rfl rfl) (ox_y rfl (y_min rfl rfl) (ox_y rfl (yAI rfl) (oN (ex_block ?_)))))))
    refine eT (cR ?_)
    refine ox_y rfl (yMI rfl) (ox_y rfl (y_add rfl rfl) (ox_y rfl (yAI rfl) (oN ?_)))
    obtain rfl:=sI h
    exact ex_next ⟨_,rfl,(kp4 (kp rfl))⟩
  ·refine cx_false (vB hp5) (cx_exit (ex_then_exit ?_))
   obtain rfl:=sI h
   exact ex_stop ⟨rfl,_,rfl,(kp4 (kp rfl))⟩
 ·intro e L tm hJ
  rcases u4 with u9 | u10
  ·dsimp only at h hJ
   obtain ⟨rfl,tm0_u9,rfl,rfl⟩:=hJ
   refine ⟨(by intro hc; cases hc),?_⟩
   refine ex_block_ret (ex_then_ret ?_)
   obtain rfl:=sI h
   exact ex_res1 (.inl rfl) rfl (rVt (v:=.bool u9.1) rfl) (fun W2 hW2 => ⟨rfl,hW2.none⟩)
  ·dsimp only at h hJ
   obtain ⟨rfl,tm0_u10,rfl,rfl⟩:=hJ
   refine ⟨(by intro hc; cases hc),?_⟩
   refine ex_block_here ?_
   refine eT (cS (cR ?_))
   refine ox_y rfl (yFA fo_25_0 rfl) (ox_y rfl (y_load1 0 (v:=.slice Aa p0.fNo.length ca) sc_22 rfl rfl rfl) (ox_y rfl (y_len (us:=[]) us_22 rfl) (ox_y rfl (y_leq rfl rfl) (ox_y rfl (y_move_bool rfl) ?_))))
   refine ox_join 11 (fun tm0 => (upd (upd (upd (upd tm0 1 (.pointer (some ⟨b1,0,none⟩))) 2 (.bool u10.1)) 3 (.int .i64 u10.2.1)) 44 (.bool ((decide ((p0.fNo.length:Int) ≤ 12)) || ((decide (60 < (p0.fNo.length:Int))) && (decide ((p0.fNo.length:Int) ≤ 80))))))) (fun tm0 => ?_) (fun key => ?_)
   ·refine ox_y rfl (y_assign_bool rfl) ?_
    refine oN (eT (cS (cR ?_)))
    refine ox_y rfl (yFA fo_25_1 rfl) (ox_y rfl (y_load1 0 (v:=.slice Ab p0.fC.length cb) sc_23 rfl rfl rfl) (ox_y rfl (y_len (us:=[]) us_23 rfl) (ox_y rfl (y_leq rfl rfl) (ox_y rfl (y_move_bool rfl) ?_))))
    refine ox_join 11 (fun tm0 => (upd (upd (upd (upd tm0 2 (.bool u10.1)) 3 (.int .i64 u10.2.1)) 6 (.bool ((decide ((p0.fNo.length:Int) ≤ 12)) || ((decide (60 < (p0.fNo.length:Int))) && (decide ((p0.fNo.length:Int) ≤ 80)))))) 60 (.bool ((decide ((p0.fC.length:Int) ≤ 12)) || ((decide (80 < (p0.fC.length:Int))) && (decide ((p0.fC.length:Int) ≤ 100))))))) (fun tm0 => ?_) (fun key => ?_)
    ·refine ox_y rfl (y_assign_bool rfl) ?_
     refine oN (eT (cS (cR ?_)))
     refine ox_y rfl (y_move_bool rfl) (ox_y rfl (y_move_bool rfl) ?_)
     refine ox_join 2 (fun tm0 => (upd (upd (upd tm0 2 (.bool u10.1)) 3 (.int .i64 u10.2.1)) 64 (.bool (((decide ((p0.fNo.length:Int) ≤ 12)) || ((decide (60 < (p0.fNo.length:Int))) && (decide ((p0.fNo.length:Int) ≤ 80)))) && ((decide ((p0.fC.length:Int) ≤ 12)) || ((decide (80 < (p0.fC.length:Int))) && (decide ((p0.fC.length:Int) ≤ 100)))))))) (fun tm0 => ?_) (fun key => ?_)
     ·refine ox_y rfl (y_move_bool rfl) ?_
      refine ox_join 7 (fun tm0 => (upd (upd tm0 2 (.bool u10.1)) 72 (.bool ((((decide ((p0.fNo.length:Int) ≤ 12)) || ((decide (60 < (p0.fNo.length:Int))) && (decide ((p0.fNo.length:Int) ≤ 80)))) && ((decide ((p0.fC.length:Int) ≤ 12)) || ((decide (80 < (p0.fC.length:Int))) && (decide ((p0.fC.length:Int) ≤ 100))))) && ((decide (u10.2.1 ≤ 64)) || (decide (4096 < u10.2.1))))))) (fun tm0 => ?_) (fun key => ?_)
      ·refine ox_y rfl (y_assign_bool rfl) ?_
       refine oN (eT (cx_ret ?_))
       obtain rfl:=sI h
       exact ex_res1 (.inl rfl) rfl (rVt (v:=.bool ((((decide ((p0.fNo.length:Int) ≤ 12)) || ((decide (60 < (p0.fNo.length:Int))) && (decide ((p0.fNo.length:Int) ≤ 80)))) && ((decide ((p0.fC.length:Int) ≤ 12)) || ((decide (80 < (p0.fC.length:Int))) && (decide ((p0.fC.length:Int) ≤ 100))))) && ((decide (u10.2.1 ≤ 64)) || (decide (4096 < u10.2.1))))) rfl) (fun W2 hW2 => ⟨rfl,hW2.none⟩)
      ·rcases bool_cases (((decide ((p0.fNo.length:Int) ≤ 12)) || ((decide (60 < (p0.fNo.length:Int))) && (decide ((p0.fNo.length:Int) ≤ 80)))) && ((decide ((p0.fC.length:Int) ≤ 12)) || ((decide (80 < (p0.fC.length:Int))) && (decide ((p0.fC.length:Int) ≤ 100))))) with hp14 | hp14
       ·refine ox_y (sT rfl rfl rfl rfl hp14) (yMI rfl) (ox_y (sT rfl rfl rfl rfl hp14) (y_leq rfl rfl) (ox_y (sT rfl rfl rfl rfl hp14) (y_move_bool rfl) ?_))
        refine ox_join 3 (fun tm0 => (upd (upd (upd tm0 2 (.bool u10.1)) 65 (.bool (((decide ((p0.fNo.length:Int) ≤ 12)) || ((decide (60 < (p0.fNo.length:Int))) && (decide ((p0.fNo.length:Int) ≤ 80)))) && ((decide ((p0.fC.length:Int) ≤ 12)) || ((decide (80 < (p0.fC.length:Int))) && (decide ((p0.fC.length:Int) ≤ 100))))))) 71 (.bool ((decide (u10.2.1 ≤ 64)) || (decide (4096 < u10.2.1)))))) (fun tm0 => ?_) (fun key => ?_)
        ·refine ox_y rfl (y_pick_tb (vB hp14) rfl) ?_
         exact key _ _ (keep (keep rfl rfl) (vB (and_t hp14)))
        ·rcases bool_cases (decide (u10.2.1 ≤ 64)) with hp15 | hp15
         ·refine oSk (sF rfl rfl rfl rfl hp15) (oSk (sF rfl rfl rfl rfl hp15) (ox_y (sT rfl rfl rfl rfl hp14) (y_pick_tb (vB hp15) rfl) ?_))
          exact key _ _ (keep (keep (keep rfl rfl) rfl) (vB (or_t hp15)))
         ·refine ox_y (sT rfl rfl rfl rfl hp15) (yMI rfl) (ox_y (sT rfl rfl rfl rfl hp15) (y_gtr rfl rfl) (ox_y (sT rfl rfl rfl rfl hp14) (y_pick_fb (vB hp15) rfl) ?_))
          exact key _ _ (keep (keep (keep rfl rfl) rfl) (vB (or_f hp15)))
       ·refine oSk (sF rfl rfl rfl rfl hp14) (oSk (sF rfl rfl rfl rfl hp14) (oSk (sF rfl rfl rfl rfl hp14) (oSk rfl (oSk rfl (oSk (sF rfl rfl rfl rfl hp14) (ox_y rfl (y_pick_fb (vB hp14) rfl) ?_))))))
        exact key _ _ (keep (keep rfl rfl) (vB (and_f hp14)))
     ·rcases bool_cases ((decide ((p0.fNo.length:Int) ≤ 12)) || ((decide (60 < (p0.fNo.length:Int))) && (decide ((p0.fNo.length:Int) ≤ 80)))) with hp13 | hp13
      ·refine ox_y (sT rfl rfl rfl rfl hp13) (y_move_bool rfl) (ox_y rfl (y_pick_tb (vB hp13) rfl) ?_)
       exact key _ _ (keep (keep (keep rfl rfl) rfl) (vB (and_t hp13)))
      ·refine oSk (sF rfl rfl rfl rfl hp13) (ox_y rfl (y_pick_fb (vB hp13) rfl) ?_)
       exact key _ _ (keep (keep (keep rfl rfl) rfl) (vB (and_f hp13)))
    ·rcases bool_cases (decide ((p0.fC.length:Int) ≤ 12)) with hp12 | hp12
     ·refine oSk (sF rfl rfl rfl rfl hp12) (oSk (sF rfl rfl rfl rfl hp12) (oSk (sF rfl rfl rfl rfl hp12) (oSk (sF rfl rfl rfl rfl hp12) (oSk (sF rfl rfl rfl rfl hp12) (oSk rfl (oSk rfl (oSk rfl (oSk rfl (oSk (sF rfl rfl rfl rfl hp12) (ox_y rfl (y_pick_tb (vB hp12) rfl) ?_))))))))))
      exact key _ _ (keep (keep (keep (keep rfl rfl) rfl) rfl) (vB (or_t hp12)))
     ·refine ox_y (sT rfl rfl rfl rfl hp12) (yFA fo_25_1 rfl) (ox_y (sT rfl rfl rfl rfl hp12) (y_load1 0 (v:=.slice Ab p0.fC.length cb) sc_23 rfl rfl rfl) (ox_y (sT rfl rfl rfl rfl hp12) (y_len (us:=[]) us_23 rfl) (ox_y (sT rfl rfl rfl rfl hp12) (y_gtr rfl rfl) (ox_y (sT rfl rfl rfl rfl hp12) (y_move_bool rfl) ?_))))
      refine ox_join 5 (fun tm0 => (upd (upd (upd (upd (upd tm0 2 (.bool u10.1)) 3 (.int .i64 u10.2.1)) 6 (.bool ((decide ((p0.fNo.length:Int) ≤ 12)) || ((decide (60 < (p0.fNo.length:Int))) && (decide ((p0.fNo.length:Int) ≤ 80)))))) 49 (.bool (decide ((p0.fC.length:Int) ≤ 12)))) 59 (.bool ((decide (80 < (p0.fC.length:Int))) && (decide ((p0.fC.length:Int) ≤ 100)))))) (fun tm0 => ?_) (fun key => ?_)
      ·refine ox_y rfl (y_pick_fb (vB hp12) rfl) ?_
       exact key _ _ (keep (keep (keep (keep rfl rfl) rfl) rfl) (vB (or_f hp12)))
      ·rcases bool_cases (decide (80 < (p0.fC.length:Int))) with hp16 | hp16
       ·refine ox_y (sT rfl rfl rfl rfl hp16) (yFA fo_25_1 rfl) (ox_y (sT rfl rfl rfl rfl hp16) (y_load1 0 (v:=.slice Ab p0.fC.length cb) sc_23 rfl rfl rfl) (ox_y (sT rfl rfl rfl rfl hp16) (y_len (us:=[]) us_23 rfl) (ox_y (sT rfl rfl rfl rfl hp16) (y_leq rfl rfl) (ox_y (sT rfl rfl rfl rfl hp12) (y_pick_tb (vB hp16) rfl) ?_))))
        exact key _ _ (keep (keep (keep (keep (keep rfl rfl) rfl) rfl) rfl) (vB (and_t hp16)))
       ·refine oSk (sF rfl rfl rfl rfl hp16) (oSk (sF rfl rfl rfl rfl hp16) (oSk (sF rfl rfl rfl rfl hp16) (oSk (sF rfl rfl rfl rfl hp16) (ox_y (sT rfl rfl rfl rfl hp12) (y_pick_fb (vB hp16) rfl) ?_))))
        exact key _ _ (keep (keep (keep (keep (keep rfl rfl) rfl) rfl) rfl) (vB (and_f hp16)))
   ·rcases bool_cases (decide ((p0.fNo.length:Int) ≤ 12)) with hp11 | hp11
    ·refine oSk (sF rfl rfl rfl rfl hp11) (oSk (sF rfl rfl rfl rfl hp11) (oSk (sF rfl rfl rfl rfl hp11) (oSk (sF rfl rfl rfl rfl hp11) (oSk (sF rfl rfl rfl rfl hp11) (oSk rfl (oSk rfl (oSk rfl (oSk rfl (oSk (sF rfl rfl rfl rfl hp11) (ox_y rfl (y_pick_tb (vB hp11) rfl) ?_))))))))))
     exact key _ _ (keep (keep (keep (keep rfl rfl) rfl) rfl) (vB (or_t hp11)))
    ·refine ox_y (sT rfl rfl rfl rfl hp11) (yFA fo_25_0 rfl) (ox_y (sT rfl rfl rfl rfl hp11) (y_load1 0 (v:=.slice Aa p0.fNo.length ca) sc_22 rfl rfl rfl) (ox_y (sT rfl rfl rfl rfl hp11) (y_len (us:=[]) us_22 rfl) (ox_y (sT rfl rfl rfl rfl hp11) (y_gtr rfl rfl) (ox_y (sT rfl rfl rfl rfl hp11) (y_move_bool rfl) ?_))))
     refine ox_join 5 (fun tm0 => (upd (upd (upd (upd (upd tm0 1 (.pointer (some ⟨b1,0,none⟩))) 2 (.bool u10.1)) 3 (.int .i64 u10.2.1)) 33 (.bool (decide ((p0.fNo.length:Int) ≤ 12)))) 43 (.bool ((decide (60 < (p0.fNo.length:Int))) && (decide ((p0.fNo.length:Int) ≤ 80)))))) (fun tm0 => ?_) (fun key => ?_)
     ·refine ox_y rfl (y_pick_fb (vB hp11) rfl) ?_
      exact key _ _ (keep (keep (keep (keep rfl rfl) rfl) rfl) (vB (or_f hp11)))
     ·rcases bool_cases (decide (60 < (p0.fNo.length:Int))) with hp17 | hp17
      ·refine ox_y (sT rfl rfl rfl rfl hp17) (yFA fo_25_0 rfl) (ox_y (sT rfl rfl rfl rfl hp17) (y_load1 0 (v:=.slice Aa p0.fNo.length ca) sc_22 rfl rfl rfl) (ox_y (sT rfl rfl rfl rfl hp17) (y_len (us:=[]) us_22 rfl) (ox_y (sT rfl rfl rfl rfl hp17) (y_leq rfl rfl) (ox_y (sT rfl rfl rfl rfl hp11) (y_pick_tb (vB hp17) rfl) ?_))))
       exact key _ _ (keep (keep (keep (keep (keep rfl rfl) rfl) rfl) rfl) (vB (and_t hp17)))
      ·refine oSk (sF rfl rfl rfl rfl hp17) (oSk (sF rfl rfl rfl rfl hp17) (oSk (sF rfl rfl rfl rfl hp17) (oSk (sF rfl rfl rfl rfl hp17) (ox_y (sT rfl rfl rfl rfl hp11) (y_pick_fb (vB hp17) rfl) ?_))))
       exact key _ _ (keep (keep (keep (keep (keep rfl rfl) rfl) rfl) rfl) (vB (and_f hp17)))
end Go.Proofs.YtbblpokfbmekfaaGreat
