import Derived.Test.YtbblpokfbmekfaaGreatF
import Derived.Test.YtbblpokfbmekfaaGreatG3
import Derived.Test.YtbblpokfbmekfaaGreatGv
import Derived.Test.YtbblpokfbmekfaaGreatC0
import Derived.Test.YtbblpokfbmekfaaGreatC1
set_option maxHeartbeats 4000000
set_option maxRecDepth 100000
set_option linter.unusedVariables false
namespace Go.Proofs.YtbblpokfbmekfaaGreat
open Go.RowKit (Below)
attribute [local irreducible] OX QX CX EX OpY Calls CallsIn
theorem recall_sure_ok (p0:TL) (p1:(List Int)) (res:(List (Int × Bool))) (h:recall_sure p0 p1 = some res) (W:World) (Aa:Option Addr) (n0_0 ca : Nat) (hn0_0:n0_0 = p0.fNo.length) (hr0_0:Rd W Aa n0_0 ca (encL TNode_cells p0.fNo)) (Ab:Option Addr) (n0_1 cb : Nat) (ys0_1:List (Hd × TC)) (hn0_1:n0_1 = p0.fC.length) (hr0_1:Rd W Ab n0_1 cb (encL TClaim_cells2 ys0_1)) (hN0_1:NestW W (fun z : TC => z.fO) THop_cells ys0_1 p0.fC) (Ac:Option Addr) (n1_0 cc : Nat) (hn1_0:n1_0 = p1.length) (hr1_0:Rd W Ac n1_0 cc (encL cI p1)) :
  Calls Tryz.prog 64 [.agg #[.slice Aa n0_0 ca,.slice Ab n0_1 cb],.slice Ac n1_0 cc].toArray W fun e W2 => ∃ x : Nat,e = .returned (.map (some x)) ∧ Ext W W2 [mapV Tryz.prog 3 kI rngB kB false x res]:=by
 subst hn0_0
 subst hn0_1
 subst hn1_0
 unfold recall_sure at h
 refine calls_enterM (m:=33) Tryz.func64 rfl rfl (nB rfl) ?_
 refine cS (cR ?_)
 refine ox_box [.slice Aa p0.fNo.length ca,.slice Ab p0.fC.length cb] rfl rfl rfl (fun b1 => ?_)
 refine ox_box [.slice Ac p1.length cc] rfl rfl rfl (fun b2 => ?_)
 refine ox_y rfl (y_assign_map rfl) ?_
 refine oN (eT (cS (cR ?_)))
 refine ox_y rfl (y_loadN 0 [.slice Aa p0.fNo.length ca,.slice Ab p0.fC.length cb] ag_25 rfl rfl rfl) (ox_y rfl (y_load1 1 (v:=.slice Ac p1.length cc) sc_26 rfl rfl rfl) ?_)
 obtain ⟨y3,hy4,h⟩:=bOs h
 refine ox_call1 [.agg #[.slice Aa p0.fNo.length ca,.slice Ab p0.fC.length cb],.slice Ac p1.length cc] _ _ rfl go_65 rfl (fun W2 hW2 => recall_possible_ok p0 p1 y3 hy4 W2 Aa p0.fNo.length ca rfl ((RdL.arg hr0_0) W2 hW2) Ab p0.fC.length cb ys0_1 rfl ((RdL.arg hr0_1) W2 hW2) (NestL.at (NestL.arg hN0_1) W2 hW2) Ac p1.length cc rfl ((RdL.arg hr1_0) W2 hW2)) ?_
 rintro b5
 refine ox_alloc ze_94 rfl (fun b6 => ?_)
 refine ox_n rfl (y_store1 3 (v:=.map (some b5)) sz_94 rfl (Nat.lt_of_lt_of_le (Nat.lt_succ_self _) (nB rfl)) rfl rfl rfl) ?_
 refine oN (eT (cS (cS (cR ?_))))
 refine ox_y rfl (y_loadN 0 [.slice Aa p0.fNo.length ca,.slice Ab p0.fC.length cb] ag_25 rfl rfl rfl) ?_
 obtain ⟨y7,hy8,h⟩:=bOs h
 refine ox_call1 [.agg #[.slice Aa p0.fNo.length ca,.slice Ab p0.fC.length cb]] _ _ rfl go_86 rfl (fun W2 hW2 => recall_cases_ok p0 y7 hy8 W2 Aa p0.fNo.length ca rfl ((RdL.arg hr0_0) W2 hW2) Ab p0.fC.length cb ys0_1 rfl ((RdL.arg hr0_1) W2 hW2) (NestL.at (NestL.arg hN0_1) W2 hW2)) ?_
 rintro b9
 refine oN (eT (cx_block ?_))
 obtain ⟨hok47,h⟩:=gOs h
 obtain ⟨u22,hl46,h⟩:=bOs h
 refine cx_rangeC (caps:=[.pointer (some ⟨b9,0,none⟩)]) (fun (s:(List (Int × Bool))) L => L = [cellsR b1 25 [.slice Aa p0.fNo.length ca,.slice Ab p0.fC.length cb],cellsR b2 26 [.slice Ac p1.length cc],mapV Tryz.prog 3 kI rngB kB false b5 s,cellsR b6 94 [.map (some b5)],cellsR b9 25 [.slice Aa p0.fNo.length ca,.slice Ab p0.fC.length cb]]) (fun (_:Unit) _ _ => False) hl46 rfl go_130 (recall_cases_1_seq p0 hok47 b9 Aa p0.fNo.length ca Ab p0.fC.length cb rfl ys0_1 hN0_1.p) (fun W2 s L hI hW2 => by obtain rfl:=hI; exact ⟨(RdL.cells 4 rfl) W2 hW2,(RdL.arg hr0_1) W2 hW2⟩) rfl (fun _ _ _ h => h.elim) ?_ ?_ ?_
 ·rintro D10 l11 rec12 A14 c15 s20 x21 L st hrec13 rfl h
  unfold recall_sure_r1 at h
  refine cR ?_
  try dsimp only [lna,lca,lsz,lss]
  refine ox_y rfl (yAS rfl) (oN (ex_begin 6 rfl hrec13 ?_))
  refine cx_block (cS ?_)
  refine cx_draws 4 mixed (by kernel_rfl) (by kernel_rfl) ?_
  refine qx_y rfl (y_loadN 0 [.slice Aa p0.fNo.length ca,.slice Ab p0.fC.length cb] ag_25 rfl rfl rfl) (qx_y rfl (y_load1 1 (v:=.slice Ac p1.length cc) sc_26 rfl rfl rfl) (qx_y rfl (yMS rfl) ?_))
  obtain ⟨y23,hy24,h⟩:=bOs h
  refine qx_y rfl (y_call [.slice A14 x21.length c15] go_88 rfl (fun W2 hW2 => recall_inCase_ok x21 y23 hy24 W2 A14 x21.length c15 rfl ((RdL.row 7 rfl) W2 hW2)) rfl) (qx_nil ?_)
  obtain ⟨y27,hy28,h⟩:=bOs h
  refine ox_call1 [.agg #[.slice Aa p0.fNo.length ca,.slice Ab p0.fC.length cb],.slice Ac p1.length cc,.func (.func 132) #[.slice A14 x21.length c15] #[]] _ _ rfl go_87 rfl (fun W2 hW2 => recall_reach_ok p0 p1 (fun x25 x26 => recall_fixed_has x21 x25 x26) y27 hy28 W2 Aa p0.fNo.length ca rfl ((RdL.arg hr0_0) W2 hW2) Ab p0.fC.length cb ys0_1 rfl ((RdL.arg hr0_1) W2 hW2) (NestL.at (NestL.arg hN0_1) W2 hW2) Ac p1.length cc rfl ((RdL.arg hr1_0) W2 hW2) 132 [.slice A14 x21.length c15] [] go_132 (fun W3 hb x0 x1 y hxy => recall_fixed_has_ok x21 x0 x1  y hxy W3 A14 x21.length c15 rfl (((RdL.row 7 rfl) W2 hW2).later hb))) ?_
  rintro b29
  try dsimp only [lna,lca,lsz,lss]
  refine ox_y rfl (y_assign_map rfl) ?_
  refine oN (eT (cS (cR ?_)))
  refine ox_y rfl (y_load1 3 (v:=.map (some b5)) sc_94 rfl rfl rfl) ?_
  refine ox_rangeV 2 rfl ke_3 um_94 rfl rfl (fun b30 k31 hk32 => ?_)
  refine oN (eT (cx_block ?_))
  refine cx_loopM (fun (s42:Nat × (Int → Bool) × (List (Int × Bool))) L tm => DropI rngB false (fun y33 => (!(mgetV false y27 y33))) s20 s42 ∧ ∃ (tm0:Nat → Value),L = [cellsR b1 25 [.slice Aa p0.fNo.length ca,.slice Ab p0.fC.length cb],cellsR b2 26 [.slice Ac p1.length cc],rngV Tryz.prog 3 kI rngB kB false b5 b30 s42.2.2 s42.2.1 s42.1 none,cellsR b6 94 [.map (some b5)],cellsR b9 25 [.slice Aa p0.fNo.length ca,.slice Ab p0.fC.length cb],dfR D10,lpR l11 { rec12 with state:=.busy },rowR A14 c15 3 1 x21.length (encL cI x21),mapV Tryz.prog 3 kI rngB kB false b29 y27] ∧ tm = (upd (upd (upd (upd (upd (upd (upd (upd (upd (upd tm0 0 (.agg #[.slice Aa p0.fNo.length ca,.slice Ab p0.fC.length cb])) 1 (.slice Ac p1.length cc)) 2 (.pointer (some ⟨b1,0,none⟩))) 3 (.pointer (some ⟨b2,0,none⟩))) 4 (.map none)) 5 (.pointer (some ⟨b6,0,none⟩))) 13 (.func (.func 130) #[] #[.pointer (some ⟨b9,0,none⟩)])) 6 (.slice A14 x21.length c15)) 7 (.map (some b29))) 21 (.pointer (some ⟨b30,0,none⟩)))) (fun s => s.1) (k31,(fun y => mhasV s20 y),s20) ⟨DropI.start,_,rfl,(kp4 (kp4 (kp (kp rfl))))⟩ ?_
  rintro s42 L tm ⟨hI43,tm0,rfl,rfl⟩
  refine cS (cR ?_)
  refine ox_nextV 2 rfl ke_3 rfl rfl (fun hno39 => ?_) (fun y33 k34 hy35 hly36 hM37 hk38 => ?_)
  ·refine ox_y rfl (y_extract (vs:=[.bool false]) (v:=.bool false) rfl rfl) ?_
   refine oN (eT (cS ?_))
   refine cx_false rfl (cx_exit (ex_then_exit ?_))
   refine ex_outM (by intro h; cases h) ?_
   refine ex_rngEnd 2 rfl (ex_mapExt 2 (s20.filter (fun p => !(fun y33 => (!(mgetV false y27 y33))) p.1)) ke_3 rfl (hI43.done hno39) ?_)
   try dsimp only [lsz,lss]
   refine ex_block_here (ex_block (ex_take 8 ?_))
   obtain rfl:=sI h
   exact ex_cnext [cellsR b1 25 [.slice Aa p0.fNo.length ca,.slice Ab p0.fC.length cb],cellsR b2 26 [.slice Ac p1.length cc],mapV Tryz.prog 3 kI rngB kB false b5 (s20.filter (fun p => !(fun y33 => (!(mgetV false y27 y33))) p.1)),cellsR b6 94 [.map (some b5)],cellsR b9 25 [.slice Aa p0.fNo.length ca,.slice Ab p0.fC.length cb]] rfl
  ·refine ox_y rfl (y_extract (vs:=[.bool true,.int .i64 y33,.bool (mgetV false s42.2.2 y33)]) (v:=.bool true) rfl rfl) ?_
   refine oN (eT (cS ?_))
   refine cx_true rfl ?_
   refine cx_skip (eT (cx_block (cS (cR ?_))))
   refine ox_y rfl (y_entryV 2 rfl rfl) (ox_y rfl (y_extract (vs:=[.int .i64 y33,.bool (mgetV false s42.2.2 y33)]) (v:=.int .i64 y33) rfl rfl) (ox_y rfl (yAI rfl) ?_))
   refine oN (eT (cS (cR ?_)))
   refine ox_y rfl (y_move_map rfl) (ox_y rfl (yMI rfl) (ox_y rfl (y_lookupV (k:=y33) (MpL.own 8 rfl) ke_3 um_94 ze_4 rfl rfl hy35) (ox_y rfl (y_not rfl) ?_)))
   refine oN (eT ?_)
   rcases bool_cases (!(mgetV false y27 y33)) with hp45 | hp45
   ·refine cx_true (vB hp45) (cR (ox_y rfl (y_load1 3 (v:=.map (some b5)) sc_94 rfl rfl rfl) (ox_y rfl (yMI rfl) ?_)))
    refine ox_deleteR 2 (k:=y33) rfl ke_3 um_94 rfl rfl hy35 (by simp) rfl (fun c240 hc241 => ?_)
    refine oN (ex_block (ex_rngNone 2 rfl ?_))
    exact ex_nextM (c240,(fun q => s42.2.1 q && !decide (q = y33)),(mdelV s42.2.2 y33)) ⟨hI43.del hp45 hM37,_,rfl,(kp4 (kp4 (kp (kp rfl))))⟩ (Nat.lt_of_le_of_lt hc241 hk38)
   ·refine cx_false (vB hp45) (cx_skip (ex_block (ex_rngNone 2 rfl ?_)))
    exact ex_nextM (k34,(fun q => s42.2.1 q && !decide (q = y33)),s42.2.2) ⟨hI43.keep hp45,_,rfl,(kp4 (kp4 (kp (kp rfl))))⟩ hk38
 ·rintro D10 u48 L hst rfl
  subst hst
  dsimp only at h
  refine ex_block ?_
  refine eT (cS (cR ?_))
  try dsimp only [lna,lca,lsz,lss]
  refine ox_y rfl (y_load1 3 (v:=.map (some b5)) sc_94 rfl rfl rfl) (ox_y rfl (y_assign_map rfl) ?_)
  refine oN (eT (cx_ret ?_))
  refine ex_M1 5 rfl (.inl rfl) ?_
  obtain rfl:=sI h
  exact ex_res1 (.inl rfl) rfl (rVt (v:=.map (some b5)) rfl) (fun W2 hW2 => ⟨b5,rfl,(hW2.pick 2 rfl)⟩)
 ·intro D10 t e L _ hh
  exact hh.elim
theorem recall_Origins_ok (p0:TL) (p1:Int) (res:((List Int) × (List Int) × Int)) (h:recall_Origins p0 p1 = some res) (W:World) (Aa:Option Addr) (n0_0 ca : Nat) (hn0_0:n0_0 = p0.fNo.length) (hr0_0:Rd W Aa n0_0 ca (encL TNode_cells p0.fNo)) (Ab:Option Addr) (n0_1 cb : Nat) (ys0_1:List (Hd × TC)) (hn0_1:n0_1 = p0.fC.length) (hr0_1:Rd W Ab n0_1 cb (encL TClaim_cells2 ys0_1)) (hN0_1:NestW W (fun z : TC => z.fO) THop_cells ys0_1 p0.fC) :
  Calls Tryz.prog 15 [.agg #[.slice Aa n0_0 ca,.slice Ab n0_1 cb],.int .i64 p1].toArray W fun e W2 => ∃ x : ((Option Addr × Nat × Nat) × (Option Addr × Nat × Nat)),(x.1.2.1 = res.1.length ∧ x.2.2.1 = res.2.1.length) ∧ e = .returned (.tuple #[.slice x.1.1 x.1.2.1 x.1.2.2,.slice x.2.1 x.2.2.1 x.2.2.2,.int .i64 res.2.2]) ∧ Ext W W2 [rowR x.1.1 x.1.2.2 3 1 x.1.2.1 (encL cI res.1),rowR x.2.1 x.2.2.2 3 1 x.2.2.1 (encL cI res.2.1)]:=by
 subst hn0_0
 subst hn0_1
 unfold recall_Origins at h
 refine calls_enter (m:=51) Tryz.func15 rfl rfl (nB rfl) ?_
 refine cS (cR ?_)
 refine ox_box [.slice Aa p0.fNo.length ca,.slice Ab p0.fC.length cb] rfl rfl rfl (fun b1 => ?_)
 refine ox_y rfl (yAS rfl) (ox_y rfl (yAS rfl) (ox_y rfl (yAI rfl) ?_))
 refine oN (eT (cS (cS (cR ?_))))
 refine ox_y rfl (y_loadN 0 [.slice Aa p0.fNo.length ca,.slice Ab p0.fC.length cb] ag_25 rfl rfl rfl) ?_
 obtain ⟨y2,hy3,h⟩:=bOs h
 refine ox_y rfl (y_call [.agg #[.slice Aa p0.fNo.length ca,.slice Ab p0.fC.length cb]] go_61 rfl (fun W2 hW2 => recall_Check_ok p0 y2 hy3 W2 Aa p0.fNo.length ca rfl ((RdL.arg hr0_0) W2 hW2) Ab p0.fC.length cb ys0_1 rfl ((RdL.arg hr0_1) W2 hW2) (NestL.at (NestL.arg hN0_1) W2 hW2)) rfl) (ox_y rfl (yAI rfl) ?_)
 refine oN (eT (cS (cR ?_)))
 refine ox_y rfl (yMI rfl) (ox_y rfl (y_neq rfl rfl) ?_)
 refine oN (eT ?_)
 rcases iOs h with ⟨hp4,h⟩ | ⟨hp4,h⟩
 ·refine cx_true (vB hp4) ?_
  refine cS (cR ?_)
  refine ox_y rfl (yMI rfl) (ox_y rfl (yAS rfl) (ox_y rfl (yAS rfl) (ox_y rfl (yAI rfl) ?_)))
  refine oN (eT (cx_ret (ex_then_ret ?_)))
  obtain rfl:=sI h
  exact ex_res3 (.inl rfl) rfl (rVt (v:=.slice none 0 0) rfl) (rVt (v:=.slice none 0 0) rfl) (rVt (v:=.int .i64 y2) rfl) (fun W2 hW2 => ⟨((none,0,0),(none,0,0)),⟨rfl,rfl⟩,rfl,((hW2.nilrow 3 1).nilrow 3 1).pickL [1,2] (by decide) rfl⟩)
 ·refine cx_false (vB hp4) ?_
  refine cx_skip (eT (cS (cS (cR ?_))))
  refine ox_y rfl (y_loadN 0 [.slice Aa p0.fNo.length ca,.slice Ab p0.fC.length cb] ag_25 rfl rfl rfl) (ox_y rfl (yMI rfl) ?_)
  obtain ⟨y5,hy6,h⟩:=bOs h
  refine ox_y rfl (y_call [.agg #[.slice Aa p0.fNo.length ca,.slice Ab p0.fC.length cb],.int .i64 p1] go_62 rfl (fun W2 hW2 => recall_nodeOf_ok p0 p1 y5 hy6 W2 Aa p0.fNo.length ca rfl ((RdL.arg hr0_0) W2 hW2) Ab p0.fC.length cb ys0_1 rfl ((RdL.arg hr0_1) W2 hW2) (NestL.at (NestL.arg hN0_1) W2 hW2)) rfl) (ox_y rfl (y_lss rfl rfl) ?_)
  refine oN (eT ?_)
  rcases iOs h with ⟨hp7,h⟩ | ⟨hp7,h⟩
  ·refine cx_true (vB hp7) ?_
   refine cS (cR ?_)
   refine ox_y rfl (yAS rfl) (ox_y rfl (yAS rfl) (ox_y rfl (yAI rfl) ?_))
   refine oN (eT (cx_ret (ex_then_ret ?_)))
   obtain rfl:=sI h
   exact ex_res3 (.inl rfl) rfl (rVt (v:=.slice none 0 0) rfl) (rVt (v:=.slice none 0 0) rfl) (rVt (v:=.int .i64 5) rfl) (fun W2 hW2 => ⟨((none,0,0),(none,0,0)),⟨rfl,rfl⟩,rfl,((hW2.nilrow 3 1).nilrow 3 1).pickL [1,2] (by decide) rfl⟩)
  ·refine cx_false (vB hp7) ?_
   refine cx_skip (eT (cS (cR ?_)))
   refine ox_y rfl (yAS rfl) (ox_y rfl (yAS rfl) ?_)
   refine oN (eT (cS (cS (cR ?_))))
   refine ox_y rfl (y_loadN 0 [.slice Aa p0.fNo.length ca,.slice Ab p0.fC.length cb] ag_25 rfl rfl rfl) ?_
   obtain ⟨y8,hy9,h⟩:=bOs h
   refine ox_call [.agg #[.slice Aa p0.fNo.length ca,.slice Ab p0.fC.length cb]] _ _ _ rfl go_63 rfl (fun W2 hW2 => recall_charges_ok p0 y8 hy9 W2 Aa p0.fNo.length ca rfl ((RdL.arg hr0_0) W2 hW2) Ab p0.fC.length cb ys0_1 rfl ((RdL.arg hr0_1) W2 hW2) (NestL.at (NestL.arg hN0_1) W2 hW2)) ?_
   rintro ⟨A10,n12,c11⟩ hn13
   replace hn13 : n12 = y8.length:=hn13; subst hn13
   refine ox_y rfl (y_len (us:=[]) us_26 rfl) (ox_y rfl (yMI rfl) ?_)
   refine oN (eT (cx_block ?_))
   obtain ⟨u17,hl50,h⟩:=bOs h
   refine cx_nilrow 3 1 (cx_nilrow 3 1 ?_)
   refine cx_loop (fun (s:(Int × (List Int) × (List Int))) L tm => ∃ (tm0:Nat → Value) (A2_s:Option Addr) (c2_s:Nat) (n2_s:Nat) (A3_s:Option Addr) (c3_s:Nat) (n3_s:Nat),n2_s = s.2.1.length ∧ n3_s = s.2.2.length ∧ L = [cellsR b1 25 [.slice Aa p0.fNo.length ca,.slice Ab p0.fC.length cb],rowR A10 c11 3 1 y8.length (encL cI y8),rowR A2_s c2_s 3 1 n2_s (encL cI s.2.1),rowR A3_s c3_s 3 1 n3_s (encL cI s.2.2)] ∧ tm = (upd (upd (upd (upd (upd (upd (upd (upd (upd (upd (upd (upd (upd (upd tm0 0 (.agg #[.slice Aa p0.fNo.length ca,.slice Ab p0.fC.length cb])) 1 (.int .i64 p1)) 2 (.pointer (some ⟨b1,0,none⟩))) 4 (.slice none 0 0)) 5 (.slice none 0 0)) 6 (.int .i64 0)) 7 (.int .i64 y2)) 15 (.bool (y2 != 0))) 20 (.bool (decide (y5 < 0)))) 8 (.slice A2_s n2_s c2_s)) 9 (.slice A3_s n3_s c3_s)) 22 (.slice A10 y8.length c11)) 23 (.int .i64 (y8.length:Int))) 24 (.int .i64 s.1))) (fun s e L tm => e = .exit 0 ∧ ∃ (tm0:Nat → Value) (A2_s:Option Addr) (c2_s:Nat) (n2_s:Nat) (A3_s:Option Addr) (c3_s:Nat) (n3_s:Nat),n2_s = s.2.1.length ∧ n3_s = s.2.2.length ∧ L = [cellsR b1 25 [.slice Aa p0.fNo.length ca,.slice Ab p0.fC.length cb],rowR A10 c11 3 1 y8.length (encL cI y8),rowR A2_s c2_s 3 1 n2_s (encL cI s.2.1),rowR A3_s c3_s 3 1 n3_s (encL cI s.2.2)] ∧ tm = (upd (upd (upd (upd (upd (upd (upd (upd (upd (upd (upd (upd (upd (upd tm0 0 (.agg #[.slice Aa p0.fNo.length ca,.slice Ab p0.fC.length cb])) 1 (.int .i64 p1)) 2 (.pointer (some ⟨b1,0,none⟩))) 4 (.slice none 0 0)) 5 (.slice none 0 0)) 6 (.int .i64 0)) 7 (.int .i64 y2)) 15 (.bool (y2 != 0))) 20 (.bool (decide (y5 < 0)))) 8 (.slice A2_s n2_s c2_s)) 9 (.slice A3_s n3_s c3_s)) 22 (.slice A10 y8.length c11)) 23 (.int .i64 (y8.length:Int))) 24 (.int .i64 s.1))) hl50 ⟨_,none,0,0,none,0,0,rfl,rfl,rfl,(kp4 (kp4 (kp4 (kp (kp rfl)))))⟩ ?_ ?_
   ·rintro s16 L tm st ⟨tm0_s16,A2_s16,c2_s16,n2_s16,A3_s16,c3_s16,n3_s16,rfl,rfl,rfl,rfl⟩ h
    unfold recall_Origins_l1 at h
    refine cS (cR ?_)
    refine ox_y rfl (y_lss rfl rfl) ?_
    refine oN (eT (cS ?_))
    rcases iOs h with ⟨hp18,h⟩ | ⟨hp18,h⟩
    ·refine cx_true (vB hp18) ?_
     refine cx_skip (eT (cS (cx_block (cS (cR ?_)))))
     obtain ⟨hg19,h⟩:=gOs h
     refine ox_y rfl (y_indexR sl_26 (by decide) hg19.1 hg19.2 (RdL.row 1 rfl) (encL_len cI_len rfl) rfl rfl) ?_
     refine ox_y rfl (y_loadR1 (A:=A10) (j:=(Int.toNat s16.1 * 1)) (v:=.int .i64 (rdL y8 s16.1)) sc_3 (RdL.row 1 rfl) rfl (encL_get0 cI_len hg19.1 (lt_nat hg19.2 rfl) rfl)) (ox_y rfl (yAI rfl) ?_)
     refine oN (eT (cS (cS (cR ?_))))
     refine ox_y rfl (y_loadN 0 [.slice Aa p0.fNo.length ca,.slice Ab p0.fC.length cb] ag_25 rfl rfl rfl) (ox_y rfl (yMI rfl) ?_)
     refine ox_buildSliceE 1 (encL cI [(rdL y8 s16.1)]) _ mc_3_1 us_26 ze_3 by_3 (by decide) (by decide) (by kernel_rfl) (encL_len cI_len rfl) rfl (fun b20 => ?_)
     obtain ⟨y21,hy22,h⟩:=bOs h
     refine ox_call1 [.agg #[.slice Aa p0.fNo.length ca,.slice Ab p0.fC.length cb],.slice (some ⟨b20,0,none⟩) 1 1] _ _ rfl go_64 rfl (fun W2 hW2 => recall_sure_ok p0 [(rdL y8 s16.1)] y21 hy22 W2 Aa p0.fNo.length ca rfl ((RdL.arg hr0_0) W2 hW2) Ab p0.fC.length cb ys0_1 rfl ((RdL.arg hr0_1) W2 hW2) (NestL.at (NestL.arg hN0_1) W2 hW2) (some ⟨b20,0,none⟩) 1 1 rfl ((RdL.row 4 rfl) W2 hW2)) ?_
     rintro b23
     try dsimp only [lna,lca,lsz,lss]
     refine ox_y rfl (yMI rfl) ?_
     obtain ⟨hg24,h⟩:=gOs h
     refine ox_y rfl (y_lookupV (k:=p1) (MpL.own 5 rfl) ke_3 um_94 ze_4 rfl rfl hg24) ?_
     refine oN (eT ?_)
     rcases iOs h with ⟨hp25,h⟩ | ⟨hp25,h⟩
     ·refine cx_true (vB hp25) (cR (ox_y rfl (yMS rfl) (ox_y rfl (yMI rfl) ?_)))
      refine ox_buildSliceE 1 (encL cI [(rdL y8 s16.1)]) _ mc_3_1 us_26 ze_3 by_3 (by decide) (by decide) (by kernel_rfl) (encL_len cI_len rfl) rfl (fun b26 => ?_)
      try dsimp only [lna,lca,lsz,lss]
      obtain ⟨hg29,h⟩:=gOs h
      refine ox_append0 2 us_26 ze_3 by_3 rfl rfl rfl (RdL.row 6 rfl) (encL_len cI_len rfl) (encL_one cI_one _) (app_room hg29 (by decide)) rfl (fun A27 c28 => ?_)
      refine ox_y rfl (yAS rfl) ?_
      refine oN (eT (cS (cR ?_)))
      refine ox_y rfl (y_loadN 0 [.slice Aa p0.fNo.length ca,.slice Ab p0.fC.length cb] ag_25 rfl rfl rfl) (ox_y rfl (yMI rfl) ?_)
      refine ox_buildSliceE 1 (encL cI [(rdL y8 s16.1)]) _ mc_3_1 us_26 ze_3 by_3 (by decide) (by decide) (by kernel_rfl) (encL_len cI_len rfl) rfl (fun b30 => ?_)
      try dsimp only [lna,lca,lsz,lss]
      obtain ⟨y31,hy32,h⟩:=bOs h
      refine ox_call1 [.agg #[.slice Aa p0.fNo.length ca,.slice Ab p0.fC.length cb],.slice (some ⟨b30,0,none⟩) 1 1] _ _ rfl go_65 rfl (fun W2 hW2 => recall_possible_ok p0 [(rdL y8 s16.1)] y31 hy32 W2 Aa p0.fNo.length ca rfl ((RdL.arg hr0_0) W2 hW2) Ab p0.fC.length cb ys0_1 rfl ((RdL.arg hr0_1) W2 hW2) (NestL.at (NestL.arg hN0_1) W2 hW2) (some ⟨b30,0,none⟩) 1 1 rfl ((RdL.row 7 rfl) W2 hW2)) ?_
      rintro b33
      try dsimp only [lna,lca,lsz,lss]
      refine ox_y rfl (yMI rfl) ?_
      obtain ⟨hg34,h⟩:=gOs h
      refine ox_y rfl (y_lookupV (k:=p1) (MpL.own 8 rfl) ke_3 um_94 ze_4 rfl rfl hg34) ?_
      refine oN (eT ?_)
      rcases iOs h with ⟨hp35,h⟩ | ⟨hp35,h⟩
      ·refine cx_true (vB hp35) (cR (ox_y rfl (yMS rfl) (ox_y rfl (yMI rfl) ?_)))
       refine ox_buildSliceE 1 (encL cI [(rdL y8 s16.1)]) _ mc_3_1 us_26 ze_3 by_3 (by decide) (by decide) (by kernel_rfl) (encL_len cI_len rfl) rfl (fun b36 => ?_)
       try dsimp only [lna,lca,lsz,lss]
       obtain ⟨hg39,h⟩:=gOs h
       refine ox_append0 3 us_26 ze_3 by_3 rfl rfl rfl (RdL.row 9 rfl) (encL_len cI_len rfl) (encL_one cI_one _) (app_room hg39 (by decide)) rfl (fun A37 c38 => ?_)
       refine ox_y rfl (yAS rfl) (oN (ex_block ?_))
       refine eT (cR ?_)
       refine ox_y rfl (y_add rfl rfl) (ox_y rfl (yMI rfl) (oN (ex_take 4 ?_)))
       obtain rfl:=sI h
       exact ex_next ⟨_,A27,c28,(s16.2.1.length + 1),A37,c38,(s16.2.2.length + 1),(hn_app rfl rfl),(hn_app rfl rfl),rfl,(kp4 (kp4 (kp4 (kp (kp rfl)))))⟩
      ·refine cx_false (vB hp35) (cx_skip (ex_block ?_))
       refine eT (cR ?_)
       refine ox_y rfl (y_add rfl rfl) (ox_y rfl (yMI rfl) (oN (ex_take 4 ?_)))
       obtain rfl:=sI h
       exact ex_next ⟨_,A27,c28,(s16.2.1.length + 1),A3_s16,c3_s16,s16.2.2.length,(hn_app rfl rfl),rfl,rfl,(kp4 (kp4 (kp4 (kp (kp rfl)))))⟩
     ·refine cx_false (vB hp25) ?_
      refine cx_skip (eT (cS (cR ?_)))
      refine ox_y rfl (y_loadN 0 [.slice Aa p0.fNo.length ca,.slice Ab p0.fC.length cb] ag_25 rfl rfl rfl) (ox_y rfl (yMI rfl) ?_)
      refine ox_buildSliceE 1 (encL cI [(rdL y8 s16.1)]) _ mc_3_1 us_26 ze_3 by_3 (by decide) (by decide) (by kernel_rfl) (encL_len cI_len rfl) rfl (fun b40 => ?_)
      try dsimp only [lna,lca,lsz,lss]
      obtain ⟨y41,hy42,h⟩:=bOs h
      refine ox_call1 [.agg #[.slice Aa p0.fNo.length ca,.slice Ab p0.fC.length cb],.slice (some ⟨b40,0,none⟩) 1 1] _ _ rfl go_65 rfl (fun W2 hW2 => recall_possible_ok p0 [(rdL y8 s16.1)] y41 hy42 W2 Aa p0.fNo.length ca rfl ((RdL.arg hr0_0) W2 hW2) Ab p0.fC.length cb ys0_1 rfl ((RdL.arg hr0_1) W2 hW2) (NestL.at (NestL.arg hN0_1) W2 hW2) (some ⟨b40,0,none⟩) 1 1 rfl ((RdL.row 6 rfl) W2 hW2)) ?_
      rintro b43
      try dsimp only [lna,lca,lsz,lss]
      refine ox_y rfl (yMI rfl) ?_
      obtain ⟨hg44,h⟩:=gOs h
      refine ox_y rfl (y_lookupV (k:=p1) (MpL.own 7 rfl) ke_3 um_94 ze_4 rfl rfl hg44) ?_
      refine oN (eT ?_)
      rcases iOs h with ⟨hp45,h⟩ | ⟨hp45,h⟩
      ·refine cx_true (vB hp45) (cR (ox_y rfl (yMS rfl) (ox_y rfl (yMI rfl) ?_)))
       refine ox_buildSliceE 1 (encL cI [(rdL y8 s16.1)]) _ mc_3_1 us_26 ze_3 by_3 (by decide) (by decide) (by kernel_rfl) (encL_len cI_len rfl) rfl (fun b46 => ?_)
       try dsimp only [lna,lca,lsz,lss]
       obtain ⟨hg49,h⟩:=gOs h
       refine ox_append0 3 us_26 ze_3 by_3 rfl rfl rfl (RdL.row 8 rfl) (encL_len cI_len rfl) (encL_one cI_one _) (app_room hg49 (by decide)) rfl (fun A47 c48 => ?_)
       refine ox_y rfl (yAS rfl) (oN (ex_block ?_))
       refine eT (cR ?_)
       refine ox_y rfl (y_add rfl rfl) (ox_y rfl (yMI rfl) (oN (ex_take 4 ?_)))
       obtain rfl:=sI h
       exact ex_next ⟨_,A2_s16,c2_s16,s16.2.1.length,A47,c48,(s16.2.2.length + 1),rfl,(hn_app rfl rfl),rfl,(kp4 (kp4 (kp4 (kp (kp rfl)))))⟩
      ·refine cx_false (vB hp45) (cx_skip (ex_block ?_))
       refine eT (cR ?_)
       refine ox_y rfl (y_add rfl rfl) (ox_y rfl (yMI rfl) (oN (ex_take 4 ?_)))
       obtain rfl:=sI h
       exact ex_next ⟨_,A2_s16,c2_s16,s16.2.1.length,A3_s16,c3_s16,s16.2.2.length,rfl,rfl,rfl,(kp4 (kp4 (kp4 (kp (kp rfl)))))⟩
    ·refine cx_false (vB hp18) (cx_exit (ex_then_exit ?_))
     obtain rfl:=sI h
     exact ex_stop ⟨rfl,_,A2_s16,c2_s16,s16.2.1.length,A3_s16,c3_s16,s16.2.2.length,rfl,rfl,rfl,(kp4 (kp4 (kp4 (kp (kp rfl)))))⟩
   ·intro e L tm hJ
    obtain ⟨rfl,tm0_u17,A2_u17,c2_u17,n2_u17,A3_u17,c3_u17,n3_u17,rfl,rfl,rfl,rfl⟩:=hJ
    refine ⟨(by intro hc; cases hc),?_⟩
    refine ex_block_here ?_
    refine eT (cS (cR ?_))
    refine ox_y rfl (yMS rfl) (ox_y rfl (yMS rfl) (ox_y rfl (yAS rfl) (ox_y rfl (yAS rfl) (ox_y rfl (yAI rfl) ?_))))
    refine oN (eT (cx_ret ?_))
    obtain rfl:=sI h
    exact ex_res3 (.inl rfl) rfl (rVt (v:=.slice A2_u17 u17.2.1.length c2_u17) rfl) (rVt (v:=.slice A3_u17 u17.2.2.length c3_u17) rfl) (rVt (v:=.int .i64 0) rfl) (fun W2 hW2 => ⟨((A2_u17,u17.2.1.length,c2_u17),(A3_u17,u17.2.2.length,c3_u17)),⟨rfl,rfl⟩,rfl,hW2.pickL [2,3] (by decide) rfl⟩)
theorem recall_increasing_int_ok (p0:(List Int)) (p1:Int → Option Int) (p2:Int → Option Bool) (res:Bool) (h:recall_increasing_int p0 p1 p2 = some res) (W:World) (Aa:Option Addr) (n0_0 ca : Nat) (hn0_0:n0_0 = p0.length) (hr0_0:Rd W Aa n0_0 ca (encL cI p0)) (fid1:Nat) (fst1 caps1 : List Value) (hgo1:goes Tryz.prog fid1 = true) (hof1:∀ W2,Below W.heap.size W W2 → ∀ x,∀ y,p1 x = some y → Calls Tryz.prog fid1 (fst1 ++ (([.int .i64 x] : List Value) ++ caps1)).toArray W2 fun e W3 => e = .returned (.int .i64 y) ∧ Ext W2 W3 []) (fid2:Nat) (fst2 caps2 : List Value) (hgo2:goes Tryz.prog fid2 = true) (hof2:∀ W2,Below W.heap.size W W2 → ∀ x,∀ y,p2 x = some y → Calls Tryz.prog fid2 (fst2 ++ (([.int .i64 x] : List Value) ++ caps2)).toArray W2 fun e W3 => e = .returned (.bool y) ∧ Ext W2 W3 []) :
  Calls Tryz.prog 134 [.slice Aa n0_0 ca,.func (.func fid1) fst1.toArray caps1.toArray,.func (.func fid2) fst2.toArray caps2.toArray].toArray W fun e W2 => e = .returned (.bool res) ∧ Ext W W2 []:=by
 subst hn0_0
 unfold recall_increasing_int at h
 refine calls_enter (m:=40) Tryz.func134 rfl rfl (nB rfl) ?_
 refine cS (cR ?_)
 refine ox_y rfl (y_assign_bool rfl) ?_
 refine oN (eT (cS (cS (cR ?_))))
 refine ox_y rfl (yMS rfl) (ox_y rfl (y_len (us:=[]) us_26 rfl) (ox_y rfl (yMI rfl) ?_))
 refine oN (eT (cx_block ?_))
 obtain ⟨u3,hl22,h⟩:=bOs h
 refine cx_loop (fun (s:(Bool × Int)) L tm => ∃ (tm0:Nat → Value),L = [] ∧ tm = (upd (upd (upd (upd (upd (upd (upd tm0 0 (.slice Aa p0.length ca)) 1 (.func (.func fid1) fst1.toArray caps1.toArray)) 2 (.func (.func fid2) fst2.toArray caps2.toArray)) 6 (.bool s.1)) 9 (.slice Aa p0.length ca)) 10 (.int .i64 (p0.length:Int))) 11 (.int .i64 s.2))) (fun | (.inl s),e,L,tm => e = .ret ∧ ∃ (tm0:Nat → Value),L = [] ∧ tm = (upd (upd (upd (upd (upd (upd (upd tm0 0 (.slice Aa p0.length ca)) 1 (.func (.func fid1) fst1.toArray caps1.toArray)) 2 (.func (.func fid2) fst2.toArray caps2.toArray)) 6 (.bool s.1)) 9 (.slice Aa p0.length ca)) 10 (.int .i64 (p0.length:Int))) 11 (.int .i64 s.2)) | (.inr s),e,L,tm => e = .exit 0 ∧ ∃ (tm0:Nat → Value),L = [] ∧ tm = (upd (upd (upd (upd (upd (upd (upd tm0 0 (.slice Aa p0.length ca)) 1 (.func (.func fid1) fst1.toArray caps1.toArray)) 2 (.func (.func fid2) fst2.toArray caps2.toArray)) 6 (.bool s.1)) 9 (.slice Aa p0.length ca)) 10 (.int .i64 (p0.length:Int))) 11 (.int .i64 s.2))) hl22 ⟨_,rfl,(kp4 (kp (kp (kp rfl))))⟩ ?_ ?_
 ·rintro s2 L tm st ⟨tm0_s2,rfl,rfl⟩ h
  unfold recall_increasing_int_l1 at h
  refine cS (cR ?_)
  refine ox_y rfl (y_lss rfl rfl) ?_
  refine oN (eT (cS ?_))
  rcases iOs h with ⟨hp4,h⟩ | ⟨hp4,h⟩
  ·refine cx_true (vB hp4) ?_
   refine cx_skip (eT (cS (cx_block (cS (cR ?_)))))
   refine ox_y rfl (yMI rfl) ?_
   obtain ⟨hg5,h⟩:=gOs h
   refine ox_y rfl (y_indexR sl_26 (by decide) hg5.1 hg5.2 (RdL.arg hr0_0) (encL_len cI_len rfl) rfl rfl) ?_
   refine ox_y rfl (y_loadR1 (A:=Aa) (j:=(Int.toNat s2.2 * 1)) (v:=.int .i64 (rdL p0 s2.2)) sc_3 (RdL.arg hr0_0) rfl (encL_get0 cI_len hg5.1 (lt_nat hg5.2 rfl) rfl)) (ox_y rfl (yAI rfl) (ox_y rfl (yAI rfl) ?_))
   refine oN (eT (cS ?_))
   refine cx_draws 23 mixed (by kernel_rfl) (by kernel_rfl) ?_
   refine qx_y rfl (y_move (v:=.func (.func fid2) fst2.toArray caps2.toArray) rfl) (qx_y rfl (y_move (v:=.func (.func fid1) fst1.toArray caps1.toArray) rfl) (qx_y rfl (yMI rfl) ?_))
   obtain ⟨y6,hy7,h⟩:=bOs h
   refine qx_y rfl (y_callvF [.int .i64 (rdL p0 s2.2)] hgo1 rfl rfl (fun W2 hW2 => hof1 W2 hW2.below (rdL p0 s2.2) y6 hy7)) ?_
   obtain ⟨y8,hy9,h⟩:=bOs h
   refine qx_y rfl (y_callvF [.int .i64 y6] hgo2 rfl rfl (fun W2 hW2 => hof2 W2 hW2.below y6 y8 hy9)) (qx_y rfl (y_not rfl) (qx_y rfl (y_move_bool rfl) ?_))
   obtain ⟨b11,hb12,h⟩:=bOs h
   refine qx_join 16 (fun tm0 => (upd (upd (upd (upd (upd (upd (upd (upd (upd (upd (upd tm0 0 (.slice Aa p0.length ca)) 1 (.func (.func fid1) fst1.toArray caps1.toArray)) 2 (.func (.func fid2) fst2.toArray caps2.toArray)) 6 (.bool s2.1)) 9 (.slice Aa p0.length ca)) 10 (.int .i64 (p0.length:Int))) 11 (.int .i64 s2.2)) 12 (.bool (decide (s2.2 < (p0.length:Int))))) 7 (.int .i64 s2.2)) 8 (.int .i64 (rdL p0 s2.2))) 38 (.bool b11))) (fun tm0 => ?_) (fun key => ?_)
   ·refine qx_nil ?_
    refine oN (eT ?_)
    rcases iOs h with ⟨hp13,h⟩ | ⟨hp13,h⟩
    ·refine cx_true (vB hp13) ?_
     refine cS (cR ?_)
     refine ox_y rfl (y_assign_bool rfl) ?_
     refine oN (eT (cx_ret (ex_block_ret (ex_then_ret ?_))))
     obtain rfl:=sI h
     exact ex_stop ⟨rfl,_,rfl,(kp4 (kp (kp (kp rfl))))⟩
    ·refine cx_false (vB hp13) (cx_skip (ex_block ?_))
     refine eT (cR ?_)
     refine ox_y rfl (y_add rfl rfl) (ox_y rfl (yMI rfl) (oN ?_))
     obtain rfl:=sI h
     exact ex_next ⟨_,rfl,(kp4 (kp (kp (kp rfl))))⟩
   ·clear h; rcases iOs hb12 with ⟨hp10,h⟩ | ⟨hp10,h⟩
    ·refine qx_skip (sF rfl rfl rfl rfl hp10) (qx_skip (sF rfl rfl rfl rfl hp10) (qx_skip (sF rfl rfl rfl rfl hp10) (qx_skip rfl (qx_skip rfl (qx_skip rfl (qx_skip rfl (qx_skip rfl (qx_skip rfl (qx_skip rfl (qx_skip rfl (qx_skip rfl (qx_skip rfl (qx_skip rfl (qx_skip (sF rfl rfl rfl rfl hp10) (qx_y rfl (y_pick_tb (vB hp10) rfl) ?_)))))))))))))))
     obtain rfl:=sI h
     exact key _ _ (kp4 (kp4 (kp (kp (kp rfl)))))
    ·refine qx_y (sT rfl rfl rfl rfl hp10) (yMI rfl) (qx_y (sT rfl rfl rfl rfl hp10) (y_gtr rfl rfl) (qx_y (sT rfl rfl rfl rfl hp10) (y_move_bool rfl) ?_))
     obtain ⟨b15,hb16,h⟩:=bOs h
     refine qx_join 12 (fun tm0 => (upd (upd (upd (upd (upd (upd (upd (upd (upd (upd (upd (upd tm0 0 (.slice Aa p0.length ca)) 1 (.func (.func fid1) fst1.toArray caps1.toArray)) 2 (.func (.func fid2) fst2.toArray caps2.toArray)) 6 (.bool s2.1)) 9 (.slice Aa p0.length ca)) 10 (.int .i64 (p0.length:Int))) 11 (.int .i64 s2.2)) 12 (.bool (decide (s2.2 < (p0.length:Int))))) 7 (.int .i64 s2.2)) 8 (.int .i64 (rdL p0 s2.2))) 22 (.bool (!y8))) 37 (.bool b15))) (fun tm0 => ?_) (fun key => ?_)
     ·refine qx_y rfl (y_pick_fb (vB hp10) rfl) ?_
      obtain rfl:=sI h
      exact key _ _ (kp4 (kp4 (kp (kp (kp rfl)))))
     ·clear h; rcases iOs hb16 with ⟨hp14,h⟩ | ⟨hp14,h⟩
      ·refine qx_y (sT rfl rfl rfl rfl hp14) (y_move (v:=.func (.func fid1) fst1.toArray caps1.toArray) rfl) (qx_y (sT rfl rfl rfl rfl hp14) (yMI rfl) ?_)
       obtain ⟨y17,hy18,h⟩:=bOs h
       refine qx_y (sT rfl rfl rfl rfl hp14) (y_callvF [.int .i64 (rdL p0 s2.2)] hgo1 rfl rfl (fun W2 hW2 => hof1 W2 hW2.below (rdL p0 s2.2) y17 hy18)) (qx_y (sT rfl rfl rfl rfl hp14) (y_move (v:=.func (.func fid1) fst1.toArray caps1.toArray) rfl) (qx_y (sT rfl rfl rfl rfl hp14) (yMS rfl) (qx_y (sT rfl rfl rfl rfl hp14) (yMI rfl) (qx_y (sT rfl rfl rfl rfl hp14) (y_sub rfl rfl) ?_))))
       obtain ⟨hg19,h⟩:=gOs h
       refine qx_y (sT rfl rfl rfl rfl hp14) (y_indexR sl_26 (by decide) hg19.1 hg19.2 (RdL.arg hr0_0) (encL_len cI_len rfl) rfl rfl) ?_
       refine qx_y (sT rfl rfl rfl rfl hp14) (y_loadR1 (A:=Aa) (j:=(Int.toNat (w64 (s2.2 - 1)) * 1)) (v:=.int .i64 (rdL p0 (w64 (s2.2 - 1)))) sc_3 (RdL.arg hr0_0) rfl (encL_get0 cI_len hg19.1 (lt_nat hg19.2 rfl) rfl)) ?_
       obtain ⟨y20,hy21,h⟩:=bOs h
       refine qx_y (sT rfl rfl rfl rfl hp14) (y_callvF [.int .i64 (rdL p0 (w64 (s2.2 - 1)))] hgo1 rfl rfl (fun W2 hW2 => hof1 W2 hW2.below (rdL p0 (w64 (s2.2 - 1))) y20 hy21)) (qx_y (sT rfl rfl rfl rfl hp14) (y_leq rfl rfl) (qx_y (sT rfl rfl rfl rfl hp10) (y_pick_tb (vB hp14) rfl) ?_))
       obtain rfl:=sI h
       exact key _ _ (kp4 (kp4 (kp4 rfl)))
      ·refine qx_skip (sF rfl rfl rfl rfl hp14) (qx_skip (sF rfl rfl rfl rfl hp14) (qx_skip (sF rfl rfl rfl rfl hp14) (qx_skip (sF rfl rfl rfl rfl hp14) (qx_skip (sF rfl rfl rfl rfl hp14) (qx_skip (sF rfl rfl rfl rfl hp14) (qx_skip (sF rfl rfl rfl rfl hp14) (qx_skip (sF rfl rfl rfl rfl hp14) (qx_skip (sF rfl rfl rfl rfl hp14) (qx_skip (sF rfl rfl rfl rfl hp14) (qx_skip (sF rfl rfl rfl rfl hp14) (qx_y (sT rfl rfl rfl rfl hp10) (y_pick_fb (vB hp14) rfl) ?_)))))))))))
       obtain rfl:=sI h
       exact key _ _ (kp4 (kp4 (kp4 rfl)))
  ·refine cx_false (vB hp4) (cx_exit (ex_then_exit ?_))
   obtain rfl:=sI h
   exact ex_stop ⟨rfl,_,rfl,(kp4 (kp (kp (kp rfl))))⟩
 ·intro e L tm hJ
  rcases u3 with u23 | u24
  ·dsimp only at h hJ
   obtain ⟨rfl,tm0_u23,rfl,rfl⟩:=hJ
   refine ⟨(by intro hc; cases hc),?_⟩
   refine ex_block_ret (ex_then_ret ?_)
   obtain rfl:=sI h
   exact ex_res1 (.inl rfl) rfl (rVt (v:=.bool u23.1) rfl) (fun W2 hW2 => ⟨rfl,hW2.none⟩)
  ·dsimp only at h hJ
   obtain ⟨rfl,tm0_u24,rfl,rfl⟩:=hJ
   refine ⟨(by intro hc; cases hc),?_⟩
   refine ex_block_here ?_
   refine eT (cS (cR ?_))
   refine ox_y rfl (y_assign_bool rfl) ?_
   refine oN (eT (cx_ret ?_))
   obtain rfl:=sI h
   exact ex_res1 (.inl rfl) rfl (rVt (v:=.bool true) rfl) (fun W2 hW2 => ⟨rfl,hW2.none⟩)
theorem recall_own_ok (p0:Int) (res:Int) (h:recall_own p0 = some res) (W:World)  :
  Calls Tryz.prog 135 [.int .i64 p0].toArray W fun e W2 => e = .returned (.int .i64 res) ∧ Ext W W2 []:=by
 unfold recall_own at h
 refine calls_enter (m:=4) Tryz.func135 rfl rfl (nB rfl) ?_
 refine cS (cR ?_)
 refine ox_y rfl (yAI rfl) ?_
 refine oN (eT (cS (cR ?_)))
 refine ox_y rfl (yMI rfl) (ox_y rfl (yAI rfl) ?_)
 refine oN (eT (cx_ret ?_))
 obtain rfl:=sI h
 exact ex_res1 (.inl rfl) rfl (rVt (v:=.int .i64 p0) rfl) (fun W2 hW2 => ⟨rfl,hW2.none⟩)
theorem recall_isFrom_1_ok (p0:Int) (cap0:TL) (res:Bool) (h:recall_isFrom_1 p0 cap0 = some res) (W:World) (bc0:Nat) (A100_0:Option Addr) (n100_0 c100_0 : Nat) (hn100_0:n100_0 = cap0.fNo.length) (hr100_0:Rd W A100_0 n100_0 c100_0 (encL TNode_cells cap0.fNo)) (A100_1:Option Addr) (n100_1 c100_1 : Nat) (ys100_1:List (Hd × TC)) (hn100_1:n100_1 = cap0.fC.length) (hr100_1:Rd W A100_1 n100_1 c100_1 (encL TClaim_cells2 ys100_1)) (hN100_1:NestW W (fun z : TC => z.fO) THop_cells ys100_1 cap0.fC) (hcap0:Rd W (some ⟨bc0,0,none⟩) 1 1 [.slice A100_0 n100_0 c100_0,.slice A100_1 n100_1 c100_1]) :
  Calls Tryz.prog 147 [.int .i64 p0,.pointer (some ⟨bc0,0,none⟩)].toArray W fun e W2 => e = .returned (.bool res) ∧ Ext W W2 []:=by
 subst hn100_0
 subst hn100_1
 unfold recall_isFrom_1 at h
 refine calls_enter (m:=8) Tryz.func147 rfl rfl (nB rfl) ?_
 refine cS (cR ?_)
 refine ox_y rfl (y_assign_bool rfl) ?_
 refine oN (eT (cS (cR ?_)))
 refine ox_y rfl (y_loadRN (A:=(some ⟨bc0,0,none⟩)) (j:=0) [.slice A100_0 cap0.fNo.length c100_0,.slice A100_1 cap0.fC.length c100_1] ag_25 (Nat.succ_pos _) (RdL.arg hcap0) rfl (gets_all rfl)) (ox_y rfl (yMI rfl) ?_)
 obtain ⟨y1,hy2,h⟩:=bOs h
 refine ox_y rfl (y_call [.agg #[.slice A100_0 cap0.fNo.length c100_0,.slice A100_1 cap0.fC.length c100_1],.int .i64 p0] go_62 rfl (fun W2 hW2 => recall_nodeOf_ok cap0 p0 y1 hy2 W2 A100_0 cap0.fNo.length c100_0 rfl ((RdL.arg hr100_0) W2 hW2) A100_1 cap0.fC.length c100_1 ys100_1 rfl ((RdL.arg hr100_1) W2 hW2) (NestL.at (NestL.arg hN100_1) W2 hW2)) rfl) (ox_y rfl (y_geq rfl rfl) (ox_y rfl (y_assign_bool rfl) ?_))
 refine oN (eT (cx_ret ?_))
 obtain rfl:=sI h
 exact ex_res1 (.inl rfl) rfl (rVt (v:=.bool (decide (0 ≤ y1))) rfl) (fun W2 hW2 => ⟨rfl,hW2.none⟩)
theorem recall_isFrom_ok (p0:TL) (p1:(List Int)) (res:Bool) (h:recall_isFrom p0 p1 = some res) (W:World) (Aa:Option Addr) (n0_0 ca : Nat) (hn0_0:n0_0 = p0.fNo.length) (hr0_0:Rd W Aa n0_0 ca (encL TNode_cells p0.fNo)) (Ab:Option Addr) (n0_1 cb : Nat) (ys0_1:List (Hd × TC)) (hn0_1:n0_1 = p0.fC.length) (hr0_1:Rd W Ab n0_1 cb (encL TClaim_cells2 ys0_1)) (hN0_1:NestW W (fun z : TC => z.fO) THop_cells ys0_1 p0.fC) (Ac:Option Addr) (n1_0 cc : Nat) (hn1_0:n1_0 = p1.length) (hr1_0:Rd W Ac n1_0 cc (encL cI p1)) :
  Calls Tryz.prog 124 [.agg #[.slice Aa n0_0 ca,.slice Ab n0_1 cb],.slice Ac n1_0 cc].toArray W fun e W2 => e = .returned (.bool res) ∧ Ext W W2 []:=by
 subst hn0_0
 subst hn0_1
 subst hn1_0
 unfold recall_isFrom at h
 refine calls_enter (m:=13) Tryz.func124 rfl rfl (nB rfl) ?_
 refine cS (cR ?_)
 refine ox_box [.slice Aa p0.fNo.length ca,.slice Ab p0.fC.length cb] rfl rfl rfl (fun b1 => ?_)
 refine ox_y rfl (y_assign_bool rfl) ?_
 refine oN (eT (cS (cR ?_)))
 refine ox_y rfl (yMS rfl) (ox_y rfl (y_len (us:=[]) us_26 rfl) (ox_y rfl (y_gtr rfl rfl) (ox_y rfl (y_move_bool rfl) ?_)))
 obtain ⟨b3,hb4,h⟩:=bOs h
 refine ox_join 4 (fun tm0 => (upd (upd tm0 4 (.bool false)) 12 (.bool b3))) (fun tm0 => ?_) (fun key => ?_)
 ·refine ox_y rfl (y_assign_bool rfl) ?_
  refine oN (eT (cx_ret ?_))
  obtain rfl:=sI h
  exact ex_res1 (.inl rfl) rfl (rVt (v:=.bool b3) rfl) (fun W2 hW2 => ⟨rfl,hW2.none⟩)
 ·clear h; rcases iOs hb4 with ⟨hp2,h⟩ | ⟨hp2,h⟩
  ·refine ox_y (sT rfl rfl rfl rfl hp2) (yMS rfl) (ox_y (sT rfl rfl rfl rfl hp2) (y_makeFunc [.pointer (some ⟨b1,0,none⟩)] rfl rfl) ?_)
   obtain ⟨y7,hy8,h⟩:=bOs h
   refine ox_y (sT rfl rfl rfl rfl hp2) (y_call [.slice Ac p1.length cc,.func (.func 135) #[] #[],.func (.func 147) #[] #[.pointer (some ⟨b1,0,none⟩)]] go_134 rfl (fun W2 hW2 => recall_increasing_int_ok p1 (fun x5 => recall_own x5) (fun x6 => recall_isFrom_1 x6 p0) y7 hy8 W2 Ac p1.length cc rfl ((RdL.arg hr1_0) W2 hW2) 135 [] [] go_135 (fun W3 hb x y hxy => recall_own_ok  x  y hxy W3 ) 147 [] [.pointer (some ⟨b1,0,none⟩)] go_147 (fun W3 hb x y hxy => recall_isFrom_1_ok  x p0 y hxy W3 b1 Aa p0.fNo.length ca rfl (((RdL.arg hr0_0) W2 hW2).later hb) Ab p0.fC.length cb ys0_1 rfl (((RdL.arg hr0_1) W2 hW2).later hb) ((NestL.at (NestL.arg hN0_1) W2 hW2).later hb) (((RdL.cells 0 rfl) W2 hW2).later hb))) rfl) (ox_y rfl (y_pick_tb (vB hp2) rfl) ?_)
   obtain rfl:=sI h
   exact key _ _ (kp (kp rfl))
  ·refine oSk (sF rfl rfl rfl rfl hp2) (oSk (sF rfl rfl rfl rfl hp2) (oSk (sF rfl rfl rfl rfl hp2) (ox_y rfl (y_pick_fb (vB hp2) rfl) ?_)))
   obtain rfl:=sI h
   exact key _ _ (kp (kp rfl))
theorem recall_asked_ok (p0:TL) (p1:(List Int)) (res:Int) (h:recall_asked p0 p1 = some res) (W:World) (Aa:Option Addr) (n0_0 ca : Nat) (hn0_0:n0_0 = p0.fNo.length) (hr0_0:Rd W Aa n0_0 ca (encL TNode_cells p0.fNo)) (Ab:Option Addr) (n0_1 cb : Nat) (ys0_1:List (Hd × TC)) (hn0_1:n0_1 = p0.fC.length) (hr0_1:Rd W Ab n0_1 cb (encL TClaim_cells2 ys0_1)) (hN0_1:NestW W (fun z : TC => z.fO) THop_cells ys0_1 p0.fC) (Ac:Option Addr) (n1_0 cc : Nat) (hn1_0:n1_0 = p1.length) (hr1_0:Rd W Ac n1_0 cc (encL cI p1)) :
  Calls Tryz.prog 70 [.agg #[.slice Aa n0_0 ca,.slice Ab n0_1 cb],.slice Ac n1_0 cc].toArray W fun e W2 => e = .returned (.int .i64 res) ∧ Ext W W2 []:=by
 subst hn0_0
 subst hn0_1
 subst hn1_0
 unfold recall_asked at h
 refine calls_enter (m:=15) Tryz.func70 rfl rfl (nB rfl) ?_
 refine cS (cR ?_)
 refine ox_box [.slice Aa p0.fNo.length ca,.slice Ab p0.fC.length cb] rfl rfl rfl (fun b1 => ?_)
 refine ox_y rfl (yAI rfl) ?_
 refine oN (eT (cS (cS (cR ?_))))
 refine ox_y rfl (y_loadN 0 [.slice Aa p0.fNo.length ca,.slice Ab p0.fC.length cb] ag_25 rfl rfl rfl) ?_
 obtain ⟨y2,hy3,h⟩:=bOs h
 refine ox_y rfl (y_call [.agg #[.slice Aa p0.fNo.length ca,.slice Ab p0.fC.length cb]] go_61 rfl (fun W2 hW2 => recall_Check_ok p0 y2 hy3 W2 Aa p0.fNo.length ca rfl ((RdL.arg hr0_0) W2 hW2) Ab p0.fC.length cb ys0_1 rfl ((RdL.arg hr0_1) W2 hW2) (NestL.at (NestL.arg hN0_1) W2 hW2)) rfl) (ox_y rfl (yAI rfl) ?_)
 refine oN (eT (cS (cR ?_)))
 refine ox_y rfl (yMI rfl) (ox_y rfl (y_neq rfl rfl) ?_)
 refine oN (eT ?_)
 rcases iOs h with ⟨hp4,h⟩ | ⟨hp4,h⟩
 ·refine cx_true (vB hp4) ?_
  refine cS (cR ?_)
  refine ox_y rfl (yMI rfl) (ox_y rfl (yAI rfl) ?_)
  refine oN (eT (cx_ret (ex_then_ret ?_)))
  obtain rfl:=sI h
  exact ex_res1 (.inl rfl) rfl (rVt (v:=.int .i64 y2) rfl) (fun W2 hW2 => ⟨rfl,hW2.none⟩)
 ·refine cx_false (vB hp4) ?_
  refine cx_skip (eT (cS (cS (cR ?_))))
  refine ox_y rfl (y_loadN 0 [.slice Aa p0.fNo.length ca,.slice Ab p0.fC.length cb] ag_25 rfl rfl rfl) (ox_y rfl (yMS rfl) ?_)
  obtain ⟨y5,hy6,h⟩:=bOs h
  refine ox_y rfl (y_call [.agg #[.slice Aa p0.fNo.length ca,.slice Ab p0.fC.length cb],.slice Ac p1.length cc] go_124 rfl (fun W2 hW2 => recall_isFrom_ok p0 p1 y5 hy6 W2 Aa p0.fNo.length ca rfl ((RdL.arg hr0_0) W2 hW2) Ab p0.fC.length cb ys0_1 rfl ((RdL.arg hr0_1) W2 hW2) (NestL.at (NestL.arg hN0_1) W2 hW2) Ac p1.length cc rfl ((RdL.arg hr1_0) W2 hW2)) rfl) (ox_y rfl (y_not rfl) ?_)
  refine oN (eT ?_)
  rcases iOs h with ⟨hp7,h⟩ | ⟨hp7,h⟩
  ·refine cx_true (vB hp7) ?_
   refine cS (cR ?_)
   refine ox_y rfl (yAI rfl) ?_
   refine oN (eT (cx_ret (ex_then_ret ?_)))
   obtain rfl:=sI h
   exact ex_res1 (.inl rfl) rfl (rVt (v:=.int .i64 1) rfl) (fun W2 hW2 => ⟨rfl,hW2.none⟩)
  ·refine cx_false (vB hp7) ?_
   refine cx_skip (eT (cS (cR ?_)))
   refine ox_y rfl (yAI rfl) ?_
   refine oN (eT (cx_ret ?_))
   obtain rfl:=sI h
   exact ex_res1 (.inl rfl) rfl (rVt (v:=.int .i64 0) rfl) (fun W2 hW2 => ⟨rfl,hW2.none⟩)
theorem recall_walls_ok (p0:TL) (p1:(List (Int × Bool))) (res:((List Int) × Int)) (h:recall_walls p0 p1 = some res) (W:World) (Aa:Option Addr) (n0_0 ca : Nat) (hn0_0:n0_0 = p0.fNo.length) (hr0_0:Rd W Aa n0_0 ca (encL TNode_cells p0.fNo)) (Ab:Option Addr) (n0_1 cb : Nat) (ys0_1:List (Hd × TC)) (hn0_1:n0_1 = p0.fC.length) (hr0_1:Rd W Ab n0_1 cb (encL TClaim_cells2 ys0_1)) (hN0_1:NestW W (fun z : TC => z.fO) THop_cells ys0_1 p0.fC) (bm1_0:Nat) (hm1_0:(mapV Tryz.prog 3 kI rngB kB false bm1_0 p1).holds W) :
  Calls Tryz.prog 71 [.agg #[.slice Aa n0_0 ca,.slice Ab n0_1 cb],.map (some bm1_0)].toArray W fun e W2 => ∃ x : Option Addr × Nat × Nat,x.2.1 = res.1.length ∧ e = .returned (.tuple #[.slice x.1 x.2.1 x.2.2,.int .i64 res.2]) ∧ Ext W W2 [rowR x.1 x.2.2 3 1 x.2.1 (encL cI res.1)]:=by
 subst hn0_0
 subst hn0_1
 unfold recall_walls at h
 refine calls_enter (m:=38) Tryz.func71 rfl rfl (nB rfl) ?_
 refine cS (cR ?_)
 refine ox_box [.slice Aa p0.fNo.length ca,.slice Ab p0.fC.length cb] rfl rfl rfl (fun b1 => ?_)
 refine ox_y rfl (yAS rfl) (ox_y rfl (yAI rfl) ?_)
 refine oN (eT (cS (cR ?_)))
 refine ox_makeMapV 3 kI rngB kB false rfl (fun b2 => ?_)
 refine ox_y rfl (y_assign_map rfl) ?_
 refine oN (eT (cS (cR ?_)))
 refine ox_y rfl (yAI rfl) ?_
 refine oN (eT (cS (cS (cR ?_))))
 refine ox_y rfl (yFA fo_25_0 rfl) (ox_y rfl (y_load1 0 (v:=.slice Aa p0.fNo.length ca) sc_22 rfl rfl rfl) (ox_y rfl (y_len (us:=[]) us_22 rfl) (ox_y rfl (yMI rfl) ?_)))
 refine oN (eT (cx_block ?_))
 obtain ⟨u6,hl16,h⟩:=bOs h
 refine cx_loop (fun (s:(Int × Int × (List (Int × Bool)))) L tm => ∃ (tm0:Nat → Value),L = [cellsR b1 25 [.slice Aa p0.fNo.length ca,.slice Ab p0.fC.length cb],mapV Tryz.prog 3 kI rngB kB false b2 s.2.2] ∧ tm = (upd (upd (upd (upd (upd (upd (upd (upd (upd (upd tm0 0 (.agg #[.slice Aa p0.fNo.length ca,.slice Ab p0.fC.length cb])) 1 (.map (some bm1_0))) 2 (.pointer (some ⟨b1,0,none⟩))) 4 (.slice none 0 0)) 5 (.int .i64 0)) 6 (.map (some b2))) 7 (.int .i64 s.1)) 12 (.slice Aa p0.fNo.length ca)) 13 (.int .i64 (p0.fNo.length:Int))) 14 (.int .i64 s.2.1))) (fun s e L tm => e = .exit 0 ∧ ∃ (tm0:Nat → Value),L = [cellsR b1 25 [.slice Aa p0.fNo.length ca,.slice Ab p0.fC.length cb],mapV Tryz.prog 3 kI rngB kB false b2 s.2.2] ∧ tm = (upd (upd (upd (upd (upd (upd (upd (upd (upd (upd tm0 0 (.agg #[.slice Aa p0.fNo.length ca,.slice Ab p0.fC.length cb])) 1 (.map (some bm1_0))) 2 (.pointer (some ⟨b1,0,none⟩))) 4 (.slice none 0 0)) 5 (.int .i64 0)) 6 (.map (some b2))) 7 (.int .i64 s.1)) 12 (.slice Aa p0.fNo.length ca)) 13 (.int .i64 (p0.fNo.length:Int))) 14 (.int .i64 s.2.1))) hl16 ⟨_,rfl,(kp4 (kp4 (kp (kp rfl))))⟩ ?_ ?_
 ·rintro s5 L tm st ⟨tm0_s5,rfl,rfl⟩ h
  unfold recall_walls_l1 at h
  refine cS (cR ?_)
  refine ox_y rfl (y_lss rfl rfl) ?_
  refine oN (eT (cS ?_))
  rcases iOs h with ⟨hp7,h⟩ | ⟨hp7,h⟩
  ·refine cx_true (vB hp7) ?_
   refine cx_skip (eT (cS (cx_block (cS (cR ?_)))))
   obtain ⟨hg8,h⟩:=gOs h
   refine ox_y rfl (y_indexR sl_22 (by decide) hg8.1 hg8.2 (RdL.arg hr0_0) (encL_len TNode_cells_len rfl) rfl rfl) ?_
   refine ox_y rfl (y_loadRN (A:=Aa) (j:=(Int.toNat s5.2.1 * 3)) [.int .i64 ((rdL p0.fNo s5.2.1).fID),.int .i64 ((rdL p0.fNo s5.2.1).fLevel),.int .i64 ((rdL p0.fNo s5.2.1).fCost)] ag_97 (Nat.succ_pos _) (RdL.arg hr0_0) rfl (encL_gets TNode_cells_len hg8.1 (lt_nat hg8.2 rfl))) ?_
   refine ox_alloc ze_97 rfl (fun b9 => ?_)
   refine ox_n rfl (y_storeN 2 [.int .i64 ((rdL p0.fNo s5.2.1).fID),.int .i64 ((rdL p0.fNo s5.2.1).fLevel),.int .i64 ((rdL p0.fNo s5.2.1).fCost)] sz_97 rfl (nB rfl) rfl rfl rfl) ?_
   refine oN (eT (cS (cR ?_)))
   refine ox_y rfl (yFA fo_97_1 rfl) (ox_y rfl (y_load1 2 (v:=.int .i64 ((rdL p0.fNo s5.2.1).fLevel)) sc_3 rfl rfl rfl) (ox_y rfl (y_eql rfl rfl) (ox_y rfl (y_move_bool rfl) ?_)))
   obtain ⟨b11,hb12,h⟩:=bOs h
   refine ox_join 5 (fun tm0 => (upd (upd (upd (upd (upd (upd (upd (upd (upd (upd (upd (upd (upd tm0 0 (.agg #[.slice Aa p0.fNo.length ca,.slice Ab p0.fC.length cb])) 1 (.map (some bm1_0))) 2 (.pointer (some ⟨b1,0,none⟩))) 4 (.slice none 0 0)) 5 (.int .i64 0)) 6 (.map (some b2))) 7 (.int .i64 s5.1)) 12 (.slice Aa p0.fNo.length ca)) 13 (.int .i64 (p0.fNo.length:Int))) 14 (.int .i64 s5.2.1)) 15 (.bool (decide (s5.2.1 < (p0.fNo.length:Int))))) 9 (.pointer (some ⟨b9,0,none⟩))) 26 (.bool b11))) (fun tm0 => ?_) (fun key => ?_)
   ·refine oN (eT ?_)
    rcases iOs h with ⟨hp13,h⟩ | ⟨hp13,h⟩
    ·refine cx_true (vB hp13) ?_
     refine cS (cR ?_)
     refine ox_y rfl (y_move_map rfl) (ox_y rfl (yFA fo_97_0 rfl) (ox_y rfl (y_load1 2 (v:=.int .i64 ((rdL p0.fNo s5.2.1).fID)) sc_3 rfl rfl rfl) ?_))
     obtain ⟨hg14,h⟩:=gOs h
     refine ox_n rfl (y_updateV 1 (k:=(rdL p0.fNo s5.2.1).fID) (v:=true) rfl ke_3 um_94 rfl rfl rfl hg14) ?_
     refine oN (eT (cR ?_))
     refine ox_y rfl (yMI rfl) (ox_y rfl (yFA fo_97_2 rfl) (ox_y rfl (y_load1 2 (v:=.int .i64 ((rdL p0.fNo s5.2.1).fCost)) sc_3 rfl rfl rfl) (ox_y rfl (y_add rfl rfl) (ox_y rfl (yAI rfl) (oN (ex_block ?_))))))
     refine eT (cR ?_)
     refine ox_y rfl (y_add rfl rfl) (ox_y rfl (yMI rfl) (oN (ex_take 2 ?_)))
     obtain rfl:=sI h
     exact ex_next ⟨_,rfl,(kp4 (kp4 (kp (kp rfl))))⟩
    ·refine cx_false (vB hp13) (cx_skip (ex_block ?_))
     refine eT (cR ?_)
     refine ox_y rfl (y_add rfl rfl) (ox_y rfl (yMI rfl) (oN (ex_take 2 ?_)))
     obtain rfl:=sI h
     exact ex_next ⟨_,rfl,(kp4 (kp4 (kp (kp rfl))))⟩
   ·clear h; rcases iOs hb12 with ⟨hp10,h⟩ | ⟨hp10,h⟩
    ·refine ox_y (sT rfl rfl rfl rfl hp10) (y_move_map rfl) (ox_y (sT rfl rfl rfl rfl hp10) (yFA fo_97_0 rfl) (ox_y (sT rfl rfl rfl rfl hp10) (y_load1 2 (v:=.int .i64 ((rdL p0.fNo s5.2.1).fID)) sc_3 rfl rfl rfl) ?_))
     obtain ⟨hg15,h⟩:=gOs h
     refine ox_y (sT rfl rfl rfl rfl hp10) (y_lookupV (k:=(rdL p0.fNo s5.2.1).fID) (MpL.arg hm1_0) ke_3 um_94 ze_4 rfl rfl hg15) (ox_y rfl (y_pick_tb (vB hp10) rfl) ?_)
     obtain rfl:=sI h
     exact key _ _ (kp4 (kp4 (kp4 (kp rfl))))
    ·refine oSk (sF rfl rfl rfl rfl hp10) (oSk (sF rfl rfl rfl rfl hp10) (oSk (sF rfl rfl rfl rfl hp10) (oSk (sF rfl rfl rfl rfl hp10) (ox_y rfl (y_pick_fb (vB hp10) rfl) ?_))))
     obtain rfl:=sI h
     exact key _ _ (kp4 (kp4 (kp4 (kp rfl))))
  ·refine cx_false (vB hp7) (cx_exit (ex_then_exit ?_))
   obtain rfl:=sI h
   exact ex_stop ⟨rfl,_,rfl,(kp4 (kp4 (kp (kp rfl))))⟩
 ·intro e L tm hJ
  obtain ⟨rfl,tm0_u6,rfl,rfl⟩:=hJ
  refine ⟨(by intro hc; cases hc),?_⟩
  refine ex_block_here ?_
  refine eT (cS (cR ?_))
  refine ox_y rfl (y_move_map rfl) ?_
  obtain ⟨y17,hy18,h⟩:=bOs h
  refine ox_call [.map (some b2)] _ _ _ rfl go_96 rfl (fun W2 hW2 => recall_listed_ok u6.2.2 y17 hy18 W2 b2 ((MpL.own 1 rfl) W2 hW2)) ?_
  rintro ⟨A19,n21,c20⟩ hn22
  replace hn22 : n21 = y17.length:=hn22; subst hn22
  refine ox_y rfl (yMI rfl) (ox_y rfl (yAS rfl) (ox_y rfl (yAI rfl) ?_))
  refine oN (eT (cx_ret ?_))
  obtain rfl:=sI h
  exact ex_res2 (.inl rfl) rfl (rVt (v:=.slice A19 y17.length c20) rfl) (rVt (v:=.int .i64 u6.1) rfl) (fun W2 hW2 => ⟨(A19,y17.length,c20),rfl,rfl,(hW2.pick 2 rfl)⟩)
theorem recall_Recall_ok (p0:TL) (p1:(List Int)) (p2:Bool) (res:((List Int) × Int × Int)) (h:recall_Recall p0 p1 p2 = some res) (W:World) (Aa:Option Addr) (n0_0 ca : Nat) (hn0_0:n0_0 = p0.fNo.length) (hr0_0:Rd W Aa n0_0 ca (encL TNode_cells p0.fNo)) (Ab:Option Addr) (n0_1 cb : Nat) (ys0_1:List (Hd × TC)) (hn0_1:n0_1 = p0.fC.length) (hr0_1:Rd W Ab n0_1 cb (encL TClaim_cells2 ys0_1)) (hN0_1:NestW W (fun z : TC => z.fO) THop_cells ys0_1 p0.fC) (Ac:Option Addr) (n1_0 cc : Nat) (hn1_0:n1_0 = p1.length) (hr1_0:Rd W Ac n1_0 cc (encL cI p1)) :
  Calls Tryz.prog 17 [.agg #[.slice Aa n0_0 ca,.slice Ab n0_1 cb],.slice Ac n1_0 cc,.bool p2].toArray W fun e W2 => ∃ x : Option Addr × Nat × Nat,x.2.1 = res.1.length ∧ e = .returned (.tuple #[.slice x.1 x.2.1 x.2.2,.int .i64 res.2.1,.int .i64 res.2.2]) ∧ Ext W W2 [rowR x.1 x.2.2 3 1 x.2.1 (encL cI res.1)]:=by
 subst hn0_0
 subst hn0_1
 subst hn1_0
 unfold recall_Recall at h
 refine calls_enter (m:=34) Tryz.func17 rfl rfl (nB rfl) ?_
 refine cS (cR ?_)
 refine ox_box [.slice Aa p0.fNo.length ca,.slice Ab p0.fC.length cb] rfl rfl rfl (fun b1 => ?_)
 refine ox_y rfl (yAS rfl) (ox_y rfl (yAI rfl) (ox_y rfl (yAI rfl) ?_))
 refine oN (eT (cS (cS (cR ?_))))
 refine ox_y rfl (y_loadN 0 [.slice Aa p0.fNo.length ca,.slice Ab p0.fC.length cb] ag_25 rfl rfl rfl) (ox_y rfl (yMS rfl) ?_)
 obtain ⟨y2,hy3,h⟩:=bOs h
 refine ox_y rfl (y_call [.agg #[.slice Aa p0.fNo.length ca,.slice Ab p0.fC.length cb],.slice Ac p1.length cc] go_70 rfl (fun W2 hW2 => recall_asked_ok p0 p1 y2 hy3 W2 Aa p0.fNo.length ca rfl ((RdL.arg hr0_0) W2 hW2) Ab p0.fC.length cb ys0_1 rfl ((RdL.arg hr0_1) W2 hW2) (NestL.at (NestL.arg hN0_1) W2 hW2) Ac p1.length cc rfl ((RdL.arg hr1_0) W2 hW2)) rfl) (ox_y rfl (yAI rfl) ?_)
 refine oN (eT (cS (cR ?_)))
 refine ox_y rfl (yMI rfl) (ox_y rfl (y_neq rfl rfl) ?_)
 refine oN (eT ?_)
 rcases iOs h with ⟨hp4,h⟩ | ⟨hp4,h⟩
 ·refine cx_true (vB hp4) ?_
  refine cS (cR ?_)
  refine ox_y rfl (yMI rfl) (ox_y rfl (yAS rfl) (ox_y rfl (yAI rfl) (ox_y rfl (yAI rfl) ?_)))
  refine oN (eT (cx_ret (ex_then_ret ?_)))
  obtain rfl:=sI h
  exact ex_res3 (.inl rfl) rfl (rVt (v:=.slice none 0 0) rfl) (rVt (v:=.int .i64 0) rfl) (rVt (v:=.int .i64 y2) rfl) (fun W2 hW2 => ⟨(none,0,0),rfl,rfl,((hW2.nilrow 3 1).pick 1 rfl)⟩)
 ·refine cx_false (vB hp4) ?_
  refine cx_skip (eT (cS (cR ?_)))
  refine ox_y rfl (y_loadN 0 [.slice Aa p0.fNo.length ca,.slice Ab p0.fC.length cb] ag_25 rfl rfl rfl) (ox_y rfl (yMS rfl) ?_)
  obtain ⟨y5,hy6,h⟩:=bOs h
  refine ox_call1 [.agg #[.slice Aa p0.fNo.length ca,.slice Ab p0.fC.length cb],.slice Ac p1.length cc] _ _ rfl go_65 rfl (fun W2 hW2 => recall_possible_ok p0 p1 y5 hy6 W2 Aa p0.fNo.length ca rfl ((RdL.arg hr0_0) W2 hW2) Ab p0.fC.length cb ys0_1 rfl ((RdL.arg hr0_1) W2 hW2) (NestL.at (NestL.arg hN0_1) W2 hW2) Ac p1.length cc rfl ((RdL.arg hr1_0) W2 hW2)) ?_
  rintro b7
  refine ox_y rfl (y_assign_map rfl) ?_
  refine oN (eT (cS (cS (cR ?_))))
  refine ox_y rfl (y_move_bool rfl) ?_
  refine oN (eT ?_)
  rcases iOs h with ⟨hp8,h⟩ | ⟨hp8,h⟩
  ·refine cx_true (vB hp8) (cR (ox_y rfl (y_loadN 0 [.slice Aa p0.fNo.length ca,.slice Ab p0.fC.length cb] ag_25 rfl rfl rfl) (ox_y rfl (yMS rfl) ?_)))
   obtain ⟨y9,hy10,h⟩:=bOs h
   refine ox_call1 [.agg #[.slice Aa p0.fNo.length ca,.slice Ab p0.fC.length cb],.slice Ac p1.length cc] _ _ rfl go_64 rfl (fun W2 hW2 => recall_sure_ok p0 p1 y9 hy10 W2 Aa p0.fNo.length ca rfl ((RdL.arg hr0_0) W2 hW2) Ab p0.fC.length cb ys0_1 rfl ((RdL.arg hr0_1) W2 hW2) (NestL.at (NestL.arg hN0_1) W2 hW2) Ac p1.length cc rfl ((RdL.arg hr1_0) W2 hW2)) ?_
   rintro b11
   refine ox_y rfl (y_assign_map rfl) ?_
   refine oN (eT (cS (cR ?_)))
   refine ox_y rfl (y_loadN 0 [.slice Aa p0.fNo.length ca,.slice Ab p0.fC.length cb] ag_25 rfl rfl rfl) (ox_y rfl (y_move_map rfl) ?_)
   obtain ⟨y12,hy13,h⟩:=bOs h
   refine ox_call [.agg #[.slice Aa p0.fNo.length ca,.slice Ab p0.fC.length cb],.map (some b11)] _ _ _ rfl go_71 rfl (fun W2 hW2 => recall_walls_ok p0 y9 y12 hy13 W2 Aa p0.fNo.length ca rfl ((RdL.arg hr0_0) W2 hW2) Ab p0.fC.length cb ys0_1 rfl ((RdL.arg hr0_1) W2 hW2) (NestL.at (NestL.arg hN0_1) W2 hW2) b11 ((MpL.own 2 rfl) W2 hW2)) ?_
   rintro ⟨A14,n16,c15⟩ hn17
   replace hn17 : n16 = y12.1.length:=hn17; subst hn17
   refine ox_y rfl (y_move_tuple rfl) (ox_y rfl (y_extract (vs:=[.slice A14 y12.1.length c15,.int .i64 y12.2]) (v:=.slice A14 y12.1.length c15) rfl rfl) (ox_y rfl (y_extract (vs:=[.slice A14 y12.1.length c15,.int .i64 y12.2]) (v:=.int .i64 y12.2) rfl rfl) (ox_y rfl (yAS rfl) (ox_y rfl (yAI rfl) ?_))))
   refine oN (eT (cS (cR ?_)))
   refine ox_y rfl (yMS rfl) (ox_y rfl (yMI rfl) (ox_y rfl (yAS rfl) (ox_y rfl (yAI rfl) (ox_y rfl (yAI rfl) ?_))))
   refine oN (eT (cx_ret ?_))
   obtain rfl:=sI h
   exact ex_res3 (.inl rfl) rfl (rVt (v:=.slice A14 y12.1.length c15) rfl) (rVt (v:=.int .i64 y12.2) rfl) (rVt (v:=.int .i64 0) rfl) (fun W2 hW2 => ⟨(A14,y12.1.length,c15),rfl,rfl,(hW2.pick 3 rfl)⟩)
  ·refine cx_false (vB hp8) ?_
   refine cx_skip (eT (cS (cR ?_)))
   refine ox_y rfl (y_loadN 0 [.slice Aa p0.fNo.length ca,.slice Ab p0.fC.length cb] ag_25 rfl rfl rfl) (ox_y rfl (y_move_map rfl) ?_)
   obtain ⟨y18,hy19,h⟩:=bOs h
   refine ox_call [.agg #[.slice Aa p0.fNo.length ca,.slice Ab p0.fC.length cb],.map (some b7)] _ _ _ rfl go_71 rfl (fun W2 hW2 => recall_walls_ok p0 y5 y18 hy19 W2 Aa p0.fNo.length ca rfl ((RdL.arg hr0_0) W2 hW2) Ab p0.fC.length cb ys0_1 rfl ((RdL.arg hr0_1) W2 hW2) (NestL.at (NestL.arg hN0_1) W2 hW2) b7 ((MpL.own 1 rfl) W2 hW2)) ?_
   rintro ⟨A20,n22,c21⟩ hn23
   replace hn23 : n22 = y18.1.length:=hn23; subst hn23
   refine ox_y rfl (y_move_tuple rfl) (ox_y rfl (y_extract (vs:=[.slice A20 y18.1.length c21,.int .i64 y18.2]) (v:=.slice A20 y18.1.length c21) rfl rfl) (ox_y rfl (y_extract (vs:=[.slice A20 y18.1.length c21,.int .i64 y18.2]) (v:=.int .i64 y18.2) rfl rfl) (ox_y rfl (yAS rfl) (ox_y rfl (yAI rfl) ?_))))
   refine oN (eT (cS (cR ?_)))
   refine ox_y rfl (yMS rfl) (ox_y rfl (yMI rfl) (ox_y rfl (yAS rfl) (ox_y rfl (yAI rfl) (ox_y rfl (yAI rfl) ?_))))
   refine oN (eT (cx_ret ?_))
   obtain rfl:=sI h
   exact ex_res3 (.inl rfl) rfl (rVt (v:=.slice A20 y18.1.length c21) rfl) (rVt (v:=.int .i64 y18.2) rfl) (rVt (v:=.int .i64 0) rfl) (fun W2 hW2 => ⟨(A20,y18.1.length,c21),rfl,rfl,(hW2.pick 2 rfl)⟩)
theorem ref09_SameInts_ok (p0:(List Int)) (p1:(List Int)) (res:Bool) (h:ref09_SameInts p0 p1 = some res) (W:World) (Aa:Option Addr) (n0_0 ca : Nat) (hn0_0:n0_0 = p0.length) (hr0_0:Rd W Aa n0_0 ca (encL cI p0)) (Ac:Option Addr) (n1_0 cc : Nat) (hn1_0:n1_0 = p1.length) (hr1_0:Rd W Ac n1_0 cc (encL cI p1)) :
  Calls Tryz.prog 19 [.slice Aa n0_0 ca,.slice Ac n1_0 cc].toArray W fun e W2 => e = .returned (.bool res) ∧ Ext W W2 []:=by
 subst hn0_0
 subst hn1_0
 unfold ref09_SameInts at h
 refine calls_enter (m:=26) Tryz.func19 rfl rfl (nB rfl) ?_
 refine cS (cR ?_)
 refine ox_y rfl (y_assign_bool rfl) ?_
 refine oN (eT (cS (cS (cR ?_))))
 refine ox_y rfl (yMS rfl) (ox_y rfl (y_len (us:=[]) us_26 rfl) (ox_y rfl (yMS rfl) (ox_y rfl (y_len (us:=[]) us_26 rfl) (ox_y rfl (y_neq rfl rfl) ?_))))
 refine oN (eT ?_)
 rcases iOs h with ⟨hp1,h⟩ | ⟨hp1,h⟩
 ·refine cx_true (vB hp1) ?_
  refine cS (cR ?_)
  refine ox_y rfl (y_assign_bool rfl) ?_
  refine oN (eT (cx_ret (ex_then_ret ?_)))
  obtain rfl:=sI h
  exact ex_res1 (.inl rfl) rfl (rVt (v:=.bool false) rfl) (fun W2 hW2 => ⟨rfl,hW2.none⟩)
 ·refine cx_false (vB hp1) ?_
  refine cx_skip (eT (cS (cS (cR ?_))))
  refine ox_y rfl (yAI rfl) ?_
  refine oN (eT (cx_block ?_))
  obtain ⟨u4,hl9,h⟩:=bOs h
  refine cx_loop (fun (s:(Bool × Int)) L tm => ∃ (tm0:Nat → Value),L = [] ∧ tm = (upd (upd (upd (upd (upd tm0 0 (.slice Aa p0.length ca)) 1 (.slice Ac p1.length cc)) 4 (.bool s.1)) 10 (.bool ((p0.length:Int) != (p1.length:Int)))) 5 (.int .i64 s.2))) (fun | (.inl s),e,L,tm => e = .ret ∧ ∃ (tm0:Nat → Value),L = [] ∧ tm = (upd (upd (upd (upd (upd tm0 0 (.slice Aa p0.length ca)) 1 (.slice Ac p1.length cc)) 4 (.bool s.1)) 10 (.bool ((p0.length:Int) != (p1.length:Int)))) 5 (.int .i64 s.2)) | (.inr s),e,L,tm => e = .exit 0 ∧ ∃ (tm0:Nat → Value),L = [] ∧ tm = (upd (upd (upd (upd (upd tm0 0 (.slice Aa p0.length ca)) 1 (.slice Ac p1.length cc)) 4 (.bool s.1)) 10 (.bool ((p0.length:Int) != (p1.length:Int)))) 5 (.int .i64 s.2))) hl9 ⟨_,rfl,(kp4 (kp rfl))⟩ ?_ ?_
  ·rintro s3 L tm st ⟨tm0_s3,rfl,rfl⟩ h
   unfold ref09_SameInts_l1 at h
   refine cS (cS (cR ?_))
   refine ox_y rfl (yMI rfl) (ox_y rfl (yMS rfl) (ox_y rfl (y_len (us:=[]) us_26 rfl) (ox_y rfl (y_lss rfl rfl) ?_)))
   refine oN (eT ?_)
   rcases iOs h with ⟨hp5,h⟩ | ⟨hp5,h⟩
   ·refine cx_true (vB hp5) ?_
    refine cx_skip (eT (cS (cx_block (cS ?_))))
    refine cx_draws 9 mixed (by kernel_rfl) (by kernel_rfl) ?_
    refine qx_y rfl (yMS rfl) (qx_y rfl (yMI rfl) ?_)
    obtain ⟨hg6,h⟩:=gOs h
    refine qx_y rfl (y_indexR sl_26 (by decide) hg6.1 hg6.2 (RdL.arg hr0_0) (encL_len cI_len rfl) rfl rfl) ?_
    refine qx_y rfl (y_loadR1 (A:=Aa) (j:=(Int.toNat s3.2 * 1)) (v:=.int .i64 (rdL p0 s3.2)) sc_3 (RdL.arg hr0_0) rfl (encL_get0 cI_len hg6.1 (lt_nat hg6.2 rfl) rfl)) (qx_y rfl (yMS rfl) (qx_y rfl (yMI rfl) ?_))
    obtain ⟨hg7,h⟩:=gOs h
    refine qx_y rfl (y_indexR sl_26 (by decide) hg7.1 hg7.2 (RdL.arg hr1_0) (encL_len cI_len rfl) rfl rfl) ?_
    refine qx_y rfl (y_loadR1 (A:=Ac) (j:=(Int.toNat s3.2 * 1)) (v:=.int .i64 (rdL p1 s3.2)) sc_3 (RdL.arg hr1_0) rfl (encL_get0 cI_len hg7.1 (lt_nat hg7.2 rfl) rfl)) (qx_y rfl (y_neq rfl rfl) (qx_nil ?_))
    refine oN (eT ?_)
    rcases iOs h with ⟨hp8,h⟩ | ⟨hp8,h⟩
    ·refine cx_true (vB hp8) ?_
     refine cS (cR ?_)
     refine ox_y rfl (y_assign_bool rfl) ?_
     refine oN (eT (cx_ret (ex_block_ret (ex_then_ret ?_))))
     obtain rfl:=sI h
     exact ex_stop ⟨rfl,_,rfl,(kp4 (kp rfl))⟩
    ·refine cx_false (vB hp8) (cx_skip (ex_block ?_))
     refine eT (cR ?_)
     refine ox_y rfl (yMI rfl) (ox_y rfl (y_add rfl rfl) (ox_y rfl (yAI rfl) (oN ?_)))
     obtain rfl:=sI h
     exact ex_next ⟨_,rfl,(kp4 (kp rfl))⟩
   ·refine cx_false (vB hp5) (cx_exit (ex_then_exit ?_))
    obtain rfl:=sI h
    exact ex_stop ⟨rfl,_,rfl,(kp4 (kp rfl))⟩
  ·intro e L tm hJ
   rcases u4 with u10 | u11
   ·dsimp only at h hJ
    obtain ⟨rfl,tm0_u10,rfl,rfl⟩:=hJ
    refine ⟨(by intro hc; cases hc),?_⟩
    refine ex_block_ret (ex_then_ret ?_)
    obtain rfl:=sI h
    exact ex_res1 (.inl rfl) rfl (rVt (v:=.bool u10.1) rfl) (fun W2 hW2 => ⟨rfl,hW2.none⟩)
   ·dsimp only at h hJ
    obtain ⟨rfl,tm0_u11,rfl,rfl⟩:=hJ
    refine ⟨(by intro hc; cases hc),?_⟩
    refine ex_block_here ?_
    refine eT (cS (cR ?_))
    refine ox_y rfl (y_assign_bool rfl) ?_
    refine oN (eT (cx_ret ?_))
    obtain rfl:=sI h
    exact ex_res1 (.inl rfl) rfl (rVt (v:=.bool true) rfl) (fun W2 hW2 => ⟨rfl,hW2.none⟩)
theorem recall_askedTo_ok (p0:TL) (p1:(List Int)) (p2:Int) (res:Int) (h:recall_askedTo p0 p1 p2 = some res) (W:World) (Aa:Option Addr) (n0_0 ca : Nat) (hn0_0:n0_0 = p0.fNo.length) (hr0_0:Rd W Aa n0_0 ca (encL TNode_cells p0.fNo)) (Ab:Option Addr) (n0_1 cb : Nat) (ys0_1:List (Hd × TC)) (hn0_1:n0_1 = p0.fC.length) (hr0_1:Rd W Ab n0_1 cb (encL TClaim_cells2 ys0_1)) (hN0_1:NestW W (fun z : TC => z.fO) THop_cells ys0_1 p0.fC) (Ac:Option Addr) (n1_0 cc : Nat) (hn1_0:n1_0 = p1.length) (hr1_0:Rd W Ac n1_0 cc (encL cI p1)) :
  Calls Tryz.prog 74 [.agg #[.slice Aa n0_0 ca,.slice Ab n0_1 cb],.slice Ac n1_0 cc,.int .i64 p2].toArray W fun e W2 => e = .returned (.int .i64 res) ∧ Ext W W2 []:=by
 subst hn0_0
 subst hn0_1
 subst hn1_0
 unfold recall_askedTo at h
 refine calls_enter (m:=18) Tryz.func74 rfl rfl (nB rfl) ?_
 refine cS (cR ?_)
 refine ox_box [.slice Aa p0.fNo.length ca,.slice Ab p0.fC.length cb] rfl rfl rfl (fun b1 => ?_)
 refine ox_y rfl (yAI rfl) ?_
 refine oN (eT (cS (cS (cR ?_))))
 refine ox_y rfl (y_loadN 0 [.slice Aa p0.fNo.length ca,.slice Ab p0.fC.length cb] ag_25 rfl rfl rfl) (ox_y rfl (yMS rfl) ?_)
 obtain ⟨y2,hy3,h⟩:=bOs h
 refine ox_y rfl (y_call [.agg #[.slice Aa p0.fNo.length ca,.slice Ab p0.fC.length cb],.slice Ac p1.length cc] go_70 rfl (fun W2 hW2 => recall_asked_ok p0 p1 y2 hy3 W2 Aa p0.fNo.length ca rfl ((RdL.arg hr0_0) W2 hW2) Ab p0.fC.length cb ys0_1 rfl ((RdL.arg hr0_1) W2 hW2) (NestL.at (NestL.arg hN0_1) W2 hW2) Ac p1.length cc rfl ((RdL.arg hr1_0) W2 hW2)) rfl) (ox_y rfl (yAI rfl) ?_)
 refine oN (eT (cS (cR ?_)))
 refine ox_y rfl (yMI rfl) (ox_y rfl (y_neq rfl rfl) ?_)
 refine oN (eT ?_)
 rcases iOs h with ⟨hp4,h⟩ | ⟨hp4,h⟩
 ·refine cx_true (vB hp4) ?_
  refine cS (cR ?_)
  refine ox_y rfl (yMI rfl) (ox_y rfl (yAI rfl) ?_)
  refine oN (eT (cx_ret (ex_then_ret ?_)))
  obtain rfl:=sI h
  exact ex_res1 (.inl rfl) rfl (rVt (v:=.int .i64 y2) rfl) (fun W2 hW2 => ⟨rfl,hW2.none⟩)
 ·refine cx_false (vB hp4) ?_
  refine cx_skip (eT (cS (cS (cR ?_))))
  refine ox_y rfl (y_loadN 0 [.slice Aa p0.fNo.length ca,.slice Ab p0.fC.length cb] ag_25 rfl rfl rfl) (ox_y rfl (yMI rfl) ?_)
  obtain ⟨y5,hy6,h⟩:=bOs h
  refine ox_y rfl (y_call [.agg #[.slice Aa p0.fNo.length ca,.slice Ab p0.fC.length cb],.int .i64 p2] go_62 rfl (fun W2 hW2 => recall_nodeOf_ok p0 p2 y5 hy6 W2 Aa p0.fNo.length ca rfl ((RdL.arg hr0_0) W2 hW2) Ab p0.fC.length cb ys0_1 rfl ((RdL.arg hr0_1) W2 hW2) (NestL.at (NestL.arg hN0_1) W2 hW2)) rfl) (ox_y rfl (y_lss rfl rfl) ?_)
  refine oN (eT ?_)
  rcases iOs h with ⟨hp7,h⟩ | ⟨hp7,h⟩
  ·refine cx_true (vB hp7) ?_
   refine cS (cR ?_)
   refine ox_y rfl (yAI rfl) ?_
   refine oN (eT (cx_ret (ex_then_ret ?_)))
   obtain rfl:=sI h
   exact ex_res1 (.inl rfl) rfl (rVt (v:=.int .i64 5) rfl) (fun W2 hW2 => ⟨rfl,hW2.none⟩)
  ·refine cx_false (vB hp7) ?_
   refine cx_skip (eT (cS (cR ?_)))
   refine ox_y rfl (yAI rfl) ?_
   refine oN (eT (cx_ret ?_))
   obtain rfl:=sI h
   exact ex_res1 (.inl rfl) rfl (rVt (v:=.int .i64 0) rfl) (fun W2 hW2 => ⟨rfl,hW2.none⟩)
theorem recall_maybe_1_ok (p0:Int) (p1:Int) (cap0:(List Int)) (cap1:Int → Int → Option Bool) (res:Bool) (h:recall_maybe_1 p0 p1 cap0 cap1 = some res) (W:World) (bc0:Nat) (A100_0:Option Addr) (n100_0 c100_0 : Nat) (hn100_0:n100_0 = cap0.length) (hr100_0:Rd W A100_0 n100_0 c100_0 (encL cI cap0)) (hcap0:Rd W (some ⟨bc0,0,none⟩) 1 1 [.slice A100_0 n100_0 c100_0]) (bc1:Nat) (fidc1:Nat) (fstc1 capsc1 : List Value) (hgoc1:goes Tryz.prog fidc1 = true) (hofc1:∀ W2,Below W.heap.size W W2 → ∀ x0 x1,∀ y,cap1 x0 x1 = some y → Calls Tryz.prog fidc1 (fstc1 ++ (([.int .i64 x0,.int .i64 x1] : List Value) ++ capsc1)).toArray W2 fun e W3 => e = .returned (.bool y) ∧ Ext W2 W3 []) (hcap1:Rd W (some ⟨bc1,0,none⟩) 1 1 [.func (.func fidc1) fstc1.toArray capsc1.toArray]) :
  Calls Tryz.prog 126 [.int .i64 p0,.int .i64 p1,.pointer (some ⟨bc0,0,none⟩),.pointer (some ⟨bc1,0,none⟩)].toArray W fun e W2 => e = .returned (.bool res) ∧ Ext W W2 []:=by
 subst hn100_0
 unfold recall_maybe_1 at h
 refine calls_enter (m:=19) Tryz.func126 rfl rfl (nB rfl) ?_
 refine cS (cR ?_)
 refine ox_y rfl (y_assign_bool rfl) ?_
 refine oN (eT (cS (cR ?_)))
 refine ox_y rfl (y_loadR1 (A:=(some ⟨bc0,0,none⟩)) (j:=0) (v:=.slice A100_0 cap0.length c100_0) sc_26 (RdL.arg hcap0) rfl rfl) (ox_y rfl (yMI rfl) ?_)
 obtain ⟨hg1,h⟩:=gOs h
 refine ox_y rfl (y_indexR sl_26 (by decide) hg1.1 hg1.2 (RdL.arg hr100_0) (encL_len cI_len rfl) rfl rfl) ?_
 refine ox_y rfl (y_loadR1 (A:=A100_0) (j:=(Int.toNat p0 * 1)) (v:=.int .i64 (rdL cap0 p0)) sc_3 (RdL.arg hr100_0) rfl (encL_get0 cI_len hg1.1 (lt_nat hg1.2 rfl) rfl)) (ox_y rfl (yMI rfl) (ox_y rfl (y_eql rfl rfl) (ox_y rfl (y_move_bool rfl) ?_)))
 obtain ⟨b3,hb4,h⟩:=bOs h
 refine ox_join 5 (fun tm0 => (upd (upd tm0 6 (.bool false)) 18 (.bool b3))) (fun tm0 => ?_) (fun key => ?_)
 ·refine ox_y rfl (y_assign_bool rfl) ?_
  refine oN (eT (cx_ret ?_))
  obtain rfl:=sI h
  exact ex_res1 (.inl rfl) rfl (rVt (v:=.bool b3) rfl) (fun W2 hW2 => ⟨rfl,hW2.none⟩)
 ·clear h; rcases iOs hb4 with ⟨hp2,h⟩ | ⟨hp2,h⟩
  ·refine ox_y (sT rfl rfl rfl rfl hp2) (y_loadR1 (A:=(some ⟨bc1,0,none⟩)) (j:=0) (v:=.func (.func fidc1) fstc1.toArray capsc1.toArray) sc_107 (RdL.arg hcap1) rfl rfl) (ox_y (sT rfl rfl rfl rfl hp2) (yMI rfl) (ox_y (sT rfl rfl rfl rfl hp2) (yMI rfl) ?_))
   obtain ⟨y5,hy6,h⟩:=bOs h
   refine ox_y (sT rfl rfl rfl rfl hp2) (y_callvF [.int .i64 p0,.int .i64 p1] hgoc1 rfl rfl (fun W2 hW2 => hofc1 W2 hW2.below p0 p1 y5 hy6)) (ox_y rfl (y_pick_tb (vB hp2) rfl) ?_)
   obtain rfl:=sI h
   exact key _ _ (kp (kp rfl))
  ·refine oSk (sF rfl rfl rfl rfl hp2) (oSk (sF rfl rfl rfl rfl hp2) (oSk (sF rfl rfl rfl rfl hp2) (oSk (sF rfl rfl rfl rfl hp2) (ox_y rfl (y_pick_fb (vB hp2) rfl) ?_))))
   obtain rfl:=sI h
   exact key _ _ (kp (kp rfl))
theorem recall_maybe_ok (p0:TL) (p1:(List Int)) (p2:Int) (p3:Int → Int → Option Bool) (res:Bool) (h:recall_maybe p0 p1 p2 p3 = some res) (W:World) (Aa:Option Addr) (n0_0 ca : Nat) (hn0_0:n0_0 = p0.fNo.length) (hr0_0:Rd W Aa n0_0 ca (encL TNode_cells p0.fNo)) (Ab:Option Addr) (n0_1 cb : Nat) (ys0_1:List (Hd × TC)) (hn0_1:n0_1 = p0.fC.length) (hr0_1:Rd W Ab n0_1 cb (encL TClaim_cells2 ys0_1)) (hN0_1:NestW W (fun z : TC => z.fO) THop_cells ys0_1 p0.fC) (Ac:Option Addr) (n1_0 cc : Nat) (hn1_0:n1_0 = p1.length) (hr1_0:Rd W Ac n1_0 cc (encL cI p1)) (fid3:Nat) (fst3 caps3 : List Value) (hgo3:goes Tryz.prog fid3 = true) (hof3:∀ W2,Below W.heap.size W W2 → ∀ x0 x1,∀ y,p3 x0 x1 = some y → Calls Tryz.prog fid3 (fst3 ++ (([.int .i64 x0,.int .i64 x1] : List Value) ++ caps3)).toArray W2 fun e W3 => e = .returned (.bool y) ∧ Ext W2 W3 []) :
  Calls Tryz.prog 75 [.agg #[.slice Aa n0_0 ca,.slice Ab n0_1 cb],.slice Ac n1_0 cc,.int .i64 p2,.func (.func fid3) fst3.toArray caps3.toArray].toArray W fun e W2 => e = .returned (.bool res) ∧ Ext W W2 []:=by
 subst hn0_0
 subst hn0_1
 subst hn1_0
 unfold recall_maybe at h
 refine calls_enterM (m:=26) Tryz.func75 rfl rfl (nB rfl) ?_
 refine cS (cR ?_)
 refine ox_box [.slice Aa p0.fNo.length ca,.slice Ab p0.fC.length cb] rfl rfl rfl (fun b1 => ?_)
 refine ox_box [.slice Ac p1.length cc] rfl rfl rfl (fun b2 => ?_)
 refine ox_box [.int .i64 p2] rfl rfl rfl (fun b3 => ?_)
 refine ox_box [.func (.func fid3) fst3.toArray caps3.toArray] rfl rfl rfl (fun b4 => ?_)
 refine ox_alloc ze_4 rfl (fun b5 => ?_)
 refine oN (eT (cS (cS ?_)))
 obtain ⟨y6,hy7,h⟩:=bOs h
 refine cx_drawsQ 3 5 (fun v L1 => ∃ x : Nat,v = .map (some x) ∧ L1 = [mapV Tryz.prog 3 kI rngB kB false x y6]) mixed (by kernel_rfl) (by kernel_rfl) (by kernel_rfl) ?_
 refine bx_y rfl (fun _ => y_loadN 0 [.slice Aa p0.fNo.length ca,.slice Ab p0.fC.length cb] ag_25 rfl rfl rfl) (bx_y rfl (fun _ => y_load1 1 (v:=.slice Ac p1.length cc) sc_26 rfl rfl rfl) (bx_y rfl (fun _ => y_load1 3 (v:=.func (.func fid3) fst3.toArray caps3.toArray) sc_107 rfl rfl rfl) (bx_q rfl (ox_call1 [.agg #[.slice Aa p0.fNo.length ca,.slice Ab p0.fC.length cb],.slice Ac p1.length cc,.func (.func fid3) fst3.toArray caps3.toArray] _ _ rfl go_87 rfl (fun W2 hW2 => recall_reach_ok p0 p1 p3 y6 hy7 W2 Aa p0.fNo.length ca rfl ((RdL.arg hr0_0) W2 hW2) Ab p0.fC.length cb ys0_1 rfl ((RdL.arg hr0_1) W2 hW2) (NestL.at (NestL.arg hN0_1) W2 hW2) Ac p1.length cc rfl ((RdL.arg hr1_0) W2 hW2) fid3 fst3 caps3 hgo3 (fun W3 hb => hof3 W3 (belowT hW2.below hb))) (fun x => oN (ex_cap ⟨x,rfl,rfl⟩))) (kx_y rfl (fun _ => y_load1 2 (v:=.int .i64 p2) sc_3 rfl rfl rfl) (kx_nil rfl ?_)))))
 rintro v L1 ⟨b8,rfl,rfl⟩
 try dsimp only [lna,lca,lsz,lss]
 obtain ⟨hg9,h⟩:=gOs h
 refine ox_y rfl (y_lookupV (k:=p2) (MpL.own 5 rfl) ke_3 um_94 ze_4 rfl rfl hg9) (ox_y rfl (y_not rfl) (oN (ex_only (eT ?_))))
 rcases iOs h with ⟨hp10,h⟩ | ⟨hp10,h⟩
 ·refine cx_true (vB hp10) ?_
  refine cS (cR ?_)
  refine ox_n rfl (y_store1 4 (v:=.bool false) sz_4 rfl (Nat.lt_of_lt_of_le (Nat.lt_succ_self _) (nB rfl)) rfl rfl rfl) ?_
  refine oN (eT (cx_ret (ex_then_ret ?_)))
  refine ex_M0 (.inl rfl) ?_
  obtain rfl:=sI h
  exact ex_res1 (.inl rfl) rfl (resV_cell1 4 (v:=.bool false) sc_4 rfl rfl rfl) (fun W2 hW2 => ⟨rfl,hW2.none⟩)
 ·refine cx_false (vB hp10) ?_
  refine cx_skip (eT (cS (cS (cR ?_))))
  refine ox_y rfl (y_loadN 0 [.slice Aa p0.fNo.length ca,.slice Ab p0.fC.length cb] ag_25 rfl rfl rfl) ?_
  obtain ⟨y11,hy12,h⟩:=bOs h
  refine ox_call1 [.agg #[.slice Aa p0.fNo.length ca,.slice Ab p0.fC.length cb]] _ _ rfl go_86 rfl (fun W2 hW2 => recall_cases_ok p0 y11 hy12 W2 Aa p0.fNo.length ca rfl ((RdL.arg hr0_0) W2 hW2) Ab p0.fC.length cb ys0_1 rfl ((RdL.arg hr0_1) W2 hW2) (NestL.at (NestL.arg hN0_1) W2 hW2)) ?_
  rintro b13
  try dsimp only [lna,lca,lsz,lss]
  refine oN (eT (cx_block ?_))
  obtain ⟨hok36,h⟩:=gOs h
  obtain ⟨u26,hl35,h⟩:=bOs h
  refine cx_rangeC (caps:=[.pointer (some ⟨b13,0,none⟩)]) (fun (s:Bool) L => L = [cellsR b1 25 [.slice Aa p0.fNo.length ca,.slice Ab p0.fC.length cb],cellsR b2 26 [.slice Ac p1.length cc],cellsR b3 3 [.int .i64 p2],cellsR b4 107 [.func (.func fid3) fst3.toArray caps3.toArray],cellsR b5 4 [.bool s],mapV Tryz.prog 3 kI rngB kB false b8 y6,cellsR b13 25 [.slice Aa p0.fNo.length ca,.slice Ab p0.fC.length cb]]) (fun (s:Bool) e L => e = .ret ∧ L = [cellsR b1 25 [.slice Aa p0.fNo.length ca,.slice Ab p0.fC.length cb],cellsR b2 26 [.slice Ac p1.length cc],cellsR b3 3 [.int .i64 p2],cellsR b4 107 [.func (.func fid3) fst3.toArray caps3.toArray],cellsR b5 4 [.bool s],mapV Tryz.prog 3 kI rngB kB false b8 y6,cellsR b13 25 [.slice Aa p0.fNo.length ca,.slice Ab p0.fC.length cb]]) hl35 rfl go_130 (recall_cases_1_seq p0 hok36 b13 Aa p0.fNo.length ca Ab p0.fC.length cb rfl ys0_1 hN0_1.p) (fun W2 s L hI hW2 => by obtain rfl:=hI; exact ⟨(RdL.cells 6 rfl) W2 hW2,(RdL.arg hr0_1) W2 hW2⟩) rfl (fun s e L hI => by obtain ⟨rfl,_⟩:=hI; exact .inl rfl) ?_ ?_ ?_
  ·rintro D14 l15 rec16 A18 c19 s24 x25 L st hrec17 rfl h
   unfold recall_maybe_r1 at h
   refine cR ?_
   try dsimp only [lna,lca,lsz,lss]
   refine ox_alloc ze_26 rfl (fun b27 => ?_)
   try dsimp only [lna,lca,lsz,lss]
   refine ox_n rfl (y_store1 10 (v:=.slice A18 x25.length c19) sz_26 rfl (Nat.lt_of_lt_of_le (Nat.lt_succ_self _) (nB rfl)) rfl rfl rfl) (oN (ex_begin 8 rfl hrec17 ?_))
   refine cx_block (cS ?_)
   obtain ⟨y30,hy31,h⟩:=bOs h
   refine cx_drawsQ 3 5 (fun v L1 => ∃ x : Nat,v = .map (some x) ∧ L1 = [mapV Tryz.prog 3 kI rngB kB false x y30]) mixed (by kernel_rfl) (by kernel_rfl) (by kernel_rfl) ?_
   refine bx_y rfl (fun _ => y_loadN 0 [.slice Aa p0.fNo.length ca,.slice Ab p0.fC.length cb] ag_25 rfl rfl rfl) (bx_y rfl (fun _ => y_load1 1 (v:=.slice Ac p1.length cc) sc_26 rfl rfl rfl) (bx_y rfl (fun _ => y_makeFunc [.pointer (some ⟨b27,0,none⟩),.pointer (some ⟨b4,0,none⟩)] rfl rfl) (bx_q rfl (ox_call1 [.agg #[.slice Aa p0.fNo.length ca,.slice Ab p0.fC.length cb],.slice Ac p1.length cc,.func (.func 126) #[] #[.pointer (some ⟨b27,0,none⟩),.pointer (some ⟨b4,0,none⟩)]] _ _ rfl go_87 rfl (fun W2 hW2 => recall_reach_ok p0 p1 (fun x28 x29 => recall_maybe_1 x28 x29 x25 p3) y30 hy31 W2 Aa p0.fNo.length ca rfl ((RdL.arg hr0_0) W2 hW2) Ab p0.fC.length cb ys0_1 rfl ((RdL.arg hr0_1) W2 hW2) (NestL.at (NestL.arg hN0_1) W2 hW2) Ac p1.length cc rfl ((RdL.arg hr1_0) W2 hW2) 126 [] [.pointer (some ⟨b27,0,none⟩),.pointer (some ⟨b4,0,none⟩)] go_126 (fun W3 hb x0 x1 y hxy => recall_maybe_1_ok  x0 x1 x25 p3 y hxy W3 b27 A18 x25.length c19 rfl (((RdL.row 9 rfl) W2 hW2).later hb) (((RdL.cells 10 rfl) W2 hW2).later hb) b4 fid3 fst3 caps3 hgo3 (fun W4 hb4 => hof3 W4 (belowT (belowT hW2.below hb) hb4)) (((RdL.cells 3 rfl) W2 hW2).later hb))) (fun x => oN (ex_cap ⟨x,rfl,rfl⟩))) (kx_y rfl (fun _ => y_load1 2 (v:=.int .i64 p2) sc_3 rfl rfl rfl) (kx_nil rfl ?_)))))
   rintro v L1 ⟨b32,rfl,rfl⟩
   try dsimp only [lna,lca,lsz,lss]
   obtain ⟨hg33,h⟩:=gOs h
   refine ox_y rfl (y_lookupV (k:=p2) (MpL.own 11 rfl) ke_3 um_94 ze_4 rfl rfl hg33) (oN (ex_only (eT ?_)))
   rcases iOs h with ⟨hp34,h⟩ | ⟨hp34,h⟩
   ·refine cx_true (vB hp34) ?_
    refine cS (cR ?_)
    refine ox_n rfl (y_store1 4 (v:=.bool true) sz_4 rfl (Nat.lt_of_lt_of_le (Nat.lt_succ_self _) (nB rfl)) rfl rfl rfl) ?_
    refine oN (eT (cx_ret (ex_block_ret ?_)))
    refine ex_take 10 ?_
    obtain rfl:=sI h
    exact ex_cstop [cellsR b1 25 [.slice Aa p0.fNo.length ca,.slice Ab p0.fC.length cb],cellsR b2 26 [.slice Ac p1.length cc],cellsR b3 3 [.int .i64 p2],cellsR b4 107 [.func (.func fid3) fst3.toArray caps3.toArray],cellsR b5 4 [.bool true],mapV Tryz.prog 3 kI rngB kB false b8 y6,cellsR b13 25 [.slice Aa p0.fNo.length ca,.slice Ab p0.fC.length cb]] ⟨rfl,rfl⟩
   ·refine cx_false (vB hp34) (cx_skip (ex_block (ex_take 10 ?_)))
    obtain rfl:=sI h
    exact ex_cnext [cellsR b1 25 [.slice Aa p0.fNo.length ca,.slice Ab p0.fC.length cb],cellsR b2 26 [.slice Ac p1.length cc],cellsR b3 3 [.int .i64 p2],cellsR b4 107 [.func (.func fid3) fst3.toArray caps3.toArray],cellsR b5 4 [.bool s24],mapV Tryz.prog 3 kI rngB kB false b8 y6,cellsR b13 25 [.slice Aa p0.fNo.length ca,.slice Ab p0.fC.length cb]] rfl
  ·rintro D14 u37 L hst rfl
   subst hst
   dsimp only at h
   refine ex_block ?_
   refine eT (cS (cR ?_))
   try dsimp only [lna,lca,lsz,lss]
   refine ox_n rfl (y_store1 4 (v:=.bool false) sz_4 rfl (Nat.lt_of_lt_of_le (Nat.lt_succ_self _) (nB rfl)) rfl rfl rfl) ?_
   refine oN (eT (cx_ret ?_))
   refine ex_M1 7 rfl (.inl rfl) ?_
   obtain rfl:=sI h
   exact ex_res1 (.inl rfl) rfl (resV_cell1 4 (v:=.bool false) sc_4 rfl rfl rfl) (fun W2 hW2 => ⟨rfl,hW2.none⟩)
  ·rintro D14 u38 e L hst ⟨rfl,rfl⟩
   subst hst
   dsimp only at h
   refine ex_block_ret (ex_then_ret ?_)
   refine ex_M1 7 rfl (.inl rfl) ?_
   obtain rfl:=sI h
   exact ex_res1 (.inl rfl) rfl (resV_cell1 4 (v:=.bool u38) sc_4 rfl rfl rfl) (fun W2 hW2 => ⟨rfl,hW2.none⟩)
theorem recall_anyOption_ok (p0:Int) (p1:Int) (res:Bool) (h:recall_anyOption p0 p1 = some res) (W:World)  :
  Calls Tryz.prog 76 [.int .i64 p0,.int .i64 p1].toArray W fun e W2 => e = .returned (.bool res) ∧ Ext W W2 []:=by
 unfold recall_anyOption at h
 refine calls_enter (m:=5) Tryz.func76 rfl rfl (nB rfl) ?_
 refine cS (cR ?_)
 refine ox_y rfl (y_assign_bool rfl) ?_
 refine oN (eT (cS (cR ?_)))
 refine ox_y rfl (y_assign_bool rfl) ?_
 refine oN (eT (cx_ret ?_))
 obtain rfl:=sI h
 exact ex_res1 (.inl rfl) rfl (rVt (v:=.bool true) rfl) (fun W2 hW2 => ⟨rfl,hW2.none⟩)
theorem recall_Hangs_1_ok (p0:Int) (p1:Int) (cap0:Int) (res:Bool) (h:recall_Hangs_1 p0 p1 cap0 = some res) (W:World) (bc0:Nat) (hcap0:Rd W (some ⟨bc0,0,none⟩) 1 1 (cI cap0)) :
  Calls Tryz.prog 77 [.int .i64 p0,.int .i64 p1,.pointer (some ⟨bc0,0,none⟩)].toArray W fun e W2 => e = .returned (.bool res) ∧ Ext W W2 []:=by
 unfold recall_Hangs_1 at h
 refine calls_enter (m:=9) Tryz.func77 rfl rfl (nB rfl) ?_
 refine cS (cR ?_)
 refine ox_y rfl (y_assign_bool rfl) ?_
 refine oN (eT (cS (cR ?_)))
 refine ox_y rfl (yMI rfl) (ox_y rfl (y_loadR1 (A:=(some ⟨bc0,0,none⟩)) (j:=0) (v:=.int .i64 cap0) sc_3 (RdL.arg hcap0) rfl rfl) (ox_y rfl (y_neq rfl rfl) (ox_y rfl (y_assign_bool rfl) ?_)))
 refine oN (eT (cx_ret ?_))
 obtain rfl:=sI h
 exact ex_res1 (.inl rfl) rfl (rVt (v:=.bool (p0 != cap0)) rfl) (fun W2 hW2 => ⟨rfl,hW2.none⟩)
theorem recall_Hangs_ok (p0:TL) (p1:(List Int)) (p2:Int) (res:((List Int) × Int)) (h:recall_Hangs p0 p1 p2 = some res) (W:World) (Aa:Option Addr) (n0_0 ca : Nat) (hn0_0:n0_0 = p0.fNo.length) (hr0_0:Rd W Aa n0_0 ca (encL TNode_cells p0.fNo)) (Ab:Option Addr) (n0_1 cb : Nat) (ys0_1:List (Hd × TC)) (hn0_1:n0_1 = p0.fC.length) (hr0_1:Rd W Ab n0_1 cb (encL TClaim_cells2 ys0_1)) (hN0_1:NestW W (fun z : TC => z.fO) THop_cells ys0_1 p0.fC) (Ac:Option Addr) (n1_0 cc : Nat) (hn1_0:n1_0 = p1.length) (hr1_0:Rd W Ac n1_0 cc (encL cI p1)) :
  Calls Tryz.prog 20 [.agg #[.slice Aa n0_0 ca,.slice Ab n0_1 cb],.slice Ac n1_0 cc,.int .i64 p2].toArray W fun e W2 => ∃ x : Option Addr × Nat × Nat,x.2.1 = res.1.length ∧ e = .returned (.tuple #[.slice x.1 x.2.1 x.2.2,.int .i64 res.2]) ∧ Ext W W2 [rowR x.1 x.2.2 3 1 x.2.1 (encL cI res.1)]:=by
 subst hn0_0
 subst hn0_1
 subst hn1_0
 unfold recall_Hangs at h
 refine calls_enter (m:=47) Tryz.func20 rfl rfl (nB rfl) ?_
 refine cS (cR ?_)
 refine ox_box [.slice Aa p0.fNo.length ca,.slice Ab p0.fC.length cb] rfl rfl rfl (fun b1 => ?_)
 refine ox_y rfl (yAS rfl) (ox_y rfl (yAI rfl) ?_)
 refine oN (eT (cS (cS (cR ?_))))
 refine ox_y rfl (y_loadN 0 [.slice Aa p0.fNo.length ca,.slice Ab p0.fC.length cb] ag_25 rfl rfl rfl) (ox_y rfl (yMS rfl) (ox_y rfl (yMI rfl) ?_))
 obtain ⟨y2,hy3,h⟩:=bOs h
 refine ox_y rfl (y_call [.agg #[.slice Aa p0.fNo.length ca,.slice Ab p0.fC.length cb],.slice Ac p1.length cc,.int .i64 p2] go_74 rfl (fun W2 hW2 => recall_askedTo_ok p0 p1 p2 y2 hy3 W2 Aa p0.fNo.length ca rfl ((RdL.arg hr0_0) W2 hW2) Ab p0.fC.length cb ys0_1 rfl ((RdL.arg hr0_1) W2 hW2) (NestL.at (NestL.arg hN0_1) W2 hW2) Ac p1.length cc rfl ((RdL.arg hr1_0) W2 hW2)) rfl) (ox_y rfl (yAI rfl) ?_)
 refine oN (eT (cS (cR ?_)))
 refine ox_y rfl (yMI rfl) (ox_y rfl (y_neq rfl rfl) ?_)
 refine oN (eT ?_)
 rcases iOs h with ⟨hp4,h⟩ | ⟨hp4,h⟩
 ·refine cx_true (vB hp4) ?_
  refine cS (cR ?_)
  refine ox_y rfl (yMI rfl) (ox_y rfl (yAS rfl) (ox_y rfl (yAI rfl) ?_))
  refine oN (eT (cx_ret (ex_then_ret ?_)))
  obtain rfl:=sI h
  exact ex_res2 (.inl rfl) rfl (rVt (v:=.slice none 0 0) rfl) (rVt (v:=.int .i64 y2) rfl) (fun W2 hW2 => ⟨(none,0,0),rfl,rfl,((hW2.nilrow 3 1).pick 1 rfl)⟩)
 ·refine cx_false (vB hp4) ?_
  refine cx_skip (eT (cS (cS (cR ?_))))
  refine ox_y rfl (y_loadN 0 [.slice Aa p0.fNo.length ca,.slice Ab p0.fC.length cb] ag_25 rfl rfl rfl) (ox_y rfl (yMS rfl) (ox_y rfl (yMI rfl) ?_))
  obtain ⟨y7,hy8,h⟩:=bOs h
  refine ox_y rfl (y_call [.agg #[.slice Aa p0.fNo.length ca,.slice Ab p0.fC.length cb],.slice Ac p1.length cc,.int .i64 p2,.func (.func 76) #[] #[]] go_75 rfl (fun W2 hW2 => recall_maybe_ok p0 p1 p2 (fun x5 x6 => recall_anyOption x5 x6) y7 hy8 W2 Aa p0.fNo.length ca rfl ((RdL.arg hr0_0) W2 hW2) Ab p0.fC.length cb ys0_1 rfl ((RdL.arg hr0_1) W2 hW2) (NestL.at (NestL.arg hN0_1) W2 hW2) Ac p1.length cc rfl ((RdL.arg hr1_0) W2 hW2) 76 [] [] go_76 (fun W3 hb x0 x1 y hxy => recall_anyOption_ok  x0 x1  y hxy W3 )) rfl) (ox_y rfl (y_not rfl) ?_)
  refine oN (eT ?_)
  rcases iOs h with ⟨hp9,h⟩ | ⟨hp9,h⟩
  ·refine cx_true (vB hp9) ?_
   refine cS (cR ?_)
   refine ox_y rfl (yAS rfl) (ox_y rfl (yAI rfl) ?_)
   refine oN (eT (cx_ret (ex_then_ret ?_)))
   obtain rfl:=sI h
   exact ex_res2 (.inl rfl) rfl (rVt (v:=.slice none 0 0) rfl) (rVt (v:=.int .i64 5) rfl) (fun W2 hW2 => ⟨(none,0,0),rfl,rfl,((hW2.nilrow 3 1).pick 1 rfl)⟩)
  ·refine cx_false (vB hp9) ?_
   refine cx_skip (eT (cS (cR ?_)))
   refine ox_y rfl (yAS rfl) ?_
   refine oN (eT (cS (cS (cR ?_))))
   refine ox_y rfl (yFA fo_25_1 rfl) (ox_y rfl (y_load1 0 (v:=.slice Ab p0.fC.length cb) sc_23 rfl rfl rfl) (ox_y rfl (y_len (us:=[]) us_23 rfl) (ox_y rfl (yMI rfl) ?_)))
   refine oN (eT (cx_block ?_))
   obtain ⟨u13,hl27,h⟩:=bOs h
   refine cx_nilrow 3 1 ?_
   refine cx_loop (fun (s:(Int × (List Int))) L tm => ∃ (tm0:Nat → Value) (A1_s:Option Addr) (c1_s:Nat) (n1_s:Nat),n1_s = s.2.length ∧ L = [cellsR b1 25 [.slice Aa p0.fNo.length ca,.slice Ab p0.fC.length cb],rowR A1_s c1_s 3 1 n1_s (encL cI s.2)] ∧ tm = (upd (upd (upd (upd (upd (upd (upd (upd (upd (upd (upd (upd (upd tm0 0 (.agg #[.slice Aa p0.fNo.length ca,.slice Ab p0.fC.length cb])) 1 (.slice Ac p1.length cc)) 2 (.int .i64 p2)) 3 (.pointer (some ⟨b1,0,none⟩))) 6 (.slice none 0 0)) 7 (.int .i64 0)) 8 (.int .i64 y2)) 17 (.bool (y2 != 0))) 23 (.bool (!y7))) 9 (.slice A1_s n1_s c1_s)) 25 (.slice Ab p0.fC.length cb)) 26 (.int .i64 (p0.fC.length:Int))) 27 (.int .i64 s.1))) (fun s e L tm => e = .exit 0 ∧ ∃ (tm0:Nat → Value) (A1_s:Option Addr) (c1_s:Nat) (n1_s:Nat),n1_s = s.2.length ∧ L = [cellsR b1 25 [.slice Aa p0.fNo.length ca,.slice Ab p0.fC.length cb],rowR A1_s c1_s 3 1 n1_s (encL cI s.2)] ∧ tm = (upd (upd (upd (upd (upd (upd (upd (upd (upd (upd (upd (upd (upd tm0 0 (.agg #[.slice Aa p0.fNo.length ca,.slice Ab p0.fC.length cb])) 1 (.slice Ac p1.length cc)) 2 (.int .i64 p2)) 3 (.pointer (some ⟨b1,0,none⟩))) 6 (.slice none 0 0)) 7 (.int .i64 0)) 8 (.int .i64 y2)) 17 (.bool (y2 != 0))) 23 (.bool (!y7))) 9 (.slice A1_s n1_s c1_s)) 25 (.slice Ab p0.fC.length cb)) 26 (.int .i64 (p0.fC.length:Int))) 27 (.int .i64 s.1))) hl27 ⟨_,none,0,0,rfl,rfl,(kp4 (kp4 (kp4 (kp rfl))))⟩ ?_ ?_
   ·rintro s12 L tm st ⟨tm0_s12,A1_s12,c1_s12,n1_s12,rfl,rfl,rfl⟩ h
    unfold recall_Hangs_l1 at h
    refine cS (cR ?_)
    refine ox_y rfl (y_lss rfl rfl) ?_
    refine oN (eT (cS ?_))
    rcases iOs h with ⟨hp14,h⟩ | ⟨hp14,h⟩
    ·refine cx_true (vB hp14) ?_
     refine cx_skip (eT (cS (cx_block (cS (cR ?_)))))
     refine ox_y rfl (yMI rfl) ?_
     obtain ⟨hg15,h⟩:=gOs h
     refine ox_y rfl (y_indexR sl_23 (by decide) hg15.1 hg15.2 (RdL.arg hr0_1) (encL_len TClaim_cells2_len (NestP.hn hN0_1.p rfl)) rfl rfl) ?_
     refine ox_y rfl (y_loadRN (A:=Ab) (j:=(Int.toNat s12.1 * 2)) [.int .i64 ((rdL p0.fC s12.1).fID),.slice ((rdL ys0_1 s12.1).1.1) ((rdL p0.fC s12.1).fO.length) ((rdL ys0_1 s12.1).1.2.2)] ag_90 (Nat.succ_pos _) (RdL.arg hr0_1) rfl (gets_eq (TClaim_cells2_eq (NestP.snd hN0_1.p s12.1) (NestP.len hN0_1.p hg15.1 (lt_nat hg15.2 rfl))).symm (encL_gets TClaim_cells2_len hg15.1 (lt_nat hg15.2 (NestP.hn hN0_1.p rfl))))) ?_
     refine ox_alloc ze_3 rfl (fun b16 => ?_)
     refine ox_alloc ze_90 rfl (fun b17 => ?_)
     refine ox_n rfl (y_store1 2 (v:=.int .i64 s12.1) sz_3 rfl (Nat.lt_of_lt_of_le (Nat.lt_succ_self _) (nB rfl)) rfl rfl rfl) (ox_n rfl (y_storeN 3 [.int .i64 ((rdL p0.fC s12.1).fID),.slice ((rdL ys0_1 s12.1).1.1) ((rdL p0.fC s12.1).fO.length) ((rdL ys0_1 s12.1).1.2.2)] sz_90 rfl (nB rfl) rfl rfl rfl) ?_)
     refine oN (eT (cS (cR ?_)))
     refine ox_y rfl (y_loadN 0 [.slice Aa p0.fNo.length ca,.slice Ab p0.fC.length cb] ag_25 rfl rfl rfl) (ox_y rfl (yMS rfl) (ox_y rfl (yMI rfl) (ox_y rfl (y_makeFunc [.pointer (some ⟨b16,0,none⟩)] rfl rfl) ?_)))
     obtain ⟨y20,hy21,h⟩:=bOs h
     refine ox_y rfl (y_call [.agg #[.slice Aa p0.fNo.length ca,.slice Ab p0.fC.length cb],.slice Ac p1.length cc,.int .i64 p2,.func (.func 77) #[] #[.pointer (some ⟨b16,0,none⟩)]] go_75 rfl (fun W2 hW2 => recall_maybe_ok p0 p1 p2 (fun x18 x19 => recall_Hangs_1 x18 x19 s12.1) y20 hy21 W2 Aa p0.fNo.length ca rfl ((RdL.arg hr0_0) W2 hW2) Ab p0.fC.length cb ys0_1 rfl ((RdL.arg hr0_1) W2 hW2) (NestL.at (NestL.arg hN0_1) W2 hW2) Ac p1.length cc rfl ((RdL.arg hr1_0) W2 hW2) 77 [] [.pointer (some ⟨b16,0,none⟩)] go_77 (fun W3 hb x0 x1 y hxy => recall_Hangs_1_ok  x0 x1 s12.1 y hxy W3 b16 (((RdL.cells 2 rfl) W2 hW2).later hb))) rfl) (ox_y rfl (y_not rfl) ?_)
     refine oN (eT ?_)
     rcases iOs h with ⟨hp22,h⟩ | ⟨hp22,h⟩
     ·refine cx_true (vB hp22) (cR (ox_y rfl (yMS rfl) (ox_y rfl (yFA fo_90_0 rfl) (ox_y rfl (y_load1 3 (v:=.int .i64 ((rdL p0.fC s12.1).fID)) sc_3 rfl rfl rfl) ?_))))
      refine ox_buildSliceE 1 (encL cI [(rdL p0.fC s12.1).fID]) _ mc_3_1 us_26 ze_3 by_3 (by decide) (by decide) (by kernel_rfl) (encL_len cI_len rfl) rfl (fun b23 => ?_)
      obtain ⟨hg26,h⟩:=gOs h
      refine ox_append0 1 us_26 ze_3 by_3 rfl rfl rfl (RdL.row 4 rfl) (encL_len cI_len rfl) (encL_one cI_one _) (app_room hg26 (by decide)) rfl (fun A24 c25 => ?_)
      refine ox_y rfl (yAS rfl) (oN (ex_block ?_))
      refine eT (cR ?_)
      refine ox_y rfl (y_add rfl rfl) (ox_y rfl (yMI rfl) (oN (ex_take 2 ?_)))
      obtain rfl:=sI h
      exact ex_next ⟨_,A24,c25,(s12.2.length + 1),(hn_app rfl rfl),rfl,(kp4 (kp4 (kp4 (kp rfl))))⟩
     ·refine cx_false (vB hp22) (cx_skip (ex_block ?_))
      refine eT (cR ?_)
      refine ox_y rfl (y_add rfl rfl) (ox_y rfl (yMI rfl) (oN (ex_take 2 ?_)))
      obtain rfl:=sI h
      exact ex_next ⟨_,A1_s12,c1_s12,s12.2.length,rfl,rfl,(kp4 (kp4 (kp4 (kp rfl))))⟩
    ·refine cx_false (vB hp14) (cx_exit (ex_then_exit ?_))
     obtain rfl:=sI h
     exact ex_stop ⟨rfl,_,A1_s12,c1_s12,s12.2.length,rfl,rfl,(kp4 (kp4 (kp4 (kp rfl))))⟩
   ·intro e L tm hJ
    obtain ⟨rfl,tm0_u13,A1_u13,c1_u13,n1_u13,rfl,rfl,rfl⟩:=hJ
    refine ⟨(by intro hc; cases hc),?_⟩
    refine ex_block_here ?_
    refine eT (cS (cR ?_))
    refine ox_y rfl (yMS rfl) ?_
    obtain ⟨y28,hy29,h⟩:=bOs h
    refine ox_callT 1 [.slice A1_u13 u13.2.length c1_u13] (fun (_:Unit) => u13.2.length = y28.length) (fun _ => .tuple #[]) (fun _ => rowR A1_u13 c1_u13 3 1 u13.2.length (encL cI y28)) (fun _ => []) rfl rfl go_78 rfl (fun W2 hW2 => (slices_Sort_int_int_ok u13.2 y28 hy29 W2 _ (restR [cellsR b1 25 [.slice Aa p0.fNo.length ca,.slice Ab p0.fC.length cb],rowR A1_u13 c1_u13 3 1 u13.2.length (encL cI u13.2)] [1]) A1_u13 u13.2.length c1_u13 rfl hW2).mono (fun e W3 h3 => ⟨(),h3.2.1,h3.1,h3.2.2⟩)) ?_
    rintro - hn30
    try dsimp only [lsz,lss,List.append_nil]
    refine oN (eT (cS (cR ?_)))
    refine ox_y rfl (yMS rfl) (ox_y rfl (yAS rfl) (ox_y rfl (yAI rfl) ?_))
    refine oN (eT (cx_ret ?_))
    obtain rfl:=sI h
    exact ex_res2 (.inl rfl) rfl (rVt (v:=.slice A1_u13 u13.2.length c1_u13) rfl) (rVt (v:=.int .i64 0) rfl) (fun W2 hW2 => ⟨(A1_u13,u13.2.length,c1_u13),hn30,rfl,(hW2.pick 1 rfl)⟩)
theorem slices_Index_int_int_ok (p0:(List Int)) (p1:Int) (res:Int) (h:slices_Index_int_int p0 p1 = some res) (W:World) (Aa:Option Addr) (n0_0 ca : Nat) (hn0_0:n0_0 = p0.length) (hr0_0:Rd W Aa n0_0 ca (encL cI p0)) :
  Calls Tryz.prog 129 [.slice Aa n0_0 ca,.int .i64 p1].toArray W fun e W2 => e = .returned (.int .i64 res) ∧ Ext W W2 []:=by
 subst hn0_0
 unfold slices_Index_int_int at h
 refine calls_enter (m:=19) Tryz.func129 rfl rfl (nB rfl) ?_
 refine cS (cR ?_)
 refine ox_y rfl (yAI rfl) ?_
 refine oN (eT (cS (cS (cR ?_))))
 refine ox_y rfl (yMS rfl) (ox_y rfl (y_len (us:=[]) us_26 rfl) (ox_y rfl (yMI rfl) ?_))
 refine oN (eT (cx_block ?_))
 obtain ⟨u3,hl7,h⟩:=bOs h
 refine cx_loop (fun (s:(Int × Int)) L tm => ∃ (tm0:Nat → Value),L = [] ∧ tm = (upd (upd (upd (upd (upd tm0 0 (.slice Aa p0.length ca)) 1 (.int .i64 p1)) 4 (.int .i64 s.1)) 7 (.int .i64 (p0.length:Int))) 8 (.int .i64 s.2))) (fun | (.inl s),e,L,tm => e = .ret ∧ ∃ (tm0:Nat → Value),L = [] ∧ tm = (upd (upd (upd (upd (upd tm0 0 (.slice Aa p0.length ca)) 1 (.int .i64 p1)) 4 (.int .i64 s.1)) 7 (.int .i64 (p0.length:Int))) 8 (.int .i64 s.2)) | (.inr s),e,L,tm => e = .exit 0 ∧ ∃ (tm0:Nat → Value),L = [] ∧ tm = (upd (upd (upd (upd (upd tm0 0 (.slice Aa p0.length ca)) 1 (.int .i64 p1)) 4 (.int .i64 s.1)) 7 (.int .i64 (p0.length:Int))) 8 (.int .i64 s.2))) hl7 ⟨_,rfl,(kp4 (kp rfl))⟩ ?_ ?_
 ·rintro s2 L tm st ⟨tm0_s2,rfl,rfl⟩ h
  unfold slices_Index_int_int_l1 at h
  refine cS (cR ?_)
  refine ox_y rfl (y_lss rfl rfl) ?_
  refine oN (eT (cS ?_))
  rcases iOs h with ⟨hp4,h⟩ | ⟨hp4,h⟩
  ·refine cx_true (vB hp4) ?_
   refine cx_skip (eT (cS (cx_block (cS (cR ?_)))))
   refine ox_y rfl (yMI rfl) (ox_y rfl (yAI rfl) ?_)
   refine oN (eT (cS (cR ?_)))
   refine ox_y rfl (yMI rfl) (ox_y rfl (yMS rfl) (ox_y rfl (yMI rfl) ?_))
   obtain ⟨hg5,h⟩:=gOs h
   refine ox_y rfl (y_indexR sl_26 (by decide) hg5.1 hg5.2 (RdL.arg hr0_0) (encL_len cI_len rfl) rfl rfl) ?_
   refine ox_y rfl (y_loadR1 (A:=Aa) (j:=(Int.toNat s2.2 * 1)) (v:=.int .i64 (rdL p0 s2.2)) sc_3 (RdL.arg hr0_0) rfl (encL_get0 cI_len hg5.1 (lt_nat hg5.2 rfl) rfl)) (ox_y rfl (y_eql rfl rfl) ?_)
   refine oN (eT ?_)
   rcases iOs h with ⟨hp6,h⟩ | ⟨hp6,h⟩
   ·refine cx_true (vB hp6) ?_
    refine cS (cR ?_)
    refine ox_y rfl (yMI rfl) (ox_y rfl (yAI rfl) ?_)
    refine oN (eT (cx_ret (ex_block_ret (ex_then_ret ?_))))
    obtain rfl:=sI h
    exact ex_stop ⟨rfl,_,rfl,(kp4 (kp rfl))⟩
   ·refine cx_false (vB hp6) (cx_skip (ex_block ?_))
    refine eT (cR ?_)
    refine ox_y rfl (y_add rfl rfl) (ox_y rfl (yMI rfl) (oN ?_))
    obtain rfl:=sI h
    exact ex_next ⟨_,rfl,(kp4 (kp rfl))⟩
  ·refine cx_false (vB hp4) (cx_exit (ex_then_exit ?_))
   obtain rfl:=sI h
   exact ex_stop ⟨rfl,_,rfl,(kp4 (kp rfl))⟩
 ·intro e L tm hJ
  rcases u3 with u8 | u9
  ·dsimp only at h hJ
   obtain ⟨rfl,tm0_u8,rfl,rfl⟩:=hJ
   refine ⟨(by intro hc; cases hc),?_⟩
   refine ex_block_ret (ex_then_ret ?_)
   obtain rfl:=sI h
   exact ex_res1 (.inl rfl) rfl (rVt (v:=.int .i64 u8.1) rfl) (fun W2 hW2 => ⟨rfl,hW2.none⟩)
  ·dsimp only at h hJ
   obtain ⟨rfl,tm0_u9,rfl,rfl⟩:=hJ
   refine ⟨(by intro hc; cases hc),?_⟩
   refine ex_block_here ?_
   refine eT (cS (cR ?_))
   refine ox_y rfl (yAI rfl) ?_
   refine oN (eT (cx_ret ?_))
   obtain rfl:=sI h
   exact ex_res1 (.inl rfl) rfl (rVt (v:=.int .i64 (-1)) rfl) (fun W2 hW2 => ⟨rfl,hW2.none⟩)
theorem slices_Contains_int_int_ok (p0:(List Int)) (p1:Int) (res:Bool) (h:slices_Contains_int_int p0 p1 = some res) (W:World) (Aa:Option Addr) (n0_0 ca : Nat) (hn0_0:n0_0 = p0.length) (hr0_0:Rd W Aa n0_0 ca (encL cI p0)) :
  Calls Tryz.prog 80 [.slice Aa n0_0 ca,.int .i64 p1].toArray W fun e W2 => e = .returned (.bool res) ∧ Ext W W2 []:=by
 subst hn0_0
 unfold slices_Contains_int_int at h
 refine calls_enter (m:=9) Tryz.func80 rfl rfl (nB rfl) ?_
 refine cS (cR ?_)
 refine ox_y rfl (y_assign_bool rfl) ?_
 refine oN (eT (cS (cR ?_)))
 refine ox_y rfl (yMS rfl) (ox_y rfl (yMI rfl) ?_)
 obtain ⟨y1,hy2,h⟩:=bOs h
 refine ox_y rfl (y_call [.slice Aa p0.length ca,.int .i64 p1] go_129 rfl (fun W2 hW2 => slices_Index_int_int_ok p0 p1 y1 hy2 W2 Aa p0.length ca rfl ((RdL.arg hr0_0) W2 hW2)) rfl) (ox_y rfl (y_geq rfl rfl) (ox_y rfl (y_assign_bool rfl) ?_))
 refine oN (eT (cx_ret ?_))
 obtain rfl:=sI h
 exact ex_res1 (.inl rfl) rfl (rVt (v:=.bool (decide (0 ≤ y1))) rfl) (fun W2 hW2 => ⟨rfl,hW2.none⟩)
theorem recall_Gates_1_ok (p0:Int) (p1:Int) (cap0:TL) (cap1:TN) (res:Bool) (h:recall_Gates_1 p0 p1 cap0 cap1 = some res) (W:World) (bc0:Nat) (A100_0:Option Addr) (n100_0 c100_0 : Nat) (hn100_0:n100_0 = cap0.fNo.length) (hr100_0:Rd W A100_0 n100_0 c100_0 (encL TNode_cells cap0.fNo)) (A100_1:Option Addr) (n100_1 c100_1 : Nat) (ys100_1:List (Hd × TC)) (hn100_1:n100_1 = cap0.fC.length) (hr100_1:Rd W A100_1 n100_1 c100_1 (encL TClaim_cells2 ys100_1)) (hN100_1:NestW W (fun z : TC => z.fO) THop_cells ys100_1 cap0.fC) (hcap0:Rd W (some ⟨bc0,0,none⟩) 1 1 [.slice A100_0 n100_0 c100_0,.slice A100_1 n100_1 c100_1]) (bc1:Nat) (hcap1:Rd W (some ⟨bc1,0,none⟩) 1 1 (TNode_cells cap1)) :
  Calls Tryz.prog 81 [.int .i64 p0,.int .i64 p1,.pointer (some ⟨bc0,0,none⟩),.pointer (some ⟨bc1,0,none⟩)].toArray W fun e W2 => e = .returned (.bool res) ∧ Ext W W2 []:=by
 subst hn100_0
 subst hn100_1
 unfold recall_Gates_1 at h
 refine calls_enter (m:=20) Tryz.func81 rfl rfl (nB rfl) ?_
 refine cS (cR ?_)
 refine ox_y rfl (y_assign_bool rfl) ?_
 refine oN (eT (cS ?_))
 refine cx_draws 14 mixed (by kernel_rfl) (by kernel_rfl) ?_
 refine qx_y rfl (y_fieldAddrR (A:=(some ⟨bc0,0,none⟩)) (j:=0) fo_25_1 rfl) (qx_y rfl (y_loadR1 (A:=(some ⟨bc0,0,none⟩)) (j:=(0 + 1)) (v:=.slice A100_1 cap0.fC.length c100_1) sc_23 (RdL.arg hcap0) rfl rfl) (qx_y rfl (yMI rfl) ?_))
 obtain ⟨hg1,h⟩:=gOs h
 refine qx_y rfl (y_indexR sl_23 (by decide) hg1.1 hg1.2 (RdL.arg hr100_1) (encL_len TClaim_cells2_len (NestP.hn hN100_1.p rfl)) rfl rfl) ?_
 refine qx_y rfl (y_fieldAddrR (A:=A100_1) (j:=(Int.toNat p0 * 2)) fo_90_1 rfl) (qx_y rfl (y_loadR1 (A:=A100_1) (j:=((Int.toNat p0 * 2) + 1)) (v:=.slice ((rdL ys100_1 p0).1.1) ((rdL cap0.fC p0).fO.length) ((rdL ys100_1 p0).1.2.2)) sc_88 (RdL.arg hr100_1) rfl (encL_get TClaim_cells2_len hg1.1 (lt_nat hg1.2 (NestP.hn hN100_1.p rfl)) (congrArg (fun n : Nat => some (Value.slice (rdL ys100_1 p0).1.1 n (rdL ys100_1 p0).1.2.2)) (NestP.len hN100_1.p hg1.1 (lt_nat hg1.2 rfl))))) (qx_y rfl (yMI rfl) ?_))
 obtain ⟨hg2,h⟩:=gOs h
 refine qx_y rfl (y_indexR sl_88 (by decide) hg2.1 hg2.2 (NestL.rd (NestL.arg hN100_1) hg1.1 (lt_nat hg1.2 rfl)) (encL_len THop_cells_len rfl) rfl rfl) ?_
 refine qx_y rfl (y_fieldAddrR (A:=((rdL ys100_1 p0).1.1)) (j:=(Int.toNat p1 * 2)) fo_111_1 rfl) (qx_y rfl (y_loadR1 (A:=((rdL ys100_1 p0).1.1)) (j:=((Int.toNat p1 * 2) + 1)) (v:=.int .i64 ((rdL ((rdL cap0.fC p0).fO) p1).fTo)) sc_3 (NestL.rd (NestL.arg hN100_1) hg1.1 (lt_nat hg1.2 rfl)) rfl (encL_get THop_cells_len hg2.1 (lt_nat hg2.2 rfl) rfl)) (qx_y rfl (y_fieldAddrR (A:=(some ⟨bc1,0,none⟩)) (j:=0) fo_97_0 rfl) (qx_y rfl (y_loadR1 (A:=(some ⟨bc1,0,none⟩)) (j:=(0 + 0)) (v:=.int .i64 cap1.fID) sc_3 (RdL.arg hcap1) rfl rfl) (qx_y rfl (y_neq rfl rfl) (qx_y rfl (y_assign_bool rfl) (qx_nil ?_))))))
 refine oN (eT (cx_ret ?_))
 obtain rfl:=sI h
 exact ex_res1 (.inl rfl) rfl (rVt (v:=.bool (((rdL ((rdL cap0.fC p0).fO) p1).fTo) != cap1.fID)) rfl) (fun W2 hW2 => ⟨rfl,hW2.none⟩)
end Go.Proofs.YtbblpokfbmekfaaGreat
