import Derived.Test.YthndghnkebboaaaGreatF
import Derived.Test.YthndghnkebboaaaGreatGD
import Derived.Test.YthndghnkebboaaaGreatC4
import Derived.Test.YthndghnkebboaaaGreatC6
import Derived.Test.YthndghnkebboaaaGreatC14
set_option maxHeartbeats 4000000
set_option maxRecDepth 100000
set_option linter.unusedVariables false
namespace Go.Proofs.YthndghnkebboaaaGreat
open Go.RowKit (Below)
attribute [local irreducible] OX QX CX EX OpY Calls CallsIn
theorem ref05_Suits_ok (p0:TY) (p1:Int) (p2:Int) (res:(Bool × Int)) (h:ref05_Suits p0 p1 p2 = some res) (W:World) (Aa:Option Addr) (n0_0 ca : Nat) (hn0_0:n0_0 = p0.fB.length) (hr0_0:Rd W Aa n0_0 ca (encL TBay_cells p0.fB)) (Ab:Option Addr) (n0_1 cb : Nat) (hn0_1:n0_1 = p0.fR.length) (hr0_1:Rd W Ab n0_1 cb (encL TOrder_cells p0.fR)) :
  Calls Tryz.prog 42 [.agg #[.slice Aa n0_0 ca,.slice Ab n0_1 cb],vI p1,vI p2].toArray W fun e W2 => e = .returned (.tuple #[.bool res.1,vI res.2]) ∧ Ext W W2 []:=by
 subst hn0_0
 subst hn0_1
 unfold ref05_Suits at h
 refine calls_enter (m:=32) Tryz.func42 rfl rfl (nB rfl) (cS (cR ?_))
 refine ox_box [.slice Aa p0.fB.length ca,.slice Ab p0.fR.length cb] rfl rfl rfl (fun b1 => ?_)
 refine oY rfl (yAB rfl) (oY rfl (yAI rfl) (oN (eT (cS (cR (oY rfl (yN 0 [.slice Aa p0.fB.length ca,.slice Ab p0.fR.length cb] ag_53 rfl rfl rfl) ?_))))))
 obtain ⟨y2,hy3,h⟩:=bOs h
 refine oY rfl (yC [.agg #[.slice Aa p0.fB.length ca,.slice Ab p0.fR.length cb]] go_46 rfl (fun W2 hW2 => ref05_CheckYard_ok p0 y2 hy3 W2 Aa p0.fB.length ca rfl ((RdL.arg hr0_0) W2 hW2) Ab p0.fR.length cb rfl ((RdL.arg hr0_1) W2 hW2)) rfl) (oY rfl (yAI rfl) (oN (eT (cS (cS (cR (oY rfl (yMI rfl) (oY rfl (y_neq rfl rfl) (oN (eT ?_))))))))))
 rcases iOs h with ⟨hp4,h⟩ | ⟨hp4,h⟩
 ·refine cT (vB hp4) (cS (cR (oY rfl (yMI rfl) (oY rfl (yAB rfl) (oY rfl (yAI rfl) (oN (eT (cx_ret (ex_then_ret ?_)))))))))
  obtain rfl:=sI h
  exact ex_res2 (.inl rfl) rfl (rVt (v:=.bool false) rfl) (rVt (v:=vI y2) rfl) (fun W2 hW2 => ⟨rfl,hW2.none⟩)
 ·refine cF (vB hp4) (cK (eT (cS (cR (oY rfl (yN 0 [.slice Aa p0.fB.length ca,.slice Ab p0.fR.length cb] ag_53 rfl rfl rfl) (oY rfl (yMI rfl) ?_))))))
  obtain ⟨y5,hy6,h⟩:=bOs h
  refine oY rfl (yC [.agg #[.slice Aa p0.fB.length ca,.slice Ab p0.fR.length cb],vI p1] go_103 rfl (fun W2 hW2 => ref05_order_ok p0 p1 y5 hy6 W2 Aa p0.fB.length ca rfl ((RdL.arg hr0_0) W2 hW2) Ab p0.fR.length cb rfl ((RdL.arg hr0_1) W2 hW2)) rfl) (oY rfl (yAI rfl) (oN (eT (cS (cR (oY rfl (yN 0 [.slice Aa p0.fB.length ca,.slice Ab p0.fR.length cb] ag_53 rfl rfl rfl) (oY rfl (yMI rfl) ?_)))))))
  obtain ⟨y7,hy8,h⟩:=bOs h
  refine oY rfl (yC [.agg #[.slice Aa p0.fB.length ca,.slice Ab p0.fR.length cb],vI p2] go_98 rfl (fun W2 hW2 => ref05_bay_ok p0 p2 y7 hy8 W2 Aa p0.fB.length ca rfl ((RdL.arg hr0_0) W2 hW2) Ab p0.fR.length cb rfl ((RdL.arg hr0_1) W2 hW2)) rfl) (oY rfl (yAI rfl) (oN (eT (cS (cS (cR (oY rfl (yMI rfl) (oY rfl (y_lss rfl rfl) (oY rfl (yMB rfl) ?_)))))))))
  refine oJ 3 (fun tm0 => (upd (upd (upd (upd (upd (upd tm0 3 (.pointer (some ⟨b1,0,none⟩))) 6 (.bool false)) 7 (vI 0)) 9 (vI y5)) 10 (vI y7)) 27 (.bool ((decide (y5 < 0)) || (decide (y7 < 0)))))) (fun tm0 => ?_) (fun key => ?_)
  ·refine oN (eT ?_)
   rcases iOs h with ⟨hp10,h⟩ | ⟨hp10,h⟩
   ·refine cT (vB hp10) (cS (cR (oY rfl (yAB rfl) (oY rfl (yAI rfl) (oN (eT (cx_ret (ex_then_ret ?_))))))))
    obtain rfl:=sI h
    exact ex_res2 (.inl rfl) rfl (rVt (v:=.bool false) rfl) (rVt (v:=vI 5) rfl) (fun W2 hW2 => ⟨rfl,hW2.none⟩)
   ·refine cF (vB hp10) (cK (eT (cS (cR (oY rfl (yN 0 [.slice Aa p0.fB.length ca,.slice Ab p0.fR.length cb] ag_53 rfl rfl rfl) (oY rfl (yMI rfl) (oY rfl (yMI rfl) ?_)))))))
    obtain ⟨y11,hy12,h⟩:=bOs h
    refine oY rfl (yC [.agg #[.slice Aa p0.fB.length ca,.slice Ab p0.fR.length cb],vI y5,vI y7] go_104 rfl (fun W2 hW2 => ref05_suits_ok p0 y5 y7 y11 hy12 W2 Aa p0.fB.length ca rfl ((RdL.arg hr0_0) W2 hW2) Ab p0.fR.length cb rfl ((RdL.arg hr0_1) W2 hW2)) rfl) (oY rfl (yAB rfl) (oY rfl (yAI rfl) (oN (eT (cx_ret ?_)))))
    obtain rfl:=sI h
    exact ex_res2 (.inl rfl) rfl (rVt (v:=.bool y11) rfl) (rVt (v:=vI 0) rfl) (fun W2 hW2 => ⟨rfl,hW2.none⟩)
  ·rcases bool_cases (decide (y5 < 0)) with hp9 | hp9
   ·refine oSk (sF rfl rfl rfl rfl hp9) (oSk (sF rfl rfl rfl rfl hp9) (oY rfl (y_pick_tb (vB hp9) rfl) ?_))
    exact key _ _ (keep (keep (keep (keep (keep (keep rfl rfl) rfl) rfl) rfl) rfl) (vB (or_t hp9)))
   ·refine oY (sT rfl rfl rfl rfl hp9) (yMI rfl) (oY (sT rfl rfl rfl rfl hp9) (y_lss rfl rfl) (oY rfl (y_pick_fb (vB hp9) rfl) ?_))
    exact key _ _ (keep (keep (keep (keep (keep (keep rfl rfl) rfl) rfl) rfl) rfl) (vB (or_f hp9)))
theorem ref05_Worth_ok (p0:TY) (res:(Int × Int)) (h:ref05_Worth p0 = some res) (W:World) (Aa:Option Addr) (n0_0 ca : Nat) (hn0_0:n0_0 = p0.fB.length) (hr0_0:Rd W Aa n0_0 ca (encL TBay_cells p0.fB)) (Ab:Option Addr) (n0_1 cb : Nat) (hn0_1:n0_1 = p0.fR.length) (hr0_1:Rd W Ab n0_1 cb (encL TOrder_cells p0.fR)) :
  Calls Tryz.prog 43 [.agg #[.slice Aa n0_0 ca,.slice Ab n0_1 cb]].toArray W fun e W2 => e = .returned (.tuple #[vI res.1,vI res.2]) ∧ Ext W W2 []:=by
 subst hn0_0
 subst hn0_1
 unfold ref05_Worth at h
 refine calls_enter (m:=14) Tryz.func43 rfl rfl (nB rfl) (cS (cR ?_))
 refine ox_box [.slice Aa p0.fB.length ca,.slice Ab p0.fR.length cb] rfl rfl rfl (fun b1 => ?_)
 refine oY rfl (yAI rfl) (oY rfl (yAI rfl) (oN (eT (cS (cR (oY rfl (yN 0 [.slice Aa p0.fB.length ca,.slice Ab p0.fR.length cb] ag_53 rfl rfl rfl) ?_))))))
 obtain ⟨y2,hy3,h⟩:=bOs h
 refine oY rfl (yC [.agg #[.slice Aa p0.fB.length ca,.slice Ab p0.fR.length cb]] go_46 rfl (fun W2 hW2 => ref05_CheckYard_ok p0 y2 hy3 W2 Aa p0.fB.length ca rfl ((RdL.arg hr0_0) W2 hW2) Ab p0.fR.length cb rfl ((RdL.arg hr0_1) W2 hW2)) rfl) (oY rfl (yAI rfl) (oN (eT (cS (cS (cR (oY rfl (yMI rfl) (oY rfl (y_neq rfl rfl) (oN (eT ?_))))))))))
 rcases iOs h with ⟨hp4,h⟩ | ⟨hp4,h⟩
 ·refine cT (vB hp4) (cS (cR (oY rfl (yMI rfl) (oY rfl (yAI rfl) (oY rfl (yAI rfl) (oN (eT (cx_ret (ex_then_ret ?_)))))))))
  obtain rfl:=sI h
  exact ex_res2 (.inl rfl) rfl (rVt (v:=vI 0) rfl) (rVt (v:=vI y2) rfl) (fun W2 hW2 => ⟨rfl,hW2.none⟩)
 ·refine cF (vB hp4) (cK (eT (cS ?_)))
  obtain ⟨y5,hy6,h⟩:=bOs h
  refine cx_drawsQ 2 3 (fun v L1 => ∃ x : (Option Addr × Nat × Nat),x.2.1 = y5.length ∧ v = .slice x.1 x.2.1 x.2.2 ∧ L1 = [rowR x.1 x.2.2 3 1 x.2.1 (encL cI y5)]) mixed (by kernel_rfl) (by kernel_rfl) (by kernel_rfl) ?_
  refine bx_y rfl (fun _ => yN 0 [.slice Aa p0.fB.length ca,.slice Ab p0.fR.length cb] ag_53 rfl rfl rfl) (bx_y rfl (fun _ => yN 0 [.slice Aa p0.fB.length ca,.slice Ab p0.fR.length cb] ag_53 rfl rfl rfl) (bx_q rfl (oC [.agg #[.slice Aa p0.fB.length ca,.slice Ab p0.fR.length cb],vI (-1),vI (-1)] _ _ _ rfl go_87 rfl (fun W2 hW2 => ref05_best_ok p0 (-1) (-1) y5 hy6 W2 Aa p0.fB.length ca rfl ((RdL.arg hr0_0) W2 hW2) Ab p0.fR.length cb rfl ((RdL.arg hr0_1) W2 hW2)) (fun x hx => oN (ex_cap ⟨x,hx,rfl,rfl⟩))) (kx_nil rfl ?_)))
  rintro v L1 ⟨⟨A7,n9,c8⟩,hn10,rfl,rfl⟩
  replace hn10 : n9 = y5.length:=hn10; subst hn10
  obtain ⟨y11,hy12,h⟩:=bOs h
  refine oY rfl (yC [.agg #[.slice Aa p0.fB.length ca,.slice Ab p0.fR.length cb],.slice A7 y5.length c8] go_86 rfl (fun W2 hW2 => ref05_worth_ok p0 y5 y11 hy12 W2 Aa p0.fB.length ca rfl ((RdL.arg hr0_0) W2 hW2) Ab p0.fR.length cb rfl ((RdL.arg hr0_1) W2 hW2) A7 y5.length c8 rfl ((RdL.row 1 rfl) W2 hW2)) rfl) (oY rfl (yAI rfl) (oY rfl (yAI rfl) (oN (ex_only (eT (cx_ret ?_))))))
  obtain rfl:=sI h
  exact ex_res2 (.inl rfl) rfl (rVt (v:=vI y11) rfl) (rVt (v:=vI 0) rfl) (fun W2 hW2 => ⟨rfl,hW2.none⟩)
theorem calxlaw05_CartPlans_ok (p0:TY) (p1:Int) (p2:Int) (p3:TPlan) (res:Bool) (h:calxlaw05_CartPlans p0 p1 p2 p3 = some res) (W:World) (Aa:Option Addr) (n0_0 ca : Nat) (hn0_0:n0_0 = p0.fB.length) (hr0_0:Rd W Aa n0_0 ca (encL TBay_cells p0.fB)) (Ab:Option Addr) (n0_1 cb : Nat) (hn0_1:n0_1 = p0.fR.length) (hr0_1:Rd W Ab n0_1 cb (encL TOrder_cells p0.fR)) (A3_0:Option Addr) (n3_0 c3_0 : Nat) (hn3_0:n3_0 = p3.fG.length) (hr3_0:Rd W A3_0 n3_0 c3_0 (encL cI p3.fG)) (A3_2:Option Addr) (n3_2 c3_2 : Nat) (hn3_2:n3_2 = p3.fPrices.length) (hr3_2:Rd W A3_2 n3_2 c3_2 (encL cI p3.fPrices)) :
  Calls Tryz.prog 10 [.agg #[.slice Aa n0_0 ca,.slice Ab n0_1 cb],vI p1,vI p2,.agg #[.slice A3_0 n3_0 c3_0,vI p3.fW,.slice A3_2 n3_2 c3_2]].toArray W fun e W2 => e = .returned (.bool res) ∧ Ext W W2 []:=by
 subst hn0_0
 subst hn0_1
 subst hn3_0
 subst hn3_2
 unfold calxlaw05_CartPlans at h
 refine calls_enter (m:=141) Tryz.func10 rfl rfl (nB rfl) (cS (cR ?_))
 refine ox_box [.slice Aa p0.fB.length ca,.slice Ab p0.fR.length cb] rfl rfl rfl (fun b1 => ?_)
 refine ox_box [.slice A3_0 p3.fG.length c3_0,vI p3.fW,.slice A3_2 p3.fPrices.length c3_2] rfl rfl rfl (fun b2 => ?_)
 refine oY rfl (yAB rfl) (oN (eT (cS (cS (cR (oY rfl (yN 0 [.slice Aa p0.fB.length ca,.slice Ab p0.fR.length cb] ag_53 rfl rfl rfl) ?_))))))
 obtain ⟨y3,hy4,h⟩:=bOs h
 refine oY rfl (yC [.agg #[.slice Aa p0.fB.length ca,.slice Ab p0.fR.length cb]] go_26 rfl (fun W2 hW2 => calxlaw05_yard_ok p0 y3 hy4 W2 Aa p0.fB.length ca rfl ((RdL.arg hr0_0) W2 hW2) Ab p0.fR.length cb rfl ((RdL.arg hr0_1) W2 hW2)) rfl) (oY rfl (y_not rfl) (oY rfl (yMB rfl) ?_))
 refine oJ 5 (fun tm0 => (upd (upd (upd (upd (upd (upd tm0 1 (vI p1)) 2 (vI p2)) 4 (.pointer (some ⟨b1,0,none⟩))) 7 (.pointer (some ⟨b2,0,none⟩))) 8 (.bool false)) 27 (.bool ((!y3) || (decide (60 < (p3.fG.length:Int))))))) (fun tm0 => ?_) (fun key => ?_)
 ·refine oY rfl (yMB rfl) ?_
  refine oJ 5 (fun tm0 => (upd (upd (upd (upd (upd (upd tm0 1 (vI p1)) 2 (vI p2)) 4 (.pointer (some ⟨b1,0,none⟩))) 7 (.pointer (some ⟨b2,0,none⟩))) 8 (.bool false)) 33 (.bool (((!y3) || (decide (60 < (p3.fG.length:Int)))) || (decide (60 < (p3.fPrices.length:Int))))))) (fun tm0 => ?_) (fun key => ?_)
  ·refine oN (eT ?_)
   rcases iOs h with ⟨hp7,h⟩ | ⟨hp7,h⟩
   ·refine cT (vB hp7) (cS (cR ?_))
    obtain ⟨y8,hy9,h⟩:=bOs h
    refine oY rfl (yC [] go_17 rfl (fun W2 hW2 => calxlaw05_sanity_ok  y8 hy9 W2 ) rfl) (oY rfl (yAB rfl) (oN (eT (cx_ret (ex_then_ret ?_)))))
    obtain rfl:=sI h
    exact ex_res1 (.inl rfl) rfl (rVt (v:=.bool y8) rfl) (fun W2 hW2 => ⟨rfl,hW2.none⟩)
   ·refine cF (vB hp7) (cK (eT (cS (cR (oY rfl (yN 0 [.slice Aa p0.fB.length ca,.slice Ab p0.fR.length cb] ag_53 rfl rfl rfl) (oY rfl (yMI rfl) (oY rfl (yMI rfl) ?_)))))))
    obtain ⟨y10,hy11,h⟩:=bOs h
    refine oY rfl (yC [.agg #[.slice Aa p0.fB.length ca,.slice Ab p0.fR.length cb],vI p1,vI p2] go_38 rfl (fun W2 hW2 => cart_Suits_ok p0 p1 p2 y10 hy11 W2 Aa p0.fB.length ca rfl ((RdL.arg hr0_0) W2 hW2) Ab p0.fR.length cb rfl ((RdL.arg hr0_1) W2 hW2)) rfl) (oY rfl (y_move_tuple rfl) (oY rfl (yE (vs:=[.bool y10.1,vI y10.2]) (v:=.bool y10.1) rfl rfl) (oY rfl (yE (vs:=[.bool y10.1,vI y10.2]) (v:=vI y10.2) rfl rfl) (oY rfl (yAB rfl) (oY rfl (yAI rfl) (oN (eT (cS (cR (oY rfl (yN 0 [.slice Aa p0.fB.length ca,.slice Ab p0.fR.length cb] ag_53 rfl rfl rfl) (oY rfl (yMI rfl) (oY rfl (yMI rfl) ?_))))))))))))
    obtain ⟨y12,hy13,h⟩:=bOs h
    refine oY rfl (yC [.agg #[.slice Aa p0.fB.length ca,.slice Ab p0.fR.length cb],vI p1,vI p2] go_42 rfl (fun W2 hW2 => ref05_Suits_ok p0 p1 p2 y12 hy13 W2 Aa p0.fB.length ca rfl ((RdL.arg hr0_0) W2 hW2) Ab p0.fR.length cb rfl ((RdL.arg hr0_1) W2 hW2)) rfl) (oY rfl (y_move_tuple rfl) (oY rfl (yE (vs:=[.bool y12.1,vI y12.2]) (v:=.bool y12.1) rfl rfl) (oY rfl (yE (vs:=[.bool y12.1,vI y12.2]) (v:=vI y12.2) rfl rfl) (oY rfl (yAB rfl) (oY rfl (yAI rfl) (oN (eT (cS (cR (oY rfl (yN 0 [.slice Aa p0.fB.length ca,.slice Ab p0.fR.length cb] ag_53 rfl rfl rfl) ?_))))))))))
    obtain ⟨y14,hy15,h⟩:=bOs h
    refine oY rfl (yC [.agg #[.slice Aa p0.fB.length ca,.slice Ab p0.fR.length cb]] go_35 rfl (fun W2 hW2 => cart_Worth_ok p0 y14 hy15 W2 Aa p0.fB.length ca rfl ((RdL.arg hr0_0) W2 hW2) Ab p0.fR.length cb rfl ((RdL.arg hr0_1) W2 hW2)) rfl) (oY rfl (y_move_tuple rfl) (oY rfl (yE (vs:=[vI y14.1,vI y14.2]) (v:=vI y14.1) rfl rfl) (oY rfl (yE (vs:=[vI y14.1,vI y14.2]) (v:=vI y14.2) rfl rfl) (oY rfl (yAI rfl) (oY rfl (yAI rfl) (oN (eT (cS (cR (oY rfl (yN 0 [.slice Aa p0.fB.length ca,.slice Ab p0.fR.length cb] ag_53 rfl rfl rfl) ?_))))))))))
    obtain ⟨y16,hy17,h⟩:=bOs h
    refine oY rfl (yC [.agg #[.slice Aa p0.fB.length ca,.slice Ab p0.fR.length cb]] go_43 rfl (fun W2 hW2 => ref05_Worth_ok p0 y16 hy17 W2 Aa p0.fB.length ca rfl ((RdL.arg hr0_0) W2 hW2) Ab p0.fR.length cb rfl ((RdL.arg hr0_1) W2 hW2)) rfl) (oY rfl (y_move_tuple rfl) (oY rfl (yE (vs:=[vI y16.1,vI y16.2]) (v:=vI y16.1) rfl rfl) (oY rfl (yE (vs:=[vI y16.1,vI y16.2]) (v:=vI y16.2) rfl rfl) (oY rfl (yAI rfl) (oY rfl (yAI rfl) (oN (eT (cS (cR (oY rfl (yN 0 [.slice Aa p0.fB.length ca,.slice Ab p0.fR.length cb] ag_53 rfl rfl rfl) ?_))))))))))
    obtain ⟨y18,hy19,h⟩:=bOs h
    refine oC [.agg #[.slice Aa p0.fB.length ca,.slice Ab p0.fR.length cb]] _ _ _ rfl go_37 rfl (fun W2 hW2 => cart_Serve_ok p0 y18 hy19 W2 Aa p0.fB.length ca rfl ((RdL.arg hr0_0) W2 hW2) Ab p0.fR.length cb rfl ((RdL.arg hr0_1) W2 hW2)) ?_
    rintro ⟨⟨A20,n24,c21⟩,⟨A22,n26,c23⟩⟩ ⟨hn25,hn27⟩
    replace hn25 : n24 = y18.1.fG.length:=hn25; subst hn25
    replace hn27 : n26 = y18.1.fPrices.length:=hn27; subst hn27
    refine oY rfl (y_move_tuple rfl) (oY rfl (yE (vs:=[.agg #[.slice A20 y18.1.fG.length c21,vI y18.1.fW,.slice A22 y18.1.fPrices.length c23],vI y18.2]) (v:=.agg #[.slice A20 y18.1.fG.length c21,vI y18.1.fW,.slice A22 y18.1.fPrices.length c23]) rfl rfl) (oY rfl (yE (vs:=[.agg #[.slice A20 y18.1.fG.length c21,vI y18.1.fW,.slice A22 y18.1.fPrices.length c23],vI y18.2]) (v:=vI y18.2) rfl rfl) ?_))
    refine ox_alloc ze_71 rfl (fun b28 => ?_)
    refine ox_n rfl (yS 4 [.slice A20 y18.1.fG.length c21,vI y18.1.fW,.slice A22 y18.1.fPrices.length c23] sz_71 rfl (nB rfl) rfl rfl rfl) (oY rfl (yAI rfl) (oN (eT (cS (cS (cR (oY rfl (yMB rfl) (oY rfl (yMB rfl) (oY rfl (y_neqb ub_4 rfl rfl) (oY rfl (yMB rfl) ?_))))))))))
    refine oJ 4 (fun tm0 => (upd (upd (upd (upd (upd (upd (upd (upd (upd (upd tm0 4 (.pointer (some ⟨b1,0,none⟩))) 7 (.pointer (some ⟨b2,0,none⟩))) 8 (.bool false)) 13 (vI y14.1)) 14 (vI y14.2)) 15 (vI y16.1)) 16 (vI y16.2)) 17 (.pointer (some ⟨b28,0,none⟩))) 18 (vI y18.2)) 71 (.bool ((!(y10.1 == y12.1)) || (y10.2 != y12.2))))) (fun tm0 => ?_) (fun key => ?_)
    ·refine oY rfl (yMB rfl) ?_
     refine oJ 4 (fun tm0 => (upd (upd (upd (upd (upd (upd (upd (upd (upd tm0 4 (.pointer (some ⟨b1,0,none⟩))) 7 (.pointer (some ⟨b2,0,none⟩))) 8 (.bool false)) 14 (vI y14.2)) 15 (vI y16.1)) 16 (vI y16.2)) 17 (.pointer (some ⟨b28,0,none⟩))) 18 (vI y18.2)) 76 (.bool (((!(y10.1 == y12.1)) || (y10.2 != y12.2)) || (y14.1 != y16.1))))) (fun tm0 => ?_) (fun key => ?_)
     ·refine oY rfl (yMB rfl) ?_
      refine oJ 4 (fun tm0 => (upd (upd (upd (upd (upd (upd (upd (upd tm0 4 (.pointer (some ⟨b1,0,none⟩))) 7 (.pointer (some ⟨b2,0,none⟩))) 8 (.bool false)) 15 (vI y16.1)) 16 (vI y16.2)) 17 (.pointer (some ⟨b28,0,none⟩))) 18 (vI y18.2)) 81 (.bool ((((!(y10.1 == y12.1)) || (y10.2 != y12.2)) || (y14.1 != y16.1)) || (y14.2 != y16.2))))) (fun tm0 => ?_) (fun key => ?_)
      ·refine oY rfl (yMB rfl) ?_
       refine oJ 4 (fun tm0 => (upd (upd (upd (upd (upd (upd (upd tm0 4 (.pointer (some ⟨b1,0,none⟩))) 7 (.pointer (some ⟨b2,0,none⟩))) 8 (.bool false)) 15 (vI y16.1)) 17 (.pointer (some ⟨b28,0,none⟩))) 18 (vI y18.2)) 86 (.bool (((((!(y10.1 == y12.1)) || (y10.2 != y12.2)) || (y14.1 != y16.1)) || (y14.2 != y16.2)) || (y18.2 != y16.2))))) (fun tm0 => ?_) (fun key => ?_)
       ·refine oY rfl (yMB rfl) ?_
        obtain ⟨b34,hb35,h⟩:=bOs h
        refine oJ 15 (fun tm0 => (upd (upd (upd (upd (upd (upd tm0 4 (.pointer (some ⟨b1,0,none⟩))) 7 (.pointer (some ⟨b2,0,none⟩))) 8 (.bool false)) 17 (.pointer (some ⟨b28,0,none⟩))) 18 (vI y18.2)) 102 (.bool b34))) (fun tm0 => ?_) (fun key => ?_)
        ·refine oY rfl (yMB rfl) ?_
         refine oJ 20 (fun tm0 => (upd (upd (upd (upd tm0 4 (.pointer (some ⟨b1,0,none⟩))) 7 (.pointer (some ⟨b2,0,none⟩))) 8 (.bool false)) 123 (.bool (b34 || ((y18.2 != 0) && (((decide (0 < (y18.1.fG.length:Int))) || (decide (0 < (y18.1.fPrices.length:Int)))) || (y18.1.fW != 0))))))) (fun tm0 => ?_) (fun key => ?_)
         ·refine oN (eT ?_)
          rcases iOs h with ⟨hp37,h⟩ | ⟨hp37,h⟩
          ·refine cT (vB hp37) (cS (cR (oY rfl (yAB rfl) (oN (eT (cx_ret (ex_then_ret ?_)))))))
           obtain rfl:=sI h
           exact ex_res1 (.inl rfl) rfl (rVt (v:=.bool false) rfl) (fun W2 hW2 => ⟨rfl,hW2.none⟩)
          ·refine cF (vB hp37) (cK (eT (cS ?_)))
           refine cx_draws 18 mixed (by kernel_rfl) (by kernel_rfl) ?_
           obtain ⟨y38,hy39,h⟩:=bOs h
           refine qY rfl (yC [] go_17 rfl (fun W2 hW2 => calxlaw05_sanity_ok  y38 hy39 W2 ) rfl) (qY rfl (yMB rfl) ?_)
           obtain ⟨b41,hb42,h⟩:=bOs h
           refine qJ 6 (fun tm0 => (upd (upd (upd (upd tm0 4 (.pointer (some ⟨b1,0,none⟩))) 7 (.pointer (some ⟨b2,0,none⟩))) 8 (.bool false)) 131 (.bool b41))) (fun tm0 => ?_) (fun key => ?_)
           ·refine qY rfl (yMB rfl) ?_
            obtain ⟨b44,hb45,h⟩:=bOs h
            refine qJ 8 (fun tm0 => (upd (upd tm0 8 (.bool false)) 140 (.bool b44))) (fun tm0 => ?_) (fun key => ?_)
            ·refine qY rfl (yAB rfl) (qx_nil (oN (eT (cx_ret ?_))))
             obtain rfl:=sI h
             exact ex_res1 (.inl rfl) rfl (rVt (v:=.bool b44) rfl) (fun W2 hW2 => ⟨rfl,hW2.none⟩)
            ·clear h; rcases iOs hb45 with ⟨hp43,h⟩ | ⟨hp43,h⟩
             ·refine qY (sT rfl rfl rfl rfl hp43) (yN 0 [.slice Aa p0.fB.length ca,.slice Ab p0.fR.length cb] ag_53 rfl rfl rfl) (qY (sT rfl rfl rfl rfl hp43) (yN 1 [.slice A3_0 p3.fG.length c3_0,vI p3.fW,.slice A3_2 p3.fPrices.length c3_2] ag_71 rfl rfl rfl) ?_)
              obtain ⟨y46,hy47,h⟩:=bOs h
              refine qY (sT rfl rfl rfl rfl hp43) (yC [.agg #[.slice Aa p0.fB.length ca,.slice Ab p0.fR.length cb],.agg #[.slice A3_0 p3.fG.length c3_0,vI p3.fW,.slice A3_2 p3.fPrices.length c3_2]] go_39 rfl (fun W2 hW2 => cart_CheckPlan_ok p0 p3 y46 hy47 W2 Aa p0.fB.length ca rfl ((RdL.arg hr0_0) W2 hW2) Ab p0.fR.length cb rfl ((RdL.arg hr0_1) W2 hW2) A3_0 p3.fG.length c3_0 rfl ((RdL.arg hr3_0) W2 hW2) A3_2 p3.fPrices.length c3_2 rfl ((RdL.arg hr3_2) W2 hW2)) rfl) (qY (sT rfl rfl rfl rfl hp43) (yN 0 [.slice Aa p0.fB.length ca,.slice Ab p0.fR.length cb] ag_53 rfl rfl rfl) (qY (sT rfl rfl rfl rfl hp43) (yN 1 [.slice A3_0 p3.fG.length c3_0,vI p3.fW,.slice A3_2 p3.fPrices.length c3_2] ag_71 rfl rfl rfl) ?_))
              obtain ⟨y48,hy49,h⟩:=bOs h
              refine qY (sT rfl rfl rfl rfl hp43) (yC [.agg #[.slice Aa p0.fB.length ca,.slice Ab p0.fR.length cb],.agg #[.slice A3_0 p3.fG.length c3_0,vI p3.fW,.slice A3_2 p3.fPrices.length c3_2]] go_44 rfl (fun W2 hW2 => ref05_CheckPlan_ok p0 p3 y48 hy49 W2 Aa p0.fB.length ca rfl ((RdL.arg hr0_0) W2 hW2) Ab p0.fR.length cb rfl ((RdL.arg hr0_1) W2 hW2) A3_0 p3.fG.length c3_0 rfl ((RdL.arg hr3_0) W2 hW2) A3_2 p3.fPrices.length c3_2 rfl ((RdL.arg hr3_2) W2 hW2)) rfl) (qY (sT rfl rfl rfl rfl hp43) (y_eql rfl rfl) (qY rfl (y_pick_tb (vB hp43) rfl) ?_))
              obtain rfl:=sI h
              exact key _ _ (kp (kp rfl))
             ·refine qx_skip (sF rfl rfl rfl rfl hp43) (qx_skip (sF rfl rfl rfl rfl hp43) (qx_skip (sF rfl rfl rfl rfl hp43) (qx_skip (sF rfl rfl rfl rfl hp43) (qx_skip (sF rfl rfl rfl rfl hp43) (qx_skip (sF rfl rfl rfl rfl hp43) (qx_skip (sF rfl rfl rfl rfl hp43) (qY rfl (y_pick_fb (vB hp43) rfl) ?_)))))))
              obtain rfl:=sI h
              exact key _ _ (kp (kp rfl))
           ·clear h; rcases iOs hb42 with ⟨hp40,h⟩ | ⟨hp40,h⟩
            ·refine qY (sT rfl rfl rfl rfl hp40) (yN 0 [.slice Aa p0.fB.length ca,.slice Ab p0.fR.length cb] ag_53 rfl rfl rfl) ?_
             obtain ⟨y50,hy51,h⟩:=bOs h
             refine qY (sT rfl rfl rfl rfl hp40) (yC [.agg #[.slice Aa p0.fB.length ca,.slice Ab p0.fR.length cb]] go_45 rfl (fun W2 hW2 => cart_CheckYard_ok p0 y50 hy51 W2 Aa p0.fB.length ca rfl ((RdL.arg hr0_0) W2 hW2) Ab p0.fR.length cb rfl ((RdL.arg hr0_1) W2 hW2)) rfl) (qY (sT rfl rfl rfl rfl hp40) (yN 0 [.slice Aa p0.fB.length ca,.slice Ab p0.fR.length cb] ag_53 rfl rfl rfl) ?_)
             obtain ⟨y52,hy53,h⟩:=bOs h
             refine qY (sT rfl rfl rfl rfl hp40) (yC [.agg #[.slice Aa p0.fB.length ca,.slice Ab p0.fR.length cb]] go_46 rfl (fun W2 hW2 => ref05_CheckYard_ok p0 y52 hy53 W2 Aa p0.fB.length ca rfl ((RdL.arg hr0_0) W2 hW2) Ab p0.fR.length cb rfl ((RdL.arg hr0_1) W2 hW2)) rfl) (qY (sT rfl rfl rfl rfl hp40) (y_eql rfl rfl) (qY rfl (y_pick_tb (vB hp40) rfl) ?_))
             obtain rfl:=sI h
             exact key _ _ (kp4 rfl)
            ·refine qx_skip (sF rfl rfl rfl rfl hp40) (qx_skip (sF rfl rfl rfl rfl hp40) (qx_skip (sF rfl rfl rfl rfl hp40) (qx_skip (sF rfl rfl rfl rfl hp40) (qx_skip (sF rfl rfl rfl rfl hp40) (qY rfl (y_pick_fb (vB hp40) rfl) ?_)))))
             obtain rfl:=sI h
             exact key _ _ (kp4 rfl)
         ·rcases bool_cases b34 with hp36 | hp36
          ·refine oSk (sF rfl rfl rfl rfl hp36) (oSk (sF rfl rfl rfl rfl hp36) (oSk (sF rfl rfl rfl rfl hp36) (oSk rfl (oSk rfl (oSk rfl (oSk rfl (oSk rfl (oSk rfl (oSk rfl (oSk rfl (oSk rfl (oSk rfl (oSk rfl (oSk rfl (oSk rfl (oSk rfl (oSk rfl (oSk (sF rfl rfl rfl rfl hp36) (oY rfl (y_pick_tb (vB hp36) rfl) ?_)))))))))))))))))))
           exact key _ _ (keep (keep (keep (keep rfl rfl) rfl) rfl) (vB (or_t hp36)))
          ·refine oY (sT rfl rfl rfl rfl hp36) (yMI rfl) (oY (sT rfl rfl rfl rfl hp36) (y_neq rfl rfl) (oY (sT rfl rfl rfl rfl hp36) (yMB rfl) ?_))
           refine oJ 16 (fun tm0 => (upd (upd (upd (upd (upd tm0 4 (.pointer (some ⟨b1,0,none⟩))) 7 (.pointer (some ⟨b2,0,none⟩))) 8 (.bool false)) 103 (.bool b34)) 122 (.bool ((y18.2 != 0) && (((decide (0 < (y18.1.fG.length:Int))) || (decide (0 < (y18.1.fPrices.length:Int)))) || (y18.1.fW != 0)))))) (fun tm0 => ?_) (fun key => ?_)
           ·refine oY rfl (y_pick_fb (vB hp36) rfl) ?_
            exact key _ _ (keep (keep (keep (keep rfl rfl) rfl) rfl) (vB (or_f hp36)))
           ·rcases bool_cases (y18.2 != 0) with hp54 | hp54
            ·refine oY (sT rfl rfl rfl rfl hp54) (yFA fo_71_0 rfl) (oY (sT rfl rfl rfl rfl hp54) (yL 4 (v:=.slice A20 y18.1.fG.length c21) sc_42 rfl rfl rfl) (oY (sT rfl rfl rfl rfl hp54) (y_len (us:=[]) us_42 rfl) (oY (sT rfl rfl rfl rfl hp54) (y_gtr rfl rfl) (oY (sT rfl rfl rfl rfl hp54) (yMB rfl) ?_))))
             refine oJ 5 (fun tm0 => (upd (upd (upd (upd (upd (upd (upd tm0 4 (.pointer (some ⟨b1,0,none⟩))) 7 (.pointer (some ⟨b2,0,none⟩))) 8 (.bool false)) 17 (.pointer (some ⟨b28,0,none⟩))) 103 (.bool b34)) 106 (.bool (y18.2 != 0))) 116 (.bool ((decide (0 < (y18.1.fG.length:Int))) || (decide (0 < (y18.1.fPrices.length:Int))))))) (fun tm0 => ?_) (fun key => ?_)
             ·refine oY (sT rfl rfl rfl rfl hp54) (yMB rfl) ?_
              refine oJ 4 (fun tm0 => (upd (upd (upd (upd (upd (upd tm0 4 (.pointer (some ⟨b1,0,none⟩))) 7 (.pointer (some ⟨b2,0,none⟩))) 8 (.bool false)) 103 (.bool b34)) 106 (.bool (y18.2 != 0))) 121 (.bool (((decide (0 < (y18.1.fG.length:Int))) || (decide (0 < (y18.1.fPrices.length:Int)))) || (y18.1.fW != 0))))) (fun tm0 => ?_) (fun key => ?_)
              ·refine oY (sT rfl rfl rfl rfl hp36) (y_pick_tb (vB hp54) rfl) ?_
               exact key _ _ (keep (keep (keep (keep (keep rfl rfl) rfl) rfl) rfl) (vB (and_t hp54)))
              ·rcases bool_cases ((decide (0 < (y18.1.fG.length:Int))) || (decide (0 < (y18.1.fPrices.length:Int)))) with hp56 | hp56
               ·refine oSk (sF rfl rfl rfl rfl hp56) (oSk (sF rfl rfl rfl rfl hp56) (oSk (sF rfl rfl rfl rfl hp56) (oY (sT rfl rfl rfl rfl hp54) (y_pick_tb (vB hp56) rfl) ?_)))
                exact key _ _ (keep (keep (keep (keep (keep (keep rfl rfl) rfl) rfl) rfl) rfl) (vB (or_t hp56)))
               ·refine oY (sT rfl rfl rfl rfl hp56) (yFA fo_71_1 rfl) (oY (sT rfl rfl rfl rfl hp56) (yL 4 (v:=vI y18.1.fW) sc_3 rfl rfl rfl) (oY (sT rfl rfl rfl rfl hp56) (y_neq rfl rfl) (oY (sT rfl rfl rfl rfl hp54) (y_pick_fb (vB hp56) rfl) ?_)))
                exact key _ _ (keep (keep (keep (keep (keep (keep rfl rfl) rfl) rfl) rfl) rfl) (vB (or_f hp56)))
             ·rcases bool_cases (decide (0 < (y18.1.fG.length:Int))) with hp55 | hp55
              ·refine oSk (sF rfl rfl rfl rfl hp55) (oSk (sF rfl rfl rfl rfl hp55) (oSk (sF rfl rfl rfl rfl hp55) (oSk (sF rfl rfl rfl rfl hp55) (oY (sT rfl rfl rfl rfl hp54) (y_pick_tb (vB hp55) rfl) ?_))))
               exact key _ _ (keep (keep (keep (keep (keep (keep (keep rfl rfl) rfl) rfl) rfl) rfl) rfl) (vB (or_t hp55)))
              ·refine oY (sT rfl rfl rfl rfl hp55) (yFA fo_71_2 rfl) (oY (sT rfl rfl rfl rfl hp55) (yL 4 (v:=.slice A22 y18.1.fPrices.length c23) sc_42 rfl rfl rfl) (oY (sT rfl rfl rfl rfl hp55) (y_len (us:=[]) us_42 rfl) (oY (sT rfl rfl rfl rfl hp55) (y_gtr rfl rfl) (oY (sT rfl rfl rfl rfl hp54) (y_pick_fb (vB hp55) rfl) ?_))))
               exact key _ _ (keep (keep (keep (keep (keep (keep (keep rfl rfl) rfl) rfl) rfl) rfl) rfl) (vB (or_f hp55)))
            ·refine oSk (sF rfl rfl rfl rfl hp54) (oSk (sF rfl rfl rfl rfl hp54) (oSk (sF rfl rfl rfl rfl hp54) (oSk (sF rfl rfl rfl rfl hp54) (oSk (sF rfl rfl rfl rfl hp54) (oSk rfl (oSk rfl (oSk rfl (oSk rfl (oSk (sF rfl rfl rfl rfl hp54) (oSk (sF rfl rfl rfl rfl hp54) (oSk rfl (oSk rfl (oSk rfl (oSk (sF rfl rfl rfl rfl hp54) (oY (sT rfl rfl rfl rfl hp36) (y_pick_fb (vB hp54) rfl) ?_)))))))))))))))
             exact key _ _ (keep (keep (keep (keep (keep rfl rfl) rfl) rfl) rfl) (vB (and_f hp54)))
        ·clear h; rcases iOs hb35 with ⟨hp33,h⟩ | ⟨hp33,h⟩
         ·refine oSk (sF rfl rfl rfl rfl hp33) (oSk (sF rfl rfl rfl rfl hp33) (oSk (sF rfl rfl rfl rfl hp33) (oSk rfl (oSk rfl (oSk rfl (oSk rfl (oSk rfl (oSk rfl (oSk rfl (oSk rfl (oSk rfl (oSk rfl (oSk (sF rfl rfl rfl rfl hp33) (oY rfl (y_pick_tb (vB hp33) rfl) ?_))))))))))))))
          obtain rfl:=sI h
          exact key _ _ (kp4 (kp (kp rfl)))
         ·refine oY (sT rfl rfl rfl rfl hp33) (yMI rfl) (oY (sT rfl rfl rfl rfl hp33) (y_eql rfl rfl) (oY (sT rfl rfl rfl rfl hp33) (yMB rfl) ?_))
          obtain ⟨b58,hb59,h⟩:=bOs h
          refine oJ 11 (fun tm0 => (upd (upd (upd (upd (upd (upd (upd tm0 4 (.pointer (some ⟨b1,0,none⟩))) 7 (.pointer (some ⟨b2,0,none⟩))) 8 (.bool false)) 17 (.pointer (some ⟨b28,0,none⟩))) 18 (vI y18.2)) 87 (.bool (((((!(y10.1 == y12.1)) || (y10.2 != y12.2)) || (y14.1 != y16.1)) || (y14.2 != y16.2)) || (y18.2 != y16.2)))) 101 (.bool b58))) (fun tm0 => ?_) (fun key => ?_)
          ·refine oY rfl (y_pick_fb (vB hp33) rfl) ?_
           obtain rfl:=sI h
           exact key _ _ (kp4 (kp (kp rfl)))
          ·clear h; rcases iOs hb59 with ⟨hp57,h⟩ | ⟨hp57,h⟩
           ·refine oY (sT rfl rfl rfl rfl hp57) (yN 0 [.slice Aa p0.fB.length ca,.slice Ab p0.fR.length cb] ag_53 rfl rfl rfl) (oY (sT rfl rfl rfl rfl hp57) (yN 4 [.slice A20 y18.1.fG.length c21,vI y18.1.fW,.slice A22 y18.1.fPrices.length c23] ag_71 rfl rfl rfl) ?_)
            obtain ⟨y60,hy61,h⟩:=bOs h
            refine oY (sT rfl rfl rfl rfl hp57) (yC [.agg #[.slice Aa p0.fB.length ca,.slice Ab p0.fR.length cb],.agg #[.slice A20 y18.1.fG.length c21,vI y18.1.fW,.slice A22 y18.1.fPrices.length c23]] go_44 rfl (fun W2 hW2 => ref05_CheckPlan_ok p0 y18.1 y60 hy61 W2 Aa p0.fB.length ca rfl ((RdL.arg hr0_0) W2 hW2) Ab p0.fR.length cb rfl ((RdL.arg hr0_1) W2 hW2) A20 y18.1.fG.length c21 rfl ((RdL.row 2 rfl) W2 hW2) A22 y18.1.fPrices.length c23 rfl ((RdL.row 3 rfl) W2 hW2)) rfl) (oY (sT rfl rfl rfl rfl hp57) (y_neq rfl rfl) (oY (sT rfl rfl rfl rfl hp57) (yMB rfl) ?_))
            refine oJ 5 (fun tm0 => (upd (upd (upd (upd (upd (upd (upd (upd tm0 4 (.pointer (some ⟨b1,0,none⟩))) 7 (.pointer (some ⟨b2,0,none⟩))) 8 (.bool false)) 17 (.pointer (some ⟨b28,0,none⟩))) 18 (vI y18.2)) 87 (.bool (((((!(y10.1 == y12.1)) || (y10.2 != y12.2)) || (y14.1 != y16.1)) || (y14.2 != y16.2)) || (y18.2 != y16.2)))) 90 (.bool (y18.2 == 0))) 100 (.bool ((y60 != 0) || (y18.1.fW != y16.1))))) (fun tm0 => ?_) (fun key => ?_)
            ·refine oY (sT rfl rfl rfl rfl hp33) (y_pick_tb (vB hp57) rfl) ?_
             obtain rfl:=sI h
             exact key _ _ (kp4 (kp (kp (kp rfl))))
            ·rcases bool_cases (y60 != 0) with hp62 | hp62
             ·refine oSk (sF rfl rfl rfl rfl hp62) (oSk (sF rfl rfl rfl rfl hp62) (oSk (sF rfl rfl rfl rfl hp62) (oSk (sF rfl rfl rfl rfl hp62) (oY (sT rfl rfl rfl rfl hp57) (y_pick_tb (vB hp62) rfl) ?_))))
              exact key _ _ (keep (keep (keep (keep (keep (keep (keep (keep rfl rfl) rfl) rfl) rfl) rfl) rfl) rfl) (vB (or_t hp62)))
             ·refine oY (sT rfl rfl rfl rfl hp62) (yFA fo_71_1 rfl) (oY (sT rfl rfl rfl rfl hp62) (yL 4 (v:=vI y18.1.fW) sc_3 rfl rfl rfl) (oY (sT rfl rfl rfl rfl hp62) (yMI rfl) (oY (sT rfl rfl rfl rfl hp62) (y_neq rfl rfl) (oY (sT rfl rfl rfl rfl hp57) (y_pick_fb (vB hp62) rfl) ?_))))
              exact key _ _ (keep (keep (keep (keep (keep (keep (keep (keep rfl rfl) rfl) rfl) rfl) rfl) rfl) rfl) (vB (or_f hp62)))
           ·refine oSk (sF rfl rfl rfl rfl hp57) (oSk (sF rfl rfl rfl rfl hp57) (oSk (sF rfl rfl rfl rfl hp57) (oSk (sF rfl rfl rfl rfl hp57) (oSk (sF rfl rfl rfl rfl hp57) (oSk rfl (oSk rfl (oSk rfl (oSk rfl (oSk (sF rfl rfl rfl rfl hp57) (oY (sT rfl rfl rfl rfl hp33) (y_pick_fb (vB hp57) rfl) ?_))))))))))
            obtain rfl:=sI h
            exact key _ _ (kp4 (kp (kp (kp rfl))))
       ·rcases bool_cases ((((!(y10.1 == y12.1)) || (y10.2 != y12.2)) || (y14.1 != y16.1)) || (y14.2 != y16.2)) with hp32 | hp32
        ·refine oSk (sF rfl rfl rfl rfl hp32) (oSk (sF rfl rfl rfl rfl hp32) (oSk (sF rfl rfl rfl rfl hp32) (oY rfl (y_pick_tb (vB hp32) rfl) ?_)))
         exact key _ _ (keep (keep (keep (keep (keep (keep (keep rfl rfl) rfl) rfl) rfl) rfl) rfl) (vB (or_t hp32)))
        ·refine oY (sT rfl rfl rfl rfl hp32) (yMI rfl) (oY (sT rfl rfl rfl rfl hp32) (yMI rfl) (oY (sT rfl rfl rfl rfl hp32) (y_neq rfl rfl) (oY rfl (y_pick_fb (vB hp32) rfl) ?_)))
         exact key _ _ (keep (keep (keep (keep (keep (keep (keep rfl rfl) rfl) rfl) rfl) rfl) rfl) (vB (or_f hp32)))
      ·rcases bool_cases (((!(y10.1 == y12.1)) || (y10.2 != y12.2)) || (y14.1 != y16.1)) with hp31 | hp31
       ·refine oSk (sF rfl rfl rfl rfl hp31) (oSk (sF rfl rfl rfl rfl hp31) (oSk (sF rfl rfl rfl rfl hp31) (oY rfl (y_pick_tb (vB hp31) rfl) ?_)))
        exact key _ _ (keep (keep (keep (keep (keep (keep (keep (keep rfl rfl) rfl) rfl) rfl) rfl) rfl) rfl) (vB (or_t hp31)))
       ·refine oY (sT rfl rfl rfl rfl hp31) (yMI rfl) (oY (sT rfl rfl rfl rfl hp31) (yMI rfl) (oY (sT rfl rfl rfl rfl hp31) (y_neq rfl rfl) (oY rfl (y_pick_fb (vB hp31) rfl) ?_)))
        exact key _ _ (keep (keep (keep (keep (keep (keep (keep (keep rfl rfl) rfl) rfl) rfl) rfl) rfl) rfl) (vB (or_f hp31)))
     ·rcases bool_cases ((!(y10.1 == y12.1)) || (y10.2 != y12.2)) with hp30 | hp30
      ·refine oSk (sF rfl rfl rfl rfl hp30) (oSk (sF rfl rfl rfl rfl hp30) (oSk (sF rfl rfl rfl rfl hp30) (oY rfl (y_pick_tb (vB hp30) rfl) ?_)))
       exact key _ _ (keep (keep (keep (keep (keep (keep (keep (keep (keep rfl rfl) rfl) rfl) rfl) rfl) rfl) rfl) rfl) (vB (or_t hp30)))
      ·refine oY (sT rfl rfl rfl rfl hp30) (yMI rfl) (oY (sT rfl rfl rfl rfl hp30) (yMI rfl) (oY (sT rfl rfl rfl rfl hp30) (y_neq rfl rfl) (oY rfl (y_pick_fb (vB hp30) rfl) ?_)))
       exact key _ _ (keep (keep (keep (keep (keep (keep (keep (keep (keep rfl rfl) rfl) rfl) rfl) rfl) rfl) rfl) rfl) (vB (or_f hp30)))
    ·rcases bool_cases (!(y10.1 == y12.1)) with hp29 | hp29
     ·refine oSk (sF rfl rfl rfl rfl hp29) (oSk (sF rfl rfl rfl rfl hp29) (oSk (sF rfl rfl rfl rfl hp29) (oY rfl (y_pick_tb (vB hp29) rfl) ?_)))
      exact key _ _ (keep (keep (keep (keep (keep (keep (keep (keep (keep (keep rfl rfl) rfl) rfl) rfl) rfl) rfl) rfl) rfl) rfl) (vB (or_t hp29)))
     ·refine oY (sT rfl rfl rfl rfl hp29) (yMI rfl) (oY (sT rfl rfl rfl rfl hp29) (yMI rfl) (oY (sT rfl rfl rfl rfl hp29) (y_neq rfl rfl) (oY rfl (y_pick_fb (vB hp29) rfl) ?_)))
      exact key _ _ (keep (keep (keep (keep (keep (keep (keep (keep (keep (keep rfl rfl) rfl) rfl) rfl) rfl) rfl) rfl) rfl) rfl) (vB (or_f hp29)))
  ·rcases bool_cases ((!y3) || (decide (60 < (p3.fG.length:Int)))) with hp6 | hp6
   ·refine oSk (sF rfl rfl rfl rfl hp6) (oSk (sF rfl rfl rfl rfl hp6) (oSk (sF rfl rfl rfl rfl hp6) (oSk (sF rfl rfl rfl rfl hp6) (oY rfl (y_pick_tb (vB hp6) rfl) ?_))))
    exact key _ _ (keep (keep (keep (keep (keep (keep rfl rfl) rfl) rfl) rfl) rfl) (vB (or_t hp6)))
   ·refine oY (sT rfl rfl rfl rfl hp6) (yFA fo_71_2 rfl) (oY (sT rfl rfl rfl rfl hp6) (yL 1 (v:=.slice A3_2 p3.fPrices.length c3_2) sc_42 rfl rfl rfl) (oY (sT rfl rfl rfl rfl hp6) (y_len (us:=[]) us_42 rfl) (oY (sT rfl rfl rfl rfl hp6) (y_gtr rfl rfl) (oY rfl (y_pick_fb (vB hp6) rfl) ?_))))
    exact key _ _ (keep (keep (keep (keep (keep (keep rfl rfl) rfl) rfl) rfl) rfl) (vB (or_f hp6)))
 ·rcases bool_cases (!y3) with hp5 | hp5
  ·refine oSk (sF rfl rfl rfl rfl hp5) (oSk (sF rfl rfl rfl rfl hp5) (oSk (sF rfl rfl rfl rfl hp5) (oSk (sF rfl rfl rfl rfl hp5) (oY rfl (y_pick_tb (vB hp5) rfl) ?_))))
   exact key _ _ (keep (keep (keep (keep (keep (keep rfl rfl) rfl) rfl) rfl) rfl) (vB (or_t hp5)))
  ·refine oY (sT rfl rfl rfl rfl hp5) (yFA fo_71_0 rfl) (oY (sT rfl rfl rfl rfl hp5) (yL 1 (v:=.slice A3_0 p3.fG.length c3_0) sc_42 rfl rfl rfl) (oY (sT rfl rfl rfl rfl hp5) (y_len (us:=[]) us_42 rfl) (oY (sT rfl rfl rfl rfl hp5) (y_gtr rfl rfl) (oY rfl (y_pick_fb (vB hp5) rfl) ?_))))
   exact key _ _ (keep (keep (keep (keep (keep (keep rfl rfl) rfl) rfl) rfl) rfl) (vB (or_f hp5)))
end Go.Proofs.YthndghnkebboaaaGreat
