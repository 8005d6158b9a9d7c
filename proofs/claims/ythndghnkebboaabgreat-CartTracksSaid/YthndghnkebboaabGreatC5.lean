import Derived.Test.YthndghnkebboaabGreatF
import Derived.Test.YthndghnkebboaabGreatGr
import Derived.Test.YthndghnkebboaabGreatGD
import Derived.Test.YthndghnkebboaabGreatC3
set_option maxHeartbeats 4000000
set_option maxRecDepth 100000
set_option linter.unusedVariables false
namespace Go.Proofs.YthndghnkebboaabGreat
open Go.RowKit (Below)
attribute [local irreducible] OX QX CX EX OpY Calls CallsIn
theorem lb (p0:TY) (res:(List (Int × Int))) (h:ki p0 = some res) (W:World) (Aa:Option Addr) (n0_0 ca : Nat) (hn0_0:n0_0 = p0.fB.length) (hr0_0:Rd W Aa n0_0 ca (encL aD p0.fB)) (Ab:Option Addr) (n0_1 cb : Nat) (hn0_1:n0_1 = p0.fOrders.length) (hr0_1:Rd W Ab n0_1 cb (encL aA p0.fOrders)) :
  Calls Tryz.prog 55 [.agg #[.slice Aa n0_0 ca,.slice Ab n0_1 cb]].toArray W fun e W2 => ∃ x : Nat,e = .returned (.map (some x)) ∧ Ext W W2 [mapV Tryz.prog 3 kI em kI 0 x res]:=by
 subst hn0_0
 subst hn0_1
 unfold ki at h
 refine ad (m:=35) Tryz.func55 rfl rfl (nB rfl) (cS (cR ?_))
 refine aO [.slice Aa p0.fB.length ca,.slice Ab p0.fOrders.length cb] rfl rfl rfl (fun b1 => ?_)
 refine oY rfl (ed rfl) (oN (eT (cS (cR (oY rfl (yAS rfl) (oN (eT (cS (cS (cR (oY rfl (yFA cn rfl) (oY rfl (yL 0 go rfl rfl rfl) (oY rfl (bd (us:=[]) kN rfl) (oY rfl (yMI rfl) (oN (eT (cB ?_)))))))))))))))))
 obtain ⟨u5,hl11,h⟩:=bOs h
 refine ci 3 1 ?_
 refine bc (fun (s:(Int × (List Int))) L tm => ∃ (tm0:Nat → Value) (A1_s:Option Addr) (c1_s:Nat) (n1_s:Nat),n1_s = s.2.length ∧ L = [aj b1 57 [.slice Aa p0.fB.length ca,.slice Ab p0.fOrders.length cb],aI A1_s c1_s 3 1 n1_s (encL cI s.2)] ∧ tm = (upd (upd (upd (upd (upd tm0 1 (.pointer (some ⟨b1,0,none⟩))) 2 (.map none)) 3 (.slice A1_s n1_s c1_s)) 10 (vI (p0.fOrders.length:Int))) 11 (vI s.1))) 0 hl11 ⟨_,none,0,0,rfl,rfl,(kp4 (kp rfl))⟩ ?_ ?_
 ·rintro s4 L tm st ⟨tm0_s4,A1_s4,c1_s4,n1_s4,rfl,rfl,rfl⟩ h
  unfold kY at h
  refine cS (cR (oY rfl (bm rfl rfl) (oN (eT (cS ?_)))))
  rcases iOs h with ⟨hp6,h⟩ | ⟨hp6,h⟩
  ·refine cT (vB hp6) (cK (eT (cS (cB (cS (cR (oY rfl (yMI rfl) (oY rfl (yAI rfl) (oN (eT (cR (oY rfl (yMS rfl) (oY rfl (yMI rfl) ?_)))))))))))))
   refine aG 1 (encL cI [s4.1]) _ nF dH l5 pn (by decide) (by decide) (by kernel_rfl) (eL aJ rfl) rfl (fun b7 => ?_)
   obtain ⟨hg10,h⟩:=gOs h
   refine bn 1 dH l5 pn rfl rfl rfl (RdL.row 2 rfl) (eL aJ rfl) (bO ou _) (bW hg10 (by decide)) rfl (fun A8 c9 => ?_)
   refine oY rfl (yAS rfl) (oN (aw (eT (cR (oY rfl (aX rfl rfl) (oY rfl (yMI rfl) (oN (aQ 2 ?_))))))))
   obtain rfl:=sI h
   exact eN ⟨_,A8,c9,(s4.2.length + 1),(dT rfl rfl),rfl,(kp4 (kp rfl))⟩
  ·refine cF (vB hp6) (aH (ah ?_))
   obtain rfl:=sI h
   exact ax ⟨rfl,_,A1_s4,c1_s4,s4.2.length,rfl,rfl,(kp4 (kp rfl))⟩
 ·intro e L tm hJ
  obtain ⟨rfl,tm0_u5,A1_u5,c1_u5,n1_u5,rfl,rfl,rfl⟩:=hJ
  refine ⟨(by intro hc; cases hc),?_⟩
  refine ac (eT (cS (cR (oY rfl (yMS rfl) (oY rfl (cw [.pointer (some ⟨b1,0,none⟩)] rfl rfl) ?_)))))
  obtain ⟨y14,hy15,h⟩:=bOs h
  refine dE 1 [.slice A1_u5 u5.2.length c1_u5,.func (.func 83) #[] #[.pointer (some ⟨b1,0,none⟩)]] (fun (_:Unit) => u5.2.length = y14.length) (fun _ => .tuple #[]) (fun _ => aI A1_u5 c1_u5 3 1 u5.2.length (encL cI y14)) (fun _ => []) rfl rfl go_82 rfl (fun W2 hW2 => (fJ u5.2 (fun x12 x13 => iw x12 x13 p0) y14 hy15 W2 _ (cD [aj b1 57 [.slice Aa p0.fB.length ca,.slice Ab p0.fOrders.length cb],aI A1_u5 c1_u5 3 1 u5.2.length (encL cI u5.2)] [1]) A1_u5 u5.2.length c1_u5 rfl 83 [] [.pointer (some ⟨b1,0,none⟩)] go_83 (fun W3 hb hR x0 x1 y hxy => ny  x0 x1 p0 y hxy W3 b1 Aa p0.fB.length ca rfl ((RdL.arg hr0_0) W3 (hW2.rest hb hR)) Ab p0.fOrders.length cb rfl ((RdL.arg hr0_1) W3 (hW2.rest hb hR)) ((RdL.cells 0 rfl) W3 (hW2.rest hb hR))) hW2).mono (fun e W3 h3 => ⟨(),h3.2.1,h3.1,h3.2.2⟩)) ?_
  rintro - hn16
  try dsimp only [lsz,lss,List.append_nil]
  refine oN (eT (cS (cR ?_)))
  refine jh 3 kI em kI 0 rfl (fun b17 => ?_)
  refine oY rfl (ed rfl) (oN (eT (cS (cS (cR (oY rfl (yMS rfl) (oY rfl (bd (us:=[]) dH rfl) (oY rfl (yMI rfl) (oN (eT (cB ?_)))))))))))
  obtain ⟨u21,hl26,h⟩:=bOs h
  refine bc (fun (s:(Int × (List (Int × Int)))) L tm => ∃ (tm0:Nat → Value),L = [aj b1 57 [.slice Aa p0.fB.length ca,.slice Ab p0.fOrders.length cb],aI A1_u5 c1_u5 3 1 u5.2.length (encL cI y14),mapV Tryz.prog 3 kI em kI 0 b17 s.2] ∧ tm = (upd (upd (upd (upd (upd (upd tm0 1 (.pointer (some ⟨b1,0,none⟩))) 2 (.map none)) 5 (.map (some b17))) 23 (.slice A1_u5 u5.2.length c1_u5)) 24 (vI (u5.2.length:Int))) 25 (vI s.1))) 2 hl26 ⟨_,rfl,(kp4 (kp (kp rfl)))⟩ ?_ ?_
  ·rintro s20 L tm st ⟨tm0_s20,rfl,rfl⟩ h
   unfold lz at h
   refine cS (cR (oY rfl (bm rfl rfl) (oN (eT (cS ?_)))))
   rcases iOs h with ⟨hp22,h⟩ | ⟨hp22,h⟩
   ·refine cT (vB hp22) (cK (eT (cS (cB (cS (cR ?_))))))
    obtain ⟨hg23,h⟩:=gOs h
    refine oY rfl (yI d7 (by decide) hg23.1 hg23.2 (RdL.row 1 rfl) (eL aJ hn16) rfl rfl) ?_
    refine oY rfl (yR (A:=A1_u5) (j:=(Int.toNat s20.1 * 1)) (v:=vI (rdL y14 s20.1)) aV (RdL.row 1 rfl) rfl (a6 aJ hg23.1 (av hg23.2 hn16) rfl)) (oY rfl (yAI rfl) (oN (eT (cR (oY rfl (cG rfl) (oY rfl (yN 0 [.slice Aa p0.fB.length ca,.slice Ab p0.fOrders.length cb] dc rfl rfl rfl) (oY rfl (yMI rfl) ?_)))))))
    obtain ⟨y24,hy25,h⟩:=bOs h
    refine fF [2] [] [.map (some b17),.agg #[.slice Aa p0.fB.length ca,.slice Ab p0.fOrders.length cb],vI (rdL y14 s20.1)] [] (fun (_:Unit) => True) (fun _ => .bool y24.1) (fun _ => [mapV Tryz.prog 3 kI em kI 0 b17 y24.2]) (fun _ => []) (Foc.c1 rfl) (by decide) rfl go_85 rfl rfl (fun _ => rfl) (fun W2 hW2 => iu s20.2 p0 (rdL y14 s20.1) y24 hy25 W2 _ (cD [aj b1 57 [.slice Aa p0.fB.length ca,.slice Ab p0.fOrders.length cb],aI A1_u5 c1_u5 3 1 u5.2.length (encL cI y14),mapV Tryz.prog 3 kI em kI 0 b17 s20.2] [2]) b17 Aa p0.fB.length ca rfl (fun W3 hb hR => (RdL.arg hr0_0) W3 (hW2.restL hb hR)) Ab p0.fOrders.length cb rfl (fun W3 hb hR => (RdL.arg hr0_1) W3 (hW2.restL hb hR)) hW2) ?_
    rintro - -
    try dsimp only [kO,lsz,lss,List.append_nil]
    refine oN (aw (eT (cR (oY rfl (aX rfl rfl) (oY rfl (yMI rfl) (oN ?_))))))
    obtain rfl:=sI h
    exact eN ⟨_,rfl,(kp4 (kp (kp rfl)))⟩
   ·refine cF (vB hp22) (aH (ah ?_))
    obtain rfl:=sI h
    exact ax ⟨rfl,_,rfl,(kp4 (kp (kp rfl)))⟩
  ·intro e L tm hJ
   obtain ⟨rfl,tm0_u21,rfl,rfl⟩:=hJ
   refine ⟨(by intro hc; cases hc),?_⟩
   refine ac (eT (cS (cR (oY rfl (cG rfl) (oY rfl (ed rfl) (oN (eT (al ?_))))))))
   obtain rfl:=sI h
   exact ap (.inl rfl) rfl (rVt (v:=.map (some b17)) rfl) (fun W2 hW2 => ⟨b17,rfl,(hW2.pick 2 rfl)⟩)
theorem hZ (p0:(List (Int × Int))) (p1:TY) (res:Int) (h:eU p0 p1 = some res) (W:World) (bm0_0:Nat) (hm0_0:(mapV Tryz.prog 3 kI em kI 0 bm0_0 p0).holds W) (Ac:Option Addr) (n1_0 cc : Nat) (hn1_0:n1_0 = p1.fB.length) (hr1_0:Rd W Ac n1_0 cc (encL aD p1.fB)) (A1_1:Option Addr) (n1_1 c1_1 : Nat) (hn1_1:n1_1 = p1.fOrders.length) (hr1_1:Rd W A1_1 n1_1 c1_1 (encL aA p1.fOrders)) :
  Calls Tryz.prog 81 [.map (some bm0_0),.agg #[.slice Ac n1_0 cc,.slice A1_1 n1_1 c1_1]].toArray W fun e W2 => e = .returned (vI res) ∧ Ext W W2 []:=by
 subst hn1_0
 subst hn1_1
 unfold eU at h
 refine ad (m:=23) Tryz.func81 rfl rfl (nB rfl) (cS (cR ?_))
 refine aO [.slice Ac p1.fB.length cc,.slice A1_1 p1.fOrders.length c1_1] rfl rfl rfl (fun b1 => ?_)
 refine oY rfl (yAI rfl) (oN (eT (cS (cR (oY rfl (yAI rfl) (oN (eT (cS (cS (cR (oY rfl (cG rfl) (pY hm0_0 ke_3 pu rfl rfl (fun b2 k3 hk4 => (oN (eT ?_)))))))))))))))
 obtain ⟨hg14,h⟩:=gOs h
 refine cB (qW (fun (s12:Nat × (Int → Bool) × Int) L tm => FoldI em p0 (fun a y5 => w64 (a + ((rdL p1.fOrders (az 0 p0 y5)).fW))) 0 s12 ∧ ∃ (tm0:Nat → Value),L = [aj b1 57 [.slice Ac p1.fB.length cc,.slice A1_1 p1.fOrders.length c1_1],rngA W Tryz.prog 3 kI em kI 0 bm0_0 b2 p0 s12.2.1 s12.1 none] ∧ tm = (upd (upd (upd (upd (upd (upd tm0 0 (.map (some bm0_0))) 1 (.agg #[.slice Ac p1.fB.length cc,.slice A1_1 p1.fOrders.length c1_1])) 3 (.pointer (some ⟨b1,0,none⟩))) 4 (vI 0)) 5 (vI s12.2.2)) 9 (.pointer (some ⟨b2,0,none⟩)))) (fun s => s.1) (k3,(fun y => bl p0 y),0) ⟨FoldI.start,_,rfl,(kp4 (kp (kp rfl)))⟩ ?_)
 rintro s12 L tm ⟨hI13,tm0,rfl,rfl⟩
 refine cS (cR ?_)
 refine qF 1 ((mapV Tryz.prog 3 kI em kI 0 bm0_0 p0).inb _ hm0_0 _ rfl) rfl ke_3 rfl rfl (fun hno11 => ?_) (fun y5 k6 hy7 hly8 hM9 hk10 => ?_)
 ·refine oY rfl (yE rfl rfl) (oN (eT (cS (cF rfl (aH (ah ?_))))))
  refine rV (by intro h; cases h) ?_
  have hS16:=hI13.done (C:=(fun y5 => ((0:Int) ≤ az 0 p0 y5 ∧ az 0 p0 y5 < (p1.fOrders.length:Int)))) hg14 hno11 (fun x _ y _ z => w64_comm (fun y5 => ((rdL p1.fOrders (az 0 p0 y5)).fW)) x y z)
  rw [hS16]
  refine ac (eT (cS (cR (oY rfl (yMI rfl) (oY rfl (yAI rfl) (oN (eT (al ?_))))))))
  obtain rfl:=sI h
  exact ap (.inl rfl) rfl (rVt (v:=vI ((gw p0).foldl (fun a y5 => w64 (a + ((rdL p1.fOrders (az 0 p0 y5)).fW))) 0)) rfl) (fun W2 hW2 => ⟨rfl,hW2.none⟩)
 ·refine oY rfl (yE rfl rfl) (oN (eT (cS (cT rfl (cK (eT (cB (cS (cR (oY rfl (qM 1 ((mapV Tryz.prog 3 kI em kI 0 bm0_0 p0).inb _ hm0_0 _ rfl) rfl rfl) (oY rfl (yE rfl rfl) (oY rfl (yAI rfl) (oN (eT (cR (oY rfl (yMI rfl) (oY rfl (yFA cn rfl) (oY rfl (yL 0 go rfl rfl rfl) (oY rfl (yMI rfl) ?_)))))))))))))))))))
  refine oY rfl (yI jM (by decide) (jj (C:=(fun y5 => ((0:Int) ≤ az 0 p0 y5 ∧ az 0 p0 y5 < (p1.fOrders.length:Int)))) hg14 hM9).1 (jj (C:=(fun y5 => ((0:Int) ≤ az 0 p0 y5 ∧ az 0 p0 y5 < (p1.fOrders.length:Int)))) hg14 hM9).2 (RdL.arg hr1_1) (eL au rfl) rfl rfl) ?_
  refine oY rfl (yFR (A:=A1_1) (j:=(Int.toNat (az 0 p0 y5) * 5)) iG rfl) (oY rfl (yR (A:=A1_1) (j:=((Int.toNat (az 0 p0 y5) * 5) + 4)) (v:=vI ((rdL p1.fOrders (az 0 p0 y5)).fW)) aV (RdL.arg hr1_1) rfl (eG au (jj (C:=(fun y5 => ((0:Int) ≤ az 0 p0 y5 ∧ az 0 p0 y5 < (p1.fOrders.length:Int)))) hg14 hM9).1 (av (jj (C:=(fun y5 => ((0:Int) ≤ az 0 p0 y5 ∧ az 0 p0 y5 < (p1.fOrders.length:Int)))) hg14 hM9).2 rfl) rfl)) (oY rfl (aX rfl rfl) (oY rfl (yAI rfl) (oN (aw (m8 1 rfl ?_))))))
  exact qB (k6,(fun q => s12.2.1 q && !decide (q = y5)),w64 (s12.2.2 + ((rdL p1.fOrders (az 0 p0 y5)).fW))) ⟨hI13.step hy7 hly8 hM9,_,rfl,(kp4 (kp (kp rfl)))⟩ hk10
theorem ex (p0:TY) (res:Int) (h:fk p0 = some res) (W:World) (Aa:Option Addr) (n0_0 ca : Nat) (hn0_0:n0_0 = p0.fB.length) (hr0_0:Rd W Aa n0_0 ca (encL aD p0.fB)) (Ab:Option Addr) (n0_1 cb : Nat) (hn0_1:n0_1 = p0.fOrders.length) (hr0_1:Rd W Ab n0_1 cb (encL aA p0.fOrders)) :
  Calls Tryz.prog 56 [.agg #[.slice Aa n0_0 ca,.slice Ab n0_1 cb]].toArray W fun e W2 => e = .returned (vI res) ∧ Ext W W2 []:=by
 subst hn0_0
 subst hn0_1
 unfold fk at h
 refine ad (m:=10) Tryz.func56 rfl rfl (nB rfl) (cS (cR ?_))
 refine aO [.slice Aa p0.fB.length ca,.slice Ab p0.fOrders.length cb] rfl rfl rfl (fun b1 => ?_)
 refine oY rfl (yAI rfl) (oN (eT (cS (cR (oY rfl (yN 0 [.slice Aa p0.fB.length ca,.slice Ab p0.fOrders.length cb] dc rfl rfl rfl) ?_)))))
 obtain ⟨y2,hy3,h⟩:=bOs h
 refine lv [.agg #[.slice Aa p0.fB.length ca,.slice Ab p0.fOrders.length cb]] _ _ rfl go_55 rfl (fun W2 hW2 => lb p0 y2 hy3 W2 Aa p0.fB.length ca rfl ((RdL.arg hr0_0) W2 hW2) Ab p0.fOrders.length cb rfl ((RdL.arg hr0_1) W2 hW2)) ?_
 rintro b4
 refine oY rfl (qu [.map (some b4)] [] rfl rfl) (oY rfl (eo rfl) (oN (eT (cS (cR (oY rfl (c3 rfl) (oY rfl (yN 0 [.slice Aa p0.fB.length ca,.slice Ab p0.fOrders.length cb] dc rfl rfl rfl) ?_)))))))
 obtain ⟨y5,hy6,h⟩:=bOs h
 refine oY rfl (ge (fst:=[.map (some b4)]) (caps:=[]) [.agg #[.slice Aa p0.fB.length ca,.slice Ab p0.fOrders.length cb]] go_81 rfl rfl (fun W2 hW2 => hZ y2 p0 y5 hy6 W2 b4 ((MpL.own 1 rfl) W2 hW2) Aa p0.fB.length ca rfl ((RdL.arg hr0_0) W2 hW2) Ab p0.fOrders.length cb rfl ((RdL.arg hr0_1) W2 hW2))) (oY rfl (yAI rfl) (oN (eT (al ?_))))
 obtain rfl:=sI h
 exact ap (.inl rfl) rfl (rVt (v:=vI y5) rfl) (fun W2 hW2 => ⟨rfl,hW2.none⟩)
theorem iL (p0:(List TBay)) (p1:Int) (p2:Int) (res:(List TBay)) (h:dX p0 p1 p2 = some res) (W:World) (w0:World) (R:Res) (Aa:Option Addr) (n0_0 ca : Nat) (hn0_0:n0_0 = p0.length) (hW:Ext w0 W [R,aI Aa ca 94 3 n0_0 (encL aD p0)]) :
  Calls Tryz.prog 95 [.slice Aa n0_0 ca,vI p1,vI p2].toArray W fun e W2 => ∃ k : Nat,k = res.length ∧ e = .returned (.slice Aa k ca) ∧ Ext w0 W2 [R,aI Aa ca 94 3 k (encL aD res)]:=by
 subst hn0_0
 unfold dX at h
 refine aM (m:=33) Tryz.func95 rfl rfl (nB rfl) hW (cS (cR (oY rfl (yAS rfl) (oN (eT (cS (cR (oY rfl (yMS rfl) (oY rfl (yMI rfl) (oY rfl (yMI rfl) (oY rfl (yMS rfl) (oY rfl (bd (us:=[]) jr rfl) ?_))))))))))))
 obtain ⟨hg1,h⟩:=gOs h
 refine oY rfl (y_cut3 lN hg1.1 hg1.2.1 hg1.2.2.1 hg1.2.2.2 (RdL.row 1 rfl) rfl rfl rfl rfl) (oN (eT (cS (cS (cR (oY rfl (yMI rfl) (oY rfl (yMI rfl) (oY rfl (dA rfl rfl) (oN (eT ?_))))))))))
 rcases iOs h with ⟨hp2,h⟩ | ⟨hp2,h⟩
 ·refine cT (vB hp2) (cS (cR (oY rfl (yMS rfl) (oY rfl (yAS rfl) (oN (eT (al (aa ?_))))))))
  obtain rfl:=sI h
  exact ap (.inl rfl) rfl (rVt (v:=.slice Aa p0.length ca) rfl) (fun W2 hW2 => ⟨p0.length,rfl,rfl,hW2.take 2⟩)
 ·refine cF (vB hp2) (cK (eT (cS (cR (oY rfl (yMS rfl) (oY rfl (bd (us:=[]) jr rfl) (oY rfl (yAI rfl) (oN (eT (cS ?_))))))))))
  refine ba 6 cm (by kernel_rfl) (by kernel_rfl) ?_
  refine qY rfl (yMS rfl) (qY rfl (yMI rfl) ?_)
  obtain ⟨hg3,h⟩:=gOs h
  refine qY rfl (sE lN hg3.1 hg3.2 (RdL.row 1 rfl) rfl rfl) (qY rfl (yMS rfl) (qY rfl (yMI rfl) ?_))
  obtain ⟨hg4,h⟩:=gOs h
  refine qY rfl (rI lN hg4.1 hg4.2 (RdL.row 1 rfl) rfl rfl) (bX ?_)
  obtain ⟨hg5,h⟩:=gOs h
  refine mj 1 aK ky jr nL by_94 rfl rfl hg3.1 hg5 hg4.2 rfl rfl rfl (oY rfl (yAS rfl) (oN (eT (cS (cR (oY rfl (yMS rfl) (oY rfl (yMS rfl) (oY rfl (bd (us:=[]) jr rfl) (oY rfl (yMI rfl) ?_)))))))))
  refine oY rfl (y_cutO lN (by omega) (by have h8:=(lh hg3.1 hg5 hg4.2); omega) (by have h9:=(dt (hW.mem (i:=1) rfl)).cap; omega) rfl rfl rfl) ?_
  refine bT rfl (qP 1 jr nL rfl (by decide) rfl rfl (by have h8:=(lh hg3.1 hg5 hg4.2); have h9:=(dt (hW.mem (i:=1) rfl)).cap; simp only [Int.toNat_natCast]; omega) rfl) ?_
  refine oN (eT (cS (cR (oY rfl (yMS rfl) (oY rfl (yAS rfl) (oN (eT (al ?_))))))))
  obtain rfl:=sI h
  exact ap (.inl rfl) rfl (rVt (v:=.slice Aa (Int.toNat p1 + (p0.length - Int.toNat p2)) ca) rfl) (fun W2 hW2 => ⟨(Int.toNat p1 + (p0.length - Int.toNat p2)),(ow hg3.1 hg5 hg4.2 rfl),rfl,hW2.take 2⟩)
theorem i9 (p0:(List TBay)) (res:(List TBay)) (h:eD p0 = some res) (W:World) (Aa:Option Addr) (n0_0 ca : Nat) (hn0_0:n0_0 = p0.length) (hr0_0:Rd W Aa n0_0 ca (encL aD p0)) :
  Calls Tryz.prog 96 [.slice Aa n0_0 ca].toArray W fun e W2 => ∃ x : Option Addr × Nat × Nat,x.2.1 = res.length ∧ e = .returned (.slice x.1 x.2.1 x.2.2) ∧ Ext W W2 [aI x.1 x.2.2 94 3 x.2.1 (encL aD res)]:=by
 subst hn0_0
 unfold eD at h
 refine ad (m:=8) Tryz.func96 rfl rfl (nB rfl) (cS (cR (oY rfl (yAS rfl) (oN (eT (cS (cS (cR (oY rfl (yMS rfl) (oY rfl (nb jr rfl rfl) (oN (eT ?_))))))))))))
 rcases aq (Option.isNone Aa) with hp1 | hp1
 ·refine cT (vB hp1) ?_
  have z6:=ng (Option.isNone_iff_eq_none.1 hp1 ▸ hr0_0) aK (by decide)
  replace h:=(gOs h).2
  rw [z6] at h
  refine cS (cR (oY rfl (yAS rfl) (oN (eT (al (aa ?_))))))
  obtain rfl:=sI h
  exact ap (.inl rfl) rfl (rVt (v:=.slice none 0 0) rfl) (fun W2 hW2 => ⟨(none,0,0),rfl,rfl,((hW2.nilrow 94 3).pick 0 rfl)⟩)
 ·refine cF (vB hp1) (cK (eT (cS (cR ?_))))
  refine dL aD jr nL by_94 rfl (fun b2 => ?_)
  refine oY rfl (yMS rfl) ?_
  obtain ⟨hg5,h⟩:=gOs h
  refine bn 0 jr nL by_94 rfl rfl rfl (RdL.arg hr0_0) (eL aK rfl) (bO ky _) (bW hg5 (by decide)) rfl (fun A3 c4 => ?_)
  refine oY rfl (yAS rfl) (oN (eT (al ?_)))
  obtain rfl:=sI h
  exact ap (.inl rfl) rfl (rVt (v:=.slice A3 (0 + p0.length) c4) rfl) (fun W2 hW2 => ⟨(A3,(0 + p0.length),c4),(dT rfl rfl),rfl,(hW2.pick 0 rfl)⟩)
theorem jO (p0:TY) (p1:Int) (res:TY) (h:iz p0 p1 = some res) (W:World) (Aa:Option Addr) (n0_0 ca : Nat) (hn0_0:n0_0 = p0.fB.length) (hr0_0:Rd W Aa n0_0 ca (encL aD p0.fB)) (Ab:Option Addr) (n0_1 cb : Nat) (hn0_1:n0_1 = p0.fOrders.length) (hr0_1:Rd W Ab n0_1 cb (encL aA p0.fOrders)) :
  Calls Tryz.prog 65 [.agg #[.slice Aa n0_0 ca,.slice Ab n0_1 cb],vI p1].toArray W fun e W2 => ∃ x : (Option Addr × Nat × Nat),x.2.1 = res.fB.length ∧ e = .returned (.agg #[.slice x.1 x.2.1 x.2.2,.slice Ab n0_1 cb]) ∧ Ext W W2 [aI x.1 x.2.2 94 3 x.2.1 (encL aD res.fB)]:=by
 subst hn0_0
 subst hn0_1
 unfold iz at h
 refine ad (m:=15) Tryz.func65 rfl rfl (nB rfl) (cS (cR ?_))
 refine aO [.slice Aa p0.fB.length ca,.slice Ab p0.fOrders.length cb] rfl rfl rfl (fun b1 => ?_)
 refine aB qo rfl (fun b2 => ?_)
 refine oN (eT (cS ?_))
 obtain ⟨y4,hy5,h⟩:=bOs h
 obtain ⟨y10,hy11,h⟩:=bOs h
 refine dJ [[],[0],[0,1],[],[],[4],[0,1,2,3,4,5],[],[7],[0,1,2,3,4,5,6,7,8],[0,1,2,3,4,5,6,7,8,9]] [(none,0,[true,true]),(none,0,[true,true]),(none,1,[true,true]),(none,0,[true,true,false]),(none,0,[true,true,false]),(none,0,[true,true,false]),(some 2,0,[true,true,true]),(none,0,[true,true,false]),(none,0,[true,true,false]),(none,0,[true,true,true]),(some 1,0,[true,true,true])] [⟨fun _ => .pointer (some ⟨b1,0 + 0,none⟩),fun _ => noR,fun _ => []⟩,⟨fun _ => .slice Aa p0.fB.length ca,fun _ => noR,fun _ => []⟩,⟨fun ξ3 => .slice (ξ3 2 0).1 y4.length (ξ3 2 0).2.2.1,fun _ => noR,fun ξ3 => [aI (ξ3 2 0).1 (ξ3 2 0).2.2.1 94 3 y4.length (encL aD y4)]⟩,⟨fun _ => vI p1,fun _ => noR,fun _ => []⟩,⟨fun _ => vI p1,fun _ => noR,fun _ => []⟩,⟨fun _ => vI (w64 (p1 + 1)),fun _ => noR,fun _ => []⟩,⟨fun ξ3 => .slice (ξ3 2 0).1 y10.length (ξ3 2 0).2.2.1,fun ξ3 => aI (ξ3 2 0).1 (ξ3 2 0).2.2.1 94 3 y10.length (encL aD y10),fun _ => []⟩,⟨fun _ => .pointer (some ⟨b1,0 + 1,none⟩),fun _ => noR,fun _ => []⟩,⟨fun _ => .slice Ab p0.fOrders.length cb,fun _ => noR,fun _ => []⟩,⟨fun ξ3 => .agg #[.slice (ξ3 2 0).1 y10.length (ξ3 2 0).2.2.1,.slice Ab p0.fOrders.length cb],fun _ => noR,fun _ => []⟩,⟨fun _ => undef,fun ξ3 => aj b2 57 [.slice (ξ3 2 0).1 y10.length (ξ3 2 0).2.2.1,.slice Ab p0.fOrders.length cb],fun _ => []⟩] 2 cm (by kernel_rfl) (by kernel_rfl) ⟨⟨fun ξ3 ξ3' h => ⟨rfl,rfl,rfl⟩,fun _ => rfl⟩,⟨fun ξ3 ξ3' h => ⟨rfl,rfl,rfl⟩,fun _ => rfl⟩,⟨fun ξ3 ξ3' h => ⟨by simp only [h 2 (.inl rfl)],rfl,by simp only [h 2 (.inl rfl)]⟩,fun _ => rfl⟩,⟨fun ξ3 ξ3' h => ⟨rfl,rfl,rfl⟩,fun _ => rfl⟩,⟨fun ξ3 ξ3' h => ⟨rfl,rfl,rfl⟩,fun _ => rfl⟩,⟨fun ξ3 ξ3' h => ⟨rfl,rfl,rfl⟩,fun _ => rfl⟩,⟨fun ξ3 ξ3' h => ⟨by simp only [h 2 (.inr rfl)],by simp only [h 2 (.inr rfl)],rfl⟩,fun _ => rfl⟩,⟨fun ξ3 ξ3' h => ⟨rfl,rfl,rfl⟩,fun _ => rfl⟩,⟨fun ξ3 ξ3' h => ⟨rfl,rfl,rfl⟩,fun _ => rfl⟩,⟨fun ξ3 ξ3' h => ⟨by simp only [h 2 (.inr rfl)],rfl,rfl⟩,fun _ => rfl⟩,⟨fun ξ3 ξ3' h => ⟨rfl,by simp only [h 2 (.inr rfl)],rfl⟩,fun _ => rfl⟩,trivial⟩ rfl (fun ξ3 => ?_)
 refine bJ rfl (fun L2 => ?_) ?_
 ·dsimp only [aC,lca,lna]
  refine oY rfl (yFA eh rfl) (oN ?_)
  exact ar (fun _ => (none,0,0,[],noR)) rfl (List.append_nil _)
 dsimp only [bw,lsz,lss,lna,lca,List.append_nil]
 refine bJ rfl (fun L2 => ?_) ?_
 ·dsimp only [aC,lca,lna]
  refine oY rfl (yL 0 jP rfl rfl rfl) (oN ?_)
  exact ar (fun _ => (none,0,0,[],noR)) rfl (List.append_nil _)
 dsimp only [bw,lsz,lss,lna,lca,List.append_nil]
 refine bJ rfl (fun L2 => ?_) ?_
 ·dsimp only [aC,lca,lna]
  refine oC [.slice Aa p0.fB.length ca] _ _ _ rfl go_96 rfl (fun W2 hW2 => i9 p0.fB y4 hy5 W2 Aa p0.fB.length ca rfl ((RdL.arg hr0_0) W2 hW2)) ?_
  rintro ⟨A6,n8,c7⟩ hn9
  replace hn9 : n8 = y4.length:=hn9; subst hn9
  refine oN ?_
  exact ar (fun _ => (A6,0,c7,[],noR)) rfl rfl
 dsimp only [bw,lsz,lss,lna,lca,List.append_nil]
 refine bJ rfl (fun L2 => ?_) ?_
 ·dsimp only [aC,lca,lna]
  refine oY rfl (yMI rfl) (oN ?_)
  exact ar (fun _ => (none,0,0,[],noR)) rfl (List.append_nil _)
 dsimp only [bw,lsz,lss,lna,lca,List.append_nil]
 refine bJ rfl (fun L2 => ?_) ?_
 ·dsimp only [aC,lca,lna]
  refine oY rfl (yMI rfl) (oN ?_)
  exact ar (fun _ => (none,0,0,[],noR)) rfl (List.append_nil _)
 dsimp only [bw,lsz,lss,lna,lca,List.append_nil]
 refine bJ rfl (fun L2 => ?_) ?_
 ·dsimp only [aC,lca,lna]
  refine oY rfl (aX rfl rfl) (oN ?_)
  exact ar (fun _ => (none,0,0,[],noR)) rfl (List.append_nil _)
 dsimp only [bw,lsz,lss,lna,lca,List.append_nil]
 refine bJ rfl (fun L2 => ?_) ?_
 ·dsimp only [aC,lca,lna]
  refine dE 2 [.slice (ξ3 2 0).1 y4.length (ξ3 2 0).2.2.1,vI p1,vI (w64 (p1 + 1))] (fun k : Nat => k = y10.length) (fun k => .slice (ξ3 2 0).1 k (ξ3 2 0).2.2.1) (fun k => aI (ξ3 2 0).1 (ξ3 2 0).2.2.1 94 3 k (encL aD y10)) (fun _ => []) rfl rfl go_95 rfl (fun W2 hW2 => (iL y4 p1 (w64 (p1 + 1)) y10 hy11 W2 _ _ (ξ3 2 0).1 y4.length (ξ3 2 0).2.2.1 rfl hW2).mono (fun e W3 h3 => h3)) ?_
  rintro k12 hn13
  subst hn13
  try dsimp only [lsz,lss,List.append_nil]
  refine oN ?_
  first | exact ar (fun _ => (none,0,0,[],noR)) rfl rfl | exact ar (fun _ => (none,0,0,[],noR)) rfl (List.append_nil _)
 dsimp only [bw,lsz,lss,lna,lca,List.append_nil]
 refine bJ rfl (fun L2 => ?_) ?_
 ·dsimp only [aC,lca,lna]
  refine oY rfl (yFA cn rfl) (oN ?_)
  exact ar (fun _ => (none,0,0,[],noR)) rfl (List.append_nil _)
 dsimp only [bw,lsz,lss,lna,lca,List.append_nil]
 refine bJ rfl (fun L2 => ?_) ?_
 ·dsimp only [aC,lca,lna]
  refine oY rfl (yL 0 go rfl rfl rfl) (oN ?_)
  exact ar (fun _ => (none,0,0,[],noR)) rfl (List.append_nil _)
 dsimp only [bw,lsz,lss,lna,lca,List.append_nil]
 refine bJ rfl (fun L2 => ?_) ?_
 ·dsimp only [aC,lca,lna]
  refine oY rfl (aL [.slice (ξ3 2 0).1 y10.length (ξ3 2 0).2.2.1,.slice Ab p0.fOrders.length cb] [(0,1),(1,1)] sO qo (by kernel_rfl)) ?_
  refine oN ?_
  exact ar (fun _ => (none,0,0,[],noR)) rfl (List.append_nil _)
 dsimp only [bw,lsz,lss,lna,lca,List.append_nil]
 refine qI rfl (fun L2 => ?_) ?_
 ·dsimp only [aC,lca,lna]
  refine bT rfl (yS 1 [.slice (ξ3 2 0).1 y10.length (ξ3 2 0).2.2.1,.slice Ab p0.fOrders.length cb] sz_57 rfl (nB rfl) rfl rfl rfl) (oN ?_)
  first | exact bA (fun _ => (none,0,0,[],noR)) rfl | exact bA (fun _ => (none,0,0,[],noR)) (List.append_nil _)
 dsimp only [bw,lsz,lss,lna,lca,List.append_nil]
 refine jm (eT (al ?_))
 obtain rfl:=sI h
 exact ap (.inl rfl) rfl (bf 1 [.slice (ξ3 2 0).1 y10.length (ξ3 2 0).2.2.1,.slice Ab p0.fOrders.length cb] dc rfl rfl rfl) (fun W2 hW2 => ⟨((ξ3 2 0).1,y10.length,(ξ3 2 0).2.2.1),rfl,rfl,hW2.pickL [2] (by decide) rfl⟩)
theorem pt (p0:TY) (p1:(List (Int × Int))) (res:TPlan) (h:ns p0 p1 = some res) (W:World) (Aa:Option Addr) (n0_0 ca : Nat) (hn0_0:n0_0 = p0.fB.length) (hr0_0:Rd W Aa n0_0 ca (encL aD p0.fB)) (Ab:Option Addr) (n0_1 cb : Nat) (hn0_1:n0_1 = p0.fOrders.length) (hr0_1:Rd W Ab n0_1 cb (encL aA p0.fOrders)) (bm1_0:Nat) (hm1_0:(mapV Tryz.prog 3 kI em kI 0 bm1_0 p1).holds W) :
  Calls Tryz.prog 54 [.agg #[.slice Aa n0_0 ca,.slice Ab n0_1 cb],.map (some bm1_0)].toArray W fun e W2 => ∃ x : ((Option Addr × Nat × Nat) × (Option Addr × Nat × Nat)),(x.1.2.1 = res.fG.length ∧ x.2.2.1 = res.fP.length) ∧ e = .returned (.agg #[.slice x.1.1 x.1.2.1 x.1.2.2,vI res.fW,.slice x.2.1 x.2.2.1 x.2.2.2]) ∧ Ext W W2 [aI x.1.1 x.1.2.2 3 1 x.1.2.1 (encL cI res.fG),aI x.2.1 x.2.2.2 3 1 x.2.2.1 (encL cI res.fP)]:=by
 subst hn0_0
 subst hn0_1
 unfold ns at h
 refine ad (m:=54) Tryz.func54 rfl rfl (nB rfl) (cS (cR ?_))
 refine aO [.slice Aa p0.fB.length ca,.slice Ab p0.fOrders.length cb] rfl rfl rfl (fun b1 => ?_)
 refine aB rl rfl (fun b2 => ?_)
 refine oN (eT (cS ?_))
 obtain ⟨hg5,h⟩:=gOs h
 obtain ⟨y6,hy7,h⟩:=bOs h
 refine dJ [[],[0],[0,1],[0,1,2],[],[],[4,5],[0,1,2,3,4,5,6],[],[0,1,2,3,4,5,6,7,8]] [(none,0,[true,true]),(none,0,[true,true]),(none,0,[true,true]),(none,1,[true,true]),(none,0,[true,true,false]),(none,0,[true,true,false]),(none,0,[true,true,false]),(none,0,[true,true,true]),(none,1,[true,true,false]),(some 3,0,[true,true,true,true])] [⟨fun _ => .pointer (some ⟨b1,0 + 1,none⟩),fun _ => noR,fun _ => []⟩,⟨fun _ => .slice Ab p0.fOrders.length cb,fun _ => noR,fun _ => []⟩,⟨fun _ => vI (p0.fOrders.length:Int),fun _ => noR,fun _ => []⟩,⟨fun ξ3 => .slice (some ⟨(ξ3 3 0).2.1,0,none⟩) (Int.toNat (p0.fOrders.length:Int)) (Int.toNat (p0.fOrders.length:Int)),fun _ => noR,fun ξ3 => [aI (some ⟨(ξ3 3 0).2.1,0,none⟩) (Int.toNat (p0.fOrders.length:Int)) 3 1 (Int.toNat (p0.fOrders.length:Int)) (encL cI (List.replicate (Int.toNat (p0.fOrders.length:Int)) 0))]⟩,⟨fun _ => .map (some bm1_0),fun _ => noR,fun _ => []⟩,⟨fun _ => .agg #[.slice Aa p0.fB.length ca,.slice Ab p0.fOrders.length cb],fun _ => noR,fun _ => []⟩,⟨fun _ => vI y6,fun _ => noR,fun _ => []⟩,⟨fun ξ3 => .agg #[.slice (some ⟨(ξ3 3 0).2.1,0,none⟩) (Int.toNat (p0.fOrders.length:Int)) (Int.toNat (p0.fOrders.length:Int)),vI y6,.slice none 0 0],fun _ => noR,fun _ => []⟩,⟨fun ξ3 => .pointer (some ⟨(ξ3 8 0).2.1,0,none⟩),fun _ => noR,fun ξ3 => [aj (ξ3 8 0).2.1 70 [.slice none 0 0,vI 0,.slice none 0 0]]⟩,⟨fun _ => undef,fun ξ3 => aj (ξ3 8 0).2.1 70 [.slice (some ⟨(ξ3 3 0).2.1,0,none⟩) (Int.toNat (p0.fOrders.length:Int)) (Int.toNat (p0.fOrders.length:Int)),vI y6,.slice none 0 0],fun _ => []⟩] 2 cm (by kernel_rfl) (by kernel_rfl) ⟨⟨fun ξ3 ξ3' h => ⟨rfl,rfl,rfl⟩,fun _ => rfl⟩,⟨fun ξ3 ξ3' h => ⟨rfl,rfl,rfl⟩,fun _ => rfl⟩,⟨fun ξ3 ξ3' h => ⟨rfl,rfl,rfl⟩,fun _ => rfl⟩,⟨fun ξ3 ξ3' h => ⟨by simp only [h 3 (.inl rfl)],rfl,by simp only [h 3 (.inl rfl)]⟩,fun _ => rfl⟩,⟨fun ξ3 ξ3' h => ⟨rfl,rfl,rfl⟩,fun _ => rfl⟩,⟨fun ξ3 ξ3' h => ⟨rfl,rfl,rfl⟩,fun _ => rfl⟩,⟨fun ξ3 ξ3' h => ⟨rfl,rfl,rfl⟩,fun _ => rfl⟩,⟨fun ξ3 ξ3' h => ⟨by simp only [h 3 (.inr rfl)],rfl,rfl⟩,fun _ => rfl⟩,⟨fun ξ3 ξ3' h => ⟨by simp only [h 8 (.inl rfl)],rfl,by simp only [h 8 (.inl rfl)]⟩,fun _ => rfl⟩,⟨fun ξ3 ξ3' h => ⟨rfl,by simp only [h 3 (.inr rfl),h 8 (.inr rfl)],rfl⟩,fun _ => rfl⟩,trivial⟩ rfl (fun ξ3 => ?_)
 refine bJ rfl (fun L2 => ?_) ?_
 ·dsimp only [aC,lca,lna]
  refine oY rfl (yFA cn rfl) (oN ?_)
  exact ar (fun _ => (none,0,0,[],noR)) rfl (List.append_nil _)
 dsimp only [bw,lsz,lss,lna,lca,List.append_nil]
 refine bJ rfl (fun L2 => ?_) ?_
 ·dsimp only [aC,lca,lna]
  refine oY rfl (yL 0 go rfl rfl rfl) (oN ?_)
  exact ar (fun _ => (none,0,0,[],noR)) rfl (List.append_nil _)
 dsimp only [bw,lsz,lss,lna,lca,List.append_nil]
 refine bJ rfl (fun L2 => ?_) ?_
 ·dsimp only [aC,lca,lna]
  refine oY rfl (bd (us:=[]) kN rfl) (oN ?_)
  exact ar (fun _ => (none,0,0,[],noR)) rfl (List.append_nil _)
 dsimp only [bw,lsz,lss,lna,lca,List.append_nil]
 refine bJ rfl (fun L2 => ?_) ?_
 ·dsimp only [aC,lca,lna]
  refine ox_make (encL cI (List.replicate (Int.toNat (p0.fOrders.length:Int)) 0)) dH l5 pn hg5.1 hg5.2 rfl (made_enc _ _ _ rfl rfl) rfl (fun b4 => ?_)
  refine oN ?_
  exact ar (fun _ => (none,b4,0,[],noR)) rfl rfl
 dsimp only [bw,lsz,lss,lna,lca,List.append_nil]
 refine bJ rfl (fun L2 => ?_) ?_
 ·dsimp only [aC,lca,lna]
  refine oY rfl (cG rfl) (oN ?_)
  exact ar (fun _ => (none,0,0,[],noR)) rfl (List.append_nil _)
 dsimp only [bw,lsz,lss,lna,lca,List.append_nil]
 refine bJ rfl (fun L2 => ?_) ?_
 ·dsimp only [aC,lca,lna]
  refine oY rfl (yN 0 [.slice Aa p0.fB.length ca,.slice Ab p0.fOrders.length cb] dc rfl rfl rfl) (oN ?_)
  exact ar (fun _ => (none,0,0,[],noR)) rfl (List.append_nil _)
 dsimp only [bw,lsz,lss,lna,lca,List.append_nil]
 refine bJ rfl (fun L2 => ?_) ?_
 ·dsimp only [aC,lca,lna]
  refine oY rfl (yC [.map (some bm1_0),.agg #[.slice Aa p0.fB.length ca,.slice Ab p0.fOrders.length cb]] go_81 rfl (fun W2 hW2 => hZ p1 p0 y6 hy7 W2 bm1_0 ((MpL.arg hm1_0) W2 hW2) Aa p0.fB.length ca rfl ((RdL.arg hr0_0) W2 hW2) Ab p0.fOrders.length cb rfl ((RdL.arg hr0_1) W2 hW2)) rfl) (oN ?_)
  exact ar (fun _ => (none,0,0,[],noR)) rfl (List.append_nil _)
 dsimp only [bw,lsz,lss,lna,lca,List.append_nil]
 refine bJ rfl (fun L2 => ?_) ?_
 ·dsimp only [aC,lca,lna]
  refine oY rfl (aL [.slice (some ⟨(ξ3 3 0).2.1,0,none⟩) (Int.toNat (p0.fOrders.length:Int)) (Int.toNat (p0.fOrders.length:Int)),vI y6,.slice none 0 0] [(0,1),(1,1),(2,1)] ust_70 rl (by kernel_rfl)) ?_
  refine oN ?_
  exact ar (fun _ => (none,0,0,[],noR)) rfl (List.append_nil _)
 dsimp only [bw,lsz,lss,lna,lca,List.append_nil]
 refine bJ rfl (fun L2 => ?_) ?_
 ·dsimp only [aC,lca,lna]
  refine aB rl rfl (fun b8 => ?_)
  refine oN ?_
  exact ar (fun _ => (none,b8,0,[],noR)) rfl rfl
 dsimp only [bw,lsz,lss,lna,lca,List.append_nil]
 refine qI rfl (fun L2 => ?_) ?_
 ·dsimp only [aC,lca,lna]
  refine bT rfl (yS 3 [.slice (some ⟨(ξ3 3 0).2.1,0,none⟩) (Int.toNat (p0.fOrders.length:Int)) (Int.toNat (p0.fOrders.length:Int)),vI y6,.slice none 0 0] rH rfl (nB rfl) rfl rfl rfl) (oN ?_)
  first | exact bA (fun _ => (none,0,0,[],noR)) rfl | exact bA (fun _ => (none,0,0,[],noR)) (List.append_nil _)
 dsimp only [bw,lsz,lss,lna,lca,List.append_nil]
 refine jm (eT (cS (cS (cR (oY rfl (cG rfl) (pY hm1_0 ke_3 pu rfl rfl (fun b9 k10 hk11 => (oN (eT ?_)))))))))
 obtain ⟨hg21,h⟩:=gOs h
 obtain ⟨hd24,h⟩:=gOs h
 refine cB (qW (fun (s19:Nat × (Int → Bool) × (List Int)) L tm => FoldI em p1 (fun a y12 => a.set (Int.toNat (az 0 p1 y12)) ((rdL p0.fB y12).fID)) (List.replicate (Int.toNat (p0.fOrders.length:Int)) 0) s19 ∧ Int.toNat (p0.fOrders.length:Int) = s19.2.2.length ∧ ∃ (tm0:Nat → Value),L = [aj b1 57 [.slice Aa p0.fB.length ca,.slice Ab p0.fOrders.length cb],aj b2 70 [.slice none 0 0,vI 0,.slice none 0 0],aI (some ⟨(ξ3 3 0).2.1,0,none⟩) (Int.toNat (p0.fOrders.length:Int)) 3 1 (Int.toNat (p0.fOrders.length:Int)) (encL cI s19.2.2),aj (ξ3 8 0).2.1 70 [.slice (some ⟨(ξ3 3 0).2.1,0,none⟩) (Int.toNat (p0.fOrders.length:Int)) (Int.toNat (p0.fOrders.length:Int)),vI y6,.slice none 0 0],rngA W Tryz.prog 3 kI em kI 0 bm1_0 b9 p1 s19.2.1 s19.1 none] ∧ tm = (upd (upd (upd (upd (upd (upd tm0 0 (.agg #[.slice Aa p0.fB.length ca,.slice Ab p0.fOrders.length cb])) 1 (.map (some bm1_0))) 2 (.pointer (some ⟨b1,0,none⟩))) 4 (.pointer (some ⟨b2,0,none⟩))) 5 (.pointer (some ⟨(ξ3 8 0).2.1,0,none⟩))) 18 (.pointer (some ⟨b9,0,none⟩)))) (fun s => s.1) (k10,(fun y => bl p1 y),(List.replicate (Int.toNat (p0.fOrders.length:Int)) 0)) ⟨FoldI.start,(List.length_replicate).symm,_,rfl,(kp4 (kp (kp rfl)))⟩ ?_)
 rintro s19 L tm ⟨hI20,hn22,tm0,rfl,rfl⟩
 refine cS (cR ?_)
 refine qF 4 ((mapV Tryz.prog 3 kI em kI 0 bm1_0 p1).inb _ hm1_0 _ rfl) rfl ke_3 rfl rfl (fun hno18 => ?_) (fun y12 k13 hy14 hly15 hM16 hk17 => ?_)
 ·refine oY rfl (yE rfl rfl) (oN (eT (cS (cF rfl (aH (ah ?_))))))
  refine rV (by intro h; cases h) ?_
  have hS23:=hI20.done (C:=(fun y12 => ((0:Int) ≤ y12 ∧ y12 < (p0.fB.length:Int)) ∧ ((0:Int) ≤ az 0 p1 y12 ∧ az 0 p1 y12 < ((Int.toNat (p0.fOrders.length:Int) : Nat) : Int)))) hg21 hno18 (sq hd24)
  rw [hS23]
  refine ac (eT (cS (cS (cR (oY rfl (yFA eh rfl) (oY rfl (yL 0 jP rfl rfl rfl) (oY rfl (bd (us:=[]) jr rfl) (oY rfl (yMI rfl) (oN (eT (cB ?_)))))))))))
  obtain ⟨u28,hl47,h⟩:=bOs h
  refine ci 3 1 (ci 3 1 (ci 3 1 ?_))
  refine bc (fun (s:(Int × (List Int))) L tm => ∃ (tm0:Nat → Value) (A7_s:Option Addr) (c7_s:Nat) (n7_s:Nat),n7_s = s.2.length ∧ L = [aj b1 57 [.slice Aa p0.fB.length ca,.slice Ab p0.fOrders.length cb],aj b2 70 [.slice none 0 0,vI 0,.slice none 0 0],aI (some ⟨(ξ3 3 0).2.1,0,none⟩) (Int.toNat (p0.fOrders.length:Int)) 3 1 (Int.toNat (p0.fOrders.length:Int)) (encL cI ((gw p1).foldl (fun a y12 => a.set (Int.toNat (az 0 p1 y12)) ((rdL p0.fB y12).fID)) (List.replicate (Int.toNat (p0.fOrders.length:Int)) 0))),aj (ξ3 8 0).2.1 70 [.slice (some ⟨(ξ3 3 0).2.1,0,none⟩) (Int.toNat (p0.fOrders.length:Int)) (Int.toNat (p0.fOrders.length:Int)),vI y6,.slice A7_s n7_s c7_s],rngA W Tryz.prog 3 kI em kI 0 bm1_0 b9 p1 s19.2.1 s19.1 none,aI none 0 3 1 0 (encL cI ([]:List Int)),aI none 0 3 1 0 (encL cI ([]:List Int)),aI A7_s c7_s 3 1 n7_s (encL cI s.2)] ∧ tm = (upd (upd (upd (upd (upd tm0 2 (.pointer (some ⟨b1,0,none⟩))) 4 (.pointer (some ⟨b2,0,none⟩))) 5 (.pointer (some ⟨(ξ3 8 0).2.1,0,none⟩))) 36 (vI (p0.fB.length:Int))) 37 (vI s.1))) 2 hl47 ⟨_,none,0,0,rfl,rfl,(kp4 (kp rfl))⟩ ?_ ?_
  ·rintro s27 L tm st ⟨tm0_s27,A7_s27,c7_s27,n7_s27,rfl,rfl,rfl⟩ h
   unfold md at h
   refine cS (cR ?_)
   try dsimp only [lna,lca,lsz,lss]
   refine oY rfl (bm rfl rfl) (oN (eT (cS ?_)))
   rcases iOs h with ⟨hp29,h⟩ | ⟨hp29,h⟩
   ·refine cT (vB hp29) (cK (eT (cS (cB (cS (cR (oY rfl (yMI rfl) (oY rfl (yAI rfl) (oN (eT ?_))))))))))
    obtain ⟨y31,hy32,h⟩:=bOs h
    obtain ⟨y41,hy42,h⟩:=bOs h
    obtain ⟨hg46,h⟩:=gOs h
    refine dJ [[],[0],[],[2],[],[],[4,5],[4,5,6],[2,3,4,5,6,7],[2,3,4,5,6,7,8],[0,1,2,3,4,5,6,7,8,9],[0,1,2,3,4,5,6,7,8,9,10],[0,1,2,3,4,5,6,7,8,9,10,11]] [(none,0,[true,true,true,true,true,true,true,true]),(none,0,[true,true,true,true,true,true,true,true]),(none,0,[true,true,true,true,true,true,true,true]),(none,0,[true,true,true,true,true,true,true,true]),(none,0,[true,true,true,true,true,true,true,true]),(none,0,[true,true,true,true,true,true,true,true]),(none,1,[true,true,true,true,true,true,true,true]),(none,0,[true,true,true,true,true,true,true,true,true]),(none,0,[true,true,true,true,true,true,true,true,true]),(none,1,[true,true,true,true,true,true,true,true,true]),(some 7,0,[true,true,true,true,true,true,true,true,true,true]),(none,0,[true,true,true,true,true,true,true,true,true,true]),(some 3,0,[true,true,true,true,true,true,true,true,true,true])] [⟨fun _ => .pointer (some ⟨(ξ3 8 0).2.1,0 + 2,none⟩),fun _ => noR,fun _ => []⟩,⟨fun _ => .slice A7_s27 s27.2.length c7_s27,fun _ => noR,fun _ => []⟩,⟨fun _ => .pointer (some ⟨(ξ3 8 0).2.1,0 + 1,none⟩),fun _ => noR,fun _ => []⟩,⟨fun _ => vI y6,fun _ => noR,fun _ => []⟩,⟨fun _ => .agg #[.slice Aa p0.fB.length ca,.slice Ab p0.fOrders.length cb],fun _ => noR,fun _ => []⟩,⟨fun _ => vI s27.1,fun _ => noR,fun _ => []⟩,⟨fun ξ30 => .agg #[.slice (ξ30 6 0).1 y31.fB.length (ξ30 6 0).2.2.1,.slice Ab p0.fOrders.length cb],fun _ => noR,fun ξ30 => [aI (ξ30 6 0).1 (ξ30 6 0).2.2.1 94 3 y31.fB.length (encL aD y31.fB)]⟩,⟨fun _ => vI y41,fun _ => noR,fun _ => []⟩,⟨fun _ => vI (w64 (y6 - y41)),fun _ => noR,fun _ => []⟩,⟨fun ξ30 => .slice (some ⟨(ξ30 9 0).2.1,0,none⟩) 1 1,fun _ => noR,fun ξ30 => [aI (some ⟨(ξ30 9 0).2.1,0,none⟩) 1 3 1 1 (encL cI [w64 (y6 - y41)])]⟩,⟨fun ξ30 => .slice (ξ30 10 0).1 (s27.2.length + 1) (ξ30 10 0).2.2.1,fun ξ30 => aI (ξ30 10 0).1 (ξ30 10 0).2.2.1 3 1 (s27.2.length + 1) (encL cI (s27.2 ++ [w64 (y6 - y41)])),fun _ => []⟩,⟨fun _ => .pointer (some ⟨(ξ3 8 0).2.1,0 + 2,none⟩),fun _ => noR,fun _ => []⟩,⟨fun _ => undef,fun ξ30 => aj (ξ3 8 0).2.1 70 [.slice (some ⟨(ξ3 3 0).2.1,0,none⟩) (Int.toNat (p0.fOrders.length:Int)) (Int.toNat (p0.fOrders.length:Int)),vI y6,.slice (ξ30 10 0).1 (s27.2.length + 1) (ξ30 10 0).2.2.1],fun _ => []⟩] 8 cm (by kernel_rfl) (by kernel_rfl) ⟨⟨fun ξ30 ξ30' h => ⟨rfl,rfl,rfl⟩,fun _ => rfl⟩,⟨fun ξ30 ξ30' h => ⟨rfl,rfl,rfl⟩,fun _ => rfl⟩,⟨fun ξ30 ξ30' h => ⟨rfl,rfl,rfl⟩,fun _ => rfl⟩,⟨fun ξ30 ξ30' h => ⟨rfl,rfl,rfl⟩,fun _ => rfl⟩,⟨fun ξ30 ξ30' h => ⟨rfl,rfl,rfl⟩,fun _ => rfl⟩,⟨fun ξ30 ξ30' h => ⟨rfl,rfl,rfl⟩,fun _ => rfl⟩,⟨fun ξ30 ξ30' h => ⟨by simp only [h 6 (.inl rfl)],rfl,by simp only [h 6 (.inl rfl)]⟩,fun _ => rfl⟩,⟨fun ξ30 ξ30' h => ⟨rfl,rfl,rfl⟩,fun _ => rfl⟩,⟨fun ξ30 ξ30' h => ⟨rfl,rfl,rfl⟩,fun _ => rfl⟩,⟨fun ξ30 ξ30' h => ⟨by simp only [h 9 (.inl rfl)],rfl,by simp only [h 9 (.inl rfl)]⟩,fun _ => rfl⟩,⟨fun ξ30 ξ30' h => ⟨by simp only [h 10 (.inl rfl)],by simp only [h 10 (.inl rfl)],rfl⟩,fun _ => rfl⟩,⟨fun ξ30 ξ30' h => ⟨rfl,rfl,rfl⟩,fun _ => rfl⟩,⟨fun ξ30 ξ30' h => ⟨rfl,by simp only [h 10 (.inr rfl)],rfl⟩,fun _ => rfl⟩,trivial⟩ rfl (fun ξ30 => ?_)
    refine bJ rfl (fun L2 => ?_) ?_
    ·dsimp only [aC,lca,lna]
     refine oY rfl (yFA ql rfl) (oN ?_)
     exact ar (fun _ => (none,0,0,[],noR)) rfl (List.append_nil _)
    dsimp only [bw,lsz,lss,lna,lca,List.append_nil]
    refine bJ rfl (fun L2 => ?_) ?_
    ·dsimp only [aC,lca,lna]
     refine oY rfl (yL 3 pE rfl rfl rfl) (oN ?_)
     exact ar (fun _ => (none,0,0,[],noR)) rfl (List.append_nil _)
    dsimp only [bw,lsz,lss,lna,lca,List.append_nil]
    refine bJ rfl (fun L2 => ?_) ?_
    ·dsimp only [aC,lca,lna]
     refine oY rfl (yFA o4 rfl) (oN ?_)
     exact ar (fun _ => (none,0,0,[],noR)) rfl (List.append_nil _)
    dsimp only [bw,lsz,lss,lna,lca,List.append_nil]
    refine bJ rfl (fun L2 => ?_) ?_
    ·dsimp only [aC,lca,lna]
     refine oY rfl (yL 3 aV rfl rfl rfl) (oN ?_)
     exact ar (fun _ => (none,0,0,[],noR)) rfl (List.append_nil _)
    dsimp only [bw,lsz,lss,lna,lca,List.append_nil]
    refine bJ rfl (fun L2 => ?_) ?_
    ·dsimp only [aC,lca,lna]
     refine oY rfl (yN 0 [.slice Aa p0.fB.length ca,.slice Ab p0.fOrders.length cb] dc rfl rfl rfl) (oN ?_)
     exact ar (fun _ => (none,0,0,[],noR)) rfl (List.append_nil _)
    dsimp only [bw,lsz,lss,lna,lca,List.append_nil]
    refine bJ rfl (fun L2 => ?_) ?_
    ·dsimp only [aC,lca,lna]
     refine oY rfl (yMI rfl) (oN ?_)
     exact ar (fun _ => (none,0,0,[],noR)) rfl (List.append_nil _)
    dsimp only [bw,lsz,lss,lna,lca,List.append_nil]
    refine bJ rfl (fun L2 => ?_) ?_
    ·dsimp only [aC,lca,lna]
     refine oC [.agg #[.slice Aa p0.fB.length ca,.slice Ab p0.fOrders.length cb],vI s27.1] _ _ _ rfl go_65 rfl (fun W2 hW2 => jO p0 s27.1 y31 hy32 W2 Aa p0.fB.length ca rfl ((RdL.arg hr0_0) W2 hW2) Ab p0.fOrders.length cb rfl ((RdL.arg hr0_1) W2 hW2)) ?_
     rintro ⟨A37,n39,c38⟩ hn40
     replace hn40 : n39 = y31.fB.length:=hn40; subst hn40
     refine oN ?_
     exact ar (fun _ => (A37,0,c38,[],noR)) rfl rfl
    dsimp only [bw,lsz,lss,lna,lca,List.append_nil]
    refine bJ rfl (fun L2 => ?_) ?_
    ·dsimp only [aC,lca,lna]
     refine oY rfl (yC [.agg #[.slice (ξ30 6 0).1 y31.fB.length (ξ30 6 0).2.2.1,.slice Ab p0.fOrders.length cb]] rz rfl (fun W2 hW2 => ex (TY.mk y31.fB p0.fOrders) y41 hy42 W2 (ξ30 6 0).1 y31.fB.length (ξ30 6 0).2.2.1 rfl ((RdL.row 8 rfl) W2 hW2) Ab p0.fOrders.length cb rfl ((RdL.arg hr0_1) W2 hW2)) rfl) (oN ?_)
     exact ar (fun _ => (none,0,0,[],noR)) rfl (List.append_nil _)
    dsimp only [bw,lsz,lss,lna,lca,List.append_nil]
    refine bJ rfl (fun L2 => ?_) ?_
    ·dsimp only [aC,lca,lna]
     refine oY rfl (dV rfl rfl) (oN ?_)
     exact ar (fun _ => (none,0,0,[],noR)) rfl (List.append_nil _)
    dsimp only [bw,lsz,lss,lna,lca,List.append_nil]
    refine bJ rfl (fun L2 => ?_) ?_
    ·dsimp only [aC,lca,lna]
     refine aG 1 (encL cI [w64 (y6 - y41)]) _ nF dH l5 pn (by decide) (by decide) (by kernel_rfl) (eL aJ rfl) rfl (fun b43 => ?_)
     refine oN ?_
     exact ar (fun _ => (none,b43,0,[],noR)) rfl rfl
    dsimp only [bw,lsz,lss,lna,lca,List.append_nil]
    refine bJ rfl (fun L2 => ?_) ?_
    ·dsimp only [aC,lca,lna]
     refine bn 7 dH l5 pn rfl rfl rfl (RdL.row 9 rfl) (eL aJ rfl) (bO ou _) (bW hg46 (by decide)) rfl (fun A44 c45 => ?_)
     refine oN ?_
     first | exact ar (fun _ => (A44,0,c45,[],noR)) rfl rfl | exact ar (fun _ => (A44,0,c45,[],noR)) rfl (List.append_nil _)
    dsimp only [bw,lsz,lss,lna,lca,List.append_nil]
    refine bJ rfl (fun L2 => ?_) ?_
    ·dsimp only [aC,lca,lna]
     refine oY rfl (yFA ql rfl) (oN ?_)
     exact ar (fun _ => (none,0,0,[],noR)) rfl (List.append_nil _)
    dsimp only [bw,lsz,lss,lna,lca,List.append_nil]
    refine qI rfl (fun L2 => ?_) ?_
    ·dsimp only [aC,lca,lna]
     refine bT rfl (cv 3 (v:=.slice (ξ30 10 0).1 (s27.2.length + 1) (ξ30 10 0).2.2.1) sz_40 rfl (Nat.lt_of_lt_of_le (Nat.lt_succ_self _) (nB rfl)) rfl rfl rfl) (oN ?_)
     first | exact bA (fun _ => (none,0,0,[],noR)) rfl | exact bA (fun _ => (none,0,0,[],noR)) (List.append_nil _)
    dsimp only [bw,lsz,lss,lna,lca,List.append_nil]
    refine jm (aw (eT (cR ?_)))
    try dsimp only [lna,lca,lsz,lss]
    refine oY rfl (aX rfl rfl) (oY rfl (yMI rfl) (oN (aQ 8 ?_)))
    obtain rfl:=sI h
    exact eN ⟨_,(ξ30 10 0).1,(ξ30 10 0).2.2.1,(s27.2.length + 1),(dT rfl rfl),rfl,(kp4 (kp rfl))⟩
   ·refine cF (vB hp29) (aH (ah ?_))
    obtain rfl:=sI h
    exact ax ⟨rfl,_,A7_s27,c7_s27,s27.2.length,rfl,rfl,(kp4 (kp rfl))⟩
  ·intro e L tm hJ
   obtain ⟨rfl,tm0_u28,A7_u28,c7_u28,n7_u28,rfl,rfl,rfl⟩:=hJ
   refine ⟨(by intro hc; cases hc),?_⟩
   refine ac (eT (cS (cR ?_)))
   try dsimp only [lna,lca,lsz,lss]
   refine oY rfl (yN 3 [.slice (some ⟨(ξ3 3 0).2.1,0,none⟩) (Int.toNat (p0.fOrders.length:Int)) (Int.toNat (p0.fOrders.length:Int)),vI y6,.slice A7_u28 u28.2.length c7_u28] sv rfl rfl rfl) (bT rfl (yS 1 [.slice (some ⟨(ξ3 3 0).2.1,0,none⟩) (Int.toNat (p0.fOrders.length:Int)) (Int.toNat (p0.fOrders.length:Int)),vI y6,.slice A7_u28 u28.2.length c7_u28] rH rfl (nB rfl) rfl rfl rfl) (oN (eT (al ?_))))
   obtain rfl:=sI h
   exact ap (.inl rfl) rfl (bf 1 [.slice (some ⟨(ξ3 3 0).2.1,0,none⟩) (Int.toNat (p0.fOrders.length:Int)) (Int.toNat (p0.fOrders.length:Int)),vI y6,.slice A7_u28 u28.2.length c7_u28] sv rfl rfl rfl) (fun W2 hW2 => ⟨(((some ⟨(ξ3 3 0).2.1,0,none⟩),Int.toNat (p0.fOrders.length:Int),Int.toNat (p0.fOrders.length:Int)),(A7_u28,u28.2.length,c7_u28)),⟨(mZ _ (List.length_replicate).symm),rfl⟩,rfl,hW2.pickL [2,7] (by decide) rfl⟩)
 ·refine oY rfl (yE rfl rfl) (oN (eT (cS (cT rfl (cK (eT (cB (cS (cR (oY rfl (qM 4 ((mapV Tryz.prog 3 kI em kI 0 bm1_0 p1).inb _ hm1_0 _ rfl) rfl rfl) (oY rfl (yE rfl rfl) (oY rfl (yE rfl rfl) (oY rfl (yAI rfl) (oY rfl (yAI rfl) (oN (eT ?_))))))))))))))))
  refine ba 10 cm (by kernel_rfl) (by kernel_rfl) ?_
  refine qY rfl (yFA rL rfl) (qY rfl (yL 3 pE rfl rfl rfl) (qY rfl (yMI rfl) (qY rfl (yFA eh rfl) (qY rfl (yL 0 jP rfl rfl rfl) (qY rfl (yMI rfl) ?_)))))
  refine qY rfl (yI lN (by decide) ((jj (C:=(fun y12 => ((0:Int) ≤ y12 ∧ y12 < (p0.fB.length:Int)) ∧ ((0:Int) ≤ az 0 p1 y12 ∧ az 0 p1 y12 < ((Int.toNat (p0.fOrders.length:Int) : Nat) : Int)))) hg21 hM16).1).1 ((jj (C:=(fun y12 => ((0:Int) ≤ y12 ∧ y12 < (p0.fB.length:Int)) ∧ ((0:Int) ≤ az 0 p1 y12 ∧ az 0 p1 y12 < ((Int.toNat (p0.fOrders.length:Int) : Nat) : Int)))) hg21 hM16).1).2 (RdL.arg hr0_0) (eL aK rfl) rfl rfl) ?_
  refine qY rfl (yFR (A:=Aa) (j:=(Int.toNat y12 * 3)) j4 rfl) (qY rfl (yR (A:=Aa) (j:=((Int.toNat y12 * 3) + 0)) (v:=vI ((rdL p0.fB y12).fID)) aV (RdL.arg hr0_0) rfl (eG aK ((jj (C:=(fun y12 => ((0:Int) ≤ y12 ∧ y12 < (p0.fB.length:Int)) ∧ ((0:Int) ≤ az 0 p1 y12 ∧ az 0 p1 y12 < ((Int.toNat (p0.fOrders.length:Int) : Nat) : Int)))) hg21 hM16).1).1 (av ((jj (C:=(fun y12 => ((0:Int) ≤ y12 ∧ y12 < (p0.fB.length:Int)) ∧ ((0:Int) ≤ az 0 p1 y12 ∧ az 0 p1 y12 < ((Int.toNat (p0.fOrders.length:Int) : Nat) : Int)))) hg21 hM16).1).2 rfl) rfl)) ?_)
  refine qY rfl (yI d7 (by decide) ((jj (C:=(fun y12 => ((0:Int) ≤ y12 ∧ y12 < (p0.fB.length:Int)) ∧ ((0:Int) ≤ az 0 p1 y12 ∧ az 0 p1 y12 < ((Int.toNat (p0.fOrders.length:Int) : Nat) : Int)))) hg21 hM16).2).1 ((jj (C:=(fun y12 => ((0:Int) ≤ y12 ∧ y12 < (p0.fB.length:Int)) ∧ ((0:Int) ≤ az 0 p1 y12 ∧ az 0 p1 y12 < ((Int.toNat (p0.fOrders.length:Int) : Nat) : Int)))) hg21 hM16).2).2 (RdL.row 2 rfl) (eL aJ hn22) rfl rfl) ?_
  refine bX (bT rfl (iO 2 (xs:=s19.2.2) aJ ((rdL p0.fB y12).fID) p6 rfl ((jj (C:=(fun y12 => ((0:Int) ≤ y12 ∧ y12 < (p0.fB.length:Int)) ∧ ((0:Int) ≤ az 0 p1 y12 ∧ az 0 p1 y12 < ((Int.toNat (p0.fOrders.length:Int) : Nat) : Int)))) hg21 hM16).2).1 (av ((jj (C:=(fun y12 => ((0:Int) ≤ y12 ∧ y12 < (p0.fB.length:Int)) ∧ ((0:Int) ≤ az 0 p1 y12 ∧ az 0 p1 y12 < ((Int.toNat (p0.fOrders.length:Int) : Nat) : Int)))) hg21 hM16).2).2 hn22) rfl rfl rfl rfl) (oN (aw (m8 4 rfl ?_))))
  exact qB (k13,(fun q => s19.2.1 q && !decide (q = y12)),(s19.2.2.set (Int.toNat (az 0 p1 y12)) ((rdL p0.fB y12).fID))) ⟨hI20.step hy14 hly15 hM16,(cU hn22),_,rfl,(kp4 (kp (kp rfl)))⟩ hk17
theorem pg (p0:TY) (res:(TPlan × Int)) (h:lW p0 = some res) (W:World) (Aa:Option Addr) (n0_0 ca : Nat) (hn0_0:n0_0 = p0.fB.length) (hr0_0:Rd W Aa n0_0 ca (encL aD p0.fB)) (Ab:Option Addr) (n0_1 cb : Nat) (hn0_1:n0_1 = p0.fOrders.length) (hr0_1:Rd W Ab n0_1 cb (encL aA p0.fOrders)) (wb:World) (Hb:World → Prop) (hB:∀ W3,Below W.heap.size W W3 → Below wb.heap.size wb W3 ∧ Hb W3) :
  Calls Tryz.prog 23 [.agg #[.slice Aa n0_0 ca,.slice Ab n0_1 cb]].toArray W fun e W2 => ∃ x : ((Hd × Res) × (Hd × Res)),(x.1.1.2.1 = res.1.fG.length ∧ Pv cI wb (fun W4 => Hb W4 ∧ Res.holds x.1.2 W4) x.1.1 res.1.fG ∧ x.2.1.2.1 = res.1.fP.length ∧ Pv cI wb (fun W4 => Hb W4 ∧ Res.holds x.2.2 W4) x.2.1 res.1.fP) ∧ e = .returned (.tuple #[.agg #[.slice x.1.1.1 x.1.1.2.1 x.1.1.2.2,vI res.1.fW,.slice x.2.1.1 x.2.1.2.1 x.2.1.2.2],vI res.2]) ∧ Ext W W2 [x.1.2,x.2.2]:=by
 subst hn0_0
 subst hn0_1
 unfold lW at h
 refine ad (m:=15) Tryz.func23 rfl rfl (nB rfl) (cS (cR ?_))
 refine aO [.slice Aa p0.fB.length ca,.slice Ab p0.fOrders.length cb] rfl rfl rfl (fun b1 => ?_)
 refine aB rl rfl (fun b2 => ?_)
 refine oY rfl (yAI rfl) (oN (eT (cS (cS (cR (oY rfl (yN 0 [.slice Aa p0.fB.length ca,.slice Ab p0.fOrders.length cb] dc rfl rfl rfl) ?_))))))
 obtain ⟨y3,hy4,h⟩:=bOs h
 refine oY rfl (yC [.agg #[.slice Aa p0.fB.length ca,.slice Ab p0.fOrders.length cb]] sD rfl (fun W2 hW2 => dr p0 y3 hy4 W2 Aa p0.fB.length ca rfl ((RdL.arg hr0_0) W2 hW2) Ab p0.fOrders.length cb rfl ((RdL.arg hr0_1) W2 hW2)) rfl) (oY rfl (yAI rfl) (oN (eT (cS (cR (oY rfl (yMI rfl) (oY rfl (db rfl rfl) (oN (eT ?_)))))))))
 rcases iOs h with ⟨hp5,h⟩ | ⟨hp5,h⟩
 ·refine cT (vB hp5) (cS (cR ?_))
  refine oY rfl (aL [.slice none 0 0,vI 0,.slice none 0 0] [(0,1),(1,1),(2,1)] ust_70 rl (by kernel_rfl)) ?_
  refine oY rfl (yMI rfl) (bT rfl (yS 1 [.slice none 0 0,vI 0,.slice none 0 0] rH rfl (nB rfl) rfl rfl rfl) (oY rfl (yAI rfl) (oN (eT (al (aa ?_))))))
  obtain rfl:=sI h
  exact bp (.inl rfl) rfl (bf 1 [.slice none 0 0,vI 0,.slice none 0 0] sv rfl rfl rfl) (rVt (v:=vI y3) rfl) (fun W2 hW2 => ⟨(((none,0,0),noR),((none,0,0),noR)),⟨rfl,(Pv.mono (Hb:=Hb) (Pv.nil rfl) (fun _ _ h => h.1)),rfl,(Pv.mono (Hb:=Hb) (Pv.nil rfl) (fun _ _ h => h.1))⟩,rfl,hW2.addNo.addNo.pickL [2,3] (by decide) rfl⟩)
 ·refine cF (vB hp5) (cK (eT (cS ?_)))
  obtain ⟨y6,hy7,h⟩:=bOs h
  refine nr 2 3 (fun v L1 => ∃ x : Nat,v = .map (some x) ∧ L1 = [mapV Tryz.prog 3 kI em kI 0 x y6]) cm (by kernel_rfl) (by kernel_rfl) (by kernel_rfl) ?_
  refine nW rfl (fun _ => yN 0 [.slice Aa p0.fB.length ca,.slice Ab p0.fOrders.length cb] dc rfl rfl rfl) (nW rfl (fun _ => yN 0 [.slice Aa p0.fB.length ca,.slice Ab p0.fOrders.length cb] dc rfl rfl rfl) (bx_q rfl (lv [.agg #[.slice Aa p0.fB.length ca,.slice Ab p0.fOrders.length cb]] _ _ rfl go_55 rfl (fun W2 hW2 => lb p0 y6 hy7 W2 Aa p0.fB.length ca rfl ((RdL.arg hr0_0) W2 hW2) Ab p0.fOrders.length cb rfl ((RdL.arg hr0_1) W2 hW2)) (fun x => oN (sk ⟨x,rfl,rfl⟩))) (rY rfl ?_)))
  rintro v L1 ⟨b8,rfl,rfl⟩
  obtain ⟨y9,hy10,h⟩:=bOs h
  refine oC [.agg #[.slice Aa p0.fB.length ca,.slice Ab p0.fOrders.length cb],.map (some b8)] _ _ _ rfl go_54 rfl (fun W2 hW2 => pt p0 y6 y9 hy10 W2 Aa p0.fB.length ca rfl ((RdL.arg hr0_0) W2 hW2) Ab p0.fOrders.length cb rfl ((RdL.arg hr0_1) W2 hW2) b8 ((MpL.own 2 rfl) W2 hW2)) ?_
  rintro ⟨⟨A11,n15,c12⟩,⟨A13,n17,c14⟩⟩ ⟨hn16,hn18⟩
  replace hn16 : n15 = y9.fG.length:=hn16; subst hn16
  replace hn18 : n17 = y9.fP.length:=hn18; subst hn18
  refine bT rfl (yS 1 [.slice A11 y9.fG.length c12,vI y9.fW,.slice A13 y9.fP.length c14] rH rfl (nB rfl) rfl rfl rfl) (oY rfl (yAI rfl) (oN (lR (eT (al ?_)))))
  obtain rfl:=sI h
  exact bp (.inl rfl) rfl (bf 1 [.slice A11 y9.fG.length c12,vI y9.fW,.slice A13 y9.fP.length c14] sv rfl rfl rfl) (rVt (v:=vI 0) rfl) (fun W2 hW2 => ⟨(((A11,y9.fG.length,c12),aI A11 c12 3 1 y9.fG.length (encL cI y9.fG)),((A13,y9.fP.length,c14),aI A13 c14 3 1 y9.fP.length (encL cI y9.fP))),⟨rfl,(fun _ _ h => dt h.2),rfl,(fun _ _ h => dt h.2)⟩,rfl,hW2.pickL [3,4] (by decide) rfl⟩)
theorem ml (p0__:TO) (p1:Int → Option Int) (cap0:Int) (res:Bool) (h:i4 p0__ p1 cap0 = some res) (W:World) (fid1:Nat) (fst1 caps1 : List Value) (hgo1:bx Tryz.prog fid1 = true) (hof1:∀ W2,Below W.heap.size W W2 → ∀ x,∀ y,p1 x = some y → Calls Tryz.prog fid1 (fst1 ++ (([vI x] : List Value) ++ caps1)).toArray W2 fun e W3 => e = .returned (vI y) ∧ Ext W2 W3 []) (bc0:Nat) (hcap0:Rd W (some ⟨bc0,0,none⟩) 1 1 (cI cap0)) :
  Calls Tryz.prog 58 [.agg #[vI p0__.fID,vI p0__.fH.fLo,vI p0__.fH.fHi,vI p0__.fD,vI p0__.fW],.func (.func fid1) fst1.toArray caps1.toArray,.pointer (some ⟨bc0,0,none⟩)].toArray W fun e W2 => e = .returned (.bool res) ∧ Ext W W2 []:=by
 unfold i4 at h
 refine ad (m:=10) Tryz.func58 rfl rfl (nB rfl) (cS (cR ?_))
 refine aO [vI p0__.fID,vI p0__.fH.fLo,vI p0__.fH.fHi,vI p0__.fD,vI p0__.fW] rfl rfl rfl (fun b1 => ?_)
 refine oY rfl (yAB rfl) (oN (eT (cS ?_)))
 refine ba 5 cm (by kernel_rfl) (by kernel_rfl) ?_
 refine qY rfl (bH (v:=.func (.func fid1) fst1.toArray caps1.toArray) rfl) ?_
 obtain ⟨y2,hy3,h⟩:=bOs h
 refine qY rfl (ge [vI 0] hgo1 rfl rfl (fun W2 hW2 => hof1 W2 hW2.below 0 y2 hy3)) (qY rfl (yR (A:=(some ⟨bc0,0,none⟩)) (j:=0) (v:=vI cap0) aV (RdL.arg hcap0) rfl rfl) (qY rfl (bm rfl rfl) (qY rfl (yAB rfl) (bX (oN (eT (al ?_)))))))
 obtain rfl:=sI h
 exact ap (.inl rfl) rfl (rVt (v:=.bool (decide (y2 < cap0))) rfl) (fun W2 hW2 => ⟨rfl,hW2.none⟩)
theorem nD (p0:TO) (p1:Int → Option Int) (cap0:Int) (res:Bool) (h:jC p0 p1 cap0 = some res) (W:World) (fid1:Nat) (fst1 caps1 : List Value) (hgo1:bx Tryz.prog fid1 = true) (hof1:∀ W2,Below W.heap.size W W2 → ∀ x,∀ y,p1 x = some y → Calls Tryz.prog fid1 (fst1 ++ (([vI x] : List Value) ++ caps1)).toArray W2 fun e W3 => e = .returned (vI y) ∧ Ext W2 W3 []) (bc0:Nat) (hcap0:Rd W (some ⟨bc0,0,none⟩) 1 1 (cI cap0)) :
  Calls Tryz.prog 59 [.agg #[vI p0.fID,vI p0.fH.fLo,vI p0.fH.fHi,vI p0.fD,vI p0.fW],.func (.func fid1) fst1.toArray caps1.toArray,.pointer (some ⟨bc0,0,none⟩)].toArray W fun e W2 => e = .returned (.bool res) ∧ Ext W W2 []:=by
 unfold jC at h
 refine ad (m:=13) Tryz.func59 rfl rfl (nB rfl) (cS (cR ?_))
 refine aO [vI p0.fID,vI p0.fH.fLo,vI p0.fH.fHi,vI p0.fD,vI p0.fW] rfl rfl rfl (fun b1 => ?_)
 refine oY rfl (yAB rfl) (oN (eT (cS ?_)))
 refine ba 8 cm (by kernel_rfl) (by kernel_rfl) ?_
 refine qY rfl (bH (v:=.func (.func fid1) fst1.toArray caps1.toArray) rfl) (qY rfl (yFA iG rfl) (qY rfl (yL 0 aV rfl rfl rfl) (qY rfl (aX rfl rfl) ?_)))
 obtain ⟨y2,hy3,h⟩:=bOs h
 refine qY rfl (ge [vI (w64 (p0.fW + 1))] hgo1 rfl rfl (fun W2 hW2 => hof1 W2 hW2.below (w64 (p0.fW + 1)) y2 hy3)) (qY rfl (yR (A:=(some ⟨bc0,0,none⟩)) (j:=0) (v:=vI cap0) aV (RdL.arg hcap0) rfl rfl) (qY rfl (dA rfl rfl) (qY rfl (yAB rfl) (bX (oN (eT (al ?_)))))))
 obtain rfl:=sI h
 exact ap (.inl rfl) rfl (rVt (v:=.bool (y2 == cap0)) rfl) (fun W2 hW2 => ⟨rfl,hW2.none⟩)
theorem hU (p0:(List TO)) (res:(List TO)) (h:dk p0 = some res) (W:World) (Aa:Option Addr) (n0_0 ca : Nat) (hn0_0:n0_0 = p0.length) (hr0_0:Rd W Aa n0_0 ca (encL aA p0)) :
  Calls Tryz.prog 87 [.slice Aa n0_0 ca].toArray W fun e W2 => ∃ x : Option Addr × Nat × Nat,x.2.1 = res.length ∧ e = .returned (.slice x.1 x.2.1 x.2.2) ∧ Ext W W2 [aI x.1 x.2.2 96 5 x.2.1 (encL aA res)]:=by
 subst hn0_0
 unfold dk at h
 refine ad (m:=8) Tryz.func87 rfl rfl (nB rfl) (cS (cR (oY rfl (yAS rfl) (oN (eT (cS (cS (cR (oY rfl (yMS rfl) (oY rfl (nb kN rfl rfl) (oN (eT ?_))))))))))))
 rcases aq (Option.isNone Aa) with hp1 | hp1
 ·refine cT (vB hp1) ?_
  have z6:=ng (Option.isNone_iff_eq_none.1 hp1 ▸ hr0_0) au (by decide)
  replace h:=(gOs h).2
  rw [z6] at h
  refine cS (cR (oY rfl (yAS rfl) (oN (eT (al (aa ?_))))))
  obtain rfl:=sI h
  exact ap (.inl rfl) rfl (rVt (v:=.slice none 0 0) rfl) (fun W2 hW2 => ⟨(none,0,0),rfl,rfl,((hW2.nilrow 96 5).pick 0 rfl)⟩)
 ·refine cF (vB hp1) (cK (eT (cS (cR ?_))))
  refine dL aA kN nJ by_96 rfl (fun b2 => ?_)
  refine oY rfl (yMS rfl) ?_
  obtain ⟨hg5,h⟩:=gOs h
  refine bn 0 kN nJ by_96 rfl rfl rfl (RdL.arg hr0_0) (eL au rfl) (bO mu _) (bW hg5 (by decide)) rfl (fun A3 c4 => ?_)
  refine oY rfl (yAS rfl) (oN (eT (al ?_)))
  obtain rfl:=sI h
  exact ap (.inl rfl) rfl (rVt (v:=.slice A3 (0 + p0.length) c4) rfl) (fun W2 hW2 => ⟨(A3,(0 + p0.length),c4),(dT rfl rfl),rfl,(hW2.pick 0 rfl)⟩)
theorem jQ (p0:Int) (cap0:TY) (cap1:Int) (res:Int) (h:fi p0 cap0 cap1 = some res) (W:World) (bc0:Nat) (A100_0:Option Addr) (n100_0 c100_0 : Nat) (hn100_0:n100_0 = cap0.fB.length) (hr100_0:Rd W A100_0 n100_0 c100_0 (encL aD cap0.fB)) (A100_1:Option Addr) (n100_1 c100_1 : Nat) (hn100_1:n100_1 = cap0.fOrders.length) (hr100_1:Rd W A100_1 n100_1 c100_1 (encL aA cap0.fOrders)) (hcap0:Rd W (some ⟨bc0,0,none⟩) 1 1 [.slice A100_0 n100_0 c100_0,.slice A100_1 n100_1 c100_1]) (bc1:Nat) (hcap1:Rd W (some ⟨bc1,0,none⟩) 1 1 (cI cap1)) :
  Calls Tryz.prog 86 [vI p0,.pointer (some ⟨bc0,0,none⟩),.pointer (some ⟨bc1,0,none⟩)].toArray W fun e W2 => e = .returned (vI res) ∧ Ext W W2 []:=by
 subst hn100_0
 subst hn100_1
 unfold fi at h
 refine ad (m:=20) Tryz.func86 rfl rfl (nB rfl) (cS (cR (oY rfl (yAI rfl) (oN (eT (cS ?_))))))
 obtain ⟨y2,hy3,h⟩:=bOs h
 refine dJ [[],[0],[],[2],[2,3],[0,1,2,3,4],[],[0,1,2,3,4,5,6]] [(none,0,[]),(none,0,[]),(none,0,[]),(none,0,[]),(none,1,[]),(none,0,[true]),(none,1,[false]),(some 1,0,[true,true])] [⟨fun _ => slA (some ⟨bc0,0,none⟩) (0 + 0),fun _ => noR,fun _ => []⟩,⟨fun _ => .slice A100_0 cap0.fB.length c100_0,fun _ => noR,fun _ => []⟩,⟨fun _ => slA (some ⟨bc0,0,none⟩) (0 + 1),fun _ => noR,fun _ => []⟩,⟨fun _ => .slice A100_1 cap0.fOrders.length c100_1,fun _ => noR,fun _ => []⟩,⟨fun ξ1 => .slice (ξ1 4 0).1 y2.length (ξ1 4 0).2.2.1,fun _ => noR,fun ξ1 => [aI (ξ1 4 0).1 (ξ1 4 0).2.2.1 96 5 y2.length (encL aA y2)]⟩,⟨fun ξ1 => .agg #[.slice A100_0 cap0.fB.length c100_0,.slice (ξ1 4 0).1 y2.length (ξ1 4 0).2.2.1],fun _ => noR,fun _ => []⟩,⟨fun ξ1 => .pointer (some ⟨(ξ1 6 0).2.1,0,none⟩),fun _ => noR,fun ξ1 => [aj (ξ1 6 0).2.1 57 [.slice none 0 0,.slice none 0 0]]⟩,⟨fun _ => undef,fun ξ1 => aj (ξ1 6 0).2.1 57 [.slice A100_0 cap0.fB.length c100_0,.slice (ξ1 4 0).1 y2.length (ξ1 4 0).2.2.1],fun _ => []⟩] 0 cm (by kernel_rfl) (by kernel_rfl) ⟨⟨fun ξ1 ξ1' h => ⟨rfl,rfl,rfl⟩,fun _ => rfl⟩,⟨fun ξ1 ξ1' h => ⟨rfl,rfl,rfl⟩,fun _ => rfl⟩,⟨fun ξ1 ξ1' h => ⟨rfl,rfl,rfl⟩,fun _ => rfl⟩,⟨fun ξ1 ξ1' h => ⟨rfl,rfl,rfl⟩,fun _ => rfl⟩,⟨fun ξ1 ξ1' h => ⟨by simp only [h 4 (.inl rfl)],rfl,by simp only [h 4 (.inl rfl)]⟩,fun _ => rfl⟩,⟨fun ξ1 ξ1' h => ⟨by simp only [h 4 (.inr rfl)],rfl,rfl⟩,fun _ => rfl⟩,⟨fun ξ1 ξ1' h => ⟨by simp only [h 6 (.inl rfl)],rfl,by simp only [h 6 (.inl rfl)]⟩,fun _ => rfl⟩,⟨fun ξ1 ξ1' h => ⟨rfl,by simp only [h 4 (.inr rfl),h 6 (.inr rfl)],rfl⟩,fun _ => rfl⟩,trivial⟩ rfl (fun ξ1 => ?_)
 refine bJ rfl (fun L2 => ?_) ?_
 ·dsimp only [aC,lca,lna]
  refine oY rfl (yFR (A:=(some ⟨bc0,0,none⟩)) (j:=0) eh rfl) (oN ?_)
  exact ar (fun _ => (none,0,0,[],noR)) rfl (List.append_nil _)
 dsimp only [bw,lsz,lss,lna,lca,List.append_nil]
 refine bJ rfl (fun L2 => ?_) ?_
 ·dsimp only [aC,lca,lna]
  refine oY rfl (yR (A:=(some ⟨bc0,0,none⟩)) (j:=(0 + 0)) (v:=.slice A100_0 cap0.fB.length c100_0) jP (RdL.arg hcap0) rfl rfl) (oN ?_)
  exact ar (fun _ => (none,0,0,[],noR)) rfl (List.append_nil _)
 dsimp only [bw,lsz,lss,lna,lca,List.append_nil]
 refine bJ rfl (fun L2 => ?_) ?_
 ·dsimp only [aC,lca,lna]
  refine oY rfl (yFR (A:=(some ⟨bc0,0,none⟩)) (j:=0) cn rfl) (oN ?_)
  exact ar (fun _ => (none,0,0,[],noR)) rfl (List.append_nil _)
 dsimp only [bw,lsz,lss,lna,lca,List.append_nil]
 refine bJ rfl (fun L2 => ?_) ?_
 ·dsimp only [aC,lca,lna]
  refine oY rfl (yR (A:=(some ⟨bc0,0,none⟩)) (j:=(0 + 1)) (v:=.slice A100_1 cap0.fOrders.length c100_1) go (RdL.arg hcap0) rfl rfl) (oN ?_)
  exact ar (fun _ => (none,0,0,[],noR)) rfl (List.append_nil _)
 dsimp only [bw,lsz,lss,lna,lca,List.append_nil]
 refine bJ rfl (fun L2 => ?_) ?_
 ·dsimp only [aC,lca,lna]
  refine oC [.slice A100_1 cap0.fOrders.length c100_1] _ _ _ rfl go_87 rfl (fun W2 hW2 => hU cap0.fOrders y2 hy3 W2 A100_1 cap0.fOrders.length c100_1 rfl ((RdL.arg hr100_1) W2 hW2)) ?_
  rintro ⟨A4,n6,c5⟩ hn7
  replace hn7 : n6 = y2.length:=hn7; subst hn7
  refine oN ?_
  exact ar (fun _ => (A4,0,c5,[],noR)) rfl rfl
 dsimp only [bw,lsz,lss,lna,lca,List.append_nil]
 refine bJ rfl (fun L2 => ?_) ?_
 ·dsimp only [aC,lca,lna]
  refine oY rfl (aL [.slice A100_0 cap0.fB.length c100_0,.slice (ξ1 4 0).1 y2.length (ξ1 4 0).2.2.1] [(0,1),(1,1)] sO qo (by kernel_rfl)) ?_
  refine oN ?_
  exact ar (fun _ => (none,0,0,[],noR)) rfl (List.append_nil _)
 dsimp only [bw,lsz,lss,lna,lca,List.append_nil]
 refine bJ rfl (fun L2 => ?_) ?_
 ·dsimp only [aC,lca,lna]
  refine aB qo rfl (fun b8 => ?_)
  refine oN ?_
  exact ar (fun _ => (none,b8,0,[],noR)) rfl rfl
 dsimp only [bw,lsz,lss,lna,lca,List.append_nil]
 refine qI rfl (fun L2 => ?_) ?_
 ·dsimp only [aC,lca,lna]
  refine bT rfl (yS 1 [.slice A100_0 cap0.fB.length c100_0,.slice (ξ1 4 0).1 y2.length (ξ1 4 0).2.2.1] sz_57 rfl (nB rfl) rfl rfl rfl) (oN ?_)
  first | exact bA (fun _ => (none,0,0,[],noR)) rfl | exact bA (fun _ => (none,0,0,[],noR)) (List.append_nil _)
 dsimp only [bw,lsz,lss,lna,lca,List.append_nil]
 refine jm (eT (cS (cR (oY rfl (yFA cn rfl) (oY rfl (yL 1 go rfl rfl rfl) (oY rfl (yR (A:=(some ⟨bc1,0,none⟩)) (j:=0) (v:=vI cap1) aV (RdL.arg hcap1) rfl rfl) (oY rfl (yMI rfl) ?_)))))))
 obtain ⟨hg9,h⟩:=gOs h
 refine oY rfl (yI jM (by decide) hg9.1 hg9.2 (RdL.row 0 rfl) (eL au rfl) rfl rfl) ?_
 refine oY rfl (yFR (A:=(ξ1 4 0).1) (j:=(Int.toNat cap1 * 5)) iG rfl) ?_
 refine bT rfl (lC 0 (xs:=y2) au (TO.mk ((rdL y2 cap1).fID) (TSpan.mk ((rdL y2 cap1).fH.fLo) ((rdL y2 cap1).fH.fHi)) ((rdL y2 cap1).fD) p0) 4 (by decide) p6 rfl hg9.1 (av hg9.2 rfl) rfl rfl rfl rfl) ?_
 refine oN (eT (cS (cR (oY rfl (yN 1 [.slice A100_0 cap0.fB.length c100_0,.slice (ξ1 4 0).1 y2.length (ξ1 4 0).2.2.1] dc rfl rfl rfl) ?_))))
 obtain ⟨y10,hy11,h⟩:=bOs h
 refine oY rfl (yC [.agg #[.slice A100_0 cap0.fB.length c100_0,.slice (ξ1 4 0).1 y2.length (ξ1 4 0).2.2.1]] rz rfl (fun W2 hW2 => ex (TY.mk cap0.fB (y2.set (Int.toNat cap1) (TO.mk ((rdL y2 cap1).fID) (TSpan.mk ((rdL y2 cap1).fH.fLo) ((rdL y2 cap1).fH.fHi)) ((rdL y2 cap1).fD) p0))) y10 hy11 W2 A100_0 cap0.fB.length c100_0 rfl ((RdL.arg hr100_0) W2 hW2) (ξ1 4 0).1 y2.length (ξ1 4 0).2.2.1 (cU rfl) ((RdL.row 0 rfl) W2 hW2)) rfl) (oY rfl (yAI rfl) (oN (eT (al ?_))))
 obtain rfl:=sI h
 exact ap (.inl rfl) rfl (rVt (v:=vI y10) rfl) (fun W2 hW2 => ⟨rfl,hW2.none⟩)
theorem j6 (p0:TY) (cap0:Int) (res:(List Int)) (h:fv p0 cap0 = some res) (W:World) (Aa:Option Addr) (n0_0 ca : Nat) (hn0_0:n0_0 = p0.fB.length) (hr0_0:Rd W Aa n0_0 ca (encL aD p0.fB)) (Ab:Option Addr) (n0_1 cb : Nat) (hn0_1:n0_1 = p0.fOrders.length) (hr0_1:Rd W Ab n0_1 cb (encL aA p0.fOrders)) (bc0:Nat) (hcap0:Rd W (some ⟨bc0,0,none⟩) 1 1 (cI cap0)) :
  Calls Tryz.prog 57 [.agg #[.slice Aa n0_0 ca,.slice Ab n0_1 cb],.func (.func 58) #[] #[.pointer (some ⟨bc0,0,none⟩)]].toArray W fun e W2 => ∃ x : Option Addr × Nat × Nat,x.2.1 = res.length ∧ e = .returned (.slice x.1 x.2.1 x.2.2) ∧ Ext W W2 [aI x.1 x.2.2 3 1 x.2.1 (encL cI res)]:=by
 subst hn0_0
 subst hn0_1
 unfold fv at h
 refine ad (m:=31) Tryz.func57 rfl rfl (nB rfl) (cS (cR ?_))
 refine aO [.slice Aa p0.fB.length ca,.slice Ab p0.fOrders.length cb] rfl rfl rfl (fun b1 => ?_)
 refine oY rfl (yAS rfl) (oN (eT (cS (cR (oY rfl (yAS rfl) (oN (eT (cS (cS (cR (oY rfl (yFA cn rfl) (oY rfl (yL 0 go rfl rfl rfl) (oY rfl (bd (us:=[]) kN rfl) (oY rfl (yMI rfl) (oN (eT (cB ?_)))))))))))))))))
 obtain ⟨u5,hl18,h⟩:=bOs h
 refine ci 3 1 ?_
 refine bc (fun (s:(Int × (List Int))) L tm => ∃ (tm0:Nat → Value) (A1_s:Option Addr) (c1_s:Nat) (n1_s:Nat),n1_s = s.2.length ∧ L = [aj b1 57 [.slice Aa p0.fB.length ca,.slice Ab p0.fOrders.length cb],aI A1_s c1_s 3 1 n1_s (encL cI s.2)] ∧ tm = (upd (upd (upd (upd (upd (upd (upd tm0 1 (.func (.func 58) #[] #[slA (some ⟨bc0,0,none⟩) 0])) 2 (.pointer (some ⟨b1,0,none⟩))) 4 (.slice none 0 0)) 5 (.slice A1_s n1_s c1_s)) 10 (.slice Ab p0.fOrders.length cb)) 11 (vI (p0.fOrders.length:Int))) 12 (vI s.1))) 0 hl18 ⟨_,none,0,0,rfl,rfl,(kp4 (kp (kp (kp rfl))))⟩ ?_ ?_
 ·rintro s4 L tm st ⟨tm0_s4,A1_s4,c1_s4,n1_s4,rfl,rfl,rfl⟩ h
  unfold gl at h
  refine cS (cR (oY rfl (bm rfl rfl) (oN (eT (cS ?_)))))
  rcases iOs h with ⟨hp6,h⟩ | ⟨hp6,h⟩
  ·refine cT (vB hp6) (cK (eT (cS (cB (cS (cR (oY rfl (yMI rfl) ?_)))))))
   obtain ⟨hg7,h⟩:=gOs h
   refine oY rfl (yI jM (by decide) hg7.1 hg7.2 (RdL.arg hr0_1) (eL au rfl) rfl rfl) ?_
   refine oY rfl (yM (A:=Ab) (j:=(Int.toNat s4.1 * 5)) [vI ((rdL p0.fOrders s4.1).fID),vI ((rdL p0.fOrders s4.1).fH.fLo),vI ((rdL p0.fOrders s4.1).fH.fHi),vI ((rdL p0.fOrders s4.1).fD),vI ((rdL p0.fOrders s4.1).fW)] pC (Nat.succ_pos _) (RdL.arg hr0_1) rfl (aU au hg7.1 (av hg7.2 rfl))) ?_
   refine aB l5 rfl (fun b8 => ?_)
   refine aB nJ rfl (fun b9 => ?_)
   refine bT rfl (cv 2 (v:=vI s4.1) p6 rfl (Nat.lt_of_lt_of_le (Nat.lt_succ_self _) (nB rfl)) rfl rfl rfl) (bT rfl (yS 3 [vI ((rdL p0.fOrders s4.1).fID),vI ((rdL p0.fOrders s4.1).fH.fLo),vI ((rdL p0.fOrders s4.1).fH.fHi),vI ((rdL p0.fOrders s4.1).fD),vI ((rdL p0.fOrders s4.1).fW)] sz_96 rfl (nB rfl) rfl rfl rfl) (oN (eT (cS (cR (oY rfl (cw [.pointer (some ⟨b1,0,none⟩),.pointer (some ⟨b8,0,none⟩)] rfl rfl) (oY rfl (eo rfl) (oN (eT (cS (cR (oY rfl (c3 rfl) (oY rfl (yN 3 [vI ((rdL p0.fOrders s4.1).fID),vI ((rdL p0.fOrders s4.1).fH.fLo),vI ((rdL p0.fOrders s4.1).fH.fHi),vI ((rdL p0.fOrders s4.1).fD),vI ((rdL p0.fOrders s4.1).fW)] pC rfl rfl rfl) (oY rfl (c3 rfl) ?_))))))))))))))
   obtain ⟨y11,hy12,h⟩:=bOs h
   refine oY rfl (m6 (caps:=[slA (some ⟨bc0,0,none⟩) 0]) [.agg #[vI ((rdL p0.fOrders s4.1).fID),vI ((rdL p0.fOrders s4.1).fH.fLo),vI ((rdL p0.fOrders s4.1).fH.fHi),vI ((rdL p0.fOrders s4.1).fD),vI ((rdL p0.fOrders s4.1).fW)],.func (.func 86) #[] #[.pointer (some ⟨b1,0,none⟩),.pointer (some ⟨b8,0,none⟩)]] go_58 rfl rfl (fun W2 hW2 => ml (TO.mk ((rdL p0.fOrders s4.1).fID) (TSpan.mk ((rdL p0.fOrders s4.1).fH.fLo) ((rdL p0.fOrders s4.1).fH.fHi)) ((rdL p0.fOrders s4.1).fD) ((rdL p0.fOrders s4.1).fW)) (fun x10 => fi x10 p0 s4.1) cap0 y11 hy12 W2 86 [] [.pointer (some ⟨b1,0,none⟩),.pointer (some ⟨b8,0,none⟩)] go_86 (fun W3 hb x y hxy => jQ  x p0 s4.1 y hxy W3 b1 Aa p0.fB.length ca rfl (((RdL.arg hr0_0) W2 hW2).later hb) Ab p0.fOrders.length cb rfl (((RdL.arg hr0_1) W2 hW2).later hb) (((RdL.cells 0 rfl) W2 hW2).later hb) b8 (((RdL.cells 2 rfl) W2 hW2).later hb)) bc0 ((RdL.arg hcap0) W2 hW2))) (oN (eT ?_))
   rcases iOs h with ⟨hp13,h⟩ | ⟨hp13,h⟩
   ·refine cT (vB hp13) (cR (oY rfl (yMS rfl) (oY rfl (yFA jR rfl) (oY rfl (yL 3 aV rfl rfl rfl) ?_))))
    refine aG 1 (encL cI [(rdL p0.fOrders s4.1).fID]) _ nF dH l5 pn (by decide) (by decide) (by kernel_rfl) (eL aJ rfl) rfl (fun b14 => ?_)
    obtain ⟨hg17,h⟩:=gOs h
    refine bn 1 dH l5 pn rfl rfl rfl (RdL.row 4 rfl) (eL aJ rfl) (bO ou _) (bW hg17 (by decide)) rfl (fun A15 c16 => ?_)
    refine oY rfl (yAS rfl) (oN (aw (eT (cR (oY rfl (aX rfl rfl) (oY rfl (yMI rfl) (oN (aQ 2 ?_))))))))
    obtain rfl:=sI h
    exact eN ⟨_,A15,c16,(s4.2.length + 1),(dT rfl rfl),rfl,(kp4 (kp (kp (kp rfl))))⟩
   ·refine cF (vB hp13) (cK (aw (eT (cR (oY rfl (aX rfl rfl) (oY rfl (yMI rfl) (oN (aQ 2 ?_))))))))
    obtain rfl:=sI h
    exact eN ⟨_,A1_s4,c1_s4,s4.2.length,rfl,rfl,(kp4 (kp (kp (kp rfl))))⟩
  ·refine cF (vB hp6) (aH (ah ?_))
   obtain rfl:=sI h
   exact ax ⟨rfl,_,A1_s4,c1_s4,s4.2.length,rfl,rfl,(kp4 (kp (kp (kp rfl))))⟩
 ·intro e L tm hJ
  obtain ⟨rfl,tm0_u5,A1_u5,c1_u5,n1_u5,rfl,rfl,rfl⟩:=hJ
  refine ⟨(by intro hc; cases hc),?_⟩
  refine ac (eT (cS (cR (oY rfl (yMS rfl) ?_))))
  obtain ⟨y19,hy20,h⟩:=bOs h
  refine dE 1 [.slice A1_u5 u5.2.length c1_u5] (fun (_:Unit) => u5.2.length = y19.length) (fun _ => .tuple #[]) (fun _ => aI A1_u5 c1_u5 3 1 u5.2.length (encL cI y19)) (fun _ => []) rfl rfl go_37 rfl (fun W2 hW2 => (dP u5.2 y19 hy20 W2 _ (cD [aj b1 57 [.slice Aa p0.fB.length ca,.slice Ab p0.fOrders.length cb],aI A1_u5 c1_u5 3 1 u5.2.length (encL cI u5.2)] [1]) A1_u5 u5.2.length c1_u5 rfl hW2).mono (fun e W3 h3 => ⟨(),h3.2.1,h3.1,h3.2.2⟩)) ?_
  rintro - hn21
  try dsimp only [lsz,lss,List.append_nil]
  refine oN (eT (cS (cR (oY rfl (yMS rfl) (oY rfl (yAS rfl) (oN (eT (al ?_))))))))
  obtain rfl:=sI h
  exact ap (.inl rfl) rfl (rVt (v:=.slice A1_u5 u5.2.length c1_u5) rfl) (fun W2 hW2 => ⟨(A1_u5,u5.2.length,c1_u5),hn21,rfl,(hW2.pick 1 rfl)⟩)
theorem kn (p0:TY) (cap0:Int) (res:(List Int)) (h:f6 p0 cap0 = some res) (W:World) (Aa:Option Addr) (n0_0 ca : Nat) (hn0_0:n0_0 = p0.fB.length) (hr0_0:Rd W Aa n0_0 ca (encL aD p0.fB)) (Ab:Option Addr) (n0_1 cb : Nat) (hn0_1:n0_1 = p0.fOrders.length) (hr0_1:Rd W Ab n0_1 cb (encL aA p0.fOrders)) (bc0:Nat) (hcap0:Rd W (some ⟨bc0,0,none⟩) 1 1 (cI cap0)) :
  Calls Tryz.prog 57 [.agg #[.slice Aa n0_0 ca,.slice Ab n0_1 cb],.func (.func 59) #[] #[.pointer (some ⟨bc0,0,none⟩)]].toArray W fun e W2 => ∃ x : Option Addr × Nat × Nat,x.2.1 = res.length ∧ e = .returned (.slice x.1 x.2.1 x.2.2) ∧ Ext W W2 [aI x.1 x.2.2 3 1 x.2.1 (encL cI res)]:=by
 subst hn0_0
 subst hn0_1
 unfold f6 at h
 refine ad (m:=31) Tryz.func57 rfl rfl (nB rfl) (cS (cR ?_))
 refine aO [.slice Aa p0.fB.length ca,.slice Ab p0.fOrders.length cb] rfl rfl rfl (fun b1 => ?_)
 refine oY rfl (yAS rfl) (oN (eT (cS (cR (oY rfl (yAS rfl) (oN (eT (cS (cS (cR (oY rfl (yFA cn rfl) (oY rfl (yL 0 go rfl rfl rfl) (oY rfl (bd (us:=[]) kN rfl) (oY rfl (yMI rfl) (oN (eT (cB ?_)))))))))))))))))
 obtain ⟨u5,hl18,h⟩:=bOs h
 refine ci 3 1 ?_
 refine bc (fun (s:(Int × (List Int))) L tm => ∃ (tm0:Nat → Value) (A1_s:Option Addr) (c1_s:Nat) (n1_s:Nat),n1_s = s.2.length ∧ L = [aj b1 57 [.slice Aa p0.fB.length ca,.slice Ab p0.fOrders.length cb],aI A1_s c1_s 3 1 n1_s (encL cI s.2)] ∧ tm = (upd (upd (upd (upd (upd (upd (upd tm0 1 (.func (.func 59) #[] #[slA (some ⟨bc0,0,none⟩) 0])) 2 (.pointer (some ⟨b1,0,none⟩))) 4 (.slice none 0 0)) 5 (.slice A1_s n1_s c1_s)) 10 (.slice Ab p0.fOrders.length cb)) 11 (vI (p0.fOrders.length:Int))) 12 (vI s.1))) 0 hl18 ⟨_,none,0,0,rfl,rfl,(kp4 (kp (kp (kp rfl))))⟩ ?_ ?_
 ·rintro s4 L tm st ⟨tm0_s4,A1_s4,c1_s4,n1_s4,rfl,rfl,rfl⟩ h
  unfold gz at h
  refine cS (cR (oY rfl (bm rfl rfl) (oN (eT (cS ?_)))))
  rcases iOs h with ⟨hp6,h⟩ | ⟨hp6,h⟩
  ·refine cT (vB hp6) (cK (eT (cS (cB (cS (cR (oY rfl (yMI rfl) ?_)))))))
   obtain ⟨hg7,h⟩:=gOs h
   refine oY rfl (yI jM (by decide) hg7.1 hg7.2 (RdL.arg hr0_1) (eL au rfl) rfl rfl) ?_
   refine oY rfl (yM (A:=Ab) (j:=(Int.toNat s4.1 * 5)) [vI ((rdL p0.fOrders s4.1).fID),vI ((rdL p0.fOrders s4.1).fH.fLo),vI ((rdL p0.fOrders s4.1).fH.fHi),vI ((rdL p0.fOrders s4.1).fD),vI ((rdL p0.fOrders s4.1).fW)] pC (Nat.succ_pos _) (RdL.arg hr0_1) rfl (aU au hg7.1 (av hg7.2 rfl))) ?_
   refine aB l5 rfl (fun b8 => ?_)
   refine aB nJ rfl (fun b9 => ?_)
   refine bT rfl (cv 2 (v:=vI s4.1) p6 rfl (Nat.lt_of_lt_of_le (Nat.lt_succ_self _) (nB rfl)) rfl rfl rfl) (bT rfl (yS 3 [vI ((rdL p0.fOrders s4.1).fID),vI ((rdL p0.fOrders s4.1).fH.fLo),vI ((rdL p0.fOrders s4.1).fH.fHi),vI ((rdL p0.fOrders s4.1).fD),vI ((rdL p0.fOrders s4.1).fW)] sz_96 rfl (nB rfl) rfl rfl rfl) (oN (eT (cS (cR (oY rfl (cw [.pointer (some ⟨b1,0,none⟩),.pointer (some ⟨b8,0,none⟩)] rfl rfl) (oY rfl (eo rfl) (oN (eT (cS (cR (oY rfl (c3 rfl) (oY rfl (yN 3 [vI ((rdL p0.fOrders s4.1).fID),vI ((rdL p0.fOrders s4.1).fH.fLo),vI ((rdL p0.fOrders s4.1).fH.fHi),vI ((rdL p0.fOrders s4.1).fD),vI ((rdL p0.fOrders s4.1).fW)] pC rfl rfl rfl) (oY rfl (c3 rfl) ?_))))))))))))))
   obtain ⟨y11,hy12,h⟩:=bOs h
   refine oY rfl (m6 (caps:=[slA (some ⟨bc0,0,none⟩) 0]) [.agg #[vI ((rdL p0.fOrders s4.1).fID),vI ((rdL p0.fOrders s4.1).fH.fLo),vI ((rdL p0.fOrders s4.1).fH.fHi),vI ((rdL p0.fOrders s4.1).fD),vI ((rdL p0.fOrders s4.1).fW)],.func (.func 86) #[] #[.pointer (some ⟨b1,0,none⟩),.pointer (some ⟨b8,0,none⟩)]] go_59 rfl rfl (fun W2 hW2 => nD (TO.mk ((rdL p0.fOrders s4.1).fID) (TSpan.mk ((rdL p0.fOrders s4.1).fH.fLo) ((rdL p0.fOrders s4.1).fH.fHi)) ((rdL p0.fOrders s4.1).fD) ((rdL p0.fOrders s4.1).fW)) (fun x10 => fi x10 p0 s4.1) cap0 y11 hy12 W2 86 [] [.pointer (some ⟨b1,0,none⟩),.pointer (some ⟨b8,0,none⟩)] go_86 (fun W3 hb x y hxy => jQ  x p0 s4.1 y hxy W3 b1 Aa p0.fB.length ca rfl (((RdL.arg hr0_0) W2 hW2).later hb) Ab p0.fOrders.length cb rfl (((RdL.arg hr0_1) W2 hW2).later hb) (((RdL.cells 0 rfl) W2 hW2).later hb) b8 (((RdL.cells 2 rfl) W2 hW2).later hb)) bc0 ((RdL.arg hcap0) W2 hW2))) (oN (eT ?_))
   rcases iOs h with ⟨hp13,h⟩ | ⟨hp13,h⟩
   ·refine cT (vB hp13) (cR (oY rfl (yMS rfl) (oY rfl (yFA jR rfl) (oY rfl (yL 3 aV rfl rfl rfl) ?_))))
    refine aG 1 (encL cI [(rdL p0.fOrders s4.1).fID]) _ nF dH l5 pn (by decide) (by decide) (by kernel_rfl) (eL aJ rfl) rfl (fun b14 => ?_)
    obtain ⟨hg17,h⟩:=gOs h
    refine bn 1 dH l5 pn rfl rfl rfl (RdL.row 4 rfl) (eL aJ rfl) (bO ou _) (bW hg17 (by decide)) rfl (fun A15 c16 => ?_)
    refine oY rfl (yAS rfl) (oN (aw (eT (cR (oY rfl (aX rfl rfl) (oY rfl (yMI rfl) (oN (aQ 2 ?_))))))))
    obtain rfl:=sI h
    exact eN ⟨_,A15,c16,(s4.2.length + 1),(dT rfl rfl),rfl,(kp4 (kp (kp (kp rfl))))⟩
   ·refine cF (vB hp13) (cK (aw (eT (cR (oY rfl (aX rfl rfl) (oY rfl (yMI rfl) (oN (aQ 2 ?_))))))))
    obtain rfl:=sI h
    exact eN ⟨_,A1_s4,c1_s4,s4.2.length,rfl,rfl,(kp4 (kp (kp (kp rfl))))⟩
  ·refine cF (vB hp6) (aH (ah ?_))
   obtain rfl:=sI h
   exact ax ⟨rfl,_,A1_s4,c1_s4,s4.2.length,rfl,rfl,(kp4 (kp (kp (kp rfl))))⟩
 ·intro e L tm hJ
  obtain ⟨rfl,tm0_u5,A1_u5,c1_u5,n1_u5,rfl,rfl,rfl⟩:=hJ
  refine ⟨(by intro hc; cases hc),?_⟩
  refine ac (eT (cS (cR (oY rfl (yMS rfl) ?_))))
  obtain ⟨y19,hy20,h⟩:=bOs h
  refine dE 1 [.slice A1_u5 u5.2.length c1_u5] (fun (_:Unit) => u5.2.length = y19.length) (fun _ => .tuple #[]) (fun _ => aI A1_u5 c1_u5 3 1 u5.2.length (encL cI y19)) (fun _ => []) rfl rfl go_37 rfl (fun W2 hW2 => (dP u5.2 y19 hy20 W2 _ (cD [aj b1 57 [.slice Aa p0.fB.length ca,.slice Ab p0.fOrders.length cb],aI A1_u5 c1_u5 3 1 u5.2.length (encL cI u5.2)] [1]) A1_u5 u5.2.length c1_u5 rfl hW2).mono (fun e W3 h3 => ⟨(),h3.2.1,h3.1,h3.2.2⟩)) ?_
  rintro - hn21
  try dsimp only [lsz,lss,List.append_nil]
  refine oN (eT (cS (cR (oY rfl (yMS rfl) (oY rfl (yAS rfl) (oN (eT (al ?_))))))))
  obtain rfl:=sI h
  exact ap (.inl rfl) rfl (rVt (v:=.slice A1_u5 u5.2.length c1_u5) rfl) (fun W2 hW2 => ⟨(A1_u5,u5.2.length,c1_u5),hn21,rfl,(hW2.pick 1 rfl)⟩)
theorem nK (p0:TY) (res:((List Int) × Int)) (h:kF p0 = some res) (W:World) (Aa:Option Addr) (n0_0 ca : Nat) (hn0_0:n0_0 = p0.fB.length) (hr0_0:Rd W Aa n0_0 ca (encL aD p0.fB)) (Ab:Option Addr) (n0_1 cb : Nat) (hn0_1:n0_1 = p0.fOrders.length) (hr0_1:Rd W Ab n0_1 cb (encL aA p0.fOrders)) :
  Calls Tryz.prog 24 [.agg #[.slice Aa n0_0 ca,.slice Ab n0_1 cb]].toArray W fun e W2 => ∃ x : Option Addr × Nat × Nat,x.2.1 = res.1.length ∧ e = .returned (.tuple #[.slice x.1 x.2.1 x.2.2,vI res.2]) ∧ Ext W W2 [aI x.1 x.2.2 3 1 x.2.1 (encL cI res.1)]:=by
 subst hn0_0
 subst hn0_1
 unfold kF at h
 refine ad (m:=16) Tryz.func24 rfl rfl (nB rfl) (cS (cR ?_))
 refine aO [.slice Aa p0.fB.length ca,.slice Ab p0.fOrders.length cb] rfl rfl rfl (fun b1 => ?_)
 refine oY rfl (yAS rfl) (oY rfl (yAI rfl) (oN (eT (cS (cS (cR (oY rfl (yN 0 [.slice Aa p0.fB.length ca,.slice Ab p0.fOrders.length cb] dc rfl rfl rfl) ?_)))))))
 obtain ⟨y2,hy3,h⟩:=bOs h
 refine oY rfl (yC [.agg #[.slice Aa p0.fB.length ca,.slice Ab p0.fOrders.length cb]] sD rfl (fun W2 hW2 => dr p0 y2 hy3 W2 Aa p0.fB.length ca rfl ((RdL.arg hr0_0) W2 hW2) Ab p0.fOrders.length cb rfl ((RdL.arg hr0_1) W2 hW2)) rfl) (oY rfl (yAI rfl) (oN (eT (cS (cR (oY rfl (yMI rfl) (oY rfl (db rfl rfl) (oN (eT ?_)))))))))
 rcases iOs h with ⟨hp4,h⟩ | ⟨hp4,h⟩
 ·refine cT (vB hp4) (cS (cR (oY rfl (yMI rfl) (oY rfl (yAS rfl) (oY rfl (yAI rfl) (oN (eT (al (aa ?_)))))))))
  obtain rfl:=sI h
  exact bp (.inl rfl) rfl (rVt (v:=.slice none 0 0) rfl) (rVt (v:=vI y2) rfl) (fun W2 hW2 => ⟨(none,0,0),rfl,rfl,((hW2.nilrow 3 1).pick 1 rfl)⟩)
 ·refine cF (vB hp4) (cK (eT (cS (cR (oY rfl (yN 0 [.slice Aa p0.fB.length ca,.slice Ab p0.fOrders.length cb] dc rfl rfl rfl) ?_)))))
  obtain ⟨y5,hy6,h⟩:=bOs h
  refine oY rfl (yC [.agg #[.slice Aa p0.fB.length ca,.slice Ab p0.fOrders.length cb]] rz rfl (fun W2 hW2 => ex p0 y5 hy6 W2 Aa p0.fB.length ca rfl ((RdL.arg hr0_0) W2 hW2) Ab p0.fOrders.length cb rfl ((RdL.arg hr0_1) W2 hW2)) rfl) ?_
  refine aB l5 rfl (fun b7 => ?_)
  refine bT rfl (cv 1 (v:=vI y5) p6 rfl (Nat.lt_of_lt_of_le (Nat.lt_succ_self _) (nB rfl)) rfl rfl rfl) (oN (eT (cS (cR (oY rfl (yN 0 [.slice Aa p0.fB.length ca,.slice Ab p0.fOrders.length cb] dc rfl rfl rfl) (oY rfl (cw [.pointer (some ⟨b7,0,none⟩)] rfl rfl) ?_))))))
  obtain ⟨y8,hy9,h⟩:=bOs h
  refine oC [.agg #[.slice Aa p0.fB.length ca,.slice Ab p0.fOrders.length cb],.func (.func 58) #[] #[.pointer (some ⟨b7,0,none⟩)]] _ _ _ rfl go_57 rfl (fun W2 hW2 => j6 p0 y5 y8 hy9 W2 Aa p0.fB.length ca rfl ((RdL.arg hr0_0) W2 hW2) Ab p0.fOrders.length cb rfl ((RdL.arg hr0_1) W2 hW2) b7 ((RdL.cells 1 rfl) W2 hW2)) ?_
  rintro ⟨A12,n10,c13⟩ hn11
  replace hn11 : n10 = y8.length:=hn11; subst hn11
  refine oY rfl (yAS rfl) (oY rfl (yAI rfl) (oN (eT (al ?_))))
  obtain rfl:=sI h
  exact bp (.inl rfl) rfl (rVt (v:=.slice A12 y8.length c13) rfl) (rVt (v:=vI 0) rfl) (fun W2 hW2 => ⟨(A12,y8.length,c13),rfl,rfl,(hW2.pick 2 rfl)⟩)
theorem oZ (p0:TY) (res:((List Int) × Int)) (h:lL p0 = some res) (W:World) (Aa:Option Addr) (n0_0 ca : Nat) (hn0_0:n0_0 = p0.fB.length) (hr0_0:Rd W Aa n0_0 ca (encL aD p0.fB)) (Ab:Option Addr) (n0_1 cb : Nat) (hn0_1:n0_1 = p0.fOrders.length) (hr0_1:Rd W Ab n0_1 cb (encL aA p0.fOrders)) :
  Calls Tryz.prog 25 [.agg #[.slice Aa n0_0 ca,.slice Ab n0_1 cb]].toArray W fun e W2 => ∃ x : Option Addr × Nat × Nat,x.2.1 = res.1.length ∧ e = .returned (.tuple #[.slice x.1 x.2.1 x.2.2,vI res.2]) ∧ Ext W W2 [aI x.1 x.2.2 3 1 x.2.1 (encL cI res.1)]:=by
 subst hn0_0
 subst hn0_1
 unfold lL at h
 refine ad (m:=16) Tryz.func25 rfl rfl (nB rfl) (cS (cR ?_))
 refine aO [.slice Aa p0.fB.length ca,.slice Ab p0.fOrders.length cb] rfl rfl rfl (fun b1 => ?_)
 refine oY rfl (yAS rfl) (oY rfl (yAI rfl) (oN (eT (cS (cS (cR (oY rfl (yN 0 [.slice Aa p0.fB.length ca,.slice Ab p0.fOrders.length cb] dc rfl rfl rfl) ?_)))))))
 obtain ⟨y2,hy3,h⟩:=bOs h
 refine oY rfl (yC [.agg #[.slice Aa p0.fB.length ca,.slice Ab p0.fOrders.length cb]] sD rfl (fun W2 hW2 => dr p0 y2 hy3 W2 Aa p0.fB.length ca rfl ((RdL.arg hr0_0) W2 hW2) Ab p0.fOrders.length cb rfl ((RdL.arg hr0_1) W2 hW2)) rfl) (oY rfl (yAI rfl) (oN (eT (cS (cR (oY rfl (yMI rfl) (oY rfl (db rfl rfl) (oN (eT ?_)))))))))
 rcases iOs h with ⟨hp4,h⟩ | ⟨hp4,h⟩
 ·refine cT (vB hp4) (cS (cR (oY rfl (yMI rfl) (oY rfl (yAS rfl) (oY rfl (yAI rfl) (oN (eT (al (aa ?_)))))))))
  obtain rfl:=sI h
  exact bp (.inl rfl) rfl (rVt (v:=.slice none 0 0) rfl) (rVt (v:=vI y2) rfl) (fun W2 hW2 => ⟨(none,0,0),rfl,rfl,((hW2.nilrow 3 1).pick 1 rfl)⟩)
 ·refine cF (vB hp4) (cK (eT (cS (cR (oY rfl (yN 0 [.slice Aa p0.fB.length ca,.slice Ab p0.fOrders.length cb] dc rfl rfl rfl) ?_)))))
  obtain ⟨y5,hy6,h⟩:=bOs h
  refine oY rfl (yC [.agg #[.slice Aa p0.fB.length ca,.slice Ab p0.fOrders.length cb]] rz rfl (fun W2 hW2 => ex p0 y5 hy6 W2 Aa p0.fB.length ca rfl ((RdL.arg hr0_0) W2 hW2) Ab p0.fOrders.length cb rfl ((RdL.arg hr0_1) W2 hW2)) rfl) ?_
  refine aB l5 rfl (fun b7 => ?_)
  refine bT rfl (cv 1 (v:=vI y5) p6 rfl (Nat.lt_of_lt_of_le (Nat.lt_succ_self _) (nB rfl)) rfl rfl rfl) (oN (eT (cS (cR (oY rfl (yN 0 [.slice Aa p0.fB.length ca,.slice Ab p0.fOrders.length cb] dc rfl rfl rfl) (oY rfl (cw [.pointer (some ⟨b7,0,none⟩)] rfl rfl) ?_))))))
  obtain ⟨y8,hy9,h⟩:=bOs h
  refine oC [.agg #[.slice Aa p0.fB.length ca,.slice Ab p0.fOrders.length cb],.func (.func 59) #[] #[.pointer (some ⟨b7,0,none⟩)]] _ _ _ rfl go_57 rfl (fun W2 hW2 => kn p0 y5 y8 hy9 W2 Aa p0.fB.length ca rfl ((RdL.arg hr0_0) W2 hW2) Ab p0.fOrders.length cb rfl ((RdL.arg hr0_1) W2 hW2) b7 ((RdL.cells 1 rfl) W2 hW2)) ?_
  rintro ⟨A12,n10,c13⟩ hn11
  replace hn11 : n10 = y8.length:=hn11; subst hn11
  refine oY rfl (yAS rfl) (oY rfl (yAI rfl) (oN (eT (al ?_))))
  obtain rfl:=sI h
  exact bp (.inl rfl) rfl (rVt (v:=.slice A12 y8.length c13) rfl) (rVt (v:=vI 0) rfl) (fun W2 hW2 => ⟨(A12,y8.length,c13),rfl,rfl,(hW2.pick 2 rfl)⟩)
theorem o9 (p0:Int) (cap0:(List (Int × Int))) (cap1:TY) (res:(Bool × (List (Int × Int)))) (h:lZ p0 cap0 cap1 = some res) (W:World) (w0:World) (R:Res) (bmc0:Nat) (bc0:Nat) (hcap0:∀ W2,Below w0.heap.size w0 W2 → R.holds W2 → Rd W2 (some ⟨bc0,0,none⟩) 1 1 [.map (some bmc0)]) (bc1:Nat) (A101_0:Option Addr) (n101_0 c101_0 : Nat) (hn101_0:n101_0 = cap1.fB.length) (hr101_0:∀ W2,Below w0.heap.size w0 W2 → R.holds W2 → Rd W2 A101_0 n101_0 c101_0 (encL aD cap1.fB)) (A101_1:Option Addr) (n101_1 c101_1 : Nat) (hn101_1:n101_1 = cap1.fOrders.length) (hr101_1:∀ W2,Below w0.heap.size w0 W2 → R.holds W2 → Rd W2 A101_1 n101_1 c101_1 (encL aA cap1.fOrders)) (hcap1:∀ W2,Below w0.heap.size w0 W2 → R.holds W2 → Rd W2 (some ⟨bc1,0,none⟩) 1 1 [.slice A101_0 n101_0 c101_0,.slice A101_1 n101_1 c101_1]) (hW:Ext w0 W [R,mapV Tryz.prog 3 kI em kI 0 bmc0 cap0]) :
  Calls Tryz.prog 91 [vI p0,.pointer (some ⟨bc0,0,none⟩),.pointer (some ⟨bc1,0,none⟩)].toArray W fun e W2 => ∃ x : Unit,True ∧ e = .returned (.bool res.1) ∧ Ext w0 W2 [R,mapV Tryz.prog 3 kI em kI 0 bmc0 res.2]:=by
 subst hn101_0
 subst hn101_1
 unfold lZ at h
 refine aM (m:=12) Tryz.func91 rfl rfl (nB rfl) hW (cS (cR (oY rfl (yAB rfl) (oN (eT (cS ?_))))))
 refine ba 5 cm (by kernel_rfl) (by kernel_rfl) ?_
 refine qY rfl (yR (A:=(some ⟨bc0,0,none⟩)) (j:=0) (v:=.map (some bmc0)) qS (RdL.under hcap0) rfl rfl) (qY rfl (yM (A:=(some ⟨bc1,0,none⟩)) (j:=0) [.slice A101_0 cap1.fB.length c101_0,.slice A101_1 cap1.fOrders.length c101_1] dc (Nat.succ_pos _) (RdL.under hcap1) rfl (pp rfl)) (qY rfl (yM (A:=(some ⟨bc1,0,none⟩)) (j:=0) [.slice A101_0 cap1.fB.length c101_0,.slice A101_1 cap1.fOrders.length c101_1] dc (Nat.succ_pos _) (RdL.under hcap1) rfl (pp rfl)) (qY rfl (yMI rfl) ?_)))
 obtain ⟨y1,hy2,h⟩:=bOs h
 refine qY rfl (yC [.agg #[.slice A101_0 cap1.fB.length c101_0,.slice A101_1 cap1.fOrders.length c101_1],vI p0] go_60 rfl (fun W2 hW2 => jg cap1 p0 y1 hy2 W2 A101_0 cap1.fB.length c101_0 rfl ((RdL.under hr101_0) W2 hW2) A101_1 cap1.fOrders.length c101_1 rfl ((RdL.under hr101_1) W2 hW2)) rfl) (bX ?_)
 obtain ⟨y3,hy4,h⟩:=bOs h
 refine fF [1] [] [.map (some bmc0),.agg #[.slice A101_0 cap1.fB.length c101_0,.slice A101_1 cap1.fOrders.length c101_1],vI y1] [] (fun (_:Unit) => True) (fun _ => .bool y3.1) (fun _ => [mapV Tryz.prog 3 kI em kI 0 bmc0 y3.2]) (fun _ => []) (Foc.c1 rfl) (by decide) rfl go_85 rfl rfl (fun _ => rfl) (fun W2 hW2 => iu cap0 cap1 y1 y3 hy4 W2 _ (cD [R,mapV Tryz.prog 3 kI em kI 0 bmc0 cap0] [1]) bmc0 A101_0 cap1.fB.length c101_0 rfl (fun W3 hb hR => (RdL.under hr101_0) W3 (hW2.restL hb hR)) A101_1 cap1.fOrders.length c101_1 rfl (fun W3 hb hR => (RdL.under hr101_1) W3 (hW2.restL hb hR)) hW2) ?_
 rintro - -
 try dsimp only [kO,lsz,lss,List.append_nil]
 refine oY rfl (bM rfl) (oY rfl (yAB rfl) (oN (eT (al ?_))))
 obtain rfl:=sI h
 exact ap (.inl rfl) rfl (rVt (v:=.bool (!y3.1)) rfl) (fun W2 hW2 => ⟨(),trivial,rfl,hW2.take 2⟩)
theorem fI (p0:(List Int)) (cap0:(List (Int × Int))) (cap1:TY) (res:(Int × (List (Int × Int)))) (h:cy p0 cap0 cap1 = some res) (W:World) (w0:World) (R:Res) (bmc0:Nat) (Aa:Option Addr) (n0_0 ca : Nat) (hn0_0:n0_0 = p0.length) (hr0_0:∀ W2,Below w0.heap.size w0 W2 → R.holds W2 → Rd W2 Aa n0_0 ca (encL cI p0)) (bc0:Nat) (hcap0:∀ W2,Below w0.heap.size w0 W2 → R.holds W2 → Rd W2 (some ⟨bc0,0,none⟩) 1 1 [.map (some bmc0)]) (bc1:Nat) (A101_0:Option Addr) (n101_0 c101_0 : Nat) (hn101_0:n101_0 = cap1.fB.length) (hr101_0:∀ W2,Below w0.heap.size w0 W2 → R.holds W2 → Rd W2 A101_0 n101_0 c101_0 (encL aD cap1.fB)) (A101_1:Option Addr) (n101_1 c101_1 : Nat) (hn101_1:n101_1 = cap1.fOrders.length) (hr101_1:∀ W2,Below w0.heap.size w0 W2 → R.holds W2 → Rd W2 A101_1 n101_1 c101_1 (encL aA cap1.fOrders)) (hcap1:∀ W2,Below w0.heap.size w0 W2 → R.holds W2 → Rd W2 (some ⟨bc1,0,none⟩) 1 1 [.slice A101_0 n101_0 c101_0,.slice A101_1 n101_1 c101_1]) (hW:Ext w0 W [R,mapV Tryz.prog 3 kI em kI 0 bmc0 cap0]) :
  Calls Tryz.prog 92 [.slice Aa n0_0 ca,.func (.func 91) #[] #[.pointer (some ⟨bc0,0,none⟩),.pointer (some ⟨bc1,0,none⟩)]].toArray W fun e W2 => ∃ x : Unit,True ∧ e = .returned (vI res.1) ∧ Ext w0 W2 [R,mapV Tryz.prog 3 kI em kI 0 bmc0 res.2]:=by
 subst hn0_0
 subst hn101_0
 subst hn101_1
 unfold cy at h
 refine aM (m:=19) Tryz.func92 rfl rfl (nB rfl) hW (cS (cR (oY rfl (yAI rfl) (oN (eT (cS (cS (cR (oY rfl (yMS rfl) (oY rfl (bd (us:=[]) dH rfl) (oY rfl (yMI rfl) (oN (eT (cB ?_))))))))))))))
 obtain ⟨u4,hl10,h⟩:=bOs h
 refine bB (fun (s:(Int × Int × (List (Int × Int)))) L tm => ∃ (tm0:Nat → Value),L = [R,mapV Tryz.prog 3 kI em kI 0 bmc0 s.2.2] ∧ tm = (upd (upd (upd (upd (upd tm0 0 (.slice Aa p0.length ca)) 1 (.func (.func 91) #[] #[slA (some ⟨bc0,0,none⟩) 0,slA (some ⟨bc1,0,none⟩) 0])) 4 (vI s.1)) 7 (vI (p0.length:Int))) 8 (vI s.2.1))) 0 hl10 ⟨_,rfl,(kp4 (kp rfl))⟩ ?_ ?_
 ·rintro s3 L tm st ⟨tm0_s3,rfl,rfl⟩ h
  unfold da at h
  refine cS (cR (oY rfl (bm rfl rfl) (oN (eT (cS ?_)))))
  rcases iOs h with ⟨hp5,h⟩ | ⟨hp5,h⟩
  ·refine cT (vB hp5) (cK (eT (cS (cB (cS (cR (oY rfl (yMI rfl) (oY rfl (yAI rfl) (oN (eT (cS (cR (oY rfl (c3 rfl) (oY rfl (yMS rfl) (oY rfl (yMI rfl) ?_)))))))))))))))
   obtain ⟨hg6,h⟩:=gOs h
   refine oY rfl (yI d7 (by decide) hg6.1 hg6.2 (RdL.under hr0_0) (eL aJ rfl) rfl rfl) ?_
   refine oY rfl (yR (A:=Aa) (j:=(Int.toNat s3.2.1 * 1)) (v:=vI (rdL p0 s3.2.1)) aV (RdL.under hr0_0) rfl (a6 aJ hg6.1 (av hg6.2 rfl) rfl)) ?_
   obtain ⟨y7,hy8,h⟩:=bOs h
   refine fF [1] [] [vI (rdL p0 s3.2.1)] [slA (some ⟨bc0,0,none⟩) 0,slA (some ⟨bc1,0,none⟩) 0] (fun (_:Unit) => True) (fun _ => .bool y7.1) (fun _ => [mapV Tryz.prog 3 kI em kI 0 bmc0 y7.2]) (fun _ => []) (Foc.c1 rfl) (by decide) rfl go_91 rfl rfl (fun _ => rfl) (fun W2 hW2 => o9 (rdL p0 s3.2.1) s3.2.2 cap1 y7 hy8 W2 _ (cD [R,mapV Tryz.prog 3 kI em kI 0 bmc0 s3.2.2] [1]) bmc0 bc0 (fun W3 hb hR => (RdL.under hcap0) W3 (hW2.restL hb hR)) bc1 A101_0 cap1.fB.length c101_0 rfl (fun W3 hb hR => (RdL.under hr101_0) W3 (hW2.restL hb hR)) A101_1 cap1.fOrders.length c101_1 rfl (fun W3 hb hR => (RdL.under hr101_1) W3 (hW2.restL hb hR)) (fun W3 hb hR => (RdL.under hcap1) W3 (hW2.restL hb hR)) hW2) ?_
   rintro - -
   try dsimp only [kO,lsz,lss,List.append_nil]
   refine oN (eT ?_)
   rcases iOs h with ⟨hp9,h⟩ | ⟨hp9,h⟩
   ·refine cT (vB hp9) (cS (cR (oY rfl (yMI rfl) (oY rfl (yAI rfl) (oN (eT (al (ai (aa ?_)))))))))
    obtain rfl:=sI h
    exact ax ⟨rfl,_,rfl,(kp4 (kp rfl))⟩
   ·refine cF (vB hp9) (cK (aw (eT (cR (oY rfl (aX rfl rfl) (oY rfl (yMI rfl) (oN ?_)))))))
    obtain rfl:=sI h
    exact eN ⟨_,rfl,(kp4 (kp rfl))⟩
  ·refine cF (vB hp5) (aH (ah ?_))
   obtain rfl:=sI h
   exact ax ⟨rfl,_,rfl,(kp4 (kp rfl))⟩
 ·intro e L tm hJ
  rcases u4 with u11 | u12
  ·dsimp only at h hJ
   obtain ⟨rfl,tm0_u11,rfl,rfl⟩:=hJ
   refine ⟨(by intro hc; cases hc),?_⟩
   refine ai (aa ?_)
   obtain rfl:=sI h
   exact ap (.inl rfl) rfl (rVt (v:=vI u11.1) rfl) (fun W2 hW2 => ⟨(),trivial,rfl,hW2.take 2⟩)
  ·dsimp only at h hJ
   obtain ⟨rfl,tm0_u12,rfl,rfl⟩:=hJ
   refine ⟨(by intro hc; cases hc),?_⟩
   refine ac (eT (cS (cR (oY rfl (yAI rfl) (oN (eT (al ?_)))))))
   obtain rfl:=sI h
   exact ap (.inl rfl) rfl (rVt (v:=vI (-1)) rfl) (fun W2 hW2 => ⟨(),trivial,rfl,hW2.take 2⟩)
end Go.Proofs.YthndghnkebboaabGreat
set_option maxHeartbeats 4000000
set_option maxRecDepth 100000
namespace Go.Proofs.YthndghnkebboaabGreat
open Go.RowKit (Below)
attribute [local irreducible] OX QX CX EX OpY Calls CallsIn
theorem gR (p0:(List Int)) (p1:Int → Option Bool) (res:Int) (h:dh p0 p1 = some res) (W:World) (Aa:Option Addr) (n0_0 ca : Nat) (hn0_0:n0_0 = p0.length) (hr0_0:Rd W Aa n0_0 ca (encL cI p0)) (fid1:Nat) (fst1 caps1 : List Value) (hgo1:bx Tryz.prog fid1 = true) (hof1:∀ W2,Below W.heap.size W W2 → ∀ x,∀ y,p1 x = some y → Calls Tryz.prog fid1 (fst1 ++ (([vI x] : List Value) ++ caps1)).toArray W2 fun e W3 => e = .returned (.bool y) ∧ Ext W2 W3 []) :
  Calls Tryz.prog 92 [.slice Aa n0_0 ca,.func (.func fid1) fst1.toArray caps1.toArray].toArray W fun e W2 => e = .returned (vI res) ∧ Ext W W2 []:=by
 subst hn0_0
 unfold dh at h
 refine ad (m:=19) Tryz.func92 rfl rfl (nB rfl) (cS (cR (oY rfl (yAI rfl) (oN (eT (cS (cS (cR (oY rfl (yMS rfl) (oY rfl (bd (us:=[]) dH rfl) (oY rfl (yMI rfl) (oN (eT (cB ?_))))))))))))))
 obtain ⟨u3,hl9,h⟩:=bOs h
 refine bB (fun (s:(Int × Int)) L tm => ∃ (tm0:Nat → Value),L = [] ∧ tm = (upd (upd (upd (upd (upd tm0 0 (.slice Aa p0.length ca)) 1 (.func (.func fid1) fst1.toArray caps1.toArray)) 4 (vI s.1)) 7 (vI (p0.length:Int))) 8 (vI s.2))) 0 hl9 ⟨_,rfl,(kp4 (kp rfl))⟩ ?_ ?_
 ·rintro s2 L tm st ⟨tm0_s2,rfl,rfl⟩ h
  unfold ef at h
  refine cS (cR (oY rfl (bm rfl rfl) (oN (eT (cS ?_)))))
  rcases iOs h with ⟨hp4,h⟩ | ⟨hp4,h⟩
  ·refine cT (vB hp4) (cK (eT (cS (cB (cS (cR (oY rfl (yMI rfl) (oY rfl (yAI rfl) (oN (eT (cS (cR (oY rfl (bH (v:=.func (.func fid1) fst1.toArray caps1.toArray) rfl) (oY rfl (yMS rfl) (oY rfl (yMI rfl) ?_)))))))))))))))
   obtain ⟨hg5,h⟩:=gOs h
   refine oY rfl (yI d7 (by decide) hg5.1 hg5.2 (RdL.arg hr0_0) (eL aJ rfl) rfl rfl) ?_
   refine oY rfl (yR (A:=Aa) (j:=(Int.toNat s2.2 * 1)) (v:=vI (rdL p0 s2.2)) aV (RdL.arg hr0_0) rfl (a6 aJ hg5.1 (av hg5.2 rfl) rfl)) ?_
   obtain ⟨y6,hy7,h⟩:=bOs h
   refine oY rfl (ge [vI (rdL p0 s2.2)] hgo1 rfl rfl (fun W2 hW2 => hof1 W2 hW2.below (rdL p0 s2.2) y6 hy7)) (oN (eT ?_))
   rcases iOs h with ⟨hp8,h⟩ | ⟨hp8,h⟩
   ·refine cT (vB hp8) (cS (cR (oY rfl (yMI rfl) (oY rfl (yAI rfl) (oN (eT (al (ai (aa ?_)))))))))
    obtain rfl:=sI h
    exact ax ⟨rfl,_,rfl,(kp4 (kp rfl))⟩
   ·refine cF (vB hp8) (cK (aw (eT (cR (oY rfl (aX rfl rfl) (oY rfl (yMI rfl) (oN ?_)))))))
    obtain rfl:=sI h
    exact eN ⟨_,rfl,(kp4 (kp rfl))⟩
  ·refine cF (vB hp4) (aH (ah ?_))
   obtain rfl:=sI h
   exact ax ⟨rfl,_,rfl,(kp4 (kp rfl))⟩
 ·intro e L tm hJ
  rcases u3 with u10 | u11
  ·dsimp only at h hJ
   obtain ⟨rfl,tm0_u10,rfl,rfl⟩:=hJ
   refine ⟨(by intro hc; cases hc),?_⟩
   refine ai (aa ?_)
   obtain rfl:=sI h
   exact ap (.inl rfl) rfl (rVt (v:=vI u10.1) rfl) (fun W2 hW2 => ⟨rfl,hW2.none⟩)
  ·dsimp only at h hJ
   obtain ⟨rfl,tm0_u11,rfl,rfl⟩:=hJ
   refine ⟨(by intro hc; cases hc),?_⟩
   refine ac (eT (cS (cR (oY rfl (yAI rfl) (oN (eT (al ?_)))))))
   obtain rfl:=sI h
   exact ap (.inl rfl) rfl (rVt (v:=vI (-1)) rfl) (fun W2 hW2 => ⟨rfl,hW2.none⟩)
theorem jq (p0:(List Int)) (cap0:(List (Int × Int))) (cap1:TY) (res:(Int × (List (Int × Int)))) (h:eY p0 cap0 cap1 = some res) (W:World) (w0:World) (R:Res) (bmc0:Nat) (Aa:Option Addr) (n0_0 ca : Nat) (hn0_0:n0_0 = p0.length) (hr0_0:∀ W2,Below w0.heap.size w0 W2 → R.holds W2 → Rd W2 Aa n0_0 ca (encL cI p0)) (bc0:Nat) (hcap0:∀ W2,Below w0.heap.size w0 W2 → R.holds W2 → Rd W2 (some ⟨bc0,0,none⟩) 1 1 [.map (some bmc0)]) (bc1:Nat) (A101_0:Option Addr) (n101_0 c101_0 : Nat) (hn101_0:n101_0 = cap1.fB.length) (hr101_0:∀ W2,Below w0.heap.size w0 W2 → R.holds W2 → Rd W2 A101_0 n101_0 c101_0 (encL aD cap1.fB)) (A101_1:Option Addr) (n101_1 c101_1 : Nat) (hn101_1:n101_1 = cap1.fOrders.length) (hr101_1:∀ W2,Below w0.heap.size w0 W2 → R.holds W2 → Rd W2 A101_1 n101_1 c101_1 (encL aA cap1.fOrders)) (hcap1:∀ W2,Below w0.heap.size w0 W2 → R.holds W2 → Rd W2 (some ⟨bc1,0,none⟩) 1 1 [.slice A101_0 n101_0 c101_0,.slice A101_1 n101_1 c101_1]) (hW:Ext w0 W [R,mapV Tryz.prog 3 kI em kI 0 bmc0 cap0]) :
  Calls Tryz.prog 90 [.slice Aa n0_0 ca,.func (.func 91) #[] #[.pointer (some ⟨bc0,0,none⟩),.pointer (some ⟨bc1,0,none⟩)]].toArray W fun e W2 => ∃ x : Unit,True ∧ e = .returned (vI res.1) ∧ Ext w0 W2 [R,mapV Tryz.prog 3 kI em kI 0 bmc0 res.2]:=by
 subst hn0_0
 subst hn101_0
 subst hn101_1
 unfold eY at h
 refine aM (m:=8) Tryz.func90 rfl rfl (nB rfl) hW (cS (cR (oY rfl (yAI rfl) (oN (eT (cS (cR (oY rfl (yMS rfl) (oY rfl (c3 rfl) ?_)))))))))
 obtain ⟨y1,hy2,h⟩:=bOs h
 refine fF [1] [] [.slice Aa p0.length ca,.func (.func 91) #[] #[slA (some ⟨bc0,0,none⟩) 0,slA (some ⟨bc1,0,none⟩) 0]] [] (fun (_:Unit) => True) (fun _ => vI y1.1) (fun _ => [mapV Tryz.prog 3 kI em kI 0 bmc0 y1.2]) (fun _ => []) (Foc.c1 rfl) (by decide) rfl go_92 rfl rfl (fun _ => rfl) (fun W2 hW2 => fI p0 cap0 cap1 y1 hy2 W2 _ (cD [R,mapV Tryz.prog 3 kI em kI 0 bmc0 cap0] [1]) bmc0 Aa p0.length ca rfl (fun W3 hb hR => (RdL.under hr0_0) W3 (hW2.restL hb hR)) bc0 (fun W3 hb hR => (RdL.under hcap0) W3 (hW2.restL hb hR)) bc1 A101_0 cap1.fB.length c101_0 rfl (fun W3 hb hR => (RdL.under hr101_0) W3 (hW2.restL hb hR)) A101_1 cap1.fOrders.length c101_1 rfl (fun W3 hb hR => (RdL.under hr101_1) W3 (hW2.restL hb hR)) (fun W3 hb hR => (RdL.under hcap1) W3 (hW2.restL hb hR)) hW2) ?_
 rintro - -
 try dsimp only [kO,lsz,lss,List.append_nil]
 refine oY rfl (yAI rfl) (oN (eT (al ?_)))
 obtain rfl:=sI h
 exact ap (.inl rfl) rfl (rVt (v:=vI y1.1) rfl) (fun W2 hW2 => ⟨(),trivial,rfl,hW2.take 2⟩)
theorem mX (p0:TY) (p1:(List Int)) (res:Bool) (h:mz p0 p1 = some res) (W:World) (Aa:Option Addr) (n0_0 ca : Nat) (hn0_0:n0_0 = p0.fB.length) (hr0_0:Rd W Aa n0_0 ca (encL aD p0.fB)) (Ab:Option Addr) (n0_1 cb : Nat) (hn0_1:n0_1 = p0.fOrders.length) (hr0_1:Rd W Ab n0_1 cb (encL aA p0.fOrders)) (Ac:Option Addr) (n1_0 cc : Nat) (hn1_0:n1_0 = p1.length) (hr1_0:Rd W Ac n1_0 cc (encL cI p1)) :
  Calls Tryz.prog 61 [.agg #[.slice Aa n0_0 ca,.slice Ab n0_1 cb],.slice Ac n1_0 cc].toArray W fun e W2 => e = .returned (.bool res) ∧ Ext W W2 []:=by
 subst hn0_0
 subst hn0_1
 subst hn1_0
 unfold mz at h
 refine ad (m:=11) Tryz.func61 rfl rfl (nB rfl) (cS (cR ?_))
 refine aO [.slice Aa p0.fB.length ca,.slice Ab p0.fOrders.length cb] rfl rfl rfl (fun b1 => ?_)
 refine oY rfl (yAB rfl) (oN (eT (cS (cR ?_))))
 refine jh 3 kI em kI 0 rfl (fun b2 => ?_)
 refine aB ze_107 rfl (fun b3 => ?_)
 refine bT rfl (cv 2 (v:=.map (some b2)) sz_107 rfl (Nat.lt_of_lt_of_le (Nat.lt_succ_self _) (nB rfl)) rfl rfl rfl) (oN (eT (cS (cR (oY rfl (yMS rfl) (oY rfl (cw [.pointer (some ⟨b3,0,none⟩),.pointer (some ⟨b1,0,none⟩)] rfl rfl) ?_))))))
 obtain ⟨y4,hy5,h⟩:=bOs h
 refine fF [1] [] [.slice Ac p1.length cc,.func (.func 91) #[] #[.pointer (some ⟨b3,0,none⟩),.pointer (some ⟨b1,0,none⟩)]] [] (fun (_:Unit) => True) (fun _ => vI y4.1) (fun _ => [mapV Tryz.prog 3 kI em kI 0 b2 y4.2]) (fun _ => []) (Foc.c1 rfl) (by decide) rfl go_90 rfl rfl (fun _ => rfl) (fun W2 hW2 => jq p1 [] p0 y4 hy5 W2 _ (cD [aj b1 57 [.slice Aa p0.fB.length ca,.slice Ab p0.fOrders.length cb],mapV Tryz.prog 3 kI em kI 0 b2 [],aj b3 107 [.map (some b2)]] [1]) b2 Ac p1.length cc rfl (fun W3 hb hR => (RdL.arg hr1_0) W3 (hW2.restL hb hR)) b3 (fun W3 hb hR => (RdL.cells 2 rfl) W3 (hW2.restL hb hR)) b1 Aa p0.fB.length ca rfl (fun W3 hb hR => (RdL.arg hr0_0) W3 (hW2.restL hb hR)) Ab p0.fOrders.length cb rfl (fun W3 hb hR => (RdL.arg hr0_1) W3 (hW2.restL hb hR)) (fun W3 hb hR => (RdL.cells 0 rfl) W3 (hW2.restL hb hR)) hW2) ?_
 rintro - -
 try dsimp only [kO,lsz,lss,List.append_nil]
 refine oY rfl (bm rfl rfl) (oY rfl (yAB rfl) (oN (eT (al ?_))))
 obtain rfl:=sI h
 exact ap (.inl rfl) rfl (rVt (v:=.bool (decide (y4.1 < 0))) rfl) (fun W2 hW2 => ⟨rfl,hW2.none⟩)
theorem gA (p0:(List Int)) (p1:Int → Option Bool) (res:(List Int)) (h:cW p0 p1 = some res) (W:World) (w0:World) (R:Res) (Aa:Option Addr) (n0_0 ca : Nat) (hn0_0:n0_0 = p0.length) (fid1:Nat) (fst1 caps1 : List Value) (hgo1:bx Tryz.prog fid1 = true) (hof1:∀ W2,Below w0.heap.size w0 W2 → R.holds W2 → ∀ x,∀ y,p1 x = some y → Calls Tryz.prog fid1 (fst1 ++ (([vI x] : List Value) ++ caps1)).toArray W2 fun e W3 => e = .returned (.bool y) ∧ Ext W2 W3 []) (hW:Ext w0 W [R,aI Aa ca 3 1 n0_0 (encL cI p0)]) :
  Calls Tryz.prog 62 [.slice Aa n0_0 ca,.func (.func fid1) fst1.toArray caps1.toArray].toArray W fun e W2 => ∃ k : Nat,k = res.length ∧ e = .returned (.slice Aa k ca) ∧ Ext w0 W2 [R,aI Aa ca 3 1 k (encL cI res)]:=by
 subst hn0_0
 unfold cW at h
 refine aM (m:=42) Tryz.func62 rfl rfl (nB rfl) hW (cS (cR (oY rfl (yAS rfl) (oN (eT (cS (cR (oY rfl (yMS rfl) (oY rfl (bH (v:=.func (.func fid1) fst1.toArray caps1.toArray) rfl) ?_)))))))))
 obtain ⟨y1,hy2,h⟩:=bOs h
 refine oY rfl (yC [.slice Aa p0.length ca,.func (.func fid1) fst1.toArray caps1.toArray] go_92 rfl (fun W2 hW2 => gR p0 p1 y1 hy2 W2 Aa p0.length ca rfl ((RdL.row 1 rfl) W2 hW2) fid1 fst1 caps1 hgo1 (fun W3 hb => hof1 W3 (gm hW2.below hb) ((hW2.below' hb).mem (i:=0) rfl))) rfl) (oY rfl (yAI rfl) (oN (eT (cS (cS (cR (oY rfl (yMI rfl) (oY rfl (dA rfl rfl) (oN (eT ?_))))))))))
 rcases iOs h with ⟨hp3,h⟩ | ⟨hp3,h⟩
 ·refine cT (vB hp3) (cS (cR (oY rfl (yMS rfl) (oY rfl (yAS rfl) (oN (eT (al (aa ?_))))))))
  obtain rfl:=sI h
  exact ap (.inl rfl) rfl (rVt (v:=.slice Aa p0.length ca) rfl) (fun W2 hW2 => ⟨p0.length,rfl,rfl,hW2.take 2⟩)
 ·refine cF (vB hp3) (cK (eT (cS (cS (cR (oY rfl (yMI rfl) (oY rfl (aX rfl rfl) (oY rfl (yAI rfl) (oN (eT (cB ?_)))))))))))
  obtain ⟨u7,hl14,h⟩:=bOs h
  refine bc (fun (s:(Int × Int × (List Int))) L tm => ∃ (tm0:Nat → Value),p0.length = s.2.2.length ∧ L = [R,aI Aa ca 3 1 p0.length (encL cI s.2.2)] ∧ tm = (upd (upd (upd (upd (upd tm0 0 (.slice Aa p0.length ca)) 1 (.func (.func fid1) fst1.toArray caps1.toArray)) 4 (.slice none 0 0)) 5 (vI s.1)) 6 (vI s.2.1))) 0 hl14 ⟨_,rfl,rfl,(kp4 (kp rfl))⟩ ?_ ?_
  ·rintro s6 L tm st ⟨tm0_s6,hn1_s6,rfl,rfl⟩ h
   unfold dR at h
   refine cS (cS (cR (oY rfl (yMI rfl) (oY rfl (yMS rfl) (oY rfl (bd (us:=[]) dH rfl) (oY rfl (bm rfl rfl) (oN (eT ?_))))))))
   rcases iOs h with ⟨hp8,h⟩ | ⟨hp8,h⟩
   ·refine cT (vB hp8) (cK (eT (cS (cB (cS (cR (oY rfl (yMS rfl) (oY rfl (yMI rfl) ?_))))))))
    obtain ⟨hg9,h⟩:=gOs h
    refine oY rfl (yI d7 (by decide) hg9.1 hg9.2 (RdL.row 1 rfl) (eL aJ hn1_s6) rfl rfl) ?_
    refine oY rfl (yR (A:=Aa) (j:=(Int.toNat s6.2.1 * 1)) (v:=vI (rdL s6.2.2 s6.2.1)) aV (RdL.row 1 rfl) rfl (a6 aJ hg9.1 (av hg9.2 hn1_s6) rfl)) (oY rfl (yAI rfl) (oN (eT (cS (cR (oY rfl (bH (v:=.func (.func fid1) fst1.toArray caps1.toArray) rfl) (oY rfl (yMI rfl) ?_)))))))
    obtain ⟨y10,hy11,h⟩:=bOs h
    refine oY rfl (ge [vI (rdL s6.2.2 s6.2.1)] hgo1 rfl rfl (fun W2 hW2 => hof1 W2 hW2.below (hW2.mem (i:=0) rfl) (rdL s6.2.2 s6.2.1) y10 hy11)) (oY rfl (bM rfl) (oN (eT ?_)))
    rcases iOs h with ⟨hp12,h⟩ | ⟨hp12,h⟩
    ·refine cT (vB hp12) (cS (cR (oY rfl (yMS rfl) (oY rfl (yMI rfl) (oY rfl (yMI rfl) ?_)))))
     obtain ⟨hg13,h⟩:=gOs h
     refine oY rfl (yI d7 (by decide) hg13.1 hg13.2 (RdL.row 1 rfl) (eL aJ hn1_s6) rfl rfl) ?_
     refine bT rfl (iO 1 (xs:=s6.2.2) aJ (rdL s6.2.2 s6.2.1) p6 rfl hg13.1 (av hg13.2 hn1_s6) rfl rfl rfl rfl) (oN (eT (cR (oY rfl (yMI rfl) (oY rfl (aX rfl rfl) (oY rfl (yAI rfl) (oN (aw (eT (cR (oY rfl (yMI rfl) (oY rfl (aX rfl rfl) (oY rfl (yAI rfl) (oN ?_))))))))))))))
     obtain rfl:=sI h
     exact eN ⟨_,(cU hn1_s6),rfl,(kp4 (kp rfl))⟩
    ·refine cF (vB hp12) (cK (aw (eT (cR (oY rfl (yMI rfl) (oY rfl (aX rfl rfl) (oY rfl (yAI rfl) (oN ?_))))))))
     obtain rfl:=sI h
     exact eN ⟨_,hn1_s6,rfl,(kp4 (kp rfl))⟩
   ·refine cF (vB hp8) (aH (ah ?_))
    obtain rfl:=sI h
    exact ax ⟨rfl,_,hn1_s6,rfl,(kp4 (kp rfl))⟩
  ·intro e L tm hJ
   obtain ⟨rfl,tm0_u7,hn1_u7,rfl,rfl⟩:=hJ
   refine ⟨(by intro hc; cases hc),?_⟩
   refine ac (eT (cS (cR (oY rfl (yMS rfl) (oY rfl (yMI rfl) ?_)))))
   obtain ⟨hg15,h⟩:=gOs h
   refine oY rfl (rI d7 hg15.1 hg15.2 (RdL.row 1 rfl) rfl rfl) ?_
   obtain ⟨hg16,h⟩:=gOs h
   refine bT rfl (y_clearH 1 dH l5 rfl (by decide) rfl aJ rfl hg16.1 hg16.2 rfl) ?_
   refine oN (eT (cS (cR (oY rfl (yMS rfl) (oY rfl (yMI rfl) (oY rfl (y_cutHc d7 hg16.1 (fun W2 hW2 => (dt (hW2.mem (i:=1) rfl)).cap) rfl rfl) (oY rfl (yAS rfl) (oN (eT (al ?_))))))))))
   obtain rfl:=sI h
   exact ap (.inl rfl) rfl (rVt (v:=.slice Aa (Int.toNat u7.1) ca) rfl) (fun W2 hW2 => ⟨Int.toNat u7.1,(q5 hg16.2 hn1_u7),rfl,hW2.take 2⟩)
theorem lU (p0:Int) (cap0:Int) (res:Bool) (h:gc p0 cap0 = some res) (W:World) (bc0:Nat) (hcap0:Rd W (some ⟨bc0,0,none⟩) 1 1 (cI cap0)) :
  Calls Tryz.prog 63 [vI p0,.pointer (some ⟨bc0,0,none⟩)].toArray W fun e W2 => e = .returned (.bool res) ∧ Ext W W2 []:=by
 unfold gc at h
 refine ad (m:=7) Tryz.func63 rfl rfl (nB rfl) (cS (cR (oY rfl (yAB rfl) (oN (eT (cS (cR (oY rfl (yMI rfl) (oY rfl (yR (A:=(some ⟨bc0,0,none⟩)) (j:=0) (v:=vI cap0) aV (RdL.arg hcap0) rfl rfl) (oY rfl (dA rfl rfl) (oY rfl (yAB rfl) (oN (eT (al ?_))))))))))))))
 obtain rfl:=sI h
 exact ap (.inl rfl) rfl (rVt (v:=.bool (p0 == cap0)) rfl) (fun W2 hW2 => ⟨rfl,hW2.none⟩)
theorem mT (p0:TY) (p1:(List Int)) (res:((List Int) × Int)) (h:jS p0 p1 = some res) (W:World) (Aa:Option Addr) (n0_0 ca : Nat) (hn0_0:n0_0 = p0.fB.length) (hr0_0:Rd W Aa n0_0 ca (encL aD p0.fB)) (Ab:Option Addr) (n0_1 cb : Nat) (hn0_1:n0_1 = p0.fOrders.length) (hr0_1:Rd W Ab n0_1 cb (encL aA p0.fOrders)) (Ac:Option Addr) (n1_0 cc : Nat) (hn1_0:n1_0 = p1.length) (hr1_0:Rd W Ac n1_0 cc (encL cI p1)) :
  Calls Tryz.prog 26 [.agg #[.slice Aa n0_0 ca,.slice Ab n0_1 cb],.slice Ac n1_0 cc].toArray W fun e W2 => ∃ x : Option Addr × Nat × Nat,x.2.1 = res.1.length ∧ e = .returned (.tuple #[.slice x.1 x.2.1 x.2.2,vI res.2]) ∧ Ext W W2 [aI x.1 x.2.2 3 1 x.2.1 (encL cI res.1)]:=by
 subst hn0_0
 subst hn0_1
 subst hn1_0
 unfold jS at h
 refine ad (m:=65) Tryz.func26 rfl rfl (nB rfl) (cS (cR ?_))
 refine aO [.slice Aa p0.fB.length ca,.slice Ab p0.fOrders.length cb] rfl rfl rfl (fun b1 => ?_)
 refine oY rfl (yAS rfl) (oY rfl (yAI rfl) (oN (eT (cS (cS (cR (oY rfl (yN 0 [.slice Aa p0.fB.length ca,.slice Ab p0.fOrders.length cb] dc rfl rfl rfl) ?_)))))))
 obtain ⟨y2,hy3,h⟩:=bOs h
 refine oY rfl (yC [.agg #[.slice Aa p0.fB.length ca,.slice Ab p0.fOrders.length cb]] sD rfl (fun W2 hW2 => dr p0 y2 hy3 W2 Aa p0.fB.length ca rfl ((RdL.arg hr0_0) W2 hW2) Ab p0.fOrders.length cb rfl ((RdL.arg hr0_1) W2 hW2)) rfl) (oY rfl (yAI rfl) (oN (eT (cS (cR (oY rfl (yMI rfl) (oY rfl (db rfl rfl) (oN (eT ?_)))))))))
 rcases iOs h with ⟨hp4,h⟩ | ⟨hp4,h⟩
 ·refine cT (vB hp4) (cS (cR (oY rfl (yMI rfl) (oY rfl (yAS rfl) (oY rfl (yAI rfl) (oN (eT (al (aa ?_)))))))))
  obtain rfl:=sI h
  exact bp (.inl rfl) rfl (rVt (v:=.slice none 0 0) rfl) (rVt (v:=vI y2) rfl) (fun W2 hW2 => ⟨(none,0,0),rfl,rfl,((hW2.nilrow 3 1).pick 1 rfl)⟩)
 ·refine cF (vB hp4) (cK (eT (cS (cS (cR (oY rfl (yMS rfl) (oY rfl (bd (us:=[]) dH rfl) (oY rfl (yMI rfl) (oN (eT (cB ?_)))))))))))
  obtain ⟨u7,hl20,h⟩:=bOs h
  refine ci 3 1 ?_
  refine bB (fun (s:(Int × Int)) L tm => ∃ (tm0:Nat → Value),L = [aj b1 57 [.slice Aa p0.fB.length ca,.slice Ab p0.fOrders.length cb],aI none 0 3 1 0 (encL cI ([]:List Int))] ∧ tm = (upd (upd (upd (upd (upd (upd (upd tm0 1 (.slice Ac p1.length cc)) 2 (.pointer (some ⟨b1,0,none⟩))) 4 (.slice none 0 0)) 5 (vI s.1)) 18 (.slice Ac p1.length cc)) 19 (vI (p1.length:Int))) 20 (vI s.2))) 0 hl20 ⟨_,rfl,(kp4 (kp (kp (kp rfl))))⟩ ?_ ?_
  ·rintro s6 L tm st ⟨tm0_s6,rfl,rfl⟩ h
   unfold jy at h
   refine cS (cR (oY rfl (bm rfl rfl) (oN (eT (cS ?_)))))
   rcases iOs h with ⟨hp8,h⟩ | ⟨hp8,h⟩
   ·refine cT (vB hp8) (cK (eT (cS (cB (cS (cR (oY rfl (yMI rfl) ?_)))))))
    obtain ⟨hg9,h⟩:=gOs h
    refine oY rfl (yI d7 (by decide) hg9.1 hg9.2 (RdL.arg hr1_0) (eL aJ rfl) rfl rfl) ?_
    refine oY rfl (yR (A:=Ac) (j:=(Int.toNat s6.2 * 1)) (v:=vI (rdL p1 s6.2)) aV (RdL.arg hr1_0) rfl (a6 aJ hg9.1 (av hg9.2 rfl) rfl)) (oY rfl (yAI rfl) (oY rfl (yAI rfl) (oN (eT (cS (cR (oY rfl (yN 0 [.slice Aa p0.fB.length ca,.slice Ab p0.fOrders.length cb] dc rfl rfl rfl) (oY rfl (yMI rfl) ?_))))))))
    obtain ⟨y10,hy11,h⟩:=bOs h
    refine oY rfl (yC [.agg #[.slice Aa p0.fB.length ca,.slice Ab p0.fOrders.length cb],vI (rdL p1 s6.2)] go_60 rfl (fun W2 hW2 => jg p0 (rdL p1 s6.2) y10 hy11 W2 Aa p0.fB.length ca rfl ((RdL.arg hr0_0) W2 hW2) Ab p0.fOrders.length cb rfl ((RdL.arg hr0_1) W2 hW2)) rfl) (oY rfl (bm rfl rfl) (oY rfl (yMB rfl) ?_))
    obtain ⟨b13,hb14,h⟩:=bOs h
    refine oJ 12 (fun tm0 => (upd (upd (upd (upd (upd (upd (upd (upd (upd (upd (upd tm0 1 (.slice Ac p1.length cc)) 2 (.pointer (some ⟨b1,0,none⟩))) 4 (.slice none 0 0)) 5 (vI s6.1)) 18 (.slice Ac p1.length cc)) 19 (vI (p1.length:Int))) 20 (vI s6.2)) 21 (.bool (decide (s6.2 < (p1.length:Int))))) 7 (vI s6.2)) 8 (vI (rdL p1 s6.2))) 41 (.bool b13))) (fun tm0 => ?_) (fun key => ?_)
    ·refine oN (eT ?_)
     rcases iOs h with ⟨hp15,h⟩ | ⟨hp15,h⟩
     ·refine cT (vB hp15) (cS (cR (oY rfl (yAS rfl) (oY rfl (yAI rfl) (oN (eT (al (ai (aa ?_)))))))))
      obtain rfl:=sI h
      exact ax ⟨rfl,_,rfl,(kp4 (kp (kp (kp rfl))))⟩
     ·refine cF (vB hp15) (cK (aw (eT (cR (oY rfl (aX rfl rfl) (oY rfl (yMI rfl) (oN ?_)))))))
      obtain rfl:=sI h
      exact eN ⟨_,rfl,(kp4 (kp (kp (kp rfl))))⟩
    ·clear h; rcases iOs hb14 with ⟨hp12,h⟩ | ⟨hp12,h⟩
     ·refine oSk (sF rfl rfl rfl rfl hp12) (oSk (sF rfl rfl rfl rfl hp12) (oSk (sF rfl rfl rfl rfl hp12) (oSk rfl (oSk rfl (oSk rfl (oSk rfl (oSk rfl (oSk rfl (oSk rfl (oSk (sF rfl rfl rfl rfl hp12) (oY rfl (ae (vB hp12) rfl) ?_)))))))))))
      obtain rfl:=sI h
      exact key _ _ (kp4 (kp4 (kp (kp (kp rfl)))))
     ·refine oY (sT rfl rfl rfl rfl hp12) (yMI rfl) (oY (sT rfl rfl rfl rfl hp12) (eI rfl rfl) (oY (sT rfl rfl rfl rfl hp12) (yMB rfl) ?_))
      obtain ⟨b17,hb18,h⟩:=bOs h
      refine oJ 8 (fun tm0 => (upd (upd (upd (upd (upd (upd (upd (upd (upd (upd (upd (upd tm0 1 (.slice Ac p1.length cc)) 2 (.pointer (some ⟨b1,0,none⟩))) 4 (.slice none 0 0)) 5 (vI s6.1)) 18 (.slice Ac p1.length cc)) 19 (vI (p1.length:Int))) 20 (vI s6.2)) 21 (.bool (decide (s6.2 < (p1.length:Int))))) 7 (vI s6.2)) 8 (vI (rdL p1 s6.2))) 29 (.bool (decide (y10 < 0)))) 40 (.bool b17))) (fun tm0 => ?_) (fun key => ?_)
      ·refine oY rfl (ag (vB hp12) rfl) ?_
       obtain rfl:=sI h
       exact key _ _ (kp4 (kp4 (kp (kp (kp rfl)))))
      ·clear h; rcases iOs hb18 with ⟨hp16,h⟩ | ⟨hp16,h⟩
       ·refine oY (sT rfl rfl rfl rfl hp16) (yMI rfl) (oY (sT rfl rfl rfl rfl hp16) (yMS rfl) (oY (sT rfl rfl rfl rfl hp16) (yMI rfl) (oY (sT rfl rfl rfl rfl hp16) (dV rfl rfl) ?_)))
        obtain ⟨hg19,h⟩:=gOs h
        refine oY (sT rfl rfl rfl rfl hp16) (yI d7 (by decide) hg19.1 hg19.2 (RdL.arg hr1_0) (eL aJ rfl) rfl rfl) ?_
        refine oY (sT rfl rfl rfl rfl hp16) (yR (A:=Ac) (j:=(Int.toNat (w64 (s6.2 - 1)) * 1)) (v:=vI (rdL p1 (w64 (s6.2 - 1)))) aV (RdL.arg hr1_0) rfl (a6 aJ hg19.1 (av hg19.2 rfl) rfl)) (oY (sT rfl rfl rfl rfl hp16) (jX rfl rfl) (oY (sT rfl rfl rfl rfl hp12) (ae (vB hp16) rfl) ?_))
        obtain rfl:=sI h
        exact key _ _ (kp4 (kp4 (kp4 rfl)))
       ·refine oSk (sF rfl rfl rfl rfl hp16) (oSk (sF rfl rfl rfl rfl hp16) (oSk (sF rfl rfl rfl rfl hp16) (oSk (sF rfl rfl rfl rfl hp16) (oSk (sF rfl rfl rfl rfl hp16) (oSk (sF rfl rfl rfl rfl hp16) (oSk (sF rfl rfl rfl rfl hp16) (oY (sT rfl rfl rfl rfl hp12) (ag (vB hp16) rfl) ?_)))))))
        obtain rfl:=sI h
        exact key _ _ (kp4 (kp4 (kp4 rfl)))
   ·refine cF (vB hp8) (aH (ah ?_))
    obtain rfl:=sI h
    exact ax ⟨rfl,_,rfl,(kp4 (kp (kp (kp rfl))))⟩
  ·intro e L tm hJ
   rcases u7 with u21 | u22
   ·dsimp only at h hJ
    obtain ⟨rfl,tm0_u21,rfl,rfl⟩:=hJ
    refine ⟨(by intro hc; cases hc),?_⟩
    refine ai (aa ?_)
    obtain rfl:=sI h
    exact bp (.inl rfl) rfl (rVt (v:=.slice none 0 0) rfl) (rVt (v:=vI u21.1) rfl) (fun W2 hW2 => ⟨(none,0,0),rfl,rfl,(hW2.pick 1 rfl)⟩)
   ·dsimp only at h hJ
    obtain ⟨rfl,tm0_u22,rfl,rfl⟩:=hJ
    refine ⟨(by intro hc; cases hc),?_⟩
    refine ac (eT (cS (cS (cR (oY rfl (yN 0 [.slice Aa p0.fB.length ca,.slice Ab p0.fOrders.length cb] dc rfl rfl rfl) (oY rfl (yMS rfl) ?_))))))
    obtain ⟨y23,hy24,h⟩:=bOs h
    refine oY rfl (yC [.agg #[.slice Aa p0.fB.length ca,.slice Ab p0.fOrders.length cb],.slice Ac p1.length cc] go_61 rfl (fun W2 hW2 => mX p0 p1 y23 hy24 W2 Aa p0.fB.length ca rfl ((RdL.arg hr0_0) W2 hW2) Ab p0.fOrders.length cb rfl ((RdL.arg hr0_1) W2 hW2) Ac p1.length cc rfl ((RdL.arg hr1_0) W2 hW2)) rfl) (oN (eT ?_))
    rcases iOs h with ⟨hp25,h⟩ | ⟨hp25,h⟩
    ·refine cT (vB hp25) (cS (cR (oY rfl (yAS rfl) (oY rfl (yAI rfl) (oN (eT (al (aa ?_))))))))
     obtain rfl:=sI h
     exact bp (.inl rfl) rfl (rVt (v:=.slice none 0 0) rfl) (rVt (v:=vI 5) rfl) (fun W2 hW2 => ⟨(none,0,0),rfl,rfl,((hW2.nilrow 3 1).pick 2 rfl)⟩)
    ·refine cF (vB hp25) (cK (eT (cS (cR (oY rfl (yMS rfl) ?_)))))
     obtain ⟨y26,hy27,h⟩:=bOs h
     refine oC [.slice Ac p1.length cc] _ _ _ rfl go_50 rfl (fun W2 hW2 => dF p1 y26 hy27 W2 Ac p1.length cc rfl ((RdL.arg hr1_0) W2 hW2)) ?_
     rintro ⟨A28,n30,c29⟩ hn31
     replace hn31 : n30 = y26.length:=hn31; subst hn31
     refine oY rfl (yAS rfl) (oN (eT (cS (cS (cR (oY rfl (yMS rfl) (oY rfl (bd (us:=[]) dH rfl) (oY rfl (yMI rfl) (oN (eT (cB ?_)))))))))))
     obtain ⟨u35,hl53,h⟩:=bOs h
     refine bc (fun (s:(Int × (List Int))) L tm => ∃ (tm0:Nat → Value) (A2_s:Option Addr) (c2_s:Nat) (n2_s:Nat),n2_s = s.2.length ∧ L = [aj b1 57 [.slice Aa p0.fB.length ca,.slice Ab p0.fOrders.length cb],aI none 0 3 1 0 (encL cI ([]:List Int)),aI A2_s c2_s 3 1 n2_s (encL cI s.2)] ∧ tm = (upd (upd (upd (upd (upd (upd (upd tm0 2 (.pointer (some ⟨b1,0,none⟩))) 4 (.slice none 0 0)) 5 (vI u22.1)) 9 (.slice A2_s n2_s c2_s)) 48 (.slice Ac p1.length cc)) 49 (vI (p1.length:Int))) 50 (vI s.1))) 2 hl53 ⟨_,A28,c29,y26.length,rfl,rfl,(kp4 (kp (kp (kp rfl))))⟩ ?_ ?_
     ·rintro s34 L tm st ⟨tm0_s34,A2_s34,c2_s34,n2_s34,rfl,rfl,rfl⟩ h
      unfold jG at h
      refine cS (cR (oY rfl (bm rfl rfl) (oN (eT (cS ?_)))))
      rcases iOs h with ⟨hp36,h⟩ | ⟨hp36,h⟩
      ·refine cT (vB hp36) (cK (eT (cS (cB (cS (cR ?_))))))
       obtain ⟨hg37,h⟩:=gOs h
       refine oY rfl (yI d7 (by decide) hg37.1 hg37.2 (RdL.arg hr1_0) (eL aJ rfl) rfl rfl) ?_
       refine oY rfl (yR (A:=Ac) (j:=(Int.toNat s34.1 * 1)) (v:=vI (rdL p1 s34.1)) aV (RdL.arg hr1_0) rfl (a6 aJ hg37.1 (av hg37.2 rfl) rfl)) ?_
       refine aB l5 rfl (fun b38 => ?_)
       refine bT rfl (cv 3 (v:=vI (rdL p1 s34.1)) p6 rfl (Nat.lt_of_lt_of_le (Nat.lt_succ_self _) (nB rfl)) rfl rfl rfl) (oN (eT (cS (cR (oY rfl (yMS rfl) ?_)))))
       obtain ⟨y39,hy40,h⟩:=bOs h
       refine oC [.slice A2_s34 s34.2.length c2_s34] _ _ _ rfl go_50 rfl (fun W2 hW2 => dF s34.2 y39 hy40 W2 A2_s34 s34.2.length c2_s34 rfl ((RdL.row 2 rfl) W2 hW2)) ?_
       rintro ⟨A41,n43,c42⟩ hn44
       replace hn44 : n43 = y39.length:=hn44; subst hn44
       refine oY rfl (cw [.pointer (some ⟨b38,0,none⟩)] rfl rfl) ?_
       obtain ⟨y46,hy47,h⟩:=bOs h
       refine dE 4 [.slice A41 y39.length c42,.func (.func 63) #[] #[.pointer (some ⟨b38,0,none⟩)]] (fun k : Nat => k = y46.length) (fun k => .slice A41 k c42) (fun k => aI A41 c42 3 1 k (encL cI y46)) (fun _ => []) rfl rfl go_62 rfl (fun W2 hW2 => (gA y39 (fun x45 => gc x45 (rdL p1 s34.1)) y46 hy47 W2 _ (cD [aj b1 57 [.slice Aa p0.fB.length ca,.slice Ab p0.fOrders.length cb],aI none 0 3 1 0 (encL cI ([]:List Int)),aI A2_s34 c2_s34 3 1 s34.2.length (encL cI s34.2),aj b38 3 [vI (rdL p1 s34.1)],aI A41 c42 3 1 y39.length (encL cI y39)] [4]) A41 y39.length c42 rfl 63 [] [.pointer (some ⟨b38,0,none⟩)] go_63 (fun W3 hb hR x y hxy => lU  x (rdL p1 s34.1) y hxy W3 b38 ((RdL.cells 3 rfl) W3 (hW2.rest hb hR))) hW2).mono (fun e W3 h3 => h3)) ?_
       rintro k48 hn49
       subst hn49
       try dsimp only [lsz,lss,List.append_nil]
       refine oY rfl (yAS rfl) (oN (eT (cS (cR (oY rfl (yN 0 [.slice Aa p0.fB.length ca,.slice Ab p0.fOrders.length cb] dc rfl rfl rfl) (oY rfl (yMS rfl) ?_))))))
       obtain ⟨y50,hy51,h⟩:=bOs h
       refine oY rfl (yC [.agg #[.slice Aa p0.fB.length ca,.slice Ab p0.fOrders.length cb],.slice A41 y46.length c42] go_61 rfl (fun W2 hW2 => mX p0 y46 y50 hy51 W2 Aa p0.fB.length ca rfl ((RdL.arg hr0_0) W2 hW2) Ab p0.fOrders.length cb rfl ((RdL.arg hr0_1) W2 hW2) A41 y46.length c42 rfl ((RdL.row 4 rfl) W2 hW2)) rfl) (oY rfl (bM rfl) (oN (eT ?_)))
       rcases iOs h with ⟨hp52,h⟩ | ⟨hp52,h⟩
       ·refine cT (vB hp52) (cR (oY rfl (yMS rfl) (oY rfl (yAS rfl) (oN (aw (eT (cR (oY rfl (aX rfl rfl) (oY rfl (yMI rfl) (oN ?_))))))))))
        refine ex_mv 2 4 (by decide) rfl ?_
        try dsimp only [lsz,lss]
        refine aQ 3 ?_
        obtain rfl:=sI h
        exact eN ⟨_,A41,c42,y46.length,rfl,rfl,(kp4 (kp (kp (kp rfl))))⟩
       ·refine cF (vB hp52) (cK (aw (eT (cR (oY rfl (aX rfl rfl) (oY rfl (yMI rfl) (oN (aQ 3 ?_))))))))
        obtain rfl:=sI h
        exact eN ⟨_,A2_s34,c2_s34,s34.2.length,rfl,rfl,(kp4 (kp (kp (kp rfl))))⟩
      ·refine cF (vB hp36) (aH (ah ?_))
       obtain rfl:=sI h
       exact ax ⟨rfl,_,A2_s34,c2_s34,s34.2.length,rfl,rfl,(kp4 (kp (kp (kp rfl))))⟩
     ·intro e L tm hJ
      obtain ⟨rfl,tm0_u35,A2_u35,c2_u35,n2_u35,rfl,rfl,rfl⟩:=hJ
      refine ⟨(by intro hc; cases hc),?_⟩
      refine ac (eT (cS (cR (oY rfl (yMS rfl) (oY rfl (yAS rfl) (oY rfl (yAI rfl) (oN (eT (al ?_)))))))))
      obtain rfl:=sI h
      exact bp (.inl rfl) rfl (rVt (v:=.slice A2_u35 u35.2.length c2_u35) rfl) (rVt (v:=vI 0) rfl) (fun W2 hW2 => ⟨(A2_u35,u35.2.length,c2_u35),rfl,rfl,(hW2.pick 2 rfl)⟩)
theorem pM (p0:TY) (p1:Int) (res:(Int × Int)) (h:nA p0 p1 = some res) (W:World) (Aa:Option Addr) (n0_0 ca : Nat) (hn0_0:n0_0 = p0.fB.length) (hr0_0:Rd W Aa n0_0 ca (encL aD p0.fB)) (Ab:Option Addr) (n0_1 cb : Nat) (hn0_1:n0_1 = p0.fOrders.length) (hr0_1:Rd W Ab n0_1 cb (encL aA p0.fOrders)) :
  Calls Tryz.prog 27 [.agg #[.slice Aa n0_0 ca,.slice Ab n0_1 cb],vI p1].toArray W fun e W2 => e = .returned (.tuple #[vI res.1,vI res.2]) ∧ Ext W W2 []:=by
 subst hn0_0
 subst hn0_1
 unfold nA at h
 refine ad (m:=25) Tryz.func27 rfl rfl (nB rfl) (cS (cR ?_))
 refine aO [.slice Aa p0.fB.length ca,.slice Ab p0.fOrders.length cb] rfl rfl rfl (fun b1 => ?_)
 refine oY rfl (yAI rfl) (oY rfl (yAI rfl) (oN (eT (cS (cS (cR (oY rfl (yN 0 [.slice Aa p0.fB.length ca,.slice Ab p0.fOrders.length cb] dc rfl rfl rfl) ?_)))))))
 obtain ⟨y2,hy3,h⟩:=bOs h
 refine oY rfl (yC [.agg #[.slice Aa p0.fB.length ca,.slice Ab p0.fOrders.length cb]] sD rfl (fun W2 hW2 => dr p0 y2 hy3 W2 Aa p0.fB.length ca rfl ((RdL.arg hr0_0) W2 hW2) Ab p0.fOrders.length cb rfl ((RdL.arg hr0_1) W2 hW2)) rfl) (oY rfl (yAI rfl) (oN (eT (cS (cR (oY rfl (yMI rfl) (oY rfl (db rfl rfl) (oN (eT ?_)))))))))
 rcases iOs h with ⟨hp4,h⟩ | ⟨hp4,h⟩
 ·refine cT (vB hp4) (cS (cR (oY rfl (yMI rfl) (oY rfl (yAI rfl) (oY rfl (yAI rfl) (oN (eT (al (aa ?_)))))))))
  obtain rfl:=sI h
  exact bp (.inl rfl) rfl (rVt (v:=vI 0) rfl) (rVt (v:=vI y2) rfl) (fun W2 hW2 => ⟨rfl,hW2.none⟩)
 ·refine cF (vB hp4) (cK (eT (cS (cR (oY rfl (yN 0 [.slice Aa p0.fB.length ca,.slice Ab p0.fOrders.length cb] dc rfl rfl rfl) (oY rfl (yMI rfl) ?_))))))
  obtain ⟨y5,hy6,h⟩:=bOs h
  refine oY rfl (yC [.agg #[.slice Aa p0.fB.length ca,.slice Ab p0.fOrders.length cb],vI p1] go_64 rfl (fun W2 hW2 => mO p0 p1 y5 hy6 W2 Aa p0.fB.length ca rfl ((RdL.arg hr0_0) W2 hW2) Ab p0.fOrders.length cb rfl ((RdL.arg hr0_1) W2 hW2)) rfl) (oY rfl (yAI rfl) (oN (eT (cS (cS (cR (oY rfl (yMI rfl) (oY rfl (bm rfl rfl) (oN (eT ?_))))))))))
  rcases iOs h with ⟨hp7,h⟩ | ⟨hp7,h⟩
  ·refine cT (vB hp7) (cS (cR (oY rfl (yAI rfl) (oY rfl (yAI rfl) (oN (eT (al (aa ?_))))))))
   obtain rfl:=sI h
   exact bp (.inl rfl) rfl (rVt (v:=vI 0) rfl) (rVt (v:=vI 5) rfl) (fun W2 hW2 => ⟨rfl,hW2.none⟩)
  ·refine cF (vB hp7) (cK (eT (cS ?_)))
   refine ba 4 cm (by kernel_rfl) (by kernel_rfl) ?_
   refine qY rfl (yN 0 [.slice Aa p0.fB.length ca,.slice Ab p0.fOrders.length cb] dc rfl rfl rfl) ?_
   obtain ⟨y8,hy9,h⟩:=bOs h
   refine qY rfl (yC [.agg #[.slice Aa p0.fB.length ca,.slice Ab p0.fOrders.length cb]] rz rfl (fun W2 hW2 => ex p0 y8 hy9 W2 Aa p0.fB.length ca rfl ((RdL.arg hr0_0) W2 hW2) Ab p0.fOrders.length cb rfl ((RdL.arg hr0_1) W2 hW2)) rfl) (qY rfl (yN 0 [.slice Aa p0.fB.length ca,.slice Ab p0.fOrders.length cb] dc rfl rfl rfl) (qY rfl (yMI rfl) (bX ?_)))
   obtain ⟨y10,hy11,h⟩:=bOs h
   refine oC [.agg #[.slice Aa p0.fB.length ca,.slice Ab p0.fOrders.length cb],vI y5] _ _ _ rfl go_65 rfl (fun W2 hW2 => jO p0 y5 y10 hy11 W2 Aa p0.fB.length ca rfl ((RdL.arg hr0_0) W2 hW2) Ab p0.fOrders.length cb rfl ((RdL.arg hr0_1) W2 hW2)) ?_
   rintro ⟨A16,n18,c17⟩ hn19
   replace hn19 : n18 = y10.fB.length:=hn19; subst hn19
   obtain ⟨y20,hy21,h⟩:=bOs h
   refine oY rfl (yC [.agg #[.slice A16 y10.fB.length c17,.slice Ab p0.fOrders.length cb]] rz rfl (fun W2 hW2 => ex (TY.mk y10.fB p0.fOrders) y20 hy21 W2 A16 y10.fB.length c17 rfl ((RdL.row 1 rfl) W2 hW2) Ab p0.fOrders.length cb rfl ((RdL.arg hr0_1) W2 hW2)) rfl) (oY rfl (dV rfl rfl) (oY rfl (yAI rfl) (oY rfl (yAI rfl) (oN (eT (al ?_))))))
   obtain rfl:=sI h
   exact bp (.inl rfl) rfl (rVt (v:=vI (w64 (y8 - y20))) rfl) (rVt (v:=vI 0) rfl) (fun W2 hW2 => ⟨rfl,hW2.none⟩)
theorem bb (p0:Int) (p1:Int) (p2:Int) (res:Bool) (h:bh p0 p1 p2 = some res) (W:World)  :
  Calls Tryz.prog 75 [vI p0,vI p1,vI p2].toArray W fun e W2 => e = .returned (.bool res) ∧ Ext W W2 []:=by
 unfold bh at h
 refine ad (m:=15) Tryz.func75 rfl rfl (nB rfl) (cS (cR (oY rfl (yAB rfl) (oN (eT (cS (cR (oY rfl (yMI rfl) (oY rfl (yMI rfl) (oY rfl (pG rfl rfl) (oY rfl (yMB rfl) ?_)))))))))))
 refine oJ 4 (fun tm0 => (upd (upd tm0 6 (.bool false)) 14 (.bool ((decide (p1 ≤ p0)) && (decide (p0 ≤ p2)))))) (fun tm0 => ?_) (fun key => ?_)
 ·refine oY rfl (yAB rfl) (oN (eT (al ?_)))
  obtain rfl:=sI h
  exact ap (.inl rfl) rfl (rVt (v:=.bool ((decide (p1 ≤ p0)) && (decide (p0 ≤ p2)))) rfl) (fun W2 hW2 => ⟨rfl,hW2.none⟩)
 ·rcases aq (decide (p1 ≤ p0)) with hp1 | hp1
  ·refine oY (sT rfl rfl rfl rfl hp1) (yMI rfl) (oY (sT rfl rfl rfl rfl hp1) (yMI rfl) (oY (sT rfl rfl rfl rfl hp1) (jX rfl rfl) (oY rfl (ae (vB hp1) rfl) ?_)))
   exact key _ _ (keep (keep rfl rfl) (vB (gh hp1)))
  ·refine oSk (sF rfl rfl rfl rfl hp1) (oSk (sF rfl rfl rfl rfl hp1) (oSk (sF rfl rfl rfl rfl hp1) (oY rfl (ag (vB hp1) rfl) ?_)))
   exact key _ _ (keep (keep rfl rfl) (vB (gq hp1)))
theorem cC (p0:Int) (res:Bool) (h:cJ p0 = some res) (W:World)  :
  Calls Tryz.prog 41 [vI p0].toArray W fun e W2 => e = .returned (.bool res) ∧ Ext W W2 []:=by
 unfold cJ at h
 refine ad (m:=5) Tryz.func41 rfl rfl (nB rfl) (cS (cR (oY rfl (yAB rfl) (oN (eT (cS (cR (oY rfl (yMI rfl) ?_))))))))
 obtain ⟨y1,hy2,h⟩:=bOs h
 refine oY rfl (yC [vI p0,vI 0,vI 16384] lc rfl (fun W2 hW2 => bb p0 0 16384 y1 hy2 W2 ) rfl) (oY rfl (yAB rfl) (oN (eT (al ?_))))
 obtain rfl:=sI h
 exact ap (.inl rfl) rfl (rVt (v:=.bool y1) rfl) (fun W2 hW2 => ⟨rfl,hW2.none⟩)
theorem lq (p0:TY) (res:Int) (h:gY p0 = some res) (W:World) (Aa:Option Addr) (n0_0 ca : Nat) (hn0_0:n0_0 = p0.fB.length) (hr0_0:Rd W Aa n0_0 ca (encL aD p0.fB)) (Ab:Option Addr) (n0_1 cb : Nat) (hn0_1:n0_1 = p0.fOrders.length) (hr0_1:Rd W Ab n0_1 cb (encL aA p0.fOrders)) :
  Calls Tryz.prog 66 [.agg #[.slice Aa n0_0 ca,.slice Ab n0_1 cb]].toArray W fun e W2 => e = .returned (vI res) ∧ Ext W W2 []:=by
 subst hn0_0
 subst hn0_1
 unfold gY at h
 refine ad (m:=142) Tryz.func66 rfl rfl (nB rfl) (cS (cR ?_))
 refine aO [.slice Aa p0.fB.length ca,.slice Ab p0.fOrders.length cb] rfl rfl rfl (fun b1 => ?_)
 refine oY rfl (yAI rfl) (oN (eT (cS (cS (cR (oY rfl (yFA eh rfl) (oY rfl (yL 0 jP rfl rfl rfl) (oY rfl (bd (us:=[]) jr rfl) (oY rfl (eI rfl rfl) (oY rfl (yMB rfl) ?_))))))))))
 refine oJ 5 (fun tm0 => (upd (upd (upd tm0 1 (.pointer (some ⟨b1,0,none⟩))) 2 (vI 0)) 26 (.bool ((decide (24 < (p0.fB.length:Int))) || (decide (24 < (p0.fOrders.length:Int))))))) (fun tm0 => ?_) (fun key => ?_)
 ·refine oN (eT ?_)
  rcases iOs h with ⟨hp3,h⟩ | ⟨hp3,h⟩
  ·refine cT (vB hp3) (cS (cR (oY rfl (yAI rfl) (oN (eT (al (aa ?_)))))))
   obtain rfl:=sI h
   exact ap (.inl rfl) rfl (rVt (v:=vI 2) rfl) (fun W2 hW2 => ⟨rfl,hW2.none⟩)
  ·refine cF (vB hp3) (cK (eT (cS (cS (cR (oY rfl (yAI rfl) (oN (eT (cB ?_)))))))))
   obtain ⟨u6,hl28,h⟩:=bOs h
   refine bB (fun (s:(Int × Int)) L tm => ∃ (tm0:Nat → Value),L = [aj b1 57 [.slice Aa p0.fB.length ca,.slice Ab p0.fOrders.length cb]] ∧ tm = (upd (upd (upd tm0 1 (.pointer (some ⟨b1,0,none⟩))) 2 (vI s.1)) 3 (vI s.2))) 0 hl28 ⟨_,rfl,(kp (kp (kp rfl)))⟩ ?_ ?_
   ·rintro s5 L tm st ⟨tm0_s5,rfl,rfl⟩ h
    unfold iy at h
    refine cS (cS (cR (oY rfl (yMI rfl) (oY rfl (yFA eh rfl) (oY rfl (yL 0 jP rfl rfl rfl) (oY rfl (bd (us:=[]) jr rfl) (oY rfl (bm rfl rfl) (oN (eT ?_)))))))))
    rcases iOs h with ⟨hp7,h⟩ | ⟨hp7,h⟩
    ·refine cT (vB hp7) (cK (eT (cS (cB (cS (cR (oY rfl (yFA eh rfl) (oY rfl (yL 0 jP rfl rfl rfl) (oY rfl (yMI rfl) ?_)))))))))
     obtain ⟨hg8,h⟩:=gOs h
     refine oY rfl (yI lN (by decide) hg8.1 hg8.2 (RdL.arg hr0_0) (eL aK rfl) rfl rfl) ?_
     refine oY rfl (yM (A:=Aa) (j:=(Int.toNat s5.2 * 3)) [vI ((rdL p0.fB s5.2).fID),vI ((rdL p0.fB s5.2).fHour),vI ((rdL p0.fB s5.2).fD)] su (Nat.succ_pos _) (RdL.arg hr0_0) rfl (aU aK hg8.1 (av hg8.2 rfl))) ?_
     refine aB nL rfl (fun b9 => ?_)
     refine bT rfl (yS 1 [vI ((rdL p0.fB s5.2).fID),vI ((rdL p0.fB s5.2).fHour),vI ((rdL p0.fB s5.2).fD)] sz_94 rfl (nB rfl) rfl rfl rfl) (oN (eT (cS (cR (oY rfl (yFA j4 rfl) (oY rfl (yL 1 aV rfl rfl rfl) ?_))))))
     obtain ⟨y10,hy11,h⟩:=bOs h
     refine oY rfl (yC [vI ((rdL p0.fB s5.2).fID),vI 1,vI 1099511627776] lc rfl (fun W2 hW2 => bb ((rdL p0.fB s5.2).fID) 1 1099511627776 y10 hy11 W2 ) rfl) (oY rfl (yAB rfl) (oN (eT (cS (cR (oY rfl (yFA o8 rfl) (oY rfl (yL 1 aV rfl rfl rfl) ?_)))))))
     obtain ⟨y12,hy13,h⟩:=bOs h
     refine oY rfl (yC [vI ((rdL p0.fB s5.2).fHour)] oP rfl (fun W2 hW2 => cC ((rdL p0.fB s5.2).fHour) y12 hy13 W2 ) rfl) (oY rfl (yAB rfl) (oN (eT (cS (cR (oY rfl (yFA o5 rfl) (oY rfl (yL 1 aV rfl rfl rfl) ?_)))))))
     obtain ⟨y14,hy15,h⟩:=bOs h
     refine oY rfl (yC [vI ((rdL p0.fB s5.2).fD),vI 0,vI 9] lc rfl (fun W2 hW2 => bb ((rdL p0.fB s5.2).fD) 0 9 y14 hy15 W2 ) rfl) (oY rfl (yAB rfl) (oN (eT (cS (cS (cR (oY rfl (yMB rfl) (oY rfl (bM rfl) (oY rfl (yMB rfl) ?_)))))))))
     refine oJ 3 (fun tm0 => (upd (upd (upd (upd (upd (upd (upd (upd (upd tm0 1 (.pointer (some ⟨b1,0,none⟩))) 2 (vI s5.1)) 3 (vI s5.2)) 31 (.bool (decide (s5.2 < (p0.fB.length:Int))))) 4 (.pointer (some ⟨b9,0,none⟩))) 5 (.bool y10)) 6 (.bool y12)) 7 (.bool y14)) 53 (.bool ((!y10) || (!y12))))) (fun tm0 => ?_) (fun key => ?_)
     ·refine oY rfl (yMB rfl) ?_
      refine oJ 3 (fun tm0 => (upd (upd (upd (upd (upd (upd (upd (upd (upd tm0 1 (.pointer (some ⟨b1,0,none⟩))) 2 (vI s5.1)) 3 (vI s5.2)) 31 (.bool (decide (s5.2 < (p0.fB.length:Int))))) 4 (.pointer (some ⟨b9,0,none⟩))) 5 (.bool y10)) 6 (.bool y12)) 7 (.bool y14)) 57 (.bool (((!y10) || (!y12)) || (!y14))))) (fun tm0 => ?_) (fun key => ?_)
      ·refine oN (eT ?_)
       rcases iOs h with ⟨hp18,h⟩ | ⟨hp18,h⟩
       ·refine cT (vB hp18) (cS (cR (oY rfl (yAI rfl) (oN (eT (al (aa (ai (aa (aQ 1 ?_))))))))))
        obtain rfl:=sI h
        exact ax ⟨rfl,_,rfl,(kp (kp (kp rfl)))⟩
       ·refine cF (vB hp18) (cK (eT (cS (cR (oY rfl (yAI rfl) (oN (eT (cB ?_))))))))
        obtain ⟨u21,hl25,h⟩:=bOs h
        refine bB (fun (s:(Int × Int)) L tm => ∃ (tm0:Nat → Value),L = [aj b1 57 [.slice Aa p0.fB.length ca,.slice Ab p0.fOrders.length cb],aj b9 94 [vI ((rdL p0.fB s5.2).fID),vI ((rdL p0.fB s5.2).fHour),vI ((rdL p0.fB s5.2).fD)]] ∧ tm = (upd (upd (upd (upd (upd (upd (upd (upd (upd (upd tm0 1 (.pointer (some ⟨b1,0,none⟩))) 2 (vI s.1)) 3 (vI s5.2)) 31 (.bool (decide (s5.2 < (p0.fB.length:Int))))) 4 (.pointer (some ⟨b9,0,none⟩))) 5 (.bool y10)) 6 (.bool y12)) 7 (.bool y14)) 57 (.bool (((!y10) || (!y12)) || (!y14)))) 8 (vI s.2))) 2 hl25 ⟨_,rfl,(kp4 (kp4 (kp (kp rfl))))⟩ ?_ ?_
        ·rintro s20 L tm st ⟨tm0_s20,rfl,rfl⟩ h
         unfold iq at h
         refine cS (cS (cR (oY rfl (yMI rfl) (oY rfl (yMI rfl) (oY rfl (bm rfl rfl) (oN (eT ?_)))))))
         rcases iOs h with ⟨hp22,h⟩ | ⟨hp22,h⟩
         ·refine cT (vB hp22) (cK (eT (cS (cB (cS ?_)))))
          refine ba 9 cm (by kernel_rfl) (by kernel_rfl) ?_
          refine qY rfl (yFA eh rfl) (qY rfl (yL 0 jP rfl rfl rfl) (qY rfl (yMI rfl) ?_))
          obtain ⟨hg23,h⟩:=gOs h
          refine qY rfl (yI lN (by decide) hg23.1 hg23.2 (RdL.arg hr0_0) (eL aK rfl) rfl rfl) ?_
          refine qY rfl (yFR (A:=Aa) (j:=(Int.toNat s20.2 * 3)) j4 rfl) (qY rfl (yR (A:=Aa) (j:=((Int.toNat s20.2 * 3) + 0)) (v:=vI ((rdL p0.fB s20.2).fID)) aV (RdL.arg hr0_0) rfl (eG aK hg23.1 (av hg23.2 rfl) rfl)) (qY rfl (yFA j4 rfl) (qY rfl (yL 1 aV rfl rfl rfl) (qY rfl (dA rfl rfl) (bX (oN (eT ?_)))))))
          rcases iOs h with ⟨hp24,h⟩ | ⟨hp24,h⟩
          ·refine cT (vB hp24) (cS (cR (oY rfl (yAI rfl) (oN (eT (al (ai (aa ?_))))))))
           obtain rfl:=sI h
           exact ax ⟨rfl,_,rfl,(kp4 (kp4 (kp (kp rfl))))⟩
          ·refine cF (vB hp24) (cK (aw (eT (cR (oY rfl (yMI rfl) (oY rfl (aX rfl rfl) (oY rfl (yAI rfl) (oN ?_))))))))
           obtain rfl:=sI h
           exact eN ⟨_,rfl,(kp4 (kp4 (kp (kp rfl))))⟩
         ·refine cF (vB hp22) (aH (ah ?_))
          obtain rfl:=sI h
          exact ax ⟨rfl,_,rfl,(kp4 (kp4 (kp (kp rfl))))⟩
        ·intro e L tm hJ
         rcases u21 with u26 | u27
         ·dsimp only at h hJ
          obtain ⟨rfl,tm0_u26,rfl,rfl⟩:=hJ
          refine ⟨(by intro hc; cases hc),?_⟩
          refine ai (ai (aa (aQ 1 ?_)))
          obtain rfl:=sI h
          exact ax ⟨rfl,_,rfl,(kp (kp (kp rfl)))⟩
         ·dsimp only at h hJ
          obtain ⟨rfl,tm0_u27,rfl,rfl⟩:=hJ
          refine ⟨(by intro hc; cases hc),?_⟩
          refine ac (aw (eT (cR (oY rfl (yMI rfl) (oY rfl (aX rfl rfl) (oY rfl (yAI rfl) (oN (aQ 1 ?_))))))))
          obtain rfl:=sI h
          exact eN ⟨_,rfl,(kp (kp (kp rfl)))⟩
      ·rcases aq ((!y10) || (!y12)) with hp17 | hp17
       ·refine oSk (sF rfl rfl rfl rfl hp17) (oSk (sF rfl rfl rfl rfl hp17) (oY rfl (ae (vB hp17) rfl) ?_))
        exact key _ _ (keep (keep (keep (keep (keep (keep (keep (keep (keep rfl rfl) rfl) rfl) rfl) rfl) rfl) rfl) rfl) (vB (iI hp17)))
       ·refine oY (sT rfl rfl rfl rfl hp17) (yMB rfl) (oY (sT rfl rfl rfl rfl hp17) (bM rfl) (oY rfl (ag (vB hp17) rfl) ?_))
        exact key _ _ (keep (keep (keep (keep (keep (keep (keep (keep (keep rfl rfl) rfl) rfl) rfl) rfl) rfl) rfl) rfl) (vB (iH hp17)))
     ·rcases aq (!y10) with hp16 | hp16
      ·refine oSk (sF rfl rfl rfl rfl hp16) (oSk (sF rfl rfl rfl rfl hp16) (oY rfl (ae (vB hp16) rfl) ?_))
       exact key _ _ (keep (keep (keep (keep (keep (keep (keep (keep (keep rfl rfl) rfl) rfl) rfl) rfl) rfl) rfl) rfl) (vB (iI hp16)))
      ·refine oY (sT rfl rfl rfl rfl hp16) (yMB rfl) (oY (sT rfl rfl rfl rfl hp16) (bM rfl) (oY rfl (ag (vB hp16) rfl) ?_))
       exact key _ _ (keep (keep (keep (keep (keep (keep (keep (keep (keep rfl rfl) rfl) rfl) rfl) rfl) rfl) rfl) rfl) (vB (iH hp16)))
    ·refine cF (vB hp7) (aH (ah ?_))
     obtain rfl:=sI h
     exact ax ⟨rfl,_,rfl,(kp (kp (kp rfl)))⟩
   ·intro e L tm hJ
    rcases u6 with u29 | u30
    ·dsimp only at h hJ
     obtain ⟨rfl,tm0_u29,rfl,rfl⟩:=hJ
     refine ⟨(by intro hc; cases hc),?_⟩
     refine ai (aa ?_)
     obtain rfl:=sI h
     exact ap (.inl rfl) rfl (rVt (v:=vI u29.1) rfl) (fun W2 hW2 => ⟨rfl,hW2.none⟩)
    ·dsimp only at h hJ
     obtain ⟨rfl,tm0_u30,rfl,rfl⟩:=hJ
     refine ⟨(by intro hc; cases hc),?_⟩
     refine ac (eT (cS (cS (cR (oY rfl (yAI rfl) (oN (eT (cB ?_))))))))
     obtain ⟨u33,hl62,h⟩:=bOs h
     refine bB (fun (s:(Int × Int)) L tm => ∃ (tm0:Nat → Value),L = [aj b1 57 [.slice Aa p0.fB.length ca,.slice Ab p0.fOrders.length cb]] ∧ tm = (upd (upd (upd tm0 1 (.pointer (some ⟨b1,0,none⟩))) 2 (vI s.1)) 9 (vI s.2))) 4 hl62 ⟨_,rfl,(kp (kp (kp rfl)))⟩ ?_ ?_
     ·rintro s32 L tm st ⟨tm0_s32,rfl,rfl⟩ h
      unfold ir at h
      refine cS (cS (cR (oY rfl (yMI rfl) (oY rfl (yFA cn rfl) (oY rfl (yL 0 go rfl rfl rfl) (oY rfl (bd (us:=[]) kN rfl) (oY rfl (bm rfl rfl) (oN (eT ?_)))))))))
      rcases iOs h with ⟨hp34,h⟩ | ⟨hp34,h⟩
      ·refine cT (vB hp34) (cK (eT (cS (cB (cS (cR (oY rfl (yFA cn rfl) (oY rfl (yL 0 go rfl rfl rfl) (oY rfl (yMI rfl) ?_)))))))))
       obtain ⟨hg35,h⟩:=gOs h
       refine oY rfl (yI jM (by decide) hg35.1 hg35.2 (RdL.arg hr0_1) (eL au rfl) rfl rfl) ?_
       refine oY rfl (yM (A:=Ab) (j:=(Int.toNat s32.2 * 5)) [vI ((rdL p0.fOrders s32.2).fID),vI ((rdL p0.fOrders s32.2).fH.fLo),vI ((rdL p0.fOrders s32.2).fH.fHi),vI ((rdL p0.fOrders s32.2).fD),vI ((rdL p0.fOrders s32.2).fW)] pC (Nat.succ_pos _) (RdL.arg hr0_1) rfl (aU au hg35.1 (av hg35.2 rfl))) ?_
       refine aB nJ rfl (fun b36 => ?_)
       refine bT rfl (yS 1 [vI ((rdL p0.fOrders s32.2).fID),vI ((rdL p0.fOrders s32.2).fH.fLo),vI ((rdL p0.fOrders s32.2).fH.fHi),vI ((rdL p0.fOrders s32.2).fD),vI ((rdL p0.fOrders s32.2).fW)] sz_96 rfl (nB rfl) rfl rfl rfl) (oN (eT (cS (cR (oY rfl (yFA jR rfl) (oY rfl (yL 1 aV rfl rfl rfl) ?_))))))
       obtain ⟨y37,hy38,h⟩:=bOs h
       refine oY rfl (yC [vI ((rdL p0.fOrders s32.2).fID),vI 1,vI 1099511627776] lc rfl (fun W2 hW2 => bb ((rdL p0.fOrders s32.2).fID) 1 1099511627776 y37 hy38 W2 ) rfl) (oY rfl (yAB rfl) (oN (eT (cS (cR (oY rfl (yFA gx rfl) (oY rfl (yFA co rfl) (oY rfl (yL 1 aV rfl rfl rfl) ?_))))))))
       obtain ⟨y39,hy40,h⟩:=bOs h
       refine oY rfl (yC [vI ((rdL p0.fOrders s32.2).fH.fLo)] oP rfl (fun W2 hW2 => cC ((rdL p0.fOrders s32.2).fH.fLo) y39 hy40 W2 ) rfl) (oY rfl (yAB rfl) (oN (eT (cS (cR (oY rfl (yFA gx rfl) (oY rfl (yFA bL rfl) (oY rfl (yL 1 aV rfl rfl rfl) ?_))))))))
       obtain ⟨y41,hy42,h⟩:=bOs h
       refine oY rfl (yC [vI ((rdL p0.fOrders s32.2).fH.fHi)] oP rfl (fun W2 hW2 => cC ((rdL p0.fOrders s32.2).fH.fHi) y41 hy42 W2 ) rfl) (oY rfl (yAB rfl) (oN (eT (cS (cR (oY rfl (yFA po rfl) (oY rfl (yL 1 aV rfl rfl rfl) ?_)))))))
       obtain ⟨y43,hy44,h⟩:=bOs h
       refine oY rfl (yC [vI ((rdL p0.fOrders s32.2).fD),vI 0,vI 9] lc rfl (fun W2 hW2 => bb ((rdL p0.fOrders s32.2).fD) 0 9 y43 hy44 W2 ) rfl) (oY rfl (yAB rfl) (oN (eT (cS (cR (oY rfl (yFA iG rfl) (oY rfl (yL 1 aV rfl rfl rfl) ?_)))))))
       obtain ⟨y45,hy46,h⟩:=bOs h
       refine oY rfl (yC [vI ((rdL p0.fOrders s32.2).fW),vI 1,vI 1000] lc rfl (fun W2 hW2 => bb ((rdL p0.fOrders s32.2).fW) 1 1000 y45 hy46 W2 ) rfl) (oY rfl (yAB rfl) (oN (eT (cS (cS (cR (oY rfl (yMB rfl) (oY rfl (bM rfl) (oY rfl (yMB rfl) ?_)))))))))
       refine oJ 3 (fun tm0 => (upd (upd (upd (upd (upd (upd (upd (upd (upd (upd (upd tm0 1 (.pointer (some ⟨b1,0,none⟩))) 2 (vI s32.1)) 9 (vI s32.2)) 76 (.bool (decide (s32.2 < (p0.fOrders.length:Int))))) 10 (.pointer (some ⟨b36,0,none⟩))) 11 (.bool y37)) 12 (.bool y39)) 13 (.bool y41)) 14 (.bool y43)) 15 (.bool y45)) 106 (.bool ((!y37) || (!y39))))) (fun tm0 => ?_) (fun key => ?_)
       ·refine oY rfl (yMB rfl) ?_
        refine oJ 3 (fun tm0 => (upd (upd (upd (upd (upd (upd (upd (upd (upd (upd (upd tm0 1 (.pointer (some ⟨b1,0,none⟩))) 2 (vI s32.1)) 9 (vI s32.2)) 76 (.bool (decide (s32.2 < (p0.fOrders.length:Int))))) 10 (.pointer (some ⟨b36,0,none⟩))) 11 (.bool y37)) 12 (.bool y39)) 13 (.bool y41)) 14 (.bool y43)) 15 (.bool y45)) 110 (.bool (((!y37) || (!y39)) || (!y41))))) (fun tm0 => ?_) (fun key => ?_)
        ·refine oY rfl (yMB rfl) ?_
         refine oJ 8 (fun tm0 => (upd (upd (upd (upd (upd (upd (upd (upd (upd (upd (upd tm0 1 (.pointer (some ⟨b1,0,none⟩))) 2 (vI s32.1)) 9 (vI s32.2)) 76 (.bool (decide (s32.2 < (p0.fOrders.length:Int))))) 10 (.pointer (some ⟨b36,0,none⟩))) 11 (.bool y37)) 12 (.bool y39)) 13 (.bool y41)) 14 (.bool y43)) 15 (.bool y45)) 119 (.bool ((((!y37) || (!y39)) || (!y41)) || (decide ((rdL p0.fOrders s32.2).fH.fHi < (rdL p0.fOrders s32.2).fH.fLo)))))) (fun tm0 => ?_) (fun key => ?_)
         ·refine oY rfl (yMB rfl) ?_
          refine oJ 3 (fun tm0 => (upd (upd (upd (upd (upd (upd (upd (upd (upd (upd (upd tm0 1 (.pointer (some ⟨b1,0,none⟩))) 2 (vI s32.1)) 9 (vI s32.2)) 76 (.bool (decide (s32.2 < (p0.fOrders.length:Int))))) 10 (.pointer (some ⟨b36,0,none⟩))) 11 (.bool y37)) 12 (.bool y39)) 13 (.bool y41)) 14 (.bool y43)) 15 (.bool y45)) 123 (.bool (((((!y37) || (!y39)) || (!y41)) || (decide ((rdL p0.fOrders s32.2).fH.fHi < (rdL p0.fOrders s32.2).fH.fLo))) || (!y43))))) (fun tm0 => ?_) (fun key => ?_)
          ·refine oY rfl (yMB rfl) ?_
           refine oJ 3 (fun tm0 => (upd (upd (upd (upd (upd (upd (upd (upd (upd (upd (upd tm0 1 (.pointer (some ⟨b1,0,none⟩))) 2 (vI s32.1)) 9 (vI s32.2)) 76 (.bool (decide (s32.2 < (p0.fOrders.length:Int))))) 10 (.pointer (some ⟨b36,0,none⟩))) 11 (.bool y37)) 12 (.bool y39)) 13 (.bool y41)) 14 (.bool y43)) 15 (.bool y45)) 127 (.bool ((((((!y37) || (!y39)) || (!y41)) || (decide ((rdL p0.fOrders s32.2).fH.fHi < (rdL p0.fOrders s32.2).fH.fLo))) || (!y43)) || (!y45))))) (fun tm0 => ?_) (fun key => ?_)
           ·refine oN (eT ?_)
            rcases iOs h with ⟨hp52,h⟩ | ⟨hp52,h⟩
            ·refine cT (vB hp52) (cS (cR (oY rfl (yAI rfl) (oN (eT (al (aa (ai (aa (aQ 1 ?_))))))))))
             obtain rfl:=sI h
             exact ax ⟨rfl,_,rfl,(kp (kp (kp rfl)))⟩
            ·refine cF (vB hp52) (cK (eT (cS (cR (oY rfl (yAI rfl) (oN (eT (cB ?_))))))))
             obtain ⟨u55,hl59,h⟩:=bOs h
             refine bB (fun (s:(Int × Int)) L tm => ∃ (tm0:Nat → Value),L = [aj b1 57 [.slice Aa p0.fB.length ca,.slice Ab p0.fOrders.length cb],aj b36 96 [vI ((rdL p0.fOrders s32.2).fID),vI ((rdL p0.fOrders s32.2).fH.fLo),vI ((rdL p0.fOrders s32.2).fH.fHi),vI ((rdL p0.fOrders s32.2).fD),vI ((rdL p0.fOrders s32.2).fW)]] ∧ tm = (upd (upd (upd (upd (upd (upd (upd (upd (upd (upd (upd (upd tm0 1 (.pointer (some ⟨b1,0,none⟩))) 2 (vI s.1)) 9 (vI s32.2)) 76 (.bool (decide (s32.2 < (p0.fOrders.length:Int))))) 10 (.pointer (some ⟨b36,0,none⟩))) 11 (.bool y37)) 12 (.bool y39)) 13 (.bool y41)) 14 (.bool y43)) 15 (.bool y45)) 127 (.bool ((((((!y37) || (!y39)) || (!y41)) || (decide ((rdL p0.fOrders s32.2).fH.fHi < (rdL p0.fOrders s32.2).fH.fLo))) || (!y43)) || (!y45)))) 16 (vI s.2))) 6 hl59 ⟨_,rfl,(kp4 (kp4 (kp4 rfl)))⟩ ?_ ?_
             ·rintro s54 L tm st ⟨tm0_s54,rfl,rfl⟩ h
              unfold iv at h
              refine cS (cS (cR (oY rfl (yMI rfl) (oY rfl (yMI rfl) (oY rfl (bm rfl rfl) (oN (eT ?_)))))))
              rcases iOs h with ⟨hp56,h⟩ | ⟨hp56,h⟩
              ·refine cT (vB hp56) (cK (eT (cS (cB (cS ?_)))))
               refine ba 9 cm (by kernel_rfl) (by kernel_rfl) ?_
               refine qY rfl (yFA cn rfl) (qY rfl (yL 0 go rfl rfl rfl) (qY rfl (yMI rfl) ?_))
               obtain ⟨hg57,h⟩:=gOs h
               refine qY rfl (yI jM (by decide) hg57.1 hg57.2 (RdL.arg hr0_1) (eL au rfl) rfl rfl) ?_
               refine qY rfl (yFR (A:=Ab) (j:=(Int.toNat s54.2 * 5)) jR rfl) (qY rfl (yR (A:=Ab) (j:=((Int.toNat s54.2 * 5) + 0)) (v:=vI ((rdL p0.fOrders s54.2).fID)) aV (RdL.arg hr0_1) rfl (eG au hg57.1 (av hg57.2 rfl) rfl)) (qY rfl (yFA jR rfl) (qY rfl (yL 1 aV rfl rfl rfl) (qY rfl (dA rfl rfl) (bX (oN (eT ?_)))))))
               rcases iOs h with ⟨hp58,h⟩ | ⟨hp58,h⟩
               ·refine cT (vB hp58) (cS (cR (oY rfl (yAI rfl) (oN (eT (al (ai (aa ?_))))))))
                obtain rfl:=sI h
                exact ax ⟨rfl,_,rfl,(kp4 (kp4 (kp4 rfl)))⟩
               ·refine cF (vB hp58) (cK (aw (eT (cR (oY rfl (yMI rfl) (oY rfl (aX rfl rfl) (oY rfl (yAI rfl) (oN ?_))))))))
                obtain rfl:=sI h
                exact eN ⟨_,rfl,(kp4 (kp4 (kp4 rfl)))⟩
              ·refine cF (vB hp56) (aH (ah ?_))
               obtain rfl:=sI h
               exact ax ⟨rfl,_,rfl,(kp4 (kp4 (kp4 rfl)))⟩
             ·intro e L tm hJ
              rcases u55 with u60 | u61
              ·dsimp only at h hJ
               obtain ⟨rfl,tm0_u60,rfl,rfl⟩:=hJ
               refine ⟨(by intro hc; cases hc),?_⟩
               refine ai (ai (aa (aQ 1 ?_)))
               obtain rfl:=sI h
               exact ax ⟨rfl,_,rfl,(kp (kp (kp rfl)))⟩
              ·dsimp only at h hJ
               obtain ⟨rfl,tm0_u61,rfl,rfl⟩:=hJ
               refine ⟨(by intro hc; cases hc),?_⟩
               refine ac (aw (eT (cR (oY rfl (yMI rfl) (oY rfl (aX rfl rfl) (oY rfl (yAI rfl) (oN (aQ 1 ?_))))))))
               obtain rfl:=sI h
               exact eN ⟨_,rfl,(kp (kp (kp rfl)))⟩
           ·rcases aq (((((!y37) || (!y39)) || (!y41)) || (decide ((rdL p0.fOrders s32.2).fH.fHi < (rdL p0.fOrders s32.2).fH.fLo))) || (!y43)) with hp51 | hp51
            ·refine oSk (sF rfl rfl rfl rfl hp51) (oSk (sF rfl rfl rfl rfl hp51) (oY rfl (ae (vB hp51) rfl) ?_))
             exact key _ _ (keep (keep (keep (keep (keep (keep (keep (keep (keep (keep (keep rfl rfl) rfl) rfl) rfl) rfl) rfl) rfl) rfl) rfl) rfl) (vB (iI hp51)))
            ·refine oY (sT rfl rfl rfl rfl hp51) (yMB rfl) (oY (sT rfl rfl rfl rfl hp51) (bM rfl) (oY rfl (ag (vB hp51) rfl) ?_))
             exact key _ _ (keep (keep (keep (keep (keep (keep (keep (keep (keep (keep (keep rfl rfl) rfl) rfl) rfl) rfl) rfl) rfl) rfl) rfl) rfl) (vB (iH hp51)))
          ·rcases aq ((((!y37) || (!y39)) || (!y41)) || (decide ((rdL p0.fOrders s32.2).fH.fHi < (rdL p0.fOrders s32.2).fH.fLo))) with hp50 | hp50
           ·refine oSk (sF rfl rfl rfl rfl hp50) (oSk (sF rfl rfl rfl rfl hp50) (oY rfl (ae (vB hp50) rfl) ?_))
            exact key _ _ (keep (keep (keep (keep (keep (keep (keep (keep (keep (keep (keep rfl rfl) rfl) rfl) rfl) rfl) rfl) rfl) rfl) rfl) rfl) (vB (iI hp50)))
           ·refine oY (sT rfl rfl rfl rfl hp50) (yMB rfl) (oY (sT rfl rfl rfl rfl hp50) (bM rfl) (oY rfl (ag (vB hp50) rfl) ?_))
            exact key _ _ (keep (keep (keep (keep (keep (keep (keep (keep (keep (keep (keep rfl rfl) rfl) rfl) rfl) rfl) rfl) rfl) rfl) rfl) rfl) (vB (iH hp50)))
         ·rcases aq (((!y37) || (!y39)) || (!y41)) with hp49 | hp49
          ·refine oSk (sF rfl rfl rfl rfl hp49) (oSk (sF rfl rfl rfl rfl hp49) (oSk (sF rfl rfl rfl rfl hp49) (oSk (sF rfl rfl rfl rfl hp49) (oSk (sF rfl rfl rfl rfl hp49) (oSk (sF rfl rfl rfl rfl hp49) (oSk (sF rfl rfl rfl rfl hp49) (oY rfl (ae (vB hp49) rfl) ?_)))))))
           exact key _ _ (keep (keep (keep (keep (keep (keep (keep (keep (keep (keep (keep rfl rfl) rfl) rfl) rfl) rfl) rfl) rfl) rfl) rfl) rfl) (vB (iI hp49)))
          ·refine oY (sT rfl rfl rfl rfl hp49) (yFA gx rfl) (oY (sT rfl rfl rfl rfl hp49) (yFA co rfl) (oY (sT rfl rfl rfl rfl hp49) (yL 1 aV rfl rfl rfl) (oY (sT rfl rfl rfl rfl hp49) (yFA gx rfl) (oY (sT rfl rfl rfl rfl hp49) (yFA bL rfl) (oY (sT rfl rfl rfl rfl hp49) (yL 1 aV rfl rfl rfl) (oY (sT rfl rfl rfl rfl hp49) (eI rfl rfl) (oY rfl (ag (vB hp49) rfl) ?_)))))))
           exact key _ _ (keep (keep (keep (keep (keep (keep (keep (keep (keep (keep (keep rfl rfl) rfl) rfl) rfl) rfl) rfl) rfl) rfl) rfl) rfl) (vB (iH hp49)))
        ·rcases aq ((!y37) || (!y39)) with hp48 | hp48
         ·refine oSk (sF rfl rfl rfl rfl hp48) (oSk (sF rfl rfl rfl rfl hp48) (oY rfl (ae (vB hp48) rfl) ?_))
          exact key _ _ (keep (keep (keep (keep (keep (keep (keep (keep (keep (keep (keep rfl rfl) rfl) rfl) rfl) rfl) rfl) rfl) rfl) rfl) rfl) (vB (iI hp48)))
         ·refine oY (sT rfl rfl rfl rfl hp48) (yMB rfl) (oY (sT rfl rfl rfl rfl hp48) (bM rfl) (oY rfl (ag (vB hp48) rfl) ?_))
          exact key _ _ (keep (keep (keep (keep (keep (keep (keep (keep (keep (keep (keep rfl rfl) rfl) rfl) rfl) rfl) rfl) rfl) rfl) rfl) rfl) (vB (iH hp48)))
       ·rcases aq (!y37) with hp47 | hp47
        ·refine oSk (sF rfl rfl rfl rfl hp47) (oSk (sF rfl rfl rfl rfl hp47) (oY rfl (ae (vB hp47) rfl) ?_))
         exact key _ _ (keep (keep (keep (keep (keep (keep (keep (keep (keep (keep (keep rfl rfl) rfl) rfl) rfl) rfl) rfl) rfl) rfl) rfl) rfl) (vB (iI hp47)))
        ·refine oY (sT rfl rfl rfl rfl hp47) (yMB rfl) (oY (sT rfl rfl rfl rfl hp47) (bM rfl) (oY rfl (ag (vB hp47) rfl) ?_))
         exact key _ _ (keep (keep (keep (keep (keep (keep (keep (keep (keep (keep (keep rfl rfl) rfl) rfl) rfl) rfl) rfl) rfl) rfl) rfl) rfl) (vB (iH hp47)))
      ·refine cF (vB hp34) (aH (ah ?_))
       obtain rfl:=sI h
       exact ax ⟨rfl,_,rfl,(kp (kp (kp rfl)))⟩
     ·intro e L tm hJ
      rcases u33 with u63 | u64
      ·dsimp only at h hJ
       obtain ⟨rfl,tm0_u63,rfl,rfl⟩:=hJ
       refine ⟨(by intro hc; cases hc),?_⟩
       refine ai (aa ?_)
       obtain rfl:=sI h
       exact ap (.inl rfl) rfl (rVt (v:=vI u63.1) rfl) (fun W2 hW2 => ⟨rfl,hW2.none⟩)
      ·dsimp only at h hJ
       obtain ⟨rfl,tm0_u64,rfl,rfl⟩:=hJ
       refine ⟨(by intro hc; cases hc),?_⟩
       refine ac (eT (cS (cR (oY rfl (yAI rfl) (oN (eT (al ?_)))))))
       obtain rfl:=sI h
       exact ap (.inl rfl) rfl (rVt (v:=vI 0) rfl) (fun W2 hW2 => ⟨rfl,hW2.none⟩)
 ·rcases aq (decide (24 < (p0.fB.length:Int))) with hp2 | hp2
  ·refine oSk (sF rfl rfl rfl rfl hp2) (oSk (sF rfl rfl rfl rfl hp2) (oSk (sF rfl rfl rfl rfl hp2) (oSk (sF rfl rfl rfl rfl hp2) (oY rfl (ae (vB hp2) rfl) ?_))))
   exact key _ _ (keep (keep (keep rfl rfl) rfl) (vB (iI hp2)))
  ·refine oY (sT rfl rfl rfl rfl hp2) (yFA cn rfl) (oY (sT rfl rfl rfl rfl hp2) (yL 0 go rfl rfl rfl) (oY (sT rfl rfl rfl rfl hp2) (bd (us:=[]) kN rfl) (oY (sT rfl rfl rfl rfl hp2) (eI rfl rfl) (oY rfl (ag (vB hp2) rfl) ?_))))
   exact key _ _ (keep (keep (keep rfl rfl) rfl) (vB (iH hp2)))
theorem pz (p0:TY) (p1:Int) (res:Int) (h:nn p0 p1 = some res) (W:World) (Aa:Option Addr) (n0_0 ca : Nat) (hn0_0:n0_0 = p0.fB.length) (hr0_0:Rd W Aa n0_0 ca (encL aD p0.fB)) (Ab:Option Addr) (n0_1 cb : Nat) (hn0_1:n0_1 = p0.fOrders.length) (hr0_1:Rd W Ab n0_1 cb (encL aA p0.fOrders)) :
  Calls Tryz.prog 97 [.agg #[.slice Aa n0_0 ca,.slice Ab n0_1 cb],vI p1].toArray W fun e W2 => e = .returned (vI res) ∧ Ext W W2 []:=by
 subst hn0_0
 subst hn0_1
 unfold nn at h
 refine ad (m:=22) Tryz.func97 rfl rfl (nB rfl) (cS (cR ?_))
 refine aO [.slice Aa p0.fB.length ca,.slice Ab p0.fOrders.length cb] rfl rfl rfl (fun b1 => ?_)
 refine oY rfl (yAI rfl) (oN (eT (cS (cS (cR (oY rfl (yAI rfl) (oN (eT (cB ?_)))))))))
 obtain ⟨u4,hl8,h⟩:=bOs h
 refine bB (fun (s:(Int × Int)) L tm => ∃ (tm0:Nat → Value),L = [aj b1 57 [.slice Aa p0.fB.length ca,.slice Ab p0.fOrders.length cb]] ∧ tm = (upd (upd (upd (upd tm0 1 (vI p1)) 2 (.pointer (some ⟨b1,0,none⟩))) 4 (vI s.1)) 5 (vI s.2))) 0 hl8 ⟨_,rfl,(kp4 rfl)⟩ ?_ ?_
 ·rintro s3 L tm st ⟨tm0_s3,rfl,rfl⟩ h
  unfold mg at h
  refine cS (cS (cR (oY rfl (yMI rfl) (oY rfl (yFA eh rfl) (oY rfl (yL 0 jP rfl rfl rfl) (oY rfl (bd (us:=[]) jr rfl) (oY rfl (bm rfl rfl) (oN (eT ?_)))))))))
  rcases iOs h with ⟨hp5,h⟩ | ⟨hp5,h⟩
  ·refine cT (vB hp5) (cK (eT (cS (cB (cS (cR (oY rfl (yFA eh rfl) (oY rfl (yL 0 jP rfl rfl rfl) (oY rfl (yMI rfl) ?_)))))))))
   obtain ⟨hg6,h⟩:=gOs h
   refine oY rfl (yI lN (by decide) hg6.1 hg6.2 (RdL.arg hr0_0) (eL aK rfl) rfl rfl) ?_
   refine oY rfl (yFR (A:=Aa) (j:=(Int.toNat s3.2 * 3)) j4 rfl) (oY rfl (yR (A:=Aa) (j:=((Int.toNat s3.2 * 3) + 0)) (v:=vI ((rdL p0.fB s3.2).fID)) aV (RdL.arg hr0_0) rfl (eG aK hg6.1 (av hg6.2 rfl) rfl)) (oY rfl (yMI rfl) (oY rfl (dA rfl rfl) (oN (eT ?_)))))
   rcases iOs h with ⟨hp7,h⟩ | ⟨hp7,h⟩
   ·refine cT (vB hp7) (cS (cR (oY rfl (yMI rfl) (oY rfl (yAI rfl) (oN (eT (al (ai (aa ?_)))))))))
    obtain rfl:=sI h
    exact ax ⟨rfl,_,rfl,(kp4 rfl)⟩
   ·refine cF (vB hp7) (cK (aw (eT (cR (oY rfl (yMI rfl) (oY rfl (aX rfl rfl) (oY rfl (yAI rfl) (oN ?_))))))))
    obtain rfl:=sI h
    exact eN ⟨_,rfl,(kp4 rfl)⟩
  ·refine cF (vB hp5) (aH (ah ?_))
   obtain rfl:=sI h
   exact ax ⟨rfl,_,rfl,(kp4 rfl)⟩
 ·intro e L tm hJ
  rcases u4 with u9 | u10
  ·dsimp only at h hJ
   obtain ⟨rfl,tm0_u9,rfl,rfl⟩:=hJ
   refine ⟨(by intro hc; cases hc),?_⟩
   refine ai (aa ?_)
   obtain rfl:=sI h
   exact ap (.inl rfl) rfl (rVt (v:=vI u9.1) rfl) (fun W2 hW2 => ⟨rfl,hW2.none⟩)
  ·dsimp only at h hJ
   obtain ⟨rfl,tm0_u10,rfl,rfl⟩:=hJ
   refine ⟨(by intro hc; cases hc),?_⟩
   refine ac (eT (cS (cR (oY rfl (yAI rfl) (oN (eT (al ?_)))))))
   obtain rfl:=sI h
   exact ap (.inl rfl) rfl (rVt (v:=vI (-1)) rfl) (fun W2 hW2 => ⟨rfl,hW2.none⟩)
theorem iD (p0:TY) (p1:Int) (p2:Int) (res:Bool) (h:g0 p0 p1 p2 = some res) (W:World) (Aa:Option Addr) (n0_0 ca : Nat) (hn0_0:n0_0 = p0.fB.length) (hr0_0:Rd W Aa n0_0 ca (encL aD p0.fB)) (Ab:Option Addr) (n0_1 cb : Nat) (hn0_1:n0_1 = p0.fOrders.length) (hr0_1:Rd W Ab n0_1 cb (encL aA p0.fOrders)) :
  Calls Tryz.prog 98 [.agg #[.slice Aa n0_0 ca,.slice Ab n0_1 cb],vI p1,vI p2].toArray W fun e W2 => e = .returned (.bool res) ∧ Ext W W2 []:=by
 subst hn0_0
 subst hn0_1
 unfold g0 at h
 refine ad (m:=45) Tryz.func98 rfl rfl (nB rfl) (cS (cR ?_))
 refine aO [.slice Aa p0.fB.length ca,.slice Ab p0.fOrders.length cb] rfl rfl rfl (fun b1 => ?_)
 refine oY rfl (yAB rfl) (oN (eT (cS ?_)))
 refine ba 22 cm (by kernel_rfl) (by kernel_rfl) ?_
 refine qY rfl (yFA eh rfl) (qY rfl (yL 0 jP rfl rfl rfl) (qY rfl (yMI rfl) ?_))
 obtain ⟨hg2,h⟩:=gOs h
 refine qY rfl (yI lN (by decide) hg2.1 hg2.2 (RdL.arg hr0_0) (eL aK rfl) rfl rfl) ?_
 refine qY rfl (yFR (A:=Aa) (j:=(Int.toNat p2 * 3)) o8 rfl) (qY rfl (yR (A:=Aa) (j:=((Int.toNat p2 * 3) + 1)) (v:=vI ((rdL p0.fB p2).fHour)) aV (RdL.arg hr0_0) rfl (eG aK hg2.1 (av hg2.2 rfl) rfl)) (qY rfl (yFA cn rfl) (qY rfl (yL 0 go rfl rfl rfl) (qY rfl (yMI rfl) ?_))))
 obtain ⟨hg3,h⟩:=gOs h
 refine qY rfl (yI jM (by decide) hg3.1 hg3.2 (RdL.arg hr0_1) (eL au rfl) rfl rfl) ?_
 refine qY rfl (yFR (A:=Ab) (j:=(Int.toNat p1 * 5)) gx rfl) (qY rfl (yFR (A:=Ab) (j:=((Int.toNat p1 * 5) + 1)) co rfl) (qY rfl (yR (A:=Ab) (j:=(((Int.toNat p1 * 5) + 1) + 0)) (v:=vI ((rdL p0.fOrders p1).fH.fLo)) aV (RdL.arg hr0_1) rfl (eG (q:=1) au hg3.1 (av hg3.2 rfl) rfl)) (qY rfl (yFA cn rfl) (qY rfl (yL 0 go rfl rfl rfl) (qY rfl (yMI rfl) ?_)))))
 obtain ⟨hg4,h⟩:=gOs h
 refine qY rfl (yI jM (by decide) hg4.1 hg4.2 (RdL.arg hr0_1) (eL au rfl) rfl rfl) ?_
 refine qY rfl (yFR (A:=Ab) (j:=(Int.toNat p1 * 5)) gx rfl) (qY rfl (yFR (A:=Ab) (j:=((Int.toNat p1 * 5) + 1)) bL rfl) (qY rfl (yR (A:=Ab) (j:=(((Int.toNat p1 * 5) + 1) + 1)) (v:=vI ((rdL p0.fOrders p1).fH.fHi)) aV (RdL.arg hr0_1) rfl (eG (q:=2) au hg4.1 (av hg4.2 rfl) rfl)) ?_))
 obtain ⟨y5,hy6,h⟩:=bOs h
 refine qY rfl (yC [vI ((rdL p0.fB p2).fHour),vI ((rdL p0.fOrders p1).fH.fLo),vI ((rdL p0.fOrders p1).fH.fHi)] lc rfl (fun W2 hW2 => bb ((rdL p0.fB p2).fHour) ((rdL p0.fOrders p1).fH.fLo) ((rdL p0.fOrders p1).fH.fHi) y5 hy6 W2 ) rfl) (qY rfl (yAB rfl) (bX (oN (eT (cS ?_)))))
 refine ba 17 cm (by kernel_rfl) (by kernel_rfl) ?_
 refine qY rfl (yMB rfl) (qY rfl (yMB rfl) ?_)
 obtain ⟨b8,hb9,h⟩:=bOs h
 refine qJ 14 (fun tm0 => (upd (upd tm0 6 (.bool false)) 44 (.bool b8))) (fun tm0 => ?_) (fun key => ?_)
 ·refine qY rfl (yAB rfl) (bX (oN (eT (al ?_))))
  obtain rfl:=sI h
  exact ap (.inl rfl) rfl (rVt (v:=.bool b8) rfl) (fun W2 hW2 => ⟨rfl,hW2.none⟩)
 ·clear h; rcases iOs hb9 with ⟨hp7,h⟩ | ⟨hp7,h⟩
  ·refine qY (sT rfl rfl rfl rfl hp7) (yFA eh rfl) (qY (sT rfl rfl rfl rfl hp7) (yL 0 jP rfl rfl rfl) (qY (sT rfl rfl rfl rfl hp7) (yMI rfl) ?_))
   obtain ⟨hg10,h⟩:=gOs h
   refine qY (sT rfl rfl rfl rfl hp7) (yI lN (by decide) hg10.1 hg10.2 (RdL.arg hr0_0) (eL aK rfl) rfl rfl) ?_
   refine qY (sT rfl rfl rfl rfl hp7) (yFR (A:=Aa) (j:=(Int.toNat p2 * 3)) o5 rfl) (qY (sT rfl rfl rfl rfl hp7) (yR (A:=Aa) (j:=((Int.toNat p2 * 3) + 2)) (v:=vI ((rdL p0.fB p2).fD)) aV (RdL.arg hr0_0) rfl (eG aK hg10.1 (av hg10.2 rfl) rfl)) (qY (sT rfl rfl rfl rfl hp7) (yFA cn rfl) (qY (sT rfl rfl rfl rfl hp7) (yL 0 go rfl rfl rfl) (qY (sT rfl rfl rfl rfl hp7) (yMI rfl) ?_))))
   obtain ⟨hg11,h⟩:=gOs h
   refine qY (sT rfl rfl rfl rfl hp7) (yI jM (by decide) hg11.1 hg11.2 (RdL.arg hr0_1) (eL au rfl) rfl rfl) ?_
   refine qY (sT rfl rfl rfl rfl hp7) (yFR (A:=Ab) (j:=(Int.toNat p1 * 5)) po rfl) (qY (sT rfl rfl rfl rfl hp7) (yR (A:=Ab) (j:=((Int.toNat p1 * 5) + 3)) (v:=vI ((rdL p0.fOrders p1).fD)) aV (RdL.arg hr0_1) rfl (eG au hg11.1 (av hg11.2 rfl) rfl)) (qY (sT rfl rfl rfl rfl hp7) (pG rfl rfl) (qY rfl (ae (vB hp7) rfl) ?_)))
   obtain rfl:=sI h
   exact key _ _ (kp (kp rfl))
  ·refine am (sF rfl rfl rfl rfl hp7) (am (sF rfl rfl rfl rfl hp7) (am (sF rfl rfl rfl rfl hp7) (am (sF rfl rfl rfl rfl hp7) (am (sF rfl rfl rfl rfl hp7) (am (sF rfl rfl rfl rfl hp7) (am (sF rfl rfl rfl rfl hp7) (am (sF rfl rfl rfl rfl hp7) (am (sF rfl rfl rfl rfl hp7) (am (sF rfl rfl rfl rfl hp7) (am (sF rfl rfl rfl rfl hp7) (am (sF rfl rfl rfl rfl hp7) (am (sF rfl rfl rfl rfl hp7) (qY rfl (ag (vB hp7) rfl) ?_)))))))))))))
   obtain rfl:=sI h
   exact key _ _ (kp (kp rfl))
end Go.Proofs.YthndghnkebboaabGreat
