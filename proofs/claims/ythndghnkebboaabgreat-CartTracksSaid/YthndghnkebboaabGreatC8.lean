import Derived.Test.YthndghnkebboaabGreatF
import Derived.Test.YthndghnkebboaabGreatC5
import Derived.Test.YthndghnkebboaabGreatGD
import Derived.Test.YthndghnkebboaabGreatGr
import Derived.Test.YthndghnkebboaabGreatC1
import Derived.Test.YthndghnkebboaabGreatC3
import Derived.Test.YthndghnkebboaabGreatC0
set_option maxHeartbeats 4000000
set_option maxRecDepth 100000
set_option linter.unusedVariables false
namespace Go.Proofs.YthndghnkebboaabGreat
open Go.RowKit (Below)
attribute [local irreducible] OX QX CX EX OpY Calls CallsIn
theorem oD (p0:TY) (p1:(List Int)) (p2:Int) (res:Bool) (h:l3 p0 p1 p2 = some res) (W:World) (Aa:Option Addr) (n0_0 ca : Nat) (hn0_0:n0_0 = p0.fB.length) (hr0_0:Rd W Aa n0_0 ca (encL aD p0.fB)) (Ab:Option Addr) (n0_1 cb : Nat) (hn0_1:n0_1 = p0.fOrders.length) (hr0_1:Rd W Ab n0_1 cb (encL aA p0.fOrders)) (Ac:Option Addr) (n1_0 cc : Nat) (hn1_0:n1_0 = p1.length) (hr1_0:Rd W Ac n1_0 cc (encL cI p1)) :
  Calls Tryz.prog 67 [.agg #[.slice Aa n0_0 ca,.slice Ab n0_1 cb],.slice Ac n1_0 cc,vI p2].toArray W fun e W2 => e = .returned (.bool res) ∧ Ext W W2 []:=by
 subst hn0_0
 subst hn0_1
 subst hn1_0
 unfold l3 at h
 refine ad (m:=68) Tryz.func67 rfl rfl (nB rfl) (cS (cR ?_))
 refine aO [.slice Aa p0.fB.length ca,.slice Ab p0.fOrders.length cb] rfl rfl rfl (fun b1 => ?_)
 refine oY rfl (yAB rfl) (oN (eT (cS (cS (cR (oY rfl (yMS rfl) (oY rfl (bd (us:=[]) dH rfl) (oY rfl (yFA cn rfl) (oY rfl (yL 0 go rfl rfl rfl) (oY rfl (bd (us:=[]) kN rfl) (oY rfl (db rfl rfl) (oN (eT ?_)))))))))))))
 rcases iOs h with ⟨hp2,h⟩ | ⟨hp2,h⟩
 ·refine cT (vB hp2) (cS (cR (oY rfl (yAB rfl) (oN (eT (al (aa ?_)))))))
  obtain rfl:=sI h
  exact ap (.inl rfl) rfl (rVt (v:=.bool false) rfl) (fun W2 hW2 => ⟨rfl,hW2.none⟩)
 ·refine cF (vB hp2) (cK (eT (cS (cR (oY rfl (yAI rfl) (oN (eT (cS (cS (cR (oY rfl (yAI rfl) (oN (eT (cB ?_))))))))))))))
  obtain ⟨u5,hl27,h⟩:=bOs h
  refine bB (fun (s:(Bool × Int × Int)) L tm => ∃ (tm0:Nat → Value),L = [aj b1 57 [.slice Aa p0.fB.length ca,.slice Ab p0.fOrders.length cb]] ∧ tm = (upd (upd (upd (upd (upd (upd tm0 1 (.slice Ac p1.length cc)) 2 (vI p2)) 3 (.pointer (some ⟨b1,0,none⟩))) 6 (.bool s.1)) 7 (vI s.2.1)) 8 (vI s.2.2))) 0 hl27 ⟨_,rfl,(kp4 (kp (kp rfl)))⟩ ?_ ?_
  ·rintro s4 L tm st ⟨tm0_s4,rfl,rfl⟩ h
   unfold lH at h
   refine cS (cS (cR (oY rfl (yMI rfl) (oY rfl (yMS rfl) (oY rfl (bd (us:=[]) dH rfl) (oY rfl (bm rfl rfl) (oN (eT ?_))))))))
   rcases iOs h with ⟨hp6,h⟩ | ⟨hp6,h⟩
   ·refine cT (vB hp6) (cK (eT (cS (cB (cS (cS (cR (oY rfl (yMS rfl) (oY rfl (yMI rfl) ?_)))))))))
    obtain ⟨hg7,h⟩:=gOs h
    refine oY rfl (yI d7 (by decide) hg7.1 hg7.2 (RdL.arg hr1_0) (eL aJ rfl) rfl rfl) ?_
    refine oY rfl (yR (A:=Ac) (j:=(Int.toNat s4.2.2 * 1)) (v:=vI (rdL p1 s4.2.2)) aV (RdL.arg hr1_0) rfl (a6 aJ hg7.1 (av hg7.2 rfl) rfl)) (oY rfl (dA rfl rfl) (oN (eT ?_)))
    rcases iOs h with ⟨hp8,h⟩ | ⟨hp8,h⟩
    ·refine cT (vB hp8) (aH (ah (ac (eT (cR (oY rfl (yMI rfl) (oY rfl (aX rfl rfl) (oY rfl (yAI rfl) (oN ?_)))))))))
     obtain rfl:=sI h
     exact eN ⟨_,rfl,(kp4 (kp (kp rfl)))⟩
    ·refine cF (vB hp8) (cK (eT (cS ?_)))
     refine ba 7 cm (by kernel_rfl) (by kernel_rfl) ?_
     refine qY rfl (yN 0 [.slice Aa p0.fB.length ca,.slice Ab p0.fOrders.length cb] dc rfl rfl rfl) (qY rfl (yMS rfl) (qY rfl (yMI rfl) ?_))
     obtain ⟨hg9,h⟩:=gOs h
     refine qY rfl (yI d7 (by decide) hg9.1 hg9.2 (RdL.arg hr1_0) (eL aJ rfl) rfl rfl) ?_
     refine qY rfl (yR (A:=Ac) (j:=(Int.toNat s4.2.2 * 1)) (v:=vI (rdL p1 s4.2.2)) aV (RdL.arg hr1_0) rfl (a6 aJ hg9.1 (av hg9.2 rfl) rfl)) ?_
     obtain ⟨y10,hy11,h⟩:=bOs h
     refine qY rfl (yC [.agg #[.slice Aa p0.fB.length ca,.slice Ab p0.fOrders.length cb],vI (rdL p1 s4.2.2)] go_97 rfl (fun W2 hW2 => pz p0 (rdL p1 s4.2.2) y10 hy11 W2 Aa p0.fB.length ca rfl ((RdL.arg hr0_0) W2 hW2) Ab p0.fOrders.length cb rfl ((RdL.arg hr0_1) W2 hW2)) rfl) (qY rfl (yAI rfl) (bX (oN (eT (cS (cS (cR (oY rfl (yMI rfl) (oY rfl (bm rfl rfl) (oN (eT ?_)))))))))))
     rcases iOs h with ⟨hp12,h⟩ | ⟨hp12,h⟩
     ·refine cT (vB hp12) (cS (cR (oY rfl (yAB rfl) (oN (eT (al (aa (ai (aa ?_)))))))))
      obtain rfl:=sI h
      exact ax ⟨rfl,_,rfl,(kp4 (kp (kp rfl)))⟩
     ·refine cF (vB hp12) (cK (eT (cS (cR (oY rfl (yN 0 [.slice Aa p0.fB.length ca,.slice Ab p0.fOrders.length cb] dc rfl rfl rfl) (oY rfl (yMI rfl) (oY rfl (yMI rfl) ?_)))))))
      obtain ⟨y13,hy14,h⟩:=bOs h
      refine oY rfl (yC [.agg #[.slice Aa p0.fB.length ca,.slice Ab p0.fOrders.length cb],vI s4.2.2,vI y10] go_98 rfl (fun W2 hW2 => iD p0 s4.2.2 y10 y13 hy14 W2 Aa p0.fB.length ca rfl ((RdL.arg hr0_0) W2 hW2) Ab p0.fOrders.length cb rfl ((RdL.arg hr0_1) W2 hW2)) rfl) (oY rfl (yAB rfl) (oN (eT (cS (cS (cR (oY rfl (yMB rfl) (oY rfl (bM rfl) (oN (eT ?_))))))))))
      rcases iOs h with ⟨hp15,h⟩ | ⟨hp15,h⟩
      ·refine cT (vB hp15) (cS (cR (oY rfl (yAB rfl) (oN (eT (al (aa (ai (aa ?_)))))))))
       obtain rfl:=sI h
       exact ax ⟨rfl,_,rfl,(kp4 (kp (kp rfl)))⟩
      ·refine cF (vB hp15) (cK (eT (cS (cS (cR (oY rfl (yAI rfl) (oN (eT (cB ?_)))))))))
       obtain ⟨u18,hl23,h⟩:=bOs h
       refine bB (fun (s:(Bool × Int)) L tm => ∃ (tm0:Nat → Value),L = [aj b1 57 [.slice Aa p0.fB.length ca,.slice Ab p0.fOrders.length cb]] ∧ tm = (upd (upd (upd (upd (upd (upd (upd (upd (upd (upd (upd (upd (upd tm0 1 (.slice Ac p1.length cc)) 2 (vI p2)) 3 (.pointer (some ⟨b1,0,none⟩))) 6 (.bool s.1)) 7 (vI s4.2.1)) 8 (vI s4.2.2)) 21 (.bool (decide (s4.2.2 < (p1.length:Int))))) 28 (.bool ((rdL p1 s4.2.2) == 0))) 9 (vI y10)) 36 (.bool (decide (y10 < 0)))) 10 (.bool y13)) 42 (.bool (!y13))) 11 (vI s.2))) 2 hl23 ⟨_,rfl,(kp4 (kp4 (kp4 (kp rfl))))⟩ ?_ ?_
       ·rintro s17 L tm st ⟨tm0_s17,rfl,rfl⟩ h
        unfold lJ at h
        refine cS (cS (cR (oY rfl (yMI rfl) (oY rfl (yMI rfl) (oY rfl (bm rfl rfl) (oN (eT ?_)))))))
        rcases iOs h with ⟨hp19,h⟩ | ⟨hp19,h⟩
        ·refine cT (vB hp19) (cK (eT (cS (cB (cS ?_)))))
         refine ba 9 cm (by kernel_rfl) (by kernel_rfl) ?_
         refine qY rfl (yMS rfl) (qY rfl (yMI rfl) ?_)
         obtain ⟨hg20,h⟩:=gOs h
         refine qY rfl (yI d7 (by decide) hg20.1 hg20.2 (RdL.arg hr1_0) (eL aJ rfl) rfl rfl) ?_
         refine qY rfl (yR (A:=Ac) (j:=(Int.toNat s17.2 * 1)) (v:=vI (rdL p1 s17.2)) aV (RdL.arg hr1_0) rfl (a6 aJ hg20.1 (av hg20.2 rfl) rfl)) (qY rfl (yMS rfl) (qY rfl (yMI rfl) ?_))
         obtain ⟨hg21,h⟩:=gOs h
         refine qY rfl (yI d7 (by decide) hg21.1 hg21.2 (RdL.arg hr1_0) (eL aJ rfl) rfl rfl) ?_
         refine qY rfl (yR (A:=Ac) (j:=(Int.toNat s4.2.2 * 1)) (v:=vI (rdL p1 s4.2.2)) aV (RdL.arg hr1_0) rfl (a6 aJ hg21.1 (av hg21.2 rfl) rfl)) (qY rfl (dA rfl rfl) (bX (oN (eT ?_))))
         rcases iOs h with ⟨hp22,h⟩ | ⟨hp22,h⟩
         ·refine cT (vB hp22) (cS (cR (oY rfl (yAB rfl) (oN (eT (al (ai (aa ?_))))))))
          obtain rfl:=sI h
          exact ax ⟨rfl,_,rfl,(kp4 (kp4 (kp4 (kp rfl))))⟩
         ·refine cF (vB hp22) (cK (aw (eT (cR (oY rfl (yMI rfl) (oY rfl (aX rfl rfl) (oY rfl (yAI rfl) (oN ?_))))))))
          obtain rfl:=sI h
          exact eN ⟨_,rfl,(kp4 (kp4 (kp4 (kp rfl))))⟩
        ·refine cF (vB hp19) (aH (ah ?_))
         obtain rfl:=sI h
         exact ax ⟨rfl,_,rfl,(kp4 (kp4 (kp4 (kp rfl))))⟩
       ·intro e L tm hJ
        rcases u18 with u24 | u25
        ·dsimp only at h hJ
         obtain ⟨rfl,tm0_u24,rfl,rfl⟩:=hJ
         refine ⟨(by intro hc; cases hc),?_⟩
         refine ai (aa (ai (aa ?_)))
         obtain rfl:=sI h
         exact ax ⟨rfl,_,rfl,(kp4 (kp (kp rfl)))⟩
        ·dsimp only at h hJ
         obtain ⟨rfl,tm0_u25,rfl,rfl⟩:=hJ
         refine ⟨(by intro hc; cases hc),?_⟩
         refine ac (eT (cR (oY rfl (yMI rfl) (oY rfl (yFA cn rfl) (oY rfl (yL 0 go rfl rfl rfl) (oY rfl (yMI rfl) ?_))))))
         obtain ⟨hg26,h⟩:=gOs h
         refine oY rfl (yI jM (by decide) hg26.1 hg26.2 (RdL.arg hr0_1) (eL au rfl) rfl rfl) ?_
         refine oY rfl (yFR (A:=Ab) (j:=(Int.toNat s4.2.2 * 5)) iG rfl) (oY rfl (yR (A:=Ab) (j:=((Int.toNat s4.2.2 * 5) + 4)) (v:=vI ((rdL p0.fOrders s4.2.2).fW)) aV (RdL.arg hr0_1) rfl (eG au hg26.1 (av hg26.2 rfl) rfl)) (oY rfl (aX rfl rfl) (oY rfl (yAI rfl) (oN (aw (eT (cR (oY rfl (yMI rfl) (oY rfl (aX rfl rfl) (oY rfl (yAI rfl) (oN ?_)))))))))))
         obtain rfl:=sI h
         exact eN ⟨_,rfl,(kp4 (kp (kp rfl)))⟩
   ·refine cF (vB hp6) (aH (ah ?_))
    obtain rfl:=sI h
    exact ax ⟨rfl,_,rfl,(kp4 (kp (kp rfl)))⟩
  ·intro e L tm hJ
   rcases u5 with u28 | u29
   ·dsimp only at h hJ
    obtain ⟨rfl,tm0_u28,rfl,rfl⟩:=hJ
    refine ⟨(by intro hc; cases hc),?_⟩
    refine ai (aa ?_)
    obtain rfl:=sI h
    exact ap (.inl rfl) rfl (rVt (v:=.bool u28.1) rfl) (fun W2 hW2 => ⟨rfl,hW2.none⟩)
   ·dsimp only at h hJ
    obtain ⟨rfl,tm0_u29,rfl,rfl⟩:=hJ
    refine ⟨(by intro hc; cases hc),?_⟩
    refine ac (eT (cS (cR (oY rfl (yMI rfl) (oY rfl (yMI rfl) (oY rfl (dA rfl rfl) (oY rfl (yAB rfl) (oN (eT (al ?_))))))))))
    obtain rfl:=sI h
    exact ap (.inl rfl) rfl (rVt (v:=.bool (u29.2.1 == p2)) rfl) (fun W2 hW2 => ⟨rfl,hW2.none⟩)
theorem nh (p0:TY) (p1:(List Int)) (res:Int) (h:j2 p0 p1 = some res) (W:World) (Aa:Option Addr) (n0_0 ca : Nat) (hn0_0:n0_0 = p0.fB.length) (hr0_0:Rd W Aa n0_0 ca (encL aD p0.fB)) (Ab:Option Addr) (n0_1 cb : Nat) (hn0_1:n0_1 = p0.fOrders.length) (hr0_1:Rd W Ab n0_1 cb (encL aA p0.fOrders)) (Ac:Option Addr) (n1_0 cc : Nat) (hn1_0:n1_0 = p1.length) (hr1_0:Rd W Ac n1_0 cc (encL cI p1)) :
  Calls Tryz.prog 68 [.agg #[.slice Aa n0_0 ca,.slice Ab n0_1 cb],.slice Ac n1_0 cc].toArray W fun e W2 => e = .returned (vI res) ∧ Ext W W2 []:=by
 subst hn0_0
 subst hn0_1
 subst hn1_0
 unfold j2 at h
 refine ad (m:=96) Tryz.func68 rfl rfl (nB rfl) (cS (cR ?_))
 refine aO [.slice Aa p0.fB.length ca,.slice Ab p0.fOrders.length cb] rfl rfl rfl (fun b1 => ?_)
 refine oY rfl (yAI rfl) (oN (eT (cS (cS (cR (oY rfl (yMS rfl) (oY rfl (bd (us:=[]) dH rfl) (oY rfl (yFA eh rfl) (oY rfl (yL 0 jP rfl rfl rfl) (oY rfl (bd (us:=[]) jr rfl) (oY rfl (db rfl rfl) (oN (eT ?_)))))))))))))
 rcases iOs h with ⟨hp2,h⟩ | ⟨hp2,h⟩
 ·refine cT (vB hp2) (cS (cR (oY rfl (yAI rfl) (oN (eT (al (aa ?_)))))))
  obtain rfl:=sI h
  exact ap (.inl rfl) rfl (rVt (v:=vI (-1)) rfl) (fun W2 hW2 => ⟨rfl,hW2.none⟩)
 ·refine cF (vB hp2) (cK (eT (cS (cR (oY rfl (yAI rfl) (oN (eT (cS (cS (cR (oY rfl (yAI rfl) (oN (eT (cB ?_))))))))))))))
  obtain ⟨u5,hl12,h⟩:=bOs h
  refine bB (fun (s:(Int × Int × Int)) L tm => ∃ (tm0:Nat → Value),L = [aj b1 57 [.slice Aa p0.fB.length ca,.slice Ab p0.fOrders.length cb]] ∧ tm = (upd (upd (upd (upd (upd tm0 1 (.slice Ac p1.length cc)) 2 (.pointer (some ⟨b1,0,none⟩))) 4 (vI s.1)) 5 (vI s.2.1)) 6 (vI s.2.2))) 0 hl12 ⟨_,rfl,(kp4 (kp rfl))⟩ ?_ ?_
  ·rintro s4 L tm st ⟨tm0_s4,rfl,rfl⟩ h
   unfold jz at h
   refine cS (cS (cR (oY rfl (yMI rfl) (oY rfl (yMS rfl) (oY rfl (bd (us:=[]) dH rfl) (oY rfl (bm rfl rfl) (oN (eT ?_))))))))
   rcases iOs h with ⟨hp6,h⟩ | ⟨hp6,h⟩
   ·refine cT (vB hp6) (cK (eT (cS (cB (cS (cR (oY rfl (yMS rfl) (oY rfl (yMI rfl) ?_))))))))
    obtain ⟨hg7,h⟩:=gOs h
    refine oY rfl (yI d7 (by decide) hg7.1 hg7.2 (RdL.arg hr1_0) (eL aJ rfl) rfl rfl) ?_
    refine oY rfl (yR (A:=Ac) (j:=(Int.toNat s4.2.2 * 1)) (v:=vI (rdL p1 s4.2.2)) aV (RdL.arg hr1_0) rfl (a6 aJ hg7.1 (av hg7.2 rfl) rfl)) ?_
    obtain ⟨y8,hy9,h⟩:=bOs h
    refine oY rfl (yC [vI (rdL p1 s4.2.2),vI 0,vI 1000] lc rfl (fun W2 hW2 => bb (rdL p1 s4.2.2) 0 1000 y8 hy9 W2 ) rfl) (oY rfl (yAB rfl) (oN (eT (cS (cS (cR (oY rfl (yMB rfl) (oY rfl (bM rfl) (oN (eT ?_))))))))))
    rcases iOs h with ⟨hp10,h⟩ | ⟨hp10,h⟩
    ·refine cT (vB hp10) (cS (cR (oY rfl (yAI rfl) (oN (eT (al (aa (ai (aa ?_)))))))))
     obtain rfl:=sI h
     exact ax ⟨rfl,_,rfl,(kp4 (kp rfl))⟩
    ·refine cF (vB hp10) (cK (eT (cR (oY rfl (yMI rfl) (oY rfl (yMS rfl) (oY rfl (yMI rfl) ?_))))))
     obtain ⟨hg11,h⟩:=gOs h
     refine oY rfl (yI d7 (by decide) hg11.1 hg11.2 (RdL.arg hr1_0) (eL aJ rfl) rfl rfl) ?_
     refine oY rfl (yR (A:=Ac) (j:=(Int.toNat s4.2.2 * 1)) (v:=vI (rdL p1 s4.2.2)) aV (RdL.arg hr1_0) rfl (a6 aJ hg11.1 (av hg11.2 rfl) rfl)) (oY rfl (aX rfl rfl) (oY rfl (yAI rfl) (oN (aw (eT (cR (oY rfl (yMI rfl) (oY rfl (aX rfl rfl) (oY rfl (yAI rfl) (oN ?_))))))))))
     obtain rfl:=sI h
     exact eN ⟨_,rfl,(kp4 (kp rfl))⟩
   ·refine cF (vB hp6) (aH (ah ?_))
    obtain rfl:=sI h
    exact ax ⟨rfl,_,rfl,(kp4 (kp rfl))⟩
  ·intro e L tm hJ
   rcases u5 with u13 | u14
   ·dsimp only at h hJ
    obtain ⟨rfl,tm0_u13,rfl,rfl⟩:=hJ
    refine ⟨(by intro hc; cases hc),?_⟩
    refine ai (aa ?_)
    obtain rfl:=sI h
    exact ap (.inl rfl) rfl (rVt (v:=vI u13.1) rfl) (fun W2 hW2 => ⟨rfl,hW2.none⟩)
   ·dsimp only at h hJ
    obtain ⟨rfl,tm0_u14,rfl,rfl⟩:=hJ
    refine ⟨(by intro hc; cases hc),?_⟩
    refine ac (eT (cS (cS (cR (oY rfl (yAI rfl) (oN (eT (cB ?_))))))))
    obtain ⟨u17,hl39,h⟩:=bOs h
    refine bc (fun (s:(Int × Int)) L tm => ∃ (tm0:Nat → Value),L = [aj b1 57 [.slice Aa p0.fB.length ca,.slice Ab p0.fOrders.length cb]] ∧ tm = (upd (upd (upd (upd (upd tm0 1 (.slice Ac p1.length cc)) 2 (.pointer (some ⟨b1,0,none⟩))) 4 (vI u14.1)) 5 (vI s.1)) 8 (vI s.2))) 2 hl39 ⟨_,rfl,(kp4 (kp rfl))⟩ ?_ ?_
    ·rintro s16 L tm st ⟨tm0_s16,rfl,rfl⟩ h
     unfold jH at h
     refine cS (cS (cR (oY rfl (yMI rfl) (oY rfl (yFA cn rfl) (oY rfl (yL 0 go rfl rfl rfl) (oY rfl (bd (us:=[]) kN rfl) (oY rfl (bm rfl rfl) (oN (eT ?_)))))))))
     rcases iOs h with ⟨hp18,h⟩ | ⟨hp18,h⟩
     ·refine cT (vB hp18) (cK (eT (cS (cB (cS (cR (oY rfl (yFA cn rfl) (oY rfl (yL 0 go rfl rfl rfl) (oY rfl (yMI rfl) ?_)))))))))
      obtain ⟨hg19,h⟩:=gOs h
      refine oY rfl (yI jM (by decide) hg19.1 hg19.2 (RdL.arg hr0_1) (eL au rfl) rfl rfl) ?_
      refine oY rfl (yFR (A:=Ab) (j:=(Int.toNat s16.2 * 5)) iG rfl) (oY rfl (yR (A:=Ab) (j:=((Int.toNat s16.2 * 5) + 4)) (v:=vI ((rdL p0.fOrders s16.2).fW)) aV (RdL.arg hr0_1) rfl (eG au hg19.1 (av hg19.2 rfl) rfl)) (oY rfl (yAI rfl) (oN (eT (cS (cS (cR (oY rfl (yAI rfl) (oN (eT (cB ?_)))))))))))
      obtain ⟨u22,hl28,h⟩:=bOs h
      refine bc (fun (s:(Int × Int)) L tm => ∃ (tm0:Nat → Value),L = [aj b1 57 [.slice Aa p0.fB.length ca,.slice Ab p0.fOrders.length cb]] ∧ tm = (upd (upd (upd (upd (upd (upd (upd (upd tm0 1 (.slice Ac p1.length cc)) 2 (.pointer (some ⟨b1,0,none⟩))) 4 (vI u14.1)) 5 (vI s16.1)) 8 (vI s16.2)) 44 (.bool (decide (s16.2 < (p0.fOrders.length:Int))))) 9 (vI s.1)) 10 (vI s.2))) 4 hl28 ⟨_,rfl,(kp4 (kp4 rfl))⟩ ?_ ?_
      ·rintro s21 L tm st ⟨tm0_s21,rfl,rfl⟩ h
       unfold jW at h
       refine cS (cS (cR (oY rfl (yMI rfl) (oY rfl (yMS rfl) (oY rfl (bd (us:=[]) dH rfl) (oY rfl (bm rfl rfl) (oN (eT ?_))))))))
       rcases iOs h with ⟨hp23,h⟩ | ⟨hp23,h⟩
       ·refine cT (vB hp23) (cK (eT (cS (cB (cS (cR (oY rfl (yN 0 [.slice Aa p0.fB.length ca,.slice Ab p0.fOrders.length cb] dc rfl rfl rfl) (oY rfl (yMI rfl) (oY rfl (yMI rfl) ?_)))))))))
        obtain ⟨y24,hy25,h⟩:=bOs h
        refine oY rfl (yC [.agg #[.slice Aa p0.fB.length ca,.slice Ab p0.fOrders.length cb],vI s16.2,vI s21.2] go_98 rfl (fun W2 hW2 => iD p0 s16.2 s21.2 y24 hy25 W2 Aa p0.fB.length ca rfl ((RdL.arg hr0_0) W2 hW2) Ab p0.fOrders.length cb rfl ((RdL.arg hr0_1) W2 hW2)) rfl) (oY rfl (yAB rfl) (oN (eT (cS (cR (oY rfl (yMB rfl) (oN (eT ?_))))))))
        rcases iOs h with ⟨hp26,h⟩ | ⟨hp26,h⟩
        ·refine cT (vB hp26) (cR (oY rfl (yMI rfl) (oY rfl (yMS rfl) (oY rfl (yMI rfl) ?_))))
         obtain ⟨hg27,h⟩:=gOs h
         refine oY rfl (yI d7 (by decide) hg27.1 hg27.2 (RdL.arg hr1_0) (eL aJ rfl) rfl rfl) ?_
         refine oY rfl (yR (A:=Ac) (j:=(Int.toNat s21.2 * 1)) (v:=vI (rdL p1 s21.2)) aV (RdL.arg hr1_0) rfl (a6 aJ hg27.1 (av hg27.2 rfl) rfl)) (oY rfl (y_min rfl rfl) (oY rfl (yAI rfl) (oN (aw (eT (cR (oY rfl (yMI rfl) (oY rfl (aX rfl rfl) (oY rfl (yAI rfl) (oN ?_))))))))))
         obtain rfl:=sI h
         exact eN ⟨_,rfl,(kp4 (kp4 rfl))⟩
        ·refine cF (vB hp26) (cK (aw (eT (cR (oY rfl (yMI rfl) (oY rfl (aX rfl rfl) (oY rfl (yAI rfl) (oN ?_))))))))
         obtain rfl:=sI h
         exact eN ⟨_,rfl,(kp4 (kp4 rfl))⟩
       ·refine cF (vB hp23) (aH (ah ?_))
        obtain rfl:=sI h
        exact ax ⟨rfl,_,rfl,(kp4 (kp4 rfl))⟩
      ·intro e L tm hJ
       obtain ⟨rfl,tm0_u22,rfl,rfl⟩:=hJ
       refine ⟨(by intro hc; cases hc),?_⟩
       refine ac (eT (cS (cR (oY rfl (yAB rfl) (oN (eT (cS (cS (cR (oY rfl (yAI rfl) (oN (eT (cB ?_)))))))))))))
       obtain ⟨u31,hl36,h⟩:=bOs h
       refine bc (fun (s:(Bool × Int)) L tm => ∃ (tm0:Nat → Value),L = [aj b1 57 [.slice Aa p0.fB.length ca,.slice Ab p0.fOrders.length cb]] ∧ tm = (upd (upd (upd (upd (upd (upd (upd (upd (upd (upd tm0 1 (.slice Ac p1.length cc)) 2 (.pointer (some ⟨b1,0,none⟩))) 4 (vI u14.1)) 5 (vI s16.1)) 8 (vI s16.2)) 44 (.bool (decide (s16.2 < (p0.fOrders.length:Int))))) 9 (vI u22.1)) 10 (vI u22.2)) 12 (.bool s.1)) 13 (vI s.2))) 6 hl36 ⟨_,rfl,(kp4 (kp4 (kp (kp rfl))))⟩ ?_ ?_
       ·rintro s30 L tm st ⟨tm0_s30,rfl,rfl⟩ h
        unfold jx at h
        refine cS (cS (cR (oY rfl (yMI rfl) (oY rfl (yMS rfl) (oY rfl (bd (us:=[]) dH rfl) (oY rfl (bm rfl rfl) (oN (eT ?_))))))))
        rcases iOs h with ⟨hp32,h⟩ | ⟨hp32,h⟩
        ·refine cT (vB hp32) (cK (eT (cS (cB (cS (cR (oY rfl (yN 0 [.slice Aa p0.fB.length ca,.slice Ab p0.fOrders.length cb] dc rfl rfl rfl) (oY rfl (yMI rfl) (oY rfl (yMI rfl) ?_)))))))))
         obtain ⟨y33,hy34,h⟩:=bOs h
         refine oY rfl (yC [.agg #[.slice Aa p0.fB.length ca,.slice Ab p0.fOrders.length cb],vI s16.2,vI s30.2] go_98 rfl (fun W2 hW2 => iD p0 s16.2 s30.2 y33 hy34 W2 Aa p0.fB.length ca rfl ((RdL.arg hr0_0) W2 hW2) Ab p0.fOrders.length cb rfl ((RdL.arg hr0_1) W2 hW2)) rfl) (oY rfl (yAB rfl) (oN (eT (cR (oY rfl (yMB rfl) (oY rfl (yMB rfl) ?_))))))
         refine oJ 2 (fun tm0 => (upd (upd (upd (upd (upd (upd (upd (upd (upd (upd (upd (upd (upd tm0 1 (.slice Ac p1.length cc)) 2 (.pointer (some ⟨b1,0,none⟩))) 4 (vI u14.1)) 5 (vI s16.1)) 8 (vI s16.2)) 44 (.bool (decide (s16.2 < (p0.fOrders.length:Int))))) 9 (vI u22.1)) 10 (vI u22.2)) 12 (.bool s30.1)) 13 (vI s30.2)) 73 (.bool (decide (s30.2 < (p1.length:Int))))) 14 (.bool y33)) 83 (.bool (s30.1 || y33)))) (fun tm0 => ?_) (fun key => ?_)
         ·refine oY rfl (yAB rfl) (oN (aw (eT (cR (oY rfl (yMI rfl) (oY rfl (aX rfl rfl) (oY rfl (yAI rfl) (oN ?_))))))))
          obtain rfl:=sI h
          exact eN ⟨_,rfl,(kp4 (kp4 (kp (kp rfl))))⟩
         ·rcases aq s30.1 with hp35 | hp35
          ·refine oSk (sF rfl rfl rfl rfl hp35) (oY rfl (ae (vB hp35) rfl) ?_)
           exact key _ _ (keep (keep (keep (keep (keep (keep (keep (keep (keep (keep (keep (keep (keep rfl rfl) rfl) rfl) rfl) rfl) rfl) rfl) rfl) rfl) rfl) rfl) rfl) (vB (iI hp35)))
          ·refine oY (sT rfl rfl rfl rfl hp35) (yMB rfl) (oY rfl (ag (vB hp35) rfl) ?_)
           exact key _ _ (keep (keep (keep (keep (keep (keep (keep (keep (keep (keep (keep (keep (keep rfl rfl) rfl) rfl) rfl) rfl) rfl) rfl) rfl) rfl) rfl) rfl) rfl) (vB (iH hp35)))
        ·refine cF (vB hp32) (aH (ah ?_))
         obtain rfl:=sI h
         exact ax ⟨rfl,_,rfl,(kp4 (kp4 (kp (kp rfl))))⟩
       ·intro e L tm hJ
        obtain ⟨rfl,tm0_u31,rfl,rfl⟩:=hJ
        refine ⟨(by intro hc; cases hc),?_⟩
        refine ac (eT (cS (cR (oY rfl (yMB rfl) (oN (eT ?_))))))
        rcases iOs h with ⟨hp37,h⟩ | ⟨hp37,h⟩
        ·refine cT (vB hp37) (cR (oY rfl (yMI rfl) (oY rfl (yFA cn rfl) (oY rfl (yL 0 go rfl rfl rfl) (oY rfl (yMI rfl) ?_)))))
         obtain ⟨hg38,h⟩:=gOs h
         refine oY rfl (yI jM (by decide) hg38.1 hg38.2 (RdL.arg hr0_1) (eL au rfl) rfl rfl) ?_
         refine oY rfl (yFR (A:=Ab) (j:=(Int.toNat s16.2 * 5)) iG rfl) (oY rfl (yR (A:=Ab) (j:=((Int.toNat s16.2 * 5) + 4)) (v:=vI ((rdL p0.fOrders s16.2).fW)) aV (RdL.arg hr0_1) rfl (eG au hg38.1 (av hg38.2 rfl) rfl)) (oY rfl (aX rfl rfl) (oY rfl (yMI rfl) (oY rfl (dV rfl rfl) (oY rfl (yAI rfl) (oN (aw (eT (cR (oY rfl (yMI rfl) (oY rfl (aX rfl rfl) (oY rfl (yAI rfl) (oN ?_)))))))))))))
         obtain rfl:=sI h
         exact eN ⟨_,rfl,(kp4 (kp rfl))⟩
        ·refine cF (vB hp37) (cK (aw (eT (cR (oY rfl (yMI rfl) (oY rfl (aX rfl rfl) (oY rfl (yAI rfl) (oN ?_))))))))
         obtain rfl:=sI h
         exact eN ⟨_,rfl,(kp4 (kp rfl))⟩
     ·refine cF (vB hp18) (aH (ah ?_))
      obtain rfl:=sI h
      exact ax ⟨rfl,_,rfl,(kp4 (kp rfl))⟩
    ·intro e L tm hJ
     obtain ⟨rfl,tm0_u17,rfl,rfl⟩:=hJ
     refine ⟨(by intro hc; cases hc),?_⟩
     refine ac (eT (cS (cR (oY rfl (yMI rfl) (oY rfl (yAI rfl) (oN (eT (al ?_))))))))
     obtain rfl:=sI h
     exact ap (.inl rfl) rfl (rVt (v:=vI u17.1) rfl) (fun W2 hW2 => ⟨rfl,hW2.none⟩)
theorem lm (p0:TY) (p1:TPlan) (res:Int) (h:gZ p0 p1 = some res) (W:World) (Aa:Option Addr) (n0_0 ca : Nat) (hn0_0:n0_0 = p0.fB.length) (hr0_0:Rd W Aa n0_0 ca (encL aD p0.fB)) (Ab:Option Addr) (n0_1 cb : Nat) (hn0_1:n0_1 = p0.fOrders.length) (hr0_1:Rd W Ab n0_1 cb (encL aA p0.fOrders)) (Ac:Option Addr) (n1_0 cc : Nat) (hn1_0:n1_0 = p1.fG.length) (hr1_0:Rd W Ac n1_0 cc (encL cI p1.fG)) (A1_2:Option Addr) (n1_2 c1_2 : Nat) (hn1_2:n1_2 = p1.fP.length) (hr1_2:Rd W A1_2 n1_2 c1_2 (encL cI p1.fP)) :
  Calls Tryz.prog 28 [.agg #[.slice Aa n0_0 ca,.slice Ab n0_1 cb],.agg #[.slice Ac n1_0 cc,vI p1.fW,.slice A1_2 n1_2 c1_2]].toArray W fun e W2 => e = .returned (vI res) ∧ Ext W W2 []:=by
 subst hn0_0
 subst hn0_1
 subst hn1_0
 subst hn1_2
 unfold gZ at h
 refine ad (m:=29) Tryz.func28 rfl rfl (nB rfl) (cS (cR ?_))
 refine aO [.slice Aa p0.fB.length ca,.slice Ab p0.fOrders.length cb] rfl rfl rfl (fun b1 => ?_)
 refine aO [.slice Ac p1.fG.length cc,vI p1.fW,.slice A1_2 p1.fP.length c1_2] rfl rfl rfl (fun b2 => ?_)
 refine oY rfl (yAI rfl) (oN (eT (cS (cR (oY rfl (yN 0 [.slice Aa p0.fB.length ca,.slice Ab p0.fOrders.length cb] dc rfl rfl rfl) ?_)))))
 obtain ⟨y3,hy4,h⟩:=bOs h
 refine oY rfl (yC [.agg #[.slice Aa p0.fB.length ca,.slice Ab p0.fOrders.length cb]] go_66 rfl (fun W2 hW2 => lq p0 y3 hy4 W2 Aa p0.fB.length ca rfl ((RdL.arg hr0_0) W2 hW2) Ab p0.fOrders.length cb rfl ((RdL.arg hr0_1) W2 hW2)) rfl) (oY rfl (yAI rfl) (oN (eT (cS (cS (cR (oY rfl (yMI rfl) (oY rfl (db rfl rfl) (oN (eT ?_))))))))))
 rcases iOs h with ⟨hp5,h⟩ | ⟨hp5,h⟩
 ·refine cT (vB hp5) (cS (cR (oY rfl (yMI rfl) (oY rfl (yAI rfl) (oN (eT (al (aa ?_))))))))
  obtain rfl:=sI h
  exact ap (.inl rfl) rfl (rVt (v:=vI y3) rfl) (fun W2 hW2 => ⟨rfl,hW2.none⟩)
 ·refine cF (vB hp5) (cK (eT (cS (cR (oY rfl (yN 0 [.slice Aa p0.fB.length ca,.slice Ab p0.fOrders.length cb] dc rfl rfl rfl) (oY rfl (yFA rL rfl) (oY rfl (yL 1 pE rfl rfl rfl) (oY rfl (yFA o4 rfl) (oY rfl (yL 1 aV rfl rfl rfl) ?_)))))))))
  obtain ⟨y6,hy7,h⟩:=bOs h
  refine oY rfl (yC [.agg #[.slice Aa p0.fB.length ca,.slice Ab p0.fOrders.length cb],.slice Ac p1.fG.length cc,vI p1.fW] go_67 rfl (fun W2 hW2 => oD p0 p1.fG p1.fW y6 hy7 W2 Aa p0.fB.length ca rfl ((RdL.arg hr0_0) W2 hW2) Ab p0.fOrders.length cb rfl ((RdL.arg hr0_1) W2 hW2) Ac p1.fG.length cc rfl ((RdL.arg hr1_0) W2 hW2)) rfl) (oY rfl (yAB rfl) (oN (eT (cS (cS ?_)))))
  refine ba 11 cm (by kernel_rfl) (by kernel_rfl) ?_
  refine qY rfl (yMB rfl) (qY rfl (bM rfl) (qY rfl (yMB rfl) ?_))
  obtain ⟨b9,hb10,h⟩:=bOs h
  refine qJ 8 (fun tm0 => (upd (upd tm0 4 (vI 0)) 28 (.bool b9))) (fun tm0 => ?_) (fun key => ?_)
  ·refine bX (oN (eT ?_))
   rcases iOs h with ⟨hp11,h⟩ | ⟨hp11,h⟩
   ·refine cT (vB hp11) (cS (cR (oY rfl (yAI rfl) (oN (eT (al (aa ?_)))))))
    obtain rfl:=sI h
    exact ap (.inl rfl) rfl (rVt (v:=vI 8) rfl) (fun W2 hW2 => ⟨rfl,hW2.none⟩)
   ·refine cF (vB hp11) (cK (eT (cS (cR (oY rfl (yAI rfl) (oN (eT (al ?_))))))))
    obtain rfl:=sI h
    exact ap (.inl rfl) rfl (rVt (v:=vI 0) rfl) (fun W2 hW2 => ⟨rfl,hW2.none⟩)
  ·clear h; rcases iOs hb10 with ⟨hp8,h⟩ | ⟨hp8,h⟩
   ·refine am (sF rfl rfl rfl rfl hp8) (am (sF rfl rfl rfl rfl hp8) (am (sF rfl rfl rfl rfl hp8) (am (sF rfl rfl rfl rfl hp8) (am (sF rfl rfl rfl rfl hp8) (am (sF rfl rfl rfl rfl hp8) (am (sF rfl rfl rfl rfl hp8) (qY rfl (ae (vB hp8) rfl) ?_)))))))
    obtain rfl:=sI h
    exact key _ _ (kp (kp rfl))
   ·refine qY (sT rfl rfl rfl rfl hp8) (yN 0 [.slice Aa p0.fB.length ca,.slice Ab p0.fOrders.length cb] dc rfl rfl rfl) (qY (sT rfl rfl rfl rfl hp8) (yFA ql rfl) (qY (sT rfl rfl rfl rfl hp8) (yL 1 pE rfl rfl rfl) ?_))
    obtain ⟨y12,hy13,h⟩:=bOs h
    refine qY (sT rfl rfl rfl rfl hp8) (yC [.agg #[.slice Aa p0.fB.length ca,.slice Ab p0.fOrders.length cb],.slice A1_2 p1.fP.length c1_2] go_68 rfl (fun W2 hW2 => nh p0 p1.fP y12 hy13 W2 Aa p0.fB.length ca rfl ((RdL.arg hr0_0) W2 hW2) Ab p0.fOrders.length cb rfl ((RdL.arg hr0_1) W2 hW2) A1_2 p1.fP.length c1_2 rfl ((RdL.arg hr1_2) W2 hW2)) rfl) (qY (sT rfl rfl rfl rfl hp8) (yFA o4 rfl) (qY (sT rfl rfl rfl rfl hp8) (yL 1 aV rfl rfl rfl) (qY (sT rfl rfl rfl rfl hp8) (db rfl rfl) (qY rfl (ag (vB hp8) rfl) ?_))))
    obtain rfl:=sI h
    exact key _ _ (kp (kp rfl))
end Go.Proofs.YthndghnkebboaabGreat
set_option maxHeartbeats 4000000
set_option maxRecDepth 100000
namespace Go.Proofs.YthndghnkebboaabGreat
open Go.RowKit (Below)
attribute [local irreducible] OX QX CX EX OpY Calls CallsIn
theorem gV  (res:Bool) (h:dK = some res) (W:World)  :
  Calls Tryz.prog 6 [].toArray W fun e W2 => e = .returned (.bool res) ∧ Ext W W2 []:=by
 unfold dK at h
 refine ad (m:=261) Tryz.func6 rfl rfl (nB rfl) (cS (cR (oY rfl (yAB rfl) (oN (eT (cS (cR ?_)))))))
 obtain ⟨y1,hy2,h⟩:=bOs h
 refine oC [] _ _ _ rfl go_17 rfl (fun W2 hW2 => le  y1 hy2 W2 W (fun _ => True) (fun W3 hb => ⟨gm hW2.below hb,trivial⟩) ) ?_
 rintro ⟨⟨A5,n7,c6⟩,ys10,F11⟩ ⟨hn8,hP9,hV12⟩
 replace hn8 : n7 = y1.fT.length:=hn8; subst hn8
 refine aB kQ rfl (fun b13 => ?_)
 refine bT rfl (yS 2 [vI y1.fL,.slice A5 y1.fT.length c6] nu rfl (nB rfl) rfl rfl rfl) (oN (eT (cS (cR ?_))))
 obtain ⟨y14,hy15,h⟩:=bOs h
 refine oC [] _ _ _ rfl go_18 rfl (fun W2 hW2 => lF  y14 hy15 W2 ) ?_
 rintro ⟨⟨A16,n20,c17⟩,⟨A18,n22,c19⟩⟩ ⟨hn21,hn23⟩
 replace hn21 : n20 = y14.fB.length:=hn21; subst hn21
 replace hn23 : n22 = y14.fOrders.length:=hn23; subst hn23
 refine aB qo rfl (fun b24 => ?_)
 try dsimp only [lna,lca,lsz,lss]
 refine bT rfl (yS 5 [.slice A16 y14.fB.length c17,.slice A18 y14.fOrders.length c19] sz_57 rfl (nB rfl) rfl rfl rfl) (oN (eT (cS (cR (oY rfl (yFA bu rfl) (oY rfl (yL 2 ee rfl rfl rfl) ?_))))))
 obtain ⟨hg25,h⟩:=gOs h
 refine oY rfl (yI im (by decide) hg25.1 hg25.2 (RdL.row 0 rfl) (eL ak (NestP.hn hP9 rfl)) rfl rfl) ?_
 refine oY rfl (yM (A:=A5) (j:=(Int.toNat 1 * 6)) [vI ((rdL y1.fT 1).fID),vI ((rdL y1.fT 1).fFrom),vI ((rdL y1.fT 1).fTo),vI ((rdL y1.fT 1).fLong),vI ((rdL y1.fT 1).fToll),.slice ((rdL ys10 1).1.1) ((rdL y1.fT 1).fK.length) ((rdL ys10 1).1.2.2)] jJ (Nat.succ_pos _) (RdL.row 0 rfl) rfl (ja (bU (NestP.snd hP9 1) (NestP.len hP9 hg25.1 (av hg25.2 rfl))).symm (aU ak hg25.1 (av hg25.2 (NestP.hn hP9 rfl))))) ?_
 obtain ⟨y26,hy27,h⟩:=bOs h
 refine oY rfl (yC [.agg #[vI ((rdL y1.fT 1).fID),vI ((rdL y1.fT 1).fFrom),vI ((rdL y1.fT 1).fTo),vI ((rdL y1.fT 1).fLong),vI ((rdL y1.fT 1).fToll),.slice ((rdL ys10 1).1.1) ((rdL y1.fT 1).fK.length) ((rdL ys10 1).1.2.2)],vI 8] go_11 rfl (fun W2 hW2 => lg (TT.mk ((rdL y1.fT 1).fID) ((rdL y1.fT 1).fFrom) ((rdL y1.fT 1).fTo) ((rdL y1.fT 1).fLong) ((rdL y1.fT 1).fToll) ((rdL y1.fT 1).fK)) 8 y26 hy27 W2 ((rdL ys10 1).1.1) ((rdL y1.fT 1).fK.length) ((rdL ys10 1).1.2.2) rfl ((NestL.rd (PvL.nestL hP9 hV12 (fun W2 hW2 => ⟨hW2.below,trivial,hW2.mem (i:=1) rfl⟩)) hg25.1 (av hg25.2 rfl)) W2 hW2)) rfl) (oY rfl (aR rfl) (oY rfl (yE rfl rfl) (oY rfl (yE rfl rfl) (oY rfl (yAI rfl) (oY rfl (yAI rfl) (oN (eT (cS (cR (oY rfl (yN 2 [vI y1.fL,.slice A5 y1.fT.length c6] dl rfl rfl rfl) ?_))))))))))
 obtain ⟨y28,hy29,h⟩:=bOs h
 refine oC [.agg #[vI y1.fL,.slice A5 y1.fT.length c6],vI 0,vI 4] _ _ _ rfl go_19 rfl (fun W2 hW2 => mr y1 0 4 y28 hy29 W2 A5 y1.fT.length c6 ys10 rfl ((RdL.row 0 rfl) W2 hW2) (NestL.at (PvL.nestL hP9 hV12 (fun W2 hW2 => ⟨hW2.below,trivial,hW2.mem (i:=1) rfl⟩)) W2 hW2) W (fun _ => True) (fun W3 hb => ⟨gm hW2.below hb,trivial⟩) ) ?_
 rintro ⟨⟨A32,n34,c33⟩,ys37,F38⟩ ⟨hn35,hP36,hV39⟩
 replace hn35 : n34 = y28.1.fH.length:=hn35; subst hn35
 try dsimp only [lna,lca,lsz,lss]
 refine oY rfl (aR rfl) (oY rfl (yE rfl rfl) (oY rfl (yE rfl rfl) ?_))
 refine aB ze_61 rfl (fun b40 => ?_)
 try dsimp only [lna,lca,lsz,lss]
 refine bT rfl (yS 8 [.slice A32 y28.1.fH.length c33] sz_61 rfl (nB rfl) rfl rfl rfl) (oY rfl (yAI rfl) (oN (eT (cS (cR (oY rfl (yN 2 [vI y1.fL,.slice A5 y1.fT.length c6] dl rfl rfl rfl) ?_))))))
 obtain ⟨y41,hy42,h⟩:=bOs h
 refine oC [.agg #[vI y1.fL,.slice A5 y1.fT.length c6],vI 0,vI 2,vI 4] _ _ _ rfl go_20 rfl (fun W2 hW2 => pr y1 0 2 4 y41 hy42 W2 A5 y1.fT.length c6 ys10 rfl ((RdL.row 0 rfl) W2 hW2) (NestL.at (PvL.nestL hP9 hV12 (fun W2 hW2 => ⟨hW2.below,trivial,hW2.mem (i:=1) rfl⟩)) W2 hW2) W (fun _ => True) (fun W3 hb => ⟨gm hW2.below hb,trivial⟩) ) ?_
 rintro ⟨⟨A45,n47,c46⟩,ys50,F51⟩ ⟨hn48,hP49,hV52⟩
 replace hn48 : n47 = y41.1.length:=hn48; subst hn48
 try dsimp only [lna,lca,lsz,lss]
 refine oY rfl (aR rfl) (oY rfl (yE rfl rfl) (oY rfl (yE rfl rfl) (oY rfl (yAS rfl) (oY rfl (yAI rfl) (oN (eT (cS (cR (oY rfl (yN 2 [vI y1.fL,.slice A5 y1.fT.length c6] dl rfl rfl rfl) ?_)))))))))
 obtain ⟨y53,hy54,h⟩:=bOs h
 refine oC [.agg #[vI y1.fL,.slice A5 y1.fT.length c6],vI 0,vI 2,vI 4,vI 5] _ _ _ rfl go_7 rfl (fun W2 hW2 => mh y1 0 2 4 5 y53 hy54 W2 A5 y1.fT.length c6 ys10 rfl ((RdL.row 0 rfl) W2 hW2) (NestL.at (PvL.nestL hP9 hV12 (fun W2 hW2 => ⟨hW2.below,trivial,hW2.mem (i:=1) rfl⟩)) W2 hW2) W (fun _ => True) (fun W3 hb => ⟨gm hW2.below hb,trivial⟩) ) ?_
 rintro ⟨⟨A57,n59,c58⟩,F61⟩ ⟨hn60,hV62⟩
 replace hn60 : n59 = y53.1.fLegs.length:=hn60; subst hn60
 try dsimp only [lna,lca,lsz,lss]
 refine oY rfl (aR rfl) (oY rfl (yE rfl rfl) (oY rfl (yE rfl rfl) ?_))
 refine aB kq rfl (fun b63 => ?_)
 try dsimp only [lna,lca,lsz,lss]
 refine bT rfl (yS 12 [.slice A57 y53.1.fLegs.length c58,vI y53.1.fA,vI y53.1.fToll] lY rfl (nB rfl) rfl rfl rfl) (oY rfl (yAI rfl) (oN (eT (cS (cR (oY rfl (yN 2 [vI y1.fL,.slice A5 y1.fT.length c6] dl rfl rfl rfl) ?_))))))
 obtain ⟨y64,hy65,h⟩:=bOs h
 refine oY rfl (yC [.agg #[vI y1.fL,.slice A5 y1.fT.length c6],vI 0,vI 2,vI 26,vI 0] go_21 rfl (fun W2 hW2 => nI y1 0 2 26 0 y64 hy65 W2 A5 y1.fT.length c6 ys10 rfl ((RdL.row 0 rfl) W2 hW2) (NestL.at (PvL.nestL hP9 hV12 (fun W2 hW2 => ⟨hW2.below,trivial,hW2.mem (i:=1) rfl⟩)) W2 hW2)) rfl) (oY rfl (aR rfl) (oY rfl (yE rfl rfl) (oY rfl (yE rfl rfl) (oY rfl (yAI rfl) (oY rfl (yAI rfl) (oN (eT (cS (cR (oY rfl (yN 2 [vI y1.fL,.slice A5 y1.fT.length c6] dl rfl rfl rfl) ?_))))))))))
 obtain ⟨y66,hy67,h⟩:=bOs h
 refine oC [.agg #[vI y1.fL,.slice A5 y1.fT.length c6],vI 0,vI 2,vI 4,vI 0] _ _ _ rfl go_9 rfl (fun W2 hW2 => kv y1 0 2 4 0 y66 hy67 W2 A5 y1.fT.length c6 ys10 rfl ((RdL.row 0 rfl) W2 hW2) (NestL.at (PvL.nestL hP9 hV12 (fun W2 hW2 => ⟨hW2.below,trivial,hW2.mem (i:=1) rfl⟩)) W2 hW2)) ?_
 rintro ⟨A68,n70,c69⟩ hn71
 replace hn71 : n70 = y66.1.length:=hn71; subst hn71
 try dsimp only [lna,lca,lsz,lss]
 refine oY rfl (aR rfl) (oY rfl (yE rfl rfl) (oY rfl (yE rfl rfl) (oY rfl (yAS rfl) (oY rfl (yAI rfl) (oN (eT (cS (cR (oY rfl (yN 2 [vI y1.fL,.slice A5 y1.fT.length c6] dl rfl rfl rfl) ?_)))))))))
 obtain ⟨y72,hy73,h⟩:=bOs h
 refine oC [.agg #[vI y1.fL,.slice A5 y1.fT.length c6],vI 0,vI 2,vI 4,vI 60] _ _ _ rfl go_9 rfl (fun W2 hW2 => kv y1 0 2 4 60 y72 hy73 W2 A5 y1.fT.length c6 ys10 rfl ((RdL.row 0 rfl) W2 hW2) (NestL.at (PvL.nestL hP9 hV12 (fun W2 hW2 => ⟨hW2.below,trivial,hW2.mem (i:=1) rfl⟩)) W2 hW2)) ?_
 rintro ⟨A74,n76,c75⟩ hn77
 replace hn77 : n76 = y72.1.length:=hn77; subst hn77
 try dsimp only [lna,lca,lsz,lss]
 refine oY rfl (aR rfl) (oY rfl (yE rfl rfl) (oY rfl (yE rfl rfl) (oY rfl (yAS rfl) (oY rfl (yAI rfl) (oN (eT (cS (cS (cR (oY rfl (yMI rfl) (oY rfl (db rfl rfl) (oY rfl (yMB rfl) ?_))))))))))))
 refine oJ 3 (fun tm0 => (upd (upd (upd (upd (upd (upd (upd (upd (upd (upd (upd (upd (upd (upd (upd tm0 0 (.bool false)) 2 (.pointer (some ⟨b24,0,none⟩))) 3 (vI y26.1)) 5 (.pointer (some ⟨b40,0,none⟩))) 7 (.slice A45 y41.1.length c46)) 8 (vI y41.2)) 9 (.pointer (some ⟨b63,0,none⟩))) 10 (vI y53.2)) 11 (vI y64.1)) 12 (vI y64.2)) 13 (.slice A68 y66.1.length c69)) 14 (vI y66.2)) 15 (.slice A74 y72.1.length c75)) 16 (vI y72.2)) 74 (.bool ((y26.2 != 0) || (y28.2 != 0))))) (fun tm0 => ?_) (fun key => ?_)
 ·refine oY rfl (yMB rfl) ?_
  refine oJ 3 (fun tm0 => (upd (upd (upd (upd (upd (upd (upd (upd (upd (upd (upd (upd (upd (upd tm0 0 (.bool false)) 2 (.pointer (some ⟨b24,0,none⟩))) 3 (vI y26.1)) 5 (.pointer (some ⟨b40,0,none⟩))) 7 (.slice A45 y41.1.length c46)) 9 (.pointer (some ⟨b63,0,none⟩))) 10 (vI y53.2)) 11 (vI y64.1)) 12 (vI y64.2)) 13 (.slice A68 y66.1.length c69)) 14 (vI y66.2)) 15 (.slice A74 y72.1.length c75)) 16 (vI y72.2)) 78 (.bool (((y26.2 != 0) || (y28.2 != 0)) || (y41.2 != 0))))) (fun tm0 => ?_) (fun key => ?_)
  ·refine oY rfl (yMB rfl) ?_
   refine oJ 3 (fun tm0 => (upd (upd (upd (upd (upd (upd (upd (upd (upd (upd (upd (upd (upd tm0 0 (.bool false)) 2 (.pointer (some ⟨b24,0,none⟩))) 3 (vI y26.1)) 5 (.pointer (some ⟨b40,0,none⟩))) 7 (.slice A45 y41.1.length c46)) 9 (.pointer (some ⟨b63,0,none⟩))) 11 (vI y64.1)) 12 (vI y64.2)) 13 (.slice A68 y66.1.length c69)) 14 (vI y66.2)) 15 (.slice A74 y72.1.length c75)) 16 (vI y72.2)) 82 (.bool ((((y26.2 != 0) || (y28.2 != 0)) || (y41.2 != 0)) || (y53.2 != 0))))) (fun tm0 => ?_) (fun key => ?_)
   ·refine oY rfl (yMB rfl) ?_
    refine oJ 3 (fun tm0 => (upd (upd (upd (upd (upd (upd (upd (upd (upd (upd (upd (upd tm0 0 (.bool false)) 2 (.pointer (some ⟨b24,0,none⟩))) 3 (vI y26.1)) 5 (.pointer (some ⟨b40,0,none⟩))) 7 (.slice A45 y41.1.length c46)) 9 (.pointer (some ⟨b63,0,none⟩))) 11 (vI y64.1)) 13 (.slice A68 y66.1.length c69)) 14 (vI y66.2)) 15 (.slice A74 y72.1.length c75)) 16 (vI y72.2)) 86 (.bool (((((y26.2 != 0) || (y28.2 != 0)) || (y41.2 != 0)) || (y53.2 != 0)) || (y64.2 != 0))))) (fun tm0 => ?_) (fun key => ?_)
    ·refine oY rfl (yMB rfl) ?_
     refine oJ 3 (fun tm0 => (upd (upd (upd (upd (upd (upd (upd (upd (upd (upd (upd tm0 0 (.bool false)) 2 (.pointer (some ⟨b24,0,none⟩))) 3 (vI y26.1)) 5 (.pointer (some ⟨b40,0,none⟩))) 7 (.slice A45 y41.1.length c46)) 9 (.pointer (some ⟨b63,0,none⟩))) 11 (vI y64.1)) 13 (.slice A68 y66.1.length c69)) 15 (.slice A74 y72.1.length c75)) 16 (vI y72.2)) 90 (.bool ((((((y26.2 != 0) || (y28.2 != 0)) || (y41.2 != 0)) || (y53.2 != 0)) || (y64.2 != 0)) || (y66.2 != 0))))) (fun tm0 => ?_) (fun key => ?_)
     ·refine oY rfl (yMB rfl) ?_
      refine oJ 3 (fun tm0 => (upd (upd (upd (upd (upd (upd (upd (upd (upd (upd tm0 0 (.bool false)) 2 (.pointer (some ⟨b24,0,none⟩))) 3 (vI y26.1)) 5 (.pointer (some ⟨b40,0,none⟩))) 7 (.slice A45 y41.1.length c46)) 9 (.pointer (some ⟨b63,0,none⟩))) 11 (vI y64.1)) 13 (.slice A68 y66.1.length c69)) 15 (.slice A74 y72.1.length c75)) 94 (.bool (((((((y26.2 != 0) || (y28.2 != 0)) || (y41.2 != 0)) || (y53.2 != 0)) || (y64.2 != 0)) || (y66.2 != 0)) || (y72.2 != 0))))) (fun tm0 => ?_) (fun key => ?_)
      ·refine oY rfl (yMB rfl) ?_
       refine oJ 3 (fun tm0 => (upd (upd (upd (upd (upd (upd (upd (upd (upd tm0 0 (.bool false)) 2 (.pointer (some ⟨b24,0,none⟩))) 5 (.pointer (some ⟨b40,0,none⟩))) 7 (.slice A45 y41.1.length c46)) 9 (.pointer (some ⟨b63,0,none⟩))) 11 (vI y64.1)) 13 (.slice A68 y66.1.length c69)) 15 (.slice A74 y72.1.length c75)) 98 (.bool ((((((((y26.2 != 0) || (y28.2 != 0)) || (y41.2 != 0)) || (y53.2 != 0)) || (y64.2 != 0)) || (y66.2 != 0)) || (y72.2 != 0)) || (y26.1 != 21))))) (fun tm0 => ?_) (fun key => ?_)
       ·refine oY rfl (yMB rfl) ?_
        refine oJ 5 (fun tm0 => (upd (upd (upd (upd (upd (upd (upd (upd (upd tm0 0 (.bool false)) 2 (.pointer (some ⟨b24,0,none⟩))) 5 (.pointer (some ⟨b40,0,none⟩))) 7 (.slice A45 y41.1.length c46)) 9 (.pointer (some ⟨b63,0,none⟩))) 11 (vI y64.1)) 13 (.slice A68 y66.1.length c69)) 15 (.slice A74 y72.1.length c75)) 104 (.bool (((((((((y26.2 != 0) || (y28.2 != 0)) || (y41.2 != 0)) || (y53.2 != 0)) || (y64.2 != 0)) || (y66.2 != 0)) || (y72.2 != 0)) || (y26.1 != 21)) || ((y28.1.fH.length:Int) != 3))))) (fun tm0 => ?_) (fun key => ?_)
        ·refine oY rfl (yMB rfl) ?_
         obtain ⟨b87,hb88,h⟩:=bOs h
         refine oJ 7 (fun tm0 => (upd (upd (upd (upd (upd (upd (upd (upd (upd tm0 0 (.bool false)) 2 (.pointer (some ⟨b24,0,none⟩))) 5 (.pointer (some ⟨b40,0,none⟩))) 7 (.slice A45 y41.1.length c46)) 9 (.pointer (some ⟨b63,0,none⟩))) 11 (vI y64.1)) 13 (.slice A68 y66.1.length c69)) 15 (.slice A74 y72.1.length c75)) 112 (.bool b87))) (fun tm0 => ?_) (fun key => ?_)
         ·refine oY rfl (yMB rfl) ?_
          refine oJ 4 (fun tm0 => (upd (upd (upd (upd (upd (upd (upd (upd (upd tm0 0 (.bool false)) 2 (.pointer (some ⟨b24,0,none⟩))) 5 (.pointer (some ⟨b40,0,none⟩))) 7 (.slice A45 y41.1.length c46)) 9 (.pointer (some ⟨b63,0,none⟩))) 11 (vI y64.1)) 13 (.slice A68 y66.1.length c69)) 15 (.slice A74 y72.1.length c75)) 117 (.bool (b87 || ((y41.1.length:Int) != 3))))) (fun tm0 => ?_) (fun key => ?_)
          ·refine oN (eT ?_)
           rcases iOs h with ⟨hp90,h⟩ | ⟨hp90,h⟩
           ·refine cT (vB hp90) (cS (cR (oY rfl (yAB rfl) (oN (eT (al (aa ?_)))))))
            obtain rfl:=sI h
            exact ap (.inl rfl) rfl (rVt (v:=.bool false) rfl) (fun W2 hW2 => ⟨rfl,hW2.none⟩)
           ·refine cF (vB hp90) (cK (eT (cS (cR (oY rfl (yFA kD rfl) (oY rfl (yL 8 q8 rfl rfl rfl) ?_))))))
            obtain ⟨hg91,h⟩:=gOs h
            refine oY rfl (yI sl_59 (by decide) hg91.1 hg91.2 (RdL.row 6 rfl) (eL bC (NestP.hn hP36 rfl)) rfl rfl) ?_
            refine oY rfl (yR (A:=A32) (j:=(Int.toNat 2 * 1)) (v:=.slice ((rdL ys37 2).1.1) ((rdL y28.1.fH 2).length) ((rdL ys37 2).1.2.2)) pE (RdL.row 6 rfl) rfl (a6 bC hg91.1 (av hg91.2 (NestP.hn hP36 rfl)) (congrArg (fun n : Nat => some (Value.slice (rdL ys37 2).1.1 n (rdL ys37 2).1.2.2)) (NestP.len hP36 hg91.1 (av hg91.2 rfl))))) ?_
            obtain ⟨hg92,h⟩:=gOs h
            refine oY rfl (yI d7 (by decide) hg92.1 hg92.2 (NestL.rd (PvL.nestL hP36 hV39 (fun W2 hW2 => ⟨hW2.below,trivial,hW2.mem (i:=7) rfl⟩)) hg91.1 (av hg91.2 rfl)) (eL aJ rfl) rfl rfl) ?_
            refine oY rfl (yR (A:=((rdL ys37 2).1.1)) (j:=(Int.toNat 0 * 1)) (v:=vI (rdL (rdL y28.1.fH 2) 0)) aV (NestL.rd (PvL.nestL hP36 hV39 (fun W2 hW2 => ⟨hW2.below,trivial,hW2.mem (i:=7) rfl⟩)) hg91.1 (av hg91.2 rfl)) rfl (a6 aJ hg92.1 (av hg92.2 rfl) rfl)) (oY rfl (dA rfl rfl) (oY rfl (yMB rfl) ?_))
            obtain ⟨b94,hb95,h⟩:=bOs h
            refine oJ 8 (fun tm0 => (upd (upd (upd (upd (upd (upd (upd (upd (upd tm0 0 (.bool false)) 2 (.pointer (some ⟨b24,0,none⟩))) 5 (.pointer (some ⟨b40,0,none⟩))) 7 (.slice A45 y41.1.length c46)) 9 (.pointer (some ⟨b63,0,none⟩))) 11 (vI y64.1)) 13 (.slice A68 y66.1.length c69)) 15 (.slice A74 y72.1.length c75)) 133 (.bool b94))) (fun tm0 => ?_) (fun key => ?_)
            ·refine oY rfl (yMB rfl) ?_
             obtain ⟨b97,hb98,h⟩:=bOs h
             refine oJ 8 (fun tm0 => (upd (upd (upd (upd (upd (upd (upd (upd tm0 0 (.bool false)) 2 (.pointer (some ⟨b24,0,none⟩))) 7 (.slice A45 y41.1.length c46)) 9 (.pointer (some ⟨b63,0,none⟩))) 11 (vI y64.1)) 13 (.slice A68 y66.1.length c69)) 15 (.slice A74 y72.1.length c75)) 142 (.bool b97))) (fun tm0 => ?_) (fun key => ?_)
             ·refine oY rfl (yMB rfl) ?_
              obtain ⟨b100,hb101,h⟩:=bOs h
              refine oJ 6 (fun tm0 => (upd (upd (upd (upd (upd (upd (upd (upd tm0 0 (.bool false)) 2 (.pointer (some ⟨b24,0,none⟩))) 7 (.slice A45 y41.1.length c46)) 9 (.pointer (some ⟨b63,0,none⟩))) 11 (vI y64.1)) 13 (.slice A68 y66.1.length c69)) 15 (.slice A74 y72.1.length c75)) 149 (.bool b100))) (fun tm0 => ?_) (fun key => ?_)
              ·refine oY rfl (yMB rfl) ?_
               obtain ⟨b103,hb104,h⟩:=bOs h
               refine oJ 6 (fun tm0 => (upd (upd (upd (upd (upd (upd (upd (upd tm0 0 (.bool false)) 2 (.pointer (some ⟨b24,0,none⟩))) 7 (.slice A45 y41.1.length c46)) 9 (.pointer (some ⟨b63,0,none⟩))) 11 (vI y64.1)) 13 (.slice A68 y66.1.length c69)) 15 (.slice A74 y72.1.length c75)) 156 (.bool b103))) (fun tm0 => ?_) (fun key => ?_)
               ·refine oY rfl (yMB rfl) ?_
                obtain ⟨b106,hb107,h⟩:=bOs h
                refine oJ 6 (fun tm0 => (upd (upd (upd (upd (upd (upd (upd tm0 0 (.bool false)) 2 (.pointer (some ⟨b24,0,none⟩))) 9 (.pointer (some ⟨b63,0,none⟩))) 11 (vI y64.1)) 13 (.slice A68 y66.1.length c69)) 15 (.slice A74 y72.1.length c75)) 163 (.bool b106))) (fun tm0 => ?_) (fun key => ?_)
                ·refine oY rfl (yMB rfl) ?_
                 refine oJ 4 (fun tm0 => (upd (upd (upd (upd (upd (upd tm0 0 (.bool false)) 2 (.pointer (some ⟨b24,0,none⟩))) 11 (vI y64.1)) 13 (.slice A68 y66.1.length c69)) 15 (.slice A74 y72.1.length c75)) 168 (.bool (b106 && (y53.1.fA == 17))))) (fun tm0 => ?_) (fun key => ?_)
                 ·refine oY rfl (yMB rfl) ?_
                  refine oJ 3 (fun tm0 => (upd (upd (upd (upd (upd tm0 0 (.bool false)) 2 (.pointer (some ⟨b24,0,none⟩))) 13 (.slice A68 y66.1.length c69)) 15 (.slice A74 y72.1.length c75)) 172 (.bool ((b106 && (y53.1.fA == 17)) && (y64.1 == 16))))) (fun tm0 => ?_) (fun key => ?_)
                  ·refine oY rfl (yMB rfl) ?_
                   obtain ⟨b111,hb112,h⟩:=bOs h
                   refine oJ 4 (fun tm0 => (upd (upd (upd (upd tm0 0 (.bool false)) 2 (.pointer (some ⟨b24,0,none⟩))) 15 (.slice A74 y72.1.length c75)) 177 (.bool b111))) (fun tm0 => ?_) (fun key => ?_)
                   ·refine oY rfl (yMB rfl) ?_
                    obtain ⟨b114,hb115,h⟩:=bOs h
                    refine oJ 4 (fun tm0 => (upd (upd (upd tm0 0 (.bool false)) 2 (.pointer (some ⟨b24,0,none⟩))) 182 (.bool b114))) (fun tm0 => ?_) (fun key => ?_)
                    ·refine oY rfl (yAB rfl) (oN (eT (cS (cR (oY rfl (yN 5 [.slice A16 y14.fB.length c17,.slice A18 y14.fOrders.length c19] dc rfl rfl rfl) ?_)))))
                     obtain ⟨y116,hy117,h⟩:=bOs h
                     refine oC [.agg #[.slice A16 y14.fB.length c17,.slice A18 y14.fOrders.length c19]] _ _ _ rfl go_23 rfl (fun W2 hW2 => pg y14 y116 hy117 W2 A16 y14.fB.length c17 rfl ((RdL.row 3 rfl) W2 hW2) A18 y14.fOrders.length c19 rfl ((RdL.row 4 rfl) W2 hW2) W (fun _ => True) (fun W3 hb => ⟨gm hW2.below hb,trivial⟩) ) ?_
                     rintro ⟨⟨⟨A122,n124,c123⟩,F126⟩,⟨⟨A128,n130,c129⟩,F132⟩⟩ ⟨hn125,hV127,hn131,hV133⟩
                     replace hn125 : n124 = y116.1.fG.length:=hn125; subst hn125
                     replace hn131 : n130 = y116.1.fP.length:=hn131; subst hn131
                     try dsimp only [lna,lca,lsz,lss]
                     refine oY rfl (aR rfl) (oY rfl (yE rfl rfl) (oY rfl (yE rfl rfl) ?_))
                     refine aB rl rfl (fun b134 => ?_)
                     try dsimp only [lna,lca,lsz,lss]
                     refine bT rfl (yS 17 [.slice A122 y116.1.fG.length c123,vI y116.1.fW,.slice A128 y116.1.fP.length c129] rH rfl (nB rfl) rfl rfl rfl) (oY rfl (yAI rfl) (oN (eT (cS (cR (oY rfl (yN 5 [.slice A16 y14.fB.length c17,.slice A18 y14.fOrders.length c19] dc rfl rfl rfl) ?_))))))
                     obtain ⟨y135,hy136,h⟩:=bOs h
                     refine oC [.agg #[.slice A16 y14.fB.length c17,.slice A18 y14.fOrders.length c19]] _ _ _ rfl go_24 rfl (fun W2 hW2 => nK y14 y135 hy136 W2 A16 y14.fB.length c17 rfl ((RdL.row 3 rfl) W2 hW2) A18 y14.fOrders.length c19 rfl ((RdL.row 4 rfl) W2 hW2)) ?_
                     rintro ⟨A137,n139,c138⟩ hn140
                     replace hn140 : n139 = y135.1.length:=hn140; subst hn140
                     try dsimp only [lna,lca,lsz,lss]
                     refine oY rfl (aR rfl) (oY rfl (yE rfl rfl) (oY rfl (yE rfl rfl) (oY rfl (yAS rfl) (oY rfl (yAI rfl) (oN (eT (cS (cR (oY rfl (yN 5 [.slice A16 y14.fB.length c17,.slice A18 y14.fOrders.length c19] dc rfl rfl rfl) ?_)))))))))
                     obtain ⟨y141,hy142,h⟩:=bOs h
                     refine oC [.agg #[.slice A16 y14.fB.length c17,.slice A18 y14.fOrders.length c19]] _ _ _ rfl go_25 rfl (fun W2 hW2 => oZ y14 y141 hy142 W2 A16 y14.fB.length c17 rfl ((RdL.row 3 rfl) W2 hW2) A18 y14.fOrders.length c19 rfl ((RdL.row 4 rfl) W2 hW2)) ?_
                     rintro ⟨A143,n145,c144⟩ hn146
                     replace hn146 : n145 = y141.1.length:=hn146; subst hn146
                     try dsimp only [lna,lca,lsz,lss]
                     refine oY rfl (aR rfl) (oY rfl (yE rfl rfl) (oY rfl (yE rfl rfl) (oY rfl (yAS rfl) (oY rfl (yAI rfl) (oN (eT (cS (cR (oY rfl (yN 5 [.slice A16 y14.fB.length c17,.slice A18 y14.fOrders.length c19] dc rfl rfl rfl) ?_)))))))))
                     refine aG 3 (encL cI [7,8,9]) _ mc_3_3 dH l5 pn (by decide) (by decide) (by kernel_rfl) (eL aJ rfl) rfl (fun b147 => ?_)
                     try dsimp only [lna,lca,lsz,lss]
                     obtain ⟨y148,hy149,h⟩:=bOs h
                     refine oC [.agg #[.slice A16 y14.fB.length c17,.slice A18 y14.fOrders.length c19],.slice (some ⟨b147,0,none⟩) 3 3] _ _ _ rfl go_26 rfl (fun W2 hW2 => mT y14 [7,8,9] y148 hy149 W2 A16 y14.fB.length c17 rfl ((RdL.row 3 rfl) W2 hW2) A18 y14.fOrders.length c19 rfl ((RdL.row 4 rfl) W2 hW2) (some ⟨b147,0,none⟩) 3 3 rfl ((RdL.row 20 rfl) W2 hW2)) ?_
                     rintro ⟨A150,n152,c151⟩ hn153
                     replace hn153 : n152 = y148.1.length:=hn153; subst hn153
                     try dsimp only [lna,lca,lsz,lss]
                     refine oY rfl (aR rfl) (oY rfl (yE rfl rfl) (oY rfl (yE rfl rfl) (oY rfl (yAS rfl) (oY rfl (yAI rfl) (oN (eT (cS (cR (oY rfl (yN 5 [.slice A16 y14.fB.length c17,.slice A18 y14.fOrders.length c19] dc rfl rfl rfl) ?_)))))))))
                     obtain ⟨y154,hy155,h⟩:=bOs h
                     refine oY rfl (yC [.agg #[.slice A16 y14.fB.length c17,.slice A18 y14.fOrders.length c19],vI 1] go_27 rfl (fun W2 hW2 => pM y14 1 y154 hy155 W2 A16 y14.fB.length c17 rfl ((RdL.row 3 rfl) W2 hW2) A18 y14.fOrders.length c19 rfl ((RdL.row 4 rfl) W2 hW2)) rfl) (oY rfl (aR rfl) (oY rfl (yE rfl rfl) (oY rfl (yE rfl rfl) (oY rfl (yAI rfl) (oY rfl (yAI rfl) (oN (eT (cS (cR (oY rfl (yMI rfl) (oY rfl (dA rfl rfl) (oY rfl (yMB rfl) ?_))))))))))))
                     refine oJ 4 (fun tm0 => (upd (upd (upd (upd (upd (upd (upd (upd (upd (upd (upd (upd (upd tm0 0 (.bool false)) 2 (.pointer (some ⟨b24,0,none⟩))) 17 (.bool b114)) 18 (.pointer (some ⟨b134,0,none⟩))) 20 (.slice A137 y135.1.length c138)) 21 (vI y135.2)) 22 (.slice A143 y141.1.length c144)) 23 (vI y141.2)) 24 (.slice A150 y148.1.length c151)) 25 (vI y148.2)) 26 (vI y154.1)) 27 (vI y154.2)) 215 (.bool ((y116.2 == 0) && (y116.1.fW == 14))))) (fun tm0 => ?_) (fun key => ?_)
                     ·refine oY rfl (yMB rfl) ?_
                      obtain ⟨b158,hb159,h⟩:=bOs h
                      refine oJ 5 (fun tm0 => (upd (upd (upd (upd (upd (upd (upd (upd (upd (upd (upd tm0 0 (.bool false)) 17 (.bool b114)) 20 (.slice A137 y135.1.length c138)) 21 (vI y135.2)) 22 (.slice A143 y141.1.length c144)) 23 (vI y141.2)) 24 (.slice A150 y148.1.length c151)) 25 (vI y148.2)) 26 (vI y154.1)) 27 (vI y154.2)) 221 (.bool b158))) (fun tm0 => ?_) (fun key => ?_)
                      ·refine oY rfl (yMB rfl) ?_
                       refine oJ 3 (fun tm0 => (upd (upd (upd (upd (upd (upd (upd (upd (upd (upd tm0 0 (.bool false)) 17 (.bool b114)) 20 (.slice A137 y135.1.length c138)) 22 (.slice A143 y141.1.length c144)) 23 (vI y141.2)) 24 (.slice A150 y148.1.length c151)) 25 (vI y148.2)) 26 (vI y154.1)) 27 (vI y154.2)) 225 (.bool (b158 && (y135.2 == 0))))) (fun tm0 => ?_) (fun key => ?_)
                       ·refine oY rfl (yMB rfl) ?_
                        obtain ⟨b162,hb163,h⟩:=bOs h
                        refine oJ 4 (fun tm0 => (upd (upd (upd (upd (upd (upd (upd (upd (upd tm0 0 (.bool false)) 17 (.bool b114)) 22 (.slice A143 y141.1.length c144)) 23 (vI y141.2)) 24 (.slice A150 y148.1.length c151)) 25 (vI y148.2)) 26 (vI y154.1)) 27 (vI y154.2)) 230 (.bool b162))) (fun tm0 => ?_) (fun key => ?_)
                        ·refine oY rfl (yMB rfl) ?_
                         refine oJ 3 (fun tm0 => (upd (upd (upd (upd (upd (upd (upd (upd tm0 0 (.bool false)) 17 (.bool b114)) 22 (.slice A143 y141.1.length c144)) 24 (.slice A150 y148.1.length c151)) 25 (vI y148.2)) 26 (vI y154.1)) 27 (vI y154.2)) 234 (.bool (b162 && (y141.2 == 0))))) (fun tm0 => ?_) (fun key => ?_)
                         ·refine oY rfl (yMB rfl) ?_
                          obtain ⟨b166,hb167,h⟩:=bOs h
                          refine oJ 4 (fun tm0 => (upd (upd (upd (upd (upd (upd (upd tm0 0 (.bool false)) 17 (.bool b114)) 24 (.slice A150 y148.1.length c151)) 25 (vI y148.2)) 26 (vI y154.1)) 27 (vI y154.2)) 239 (.bool b166))) (fun tm0 => ?_) (fun key => ?_)
                          ·refine oY rfl (yAB rfl) (oN (eT (cS (cR (oY rfl (yMB rfl) (oY rfl (yMB rfl) ?_))))))
                           refine oJ 2 (fun tm0 => (upd (upd (upd (upd (upd (upd tm0 0 (.bool false)) 24 (.slice A150 y148.1.length c151)) 25 (vI y148.2)) 26 (vI y154.1)) 27 (vI y154.2)) 243 (.bool (b114 && b166)))) (fun tm0 => ?_) (fun key => ?_)
                           ·refine oY rfl (yMB rfl) ?_
                            refine oJ 3 (fun tm0 => (upd (upd (upd (upd (upd tm0 0 (.bool false)) 24 (.slice A150 y148.1.length c151)) 26 (vI y154.1)) 27 (vI y154.2)) 247 (.bool ((b114 && b166) && (y148.2 == 0))))) (fun tm0 => ?_) (fun key => ?_)
                            ·refine oY rfl (yMB rfl) ?_
                             obtain ⟨b171,hb172,h⟩:=bOs h
                             refine oJ 4 (fun tm0 => (upd (upd (upd (upd tm0 0 (.bool false)) 26 (vI y154.1)) 27 (vI y154.2)) 252 (.bool b171))) (fun tm0 => ?_) (fun key => ?_)
                             ·refine oY rfl (yMB rfl) ?_
                              refine oJ 3 (fun tm0 => (upd (upd (upd tm0 0 (.bool false)) 26 (vI y154.1)) 256 (.bool (b171 && (y154.2 == 0))))) (fun tm0 => ?_) (fun key => ?_)
                              ·refine oY rfl (yMB rfl) ?_
                               refine oJ 3 (fun tm0 => (upd (upd tm0 0 (.bool false)) 260 (.bool ((b171 && (y154.2 == 0)) && (y154.1 == 5))))) (fun tm0 => ?_) (fun key => ?_)
                               ·refine oY rfl (yAB rfl) (oN (eT (al ?_)))
                                obtain rfl:=sI h
                                exact ap (.inl rfl) rfl (rVt (v:=.bool ((b171 && (y154.2 == 0)) && (y154.1 == 5))) rfl) (fun W2 hW2 => ⟨rfl,hW2.none⟩)
                               ·rcases aq (b171 && (y154.2 == 0)) with hp174 | hp174
                                ·refine oY (sT rfl rfl rfl rfl hp174) (yMI rfl) (oY (sT rfl rfl rfl rfl hp174) (dA rfl rfl) (oY rfl (ae (vB hp174) rfl) ?_))
                                 exact key _ _ (keep (keep rfl rfl) (vB (gh hp174)))
                                ·refine oSk (sF rfl rfl rfl rfl hp174) (oSk (sF rfl rfl rfl rfl hp174) (oY rfl (ag (vB hp174) rfl) ?_))
                                 exact key _ _ (keep (keep rfl rfl) (vB (gq hp174)))
                              ·rcases aq b171 with hp173 | hp173
                               ·refine oY (sT rfl rfl rfl rfl hp173) (yMI rfl) (oY (sT rfl rfl rfl rfl hp173) (dA rfl rfl) (oY rfl (ae (vB hp173) rfl) ?_))
                                exact key _ _ (keep (keep (keep rfl rfl) rfl) (vB (gh hp173)))
                               ·refine oSk (sF rfl rfl rfl rfl hp173) (oSk (sF rfl rfl rfl rfl hp173) (oY rfl (ag (vB hp173) rfl) ?_))
                                exact key _ _ (keep (keep (keep rfl rfl) rfl) (vB (gq hp173)))
                             ·clear h; rcases iOs hb172 with ⟨hp170,h⟩ | ⟨hp170,h⟩
                              ·refine oY (sT rfl rfl rfl rfl hp170) (yMS rfl) ?_
                               refine aG 2 (encL cI [8,9]) _ th dH l5 pn (by decide) (by decide) (by kernel_rfl) (eL aJ rfl) (sT rfl rfl rfl rfl hp170) (fun b175 => ?_)
                               try dsimp only [lna,lca,lsz,lss]
                               obtain ⟨y176,hy177,h⟩:=bOs h
                               refine oY (sT rfl rfl rfl rfl hp170) (yC [.slice A150 y148.1.length c151,.slice (some ⟨b175,0,none⟩) 2 2] si rfl (fun W2 hW2 => dv y148.1 [8,9] y176 hy177 W2 A150 y148.1.length c151 rfl ((RdL.row 21 rfl) W2 hW2) (some ⟨b175,0,none⟩) 2 2 rfl ((RdL.row 22 rfl) W2 hW2)) rfl) (oY rfl (ae (vB hp170) rfl) ?_)
                               obtain rfl:=sI h
                               refine np 22 ?_
                               exact key _ _ (kp4 rfl)
                              ·refine oSk (sF rfl rfl rfl rfl hp170) (oSk (sF rfl rfl rfl rfl hp170) (oSk (sF rfl rfl rfl rfl hp170) (oY rfl (ag (vB hp170) rfl) ?_)))
                               obtain rfl:=sI h
                               exact key _ _ (kp4 rfl)
                            ·rcases aq (b114 && b166) with hp169 | hp169
                             ·refine oY (sT rfl rfl rfl rfl hp169) (yMI rfl) (oY (sT rfl rfl rfl rfl hp169) (dA rfl rfl) (oY rfl (ae (vB hp169) rfl) ?_))
                              exact key _ _ (keep (keep (keep (keep (keep rfl rfl) rfl) rfl) rfl) (vB (gh hp169)))
                             ·refine oSk (sF rfl rfl rfl rfl hp169) (oSk (sF rfl rfl rfl rfl hp169) (oY rfl (ag (vB hp169) rfl) ?_))
                              exact key _ _ (keep (keep (keep (keep (keep rfl rfl) rfl) rfl) rfl) (vB (gq hp169)))
                           ·rcases aq b114 with hp168 | hp168
                            ·refine oY (sT rfl rfl rfl rfl hp168) (yMB rfl) (oY rfl (ae (vB hp168) rfl) ?_)
                             exact key _ _ (keep (keep (keep (keep (keep (keep rfl rfl) rfl) rfl) rfl) rfl) (vB (gh hp168)))
                            ·refine oSk (sF rfl rfl rfl rfl hp168) (oY rfl (ag (vB hp168) rfl) ?_)
                             exact key _ _ (keep (keep (keep (keep (keep (keep rfl rfl) rfl) rfl) rfl) rfl) (vB (gq hp168)))
                          ·clear h; rcases iOs hb167 with ⟨hp165,h⟩ | ⟨hp165,h⟩
                           ·refine oY (sT rfl rfl rfl rfl hp165) (yMS rfl) ?_
                            refine aG 1 (encL cI [9]) _ nF dH l5 pn (by decide) (by decide) (by kernel_rfl) (eL aJ rfl) (sT rfl rfl rfl rfl hp165) (fun b178 => ?_)
                            try dsimp only [lna,lca,lsz,lss]
                            obtain ⟨y179,hy180,h⟩:=bOs h
                            refine oY (sT rfl rfl rfl rfl hp165) (yC [.slice A143 y141.1.length c144,.slice (some ⟨b178,0,none⟩) 1 1] si rfl (fun W2 hW2 => dv y141.1 [9] y179 hy180 W2 A143 y141.1.length c144 rfl ((RdL.row 19 rfl) W2 hW2) (some ⟨b178,0,none⟩) 1 1 rfl ((RdL.row 22 rfl) W2 hW2)) rfl) (oY rfl (ae (vB hp165) rfl) ?_)
                            obtain rfl:=sI h
                            refine np 22 ?_
                            exact key _ _ (kp4 (kp (kp (kp rfl))))
                           ·refine oSk (sF rfl rfl rfl rfl hp165) (oSk (sF rfl rfl rfl rfl hp165) (oSk (sF rfl rfl rfl rfl hp165) (oY rfl (ag (vB hp165) rfl) ?_)))
                            obtain rfl:=sI h
                            exact key _ _ (kp4 (kp (kp (kp rfl))))
                         ·rcases aq b162 with hp164 | hp164
                          ·refine oY (sT rfl rfl rfl rfl hp164) (yMI rfl) (oY (sT rfl rfl rfl rfl hp164) (dA rfl rfl) (oY rfl (ae (vB hp164) rfl) ?_))
                           exact key _ _ (keep (keep (keep (keep (keep (keep (keep (keep rfl rfl) rfl) rfl) rfl) rfl) rfl) rfl) (vB (gh hp164)))
                          ·refine oSk (sF rfl rfl rfl rfl hp164) (oSk (sF rfl rfl rfl rfl hp164) (oY rfl (ag (vB hp164) rfl) ?_))
                           exact key _ _ (keep (keep (keep (keep (keep (keep (keep (keep rfl rfl) rfl) rfl) rfl) rfl) rfl) rfl) (vB (gq hp164)))
                        ·clear h; rcases iOs hb163 with ⟨hp161,h⟩ | ⟨hp161,h⟩
                         ·refine oY (sT rfl rfl rfl rfl hp161) (yMS rfl) ?_
                          refine aG 2 (encL cI [7,8]) _ th dH l5 pn (by decide) (by decide) (by kernel_rfl) (eL aJ rfl) (sT rfl rfl rfl rfl hp161) (fun b181 => ?_)
                          try dsimp only [lna,lca,lsz,lss]
                          obtain ⟨y182,hy183,h⟩:=bOs h
                          refine oY (sT rfl rfl rfl rfl hp161) (yC [.slice A137 y135.1.length c138,.slice (some ⟨b181,0,none⟩) 2 2] si rfl (fun W2 hW2 => dv y135.1 [7,8] y182 hy183 W2 A137 y135.1.length c138 rfl ((RdL.row 18 rfl) W2 hW2) (some ⟨b181,0,none⟩) 2 2 rfl ((RdL.row 22 rfl) W2 hW2)) rfl) (oY rfl (ae (vB hp161) rfl) ?_)
                          obtain rfl:=sI h
                          refine np 22 ?_
                          exact key _ _ (kp4 (kp4 (kp rfl)))
                         ·refine oSk (sF rfl rfl rfl rfl hp161) (oSk (sF rfl rfl rfl rfl hp161) (oSk (sF rfl rfl rfl rfl hp161) (oY rfl (ag (vB hp161) rfl) ?_)))
                          obtain rfl:=sI h
                          exact key _ _ (kp4 (kp4 (kp rfl)))
                       ·rcases aq b158 with hp160 | hp160
                        ·refine oY (sT rfl rfl rfl rfl hp160) (yMI rfl) (oY (sT rfl rfl rfl rfl hp160) (dA rfl rfl) (oY rfl (ae (vB hp160) rfl) ?_))
                         exact key _ _ (keep (keep (keep (keep (keep (keep (keep (keep (keep (keep rfl rfl) rfl) rfl) rfl) rfl) rfl) rfl) rfl) rfl) (vB (gh hp160)))
                        ·refine oSk (sF rfl rfl rfl rfl hp160) (oSk (sF rfl rfl rfl rfl hp160) (oY rfl (ag (vB hp160) rfl) ?_))
                         exact key _ _ (keep (keep (keep (keep (keep (keep (keep (keep (keep (keep rfl rfl) rfl) rfl) rfl) rfl) rfl) rfl) rfl) rfl) (vB (gq hp160)))
                      ·clear h; rcases iOs hb159 with ⟨hp157,h⟩ | ⟨hp157,h⟩
                       ·refine oY (sT rfl rfl rfl rfl hp157) (yN 5 [.slice A16 y14.fB.length c17,.slice A18 y14.fOrders.length c19] dc rfl rfl rfl) (oY (sT rfl rfl rfl rfl hp157) (yN 17 [.slice A122 y116.1.fG.length c123,vI y116.1.fW,.slice A128 y116.1.fP.length c129] sv rfl rfl rfl) ?_)
                        obtain ⟨y184,hy185,h⟩:=bOs h
                        refine oY (sT rfl rfl rfl rfl hp157) (yC [.agg #[.slice A16 y14.fB.length c17,.slice A18 y14.fOrders.length c19],.agg #[.slice A122 y116.1.fG.length c123,vI y116.1.fW,.slice A128 y116.1.fP.length c129]] go_28 rfl (fun W2 hW2 => lm y14 y116.1 y184 hy185 W2 A16 y14.fB.length c17 rfl ((RdL.row 3 rfl) W2 hW2) A18 y14.fOrders.length c19 rfl ((RdL.row 4 rfl) W2 hW2) A122 y116.1.fG.length c123 rfl ((Pv.rdl hV127 (fun W2 hW2 => ⟨hW2.below,trivial,hW2.mem (i:=15) rfl⟩)) W2 hW2) A128 y116.1.fP.length c129 rfl ((Pv.rdl hV133 (fun W2 hW2 => ⟨hW2.below,trivial,hW2.mem (i:=16) rfl⟩)) W2 hW2)) rfl) (oY (sT rfl rfl rfl rfl hp157) (dA rfl rfl) (oY rfl (ae (vB hp157) rfl) ?_))
                        obtain rfl:=sI h
                        exact key _ _ (kp4 (kp4 (kp (kp (kp rfl)))))
                       ·refine oSk (sF rfl rfl rfl rfl hp157) (oSk (sF rfl rfl rfl rfl hp157) (oSk (sF rfl rfl rfl rfl hp157) (oSk (sF rfl rfl rfl rfl hp157) (oY rfl (ag (vB hp157) rfl) ?_))))
                        obtain rfl:=sI h
                        exact key _ _ (kp4 (kp4 (kp (kp (kp rfl)))))
                     ·rcases aq (y116.2 == 0) with hp156 | hp156
                      ·refine oY (sT rfl rfl rfl rfl hp156) (yFA o4 rfl) (oY (sT rfl rfl rfl rfl hp156) (yL 17 aV rfl rfl rfl) (oY (sT rfl rfl rfl rfl hp156) (dA rfl rfl) (oY rfl (ae (vB hp156) rfl) ?_)))
                       exact key _ _ (keep (keep (keep (keep (keep (keep (keep (keep (keep (keep (keep (keep (keep rfl rfl) rfl) rfl) rfl) rfl) rfl) rfl) rfl) rfl) rfl) rfl) rfl) (vB (gh hp156)))
                      ·refine oSk (sF rfl rfl rfl rfl hp156) (oSk (sF rfl rfl rfl rfl hp156) (oSk (sF rfl rfl rfl rfl hp156) (oY rfl (ag (vB hp156) rfl) ?_)))
                       exact key _ _ (keep (keep (keep (keep (keep (keep (keep (keep (keep (keep (keep (keep (keep rfl rfl) rfl) rfl) rfl) rfl) rfl) rfl) rfl) rfl) rfl) rfl) rfl) (vB (gq hp156)))
                    ·clear h; rcases iOs hb115 with ⟨hp113,h⟩ | ⟨hp113,h⟩
                     ·refine oY (sT rfl rfl rfl rfl hp113) (yMS rfl) ?_
                      refine aG 1 (encL cI [3]) _ nF dH l5 pn (by decide) (by decide) (by kernel_rfl) (eL aJ rfl) (sT rfl rfl rfl rfl hp113) (fun b186 => ?_)
                      try dsimp only [lna,lca,lsz,lss]
                      obtain ⟨y187,hy188,h⟩:=bOs h
                      refine oY (sT rfl rfl rfl rfl hp113) (yC [.slice A74 y72.1.length c75,.slice (some ⟨b186,0,none⟩) 1 1] si rfl (fun W2 hW2 => dv y72.1 [3] y187 hy188 W2 A74 y72.1.length c75 rfl ((RdL.row 14 rfl) W2 hW2) (some ⟨b186,0,none⟩) 1 1 rfl ((RdL.row 15 rfl) W2 hW2)) rfl) (oY rfl (ae (vB hp113) rfl) ?_)
                      obtain rfl:=sI h
                      refine np 15 ?_
                      exact key _ _ (kp (kp (kp rfl)))
                     ·refine oSk (sF rfl rfl rfl rfl hp113) (oSk (sF rfl rfl rfl rfl hp113) (oSk (sF rfl rfl rfl rfl hp113) (oY rfl (ag (vB hp113) rfl) ?_)))
                      obtain rfl:=sI h
                      exact key _ _ (kp (kp (kp rfl)))
                   ·clear h; rcases iOs hb112 with ⟨hp110,h⟩ | ⟨hp110,h⟩
                    ·refine oY (sT rfl rfl rfl rfl hp110) (yMS rfl) ?_
                     refine aG 2 (encL cI [1,2]) _ th dH l5 pn (by decide) (by decide) (by kernel_rfl) (eL aJ rfl) (sT rfl rfl rfl rfl hp110) (fun b189 => ?_)
                     try dsimp only [lna,lca,lsz,lss]
                     obtain ⟨y190,hy191,h⟩:=bOs h
                     refine oY (sT rfl rfl rfl rfl hp110) (yC [.slice A68 y66.1.length c69,.slice (some ⟨b189,0,none⟩) 2 2] si rfl (fun W2 hW2 => dv y66.1 [1,2] y190 hy191 W2 A68 y66.1.length c69 rfl ((RdL.row 13 rfl) W2 hW2) (some ⟨b189,0,none⟩) 2 2 rfl ((RdL.row 15 rfl) W2 hW2)) rfl) (oY rfl (ae (vB hp110) rfl) ?_)
                     obtain rfl:=sI h
                     refine np 15 ?_
                     exact key _ _ (kp4 rfl)
                    ·refine oSk (sF rfl rfl rfl rfl hp110) (oSk (sF rfl rfl rfl rfl hp110) (oSk (sF rfl rfl rfl rfl hp110) (oY rfl (ag (vB hp110) rfl) ?_)))
                     obtain rfl:=sI h
                     exact key _ _ (kp4 rfl)
                  ·rcases aq (b106 && (y53.1.fA == 17)) with hp109 | hp109
                   ·refine oY (sT rfl rfl rfl rfl hp109) (yMI rfl) (oY (sT rfl rfl rfl rfl hp109) (dA rfl rfl) (oY rfl (ae (vB hp109) rfl) ?_))
                    exact key _ _ (keep (keep (keep (keep (keep rfl rfl) rfl) rfl) rfl) (vB (gh hp109)))
                   ·refine oSk (sF rfl rfl rfl rfl hp109) (oSk (sF rfl rfl rfl rfl hp109) (oY rfl (ag (vB hp109) rfl) ?_))
                    exact key _ _ (keep (keep (keep (keep (keep rfl rfl) rfl) rfl) rfl) (vB (gq hp109)))
                 ·rcases aq b106 with hp108 | hp108
                  ·refine oY (sT rfl rfl rfl rfl hp108) (yFA mS rfl) (oY (sT rfl rfl rfl rfl hp108) (yL 12 aV rfl rfl rfl) (oY (sT rfl rfl rfl rfl hp108) (dA rfl rfl) (oY rfl (ae (vB hp108) rfl) ?_)))
                   exact key _ _ (keep (keep (keep (keep (keep (keep rfl rfl) rfl) rfl) rfl) rfl) (vB (gh hp108)))
                  ·refine oSk (sF rfl rfl rfl rfl hp108) (oSk (sF rfl rfl rfl rfl hp108) (oSk (sF rfl rfl rfl rfl hp108) (oY rfl (ag (vB hp108) rfl) ?_)))
                   exact key _ _ (keep (keep (keep (keep (keep (keep rfl rfl) rfl) rfl) rfl) rfl) (vB (gq hp108)))
                ·clear h; rcases iOs hb107 with ⟨hp105,h⟩ | ⟨hp105,h⟩
                 ·refine oY (sT rfl rfl rfl rfl hp105) (yMS rfl) ?_
                  obtain ⟨hg192,h⟩:=gOs h
                  refine oY (sT rfl rfl rfl rfl hp105) (yI sl_64 (by decide) hg192.1 hg192.2 (RdL.row 9 rfl) (eL be (NestP.hn hP49 rfl)) rfl rfl) ?_
                  refine oY (sT rfl rfl rfl rfl hp105) (yFR (A:=A45) (j:=(Int.toNat 2 * 3)) qf rfl) (oY (sT rfl rfl rfl rfl hp105) (yR (A:=A45) (j:=((Int.toNat 2 * 3) + 2)) (v:=vI ((rdL y41.1 2).fToll)) aV (RdL.row 9 rfl) rfl (eG be hg192.1 (av hg192.2 (NestP.hn hP49 rfl)) (congrArg (fun z : TJ => some (Value.int .i64 z.fToll)) (NestP.snd hP49 2)))) (oY (sT rfl rfl rfl rfl hp105) (dA rfl rfl) (oY rfl (ae (vB hp105) rfl) ?_)))
                  obtain rfl:=sI h
                  exact key _ _ (kp4 (kp (kp (kp rfl))))
                 ·refine oSk (sF rfl rfl rfl rfl hp105) (oSk (sF rfl rfl rfl rfl hp105) (oSk (sF rfl rfl rfl rfl hp105) (oSk (sF rfl rfl rfl rfl hp105) (oSk (sF rfl rfl rfl rfl hp105) (oY rfl (ag (vB hp105) rfl) ?_)))))
                  obtain rfl:=sI h
                  exact key _ _ (kp4 (kp (kp (kp rfl))))
               ·clear h; rcases iOs hb104 with ⟨hp102,h⟩ | ⟨hp102,h⟩
                ·refine oY (sT rfl rfl rfl rfl hp102) (yMS rfl) ?_
                 obtain ⟨hg193,h⟩:=gOs h
                 refine oY (sT rfl rfl rfl rfl hp102) (yI sl_64 (by decide) hg193.1 hg193.2 (RdL.row 9 rfl) (eL be (NestP.hn hP49 rfl)) rfl rfl) ?_
                 refine oY (sT rfl rfl rfl rfl hp102) (yFR (A:=A45) (j:=(Int.toNat 1 * 3)) mS rfl) (oY (sT rfl rfl rfl rfl hp102) (yR (A:=A45) (j:=((Int.toNat 1 * 3) + 1)) (v:=vI ((rdL y41.1 1).fA)) aV (RdL.row 9 rfl) rfl (eG be hg193.1 (av hg193.2 (NestP.hn hP49 rfl)) (congrArg (fun z : TJ => some (Value.int .i64 z.fA)) (NestP.snd hP49 1)))) (oY (sT rfl rfl rfl rfl hp102) (dA rfl rfl) (oY rfl (ae (vB hp102) rfl) ?_)))
                 obtain rfl:=sI h
                 exact key _ _ (kp4 (kp4 rfl))
                ·refine oSk (sF rfl rfl rfl rfl hp102) (oSk (sF rfl rfl rfl rfl hp102) (oSk (sF rfl rfl rfl rfl hp102) (oSk (sF rfl rfl rfl rfl hp102) (oSk (sF rfl rfl rfl rfl hp102) (oY rfl (ag (vB hp102) rfl) ?_)))))
                 obtain rfl:=sI h
                 exact key _ _ (kp4 (kp4 rfl))
              ·clear h; rcases iOs hb101 with ⟨hp99,h⟩ | ⟨hp99,h⟩
               ·refine oY (sT rfl rfl rfl rfl hp99) (yMS rfl) ?_
                obtain ⟨hg194,h⟩:=gOs h
                refine oY (sT rfl rfl rfl rfl hp99) (yI sl_64 (by decide) hg194.1 hg194.2 (RdL.row 9 rfl) (eL be (NestP.hn hP49 rfl)) rfl rfl) ?_
                refine oY (sT rfl rfl rfl rfl hp99) (yFR (A:=A45) (j:=(Int.toNat 0 * 3)) qf rfl) (oY (sT rfl rfl rfl rfl hp99) (yR (A:=A45) (j:=((Int.toNat 0 * 3) + 2)) (v:=vI ((rdL y41.1 0).fToll)) aV (RdL.row 9 rfl) rfl (eG be hg194.1 (av hg194.2 (NestP.hn hP49 rfl)) (congrArg (fun z : TJ => some (Value.int .i64 z.fToll)) (NestP.snd hP49 0)))) (oY (sT rfl rfl rfl rfl hp99) (dA rfl rfl) (oY rfl (ae (vB hp99) rfl) ?_)))
                obtain rfl:=sI h
                exact key _ _ (kp4 (kp4 rfl))
               ·refine oSk (sF rfl rfl rfl rfl hp99) (oSk (sF rfl rfl rfl rfl hp99) (oSk (sF rfl rfl rfl rfl hp99) (oSk (sF rfl rfl rfl rfl hp99) (oSk (sF rfl rfl rfl rfl hp99) (oY rfl (ag (vB hp99) rfl) ?_)))))
                obtain rfl:=sI h
                exact key _ _ (kp4 (kp4 rfl))
             ·clear h; rcases iOs hb98 with ⟨hp96,h⟩ | ⟨hp96,h⟩
              ·refine oY (sT rfl rfl rfl rfl hp96) (yFA kD rfl) (oY (sT rfl rfl rfl rfl hp96) (yL 8 q8 rfl rfl rfl) ?_)
               obtain ⟨hg195,h⟩:=gOs h
               refine oY (sT rfl rfl rfl rfl hp96) (yI sl_59 (by decide) hg195.1 hg195.2 (RdL.row 6 rfl) (eL bC (NestP.hn hP36 rfl)) rfl rfl) ?_
               refine oY (sT rfl rfl rfl rfl hp96) (yR (A:=A32) (j:=(Int.toNat 2 * 1)) (v:=.slice ((rdL ys37 2).1.1) ((rdL y28.1.fH 2).length) ((rdL ys37 2).1.2.2)) pE (RdL.row 6 rfl) rfl (a6 bC hg195.1 (av hg195.2 (NestP.hn hP36 rfl)) (congrArg (fun n : Nat => some (Value.slice (rdL ys37 2).1.1 n (rdL ys37 2).1.2.2)) (NestP.len hP36 hg195.1 (av hg195.2 rfl))))) ?_
               obtain ⟨hg196,h⟩:=gOs h
               refine oY (sT rfl rfl rfl rfl hp96) (yI d7 (by decide) hg196.1 hg196.2 (NestL.rd (PvL.nestL hP36 hV39 (fun W2 hW2 => ⟨hW2.below,trivial,hW2.mem (i:=7) rfl⟩)) hg195.1 (av hg195.2 rfl)) (eL aJ rfl) rfl rfl) ?_
               refine oY (sT rfl rfl rfl rfl hp96) (yR (A:=((rdL ys37 2).1.1)) (j:=(Int.toNat 6 * 1)) (v:=vI (rdL (rdL y28.1.fH 2) 6)) aV (NestL.rd (PvL.nestL hP36 hV39 (fun W2 hW2 => ⟨hW2.below,trivial,hW2.mem (i:=7) rfl⟩)) hg195.1 (av hg195.2 rfl)) rfl (a6 aJ hg196.1 (av hg196.2 rfl) rfl)) (oY (sT rfl rfl rfl rfl hp96) (dA rfl rfl) (oY rfl (ae (vB hp96) rfl) ?_))
               obtain rfl:=sI h
               exact key _ _ (kp4 (kp4 rfl))
              ·refine oSk (sF rfl rfl rfl rfl hp96) (oSk (sF rfl rfl rfl rfl hp96) (oSk (sF rfl rfl rfl rfl hp96) (oSk (sF rfl rfl rfl rfl hp96) (oSk (sF rfl rfl rfl rfl hp96) (oSk (sF rfl rfl rfl rfl hp96) (oSk (sF rfl rfl rfl rfl hp96) (oY rfl (ag (vB hp96) rfl) ?_)))))))
               obtain rfl:=sI h
               exact key _ _ (kp4 (kp4 rfl))
            ·clear h; rcases iOs hb95 with ⟨hp93,h⟩ | ⟨hp93,h⟩
             ·refine oY (sT rfl rfl rfl rfl hp93) (yFA kD rfl) (oY (sT rfl rfl rfl rfl hp93) (yL 8 q8 rfl rfl rfl) ?_)
              obtain ⟨hg197,h⟩:=gOs h
              refine oY (sT rfl rfl rfl rfl hp93) (yI sl_59 (by decide) hg197.1 hg197.2 (RdL.row 6 rfl) (eL bC (NestP.hn hP36 rfl)) rfl rfl) ?_
              refine oY (sT rfl rfl rfl rfl hp93) (yR (A:=A32) (j:=(Int.toNat 2 * 1)) (v:=.slice ((rdL ys37 2).1.1) ((rdL y28.1.fH 2).length) ((rdL ys37 2).1.2.2)) pE (RdL.row 6 rfl) rfl (a6 bC hg197.1 (av hg197.2 (NestP.hn hP36 rfl)) (congrArg (fun n : Nat => some (Value.slice (rdL ys37 2).1.1 n (rdL ys37 2).1.2.2)) (NestP.len hP36 hg197.1 (av hg197.2 rfl))))) ?_
              obtain ⟨hg198,h⟩:=gOs h
              refine oY (sT rfl rfl rfl rfl hp93) (yI d7 (by decide) hg198.1 hg198.2 (NestL.rd (PvL.nestL hP36 hV39 (fun W2 hW2 => ⟨hW2.below,trivial,hW2.mem (i:=7) rfl⟩)) hg197.1 (av hg197.2 rfl)) (eL aJ rfl) rfl rfl) ?_
              refine oY (sT rfl rfl rfl rfl hp93) (yR (A:=((rdL ys37 2).1.1)) (j:=(Int.toNat 2 * 1)) (v:=vI (rdL (rdL y28.1.fH 2) 2)) aV (NestL.rd (PvL.nestL hP36 hV39 (fun W2 hW2 => ⟨hW2.below,trivial,hW2.mem (i:=7) rfl⟩)) hg197.1 (av hg197.2 rfl)) rfl (a6 aJ hg198.1 (av hg198.2 rfl) rfl)) (oY (sT rfl rfl rfl rfl hp93) (dA rfl rfl) (oY rfl (ae (vB hp93) rfl) ?_))
              obtain rfl:=sI h
              exact key _ _ (kp4 (kp4 (kp rfl)))
             ·refine oSk (sF rfl rfl rfl rfl hp93) (oSk (sF rfl rfl rfl rfl hp93) (oSk (sF rfl rfl rfl rfl hp93) (oSk (sF rfl rfl rfl rfl hp93) (oSk (sF rfl rfl rfl rfl hp93) (oSk (sF rfl rfl rfl rfl hp93) (oSk (sF rfl rfl rfl rfl hp93) (oY rfl (ag (vB hp93) rfl) ?_)))))))
              obtain rfl:=sI h
              exact key _ _ (kp4 (kp4 (kp rfl)))
          ·rcases aq b87 with hp89 | hp89
           ·refine oSk (sF rfl rfl rfl rfl hp89) (oSk (sF rfl rfl rfl rfl hp89) (oSk (sF rfl rfl rfl rfl hp89) (oY rfl (ae (vB hp89) rfl) ?_)))
            exact key _ _ (keep (keep (keep (keep (keep (keep (keep (keep (keep rfl rfl) rfl) rfl) rfl) rfl) rfl) rfl) rfl) (vB (iI hp89)))
           ·refine oY (sT rfl rfl rfl rfl hp89) (yMS rfl) (oY (sT rfl rfl rfl rfl hp89) (bd (us:=[]) us_64 rfl) (oY (sT rfl rfl rfl rfl hp89) (db rfl rfl) (oY rfl (ag (vB hp89) rfl) ?_)))
            exact key _ _ (keep (keep (keep (keep (keep (keep (keep (keep (keep rfl rfl) rfl) rfl) rfl) rfl) rfl) rfl) rfl) (vB (iH hp89)))
         ·clear h; rcases iOs hb88 with ⟨hp86,h⟩ | ⟨hp86,h⟩
          ·refine oSk (sF rfl rfl rfl rfl hp86) (oSk (sF rfl rfl rfl rfl hp86) (oSk (sF rfl rfl rfl rfl hp86) (oSk (sF rfl rfl rfl rfl hp86) (oSk (sF rfl rfl rfl rfl hp86) (oSk (sF rfl rfl rfl rfl hp86) (oY rfl (ae (vB hp86) rfl) ?_))))))
           obtain rfl:=sI h
           exact key _ _ (kp4 (kp4 (kp rfl)))
          ·refine oY (sT rfl rfl rfl rfl hp86) (yFA kD rfl) (oY (sT rfl rfl rfl rfl hp86) (yL 8 q8 rfl rfl rfl) ?_)
           obtain ⟨hg199,h⟩:=gOs h
           refine oY (sT rfl rfl rfl rfl hp86) (yI sl_59 (by decide) hg199.1 hg199.2 (RdL.row 6 rfl) (eL bC (NestP.hn hP36 rfl)) rfl rfl) ?_
           refine oY (sT rfl rfl rfl rfl hp86) (yR (A:=A32) (j:=(Int.toNat 2 * 1)) (v:=.slice ((rdL ys37 2).1.1) ((rdL y28.1.fH 2).length) ((rdL ys37 2).1.2.2)) pE (RdL.row 6 rfl) rfl (a6 bC hg199.1 (av hg199.2 (NestP.hn hP36 rfl)) (congrArg (fun n : Nat => some (Value.slice (rdL ys37 2).1.1 n (rdL ys37 2).1.2.2)) (NestP.len hP36 hg199.1 (av hg199.2 rfl))))) (oY (sT rfl rfl rfl rfl hp86) (bd (us:=[]) dH rfl) (oY (sT rfl rfl rfl rfl hp86) (db rfl rfl) (oY rfl (ag (vB hp86) rfl) ?_)))
           obtain rfl:=sI h
           exact key _ _ (kp4 (kp4 (kp rfl)))
        ·rcases aq ((((((((y26.2 != 0) || (y28.2 != 0)) || (y41.2 != 0)) || (y53.2 != 0)) || (y64.2 != 0)) || (y66.2 != 0)) || (y72.2 != 0)) || (y26.1 != 21)) with hp85 | hp85
         ·refine oSk (sF rfl rfl rfl rfl hp85) (oSk (sF rfl rfl rfl rfl hp85) (oSk (sF rfl rfl rfl rfl hp85) (oSk (sF rfl rfl rfl rfl hp85) (oY rfl (ae (vB hp85) rfl) ?_))))
          exact key _ _ (keep (keep (keep (keep (keep (keep (keep (keep (keep rfl rfl) rfl) rfl) rfl) rfl) rfl) rfl) rfl) (vB (iI hp85)))
         ·refine oY (sT rfl rfl rfl rfl hp85) (yFA kD rfl) (oY (sT rfl rfl rfl rfl hp85) (yL 8 q8 rfl rfl rfl) (oY (sT rfl rfl rfl rfl hp85) (bd (us:=[]) us_59 rfl) (oY (sT rfl rfl rfl rfl hp85) (db rfl rfl) (oY rfl (ag (vB hp85) rfl) ?_))))
          exact key _ _ (keep (keep (keep (keep (keep (keep (keep (keep (keep rfl rfl) rfl) rfl) rfl) rfl) rfl) rfl) rfl) (vB (iH hp85)))
       ·rcases aq (((((((y26.2 != 0) || (y28.2 != 0)) || (y41.2 != 0)) || (y53.2 != 0)) || (y64.2 != 0)) || (y66.2 != 0)) || (y72.2 != 0)) with hp84 | hp84
        ·refine oSk (sF rfl rfl rfl rfl hp84) (oSk (sF rfl rfl rfl rfl hp84) (oY rfl (ae (vB hp84) rfl) ?_))
         exact key _ _ (keep (keep (keep (keep (keep (keep (keep (keep (keep rfl rfl) rfl) rfl) rfl) rfl) rfl) rfl) rfl) (vB (iI hp84)))
        ·refine oY (sT rfl rfl rfl rfl hp84) (yMI rfl) (oY (sT rfl rfl rfl rfl hp84) (db rfl rfl) (oY rfl (ag (vB hp84) rfl) ?_))
         exact key _ _ (keep (keep (keep (keep (keep (keep (keep (keep (keep rfl rfl) rfl) rfl) rfl) rfl) rfl) rfl) rfl) (vB (iH hp84)))
      ·rcases aq ((((((y26.2 != 0) || (y28.2 != 0)) || (y41.2 != 0)) || (y53.2 != 0)) || (y64.2 != 0)) || (y66.2 != 0)) with hp83 | hp83
       ·refine oSk (sF rfl rfl rfl rfl hp83) (oSk (sF rfl rfl rfl rfl hp83) (oY rfl (ae (vB hp83) rfl) ?_))
        exact key _ _ (keep (keep (keep (keep (keep (keep (keep (keep (keep (keep rfl rfl) rfl) rfl) rfl) rfl) rfl) rfl) rfl) rfl) (vB (iI hp83)))
       ·refine oY (sT rfl rfl rfl rfl hp83) (yMI rfl) (oY (sT rfl rfl rfl rfl hp83) (db rfl rfl) (oY rfl (ag (vB hp83) rfl) ?_))
        exact key _ _ (keep (keep (keep (keep (keep (keep (keep (keep (keep (keep rfl rfl) rfl) rfl) rfl) rfl) rfl) rfl) rfl) rfl) (vB (iH hp83)))
     ·rcases aq (((((y26.2 != 0) || (y28.2 != 0)) || (y41.2 != 0)) || (y53.2 != 0)) || (y64.2 != 0)) with hp82 | hp82
      ·refine oSk (sF rfl rfl rfl rfl hp82) (oSk (sF rfl rfl rfl rfl hp82) (oY rfl (ae (vB hp82) rfl) ?_))
       exact key _ _ (keep (keep (keep (keep (keep (keep (keep (keep (keep (keep (keep rfl rfl) rfl) rfl) rfl) rfl) rfl) rfl) rfl) rfl) rfl) (vB (iI hp82)))
      ·refine oY (sT rfl rfl rfl rfl hp82) (yMI rfl) (oY (sT rfl rfl rfl rfl hp82) (db rfl rfl) (oY rfl (ag (vB hp82) rfl) ?_))
       exact key _ _ (keep (keep (keep (keep (keep (keep (keep (keep (keep (keep (keep rfl rfl) rfl) rfl) rfl) rfl) rfl) rfl) rfl) rfl) rfl) (vB (iH hp82)))
    ·rcases aq ((((y26.2 != 0) || (y28.2 != 0)) || (y41.2 != 0)) || (y53.2 != 0)) with hp81 | hp81
     ·refine oSk (sF rfl rfl rfl rfl hp81) (oSk (sF rfl rfl rfl rfl hp81) (oY rfl (ae (vB hp81) rfl) ?_))
      exact key _ _ (keep (keep (keep (keep (keep (keep (keep (keep (keep (keep (keep (keep rfl rfl) rfl) rfl) rfl) rfl) rfl) rfl) rfl) rfl) rfl) rfl) (vB (iI hp81)))
     ·refine oY (sT rfl rfl rfl rfl hp81) (yMI rfl) (oY (sT rfl rfl rfl rfl hp81) (db rfl rfl) (oY rfl (ag (vB hp81) rfl) ?_))
      exact key _ _ (keep (keep (keep (keep (keep (keep (keep (keep (keep (keep (keep (keep rfl rfl) rfl) rfl) rfl) rfl) rfl) rfl) rfl) rfl) rfl) rfl) (vB (iH hp81)))
   ·rcases aq (((y26.2 != 0) || (y28.2 != 0)) || (y41.2 != 0)) with hp80 | hp80
    ·refine oSk (sF rfl rfl rfl rfl hp80) (oSk (sF rfl rfl rfl rfl hp80) (oY rfl (ae (vB hp80) rfl) ?_))
     exact key _ _ (keep (keep (keep (keep (keep (keep (keep (keep (keep (keep (keep (keep (keep rfl rfl) rfl) rfl) rfl) rfl) rfl) rfl) rfl) rfl) rfl) rfl) rfl) (vB (iI hp80)))
    ·refine oY (sT rfl rfl rfl rfl hp80) (yMI rfl) (oY (sT rfl rfl rfl rfl hp80) (db rfl rfl) (oY rfl (ag (vB hp80) rfl) ?_))
     exact key _ _ (keep (keep (keep (keep (keep (keep (keep (keep (keep (keep (keep (keep (keep rfl rfl) rfl) rfl) rfl) rfl) rfl) rfl) rfl) rfl) rfl) rfl) rfl) (vB (iH hp80)))
  ·rcases aq ((y26.2 != 0) || (y28.2 != 0)) with hp79 | hp79
   ·refine oSk (sF rfl rfl rfl rfl hp79) (oSk (sF rfl rfl rfl rfl hp79) (oY rfl (ae (vB hp79) rfl) ?_))
    exact key _ _ (keep (keep (keep (keep (keep (keep (keep (keep (keep (keep (keep (keep (keep (keep rfl rfl) rfl) rfl) rfl) rfl) rfl) rfl) rfl) rfl) rfl) rfl) rfl) rfl) (vB (iI hp79)))
   ·refine oY (sT rfl rfl rfl rfl hp79) (yMI rfl) (oY (sT rfl rfl rfl rfl hp79) (db rfl rfl) (oY rfl (ag (vB hp79) rfl) ?_))
    exact key _ _ (keep (keep (keep (keep (keep (keep (keep (keep (keep (keep (keep (keep (keep (keep rfl rfl) rfl) rfl) rfl) rfl) rfl) rfl) rfl) rfl) rfl) rfl) rfl) rfl) (vB (iH hp79)))
 ·rcases aq (y26.2 != 0) with hp78 | hp78
  ·refine oSk (sF rfl rfl rfl rfl hp78) (oSk (sF rfl rfl rfl rfl hp78) (oY rfl (ae (vB hp78) rfl) ?_))
   exact key _ _ (keep (keep (keep (keep (keep (keep (keep (keep (keep (keep (keep (keep (keep (keep (keep rfl rfl) rfl) rfl) rfl) rfl) rfl) rfl) rfl) rfl) rfl) rfl) rfl) rfl) rfl) (vB (iI hp78)))
  ·refine oY (sT rfl rfl rfl rfl hp78) (yMI rfl) (oY (sT rfl rfl rfl rfl hp78) (db rfl rfl) (oY rfl (ag (vB hp78) rfl) ?_))
   exact key _ _ (keep (keep (keep (keep (keep (keep (keep (keep (keep (keep (keep (keep (keep (keep (keep rfl rfl) rfl) rfl) rfl) rfl) rfl) rfl) rfl) rfl) rfl) rfl) rfl) rfl) rfl) (vB (iH hp78)))
theorem eM (p0:(List TSpan)) (res:(List TSpan)) (h:bE p0 = some res) (W:World) (Aa:Option Addr) (n0_0 ca : Nat) (hn0_0:n0_0 = p0.length) (hr0_0:Rd W Aa n0_0 ca (encL TSpan_cells p0)) :
  Calls Tryz.prog 34 [.slice Aa n0_0 ca].toArray W fun e W2 => ∃ x : Option Addr × Nat × Nat,x.2.1 = res.length ∧ e = .returned (.slice x.1 x.2.1 x.2.2) ∧ Ext W W2 [aI x.1 x.2.2 26 2 x.2.1 (encL TSpan_cells res)]:=by
 subst hn0_0
 unfold bE at h
 refine ad (m:=8) Tryz.func34 rfl rfl (nB rfl) (cS (cR (oY rfl (yAS rfl) (oN (eT (cS (cS (cR (oY rfl (yMS rfl) (oY rfl (nb eg rfl rfl) (oN (eT ?_))))))))))))
 rcases aq (Option.isNone Aa) with hp1 | hp1
 ·refine cT (vB hp1) ?_
  have z6:=ng (Option.isNone_iff_eq_none.1 hp1 ▸ hr0_0) ab (by decide)
  replace h:=(gOs h).2
  rw [z6] at h
  refine cS (cR (oY rfl (yAS rfl) (oN (eT (al (aa ?_))))))
  obtain rfl:=sI h
  exact ap (.inl rfl) rfl (rVt (v:=.slice none 0 0) rfl) (fun W2 hW2 => ⟨(none,0,0),rfl,rfl,((hW2.nilrow 26 2).pick 0 rfl)⟩)
 ·refine cF (vB hp1) (cK (eT (cS (cR ?_))))
  refine dL TSpan_cells eg ij kP rfl (fun b2 => ?_)
  refine oY rfl (yMS rfl) ?_
  obtain ⟨hg5,h⟩:=gOs h
  refine bn 0 eg ij kP rfl rfl rfl (RdL.arg hr0_0) (eL ab rfl) (bO cN _) (bW hg5 (by decide)) rfl (fun A3 c4 => ?_)
  refine oY rfl (yAS rfl) (oN (eT (al ?_)))
  obtain rfl:=sI h
  exact ap (.inl rfl) rfl (rVt (v:=.slice A3 (0 + p0.length) c4) rfl) (fun W2 hW2 => ⟨(A3,(0 + p0.length),c4),(dT rfl rfl),rfl,(hW2.pick 0 rfl)⟩)
theorem eZ (p0:(List TSpan)) (p1:Int) (p2:Int) (p3:TSpan → TSpan → Option Int) (res:(List TSpan)) (h:bg p0 p1 p2 p3 = some res) (W:World) (w0:World) (R:Res) (Aa:Option Addr) (n0_0 ca : Nat) (hn0_0:n0_0 = p0.length) (fid3:Nat) (fst3 caps3 : List Value) (hgo3:bx Tryz.prog fid3 = true) (hof3:∀ W2,Below w0.heap.size w0 W2 → R.holds W2 → ∀ x0 x1,∀ y,p3 x0 x1 = some y → Calls Tryz.prog fid3 (fst3 ++ (([.agg #[vI x0.fLo,vI x0.fHi],.agg #[vI x1.fLo,vI x1.fHi]] : List Value) ++ caps3)).toArray W2 fun e W3 => e = .returned (vI y) ∧ Ext W2 W3 []) (hW:Ext w0 W [R,aI Aa ca 26 2 n0_0 (encL TSpan_cells p0)]) :
  Calls Tryz.prog 122 [.slice Aa n0_0 ca,vI p1,vI p2,.func (.func fid3) fst3.toArray caps3.toArray].toArray W fun e W2 => e = .returned (.tuple #[]) ∧ n0_0 = res.length ∧ Ext w0 W2 [R,aI Aa ca 26 2 n0_0 (encL TSpan_cells res)]:=by
 subst hn0_0
 unfold bg at h
 refine aM (m:=53) Tryz.func122 rfl rfl (nB rfl) hW (cS (cR (oY rfl (yMI rfl) (oY rfl (aX rfl rfl) (oY rfl (yAI rfl) (oN (eT (cB ?_))))))))
 obtain ⟨u4,hl24,h⟩:=bOs h
 refine bc (fun (s:(Int × (List TSpan))) L tm => ∃ (tm0:Nat → Value),p0.length = s.2.length ∧ L = [R,aI Aa ca 26 2 p0.length (encL TSpan_cells s.2)] ∧ tm = (upd (upd (upd (upd (upd tm0 0 (.slice Aa p0.length ca)) 1 (vI p1)) 2 (vI p2)) 3 (.func (.func fid3) fst3.toArray caps3.toArray)) 8 (vI s.1))) 0 hl24 ⟨_,rfl,rfl,(kp4 (kp rfl))⟩ ?_ ?_
 ·rintro s3 L tm st ⟨tm0_s3,hn1_s3,rfl,rfl⟩ h
  unfold aE at h
  refine cS (cS (cR (oY rfl (yMI rfl) (oY rfl (yMI rfl) (oY rfl (bm rfl rfl) (oN (eT ?_)))))))
  rcases iOs h with ⟨hp5,h⟩ | ⟨hp5,h⟩
  ·refine cT (vB hp5) (cK (eT (cS (cB (cS (cR (oY rfl (yMI rfl) (oY rfl (yAI rfl) (oN (eT (cB ?_)))))))))))
   obtain ⟨u9,hl23,h⟩:=bOs h
   refine bc (fun (s:(Int × (List TSpan))) L tm => ∃ (tm0:Nat → Value),p0.length = s.2.length ∧ L = [R,aI Aa ca 26 2 p0.length (encL TSpan_cells s.2)] ∧ tm = (upd (upd (upd (upd (upd (upd (upd tm0 0 (.slice Aa p0.length ca)) 1 (vI p1)) 2 (vI p2)) 3 (.func (.func fid3) fst3.toArray caps3.toArray)) 8 (vI s3.1)) 14 (.bool (decide (s3.1 < p2)))) 9 (vI s.1))) 2 hl23 ⟨_,hn1_s3,rfl,(kp4 (kp (kp (kp rfl))))⟩ ?_ ?_
   ·rintro s8 L tm st ⟨tm0_s8,hn1_s8,rfl,rfl⟩ h
    unfold aS at h
    refine cS (cS ?_)
    refine ba 17 cm (by kernel_rfl) (by kernel_rfl) ?_
    refine qY rfl (yMI rfl) (qY rfl (yMI rfl) (qY rfl (eI rfl rfl) (qY rfl (yMB rfl) ?_)))
    obtain ⟨b11,hb12,h⟩:=bOs h
    refine qJ 13 (fun tm0 => (upd (upd (upd (upd (upd (upd (upd (upd tm0 0 (.slice Aa p0.length ca)) 1 (vI p1)) 2 (vI p2)) 3 (.func (.func fid3) fst3.toArray caps3.toArray)) 8 (vI s3.1)) 14 (.bool (decide (s3.1 < p2)))) 9 (vI s8.1)) 34 (.bool b11))) (fun tm0 => ?_) (fun key => ?_)
    ·refine bX (oN (eT ?_))
     rcases iOs h with ⟨hp13,h⟩ | ⟨hp13,h⟩
     ·refine cT (vB hp13) (cK (eT (cS (cB ?_))))
      obtain ⟨hg15,h⟩:=gOs h
      obtain ⟨hg16,h⟩:=gOs h
      obtain ⟨hg17,h⟩:=gOs h
      obtain ⟨hg18,h⟩:=gOs h
      refine dJ [[],[],[],[],[3],[],[],[6],[5,6,7],[5,6,7,8],[],[],[10,11],[10,11,12],[0,1,5,6,7,8,9,10,11,12,13],[0,1,5,6,7,8,9,10,11,12,13,14],[0,1,2,3,4,5,6,7,8,9,10,11,12,13,14,15],[0,1,2,3,4,5,6,7,8,9,10,11,12,13,14,15,16]] [(none,0,[true,true]),(none,0,[true,true]),(none,0,[true,false]),(none,0,[true,false]),(none,0,[true,false]),(none,0,[true,true]),(none,0,[true,true]),(none,0,[true,true]),(none,0,[true,true]),(none,0,[true,true]),(none,0,[true,true]),(none,0,[true,true]),(none,0,[true,true]),(none,0,[true,true]),(none,0,[true,true]),(some 1,0,[true,true]),(none,0,[true,true]),(some 1,0,[true,true])] [⟨fun _ => .slice Aa p0.length ca,fun _ => noR,fun _ => []⟩,⟨fun _ => vI s8.1,fun _ => noR,fun _ => []⟩,⟨fun _ => .slice Aa p0.length ca,fun _ => noR,fun _ => []⟩,⟨fun _ => vI s8.1,fun _ => noR,fun _ => []⟩,⟨fun _ => vI (w64 (s8.1 - 1)),fun _ => noR,fun _ => []⟩,⟨fun _ => .slice Aa p0.length ca,fun _ => noR,fun _ => []⟩,⟨fun _ => vI s8.1,fun _ => noR,fun _ => []⟩,⟨fun _ => vI (w64 (s8.1 - 1)),fun _ => noR,fun _ => []⟩,⟨fun _ => slA Aa (Int.toNat (w64 (s8.1 - 1)) * 2),fun _ => noR,fun _ => []⟩,⟨fun _ => .agg #[vI ((rdL s8.2 (w64 (s8.1 - 1))).fLo),vI ((rdL s8.2 (w64 (s8.1 - 1))).fHi)],fun _ => noR,fun _ => []⟩,⟨fun _ => .slice Aa p0.length ca,fun _ => noR,fun _ => []⟩,⟨fun _ => vI s8.1,fun _ => noR,fun _ => []⟩,⟨fun _ => slA Aa (Int.toNat s8.1 * 2),fun _ => noR,fun _ => []⟩,⟨fun _ => .agg #[vI ((rdL s8.2 s8.1).fLo),vI ((rdL s8.2 s8.1).fHi)],fun _ => noR,fun _ => []⟩,⟨fun _ => slA Aa (Int.toNat s8.1 * 2),fun _ => noR,fun _ => []⟩,⟨fun _ => undef,fun _ => aI Aa ca 26 2 p0.length (encL TSpan_cells (s8.2.set (Int.toNat s8.1) (TSpan.mk ((rdL s8.2 (w64 (s8.1 - 1))).fLo) ((rdL s8.2 (w64 (s8.1 - 1))).fHi)))),fun _ => []⟩,⟨fun _ => slA Aa (Int.toNat (w64 (s8.1 - 1)) * 2),fun _ => noR,fun _ => []⟩,⟨fun _ => undef,fun _ => aI Aa ca 26 2 p0.length (encL TSpan_cells ((s8.2.set (Int.toNat s8.1) (TSpan.mk ((rdL s8.2 (w64 (s8.1 - 1))).fLo) ((rdL s8.2 (w64 (s8.1 - 1))).fHi))).set (Int.toNat (w64 (s8.1 - 1))) (TSpan.mk ((rdL s8.2 s8.1).fLo) ((rdL s8.2 s8.1).fHi)))),fun _ => []⟩] 2 cm (by kernel_rfl) (by kernel_rfl) ⟨⟨fun ξ14 ξ14' h => ⟨rfl,rfl,rfl⟩,fun _ => rfl⟩,⟨fun ξ14 ξ14' h => ⟨rfl,rfl,rfl⟩,fun _ => rfl⟩,⟨fun ξ14 ξ14' h => ⟨rfl,rfl,rfl⟩,fun _ => rfl⟩,⟨fun ξ14 ξ14' h => ⟨rfl,rfl,rfl⟩,fun _ => rfl⟩,⟨fun ξ14 ξ14' h => ⟨rfl,rfl,rfl⟩,fun _ => rfl⟩,⟨fun ξ14 ξ14' h => ⟨rfl,rfl,rfl⟩,fun _ => rfl⟩,⟨fun ξ14 ξ14' h => ⟨rfl,rfl,rfl⟩,fun _ => rfl⟩,⟨fun ξ14 ξ14' h => ⟨rfl,rfl,rfl⟩,fun _ => rfl⟩,⟨fun ξ14 ξ14' h => ⟨rfl,rfl,rfl⟩,fun _ => rfl⟩,⟨fun ξ14 ξ14' h => ⟨rfl,rfl,rfl⟩,fun _ => rfl⟩,⟨fun ξ14 ξ14' h => ⟨rfl,rfl,rfl⟩,fun _ => rfl⟩,⟨fun ξ14 ξ14' h => ⟨rfl,rfl,rfl⟩,fun _ => rfl⟩,⟨fun ξ14 ξ14' h => ⟨rfl,rfl,rfl⟩,fun _ => rfl⟩,⟨fun ξ14 ξ14' h => ⟨rfl,rfl,rfl⟩,fun _ => rfl⟩,⟨fun ξ14 ξ14' h => ⟨rfl,rfl,rfl⟩,fun _ => rfl⟩,⟨fun ξ14 ξ14' h => ⟨rfl,rfl,rfl⟩,fun _ => rfl⟩,⟨fun ξ14 ξ14' h => ⟨rfl,rfl,rfl⟩,fun _ => rfl⟩,⟨fun ξ14 ξ14' h => ⟨rfl,rfl,rfl⟩,fun _ => rfl⟩,trivial⟩ rfl (fun ξ14 => ?_)
      refine bJ rfl (fun L2 => ?_) ?_
      ·dsimp only [aC,lca,lna]
       refine oY rfl (yMS rfl) (oN ?_)
       exact ar (fun _ => (none,0,0,[],noR)) rfl (List.append_nil _)
      dsimp only [bw,lsz,lss,lna,lca,List.append_nil]
      refine bJ rfl (fun L2 => ?_) ?_
      ·dsimp only [aC,lca,lna]
       refine oY rfl (yMI rfl) (oN ?_)
       exact ar (fun _ => (none,0,0,[],noR)) rfl (List.append_nil _)
      dsimp only [bw,lsz,lss,lna,lca,List.append_nil]
      refine bJ rfl (fun L2 => ?_) ?_
      ·dsimp only [aC,lca,lna]
       refine oY rfl (yMS rfl) (oN ?_)
       exact ar (fun _ => (none,0,0,[],noR)) rfl (List.append_nil _)
      dsimp only [bw,lsz,lss,lna,lca,List.append_nil]
      refine bJ rfl (fun L2 => ?_) ?_
      ·dsimp only [aC,lca,lna]
       refine oY rfl (yMI rfl) (oN ?_)
       exact ar (fun _ => (none,0,0,[],noR)) rfl (List.append_nil _)
      dsimp only [bw,lsz,lss,lna,lca,List.append_nil]
      refine bJ rfl (fun L2 => ?_) ?_
      ·dsimp only [aC,lca,lna]
       refine oY rfl (dV rfl rfl) (oN ?_)
       exact ar (fun _ => (none,0,0,[],noR)) rfl (List.append_nil _)
      dsimp only [bw,lsz,lss,lna,lca,List.append_nil]
      refine bJ rfl (fun L2 => ?_) ?_
      ·dsimp only [aC,lca,lna]
       refine oY rfl (yMS rfl) (oN ?_)
       exact ar (fun _ => (none,0,0,[],noR)) rfl (List.append_nil _)
      dsimp only [bw,lsz,lss,lna,lca,List.append_nil]
      refine bJ rfl (fun L2 => ?_) ?_
      ·dsimp only [aC,lca,lna]
       refine oY rfl (yMI rfl) (oN ?_)
       exact ar (fun _ => (none,0,0,[],noR)) rfl (List.append_nil _)
      dsimp only [bw,lsz,lss,lna,lca,List.append_nil]
      refine bJ rfl (fun L2 => ?_) ?_
      ·dsimp only [aC,lca,lna]
       refine oY rfl (dV rfl rfl) (oN ?_)
       exact ar (fun _ => (none,0,0,[],noR)) rfl (List.append_nil _)
      dsimp only [bw,lsz,lss,lna,lca,List.append_nil]
      refine bJ rfl (fun L2 => ?_) ?_
      ·dsimp only [aC,lca,lna]
       refine oY rfl (yI fc (by decide) hg15.1 hg15.2 (RdL.row 1 rfl) (eL ab hn1_s8) rfl rfl) ?_
       refine oN ?_
       exact ar (fun _ => (none,0,0,[],noR)) rfl (List.append_nil _)
      dsimp only [bw,lsz,lss,lna,lca,List.append_nil]
      refine bJ rfl (fun L2 => ?_) ?_
      ·dsimp only [aC,lca,lna]
       refine oY rfl (yM (A:=Aa) (j:=(Int.toNat (w64 (s8.1 - 1)) * 2)) [vI ((rdL s8.2 (w64 (s8.1 - 1))).fLo),vI ((rdL s8.2 (w64 (s8.1 - 1))).fHi)] jv (Nat.succ_pos _) (RdL.row 1 rfl) rfl (aU ab hg15.1 (av hg15.2 hn1_s8))) (oN ?_)
       exact ar (fun _ => (none,0,0,[],noR)) rfl (List.append_nil _)
      dsimp only [bw,lsz,lss,lna,lca,List.append_nil]
      refine bJ rfl (fun L2 => ?_) ?_
      ·dsimp only [aC,lca,lna]
       refine oY rfl (yMS rfl) (oN ?_)
       exact ar (fun _ => (none,0,0,[],noR)) rfl (List.append_nil _)
      dsimp only [bw,lsz,lss,lna,lca,List.append_nil]
      refine bJ rfl (fun L2 => ?_) ?_
      ·dsimp only [aC,lca,lna]
       refine oY rfl (yMI rfl) (oN ?_)
       exact ar (fun _ => (none,0,0,[],noR)) rfl (List.append_nil _)
      dsimp only [bw,lsz,lss,lna,lca,List.append_nil]
      refine bJ rfl (fun L2 => ?_) ?_
      ·dsimp only [aC,lca,lna]
       refine oY rfl (yI fc (by decide) hg16.1 hg16.2 (RdL.row 1 rfl) (eL ab hn1_s8) rfl rfl) ?_
       refine oN ?_
       exact ar (fun _ => (none,0,0,[],noR)) rfl (List.append_nil _)
      dsimp only [bw,lsz,lss,lna,lca,List.append_nil]
      refine bJ rfl (fun L2 => ?_) ?_
      ·dsimp only [aC,lca,lna]
       refine oY rfl (yM (A:=Aa) (j:=(Int.toNat s8.1 * 2)) [vI ((rdL s8.2 s8.1).fLo),vI ((rdL s8.2 s8.1).fHi)] jv (Nat.succ_pos _) (RdL.row 1 rfl) rfl (aU ab hg16.1 (av hg16.2 hn1_s8))) (oN ?_)
       exact ar (fun _ => (none,0,0,[],noR)) rfl (List.append_nil _)
      dsimp only [bw,lsz,lss,lna,lca,List.append_nil]
      refine bJ rfl (fun L2 => ?_) ?_
      ·dsimp only [aC,lca,lna]
       refine oY rfl (yI fc (by decide) hg17.1 hg17.2 (RdL.row 1 rfl) (eL ab hn1_s8) rfl rfl) ?_
       refine oN ?_
       exact ar (fun _ => (none,0,0,[],noR)) rfl (List.append_nil _)
      dsimp only [bw,lsz,lss,lna,lca,List.append_nil]
      refine qI rfl (fun L2 => ?_) ?_
      ·dsimp only [aC,lca,lna]
       refine bT rfl (iW 1 (xs:=s8.2) [vI ((rdL s8.2 (w64 (s8.1 - 1))).fLo),vI ((rdL s8.2 (w64 (s8.1 - 1))).fHi)] ab (Nat.succ_pos _) (TSpan.mk ((rdL s8.2 (w64 (s8.1 - 1))).fLo) ((rdL s8.2 (w64 (s8.1 - 1))).fHi)) ro rfl hg17.1 (av hg17.2 hn1_s8) rfl rfl rfl rfl) (oN ?_)
       first | exact bA (fun _ => (none,0,0,[],noR)) rfl | exact bA (fun _ => (none,0,0,[],noR)) (List.append_nil _)
      dsimp only [bw,lsz,lss,lna,lca,List.append_nil]
      refine bJ rfl (fun L2 => ?_) ?_
      ·dsimp only [aC,lca,lna]
       refine oY rfl (yI fc (by decide) hg18.1 hg18.2 (RdL.row 1 rfl) (eL ab (cU hn1_s8)) rfl rfl) ?_
       refine oN ?_
       exact ar (fun _ => (none,0,0,[],noR)) rfl (List.append_nil _)
      dsimp only [bw,lsz,lss,lna,lca,List.append_nil]
      refine qI rfl (fun L2 => ?_) ?_
      ·dsimp only [aC,lca,lna]
       refine bT rfl (iW 1 (xs:=(s8.2.set (Int.toNat s8.1) (TSpan.mk ((rdL s8.2 (w64 (s8.1 - 1))).fLo) ((rdL s8.2 (w64 (s8.1 - 1))).fHi)))) [vI ((rdL s8.2 s8.1).fLo),vI ((rdL s8.2 s8.1).fHi)] ab (Nat.succ_pos _) (TSpan.mk ((rdL s8.2 s8.1).fLo) ((rdL s8.2 s8.1).fHi)) ro rfl hg18.1 (av hg18.2 (cU hn1_s8)) rfl rfl rfl rfl) (oN ?_)
       first | exact bA (fun _ => (none,0,0,[],noR)) rfl | exact bA (fun _ => (none,0,0,[],noR)) (List.append_nil _)
      dsimp only [bw,lsz,lss,lna,lca,List.append_nil]
      refine jm (aw (eT (cR (oY rfl (yMI rfl) (oY rfl (dV rfl rfl) (oY rfl (yAI rfl) (oN ?_)))))))
      obtain rfl:=sI h
      exact eN ⟨_,(cU (cU hn1_s8)),rfl,(kp4 (kp (kp (kp rfl))))⟩
     ·refine cF (vB hp13) (aH (ah ?_))
      obtain rfl:=sI h
      exact ax ⟨rfl,_,hn1_s8,rfl,(kp4 (kp (kp (kp rfl))))⟩
    ·clear h; rcases iOs hb12 with ⟨hp10,h⟩ | ⟨hp10,h⟩
     ·refine qY (sT rfl rfl rfl rfl hp10) (bH (v:=.func (.func fid3) fst3.toArray caps3.toArray) rfl) (qY (sT rfl rfl rfl rfl hp10) (yMS rfl) (qY (sT rfl rfl rfl rfl hp10) (yMI rfl) ?_))
      obtain ⟨hg19,h⟩:=gOs h
      refine qY (sT rfl rfl rfl rfl hp10) (yI fc (by decide) hg19.1 hg19.2 (RdL.row 1 rfl) (eL ab hn1_s8) rfl rfl) ?_
      refine qY (sT rfl rfl rfl rfl hp10) (yM (A:=Aa) (j:=(Int.toNat s8.1 * 2)) [vI ((rdL s8.2 s8.1).fLo),vI ((rdL s8.2 s8.1).fHi)] jv (Nat.succ_pos _) (RdL.row 1 rfl) rfl (aU ab hg19.1 (av hg19.2 hn1_s8))) (qY (sT rfl rfl rfl rfl hp10) (yMS rfl) (qY (sT rfl rfl rfl rfl hp10) (yMI rfl) (qY (sT rfl rfl rfl rfl hp10) (dV rfl rfl) ?_)))
      obtain ⟨hg20,h⟩:=gOs h
      refine qY (sT rfl rfl rfl rfl hp10) (yI fc (by decide) hg20.1 hg20.2 (RdL.row 1 rfl) (eL ab hn1_s8) rfl rfl) ?_
      refine qY (sT rfl rfl rfl rfl hp10) (yM (A:=Aa) (j:=(Int.toNat (w64 (s8.1 - 1)) * 2)) [vI ((rdL s8.2 (w64 (s8.1 - 1))).fLo),vI ((rdL s8.2 (w64 (s8.1 - 1))).fHi)] jv (Nat.succ_pos _) (RdL.row 1 rfl) rfl (aU ab hg20.1 (av hg20.2 hn1_s8))) ?_
      obtain ⟨y21,hy22,h⟩:=bOs h
      refine qY (sT rfl rfl rfl rfl hp10) (ge [.agg #[vI ((rdL s8.2 s8.1).fLo),vI ((rdL s8.2 s8.1).fHi)],.agg #[vI ((rdL s8.2 (w64 (s8.1 - 1))).fLo),vI ((rdL s8.2 (w64 (s8.1 - 1))).fHi)]] hgo3 rfl rfl (fun W2 hW2 => hof3 W2 hW2.below (hW2.mem (i:=0) rfl) (TSpan.mk ((rdL s8.2 s8.1).fLo) ((rdL s8.2 s8.1).fHi)) (TSpan.mk ((rdL s8.2 (w64 (s8.1 - 1))).fLo) ((rdL s8.2 (w64 (s8.1 - 1))).fHi)) y21 hy22)) (qY (sT rfl rfl rfl rfl hp10) (bm rfl rfl) (qY rfl (ae (vB hp10) rfl) ?_))
      obtain rfl:=sI h
      exact key _ _ (kp4 (kp4 rfl))
     ·refine am (sF rfl rfl rfl rfl hp10) (am (sF rfl rfl rfl rfl hp10) (am (sF rfl rfl rfl rfl hp10) (am (sF rfl rfl rfl rfl hp10) (am (sF rfl rfl rfl rfl hp10) (am (sF rfl rfl rfl rfl hp10) (am (sF rfl rfl rfl rfl hp10) (am (sF rfl rfl rfl rfl hp10) (am (sF rfl rfl rfl rfl hp10) (am (sF rfl rfl rfl rfl hp10) (am (sF rfl rfl rfl rfl hp10) (am (sF rfl rfl rfl rfl hp10) (qY rfl (ag (vB hp10) rfl) ?_))))))))))))
      obtain rfl:=sI h
      exact key _ _ (kp4 (kp4 rfl))
   ·intro e L tm hJ
    obtain ⟨rfl,tm0_u9,hn1_u9,rfl,rfl⟩:=hJ
    refine ⟨(by intro hc; cases hc),?_⟩
    refine ac (aw (eT (cR (oY rfl (yMI rfl) (oY rfl (aX rfl rfl) (oY rfl (yAI rfl) (oN ?_)))))))
    obtain rfl:=sI h
    exact eN ⟨_,hn1_u9,rfl,(kp4 (kp rfl))⟩
  ·refine cF (vB hp5) (aH (ah ?_))
   obtain rfl:=sI h
   exact ax ⟨rfl,_,hn1_s3,rfl,(kp4 (kp rfl))⟩
 ·intro e L tm hJ
  obtain ⟨rfl,tm0_u4,hn1_u4,rfl,rfl⟩:=hJ
  refine ⟨(by intro hc; cases hc),?_⟩
  refine ac ?_
  obtain rfl:=sI h
  exact bR (.inr rfl) rfl  (fun W2 hW2 => ⟨rfl,hn1_u4,hW2.take 2⟩)
theorem gv (p0:(List TSpan)) (p1:Int) (p2:Int) (p3:Int) (p4:TSpan → TSpan → Option Int) (res:(List TSpan)) (h:bV p0 p1 p2 p3 p4 = some res) (W:World) (w0:World) (R:Res) (Aa:Option Addr) (n0_0 ca : Nat) (hn0_0:n0_0 = p0.length) (fid4:Nat) (fst4 caps4 : List Value) (hgo4:bx Tryz.prog fid4 = true) (hof4:∀ W2,Below w0.heap.size w0 W2 → R.holds W2 → ∀ x0 x1,∀ y,p4 x0 x1 = some y → Calls Tryz.prog fid4 (fst4 ++ (([.agg #[vI x0.fLo,vI x0.fHi],.agg #[vI x1.fLo,vI x1.fHi]] : List Value) ++ caps4)).toArray W2 fun e W3 => e = .returned (vI y) ∧ Ext W2 W3 []) (hW:Ext w0 W [R,aI Aa ca 26 2 n0_0 (encL TSpan_cells p0)]) :
  Calls Tryz.prog 100 [.slice Aa n0_0 ca,vI p1,vI p2,vI p3,.func (.func fid4) fst4.toArray caps4.toArray].toArray W fun e W2 => e = .returned (.tuple #[]) ∧ n0_0 = res.length ∧ Ext w0 W2 [R,aI Aa ca 26 2 n0_0 (encL TSpan_cells res)]:=by
 subst hn0_0
 unfold bV at h
 refine aM (m:=148) Tryz.func100 rfl rfl (nB rfl) hW (cS (cR (oY rfl (yAB rfl) (oN (eT (cS (cR (oY rfl (yAB rfl) (oN (eT (cB ?_)))))))))))
 obtain ⟨u4,hl9,h⟩:=bOs h
 refine oO (fun (s:(Int × Int × Int × Bool × Bool × (List TSpan))) L tm => ∃ (tm0:Nat → Value),p0.length = s.2.2.2.2.2.length ∧ L = [R,aI Aa ca 26 2 p0.length (encL TSpan_cells s.2.2.2.2.2)] ∧ tm = (upd (upd (upd (upd (upd (upd (upd tm0 0 (.slice Aa p0.length ca)) 1 (vI s.1)) 2 (vI s.2.1)) 3 (vI s.2.2.1)) 4 (.func (.func fid4) fst4.toArray caps4.toArray)) 10 (.bool s.2.2.2.1)) 11 (.bool s.2.2.2.2.1))) (fun s e L tm => e = .ret ∧ ∃ (tm0:Nat → Value),p0.length = s.2.2.2.2.2.length ∧ L = [R,aI Aa ca 26 2 p0.length (encL TSpan_cells s.2.2.2.2.2)] ∧ tm = (upd (upd (upd (upd (upd (upd (upd tm0 0 (.slice Aa p0.length ca)) 1 (vI s.1)) 2 (vI s.2.1)) 3 (vI s.2.2.1)) 4 (.func (.func fid4) fst4.toArray caps4.toArray)) 10 (.bool s.2.2.2.1)) 11 (.bool s.2.2.2.2.1))) hl9 ⟨_,rfl,rfl,(kp4 (kp (kp (kp rfl))))⟩ ?_ ?_
 ·rintro s3 L tm st ⟨tm0_s3,hn1_s3,rfl,rfl⟩ h
  unfold bI at h
  refine cB (cS (cR (oY rfl (yMI rfl) (oY rfl (yMI rfl) (oY rfl (dV rfl rfl) (oY rfl (yAI rfl) (oN (eT (cS (cS (cR (oY rfl (yMI rfl) (oY rfl (jX rfl rfl) (oN (eT ?_)))))))))))))))
  obtain ⟨hp5,h⟩:=gOs h
  refine cT (vB hp5) (cS (cR (oY rfl (yMS rfl) (oY rfl (yMI rfl) (oY rfl (yMI rfl) (oY rfl (bH (v:=.func (.func fid4) fst4.toArray caps4.toArray) rfl) ?_))))))
  obtain ⟨y6,hy7,h⟩:=bOs h
  refine dE 1 [.slice Aa p0.length ca,vI s3.1,vI s3.2.1,.func (.func fid4) fst4.toArray caps4.toArray] (fun (_:Unit) => p0.length = y6.length) (fun _ => .tuple #[]) (fun _ => aI Aa ca 26 2 p0.length (encL TSpan_cells y6)) (fun _ => []) rfl rfl go_122 rfl (fun W2 hW2 => (eZ s3.2.2.2.2.2 s3.1 s3.2.1 p4 y6 hy7 W2 _ (cD [R,aI Aa ca 26 2 p0.length (encL TSpan_cells s3.2.2.2.2.2)] [1]) Aa p0.length ca (hn1_s3) fid4 fst4 caps4 hgo4 (fun W3 hb hR => hof4 W3 hb (hR.1 0 _ (by decide) rfl)) hW2).mono (fun e W3 h3 => ⟨(),h3.2.1,h3.1,h3.2.2⟩)) ?_
  rintro - hn8
  try dsimp only [lsz,lss,List.append_nil]
  refine oN (eT (al (aa (ai ?_))))
  obtain rfl:=sI h
  exact ax ⟨rfl,_,hn8,rfl,(kp4 (kp (kp (kp rfl))))⟩
 ·intro e L tm hJ
  obtain ⟨rfl,tm0_u4,hn1_u4,rfl,rfl⟩:=hJ
  refine ⟨(by intro hc; cases hc),?_⟩
  refine ai ?_
  obtain rfl:=sI h
  exact bR (.inl rfl) rfl  (fun W2 hW2 => ⟨rfl,hn1_u4,hW2.take 2⟩)
theorem gD (p0:(List TSpan)) (p1:TSpan → TSpan → Option Int) (res:(List TSpan)) (h:bF p0 p1 = some res) (W:World) (w0:World) (R:Res) (Aa:Option Addr) (n0_0 ca : Nat) (hn0_0:n0_0 = p0.length) (fid1:Nat) (fst1 caps1 : List Value) (hgo1:bx Tryz.prog fid1 = true) (hof1:∀ W2,Below w0.heap.size w0 W2 → R.holds W2 → ∀ x0 x1,∀ y,p1 x0 x1 = some y → Calls Tryz.prog fid1 (fst1 ++ (([.agg #[vI x0.fLo,vI x0.fHi],.agg #[vI x1.fLo,vI x1.fHi]] : List Value) ++ caps1)).toArray W2 fun e W3 => e = .returned (vI y) ∧ Ext W2 W3 []) (hW:Ext w0 W [R,aI Aa ca 26 2 n0_0 (encL TSpan_cells p0)]) :
  Calls Tryz.prog 71 [.slice Aa n0_0 ca,.func (.func fid1) fst1.toArray caps1.toArray].toArray W fun e W2 => e = .returned (.tuple #[]) ∧ n0_0 = res.length ∧ Ext w0 W2 [R,aI Aa ca 26 2 n0_0 (encL TSpan_cells res)]:=by
 subst hn0_0
 unfold bF at h
 refine aM (m:=14) Tryz.func71 rfl rfl (nB rfl) hW (cS (cR (oY rfl (yMS rfl) (oY rfl (bd (us:=[]) eg rfl) (oY rfl (yAI rfl) (oN (eT (cR (oY rfl (yMS rfl) (oY rfl (yMI rfl) (oY rfl (yMI rfl) ?_)))))))))))
 obtain ⟨hg1,h⟩:=gOs h
 refine oY rfl (ox ui_3 ui_125 hg1 rfl) ?_
 obtain ⟨y2,hy3,h⟩:=bOs h
 refine oY rfl (yC [.int .u64 (p0.length:Int)] go_74 rfl (fun W2 hW2 => jl (p0.length:Int) y2 hy3 W2 ) rfl) (oY rfl (bH (v:=.func (.func fid1) fst1.toArray caps1.toArray) rfl) ?_)
 obtain ⟨y4,hy5,h⟩:=bOs h
 refine dE 1 [.slice Aa p0.length ca,vI 0,vI (p0.length:Int),vI y2,.func (.func fid1) fst1.toArray caps1.toArray] (fun (_:Unit) => p0.length = y4.length) (fun _ => .tuple #[]) (fun _ => aI Aa ca 26 2 p0.length (encL TSpan_cells y4)) (fun _ => []) rfl rfl go_100 rfl (fun W2 hW2 => (gv p0 0 (p0.length:Int) y2 p1 y4 hy5 W2 _ (cD [R,aI Aa ca 26 2 p0.length (encL TSpan_cells p0)] [1]) Aa p0.length ca rfl fid1 fst1 caps1 hgo1 (fun W3 hb hR => hof1 W3 hb (hR.1 0 _ (by decide) rfl)) hW2).mono (fun e W3 h3 => ⟨(),h3.2.1,h3.1,h3.2.2⟩)) ?_
 rintro - hn6
 try dsimp only [lsz,lss,List.append_nil]
 refine oN ?_
 obtain rfl:=sI h
 exact bR (.inr rfl) rfl  (fun W2 hW2 => ⟨rfl,hn6,hW2.take 2⟩)
theorem ms (p0:TSpan) (p1:TSpan) (res:Int) (h:eB p0 p1 = some res) (W:World)  :
  Calls Tryz.prog 72 [.agg #[vI p0.fLo,vI p0.fHi],.agg #[vI p1.fLo,vI p1.fHi]].toArray W fun e W2 => e = .returned (vI res) ∧ Ext W W2 []:=by
 unfold eB at h
 refine ad (m:=10) Tryz.func72 rfl rfl (nB rfl) (cS (cR ?_))
 refine aO [vI p0.fLo,vI p0.fHi] rfl rfl rfl (fun b1 => ?_)
 refine aO [vI p1.fLo,vI p1.fHi] rfl rfl rfl (fun b2 => ?_)
 refine oY rfl (yAI rfl) (oN (eT (cS (cR (oY rfl (yFA co rfl) (oY rfl (yL 0 aV rfl rfl rfl) (oY rfl (yFA co rfl) (oY rfl (yL 1 aV rfl rfl rfl) (oY rfl (dV rfl rfl) (oY rfl (yAI rfl) (oN (eT (al ?_)))))))))))))
 obtain rfl:=sI h
 exact ap (.inl rfl) rfl (rVt (v:=vI (w64 (p0.fLo - p1.fLo))) rfl) (fun W2 hW2 => ⟨rfl,hW2.none⟩)
end Go.Proofs.YthndghnkebboaabGreat
set_option maxHeartbeats 4000000
set_option maxRecDepth 100000
namespace Go.Proofs.YthndghnkebboaabGreat
open Go.RowKit (Below)
attribute [local irreducible] OX QX CX EX OpY Calls CallsIn
theorem nH (p0:(List TSpan)) (p1:TSpan) (res:(List TSpan)) (h:f5 p0 p1 = some res) (W:World) (Aa:Option Addr) (n0_0 ca : Nat) (hn0_0:n0_0 = p0.length) (hr0_0:Rd W Aa n0_0 ca (encL TSpan_cells p0)) :
  Calls Tryz.prog 35 [.slice Aa n0_0 ca,.agg #[vI p1.fLo,vI p1.fHi]].toArray W fun e W2 => ∃ x : Option Addr × Nat × Nat,x.2.1 = res.length ∧ e = .returned (.slice x.1 x.2.1 x.2.2) ∧ Ext W W2 [aI x.1 x.2.2 26 2 x.2.1 (encL TSpan_cells res)]:=by
 subst hn0_0
 unfold f5 at h
 refine ad (m:=59) Tryz.func35 rfl rfl (nB rfl) (cS (cR ?_))
 refine aO [vI p1.fLo,vI p1.fHi] rfl rfl rfl (fun b1 => ?_)
 refine oY rfl (yAS rfl) (oN (eT (cS ?_)))
 obtain ⟨y3,hy4,h⟩:=bOs h
 obtain ⟨hg12,h⟩:=gOs h
 refine dJ [[],[0],[],[2],[0,1,2,3],[0,1,2,3,4]] [(none,0,[true]),(none,1,[true]),(none,0,[true,false]),(none,1,[true,false]),(some 1,0,[true,true,true]),(none,0,[true,true,true])] [⟨fun _ => .slice Aa p0.length ca,fun _ => noR,fun _ => []⟩,⟨fun ξ2 => .slice (ξ2 1 0).1 y3.length (ξ2 1 0).2.2.1,fun _ => noR,fun ξ2 => [aI (ξ2 1 0).1 (ξ2 1 0).2.2.1 26 2 y3.length (encL TSpan_cells y3)]⟩,⟨fun _ => .agg #[vI p1.fLo,vI p1.fHi],fun _ => noR,fun _ => []⟩,⟨fun ξ2 => .slice (some ⟨(ξ2 3 0).2.1,0,none⟩) 1 1,fun _ => noR,fun ξ2 => [aI (some ⟨(ξ2 3 0).2.1,0,none⟩) 1 26 2 1 (encL TSpan_cells [p1])]⟩,⟨fun ξ2 => .slice (ξ2 4 0).1 (y3.length + 1) (ξ2 4 0).2.2.1,fun ξ2 => aI (ξ2 4 0).1 (ξ2 4 0).2.2.1 26 2 (y3.length + 1) (encL TSpan_cells (y3 ++ [p1])),fun _ => []⟩,⟨fun ξ2 => .slice (ξ2 4 0).1 (y3.length + 1) (ξ2 4 0).2.2.1,fun _ => noR,fun _ => []⟩] 1 cm (by kernel_rfl) (by kernel_rfl) ⟨⟨fun ξ2 ξ2' h => ⟨rfl,rfl,rfl⟩,fun _ => rfl⟩,⟨fun ξ2 ξ2' h => ⟨by simp only [h 1 (.inl rfl)],rfl,by simp only [h 1 (.inl rfl)]⟩,fun _ => rfl⟩,⟨fun ξ2 ξ2' h => ⟨rfl,rfl,rfl⟩,fun _ => rfl⟩,⟨fun ξ2 ξ2' h => ⟨by simp only [h 3 (.inl rfl)],rfl,by simp only [h 3 (.inl rfl)]⟩,fun _ => rfl⟩,⟨fun ξ2 ξ2' h => ⟨by simp only [h 4 (.inl rfl)],by simp only [h 4 (.inl rfl)],rfl⟩,fun _ => rfl⟩,⟨fun ξ2 ξ2' h => ⟨by simp only [h 4 (.inr rfl)],rfl,rfl⟩,fun _ => rfl⟩,trivial⟩ rfl (fun ξ2 => ?_)
 refine bJ rfl (fun L2 => ?_) ?_
 ·dsimp only [aC,lca,lna]
  refine oY rfl (yMS rfl) (oN ?_)
  exact ar (fun _ => (none,0,0,[],noR)) rfl (List.append_nil _)
 dsimp only [bw,lsz,lss,lna,lca,List.append_nil]
 refine bJ rfl (fun L2 => ?_) ?_
 ·dsimp only [aC,lca,lna]
  refine oC [.slice Aa p0.length ca] _ _ _ rfl go_34 rfl (fun W2 hW2 => eM p0 y3 hy4 W2 Aa p0.length ca rfl ((RdL.arg hr0_0) W2 hW2)) ?_
  rintro ⟨A5,n7,c6⟩ hn8
  replace hn8 : n7 = y3.length:=hn8; subst hn8
  refine oN ?_
  exact ar (fun _ => (A5,0,c6,[],noR)) rfl rfl
 dsimp only [bw,lsz,lss,lna,lca,List.append_nil]
 refine bJ rfl (fun L2 => ?_) ?_
 ·dsimp only [aC,lca,lna]
  refine oY rfl (yN 0 [vI p1.fLo,vI p1.fHi] jv rfl rfl rfl) (oN ?_)
  exact ar (fun _ => (none,0,0,[],noR)) rfl (List.append_nil _)
 dsimp only [bw,lsz,lss,lna,lca,List.append_nil]
 refine bJ rfl (fun L2 => ?_) ?_
 ·dsimp only [aC,lca,lna]
  refine aG 1 (encL TSpan_cells [p1]) _ l1 eg ij kP (by decide) (by decide) (by kernel_rfl) (eL ab rfl) rfl (fun b9 => ?_)
  refine oN ?_
  exact ar (fun _ => (none,b9,0,[],noR)) rfl rfl
 dsimp only [bw,lsz,lss,lna,lca,List.append_nil]
 refine bJ rfl (fun L2 => ?_) ?_
 ·dsimp only [aC,lca,lna]
  refine bn 1 eg ij kP rfl rfl rfl (RdL.row 2 rfl) (eL ab rfl) (bO cN _) (bW hg12 (by decide)) rfl (fun A10 c11 => ?_)
  refine oN ?_
  first | exact ar (fun _ => (A10,0,c11,[],noR)) rfl rfl | exact ar (fun _ => (A10,0,c11,[],noR)) rfl (List.append_nil _)
 dsimp only [bw,lsz,lss,lna,lca,List.append_nil]
 refine bJ rfl (fun L2 => ?_) ?_
 ·dsimp only [aC,lca,lna]
  refine oY rfl (yAS rfl) (oN ?_)
  exact ar (fun _ => (none,0,0,[],noR)) rfl (List.append_nil _)
 dsimp only [bw,lsz,lss,lna,lca,List.append_nil]
 refine jm (eT (cS (cR (oY rfl (yMS rfl) ?_))))
 obtain ⟨y15,hy16,h⟩:=bOs h
 refine dE 1 [.slice (ξ2 4 0).1 (y3.length + 1) (ξ2 4 0).2.2.1,.func (.func 72) #[] #[]] (fun (_:Unit) => (y3.length + 1) = y15.length) (fun _ => .tuple #[]) (fun _ => aI (ξ2 4 0).1 (ξ2 4 0).2.2.1 26 2 (y3.length + 1) (encL TSpan_cells y15)) (fun _ => []) rfl rfl go_71 rfl (fun W2 hW2 => (gD (y3 ++ [p1]) (fun x13 x14 => eB x13 x14) y15 hy16 W2 _ (cD [aj b1 26 [vI p1.fLo,vI p1.fHi],aI (ξ2 4 0).1 (ξ2 4 0).2.2.1 26 2 (y3.length + 1) (encL TSpan_cells (y3 ++ [p1])),aI (some ⟨(ξ2 3 0).2.1,0,none⟩) 1 26 2 1 (encL TSpan_cells [p1])] [1]) (ξ2 4 0).1 (y3.length + 1) (ξ2 4 0).2.2.1 (dT rfl rfl) 72 [] [] go_72 (fun W3 hb hR x0 x1 y hxy => ms  x0 x1  y hxy W3 ) hW2).mono (fun e W3 h3 => ⟨(),h3.2.1,h3.1,h3.2.2⟩)) ?_
 rintro - hn17
 try dsimp only [lsz,lss,List.append_nil]
 refine oN (eT (cS (cR (oY rfl (yAS rfl) (oN (eT (cS (cS (cR (oY rfl (yMS rfl) (oY rfl (bd (us:=[]) eg rfl) (oY rfl (yMI rfl) (oN (eT (cB ?_)))))))))))))))
 obtain ⟨u21,hl36,h⟩:=bOs h
 refine ci 26 2 ?_
 refine bc (fun (s:(Int × (List TSpan))) L tm => ∃ (tm0:Nat → Value) (A3_s:Option Addr) (c3_s:Nat) (n3_s:Nat),n3_s = s.2.length ∧ L = [aj b1 26 [vI p1.fLo,vI p1.fHi],aI (ξ2 4 0).1 (ξ2 4 0).2.2.1 26 2 (y3.length + 1) (encL TSpan_cells y15),aI (some ⟨(ξ2 3 0).2.1,0,none⟩) 1 26 2 1 (encL TSpan_cells [p1]),aI A3_s c3_s 26 2 n3_s (encL TSpan_cells s.2)] ∧ tm = (upd (upd (upd (upd (upd tm0 4 (.slice none 0 0)) 6 (.slice A3_s n3_s c3_s)) 17 (.slice (ξ2 4 0).1 (y3.length + 1) (ξ2 4 0).2.2.1)) 18 (vI (((y3.length + 1) : Nat) : Int))) 19 (vI s.1))) 0 hl36 ⟨_,none,0,0,rfl,rfl,(kp4 (kp rfl))⟩ ?_ ?_
 ·rintro s20 L tm st ⟨tm0_s20,A3_s20,c3_s20,n3_s20,rfl,rfl,rfl⟩ h
  unfold f9 at h
  refine cS (cR (oY rfl (bm rfl rfl) (oN (eT (cS ?_)))))
  rcases iOs h with ⟨hp22,h⟩ | ⟨hp22,h⟩
  ·refine cT (vB hp22) (cK (eT (cS (cB (cS (cR ?_))))))
   obtain ⟨hg23,h⟩:=gOs h
   refine oY rfl (yI fc (by decide) hg23.1 hg23.2 (RdL.row 1 rfl) (eL ab hn17) rfl rfl) ?_
   refine oY rfl (yM (A:=(ξ2 4 0).1) (j:=(Int.toNat s20.1 * 2)) [vI ((rdL y15 s20.1).fLo),vI ((rdL y15 s20.1).fHi)] jv (Nat.succ_pos _) (RdL.row 1 rfl) rfl (aU ab hg23.1 (av hg23.2 hn17))) ?_
   refine aB ij rfl (fun b24 => ?_)
   refine bT rfl (yS 4 [vI ((rdL y15 s20.1).fLo),vI ((rdL y15 s20.1).fHi)] ro rfl (nB rfl) rfl rfl rfl) (oN (eT (cS (cS (cR (oY rfl (yMS rfl) (oY rfl (bd (us:=[]) eg rfl) (oY rfl (yAI rfl) (oN (eT (cS ?_)))))))))))
   refine ba 14 cm (by kernel_rfl) (by kernel_rfl) ?_
   refine qY rfl (yMI rfl) (qY rfl (eI rfl rfl) (qY rfl (yMB rfl) ?_))
   obtain ⟨b26,hb27,h⟩:=bOs h
   refine qJ 11 (fun tm0 => (upd (upd (upd (upd (upd (upd (upd (upd (upd tm0 4 (.slice none 0 0)) 6 (.slice A3_s20 s20.2.length c3_s20)) 17 (.slice (ξ2 4 0).1 (y3.length + 1) (ξ2 4 0).2.2.1)) 18 (vI (((y3.length + 1) : Nat) : Int))) 19 (vI s20.1)) 20 (.bool (decide (s20.1 < (((y3.length + 1) : Nat) : Int))))) 8 (.pointer (some ⟨b24,0,none⟩))) 9 (vI (s20.2.length:Int))) 38 (.bool b26))) (fun tm0 => ?_) (fun key => ?_)
   ·refine bX (oN (eT ?_))
    rcases iOs h with ⟨hp28,h⟩ | ⟨hp28,h⟩
    ·refine cT (vB hp28) (cS ?_)
     refine ba 14 cm (by kernel_rfl) (by kernel_rfl) ?_
     refine qY rfl (yMS rfl) (qY rfl (yMI rfl) (qY rfl (dV rfl rfl) (qY rfl (yMS rfl) (qY rfl (yMI rfl) (qY rfl (dV rfl rfl) ?_)))))
     obtain ⟨hg29,h⟩:=gOs h
     refine qY rfl (yI fc (by decide) hg29.1 hg29.2 (RdL.row 3 rfl) (eL ab rfl) rfl rfl) ?_
     refine qY rfl (yFR (A:=A3_s20) (j:=(Int.toNat (w64 ((s20.2.length:Int) - 1)) * 2)) bL rfl) (qY rfl (yR (A:=A3_s20) (j:=((Int.toNat (w64 ((s20.2.length:Int) - 1)) * 2) + 1)) (v:=vI ((rdL s20.2 (w64 ((s20.2.length:Int) - 1))).fHi)) aV (RdL.row 3 rfl) rfl (eG ab hg29.1 (av hg29.2 rfl) rfl)) (qY rfl (yFA bL rfl) (qY rfl (yL 4 aV rfl rfl rfl) (qY rfl (y_max rfl rfl) ?_))))
     obtain ⟨hg30,h⟩:=gOs h
     refine qY rfl (yI fc (by decide) hg30.1 hg30.2 (RdL.row 3 rfl) (eL ab rfl) rfl rfl) ?_
     refine qY rfl (yFR (A:=A3_s20) (j:=(Int.toNat (w64 ((s20.2.length:Int) - 1)) * 2)) bL rfl) (bX ?_)
     refine bT rfl (lC 3 (xs:=s20.2) ab (TSpan.mk ((rdL s20.2 (w64 ((s20.2.length:Int) - 1))).fLo) (max ((rdL s20.2 (w64 ((s20.2.length:Int) - 1))).fHi) ((rdL y15 s20.1).fHi))) 1 (by decide) p6 rfl hg30.1 (av hg30.2 rfl) rfl rfl rfl rfl) ?_
     refine oN (eT (aH (ah (ac (eT (cR (oY rfl (aX rfl rfl) (oY rfl (yMI rfl) (oN (aQ 4 ?_))))))))))
     obtain rfl:=sI h
     exact eN ⟨_,A3_s20,c3_s20,s20.2.length,(cU rfl),rfl,(kp4 (kp rfl))⟩
    ·refine cF (vB hp28) (cK (eT (cR (oY rfl (yMS rfl) (oY rfl (yN 4 [vI ((rdL y15 s20.1).fLo),vI ((rdL y15 s20.1).fHi)] jv rfl rfl rfl) ?_)))))
     refine aG 1 (encL TSpan_cells [(TSpan.mk ((rdL y15 s20.1).fLo) ((rdL y15 s20.1).fHi))]) _ l1 eg ij kP (by decide) (by decide) (by kernel_rfl) (eL ab rfl) rfl (fun b31 => ?_)
     try dsimp only [lna,lca,lsz,lss]
     obtain ⟨hg34,h⟩:=gOs h
     refine bn 3 eg ij kP rfl rfl rfl (RdL.row 5 rfl) (eL ab rfl) (bO cN _) (bW hg34 (by decide)) rfl (fun A32 c33 => ?_)
     refine oY rfl (yAS rfl) (oN (aw (eT (cR (oY rfl (aX rfl rfl) (oY rfl (yMI rfl) (oN (aQ 4 ?_))))))))
     obtain rfl:=sI h
     exact eN ⟨_,A32,c33,(s20.2.length + 1),(dT rfl rfl),rfl,(kp4 (kp rfl))⟩
   ·clear h; rcases iOs hb27 with ⟨hp25,h⟩ | ⟨hp25,h⟩
    ·refine qY (sT rfl rfl rfl rfl hp25) (yFA co rfl) (qY (sT rfl rfl rfl rfl hp25) (yL 4 aV rfl rfl rfl) (qY (sT rfl rfl rfl rfl hp25) (yMS rfl) (qY (sT rfl rfl rfl rfl hp25) (yMI rfl) (qY (sT rfl rfl rfl rfl hp25) (dV rfl rfl) ?_))))
     obtain ⟨hg35,h⟩:=gOs h
     refine qY (sT rfl rfl rfl rfl hp25) (yI fc (by decide) hg35.1 hg35.2 (RdL.row 3 rfl) (eL ab rfl) rfl rfl) ?_
     refine qY (sT rfl rfl rfl rfl hp25) (yFR (A:=A3_s20) (j:=(Int.toNat (w64 ((s20.2.length:Int) - 1)) * 2)) bL rfl) (qY (sT rfl rfl rfl rfl hp25) (yR (A:=A3_s20) (j:=((Int.toNat (w64 ((s20.2.length:Int) - 1)) * 2) + 1)) (v:=vI ((rdL s20.2 (w64 ((s20.2.length:Int) - 1))).fHi)) aV (RdL.row 3 rfl) rfl (eG ab hg35.1 (av hg35.2 rfl) rfl)) (qY (sT rfl rfl rfl rfl hp25) (aX rfl rfl) (qY (sT rfl rfl rfl rfl hp25) (jX rfl rfl) (qY rfl (ae (vB hp25) rfl) ?_))))
     obtain rfl:=sI h
     exact key _ _ (kp4 (kp4 (kp rfl)))
    ·refine am (sF rfl rfl rfl rfl hp25) (am (sF rfl rfl rfl rfl hp25) (am (sF rfl rfl rfl rfl hp25) (am (sF rfl rfl rfl rfl hp25) (am (sF rfl rfl rfl rfl hp25) (am (sF rfl rfl rfl rfl hp25) (am (sF rfl rfl rfl rfl hp25) (am (sF rfl rfl rfl rfl hp25) (am (sF rfl rfl rfl rfl hp25) (am (sF rfl rfl rfl rfl hp25) (qY rfl (ag (vB hp25) rfl) ?_))))))))))
     obtain rfl:=sI h
     exact key _ _ (kp4 (kp4 (kp rfl)))
  ·refine cF (vB hp22) (aH (ah ?_))
   obtain rfl:=sI h
   exact ax ⟨rfl,_,A3_s20,c3_s20,s20.2.length,rfl,rfl,(kp4 (kp rfl))⟩
 ·intro e L tm hJ
  obtain ⟨rfl,tm0_u21,A3_u21,c3_u21,n3_u21,rfl,rfl,rfl⟩:=hJ
  refine ⟨(by intro hc; cases hc),?_⟩
  refine ac (eT (cS (cR (oY rfl (yMS rfl) (oY rfl (yAS rfl) (oN (eT (al ?_))))))))
  obtain rfl:=sI h
  exact ap (.inl rfl) rfl (rVt (v:=.slice A3_u21 u21.2.length c3_u21) rfl) (fun W2 hW2 => ⟨(A3_u21,u21.2.length,c3_u21),rfl,rfl,(hW2.pick 3 rfl)⟩)
theorem pK (p0:TR) (p1:Int) (p2:TSpan) (res:(TR × Int)) (h:gU p0 p1 p2 = some res) (W:World) (Ab:Option Addr) (n0_1 cb : Nat) (ys0_1:List (Hd × TT)) (hn0_1:n0_1 = p0.fT.length) (hr0_1:Rd W Ab n0_1 cb (encL TTrack_cells2 ys0_1)) (hN0_1:NestW W (fun z : TT => z.fK) TSpan_cells ys0_1 p0.fT) (wb:World) (Hb:World → Prop) (hB:∀ W3,Below W.heap.size W W3 → Below wb.heap.size wb W3 ∧ Hb W3) (hp0_1:PvL (fun z : TT => z.fK) TSpan_cells wb Hb ys0_1) :
  Calls Tryz.prog 8 [.agg #[vI p0.fL,.slice Ab n0_1 cb],vI p1,.agg #[vI p2.fLo,vI p2.fHi]].toArray W fun e W2 => ∃ x : ((Option Addr × Nat × Nat) × (List (Hd × TT)) × Res),(x.1.2.1 = res.1.fT.length ∧ NestP (fun z : TT => z.fK) x.2.1 res.1.fT ∧ PvL (fun z : TT => z.fK) TSpan_cells wb (fun W4 => Hb W4 ∧ Res.holds x.2.2 W4) x.2.1) ∧ e = .returned (.tuple #[.agg #[vI res.1.fL,.slice x.1.1 x.1.2.1 x.1.2.2],vI res.2]) ∧ Ext W W2 [aI x.1.1 x.1.2.2 39 6 x.1.2.1 (encL TTrack_cells2 x.2.1),x.2.2]:=by
 subst hn0_1
 unfold gU at h
 refine ad (m:=90) Tryz.func8 rfl rfl (nB rfl) (cS (cR ?_))
 refine aO [vI p0.fL,.slice Ab p0.fT.length cb] rfl rfl rfl (fun b1 => ?_)
 refine aO [vI p2.fLo,vI p2.fHi] rfl rfl rfl (fun b2 => ?_)
 refine aB kQ rfl (fun b3 => ?_)
 refine oY rfl (yAI rfl) (oN (eT (cS (cS (cR (oY rfl (yN 0 [vI p0.fL,.slice Ab p0.fT.length cb] dl rfl rfl rfl) ?_))))))
 obtain ⟨y4,hy5,h⟩:=bOs h
 refine oY rfl (yC [.agg #[vI p0.fL,.slice Ab p0.fT.length cb]] go_14 rfl (fun W2 hW2 => i5 p0 y4 hy5 W2 Ab p0.fT.length cb ys0_1 rfl ((RdL.arg hr0_1) W2 hW2) (NestL.at (NestL.arg hN0_1) W2 hW2)) rfl) (oY rfl (yAI rfl) (oN (eT (cS (cR (oY rfl (yMI rfl) (oY rfl (db rfl rfl) (oN (eT ?_)))))))))
 rcases iOs h with ⟨hp6,h⟩ | ⟨hp6,h⟩
 ·refine cT (vB hp6) (cS (cR ?_))
  refine oY rfl (aL [vI 0,.slice none 0 0] [(0,1),(1,1)] me kQ (by kernel_rfl)) ?_
  refine oY rfl (yMI rfl) (bT rfl (yS 2 [vI 0,.slice none 0 0] nu rfl (nB rfl) rfl rfl rfl) (oY rfl (yAI rfl) (oN (eT (al (aa ?_))))))
  obtain rfl:=sI h
  exact bp (.inl rfl) rfl (bf 2 [vI 0,.slice none 0 0] dl rfl rfl rfl) (rVt (v:=vI y4) rfl) (fun W2 hW2 => ⟨((none,0,0),[],noR),⟨rfl,NestP.nil,PvL.nil⟩,rfl,(hW2.nilrow 39 6).addNo.pickL [3,4] (by decide) rfl⟩)
 ·refine cF (vB hp6) (cK (eT (cS (cR (oY rfl (yN 0 [vI p0.fL,.slice Ab p0.fT.length cb] dl rfl rfl rfl) (oY rfl (yMI rfl) ?_))))))
  obtain ⟨y7,hy8,h⟩:=bOs h
  refine oY rfl (yC [.agg #[vI p0.fL,.slice Ab p0.fT.length cb],vI p1] go_31 rfl (fun W2 hW2 => k5 p0 p1 y7 hy8 W2 Ab p0.fT.length cb ys0_1 rfl ((RdL.arg hr0_1) W2 hW2) (NestL.at (NestL.arg hN0_1) W2 hW2)) rfl) (oY rfl (yAI rfl) (oN (eT (cS (cS (cR (oY rfl (yMI rfl) (oY rfl (bm rfl rfl) (oN (eT ?_))))))))))
  rcases iOs h with ⟨hp9,h⟩ | ⟨hp9,h⟩
  ·refine cT (vB hp9) (cS (cR ?_))
   refine oY rfl (aL [vI 0,.slice none 0 0] [(0,1),(1,1)] me kQ (by kernel_rfl)) ?_
   refine bT rfl (yS 2 [vI 0,.slice none 0 0] nu rfl (nB rfl) rfl rfl rfl) (oY rfl (yAI rfl) (oN (eT (al (aa ?_)))))
   obtain rfl:=sI h
   exact bp (.inl rfl) rfl (bf 2 [vI 0,.slice none 0 0] dl rfl rfl rfl) (rVt (v:=vI 5) rfl) (fun W2 hW2 => ⟨((none,0,0),[],noR),⟨rfl,NestP.nil,PvL.nil⟩,rfl,(hW2.nilrow 39 6).addNo.pickL [3,4] (by decide) rfl⟩)
  ·refine cF (vB hp9) (cK (eT (cS (cS (cR (oY rfl (yFA co rfl) (oY rfl (yL 1 aV rfl rfl rfl) (oY rfl (yFA bL rfl) (oY rfl (yL 1 aV rfl rfl rfl) (oY rfl (eI rfl rfl) (oY rfl (yMB rfl) ?_)))))))))))
   obtain ⟨b11,hb12,h⟩:=bOs h
   refine oJ 5 (fun tm0 => (upd (upd (upd (upd (upd (upd tm0 3 (.pointer (some ⟨b1,0,none⟩))) 5 (.pointer (some ⟨b2,0,none⟩))) 6 (.pointer (some ⟨b3,0,none⟩))) 7 (vI 0)) 9 (vI y7)) 34 (.bool b11))) (fun tm0 => ?_) (fun key => ?_)
   ·refine oY rfl (yMB rfl) ?_
    obtain ⟨b14,hb15,h⟩:=bOs h
    refine oJ 5 (fun tm0 => (upd (upd (upd (upd (upd (upd tm0 3 (.pointer (some ⟨b1,0,none⟩))) 5 (.pointer (some ⟨b2,0,none⟩))) 6 (.pointer (some ⟨b3,0,none⟩))) 7 (vI 0)) 9 (vI y7)) 40 (.bool b14))) (fun tm0 => ?_) (fun key => ?_)
    ·refine oN (eT ?_)
     rcases iOs h with ⟨hp16,h⟩ | ⟨hp16,h⟩
     ·refine cT (vB hp16) (cS (cR ?_))
      refine oY rfl (aL [vI 0,.slice none 0 0] [(0,1),(1,1)] me kQ (by kernel_rfl)) ?_
      refine bT rfl (yS 2 [vI 0,.slice none 0 0] nu rfl (nB rfl) rfl rfl rfl) (oY rfl (yAI rfl) (oN (eT (al (aa ?_)))))
      obtain rfl:=sI h
      exact bp (.inl rfl) rfl (bf 2 [vI 0,.slice none 0 0] dl rfl rfl rfl) (rVt (v:=vI 1) rfl) (fun W2 hW2 => ⟨((none,0,0),[],noR),⟨rfl,NestP.nil,PvL.nil⟩,rfl,(hW2.nilrow 39 6).addNo.pickL [3,4] (by decide) rfl⟩)
     ·refine cF (vB hp16) (cK (eT (cS ?_)))
      obtain ⟨y18,hy19,h⟩:=bOs h
      have hPc_y18:=dZ hy19 hN0_1.p
      refine dJ [[],[0],[],[2],[2,3],[0,1,2,3,4],[],[0,1,2,3,4,5,6]] [(none,0,[true,true,true]),(none,0,[true,true,true]),(none,0,[true,true,true]),(none,0,[true,true,true]),(none,1,[true,true,true]),(none,0,[true,true,true,true]),(none,1,[true,true,true,false]),(some 4,0,[true,true,true,true,true])] [⟨fun _ => .pointer (some ⟨b1,0 + 0,none⟩),fun _ => noR,fun _ => []⟩,⟨fun _ => vI p0.fL,fun _ => noR,fun _ => []⟩,⟨fun _ => .pointer (some ⟨b1,0 + 1,none⟩),fun _ => noR,fun _ => []⟩,⟨fun _ => .slice Ab p0.fT.length cb,fun _ => noR,fun _ => []⟩,⟨fun ξ17 => .slice (ξ17 4 0).1 y18.length (ξ17 4 0).2.2.1,fun _ => noR,fun ξ17 => [aI (ξ17 4 0).1 (ξ17 4 0).2.2.1 39 6 y18.length (encL TTrack_cells2 ys0_1)]⟩,⟨fun ξ17 => .agg #[vI p0.fL,.slice (ξ17 4 0).1 y18.length (ξ17 4 0).2.2.1],fun _ => noR,fun _ => []⟩,⟨fun ξ17 => .pointer (some ⟨(ξ17 6 0).2.1,0,none⟩),fun _ => noR,fun ξ17 => [aj (ξ17 6 0).2.1 24 [vI 0,.slice none 0 0]]⟩,⟨fun _ => undef,fun ξ17 => aj (ξ17 6 0).2.1 24 [vI p0.fL,.slice (ξ17 4 0).1 y18.length (ξ17 4 0).2.2.1],fun _ => []⟩] 3 cm (by kernel_rfl) (by kernel_rfl) ⟨⟨fun ξ17 ξ17' h => ⟨rfl,rfl,rfl⟩,fun _ => rfl⟩,⟨fun ξ17 ξ17' h => ⟨rfl,rfl,rfl⟩,fun _ => rfl⟩,⟨fun ξ17 ξ17' h => ⟨rfl,rfl,rfl⟩,fun _ => rfl⟩,⟨fun ξ17 ξ17' h => ⟨rfl,rfl,rfl⟩,fun _ => rfl⟩,⟨fun ξ17 ξ17' h => ⟨by simp only [h 4 (.inl rfl)],rfl,by simp only [h 4 (.inl rfl)]⟩,fun _ => rfl⟩,⟨fun ξ17 ξ17' h => ⟨by simp only [h 4 (.inr rfl)],rfl,rfl⟩,fun _ => rfl⟩,⟨fun ξ17 ξ17' h => ⟨by simp only [h 6 (.inl rfl)],rfl,by simp only [h 6 (.inl rfl)]⟩,fun _ => rfl⟩,⟨fun ξ17 ξ17' h => ⟨rfl,by simp only [h 4 (.inr rfl),h 6 (.inr rfl)],rfl⟩,fun _ => rfl⟩,trivial⟩ rfl (fun ξ17 => ?_)
      refine bJ rfl (fun L2 => ?_) ?_
      ·dsimp only [aC,lca,lna]
       refine oY rfl (yFA eE rfl) (oN ?_)
       exact ar (fun _ => (none,0,0,[],noR)) rfl (List.append_nil _)
      dsimp only [bw,lsz,lss,lna,lca,List.append_nil]
      refine bJ rfl (fun L2 => ?_) ?_
      ·dsimp only [aC,lca,lna]
       refine oY rfl (yL 0 aV rfl rfl rfl) (oN ?_)
       exact ar (fun _ => (none,0,0,[],noR)) rfl (List.append_nil _)
      dsimp only [bw,lsz,lss,lna,lca,List.append_nil]
      refine bJ rfl (fun L2 => ?_) ?_
      ·dsimp only [aC,lca,lna]
       refine oY rfl (yFA bu rfl) (oN ?_)
       exact ar (fun _ => (none,0,0,[],noR)) rfl (List.append_nil _)
      dsimp only [bw,lsz,lss,lna,lca,List.append_nil]
      refine bJ rfl (fun L2 => ?_) ?_
      ·dsimp only [aC,lca,lna]
       refine oY rfl (yL 0 ee rfl rfl rfl) (oN ?_)
       exact ar (fun _ => (none,0,0,[],noR)) rfl (List.append_nil _)
      dsimp only [bw,lsz,lss,lna,lca,List.append_nil]
      refine bJ rfl (fun L2 => ?_) ?_
      ·dsimp only [aC,lca,lna]
       refine oC [.slice Ab p0.fT.length cb] _ _ _ rfl go_33 rfl (fun W2 hW2 => d5 p0.fT y18 hy19 W2 Ab p0.fT.length cb ys0_1 rfl ((RdL.arg hr0_1) W2 hW2) (NestL.at (NestL.arg hN0_1) W2 hW2)) ?_
       rintro ⟨A22,n24,c23⟩ ⟨hn25,hP26⟩
       replace hn25 : n24 = y18.length:=hn25; subst hn25
       refine oN ?_
       exact ar (fun _ => (A22,0,c23,[],noR)) rfl rfl
      dsimp only [bw,lsz,lss,lna,lca,List.append_nil]
      refine bJ rfl (fun L2 => ?_) ?_
      ·dsimp only [aC,lca,lna]
       refine oY rfl (aL [vI p0.fL,.slice (ξ17 4 0).1 y18.length (ξ17 4 0).2.2.1] [(0,1),(1,1)] me kQ (by kernel_rfl)) ?_
       refine oN ?_
       exact ar (fun _ => (none,0,0,[],noR)) rfl (List.append_nil _)
      dsimp only [bw,lsz,lss,lna,lca,List.append_nil]
      refine bJ rfl (fun L2 => ?_) ?_
      ·dsimp only [aC,lca,lna]
       refine aB kQ rfl (fun b27 => ?_)
       refine oN ?_
       exact ar (fun _ => (none,b27,0,[],noR)) rfl rfl
      dsimp only [bw,lsz,lss,lna,lca,List.append_nil]
      refine qI rfl (fun L2 => ?_) ?_
      ·dsimp only [aC,lca,lna]
       refine bT rfl (yS 4 [vI p0.fL,.slice (ξ17 4 0).1 y18.length (ξ17 4 0).2.2.1] nu rfl (nB rfl) rfl rfl rfl) (oN ?_)
       first | exact bA (fun _ => (none,0,0,[],noR)) rfl | exact bA (fun _ => (none,0,0,[],noR)) (List.append_nil _)
      dsimp only [bw,lsz,lss,lna,lca,List.append_nil]
      refine jm (eT (cS (cS (cR (oY rfl (yFA bu rfl) (oY rfl (yL 4 ee rfl rfl rfl) (oY rfl (bd (us:=[]) fq rfl) (oY rfl (yMI rfl) (oN (eT (cB ?_)))))))))))
      obtain ⟨u31,hl41,h⟩:=bOs h
      refine kc ?_
      refine bc (fun (s:(Int × (List TT))) L tm => ∃ (tm0:Nat → Value) (ys3_s:List (Hd × TT)) (F3_s:Res),y18.length = s.2.length ∧ NestP (fun z : TT => z.fK) ys3_s s.2 ∧ PvL (fun z : TT => z.fK) TSpan_cells wb (fun W4 => Hb W4 ∧ Res.holds F3_s W4) ys3_s ∧ L = [aj b1 24 [vI p0.fL,.slice Ab p0.fT.length cb],aj b2 26 [vI p2.fLo,vI p2.fHi],aj b3 24 [vI 0,.slice none 0 0],aI (ξ17 4 0).1 (ξ17 4 0).2.2.1 39 6 y18.length (encL TTrack_cells2 ys3_s),aj (ξ17 6 0).2.1 24 [vI p0.fL,.slice (ξ17 4 0).1 y18.length (ξ17 4 0).2.2.1],F3_s] ∧ tm = (upd (upd (upd (upd (upd (upd (upd tm0 5 (.pointer (some ⟨b2,0,none⟩))) 6 (.pointer (some ⟨b3,0,none⟩))) 7 (vI 0)) 9 (vI y7)) 10 (.pointer (some ⟨(ξ17 6 0).2.1,0,none⟩))) 50 (vI (y18.length:Int))) 51 (vI s.1))) 0 hl41 ⟨_,ys0_1,noR,rfl,hPc_y18,(PvL.mono (Hb:=Hb) hp0_1 (fun _ _ h => h.1)),rfl,(kp4 (kp (kp (kp rfl))))⟩ ?_ ?_
      ·rintro s30 L tm st ⟨tm0_s30,ys3_s30,F3_s30,hn3_s30,hP3_s30,hV3_s30,rfl,rfl⟩ h
       unfold fg at h
       refine cS (cR ?_)
       try dsimp only [lna,lca,lsz,lss]
       refine oY rfl (bm rfl rfl) (oN (eT (cS ?_)))
       rcases iOs h with ⟨hp32,h⟩ | ⟨hp32,h⟩
       ·refine cT (vB hp32) (cK (eT (cS (cB (cS (cR (oY rfl (yMI rfl) (oY rfl (yAI rfl) (oN (eT ?_))))))))))
        obtain ⟨hg33,h⟩:=gOs h
        obtain ⟨y34,hy35,h⟩:=bOs h
        refine nr 9 10 (fun v L1 => ∃ x : (Option Addr × Nat × Nat),x.2.1 = y34.length ∧ v = .slice x.1 x.2.1 x.2.2 ∧ L1 = [aI x.1 x.2.2 26 2 x.2.1 (encL TSpan_cells y34)]) cm (by kernel_rfl) (by kernel_rfl) (by kernel_rfl) ?_
        refine nW rfl (fun _ => yFA bu rfl) (nW rfl (fun _ => yL 4 (v:=.slice (ξ17 4 0).1 y18.length (ξ17 4 0).2.2.1) ee rfl rfl rfl) (nW rfl (fun _ => yMI rfl) (nW rfl (fun _ => yFA bu rfl) (nW rfl (fun _ => yL 4 (v:=.slice (ξ17 4 0).1 y18.length (ξ17 4 0).2.2.1) ee rfl rfl rfl) (nW rfl (fun _ => yMI rfl) ?_)))))
        refine nW rfl (fun _ => yI im (by decide) hg33.1 hg33.2 (RdL.row 3 rfl) (eL ak (NestP.hn hP3_s30 hn3_s30)) rfl rfl) ?_
        refine nW rfl (fun _ => yFR (A:=(ξ17 4 0).1) (j:=(Int.toNat s30.1 * 6)) cg rfl) (nW rfl (fun _ => yR (A:=(ξ17 4 0).1) (j:=((Int.toNat s30.1 * 6) + 5)) (v:=.slice ((rdL ys3_s30 s30.1).1.1) ((rdL s30.2 s30.1).fK.length) ((rdL ys3_s30 s30.1).1.2.2)) io (RdL.row 3 rfl) rfl (eG ak hg33.1 (av hg33.2 (NestP.hn hP3_s30 hn3_s30)) (congrArg (fun n : Nat => some (Value.slice (rdL ys3_s30 s30.1).1.1 n (rdL ys3_s30 s30.1).1.2.2)) (NestP.len hP3_s30 hg33.1 (av hg33.2 hn3_s30))))) (bx_q rfl (oC [.slice ((rdL ys3_s30 s30.1).1.1) ((rdL s30.2 s30.1).fK.length) ((rdL ys3_s30 s30.1).1.2.2)] _ _ _ rfl go_34 rfl (fun W2 hW2 => eM ((rdL s30.2 s30.1).fK) y34 hy35 W2 ((rdL ys3_s30 s30.1).1.1) ((rdL s30.2 s30.1).fK.length) ((rdL ys3_s30 s30.1).1.2.2) rfl ((NestL.rd (PvL.nestL hP3_s30 hV3_s30 (fun W2 hW2 => ⟨(hB W2 hW2.below).1,(hB W2 hW2.below).2,hW2.mem (i:=5) rfl⟩)) hg33.1 (av hg33.2 hn3_s30)) W2 hW2)) (fun x hx => oN (sk ⟨x,hx,rfl,rfl⟩))) (rY rfl ?_)))
        rintro v L1 ⟨⟨A36,n38,c37⟩,hn39,rfl,rfl⟩
        replace hn39 : n38 = y34.length:=hn39; subst hn39
        try dsimp only [lna,lca,lsz,lss]
        obtain ⟨hg40,h⟩:=gOs h
        refine oY rfl (yI im (by decide) hg40.1 hg40.2 (RdL.row 3 rfl) (eL ak (NestP.hn hP3_s30 hn3_s30)) rfl rfl) ?_
        refine oY rfl (yFR (A:=(ξ17 4 0).1) (j:=(Int.toNat s30.1 * 6)) cg rfl) ?_
        refine gb 5 6 (by decide) rfl rfl ?_
        refine bT rfl (lC 3 (xs:=ys3_s30) ak ((A36,y34.length,c37),(TT.mk ((rdL ys3_s30 s30.1).2.fID) ((rdL ys3_s30 s30.1).2.fFrom) ((rdL ys3_s30 s30.1).2.fTo) ((rdL ys3_s30 s30.1).2.fLong) ((rdL ys3_s30 s30.1).2.fToll) y34)) 5 (by decide) sz_37 rfl hg40.1 (av hg40.2 (NestP.hn hP3_s30 hn3_s30)) rfl rfl rfl rfl) ?_
        refine oN (lR (aw (eT (cR (oY rfl (aX rfl rfl) (oY rfl (yMI rfl) (oN (aQ 6 ?_))))))))
        obtain rfl:=sI h
        exact eN ⟨_,(ys3_s30.set (Int.toNat s30.1) ((A36,y34.length,c37),(TT.mk ((rdL ys3_s30 s30.1).2.fID) ((rdL ys3_s30 s30.1).2.fFrom) ((rdL ys3_s30 s30.1).2.fTo) ((rdL ys3_s30 s30.1).2.fLong) ((rdL ys3_s30 s30.1).2.fToll) y34))),m4 F3_s30 (aI A36 c37 26 2 y34.length (encL TSpan_cells y34)),(cU hn3_s30),(NestP.set _ hP3_s30 rfl (congrArg (fun z : TT => (TT.mk z.fID z.fFrom z.fTo z.fLong z.fToll y34)) (NestP.snd hP3_s30 s30.1))),(PvL.set _ (PvL.mono (Hb:=(fun W4 => Hb W4 ∧ Res.holds F3_s30 W4)) hV3_s30 (fun _ _ h => ⟨h.1,h.2.1⟩)) (fun _ _ h => dt h.2.2.1)),rfl,(kp4 (kp (kp (kp rfl))))⟩
       ·refine cF (vB hp32) (aH (ah ?_))
        obtain rfl:=sI h
        exact ax ⟨rfl,_,ys3_s30,F3_s30,hn3_s30,hP3_s30,hV3_s30,rfl,(kp4 (kp (kp (kp rfl))))⟩
      ·intro e L tm hJ
       obtain ⟨rfl,tm0_u31,ys3_u31,F3_u31,hn3_u31,hP3_u31,hV3_u31,rfl,rfl⟩:=hJ
       refine ⟨(by intro hc; cases hc),?_⟩
       refine ac (eT (cS ?_))
       obtain ⟨hg42,h⟩:=gOs h
       obtain ⟨y43,hy44,h⟩:=bOs h
       refine nr 10 11 (fun v L1 => ∃ x : (Option Addr × Nat × Nat),x.2.1 = y43.length ∧ v = .slice x.1 x.2.1 x.2.2 ∧ L1 = [aI x.1 x.2.2 26 2 x.2.1 (encL TSpan_cells y43)]) cm (by kernel_rfl) (by kernel_rfl) (by kernel_rfl) ?_
       refine nW rfl (fun _ => yFA bu rfl) (nW rfl (fun _ => yL 4 (v:=.slice (ξ17 4 0).1 y18.length (ξ17 4 0).2.2.1) ee rfl rfl rfl) (nW rfl (fun _ => yMI rfl) (nW rfl (fun _ => yFA bu rfl) (nW rfl (fun _ => yL 4 (v:=.slice (ξ17 4 0).1 y18.length (ξ17 4 0).2.2.1) ee rfl rfl rfl) (nW rfl (fun _ => yMI rfl) ?_)))))
       refine nW rfl (fun _ => yI im (by decide) hg42.1 hg42.2 (RdL.row 3 rfl) (eL ak (NestP.hn hP3_u31 hn3_u31)) rfl rfl) ?_
       refine nW rfl (fun _ => yFR (A:=(ξ17 4 0).1) (j:=(Int.toNat y7 * 6)) cg rfl) (nW rfl (fun _ => yR (A:=(ξ17 4 0).1) (j:=((Int.toNat y7 * 6) + 5)) (v:=.slice ((rdL ys3_u31 y7).1.1) ((rdL u31.2 y7).fK.length) ((rdL ys3_u31 y7).1.2.2)) io (RdL.row 3 rfl) rfl (eG ak hg42.1 (av hg42.2 (NestP.hn hP3_u31 hn3_u31)) (congrArg (fun n : Nat => some (Value.slice (rdL ys3_u31 y7).1.1 n (rdL ys3_u31 y7).1.2.2)) (NestP.len hP3_u31 hg42.1 (av hg42.2 hn3_u31))))) (nW rfl (fun _ => yN 1 [vI p2.fLo,vI p2.fHi] jv rfl rfl rfl) (bx_q rfl (oC [.slice ((rdL ys3_u31 y7).1.1) ((rdL u31.2 y7).fK.length) ((rdL ys3_u31 y7).1.2.2),.agg #[vI p2.fLo,vI p2.fHi]] _ _ _ rfl go_35 rfl (fun W2 hW2 => nH ((rdL u31.2 y7).fK) p2 y43 hy44 W2 ((rdL ys3_u31 y7).1.1) ((rdL u31.2 y7).fK.length) ((rdL ys3_u31 y7).1.2.2) rfl ((NestL.rd (PvL.nestL hP3_u31 hV3_u31 (fun W2 hW2 => ⟨(hB W2 hW2.below).1,(hB W2 hW2.below).2,hW2.mem (i:=5) rfl⟩)) hg42.1 (av hg42.2 hn3_u31)) W2 hW2)) (fun x hx => oN (sk ⟨x,hx,rfl,rfl⟩))) (rY rfl ?_))))
       rintro v L1 ⟨⟨A45,n47,c46⟩,hn48,rfl,rfl⟩
       replace hn48 : n47 = y43.length:=hn48; subst hn48
       try dsimp only [lna,lca,lsz,lss]
       obtain ⟨hg49,h⟩:=gOs h
       refine oY rfl (yI im (by decide) hg49.1 hg49.2 (RdL.row 3 rfl) (eL ak (NestP.hn hP3_u31 hn3_u31)) rfl rfl) ?_
       refine oY rfl (yFR (A:=(ξ17 4 0).1) (j:=(Int.toNat y7 * 6)) cg rfl) ?_
       refine gb 5 6 (by decide) rfl rfl ?_
       refine bT rfl (lC 3 (xs:=ys3_u31) ak ((A45,y43.length,c46),(TT.mk ((rdL ys3_u31 y7).2.fID) ((rdL ys3_u31 y7).2.fFrom) ((rdL ys3_u31 y7).2.fTo) ((rdL ys3_u31 y7).2.fLong) ((rdL ys3_u31 y7).2.fToll) y43)) 5 (by decide) sz_37 rfl hg49.1 (av hg49.2 (NestP.hn hP3_u31 hn3_u31)) rfl rfl rfl rfl) ?_
       refine oN (lR (eT (cS (cS (cR (oY rfl (yFA bu rfl) (oY rfl (yL 4 ee rfl rfl rfl) (oY rfl (yMI rfl) ?_))))))))
       obtain ⟨hg50,h⟩:=gOs h
       refine oY rfl (yI im (by decide) hg50.1 hg50.2 (RdL.row 3 rfl) (eL ak (NestP.hn (NestP.set _ hP3_u31 rfl (congrArg (fun z : TT => (TT.mk z.fID z.fFrom z.fTo z.fLong z.fToll y43)) (NestP.snd hP3_u31 y7))) (cU hn3_u31))) rfl rfl) ?_
       refine oY rfl (yFR (A:=(ξ17 4 0).1) (j:=(Int.toNat y7 * 6)) cg rfl) (oY rfl (yR (A:=(ξ17 4 0).1) (j:=((Int.toNat y7 * 6) + 5)) (v:=.slice ((rdL (ys3_u31.set (Int.toNat y7) ((A45,y43.length,c46),(TT.mk ((rdL ys3_u31 y7).2.fID) ((rdL ys3_u31 y7).2.fFrom) ((rdL ys3_u31 y7).2.fTo) ((rdL ys3_u31 y7).2.fLong) ((rdL ys3_u31 y7).2.fToll) y43))) y7).1.1) ((rdL (u31.2.set (Int.toNat y7) (TT.mk ((rdL u31.2 y7).fID) ((rdL u31.2 y7).fFrom) ((rdL u31.2 y7).fTo) ((rdL u31.2 y7).fLong) ((rdL u31.2 y7).fToll) y43)) y7).fK.length) ((rdL (ys3_u31.set (Int.toNat y7) ((A45,y43.length,c46),(TT.mk ((rdL ys3_u31 y7).2.fID) ((rdL ys3_u31 y7).2.fFrom) ((rdL ys3_u31 y7).2.fTo) ((rdL ys3_u31 y7).2.fLong) ((rdL ys3_u31 y7).2.fToll) y43))) y7).1.2.2)) io (RdL.row 3 rfl) rfl (eG ak hg50.1 (av hg50.2 (NestP.hn (NestP.set _ hP3_u31 rfl (congrArg (fun z : TT => (TT.mk z.fID z.fFrom z.fTo z.fLong z.fToll y43)) (NestP.snd hP3_u31 y7))) (cU hn3_u31))) (congrArg (fun n : Nat => some (Value.slice (rdL (ys3_u31.set (Int.toNat y7) ((A45,y43.length,c46),(TT.mk ((rdL ys3_u31 y7).2.fID) ((rdL ys3_u31 y7).2.fFrom) ((rdL ys3_u31 y7).2.fTo) ((rdL ys3_u31 y7).2.fLong) ((rdL ys3_u31 y7).2.fToll) y43))) y7).1.1 n (rdL (ys3_u31.set (Int.toNat y7) ((A45,y43.length,c46),(TT.mk ((rdL ys3_u31 y7).2.fID) ((rdL ys3_u31 y7).2.fFrom) ((rdL ys3_u31 y7).2.fTo) ((rdL ys3_u31 y7).2.fLong) ((rdL ys3_u31 y7).2.fToll) y43))) y7).1.2.2)) (NestP.len (NestP.set _ hP3_u31 rfl (congrArg (fun z : TT => (TT.mk z.fID z.fFrom z.fTo z.fLong z.fToll y43)) (NestP.snd hP3_u31 y7))) hg50.1 (av hg50.2 (cU hn3_u31)))))) (oY rfl (bd (us:=[]) eg rfl) (oY rfl (eI rfl rfl) (oN (eT ?_)))))
       rcases iOs h with ⟨hp51,h⟩ | ⟨hp51,h⟩
       ·refine cT (vB hp51) (cS (cR ?_))
        refine oY rfl (aL [vI 0,.slice none 0 0] [(0,1),(1,1)] me kQ (by kernel_rfl)) ?_
        refine bT rfl (yS 2 [vI 0,.slice none 0 0] nu rfl (nB rfl) rfl rfl rfl) (oY rfl (yAI rfl) (oN (eT (al (aa ?_)))))
        obtain rfl:=sI h
        exact bp (.inl rfl) rfl (bf 2 [vI 0,.slice none 0 0] dl rfl rfl rfl) (rVt (v:=vI 2) rfl) (fun W2 hW2 => ⟨((none,0,0),[],noR),⟨rfl,NestP.nil,PvL.nil⟩,rfl,(hW2.nilrow 39 6).addNo.pickL [7,8] (by decide) rfl⟩)
       ·refine cF (vB hp51) (cK (eT (cS (cR (oY rfl (yN 4 [vI p0.fL,.slice (ξ17 4 0).1 y18.length (ξ17 4 0).2.2.1] dl rfl rfl rfl) (bT rfl (yS 2 [vI p0.fL,.slice (ξ17 4 0).1 y18.length (ξ17 4 0).2.2.1] nu rfl (nB rfl) rfl rfl rfl) (oY rfl (yAI rfl) (oN (eT (al ?_))))))))))
        obtain rfl:=sI h
        exact bp (.inl rfl) rfl (bf 2 [vI p0.fL,.slice (ξ17 4 0).1 y18.length (ξ17 4 0).2.2.1] dl rfl rfl rfl) (rVt (v:=vI 0) rfl) (fun W2 hW2 => ⟨(((ξ17 4 0).1,y18.length,(ξ17 4 0).2.2.1),(ys3_u31.set (Int.toNat y7) ((A45,y43.length,c46),(TT.mk ((rdL ys3_u31 y7).2.fID) ((rdL ys3_u31 y7).2.fFrom) ((rdL ys3_u31 y7).2.fTo) ((rdL ys3_u31 y7).2.fLong) ((rdL ys3_u31 y7).2.fToll) y43))),m4 F3_u31 (aI A45 c46 26 2 y43.length (encL TSpan_cells y43))),⟨(cU hn3_u31),(NestP.set _ hP3_u31 rfl (congrArg (fun z : TT => (TT.mk z.fID z.fFrom z.fTo z.fLong z.fToll y43)) (NestP.snd hP3_u31 y7))),(PvL.set _ (PvL.mono (Hb:=(fun W4 => Hb W4 ∧ Res.holds F3_u31 W4)) hV3_u31 (fun _ _ h => ⟨h.1,h.2.1⟩)) (fun _ _ h => dt h.2.2.1))⟩,rfl,hW2.pickL [3,5] (by decide) rfl⟩)
    ·clear h; rcases iOs hb15 with ⟨hp13,h⟩ | ⟨hp13,h⟩
     ·refine oSk (sF rfl rfl rfl rfl hp13) (oSk (sF rfl rfl rfl rfl hp13) (oSk (sF rfl rfl rfl rfl hp13) (oSk (sF rfl rfl rfl rfl hp13) (oY rfl (ae (vB hp13) rfl) ?_))))
      obtain rfl:=sI h
      exact key _ _ (kp4 (kp (kp rfl)))
     ·refine oY (sT rfl rfl rfl rfl hp13) (yFA bL rfl) (oY (sT rfl rfl rfl rfl hp13) (yL 1 aV rfl rfl rfl) ?_)
      obtain ⟨y52,hy53,h⟩:=bOs h
      refine oY (sT rfl rfl rfl rfl hp13) (yC [vI p2.fHi] oM rfl (fun W2 hW2 => cV p2.fHi y52 hy53 W2 ) rfl) (oY (sT rfl rfl rfl rfl hp13) (bM rfl) (oY rfl (ag (vB hp13) rfl) ?_))
      obtain rfl:=sI h
      exact key _ _ (kp4 (kp (kp rfl)))
   ·clear h; rcases iOs hb12 with ⟨hp10,h⟩ | ⟨hp10,h⟩
    ·refine oSk (sF rfl rfl rfl rfl hp10) (oSk (sF rfl rfl rfl rfl hp10) (oSk (sF rfl rfl rfl rfl hp10) (oSk (sF rfl rfl rfl rfl hp10) (oY rfl (ae (vB hp10) rfl) ?_))))
     obtain rfl:=sI h
     exact key _ _ (kp4 (kp (kp rfl)))
    ·refine oY (sT rfl rfl rfl rfl hp10) (yFA co rfl) (oY (sT rfl rfl rfl rfl hp10) (yL 1 aV rfl rfl rfl) ?_)
     obtain ⟨y54,hy55,h⟩:=bOs h
     refine oY (sT rfl rfl rfl rfl hp10) (yC [vI p2.fLo] oM rfl (fun W2 hW2 => cV p2.fLo y54 hy55 W2 ) rfl) (oY (sT rfl rfl rfl rfl hp10) (bM rfl) (oY rfl (ag (vB hp10) rfl) ?_))
     obtain rfl:=sI h
     exact key _ _ (kp4 (kp (kp rfl)))
end Go.Proofs.YthndghnkebboaabGreat
