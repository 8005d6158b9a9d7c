import Derived.Test.YthndghnkebboaaaGreatF
import Derived.Test.YthndghnkebboaaaGreatGF
import Derived.Test.YthndghnkebboaaaGreatGy
import Derived.Test.YthndghnkebboaaaGreatGz
set_option maxHeartbeats 4000000
set_option maxRecDepth 100000
set_option linter.unusedVariables false
namespace Go.Proofs.YthndghnkebboaaaGreat
open Go.RowKit (Below)
attribute [local irreducible] OX QX CX EX OpY Calls CallsIn
theorem be (p0:Int) (p1:Int) (p2:Int) (res:Bool) (h:bk p0 p1 p2 = some res) (W:World)  :
  Calls Tryz.prog 107 [vI p0,vI p1,vI p2].toArray W fun e W2 => e = .returned (.bool res) ∧ Ext W W2 []:=by
 unfold bk at h
 refine ae (m:=15) Tryz.func107 rfl rfl (nB rfl) (cS (cR (oY rfl (yAB rfl) (oN (eT (cS (cR (oY rfl (yMI rfl) (oY rfl (yMI rfl) (oY rfl (jw rfl rfl) (oY rfl (yMB rfl) ?_)))))))))))
 refine oJ 4 (fun tm0 => (upd (upd tm0 6 (.bool false)) 14 (.bool ((decide (p1 ≤ p0)) && (decide (p0 ≤ p2)))))) (fun tm0 => ?_) (fun key => ?_)
 ·refine oY rfl (yAB rfl) (oN (eT (am ?_)))
  obtain rfl:=sI h
  exact al (.inl rfl) rfl (rVt (v:=.bool ((decide (p1 ≤ p0)) && (decide (p0 ≤ p2)))) rfl) (fun W2 hW2 => ⟨rfl,hW2.none⟩)
 ·rcases ao (decide (p1 ≤ p0)) with hp1 | hp1
  ·refine oY (sT rfl rfl rfl rfl hp1) (yMI rfl) (oY (sT rfl rfl rfl rfl hp1) (yMI rfl) (oY (sT rfl rfl rfl rfl hp1) (jw rfl rfl) (oY rfl (ab (vB hp1) rfl) ?_)))
   exact key _ _ (keep (keep rfl rfl) (vB (fc hp1)))
  ·refine oSk (sF rfl rfl rfl rfl hp1) (oSk (sF rfl rfl rfl rfl hp1) (oSk (sF rfl rfl rfl rfl hp1) (oY rfl (ad (vB hp1) rfl) ?_)))
   exact key _ _ (keep (keep rfl rfl) (vB (fa hp1)))
theorem eJ (p0:Int) (res:Bool) (h:ex p0 = some res) (W:World)  :
  Calls Tryz.prog 108 [vI p0].toArray W fun e W2 => e = .returned (.bool res) ∧ Ext W W2 []:=by
 unfold ex at h
 refine ae (m:=5) Tryz.func108 rfl rfl (nB rfl) (cS (cR (oY rfl (yAB rfl) (oN (eT (cS (cR (oY rfl (yMI rfl) ?_))))))))
 obtain ⟨y1,hy2,h⟩:=bOs h
 refine oY rfl (yC [vI p0,vI 0,vI 16384] g9 rfl (fun W2 hW2 => be p0 0 16384 y1 hy2 W2 ) rfl) (oY rfl (yAB rfl) (oN (eT (am ?_))))
 obtain rfl:=sI h
 exact al (.inl rfl) rfl (rVt (v:=.bool y1) rfl) (fun W2 hW2 => ⟨rfl,hW2.none⟩)
theorem ld (p0:(List TSpan)) (res:Bool) (h:gv p0 = some res) (W:World) (Aa:Option Addr) (n0_0 ca : Nat) (hn0_0:n0_0 = p0.length) (hr0_0:Rd W Aa n0_0 ca (encL TSpan_cells p0)) :
  Calls Tryz.prog 122 [.slice Aa n0_0 ca].toArray W fun e W2 => e = .returned (.bool res) ∧ Ext W W2 []:=by
 subst hn0_0
 unfold gv at h
 refine ae (m:=35) Tryz.func122 rfl rfl (nB rfl) (cS (cR (oY rfl (yAB rfl) (oN (eT (cS (cR (oY rfl (yAI rfl) (oN (eT (cS (cS (cR (oY rfl (yMS rfl) (oY rfl (bp (us:=[]) lO rfl) (oY rfl (yMI rfl) (oN (eT (cB ?_)))))))))))))))))))
 obtain ⟨u3,hl10,h⟩:=bOs h
 refine bF (fun (s:(Bool × Int × Int)) L tm => ∃ (tm0:Nat → Value),L = [] ∧ tm = (upd (upd (upd (upd (upd (upd tm0 0 (.slice Aa p0.length ca)) 2 (.bool s.1)) 3 (vI s.2.1)) 6 (.slice Aa p0.length ca)) 7 (vI (p0.length:Int))) 8 (vI s.2.2))) 0 hl10 ⟨_,rfl,(kp4 (kp (kp rfl)))⟩ ?_ ?_
 ·rintro s2 L tm st ⟨tm0_s2,rfl,rfl⟩ h
  unfold fh at h
  refine cS (cR (oY rfl (bj rfl rfl) (oN (eT (cS ?_)))))
  rcases iOs h with ⟨hp4,h⟩ | ⟨hp4,h⟩
  ·refine cT (vB hp4) (cK (eT (cS (cB (cS (cR ?_))))))
   obtain ⟨hg5,h⟩:=gOs h
   refine oY rfl (yI jn (by decide) hg5.1 hg5.2 (RdL.arg hr0_0) (eL aD rfl) rfl rfl) ?_
   refine oY rfl (yM (A:=Aa) (j:=(Int.toNat s2.2.2 * 2)) [vI ((rdL p0 s2.2.2).fLo),vI ((rdL p0 s2.2.2).fHi)] ag_63 (Nat.succ_pos _) (RdL.arg hr0_0) rfl (bl aD hg5.1 (ah hg5.2 rfl))) ?_
   refine aE re rfl (fun b6 => ?_)
   refine cr rfl (yS 0 [vI ((rdL p0 s2.2.2).fLo),vI ((rdL p0 s2.2.2).fHi)] sz_63 rfl (nB rfl) rfl rfl rfl) (oN (eT (cS (cS (cR (oY rfl (yFA f0 rfl) (oY rfl (yL 0 aV rfl rfl rfl) (oY rfl (yMI rfl) (oY rfl (aT rfl rfl) (oY rfl (bj rfl rfl) (oY rfl (yMB rfl) ?_)))))))))))
   refine oJ 6 (fun tm0 => (upd (upd (upd (upd (upd (upd (upd (upd (upd tm0 0 (.slice Aa p0.length ca)) 2 (.bool s2.1)) 3 (vI s2.2.1)) 6 (.slice Aa p0.length ca)) 7 (vI (p0.length:Int))) 8 (vI s2.2.2)) 9 (.bool (decide (s2.2.2 < (p0.length:Int))))) 5 (.pointer (some ⟨b6,0,none⟩))) 23 (.bool ((decide ((rdL p0 s2.2.2).fLo < w64 (s2.2.1 + 2))) || (decide ((rdL p0 s2.2.2).fHi < (rdL p0 s2.2.2).fLo)))))) (fun tm0 => ?_) (fun key => ?_)
   ·refine oY rfl (yMB rfl) ?_
    refine oJ 4 (fun tm0 => (upd (upd (upd (upd (upd (upd (upd (upd (upd tm0 0 (.slice Aa p0.length ca)) 2 (.bool s2.1)) 3 (vI s2.2.1)) 6 (.slice Aa p0.length ca)) 7 (vI (p0.length:Int))) 8 (vI s2.2.2)) 9 (.bool (decide (s2.2.2 < (p0.length:Int))))) 5 (.pointer (some ⟨b6,0,none⟩))) 28 (.bool (((decide ((rdL p0 s2.2.2).fLo < w64 (s2.2.1 + 2))) || (decide ((rdL p0 s2.2.2).fHi < (rdL p0 s2.2.2).fLo))) || (decide (16384 < (rdL p0 s2.2.2).fHi)))))) (fun tm0 => ?_) (fun key => ?_)
    ·refine oN (eT ?_)
     rcases iOs h with ⟨hp9,h⟩ | ⟨hp9,h⟩
     ·refine cT (vB hp9) (cS (cR (oY rfl (yAB rfl) (oN (eT (am (aa (ak (aa (aU 0 ?_))))))))))
      obtain rfl:=sI h
      exact ax ⟨rfl,_,rfl,(kp4 (kp (kp rfl)))⟩
     ·refine cF (vB hp9) (cK (eT (cR (oY rfl (yFA eC rfl) (oY rfl (yL 0 aV rfl rfl rfl) (oY rfl (yAI rfl) (oN (aw (eT (cR (oY rfl (aT rfl rfl) (oY rfl (yMI rfl) (oN (aU 0 ?_))))))))))))))
      obtain rfl:=sI h
      exact eN ⟨_,rfl,(kp4 (kp (kp rfl)))⟩
    ·rcases ao ((decide ((rdL p0 s2.2.2).fLo < w64 (s2.2.1 + 2))) || (decide ((rdL p0 s2.2.2).fHi < (rdL p0 s2.2.2).fLo))) with hp8 | hp8
     ·refine oSk (sF rfl rfl rfl rfl hp8) (oSk (sF rfl rfl rfl rfl hp8) (oSk (sF rfl rfl rfl rfl hp8) (oY rfl (ab (vB hp8) rfl) ?_)))
      exact key _ _ (keep (keep (keep (keep (keep (keep (keep (keep (keep rfl rfl) rfl) rfl) rfl) rfl) rfl) rfl) rfl) (vB (jf hp8)))
     ·refine oY (sT rfl rfl rfl rfl hp8) (yFA eC rfl) (oY (sT rfl rfl rfl rfl hp8) (yL 0 aV rfl rfl rfl) (oY (sT rfl rfl rfl rfl hp8) (gK rfl rfl) (oY rfl (ad (vB hp8) rfl) ?_)))
      exact key _ _ (keep (keep (keep (keep (keep (keep (keep (keep (keep rfl rfl) rfl) rfl) rfl) rfl) rfl) rfl) rfl) (vB (jg hp8)))
   ·rcases ao (decide ((rdL p0 s2.2.2).fLo < w64 (s2.2.1 + 2))) with hp7 | hp7
    ·refine oSk (sF rfl rfl rfl rfl hp7) (oSk (sF rfl rfl rfl rfl hp7) (oSk (sF rfl rfl rfl rfl hp7) (oSk (sF rfl rfl rfl rfl hp7) (oSk (sF rfl rfl rfl rfl hp7) (oY rfl (ab (vB hp7) rfl) ?_)))))
     exact key _ _ (keep (keep (keep (keep (keep (keep (keep (keep (keep rfl rfl) rfl) rfl) rfl) rfl) rfl) rfl) rfl) (vB (jf hp7)))
    ·refine oY (sT rfl rfl rfl rfl hp7) (yFA f0 rfl) (oY (sT rfl rfl rfl rfl hp7) (yL 0 aV rfl rfl rfl) (oY (sT rfl rfl rfl rfl hp7) (yFA eC rfl) (oY (sT rfl rfl rfl rfl hp7) (yL 0 aV rfl rfl rfl) (oY (sT rfl rfl rfl rfl hp7) (gK rfl rfl) (oY rfl (ad (vB hp7) rfl) ?_)))))
     exact key _ _ (keep (keep (keep (keep (keep (keep (keep (keep (keep rfl rfl) rfl) rfl) rfl) rfl) rfl) rfl) rfl) (vB (jg hp7)))
  ·refine cF (vB hp4) (aH (ag ?_))
   obtain rfl:=sI h
   exact ax ⟨rfl,_,rfl,(kp4 (kp (kp rfl)))⟩
 ·intro e L tm hJ
  rcases u3 with u11 | u12
  ·dsimp only at h hJ
   obtain ⟨rfl,tm0_u11,rfl,rfl⟩:=hJ
   refine ⟨(by intro hc; cases hc),?_⟩
   refine ak (aa ?_)
   obtain rfl:=sI h
   exact al (.inl rfl) rfl (rVt (v:=.bool u11.1) rfl) (fun W2 hW2 => ⟨rfl,hW2.none⟩)
  ·dsimp only at h hJ
   obtain ⟨rfl,tm0_u12,rfl,rfl⟩:=hJ
   refine ⟨(by intro hc; cases hc),?_⟩
   refine ac (eT (cS (cR (oY rfl (yMS rfl) (oY rfl (bp (us:=[]) lO rfl) (oY rfl (jw rfl rfl) (oY rfl (yAB rfl) (oN (eT (am ?_))))))))))
   obtain rfl:=sI h
   exact al (.inl rfl) rfl (rVt (v:=.bool (decide ((p0.length:Int) ≤ 4))) rfl) (fun W2 hW2 => ⟨rfl,hW2.none⟩)
theorem gr (p0:(List TT)) (p1:TT → Option Bool) (res:Int) (h:bv p0 p1 = some res) (W:World) (Aa:Option Addr) (n0_0 ca : Nat) (ys0_0:List (Hd × TT)) (hn0_0:n0_0 = p0.length) (hr0_0:Rd W Aa n0_0 ca (encL TTrack_cells2 ys0_0)) (hN0_0:NestW W (fun z : TT => z.fK) TSpan_cells ys0_0 p0) (fid1:Nat) (fst1 caps1 : List Value) (hgo1:bC Tryz.prog fid1 = true) (hof1:∀ W2,Below W.heap.size W W2 → ∀ x,∀ (hx:Hd),Rd W2 hx.1 x.fK.length hx.2.2 (encL TSpan_cells x.fK) → ∀ y,p1 x = some y → Calls Tryz.prog fid1 (fst1 ++ (([.agg #[vI x.fID,vI x.fFrom,vI x.fTo,vI x.fLong,vI x.fToll,.slice hx.1 x.fK.length hx.2.2]] : List Value) ++ caps1)).toArray W2 fun e W3 => e = .returned (.bool y) ∧ Ext W2 W3 []) :
  Calls Tryz.prog 192 [.slice Aa n0_0 ca,.func (.func fid1) fst1.toArray caps1.toArray].toArray W fun e W2 => e = .returned (vI res) ∧ Ext W W2 []:=by
 subst hn0_0
 unfold bv at h
 refine ae (m:=19) Tryz.func192 rfl rfl (nB rfl) (cS (cR (oY rfl (yAI rfl) (oN (eT (cS (cS (cR (oY rfl (yMS rfl) (oY rfl (bp (us:=[]) gF rfl) (oY rfl (yMI rfl) (oN (eT (cB ?_))))))))))))))
 obtain ⟨u3,hl9,h⟩:=bOs h
 refine bF (fun (s:(Int × Int)) L tm => ∃ (tm0:Nat → Value),L = [] ∧ tm = (upd (upd (upd (upd (upd tm0 0 (.slice Aa p0.length ca)) 1 (.func (.func fid1) fst1.toArray caps1.toArray)) 4 (vI s.1)) 7 (vI (p0.length:Int))) 8 (vI s.2))) 0 hl9 ⟨_,rfl,(kp4 (kp rfl))⟩ ?_ ?_
 ·rintro s2 L tm st ⟨tm0_s2,rfl,rfl⟩ h
  unfold bc at h
  refine cS (cR (oY rfl (bj rfl rfl) (oN (eT (cS ?_)))))
  rcases iOs h with ⟨hp4,h⟩ | ⟨hp4,h⟩
  ·refine cT (vB hp4) (cK (eT (cS (cB (cS (cR (oY rfl (yMI rfl) (oY rfl (yAI rfl) (oN (eT (cS (cR (oY rfl (bR (v:=.func (.func fid1) fst1.toArray caps1.toArray) rfl) (oY rfl (yMS rfl) (oY rfl (yMI rfl) ?_)))))))))))))))
   obtain ⟨hg5,h⟩:=gOs h
   refine oY rfl (yI jP (by decide) hg5.1 hg5.2 (RdL.arg hr0_0) (eL au (NestP.hn hN0_0.p rfl)) rfl rfl) ?_
   refine oY rfl (yM (A:=Aa) (j:=(Int.toNat s2.2 * 6)) [vI ((rdL p0 s2.2).fID),vI ((rdL p0 s2.2).fFrom),vI ((rdL p0 s2.2).fTo),vI ((rdL p0 s2.2).fLong),vI ((rdL p0 s2.2).fToll),.slice ((rdL ys0_0 s2.2).1.1) ((rdL p0 s2.2).fK.length) ((rdL ys0_0 s2.2).1.2.2)] i8 (Nat.succ_pos _) (RdL.arg hr0_0) rfl (kw (cx (NestP.snd hN0_0.p s2.2) (NestP.len hN0_0.p hg5.1 (ah hg5.2 rfl))).symm (bl au hg5.1 (ah hg5.2 (NestP.hn hN0_0.p rfl))))) ?_
   obtain ⟨y6,hy7,h⟩:=bOs h
   refine oY rfl (ie [.agg #[vI ((rdL p0 s2.2).fID),vI ((rdL p0 s2.2).fFrom),vI ((rdL p0 s2.2).fTo),vI ((rdL p0 s2.2).fLong),vI ((rdL p0 s2.2).fToll),.slice ((rdL ys0_0 s2.2).1.1) ((rdL p0 s2.2).fK.length) ((rdL ys0_0 s2.2).1.2.2)]] hgo1 rfl rfl (fun W2 hW2 => hof1 W2 hW2.below (TT.mk ((rdL p0 s2.2).fID) ((rdL p0 s2.2).fFrom) ((rdL p0 s2.2).fTo) ((rdL p0 s2.2).fLong) ((rdL p0 s2.2).fToll) ((rdL p0 s2.2).fK)) ((rdL ys0_0 s2.2).1.1,0,(rdL ys0_0 s2.2).1.2.2) ((NestL.rd (NestL.arg hN0_0) hg5.1 (ah hg5.2 rfl)) W2 hW2) y6 hy7)) (oN (eT ?_))
   rcases iOs h with ⟨hp8,h⟩ | ⟨hp8,h⟩
   ·refine cT (vB hp8) (cS (cR (oY rfl (yMI rfl) (oY rfl (yAI rfl) (oN (eT (am (ak (aa ?_)))))))))
    obtain rfl:=sI h
    exact ax ⟨rfl,_,rfl,(kp4 (kp rfl))⟩
   ·refine cF (vB hp8) (cK (aw (eT (cR (oY rfl (aT rfl rfl) (oY rfl (yMI rfl) (oN ?_)))))))
    obtain rfl:=sI h
    exact eN ⟨_,rfl,(kp4 (kp rfl))⟩
  ·refine cF (vB hp4) (aH (ag ?_))
   obtain rfl:=sI h
   exact ax ⟨rfl,_,rfl,(kp4 (kp rfl))⟩
 ·intro e L tm hJ
  rcases u3 with u10 | u11
  ·dsimp only at h hJ
   obtain ⟨rfl,tm0_u10,rfl,rfl⟩:=hJ
   refine ⟨(by intro hc; cases hc),?_⟩
   refine ak (aa ?_)
   obtain rfl:=sI h
   exact al (.inl rfl) rfl (rVt (v:=vI u10.1) rfl) (fun W2 hW2 => ⟨rfl,hW2.none⟩)
  ·dsimp only at h hJ
   obtain ⟨rfl,tm0_u11,rfl,rfl⟩:=hJ
   refine ⟨(by intro hc; cases hc),?_⟩
   refine ac (eT (cS (cR (oY rfl (yAI rfl) (oN (eT (am ?_)))))))
   obtain rfl:=sI h
   exact al (.inl rfl) rfl (rVt (v:=vI (-1)) rfl) (fun W2 hW2 => ⟨rfl,hW2.none⟩)
theorem hZ (p0:(List TT)) (p1:TT → Option Bool) (res:Int) (h:cj p0 p1 = some res) (W:World) (Aa:Option Addr) (n0_0 ca : Nat) (ys0_0:List (Hd × TT)) (hn0_0:n0_0 = p0.length) (hr0_0:Rd W Aa n0_0 ca (encL TTrack_cells2 ys0_0)) (hN0_0:NestW W (fun z : TT => z.fK) TSpan_cells ys0_0 p0) (fid1:Nat) (fst1 caps1 : List Value) (hgo1:bC Tryz.prog fid1 = true) (hof1:∀ W2,Below W.heap.size W W2 → ∀ x,∀ (hx:Hd),Rd W2 hx.1 x.fK.length hx.2.2 (encL TSpan_cells x.fK) → ∀ y,p1 x = some y → Calls Tryz.prog fid1 (fst1 ++ (([.agg #[vI x.fID,vI x.fFrom,vI x.fTo,vI x.fLong,vI x.fToll,.slice hx.1 x.fK.length hx.2.2]] : List Value) ++ caps1)).toArray W2 fun e W3 => e = .returned (.bool y) ∧ Ext W2 W3 []) :
  Calls Tryz.prog 181 [.slice Aa n0_0 ca,.func (.func fid1) fst1.toArray caps1.toArray].toArray W fun e W2 => e = .returned (vI res) ∧ Ext W W2 []:=by
 subst hn0_0
 unfold cj at h
 refine ae (m:=8) Tryz.func181 rfl rfl (nB rfl) (cS (cR (oY rfl (yAI rfl) (oN (eT (cS (cR (oY rfl (yMS rfl) (oY rfl (bR (v:=.func (.func fid1) fst1.toArray caps1.toArray) rfl) ?_)))))))))
 obtain ⟨y1,hy2,h⟩:=bOs h
 refine oY rfl (yC [.slice Aa p0.length ca,.func (.func fid1) fst1.toArray caps1.toArray] go_192 rfl (fun W2 hW2 => gr p0 p1 y1 hy2 W2 Aa p0.length ca ys0_0 rfl ((RdL.arg hr0_0) W2 hW2) (NestL.at (NestL.arg hN0_0) W2 hW2) fid1 fst1 caps1 hgo1 (fun W3 hb => hof1 W3 (fV hW2.below hb))) rfl) (oY rfl (yAI rfl) (oN (eT (am ?_))))
 obtain rfl:=sI h
 exact al (.inl rfl) rfl (rVt (v:=vI y1) rfl) (fun W2 hW2 => ⟨rfl,hW2.none⟩)
theorem nu (p0:TT) (cap0:Int) (res:Bool) (h:gU p0 cap0 = some res) (W:World) (A0_5:Option Addr) (n0_5 c0_5 : Nat) (hn0_5:n0_5 = p0.fK.length) (hr0_5:Rd W A0_5 n0_5 c0_5 (encL TSpan_cells p0.fK)) (bc0:Nat) (hcap0:Rd W (some ⟨bc0,0,none⟩) 1 1 (cI cap0)) :
  Calls Tryz.prog 182 [.agg #[vI p0.fID,vI p0.fFrom,vI p0.fTo,vI p0.fLong,vI p0.fToll,.slice A0_5 n0_5 c0_5],.pointer (some ⟨bc0,0,none⟩)].toArray W fun e W2 => e = .returned (.bool res) ∧ Ext W W2 []:=by
 subst hn0_5
 unfold gU at h
 refine ae (m:=8) Tryz.func182 rfl rfl (nB rfl) (cS (cR ?_))
 refine aW [vI p0.fID,vI p0.fFrom,vI p0.fTo,vI p0.fLong,vI p0.fToll,.slice A0_5 p0.fK.length c0_5] rfl rfl rfl (fun b1 => ?_)
 refine oY rfl (yAB rfl) (oN (eT (cS (cR (oY rfl (yFA gB rfl) (oY rfl (yL 0 aV rfl rfl rfl) (oY rfl (yR (A:=(some ⟨bc0,0,none⟩)) (j:=0) (v:=vI cap0) aV (RdL.arg hcap0) rfl rfl) (oY rfl (da rfl rfl) (oY rfl (yAB rfl) (oN (eT (am ?_))))))))))))
 obtain rfl:=sI h
 exact al (.inl rfl) rfl (rVt (v:=.bool (p0.fID == cap0)) rfl) (fun W2 hW2 => ⟨rfl,hW2.none⟩)
theorem pP (p0:TR) (p1:Int) (res:Int) (h:jA p0 p1 = some res) (W:World) (Ab:Option Addr) (n0_1 cb : Nat) (ys0_1:List (Hd × TT)) (hn0_1:n0_1 = p0.fTracks.length) (hr0_1:Rd W Ab n0_1 cb (encL TTrack_cells2 ys0_1)) (hN0_1:NestW W (fun z : TT => z.fK) TSpan_cells ys0_1 p0.fTracks) :
  Calls Tryz.prog 155 [.agg #[vI p0.fPlaces,.slice Ab n0_1 cb],vI p1].toArray W fun e W2 => e = .returned (vI res) ∧ Ext W W2 []:=by
 subst hn0_1
 unfold jA at h
 refine ae (m:=9) Tryz.func155 rfl rfl (nB rfl) (cS (cR ?_))
 refine aW [vI p0.fPlaces,.slice Ab p0.fTracks.length cb] rfl rfl rfl (fun b1 => ?_)
 refine aW [vI p1] rfl rfl rfl (fun b2 => ?_)
 refine oY rfl (yAI rfl) (oN (eT (cS (cR (oY rfl (yFA cq rfl) (oY rfl (yL 0 gG rfl rfl rfl) (oY rfl (ct [.pointer (some ⟨b2,0,none⟩)] rfl rfl) ?_)))))))
 obtain ⟨y4,hy5,h⟩:=bOs h
 refine oY rfl (yC [.slice Ab p0.fTracks.length cb,.func (.func 182) #[] #[.pointer (some ⟨b2,0,none⟩)]] go_181 rfl (fun W2 hW2 => hZ p0.fTracks (fun x3 => gU x3 p1) y4 hy5 W2 Ab p0.fTracks.length cb ys0_1 rfl ((RdL.arg hr0_1) W2 hW2) (NestL.at (NestL.arg hN0_1) W2 hW2) 182 [] [.pointer (some ⟨b2,0,none⟩)] go_182 (fun W3 hb x hx rx y hxy => nu  x p1 y hxy W3 hx.1 _ hx.2.2 rfl rx b2 (((RdL.cells 1 rfl) W2 hW2).later hb))) rfl) (oY rfl (yAI rfl) (oN (eT (am ?_))))
 obtain rfl:=sI h
 exact al (.inl rfl) rfl (rVt (v:=vI y4) rfl) (fun W2 hW2 => ⟨rfl,hW2.none⟩)
theorem kJ (p0:Int) (cap0:TR) (res:Bool) (h:gV p0 cap0 = some res) (W:World) (bc0:Nat) (A100_1:Option Addr) (n100_1 c100_1 : Nat) (ys100_1:List (Hd × TT)) (hn100_1:n100_1 = cap0.fTracks.length) (hr100_1:Rd W A100_1 n100_1 c100_1 (encL TTrack_cells2 ys100_1)) (hN100_1:NestW W (fun z : TT => z.fK) TSpan_cells ys100_1 cap0.fTracks) (hcap0:Rd W (some ⟨bc0,0,none⟩) 1 1 [vI cap0.fPlaces,.slice A100_1 n100_1 c100_1]) :
  Calls Tryz.prog 159 [vI p0,.pointer (some ⟨bc0,0,none⟩)].toArray W fun e W2 => e = .returned (.bool res) ∧ Ext W W2 []:=by
 subst hn100_1
 unfold gV at h
 refine ae (m:=9) Tryz.func159 rfl rfl (nB rfl) (cS (cR (oY rfl (yAB rfl) (oN (eT (cS (cR (oY rfl (yMI rfl) (oY rfl (yFR (A:=(some ⟨bc0,0,none⟩)) (j:=0) d8 rfl) (oY rfl (yR (A:=(some ⟨bc0,0,none⟩)) (j:=(0 + 0)) (v:=vI cap0.fPlaces) aV (RdL.arg hcap0) rfl rfl) (oY rfl (eH rfl rfl) ?_)))))))))))
 obtain ⟨y1,hy2,h⟩:=bOs h
 refine oY rfl (yC [vI p0,vI 0,vI (w64 (cap0.fPlaces - 1))] g9 rfl (fun W2 hW2 => be p0 0 (w64 (cap0.fPlaces - 1)) y1 hy2 W2 ) rfl) (oY rfl (yAB rfl) (oN (eT (am ?_))))
 obtain rfl:=sI h
 exact al (.inl rfl) rfl (rVt (v:=.bool y1) rfl) (fun W2 hW2 => ⟨rfl,hW2.none⟩)
theorem p9 (p0:TR) (res:Int) (h:ju p0 = some res) (W:World) (Ab:Option Addr) (n0_1 cb : Nat) (ys0_1:List (Hd × TT)) (hn0_1:n0_1 = p0.fTracks.length) (hr0_1:Rd W Ab n0_1 cb (encL TTrack_cells2 ys0_1)) (hN0_1:NestW W (fun z : TT => z.fK) TSpan_cells ys0_1 p0.fTracks) :
  Calls Tryz.prog 124 [.agg #[vI p0.fPlaces,.slice Ab n0_1 cb]].toArray W fun e W2 => e = .returned (vI res) ∧ Ext W W2 []:=by
 subst hn0_1
 unfold ju at h
 refine ae (m:=73) Tryz.func124 rfl rfl (nB rfl) (cS (cR ?_))
 refine aW [vI p0.fPlaces,.slice Ab p0.fTracks.length cb] rfl rfl rfl (fun b1 => ?_)
 refine oY rfl (yAI rfl) (oN (eT (cS (cS (cR (oY rfl (yFA d8 rfl) (oY rfl (yL 0 aV rfl rfl rfl) ?_)))))))
 obtain ⟨y2,hy3,h⟩:=bOs h
 refine oY rfl (yC [vI p0.fPlaces,vI 1,vI 16] g9 rfl (fun W2 hW2 => be p0.fPlaces 1 16 y2 hy3 W2 ) rfl) (oY rfl (bQ rfl) (oN (eT ?_)))
 rcases iOs h with ⟨hp4,h⟩ | ⟨hp4,h⟩
 ·refine cT (vB hp4) (cS (cR (oY rfl (yAI rfl) (oN (eT (am (aa ?_)))))))
  obtain rfl:=sI h
  exact al (.inl rfl) rfl (rVt (v:=vI 1) rfl) (fun W2 hW2 => ⟨rfl,hW2.none⟩)
 ·refine cF (vB hp4) (cK (eT (cS (cS (cR (oY rfl (yFA cq rfl) (oY rfl (yL 0 gG rfl rfl rfl) (oY rfl (bp (us:=[]) gF rfl) (oY rfl (gK rfl rfl) (oN (eT ?_)))))))))))
  rcases iOs h with ⟨hp5,h⟩ | ⟨hp5,h⟩
  ·refine cT (vB hp5) (cS (cR (oY rfl (yAI rfl) (oN (eT (am (aa ?_)))))))
   obtain rfl:=sI h
   exact al (.inl rfl) rfl (rVt (v:=vI 2) rfl) (fun W2 hW2 => ⟨rfl,hW2.none⟩)
  ·refine cF (vB hp5) (cK (eT (cS (cR (oY rfl (ct [.pointer (some ⟨b1,0,none⟩)] rfl rfl) (oY rfl (eV rfl) (oN (eT (cS (cS (cR (oY rfl (yFA cq rfl) (oY rfl (yL 0 gG rfl rfl rfl) (oY rfl (bp (us:=[]) gF rfl) (oY rfl (yMI rfl) (oN (eT (cB ?_))))))))))))))))))
   obtain ⟨u8,hl44,h⟩:=bOs h
   refine bF (fun (s:(Int × Int)) L tm => ∃ (tm0:Nat → Value),L = [ai b1 24 [vI p0.fPlaces,.slice Ab p0.fTracks.length cb]] ∧ tm = (upd (upd (upd (upd (upd (upd tm0 1 (.pointer (some ⟨b1,0,none⟩))) 2 (vI s.1)) 3 (.func (.func 159) #[] #[.pointer (some ⟨b1,0,none⟩)])) 16 (.slice Ab p0.fTracks.length cb)) 17 (vI (p0.fTracks.length:Int))) 18 (vI s.2))) 0 hl44 ⟨_,rfl,(kp4 (kp (kp rfl)))⟩ ?_ ?_
   ·rintro s7 L tm st ⟨tm0_s7,rfl,rfl⟩ h
    unfold f6 at h
    refine cS (cR (oY rfl (bj rfl rfl) (oN (eT (cS ?_)))))
    rcases iOs h with ⟨hp9,h⟩ | ⟨hp9,h⟩
    ·refine cT (vB hp9) (cK (eT (cS (cB (cS (cR (oY rfl (yMI rfl) ?_)))))))
     obtain ⟨hg10,h⟩:=gOs h
     refine oY rfl (yI jP (by decide) hg10.1 hg10.2 (RdL.arg hr0_1) (eL au (NestP.hn hN0_1.p rfl)) rfl rfl) ?_
     refine oY rfl (yM (A:=Ab) (j:=(Int.toNat s7.2 * 6)) [vI ((rdL p0.fTracks s7.2).fID),vI ((rdL p0.fTracks s7.2).fFrom),vI ((rdL p0.fTracks s7.2).fTo),vI ((rdL p0.fTracks s7.2).fLong),vI ((rdL p0.fTracks s7.2).fToll),.slice ((rdL ys0_1 s7.2).1.1) ((rdL p0.fTracks s7.2).fK.length) ((rdL ys0_1 s7.2).1.2.2)] i8 (Nat.succ_pos _) (RdL.arg hr0_1) rfl (kw (cx (NestP.snd hN0_1.p s7.2) (NestP.len hN0_1.p hg10.1 (ah hg10.2 rfl))).symm (bl au hg10.1 (ah hg10.2 (NestP.hn hN0_1.p rfl))))) ?_
     refine aE gp rfl (fun b11 => ?_)
     refine oY rfl (yAI rfl) (cr rfl (yS 1 [vI ((rdL p0.fTracks s7.2).fID),vI ((rdL p0.fTracks s7.2).fFrom),vI ((rdL p0.fTracks s7.2).fTo),vI ((rdL p0.fTracks s7.2).fLong),vI ((rdL p0.fTracks s7.2).fToll),.slice ((rdL ys0_1 s7.2).1.1) ((rdL p0.fTracks s7.2).fK.length) ((rdL ys0_1 s7.2).1.2.2)] pk rfl (nB rfl) rfl rfl rfl) (oN (eT (cS (cS (cR (oY rfl (yFA gB rfl) (oY rfl (yL 1 aV rfl rfl rfl) ?_))))))))
     obtain ⟨y12,hy13,h⟩:=bOs h
     refine oY rfl (yC [vI ((rdL p0.fTracks s7.2).fID),vI 1,vI 1099511627776] g9 rfl (fun W2 hW2 => be ((rdL p0.fTracks s7.2).fID) 1 1099511627776 y12 hy13 W2 ) rfl) (oY rfl (bQ rfl) (oY rfl (yMB rfl) ?_))
     obtain ⟨b15,hb16,h⟩:=bOs h
     refine oJ 6 (fun tm0 => (upd (upd (upd (upd (upd (upd (upd (upd (upd (upd tm0 1 (.pointer (some ⟨b1,0,none⟩))) 2 (vI s7.1)) 3 (.func (.func 159) #[] #[.pointer (some ⟨b1,0,none⟩)])) 16 (.slice Ab p0.fTracks.length cb)) 17 (vI (p0.fTracks.length:Int))) 18 (vI s7.2)) 19 (.bool (decide (s7.2 < (p0.fTracks.length:Int))))) 5 (.pointer (some ⟨b11,0,none⟩))) 4 (vI s7.2)) 33 (.bool b15))) (fun tm0 => ?_) (fun key => ?_)
     ·refine oY rfl (yMB rfl) ?_
      obtain ⟨b18,hb19,h⟩:=bOs h
      refine oJ 6 (fun tm0 => (upd (upd (upd (upd (upd (upd (upd (upd (upd (upd tm0 1 (.pointer (some ⟨b1,0,none⟩))) 2 (vI s7.1)) 3 (.func (.func 159) #[] #[.pointer (some ⟨b1,0,none⟩)])) 16 (.slice Ab p0.fTracks.length cb)) 17 (vI (p0.fTracks.length:Int))) 18 (vI s7.2)) 19 (.bool (decide (s7.2 < (p0.fTracks.length:Int))))) 5 (.pointer (some ⟨b11,0,none⟩))) 4 (vI s7.2)) 40 (.bool b18))) (fun tm0 => ?_) (fun key => ?_)
      ·refine oY rfl (yMB rfl) ?_
       refine oJ 6 (fun tm0 => (upd (upd (upd (upd (upd (upd (upd (upd (upd (upd tm0 1 (.pointer (some ⟨b1,0,none⟩))) 2 (vI s7.1)) 3 (.func (.func 159) #[] #[.pointer (some ⟨b1,0,none⟩)])) 16 (.slice Ab p0.fTracks.length cb)) 17 (vI (p0.fTracks.length:Int))) 18 (vI s7.2)) 19 (.bool (decide (s7.2 < (p0.fTracks.length:Int))))) 5 (.pointer (some ⟨b11,0,none⟩))) 4 (vI s7.2)) 47 (.bool (b18 || (((rdL p0.fTracks s7.2).fFrom) == ((rdL p0.fTracks s7.2).fTo)))))) (fun tm0 => ?_) (fun key => ?_)
       ·refine oY rfl (yMB rfl) ?_
        obtain ⟨b22,hb23,h⟩:=bOs h
        refine oJ 5 (fun tm0 => (upd (upd (upd (upd (upd (upd (upd (upd (upd (upd tm0 1 (.pointer (some ⟨b1,0,none⟩))) 2 (vI s7.1)) 3 (.func (.func 159) #[] #[.pointer (some ⟨b1,0,none⟩)])) 16 (.slice Ab p0.fTracks.length cb)) 17 (vI (p0.fTracks.length:Int))) 18 (vI s7.2)) 19 (.bool (decide (s7.2 < (p0.fTracks.length:Int))))) 5 (.pointer (some ⟨b11,0,none⟩))) 4 (vI s7.2)) 53 (.bool b22))) (fun tm0 => ?_) (fun key => ?_)
        ·refine oY rfl (yMB rfl) ?_
         obtain ⟨b25,hb26,h⟩:=bOs h
         refine oJ 5 (fun tm0 => (upd (upd (upd (upd (upd (upd (upd (upd (upd (upd tm0 1 (.pointer (some ⟨b1,0,none⟩))) 2 (vI s7.1)) 3 (.func (.func 159) #[] #[.pointer (some ⟨b1,0,none⟩)])) 16 (.slice Ab p0.fTracks.length cb)) 17 (vI (p0.fTracks.length:Int))) 18 (vI s7.2)) 19 (.bool (decide (s7.2 < (p0.fTracks.length:Int))))) 5 (.pointer (some ⟨b11,0,none⟩))) 4 (vI s7.2)) 59 (.bool b25))) (fun tm0 => ?_) (fun key => ?_)
         ·refine oY rfl (yMB rfl) ?_
          obtain ⟨b28,hb29,h⟩:=bOs h
          refine oJ 5 (fun tm0 => (upd (upd (upd (upd (upd (upd (upd (upd (upd (upd tm0 1 (.pointer (some ⟨b1,0,none⟩))) 2 (vI s7.1)) 3 (.func (.func 159) #[] #[.pointer (some ⟨b1,0,none⟩)])) 16 (.slice Ab p0.fTracks.length cb)) 17 (vI (p0.fTracks.length:Int))) 18 (vI s7.2)) 19 (.bool (decide (s7.2 < (p0.fTracks.length:Int))))) 5 (.pointer (some ⟨b11,0,none⟩))) 4 (vI s7.2)) 65 (.bool b28))) (fun tm0 => ?_) (fun key => ?_)
          ·refine oN (eT ?_)
           rcases iOs h with ⟨hp30,h⟩ | ⟨hp30,h⟩
           ·refine cT (vB hp30) (cS (cR (oY rfl (yAI rfl) (oN (eT (am (aa (ak (aa (aU 1 ?_))))))))))
            obtain rfl:=sI h
            exact ax ⟨rfl,_,rfl,(kp4 (kp (kp rfl)))⟩
           ·refine cF (vB hp30) (cK (eT (cS (cR (oY rfl (yN 0 [vI p0.fPlaces,.slice Ab p0.fTracks.length cb] dM rfl rfl rfl) (oY rfl (yFA gB rfl) (oY rfl (yL 1 aV rfl rfl rfl) ?_)))))))
            obtain ⟨y31,hy32,h⟩:=bOs h
            refine oY rfl (yC [.agg #[vI p0.fPlaces,.slice Ab p0.fTracks.length cb],vI ((rdL p0.fTracks s7.2).fID)] go_155 rfl (fun W2 hW2 => pP p0 ((rdL p0.fTracks s7.2).fID) y31 hy32 W2 Ab p0.fTracks.length cb ys0_1 rfl ((RdL.arg hr0_1) W2 hW2) (NestL.at (NestL.arg hN0_1) W2 hW2)) rfl) (oY rfl (yMI rfl) (oY rfl (bj rfl rfl) (oN (eT ?_))))
            rcases iOs h with ⟨hp33,h⟩ | ⟨hp33,h⟩
            ·refine cT (vB hp33) (cS (cR (oY rfl (yAI rfl) (oN (eT (am (ak (aa (aU 1 ?_)))))))))
             obtain rfl:=sI h
             exact ax ⟨rfl,_,rfl,(kp4 (kp (kp rfl)))⟩
            ·refine cF (vB hp33) (cK (aw (eT (cR (oY rfl (aT rfl rfl) (oY rfl (yMI rfl) (oN (aU 1 ?_))))))))
             obtain rfl:=sI h
             exact eN ⟨_,rfl,(kp4 (kp (kp rfl)))⟩
          ·clear h; rcases iOs hb29 with ⟨hp27,h⟩ | ⟨hp27,h⟩
           ·refine oSk (sF rfl rfl rfl rfl hp27) (oSk (sF rfl rfl rfl rfl hp27) (oSk (sF rfl rfl rfl rfl hp27) (oSk (sF rfl rfl rfl rfl hp27) (oY rfl (ab (vB hp27) rfl) ?_))))
            obtain rfl:=sI h
            exact key _ _ (kp4 (kp4 (kp (kp rfl))))
           ·refine oY (sT rfl rfl rfl rfl hp27) (yFA fq rfl) (oY (sT rfl rfl rfl rfl hp27) (yL 1 j8 rfl rfl rfl) ?_)
            obtain ⟨y34,hy35,h⟩:=bOs h
            refine oY (sT rfl rfl rfl rfl hp27) (yC [.slice ((rdL ys0_1 s7.2).1.1) ((rdL p0.fTracks s7.2).fK.length) ((rdL ys0_1 s7.2).1.2.2)] go_122 rfl (fun W2 hW2 => ld ((rdL p0.fTracks s7.2).fK) y34 hy35 W2 ((rdL ys0_1 s7.2).1.1) ((rdL p0.fTracks s7.2).fK.length) ((rdL ys0_1 s7.2).1.2.2) rfl ((NestL.rd (NestL.arg hN0_1) hg10.1 (ah hg10.2 rfl)) W2 hW2)) rfl) (oY (sT rfl rfl rfl rfl hp27) (bQ rfl) (oY rfl (ad (vB hp27) rfl) ?_))
            obtain rfl:=sI h
            exact key _ _ (kp4 (kp4 (kp (kp rfl))))
         ·clear h; rcases iOs hb26 with ⟨hp24,h⟩ | ⟨hp24,h⟩
          ·refine oSk (sF rfl rfl rfl rfl hp24) (oSk (sF rfl rfl rfl rfl hp24) (oSk (sF rfl rfl rfl rfl hp24) (oSk (sF rfl rfl rfl rfl hp24) (oY rfl (ab (vB hp24) rfl) ?_))))
           obtain rfl:=sI h
           exact key _ _ (kp4 (kp4 (kp (kp rfl))))
          ·refine oY (sT rfl rfl rfl rfl hp24) (yFA jK rfl) (oY (sT rfl rfl rfl rfl hp24) (yL 1 aV rfl rfl rfl) ?_)
           obtain ⟨y36,hy37,h⟩:=bOs h
           refine oY (sT rfl rfl rfl rfl hp24) (yC [vI ((rdL p0.fTracks s7.2).fToll),vI 0,vI 40] g9 rfl (fun W2 hW2 => be ((rdL p0.fTracks s7.2).fToll) 0 40 y36 hy37 W2 ) rfl) (oY (sT rfl rfl rfl rfl hp24) (bQ rfl) (oY rfl (ad (vB hp24) rfl) ?_))
           obtain rfl:=sI h
           exact key _ _ (kp4 (kp4 (kp (kp rfl))))
        ·clear h; rcases iOs hb23 with ⟨hp21,h⟩ | ⟨hp21,h⟩
         ·refine oSk (sF rfl rfl rfl rfl hp21) (oSk (sF rfl rfl rfl rfl hp21) (oSk (sF rfl rfl rfl rfl hp21) (oSk (sF rfl rfl rfl rfl hp21) (oY rfl (ab (vB hp21) rfl) ?_))))
          obtain rfl:=sI h
          exact key _ _ (kp4 (kp4 (kp (kp rfl))))
         ·refine oY (sT rfl rfl rfl rfl hp21) (yFA hQ rfl) (oY (sT rfl rfl rfl rfl hp21) (yL 1 aV rfl rfl rfl) ?_)
          obtain ⟨y38,hy39,h⟩:=bOs h
          refine oY (sT rfl rfl rfl rfl hp21) (yC [vI ((rdL p0.fTracks s7.2).fLong),vI 1,vI 72] g9 rfl (fun W2 hW2 => be ((rdL p0.fTracks s7.2).fLong) 1 72 y38 hy39 W2 ) rfl) (oY (sT rfl rfl rfl rfl hp21) (bQ rfl) (oY rfl (ad (vB hp21) rfl) ?_))
          obtain rfl:=sI h
          exact key _ _ (kp4 (kp4 (kp (kp rfl))))
       ·rcases ao b18 with hp20 | hp20
        ·refine oSk (sF rfl rfl rfl rfl hp20) (oSk (sF rfl rfl rfl rfl hp20) (oSk (sF rfl rfl rfl rfl hp20) (oSk (sF rfl rfl rfl rfl hp20) (oSk (sF rfl rfl rfl rfl hp20) (oY rfl (ab (vB hp20) rfl) ?_)))))
         exact key _ _ (keep (keep (keep (keep (keep (keep (keep (keep (keep (keep rfl rfl) rfl) rfl) rfl) rfl) rfl) rfl) rfl) rfl) (vB (jf hp20)))
        ·refine oY (sT rfl rfl rfl rfl hp20) (yFA jN rfl) (oY (sT rfl rfl rfl rfl hp20) (yL 1 aV rfl rfl rfl) (oY (sT rfl rfl rfl rfl hp20) (yFA iV rfl) (oY (sT rfl rfl rfl rfl hp20) (yL 1 aV rfl rfl rfl) (oY (sT rfl rfl rfl rfl hp20) (da rfl rfl) (oY rfl (ad (vB hp20) rfl) ?_)))))
         exact key _ _ (keep (keep (keep (keep (keep (keep (keep (keep (keep (keep rfl rfl) rfl) rfl) rfl) rfl) rfl) rfl) rfl) rfl) (vB (jg hp20)))
      ·clear h; rcases iOs hb19 with ⟨hp17,h⟩ | ⟨hp17,h⟩
       ·refine oSk (sF rfl rfl rfl rfl hp17) (oSk (sF rfl rfl rfl rfl hp17) (oSk (sF rfl rfl rfl rfl hp17) (oSk (sF rfl rfl rfl rfl hp17) (oSk (sF rfl rfl rfl rfl hp17) (oY rfl (ab (vB hp17) rfl) ?_)))))
        obtain rfl:=sI h
        exact key _ _ (kp4 (kp4 (kp (kp rfl))))
       ·refine oY (sT rfl rfl rfl rfl hp17) (di rfl) (oY (sT rfl rfl rfl rfl hp17) (yFA iV rfl) (oY (sT rfl rfl rfl rfl hp17) (yL 1 aV rfl rfl rfl) ?_))
        obtain ⟨y40,hy41,h⟩:=bOs h
        refine oY (sT rfl rfl rfl rfl hp17) (nR (caps:=[.pointer (some ⟨b1,0,none⟩)]) [vI ((rdL p0.fTracks s7.2).fTo)] go_159 rfl rfl (fun W2 hW2 => kJ ((rdL p0.fTracks s7.2).fTo) p0 y40 hy41 W2 b1 Ab p0.fTracks.length cb ys0_1 rfl ((RdL.arg hr0_1) W2 hW2) (NestL.at (NestL.arg hN0_1) W2 hW2) ((RdL.cells 0 rfl) W2 hW2))) (oY (sT rfl rfl rfl rfl hp17) (bQ rfl) (oY rfl (ad (vB hp17) rfl) ?_))
        obtain rfl:=sI h
        exact key _ _ (kp4 (kp4 (kp (kp rfl))))
     ·clear h; rcases iOs hb16 with ⟨hp14,h⟩ | ⟨hp14,h⟩
      ·refine oSk (sF rfl rfl rfl rfl hp14) (oSk (sF rfl rfl rfl rfl hp14) (oSk (sF rfl rfl rfl rfl hp14) (oSk (sF rfl rfl rfl rfl hp14) (oSk (sF rfl rfl rfl rfl hp14) (oY rfl (ab (vB hp14) rfl) ?_)))))
       obtain rfl:=sI h
       exact key _ _ (kp4 (kp4 (kp (kp rfl))))
      ·refine oY (sT rfl rfl rfl rfl hp14) (di rfl) (oY (sT rfl rfl rfl rfl hp14) (yFA jN rfl) (oY (sT rfl rfl rfl rfl hp14) (yL 1 aV rfl rfl rfl) ?_))
       obtain ⟨y42,hy43,h⟩:=bOs h
       refine oY (sT rfl rfl rfl rfl hp14) (nR (caps:=[.pointer (some ⟨b1,0,none⟩)]) [vI ((rdL p0.fTracks s7.2).fFrom)] go_159 rfl rfl (fun W2 hW2 => kJ ((rdL p0.fTracks s7.2).fFrom) p0 y42 hy43 W2 b1 Ab p0.fTracks.length cb ys0_1 rfl ((RdL.arg hr0_1) W2 hW2) (NestL.at (NestL.arg hN0_1) W2 hW2) ((RdL.cells 0 rfl) W2 hW2))) (oY (sT rfl rfl rfl rfl hp14) (bQ rfl) (oY rfl (ad (vB hp14) rfl) ?_))
       obtain rfl:=sI h
       exact key _ _ (kp4 (kp4 (kp (kp rfl))))
    ·refine cF (vB hp9) (aH (ag ?_))
     obtain rfl:=sI h
     exact ax ⟨rfl,_,rfl,(kp4 (kp (kp rfl)))⟩
   ·intro e L tm hJ
    rcases u8 with u45 | u46
    ·dsimp only at h hJ
     obtain ⟨rfl,tm0_u45,rfl,rfl⟩:=hJ
     refine ⟨(by intro hc; cases hc),?_⟩
     refine ak (aa ?_)
     obtain rfl:=sI h
     exact al (.inl rfl) rfl (rVt (v:=vI u45.1) rfl) (fun W2 hW2 => ⟨rfl,hW2.none⟩)
    ·dsimp only at h hJ
     obtain ⟨rfl,tm0_u46,rfl,rfl⟩:=hJ
     refine ⟨(by intro hc; cases hc),?_⟩
     refine ac (eT (cS (cR (oY rfl (yAI rfl) (oN (eT (am ?_)))))))
     obtain rfl:=sI h
     exact al (.inl rfl) rfl (rVt (v:=vI 0) rfl) (fun W2 hW2 => ⟨rfl,hW2.none⟩)
theorem ij (p0:TR) (p1:Int) (p2:Int) (p3:Int) (p4:Int) (res:Int) (h:fQ p0 p1 p2 p3 p4 = some res) (W:World) (Ab:Option Addr) (n0_1 cb : Nat) (ys0_1:List (Hd × TT)) (hn0_1:n0_1 = p0.fTracks.length) (hr0_1:Rd W Ab n0_1 cb (encL TTrack_cells2 ys0_1)) (hN0_1:NestW W (fun z : TT => z.fK) TSpan_cells ys0_1 p0.fTracks) :
  Calls Tryz.prog 70 [.agg #[vI p0.fPlaces,.slice Ab n0_1 cb],vI p1,vI p2,vI p3,vI p4].toArray W fun e W2 => e = .returned (vI res) ∧ Ext W W2 []:=by
 subst hn0_1
 unfold fQ at h
 refine ae (m:=41) Tryz.func70 rfl rfl (nB rfl) (cS (cR ?_))
 refine aW [vI p0.fPlaces,.slice Ab p0.fTracks.length cb] rfl rfl rfl (fun b1 => ?_)
 refine oY rfl (yAI rfl) (oN (eT (cS (cS (cR (oY rfl (yN 0 [vI p0.fPlaces,.slice Ab p0.fTracks.length cb] dM rfl rfl rfl) ?_))))))
 obtain ⟨y2,hy3,h⟩:=bOs h
 refine oY rfl (yC [.agg #[vI p0.fPlaces,.slice Ab p0.fTracks.length cb]] go_124 rfl (fun W2 hW2 => p9 p0 y2 hy3 W2 Ab p0.fTracks.length cb ys0_1 rfl ((RdL.arg hr0_1) W2 hW2) (NestL.at (NestL.arg hN0_1) W2 hW2)) rfl) (oY rfl (yAI rfl) (oN (eT (cS (cR (oY rfl (yMI rfl) (oY rfl (dl rfl rfl) (oN (eT ?_)))))))))
 rcases iOs h with ⟨hp4,h⟩ | ⟨hp4,h⟩
 ·refine cT (vB hp4) (cS (cR (oY rfl (yMI rfl) (oY rfl (yAI rfl) (oN (eT (am (aa ?_))))))))
  obtain rfl:=sI h
  exact al (.inl rfl) rfl (rVt (v:=vI y2) rfl) (fun W2 hW2 => ⟨rfl,hW2.none⟩)
 ·refine cF (vB hp4) (cK (eT (cS (cS (cR (oY rfl (yMI rfl) (oY rfl (yFA d8 rfl) (oY rfl (yL 0 aV rfl rfl rfl) (oY rfl (eH rfl rfl) ?_)))))))))
  obtain ⟨y5,hy6,h⟩:=bOs h
  refine oY rfl (yC [vI p1,vI 0,vI (w64 (p0.fPlaces - 1))] g9 rfl (fun W2 hW2 => be p1 0 (w64 (p0.fPlaces - 1)) y5 hy6 W2 ) rfl) (oY rfl (bQ rfl) (oY rfl (yMB rfl) ?_))
  obtain ⟨b8,hb9,h⟩:=bOs h
  refine oJ 7 (fun tm0 => (upd (upd (upd (upd tm0 3 (vI p3)) 4 (vI p4)) 10 (vI 0)) 30 (.bool b8))) (fun tm0 => ?_) (fun key => ?_)
  ·refine oY rfl (yMB rfl) ?_
   obtain ⟨b11,hb12,h⟩:=bOs h
   refine oJ 4 (fun tm0 => (upd (upd (upd tm0 4 (vI p4)) 10 (vI 0)) 35 (.bool b11))) (fun tm0 => ?_) (fun key => ?_)
   ·refine oY rfl (yMB rfl) ?_
    obtain ⟨b14,hb15,h⟩:=bOs h
    refine oJ 4 (fun tm0 => (upd (upd tm0 10 (vI 0)) 40 (.bool b14))) (fun tm0 => ?_) (fun key => ?_)
    ·refine oN (eT ?_)
     rcases iOs h with ⟨hp16,h⟩ | ⟨hp16,h⟩
     ·refine cT (vB hp16) (cS (cR (oY rfl (yAI rfl) (oN (eT (am (aa ?_)))))))
      obtain rfl:=sI h
      exact al (.inl rfl) rfl (rVt (v:=vI 1) rfl) (fun W2 hW2 => ⟨rfl,hW2.none⟩)
     ·refine cF (vB hp16) (cK (eT (cS (cR (oY rfl (yAI rfl) (oN (eT (am ?_))))))))
      obtain rfl:=sI h
      exact al (.inl rfl) rfl (rVt (v:=vI 0) rfl) (fun W2 hW2 => ⟨rfl,hW2.none⟩)
    ·clear h; rcases iOs hb15 with ⟨hp13,h⟩ | ⟨hp13,h⟩
     ·refine oSk (sF rfl rfl rfl rfl hp13) (oSk (sF rfl rfl rfl rfl hp13) (oSk (sF rfl rfl rfl rfl hp13) (oY rfl (ab (vB hp13) rfl) ?_)))
      obtain rfl:=sI h
      exact key _ _ (kp (kp rfl))
     ·refine oY (sT rfl rfl rfl rfl hp13) (yMI rfl) ?_
      obtain ⟨y17,hy18,h⟩:=bOs h
      refine oY (sT rfl rfl rfl rfl hp13) (yC [vI p4,vI 0,vI 60] g9 rfl (fun W2 hW2 => be p4 0 60 y17 hy18 W2 ) rfl) (oY (sT rfl rfl rfl rfl hp13) (bQ rfl) (oY rfl (ad (vB hp13) rfl) ?_))
      obtain rfl:=sI h
      exact key _ _ (kp (kp rfl))
   ·clear h; rcases iOs hb12 with ⟨hp10,h⟩ | ⟨hp10,h⟩
    ·refine oSk (sF rfl rfl rfl rfl hp10) (oSk (sF rfl rfl rfl rfl hp10) (oSk (sF rfl rfl rfl rfl hp10) (oY rfl (ab (vB hp10) rfl) ?_)))
     obtain rfl:=sI h
     exact key _ _ (kp (kp (kp rfl)))
    ·refine oY (sT rfl rfl rfl rfl hp10) (yMI rfl) ?_
     obtain ⟨y19,hy20,h⟩:=bOs h
     refine oY (sT rfl rfl rfl rfl hp10) (yC [vI p3] nZ rfl (fun W2 hW2 => eJ p3 y19 hy20 W2 ) rfl) (oY (sT rfl rfl rfl rfl hp10) (bQ rfl) (oY rfl (ad (vB hp10) rfl) ?_))
     obtain rfl:=sI h
     exact key _ _ (kp (kp (kp rfl)))
  ·clear h; rcases iOs hb9 with ⟨hp7,h⟩ | ⟨hp7,h⟩
   ·refine oSk (sF rfl rfl rfl rfl hp7) (oSk (sF rfl rfl rfl rfl hp7) (oSk (sF rfl rfl rfl rfl hp7) (oSk (sF rfl rfl rfl rfl hp7) (oSk (sF rfl rfl rfl rfl hp7) (oSk (sF rfl rfl rfl rfl hp7) (oY rfl (ab (vB hp7) rfl) ?_))))))
    obtain rfl:=sI h
    exact key _ _ (kp4 rfl)
   ·refine oY (sT rfl rfl rfl rfl hp7) (yMI rfl) (oY (sT rfl rfl rfl rfl hp7) (yFA d8 rfl) (oY (sT rfl rfl rfl rfl hp7) (yL 0 aV rfl rfl rfl) (oY (sT rfl rfl rfl rfl hp7) (eH rfl rfl) ?_)))
    obtain ⟨y21,hy22,h⟩:=bOs h
    refine oY (sT rfl rfl rfl rfl hp7) (yC [vI p2,vI 0,vI (w64 (p0.fPlaces - 1))] g9 rfl (fun W2 hW2 => be p2 0 (w64 (p0.fPlaces - 1)) y21 hy22 W2 ) rfl) (oY (sT rfl rfl rfl rfl hp7) (bQ rfl) (oY rfl (ad (vB hp7) rfl) ?_))
    obtain rfl:=sI h
    exact key _ _ (kp4 rfl)
theorem mi (p0:TT) (p1:Int) (res:(Int × Bool)) (h:io p0 p1 = some res) (W:World) (A0_5:Option Addr) (n0_5 c0_5 : Nat) (hn0_5:n0_5 = p0.fK.length) (hr0_5:Rd W A0_5 n0_5 c0_5 (encL TSpan_cells p0.fK)) :
  Calls Tryz.prog 123 [.agg #[vI p0.fID,vI p0.fFrom,vI p0.fTo,vI p0.fLong,vI p0.fToll,.slice A0_5 n0_5 c0_5],vI p1].toArray W fun e W2 => e = .returned (.tuple #[vI res.1,.bool res.2]) ∧ Ext W W2 []:=by
 subst hn0_5
 unfold io at h
 refine ae (m:=28) Tryz.func123 rfl rfl (nB rfl) (cS (cR ?_))
 refine aW [vI p0.fID,vI p0.fFrom,vI p0.fTo,vI p0.fLong,vI p0.fToll,.slice A0_5 p0.fK.length c0_5] rfl rfl rfl (fun b1 => ?_)
 refine oY rfl (yAI rfl) (oY rfl (yAB rfl) (oN (eT (cS (cS (cR (oY rfl (yFA fq rfl) (oY rfl (yL 0 j8 rfl rfl rfl) (oY rfl (bp (us:=[]) lO rfl) (oY rfl (yMI rfl) (oN (eT (cB ?_)))))))))))))
 obtain ⟨u4,hl11,h⟩:=bOs h
 refine ba (fun (s:(Int × Int)) L tm => ∃ (tm0:Nat → Value),L = [ai b1 120 [vI p0.fID,vI p0.fFrom,vI p0.fTo,vI p0.fLong,vI p0.fToll,.slice A0_5 p0.fK.length c0_5]] ∧ tm = (upd (upd (upd (upd (upd (upd tm0 1 (vI s.1)) 4 (vI 0)) 5 (.bool false)) 9 (.slice A0_5 p0.fK.length c0_5)) 10 (vI (p0.fK.length:Int))) 11 (vI s.2))) 0 hl11 ⟨_,rfl,(kp4 (kp (kp rfl)))⟩ ?_ ?_
 ·rintro s3 L tm st ⟨tm0_s3,rfl,rfl⟩ h
  unfold eW at h
  refine cS (cR (oY rfl (bj rfl rfl) (oN (eT (cS ?_)))))
  rcases iOs h with ⟨hp5,h⟩ | ⟨hp5,h⟩
  ·refine cT (vB hp5) (cK (eT (cS (cB (cS (cR ?_))))))
   obtain ⟨hg6,h⟩:=gOs h
   refine oY rfl (yI jn (by decide) hg6.1 hg6.2 (RdL.arg hr0_5) (eL aD rfl) rfl rfl) ?_
   refine oY rfl (yM (A:=A0_5) (j:=(Int.toNat s3.2 * 2)) [vI ((rdL p0.fK s3.2).fLo),vI ((rdL p0.fK s3.2).fHi)] ag_63 (Nat.succ_pos _) (RdL.arg hr0_5) rfl (bl aD hg6.1 (ah hg6.2 rfl))) ?_
   refine aE re rfl (fun b7 => ?_)
   refine cr rfl (yS 1 [vI ((rdL p0.fK s3.2).fLo),vI ((rdL p0.fK s3.2).fHi)] sz_63 rfl (nB rfl) rfl rfl rfl) (oN (eT (cS (cR (oY rfl (yMI rfl) (oY rfl (yFA f0 rfl) (oY rfl (yL 1 aV rfl rfl rfl) (oY rfl (yFA eC rfl) (oY rfl (yL 1 aV rfl rfl rfl) ?_)))))))))
   obtain ⟨y8,hy9,h⟩:=bOs h
   refine oY rfl (yC [vI s3.1,vI ((rdL p0.fK s3.2).fLo),vI ((rdL p0.fK s3.2).fHi)] g9 rfl (fun W2 hW2 => be s3.1 ((rdL p0.fK s3.2).fLo) ((rdL p0.fK s3.2).fHi) y8 hy9 W2 ) rfl) (oN (eT ?_))
   rcases iOs h with ⟨hp10,h⟩ | ⟨hp10,h⟩
   ·refine cT (vB hp10) (cR (oY rfl (yFA eC rfl) (oY rfl (yL 1 aV rfl rfl rfl) (oY rfl (aT rfl rfl) (oY rfl (yAI rfl) (oN (aw (eT (cR (oY rfl (aT rfl rfl) (oY rfl (yMI rfl) (oN (aU 1 ?_)))))))))))))
    obtain rfl:=sI h
    exact eN ⟨_,rfl,(kp4 (kp (kp rfl)))⟩
   ·refine cF (vB hp10) (cK (aw (eT (cR (oY rfl (aT rfl rfl) (oY rfl (yMI rfl) (oN (aU 1 ?_))))))))
    obtain rfl:=sI h
    exact eN ⟨_,rfl,(kp4 (kp (kp rfl)))⟩
  ·refine cF (vB hp5) (aH (ag ?_))
   obtain rfl:=sI h
   exact ax ⟨rfl,_,rfl,(kp4 (kp (kp rfl)))⟩
 ·intro e L tm hJ
  obtain ⟨rfl,tm0_u4,rfl,rfl⟩:=hJ
  refine ⟨(by intro hc; cases hc),?_⟩
  refine ac (eT (cS (cR (oY rfl (yMI rfl) (oY rfl (yMI rfl) ?_)))))
  obtain ⟨y12,hy13,h⟩:=bOs h
  refine oY rfl (yC [vI u4.1] nZ rfl (fun W2 hW2 => eJ u4.1 y12 hy13 W2 ) rfl) (oY rfl (yAI rfl) (oY rfl (yAB rfl) (oN (eT (am ?_)))))
  obtain rfl:=sI h
  exact bI (.inl rfl) rfl (rVt (v:=vI u4.1) rfl) (rVt (v:=.bool y12) rfl) (fun W2 hW2 => ⟨rfl,hW2.none⟩)
theorem gx (p0:(List Twait)) (res:Int) (h:ci p0 = some res) (W:World) (Aa:Option Addr) (n0_0 ca : Nat) (hn0_0:n0_0 = p0.length) (hr0_0:Rd W Aa n0_0 ca (encL ay p0)) :
  Calls Tryz.prog 147 [.slice Aa n0_0 ca].toArray W fun e W2 => e = .returned (vI res) ∧ Ext W W2 []:=by
 subst hn0_0
 unfold ci at h
 refine ae (m:=5) Tryz.func147 rfl rfl (nB rfl) (cS (cR (oY rfl (yAI rfl) (oN (eT (cS (cR (oY rfl (yMS rfl) (oY rfl (bp (us:=[]) o5 rfl) (oY rfl (yAI rfl) (oN (eT (am ?_)))))))))))))
 obtain rfl:=sI h
 exact al (.inl rfl) rfl (rVt (v:=vI (p0.length:Int)) rfl) (fun W2 hW2 => ⟨rfl,hW2.none⟩)
theorem ef (p0:(List Twait)) (p1:Int) (p2:Int) (res:Bool) (h:cm p0 p1 p2 = some res) (W:World) (Aa:Option Addr) (n0_0 ca : Nat) (hn0_0:n0_0 = p0.length) (hr0_0:Rd W Aa n0_0 ca (encL ay p0)) :
  Calls Tryz.prog 212 [.slice Aa n0_0 ca,vI p1,vI p2].toArray W fun e W2 => e = .returned (.bool res) ∧ Ext W W2 []:=by
 subst hn0_0
 unfold cm at h
 refine ae (m:=18) Tryz.func212 rfl rfl (nB rfl) (cS (cR (oY rfl (yAB rfl) (oN (eT (cS ?_))))))
 refine bh 12 cD (by kernel_rfl) (by kernel_rfl) ?_
 refine qY rfl (yMS rfl) (qY rfl (yMI rfl) ?_)
 obtain ⟨hg1,h⟩:=gOs h
 refine qY rfl (yI mS (by decide) hg1.1 hg1.2 (RdL.arg hr0_0) (eL aS rfl) rfl rfl) ?_
 refine qY rfl (yFR (A:=Aa) (j:=(Int.toNat p1 * 3)) ng rfl) (qY rfl (yR (A:=Aa) (j:=((Int.toNat p1 * 3) + 0)) (v:=vI ((rdL p0 p1).f_at)) aV (RdL.arg hr0_0) rfl (eG aS hg1.1 (ah hg1.2 rfl) rfl)) (qY rfl (yMS rfl) (qY rfl (yMI rfl) ?_)))
 obtain ⟨hg2,h⟩:=gOs h
 refine qY rfl (yI mS (by decide) hg2.1 hg2.2 (RdL.arg hr0_0) (eL aS rfl) rfl rfl) ?_
 refine qY rfl (yFR (A:=Aa) (j:=(Int.toNat p2 * 3)) ng rfl) (qY rfl (yR (A:=Aa) (j:=((Int.toNat p2 * 3) + 0)) (v:=vI ((rdL p0 p2).f_at)) aV (RdL.arg hr0_0) rfl (eG aS hg2.1 (ah hg2.2 rfl) rfl)) (qY rfl (bj rfl rfl) (qY rfl (yAB rfl) (cd (oN (eT (am ?_)))))))
 obtain rfl:=sI h
 exact al (.inl rfl) rfl (rVt (v:=.bool (decide ((rdL p0 p1).f_at < (rdL p0 p2).f_at))) rfl) (fun W2 hW2 => ⟨rfl,hW2.none⟩)
theorem ee (p0:(List Twait)) (p1:Int) (p2:Int) (res:(List Twait)) (h:bT p0 p1 p2 = some res) (W:World) (w0:World) (R:Res) (Aa:Option Addr) (n0_0 ca : Nat) (hn0_0:n0_0 = p0.length) (hW:Ext w0 W [R,aL Aa ca 196 3 n0_0 (encL ay p0)]) :
  Calls Tryz.prog 215 [.slice Aa n0_0 ca,vI p1,vI p2].toArray W fun e W2 => ∃ x : Unit,n0_0 = res.length ∧ e = .returned (.tuple #[]) ∧ Ext w0 W2 [R,aL Aa ca 196 3 n0_0 (encL ay res)]:=by
 subst hn0_0
 unfold bT at h
 refine a8 (m:=20) Tryz.func215 rfl rfl (nB rfl) hW ?_
 refine qP [2,3] 13 cD (by kernel_rfl) (by kernel_rfl) ?_
 refine qY rfl (yMS rfl) (qY rfl (yMI rfl) (qY rfl (yMS rfl) (qY rfl (yMI rfl) (qY rfl (yMS rfl) (qY rfl (yMI rfl) ?_)))))
 obtain ⟨hg1,h⟩:=gOs h
 refine qY rfl (yI mS (by decide) hg1.1 hg1.2 (RdL.row 1 rfl) (eL aS rfl) rfl rfl) ?_
 refine qY rfl (yM (A:=Aa) (j:=(Int.toNat p2 * 3)) [vI ((rdL p0 p2).f_at),vI ((rdL p0 p2).f_stop.f_place),vI ((rdL p0 p2).f_stop.f_toll)] rO (Nat.succ_pos _) (RdL.row 1 rfl) rfl (bl aS hg1.1 (ah hg1.2 rfl))) (qY rfl (yMS rfl) (qY rfl (yMI rfl) ?_))
 obtain ⟨hg2,h⟩:=gOs h
 refine qY rfl (yI mS (by decide) hg2.1 hg2.2 (RdL.row 1 rfl) (eL aS rfl) rfl rfl) ?_
 refine qY rfl (yM (A:=Aa) (j:=(Int.toNat p1 * 3)) [vI ((rdL p0 p1).f_at),vI ((rdL p0 p1).f_stop.f_place),vI ((rdL p0 p1).f_stop.f_toll)] rO (Nat.succ_pos _) (RdL.row 1 rfl) rfl (bl aS hg2.1 (ah hg2.2 rfl))) ?_
 obtain ⟨hg3,h⟩:=gOs h
 refine qY rfl (yI mS (by decide) hg3.1 hg3.2 (RdL.row 1 rfl) (eL aS rfl) rfl rfl) ?_
 refine cd (cr rfl (lU 1 (xs:=p0) [vI ((rdL p0 p2).f_at),vI ((rdL p0 p2).f_stop.f_place),vI ((rdL p0 p2).f_stop.f_toll)] aS (Nat.succ_pos _) (rdL p0 p2) r9 rfl hg3.1 (ah hg3.2 rfl) rfl rfl rfl rfl) ?_)
 obtain ⟨hg4,h⟩:=gOs h
 refine oY rfl (yI mS (by decide) hg4.1 hg4.2 (RdL.row 1 rfl) (eL aS (cP rfl)) rfl rfl) ?_
 refine cr rfl (lU 1 (xs:=(p0.set (Int.toNat p1) (rdL p0 p2))) [vI ((rdL p0 p1).f_at),vI ((rdL p0 p1).f_stop.f_place),vI ((rdL p0 p1).f_stop.f_toll)] aS (Nat.succ_pos _) (rdL p0 p1) r9 rfl hg4.1 (ah hg4.2 (cP rfl)) rfl rfl rfl rfl) (oN (qa ?_))
 obtain rfl:=sI h
 exact cH (.inr rfl) rfl  (fun W2 hW2 => ⟨(),(cP (cP rfl)),rfl,hW2.take 2⟩)
theorem ke (p0:(List Twait)) (p1:Int) (p2:Int) (res:(Bool × (List Twait))) (h:cU p0 p1 p2 = some res) (W:World) (w0:World) (R:Res) (bq0:Nat) (Aa:Option Addr) (n0_0 ca : Nat) (hn0_0:n0_0 = p0.length) (hW:Ext w0 W [R,ai bq0 198 [.slice Aa n0_0 ca],aL Aa ca 196 3 n0_0 (encL ay p0)]) :
  Calls Tryz.prog 177 [.iface 194 (.pointer (some ⟨bq0,0,none⟩)),vI p1,vI p2].toArray W fun e W2 => ∃ x : (Option Addr × Nat × Nat),x.2.1 = res.2.length ∧ e = .returned (.bool res.1) ∧ Ext w0 W2 [R,ai bq0 198 [.slice x.1 x.2.1 x.2.2],aL x.1 x.2.2 196 3 x.2.1 (encL ay res.2)]:=by
 subst hn0_0
 unfold cU at h
 refine a8 (m:=48) Tryz.func177 rfl rfl (nB rfl) hW (cS (cR (oY rfl (yAB rfl) (oN (eT (cS (cR (oY rfl (yMI rfl) (oY rfl (yAI rfl) (oN (eT (cS (cB ?_)))))))))))))
 obtain ⟨u4,hl25,h⟩:=bOs h
 refine ba (fun (s:(Int × (List Twait))) L tm => ∃ (tm0:Nat → Value),p0.length = s.2.length ∧ L = [R,ai bq0 198 [.slice Aa p0.length ca],aL Aa ca 196 3 p0.length (encL ay s.2)] ∧ tm = (upd (upd (upd (upd (upd tm0 0 (.iface 194 (.pointer (some ⟨bq0,0,none⟩)))) 1 (vI p1)) 2 (vI p2)) 6 (.bool false)) 7 (vI s.1))) 0 hl25 ⟨_,rfl,rfl,(kp4 (kp rfl))⟩ ?_ ?_
 ·rintro s3 L tm st ⟨tm0_s3,hn2_s3,rfl,rfl⟩ h
  unfold cY at h
  refine cB (cS (cR (oY rfl (yMI rfl) (oY rfl (y_mul rfl rfl) (oY rfl (aT rfl rfl) (oY rfl (yAI rfl) (oN (eT (cS (cS (cR (oY rfl (yMI rfl) (oY rfl (yMI rfl) (oY rfl (oR rfl rfl) (oY rfl (yMB rfl) ?_)))))))))))))))
  refine oJ 3 (fun tm0 => (upd (upd (upd (upd (upd (upd (upd tm0 0 (.iface 194 (.pointer (some ⟨bq0,0,none⟩)))) 1 (vI p1)) 2 (vI p2)) 6 (.bool false)) 7 (vI s3.1)) 8 (vI (w64 ((w64 (2 * s3.1)) + 1)))) 21 (.bool ((decide (p2 ≤ w64 ((w64 (2 * s3.1)) + 1))) || (decide (w64 ((w64 (2 * s3.1)) + 1) < 0)))))) (fun tm0 => ?_) (fun key => ?_)
  ·refine oN (eT ?_)
   rcases iOs h with ⟨hp6,h⟩ | ⟨hp6,h⟩
   ·refine cT (vB hp6) (aH (ag (ia rfl ?_)))
    obtain rfl:=sI h
    exact ax ⟨rfl,_,hn2_s3,rfl,(kp4 (kp rfl))⟩
   ·refine cF (vB hp6) (cK (eT (cS (cR (oY rfl (yMI rfl) (oY rfl (yAI rfl) (oN (eT (cS (cS (cR (oY rfl (yMI rfl) (oY rfl (aT rfl rfl) (oY rfl (yAI rfl) (oN (eT (cS (cR (oY rfl (yMI rfl) (oY rfl (yMI rfl) (oY rfl (bj rfl rfl) (oY rfl (yMB rfl) ?_))))))))))))))))))))))
    obtain ⟨b8,hb9,h⟩:=bOs h
    refine oJ 5 (fun tm0 => (upd (upd (upd (upd (upd (upd (upd (upd (upd (upd tm0 0 (.iface 194 (.pointer (some ⟨bq0,0,none⟩)))) 1 (vI p1)) 2 (vI p2)) 6 (.bool false)) 7 (vI s3.1)) 8 (vI (w64 ((w64 (2 * s3.1)) + 1)))) 21 (.bool ((decide (p2 ≤ w64 ((w64 (2 * s3.1)) + 1))) || (decide (w64 ((w64 (2 * s3.1)) + 1) < 0))))) 9 (vI (w64 ((w64 (2 * s3.1)) + 1)))) 10 (vI (w64 ((w64 ((w64 (2 * s3.1)) + 1)) + 1)))) 33 (.bool b8))) (fun tm0 => ?_) (fun key => ?_)
    ·refine oN (eT ?_)
     rcases iOs h with ⟨hp10,h⟩ | ⟨hp10,h⟩
     ·refine cT (vB hp10) (cR (oY rfl (yMI rfl) (oY rfl (yAI rfl) (oN (eT (cS (cS (cR (oY rfl (bR (v:=.iface 194 (.pointer (some ⟨bq0,0,none⟩))) rfl) (oY rfl (yMI rfl) (oY rfl (yMI rfl) ?_)))))))))))
      obtain ⟨y11,hy12,h⟩:=bOs h
      refine oY rfl (kZ 1 [vI (w64 ((w64 ((w64 (2 * s3.1)) + 1)) + 1)),vI s3.1] rfl jZ j9 jl sb rfl rfl (fun W2 hW2 => ef s3.2 (w64 ((w64 ((w64 (2 * s3.1)) + 1)) + 1)) s3.1 y11 hy12 W2 Aa p0.length ca (hn2_s3) ((RdL.row 2 rfl) W2 hW2))) (oY rfl (bQ rfl) (oN (eT ?_)))
      rcases iOs h with ⟨hp13,h⟩ | ⟨hp13,h⟩
      ·refine cT (vB hp13) (aH (ag (ia rfl ?_)))
       obtain rfl:=sI h
       exact ax ⟨rfl,_,hn2_s3,rfl,(kp4 (kp rfl))⟩
      ·refine cF (vB hp13) (cK (eT (cS (cR (oY rfl (bR (v:=.iface 194 (.pointer (some ⟨bq0,0,none⟩))) rfl) (oY rfl (yMI rfl) (oY rfl (yMI rfl) ?_)))))))
       obtain ⟨y14,hy15,h⟩:=bOs h
       refine kX [2] [.slice Aa p0.length ca] [vI s3.1,vI (w64 ((w64 ((w64 (2 * s3.1)) + 1)) + 1))] [] (fun (_:Unit) => p0.length = y14.length) (fun _ => .tuple #[]) (fun _ => [aL Aa ca 196 3 p0.length (encL ay y14)]) (fun _ => []) (Foc.c1 rfl) (by decide) rfl mK (exM_V 1 rfl jH j9 jl mK rfl) rfl (fun _ => rfl) (fun W2 hW2 => ee s3.2 s3.1 (w64 ((w64 ((w64 (2 * s3.1)) + 1)) + 1)) y14 hy15 W2 _ (bB [R,ai bq0 198 [.slice Aa p0.length ca],aL Aa ca 196 3 p0.length (encL ay s3.2)] [2]) Aa p0.length ca (hn2_s3) hW2) ?_
       rintro - hn16
       try dsimp only [ll,lsz,lss,List.append_nil]
       refine oN (eT (cR (oY rfl (yMI rfl) (oY rfl (yAI rfl) (oN (aw ?_))))))
       obtain rfl:=sI h
       exact eN ⟨_,hn16,rfl,(kp4 (kp rfl))⟩
     ·refine cF (vB hp10) (cK (eT (cS (cS (cR (oY rfl (bR (v:=.iface 194 (.pointer (some ⟨bq0,0,none⟩))) rfl) (oY rfl (yMI rfl) (oY rfl (yMI rfl) ?_))))))))
      obtain ⟨y17,hy18,h⟩:=bOs h
      refine oY rfl (kZ 1 [vI (w64 ((w64 (2 * s3.1)) + 1)),vI s3.1] rfl jZ j9 jl sb rfl rfl (fun W2 hW2 => ef s3.2 (w64 ((w64 (2 * s3.1)) + 1)) s3.1 y17 hy18 W2 Aa p0.length ca (hn2_s3) ((RdL.row 2 rfl) W2 hW2))) (oY rfl (bQ rfl) (oN (eT ?_)))
      rcases iOs h with ⟨hp19,h⟩ | ⟨hp19,h⟩
      ·refine cT (vB hp19) (aH (ag (ia rfl ?_)))
       obtain rfl:=sI h
       exact ax ⟨rfl,_,hn2_s3,rfl,(kp4 (kp rfl))⟩
      ·refine cF (vB hp19) (cK (eT (cS (cR (oY rfl (bR (v:=.iface 194 (.pointer (some ⟨bq0,0,none⟩))) rfl) (oY rfl (yMI rfl) (oY rfl (yMI rfl) ?_)))))))
       obtain ⟨y20,hy21,h⟩:=bOs h
       refine kX [2] [.slice Aa p0.length ca] [vI s3.1,vI (w64 ((w64 (2 * s3.1)) + 1))] [] (fun (_:Unit) => p0.length = y20.length) (fun _ => .tuple #[]) (fun _ => [aL Aa ca 196 3 p0.length (encL ay y20)]) (fun _ => []) (Foc.c1 rfl) (by decide) rfl mK (exM_V 1 rfl jH j9 jl mK rfl) rfl (fun _ => rfl) (fun W2 hW2 => ee s3.2 s3.1 (w64 ((w64 (2 * s3.1)) + 1)) y20 hy21 W2 _ (bB [R,ai bq0 198 [.slice Aa p0.length ca],aL Aa ca 196 3 p0.length (encL ay s3.2)] [2]) Aa p0.length ca (hn2_s3) hW2) ?_
       rintro - hn22
       try dsimp only [ll,lsz,lss,List.append_nil]
       refine oN (eT (cR (oY rfl (yMI rfl) (oY rfl (yAI rfl) (oN (aw ?_))))))
       obtain rfl:=sI h
       exact eN ⟨_,hn22,rfl,(kp4 (kp rfl))⟩
    ·clear h; rcases iOs hb9 with ⟨hp7,h⟩ | ⟨hp7,h⟩
     ·refine oY (sT rfl rfl rfl rfl hp7) (bR (v:=.iface 194 (.pointer (some ⟨bq0,0,none⟩))) rfl) (oY (sT rfl rfl rfl rfl hp7) (yMI rfl) (oY (sT rfl rfl rfl rfl hp7) (yMI rfl) ?_))
      obtain ⟨y23,hy24,h⟩:=bOs h
      refine oY (sT rfl rfl rfl rfl hp7) (kZ 1 [vI (w64 ((w64 ((w64 (2 * s3.1)) + 1)) + 1)),vI (w64 ((w64 (2 * s3.1)) + 1))] rfl jZ j9 jl sb rfl rfl (fun W2 hW2 => ef s3.2 (w64 ((w64 ((w64 (2 * s3.1)) + 1)) + 1)) (w64 ((w64 (2 * s3.1)) + 1)) y23 hy24 W2 Aa p0.length ca (hn2_s3) ((RdL.row 2 rfl) W2 hW2))) (oY rfl (ab (vB hp7) rfl) ?_)
      obtain rfl:=sI h
      exact key _ _ (kp4 (kp4 (kp (kp rfl))))
     ·refine oSk (sF rfl rfl rfl rfl hp7) (oSk (sF rfl rfl rfl rfl hp7) (oSk (sF rfl rfl rfl rfl hp7) (oSk (sF rfl rfl rfl rfl hp7) (oY rfl (ad (vB hp7) rfl) ?_))))
      obtain rfl:=sI h
      exact key _ _ (kp4 (kp4 (kp (kp rfl))))
  ·rcases ao (decide (p2 ≤ w64 ((w64 (2 * s3.1)) + 1))) with hp5 | hp5
   ·refine oSk (sF rfl rfl rfl rfl hp5) (oSk (sF rfl rfl rfl rfl hp5) (oY rfl (ab (vB hp5) rfl) ?_))
    exact key _ _ (keep (keep (keep (keep (keep (keep (keep rfl rfl) rfl) rfl) rfl) rfl) rfl) (vB (jf hp5)))
   ·refine oY (sT rfl rfl rfl rfl hp5) (yMI rfl) (oY (sT rfl rfl rfl rfl hp5) (bj rfl rfl) (oY rfl (ad (vB hp5) rfl) ?_))
    exact key _ _ (keep (keep (keep (keep (keep (keep (keep rfl rfl) rfl) rfl) rfl) rfl) rfl) (vB (jg hp5)))
 ·intro e L tm hJ
  obtain ⟨rfl,tm0_u4,hn2_u4,rfl,rfl⟩:=hJ
  refine ⟨(by intro hc; cases hc),?_⟩
  refine ac (eT (cS (cR (oY rfl (yMI rfl) (oY rfl (yMI rfl) (oY rfl (gK rfl rfl) (oY rfl (yAB rfl) (oN (eT (am ?_))))))))))
  obtain rfl:=sI h
  exact al (.inl rfl) rfl (rVt (v:=.bool (decide (p1 < u4.1))) rfl) (fun W2 hW2 => ⟨(Aa,p0.length,ca),hn2_u4,rfl,hW2.take 3⟩)
theorem ms (p0:(List Twait)) (res:(Twait × (List Twait))) (h:gA p0 = some res) (W:World) (w0:World) (R:Res) (bq0:Nat) (Aa:Option Addr) (n0_0 ca : Nat) (hn0_0:n0_0 = p0.length) (hW:Ext w0 W [R,ai bq0 198 [.slice Aa n0_0 ca],aL Aa ca 196 3 n0_0 (encL ay p0)]) :
  Calls Tryz.prog 213 [.pointer (some ⟨bq0,0,none⟩)].toArray W fun e W2 => ∃ x : (Option Addr × Nat × Nat),x.2.1 = res.2.length ∧ e = .returned (.iface 196 (.agg #[vI res.1.f_at,vI res.1.f_stop.f_place,vI res.1.f_stop.f_toll])) ∧ Ext w0 W2 [R,ai bq0 198 [.slice x.1 x.2.1 x.2.2],aL x.1 x.2.2 196 3 x.2.1 (encL ay res.2)]:=by
 subst hn0_0
 unfold gA at h
 refine a8 (m:=23) Tryz.func213 rfl rfl (nB rfl) hW (cS (cR (oY rfl (gC (v:=.nilIface) rfl) (oN (eT (cS (cR (oY rfl (kU rfl) (oY rfl (jm rfl) (oY rfl (yL 1 jl rfl rfl rfl) (oY rfl (yAS rfl) (oN (eT (cS (cR (oY rfl (yMS rfl) (oY rfl (yMS rfl) (oY rfl (bp (us:=[]) o5 rfl) (oY rfl (eH rfl rfl) ?_)))))))))))))))))))
 obtain ⟨hg1,h⟩:=gOs h
 refine oY rfl (yI mS (by decide) hg1.1 hg1.2 (RdL.row 2 rfl) (eL aS rfl) rfl rfl) ?_
 refine oY rfl (yM (A:=Aa) (j:=(Int.toNat (w64 ((p0.length:Int) - 1)) * 3)) [vI ((rdL p0 (w64 ((p0.length:Int) - 1))).f_at),vI ((rdL p0 (w64 ((p0.length:Int) - 1))).f_stop.f_place),vI ((rdL p0 (w64 ((p0.length:Int) - 1))).f_stop.f_toll)] rO (Nat.succ_pos _) (RdL.row 2 rfl) rfl (bl aS hg1.1 (ah hg1.2 rfl))) ?_
 refine aE oo rfl (fun b2 => ?_)
 refine cr rfl (yS 3 [vI ((rdL p0 (w64 ((p0.length:Int) - 1))).f_at),vI ((rdL p0 (w64 ((p0.length:Int) - 1))).f_stop.f_place),vI ((rdL p0 (w64 ((p0.length:Int) - 1))).f_stop.f_toll)] r9 rfl (nB rfl) rfl rfl rfl) (oN (eT (cS (cR (oY rfl (kU rfl) (oY rfl (yMS rfl) (oY rfl (yMS rfl) (oY rfl (bp (us:=[]) o5 rfl) (oY rfl (eH rfl rfl) ?_)))))))))
 obtain ⟨hg3,h⟩:=gOs h
 refine oY rfl (o9 mS hg3.1 hg3.2 (RdL.row 2 rfl) rfl rfl) (oY rfl (jm rfl) (ox_headR 2 aS rfl (Int.toNat_le.2 hg3.2) (cr rfl (dt 1 (v:=.slice Aa (Int.toNat (w64 ((p0.length:Int) - 1))) ca) sz_198 rfl (Nat.lt_of_lt_of_le (Nat.lt_succ_self _) (nB rfl)) rfl rfl rfl) (oN (eT (cS (cR (oY rfl (yN 3 [vI ((rdL p0 (w64 ((p0.length:Int) - 1))).f_at),vI ((rdL p0 (w64 ((p0.length:Int) - 1))).f_stop.f_place),vI ((rdL p0 (w64 ((p0.length:Int) - 1))).f_stop.f_toll)] rO rfl rfl rfl) (oY rfl (jJ pI rfl) (oY rfl (gC (v:=.iface 196 (.agg #[vI ((rdL p0 (w64 ((p0.length:Int) - 1))).f_at),vI ((rdL p0 (w64 ((p0.length:Int) - 1))).f_stop.f_place),vI ((rdL p0 (w64 ((p0.length:Int) - 1))).f_stop.f_toll)])) rfl) (oN (eT (am ?_)))))))))))))
 obtain rfl:=sI h
 exact al (.inl rfl) rfl (rVt (v:=.iface 196 (.agg #[vI ((rdL p0 (w64 ((p0.length:Int) - 1))).f_at),vI ((rdL p0 (w64 ((p0.length:Int) - 1))).f_stop.f_place),vI ((rdL p0 (w64 ((p0.length:Int) - 1))).f_stop.f_toll)])) rfl) (fun W2 hW2 => ⟨(Aa,Int.toNat (w64 ((p0.length:Int) - 1)),ca),(jV hg3.2 rfl),rfl,hW2.take 3⟩)
theorem kk (p0:(List Twait)) (res:(Twait × (List Twait))) (h:dg p0 = some res) (W:World) (w0:World) (R:Res) (bq0:Nat) (Aa:Option Addr) (n0_0 ca : Nat) (hn0_0:n0_0 = p0.length) (hW:Ext w0 W [R,ai bq0 198 [.slice Aa n0_0 ca],aL Aa ca 196 3 n0_0 (encL ay p0)]) :
  Calls Tryz.prog 148 [.iface 194 (.pointer (some ⟨bq0,0,none⟩))].toArray W fun e W2 => ∃ x : (Option Addr × Nat × Nat),x.2.1 = res.2.length ∧ e = .returned (.iface 196 (.agg #[vI res.1.f_at,vI res.1.f_stop.f_place,vI res.1.f_stop.f_toll])) ∧ Ext w0 W2 [R,ai bq0 198 [.slice x.1 x.2.1 x.2.2],aL x.1 x.2.2 196 3 x.2.1 (encL ay res.2)]:=by
 subst hn0_0
 unfold dg at h
 refine a8 (m:=15) Tryz.func148 rfl rfl (nB rfl) hW (cS (cR (oY rfl (gC (v:=.nilIface) rfl) (oN (eT (cS (cR (oY rfl (bR (v:=.iface 194 (.pointer (some ⟨bq0,0,none⟩))) rfl) ?_))))))))
 obtain ⟨y1,hy2,h⟩:=bOs h
 refine oY rfl (kZ 1 [] rfl pf j9 jl go_147 rfl rfl (fun W2 hW2 => gx p0 y1 hy2 W2 Aa p0.length ca rfl ((RdL.row 2 rfl) W2 hW2))) (oY rfl (eH rfl rfl) (oY rfl (yAI rfl) (oN (eT (cS (cR (oY rfl (bR (v:=.iface 194 (.pointer (some ⟨bq0,0,none⟩))) rfl) (oY rfl (yMI rfl) ?_))))))))
 obtain ⟨y3,hy4,h⟩:=bOs h
 refine kX [2] [.slice Aa p0.length ca] [vI 0,vI (w64 (y1 - 1))] [] (fun (_:Unit) => p0.length = y3.length) (fun _ => .tuple #[]) (fun _ => [aL Aa ca 196 3 p0.length (encL ay y3)]) (fun _ => []) (Foc.c1 rfl) (by decide) rfl mK (exM_V 1 rfl jH j9 jl mK rfl) rfl (fun _ => rfl) (fun W2 hW2 => ee p0 0 (w64 (y1 - 1)) y3 hy4 W2 _ (bB [R,ai bq0 198 [.slice Aa p0.length ca],aL Aa ca 196 3 p0.length (encL ay p0)] [2]) Aa p0.length ca rfl hW2) ?_
 rintro - hn5
 try dsimp only [ll,lsz,lss,List.append_nil]
 refine oN (eT (cS (cR (oY rfl (bR (v:=.iface 194 (.pointer (some ⟨bq0,0,none⟩))) rfl) (oY rfl (yMI rfl) ?_)))))
 obtain ⟨y6,hy7,h⟩:=bOs h
 refine gg [1,2] [] [.iface 194 (.pointer (some ⟨bq0,0,none⟩)),vI 0,vI (w64 (y1 - 1))] [] (fun (x:(Option Addr × Nat × Nat)) => x.2.1 = y6.2.length) (fun _ => .bool y6.1) (fun x => [ai bq0 198 [.slice x.1 x.2.1 x.2.2],aL x.1 x.2.2 196 3 x.2.1 (encL ay y6.2)]) (fun _ => []) (Foc.c2 rfl rfl) (by decide) rfl go_177 rfl rfl (fun _ => rfl) (fun W2 hW2 => ke y3 0 (w64 (y1 - 1)) y6 hy7 W2 _ (bB [R,ai bq0 198 [.slice Aa p0.length ca],aL Aa ca 196 3 p0.length (encL ay y3)] [1,2]) bq0 Aa p0.length ca (hn5) hW2) ?_
 rintro ⟨A8,n9,c10⟩ hn11
 replace hn11 : n9 = y6.2.length:=hn11; subst hn11
 try dsimp only [ll,lsz,lss,List.append_nil]
 refine oN (eT (cS (cR (oY rfl (bR (v:=.iface 194 (.pointer (some ⟨bq0,0,none⟩))) rfl) ?_))))
 obtain ⟨y12,hy13,h⟩:=bOs h
 refine kX [1,2] [.pointer (some ⟨bq0,0,none⟩)] [] [] (fun (x:(Option Addr × Nat × Nat)) => x.2.1 = y12.2.length) (fun _ => .iface 196 (.agg #[vI y12.1.f_at,vI y12.1.f_stop.f_place,vI y12.1.f_stop.f_toll])) (fun x => [ai bq0 198 [.slice x.1 x.2.1 x.2.2],aL x.1 x.2.2 196 3 x.2.1 (encL ay y12.2)]) (fun _ => []) (Foc.c2 rfl rfl) (by decide) rfl go_213 (exM_P tg j9 go_213 rfl) rfl (fun _ => rfl) (fun W2 hW2 => ms y6.2 y12 hy13 W2 _ (bB [R,ai bq0 198 [.slice A8 y6.2.length c10],aL A8 c10 196 3 y6.2.length (encL ay y6.2)] [1,2]) bq0 A8 y6.2.length c10 rfl hW2) ?_
 rintro ⟨A14,n15,c16⟩ hn17
 replace hn17 : n15 = y12.2.length:=hn17; subst hn17
 try dsimp only [ll,lsz,lss,List.append_nil]
 refine oY rfl (gC (v:=.iface 196 (.agg #[vI y12.1.f_at,vI y12.1.f_stop.f_place,vI y12.1.f_stop.f_toll])) rfl) (oN (eT (am ?_)))
 obtain rfl:=sI h
 exact al (.inl rfl) rfl (rVt (v:=.iface 196 (.agg #[vI y12.1.f_at,vI y12.1.f_stop.f_place,vI y12.1.f_stop.f_toll])) rfl) (fun W2 hW2 => ⟨(A14,y12.2.length,c16),rfl,rfl,hW2.take 3⟩)
theorem mu (x:TR × Int) (hok:fN x) (b1 b2 : Nat) (A:Option Addr) (n c : Nat) (ys:List (Hd × TT)) (hn:n = x.1.fTracks.length) (hP:NestP (fun z : TT => z.fK) ys x.1.fTracks) :
  SeqH Tryz.prog 178 [.pointer (some ⟨b1,0,none⟩),.pointer (some ⟨b2,0,none⟩)] (fun y : {y : Hd × TT // y ∈ ys} => [.agg #[vI y.1.2.fID,vI y.1.2.fFrom,vI y.1.2.fTo,vI y.1.2.fLong,vI y.1.2.fToll,.slice y.1.1.1 y.1.1.2.1 y.1.1.2.2]])
   (fun W => W.heap[b1]? = some (.cells #[vI x.1.fPlaces,.slice A n c] 24 (0,0)) ∧ W.heap[b2]? = some (.cells #[vI x.2] 3 (0,0)) ∧ Rd W A n c (encL TTrack_cells2 ys)) (seqE ys fun z => z.fFrom == x.2):=by
 intro l J Jx W hJ hJx hH hy h0
 have hl : n = ys.length:=by rw [hn,← hP.eq,List.length_map]
 have hlen : ys.length = x.1.fTracks.length:=hl ▸ hn
 subst hl
 unfold fN at hok
 have hJE : ∀ {i : Nat} {A B : World},J i A → Ext A B [] → J i B:=fun {i A B} hA hE => AbidesFrom.ext hJ hA hE
 have hxE : ∀ {A B : World},Jx A → Ext A B [] → Jx B:=fun {A B} hA hE => AbidesFrom.ext (J:=fun (_:Unit) => Jx) hJx (s:=()) hA hE
 have hH0:=hH 0 W h0
 obtain ⟨dn,hdn⟩ : ∃ dn : Nat → Nat,∀ s,dn s = ((ys.attach.take s).filter fun y => y.1.2.fFrom == x.2).length:=⟨_,fun _ => rfl⟩
 have hd0 : dn 0 = 0:=by rw [hdn]; rfl
 have hdl : dn ys.length = (seqE ys fun z => z.fFrom == x.2).length:=by rw [hdn,← List.length_attach (l:=ys),List.take_length]; rfl
 refine pq (vs:=[.func (.yield l) #[] #[],.pointer (some ⟨b1,0,none⟩),.pointer (some ⟨b2,0,none⟩)]) (m:=24) Tryz.func178 rfl rfl (nB rfl) (cS (cR (oY rfl (yFR (A:=(some ⟨b1,0,none⟩)) (j:=0) cq rfl) (oY rfl (yR (A:=(some ⟨b1,0,none⟩)) (j:=(0 + 1)) (v:=.slice A ys.length c) gG (RdL.arg (Rd.blk hH0.1)) rfl rfl) (oY rfl (bp (us:=[]) gF rfl) (oY rfl (yMI rfl) (oN (eT (cB ?_)))))))))
 refine cx_loopS (S:=Nat) (fun s tm0 => upd (upd (upd (upd (upd (upd tm0 0 (.func (.yield l) #[] #[])) 1 (.pointer (some ⟨b1,0,none⟩))) 2 (.pointer (some ⟨b2,0,none⟩))) 7 (.slice A ys.length c)) 8 (vI (ys.length:Int))) 9 (vI (s:Int)))
  (fun s W => J (dn s) W ∧ s ≤ ys.length) (fun s => ys.length - s) 0 _ (kp4 (kp (kp rfl)))
  (fun W' hW' => ⟨by rw [hd0]; exact hJE h0 hW',Nat.zero_le _⟩) ?_
 rintro s tm0 W1 ⟨hJ1,hs⟩
 obtain ⟨hR1,hR2,hR⟩:=hH (dn s) W1 hJ1
 refine cS (cR (oY rfl (bj rfl rfl) (oN (eT (cS ?_)))))
 rcases ao (decide ((s:Int) < (ys.length:Int))) with hq | hq
 ·have hlt : s < ys.length:=by have:=of_decide_eq_true hq; omega
  have h1 : (0:Int) ≤ (s:Int):=by omega
  have h2 : (s:Int) < (ys.length:Int):=by omega
  have hss : w64 ((s:Int) + 1) = ((s + 1 : Nat) : Int):=by rw [bL (by omega) (by omega)]; rfl
  have hrd : rdL ys (s:Int) = ys[s]:=by
   unfold rdL
   rw [Int.toNat_natCast,List.getD_eq_getElem?_getD,List.getElem?_eq_getElem hlt]; rfl
  have hmem : rdL ys (s:Int) ∈ ys:=by rw [hrd]; exact List.getElem_mem hlt
  have hat : ys.attach[s]? = some ⟨rdL ys (s:Int),hmem⟩:=by
   rw [List.getElem?_eq_getElem (by rw [List.length_attach]; exact hlt),List.getElem_attach]
   exact congrArg some (Subtype.ext hrd.symm)
  have hdn1:=m3 (fun y : {y : Hd × TT // y ∈ ys} => y.1.2.fFrom == x.2) ys.attach s _ hat
  rw [← hdn,← hdn] at hdn1
  dsimp only at hdn1
  refine cT (vB hq) (cK (eT (cS (cB (cS (cR ?_))))))
  refine oY rfl (yI jP (by decide) h1 h2 (RdL.arg hR) (eL au rfl) rfl rfl) ?_
  refine oY rfl (yM (A:=A) (j:=(Int.toNat (s:Int) * 6)) [vI (rdL ys (s:Int)).2.fID,vI (rdL ys (s:Int)).2.fFrom,vI (rdL ys (s:Int)).2.fTo,vI (rdL ys (s:Int)).2.fLong,vI (rdL ys (s:Int)).2.fToll,.slice (rdL ys (s:Int)).1.1 (rdL ys (s:Int)).1.2.1 (rdL ys (s:Int)).1.2.2] i8 (Nat.succ_pos _) (RdL.arg hR) rfl (bl au h1 (ah h2 rfl))) ?_
  refine aE gp rfl (fun b6 => ?_)
  refine cr rfl (yS 0 [vI (rdL ys (s:Int)).2.fID,vI (rdL ys (s:Int)).2.fFrom,vI (rdL ys (s:Int)).2.fTo,vI (rdL ys (s:Int)).2.fLong,vI (rdL ys (s:Int)).2.fToll,.slice (rdL ys (s:Int)).1.1 (rdL ys (s:Int)).1.2.1 (rdL ys (s:Int)).1.2.2] pk rfl (nB rfl) rfl rfl rfl) (oN (eT (cS (cR (oY rfl (yFA jN rfl) (oY rfl (yL 0 aV rfl rfl rfl) (oY rfl (yR (A:=(some ⟨b2,0,none⟩)) (j:=0) (v:=vI x.2) aV (RdL.arg (Rd.blk hR2)) rfl rfl) (oY rfl (da rfl rfl) (oY rfl (yMB rfl) ?_)))))))))
  rcases ao ((rdL ys (s:Int)).2.fFrom == x.2) with hp | hp
  ·refine oY (sT rfl rfl rfl rfl hp) (bR (v:=.func (.yield l) #[] #[]) rfl) (oY (sT rfl rfl rfl rfl hp) (yN 0 [vI (rdL ys (s:Int)).2.fID,vI (rdL ys (s:Int)).2.fFrom,vI (rdL ys (s:Int)).2.fTo,vI (rdL ys (s:Int)).2.fLong,vI (rdL ys (s:Int)).2.fToll,.slice (rdL ys (s:Int)).1.1 (rdL ys (s:Int)).1.2.1 (rdL ys (s:Int)).1.2.2] i8 rfl rfl rfl) ?_)
   have hget : (seqE ys fun z => z.fFrom == x.2)[dn s]? = some ⟨rdL ys (s:Int),hmem⟩:=by
    rw [hdn]
    exact qQ _ _ _ _ hat hp
   rw [if_pos hp] at hdn1
   refine ox_yield [.agg #[vI (rdL ys (s:Int)).2.fID,vI (rdL ys (s:Int)).2.fFrom,vI (rdL ys (s:Int)).2.fTo,vI (rdL ys (s:Int)).2.fLong,vI (rdL ys (s:Int)).2.fToll,.slice (rdL ys (s:Int)).1.1 (rdL ys (s:Int)).1.2.1 (rdL ys (s:Int)).1.2.2]] (A:=fun W' => J (dn s + 1) W') (B:=Jx) (sT rfl rfl rfl rfl hp) rfl rfl (fun W' hW' => ?_) (fun W' hA => ?_) (fun W' hB => ?_)
   ·exact hy (dn s) ⟨rdL ys (s:Int),hmem⟩ W' hget (hJE hJ1 hW'.none)
   ·refine oY (sT rfl rfl rfl rfl hp) (bQ rfl) (oY rfl (ab (vB hp) rfl) (oN (eT (cF rfl (cK (aw (eT (cR (oY rfl (aT rfl rfl) (oY rfl (yMI rfl) (oN ?_)))))))))))
    rw [hss]
    exact rJ (s + 1) _ (kp4 (kp (kp rfl))) (by omega) (fun W3 hW3 => ⟨by rw [hdn1]; exact hJE hA hW3,by omega⟩)
   ·refine oY (sT rfl rfl rfl rfl hp) (bQ rfl) (oY rfl (ab (vB hp) rfl) (oN (eT (cT rfl (am (ak (aa ?_)))))))
    refine ex_sout (by intro h; cases h) ?_
    refine ak ?_
    exact cH (.inl rfl) rfl (fun W2 hW2 => ⟨⟨_,rfl⟩,.inr (hxE hB hW2)⟩)
  ·rw [if_neg (by rw [hp]; simp),Nat.add_zero] at hdn1
   refine oSk (sF rfl rfl rfl rfl hp) (oSk (sF rfl rfl rfl rfl hp) (oSk (sF rfl rfl rfl rfl hp) (oSk (sF rfl rfl rfl rfl hp) (oY rfl (ad (vB hp) rfl) (oN (eT (cF rfl (cK (aw (eT (cR (oY rfl (aT rfl rfl) (oY rfl (yMI rfl) (oN ?_))))))))))))))
   rw [hss]
   exact rJ (s + 1) _ (kp4 (kp (kp rfl))) (by omega) (fun W3 hW3 => ⟨by rw [hdn1]; exact hJE hJ1 hW3.none,by omega⟩)
 ·have hge : s = ys.length:=by have:=of_decide_eq_false hq; omega
  refine cF (vB hq) (aH (ag ?_))
  refine ex_sout (by intro h; cases h) ?_
  refine ac ?_
  exact cH (.inr rfl) rfl (fun W2 hW2 => ⟨⟨_,rfl⟩,.inl (by rw [← hdl,← hge]; exact hJE hJ1 hW2)⟩)
theorem oU (p0:TR) (p1:Int) (res:Unit) (h:jX p0 p1 = some res) (W:World) (Ab:Option Addr) (n0_1 cb : Nat) (ys0_1:List (Hd × TT)) (hn0_1:n0_1 = p0.fTracks.length) (hr0_1:Rd W Ab n0_1 cb (encL TTrack_cells2 ys0_1)) (hN0_1:NestW W (fun z : TT => z.fK) TSpan_cells ys0_1 p0.fTracks) :
  Calls Tryz.prog 149 [.agg #[vI p0.fPlaces,.slice Ab n0_1 cb],vI p1].toArray W fun e W2 => ∃ x : (Nat × Nat),e = .returned (.func (.func 178) #[] #[.pointer (some ⟨x.1,0,none⟩),.pointer (some ⟨x.2,0,none⟩)]) ∧ Ext W W2 [ai x.1 24 [vI p0.fPlaces,.slice Ab n0_1 cb],ai x.2 3 [vI p1]]:=by
 subst hn0_1
 unfold jX at h
 refine ae (m:=6) Tryz.func149 rfl rfl (nB rfl) (cS (cR ?_))
 refine aW [vI p0.fPlaces,.slice Ab p0.fTracks.length cb] rfl rfl rfl (fun b1 => ?_)
 refine aW [vI p1] rfl rfl rfl (fun b2 => ?_)
 refine oY rfl (mU rfl) (oN (eT (cS (cR (oY rfl (ct [.pointer (some ⟨b1,0,none⟩),.pointer (some ⟨b2,0,none⟩)] rfl rfl) (oY rfl (eV rfl) (oN (eT (am ?_)))))))))
 obtain rfl:=sI h
 exact al (.inl rfl) rfl (rVt (v:=.func (.func 178) #[] #[.pointer (some ⟨b1,0,none⟩),.pointer (some ⟨b2,0,none⟩)]) rfl) (fun W2 hW2 => ⟨(b1,b2),rfl,hW2⟩)
theorem la (p0:(List Twait)) (p1:Int) (res:(List Twait)) (h:dA p0 p1 = some res) (W:World) (w0:World) (R:Res) (bq0:Nat) (Aa:Option Addr) (n0_0 ca : Nat) (hn0_0:n0_0 = p0.length) (hW:Ext w0 W [R,ai bq0 198 [.slice Aa n0_0 ca],aL Aa ca 196 3 n0_0 (encL ay p0)]) :
  Calls Tryz.prog 179 [.iface 194 (.pointer (some ⟨bq0,0,none⟩)),vI p1].toArray W fun e W2 => ∃ x : (Option Addr × Nat × Nat),x.2.1 = res.length ∧ e = .returned (.tuple #[]) ∧ Ext w0 W2 [R,ai bq0 198 [.slice x.1 x.2.1 x.2.2],aL x.1 x.2.2 196 3 x.2.1 (encL ay res)]:=by
 subst hn0_0
 unfold dA at h
 refine a8 (m:=23) Tryz.func179 rfl rfl (nB rfl) hW (cB ?_)
 obtain ⟨u4,hl14,h⟩:=bOs h
 refine ba (fun (s:(Int × (List Twait))) L tm => ∃ (tm0:Nat → Value),p0.length = s.2.length ∧ L = [R,ai bq0 198 [.slice Aa p0.length ca],aL Aa ca 196 3 p0.length (encL ay s.2)] ∧ tm = (upd (upd tm0 0 (.iface 194 (.pointer (some ⟨bq0,0,none⟩)))) 1 (vI s.1))) 0 hl14 ⟨_,rfl,rfl,(kp (kp rfl))⟩ ?_ ?_
 ·rintro s3 L tm st ⟨tm0_s3,hn2_s3,rfl,rfl⟩ h
  unfold dq at h
  refine cB (cS (cR (oY rfl (yMI rfl) (oY rfl (eH rfl rfl) ?_))))
  refine oY rfl (y_quo (by decide) rfl rfl) ?_
  refine oY rfl (yAI rfl) (oN (eT (cS (cS (cR (oY rfl (yMI rfl) (oY rfl (yMI rfl) (oY rfl (da rfl rfl) (oY rfl (yMB rfl) ?_)))))))))
  obtain ⟨b6,hb7,h⟩:=bOs h
  refine oJ 6 (fun tm0 => (upd (upd (upd (upd tm0 0 (.iface 194 (.pointer (some ⟨bq0,0,none⟩)))) 1 (vI s3.1)) 4 (vI (w64 (Int.tdiv (w64 (s3.1 - 1)) 2)))) 17 (.bool b6))) (fun tm0 => ?_) (fun key => ?_)
  ·refine oN (eT ?_)
   rcases iOs h with ⟨hp8,h⟩ | ⟨hp8,h⟩
   ·refine cT (vB hp8) (aH (ag (ia rfl ?_)))
    obtain rfl:=sI h
    exact ax ⟨rfl,_,hn2_s3,rfl,(kp (kp rfl))⟩
   ·refine cF (vB hp8) (cK (eT (cS (cR (oY rfl (bR (v:=.iface 194 (.pointer (some ⟨bq0,0,none⟩))) rfl) (oY rfl (yMI rfl) (oY rfl (yMI rfl) ?_)))))))
    obtain ⟨y9,hy10,h⟩:=bOs h
    refine kX [2] [.slice Aa p0.length ca] [vI (w64 (Int.tdiv (w64 (s3.1 - 1)) 2)),vI s3.1] [] (fun (_:Unit) => p0.length = y9.length) (fun _ => .tuple #[]) (fun _ => [aL Aa ca 196 3 p0.length (encL ay y9)]) (fun _ => []) (Foc.c1 rfl) (by decide) rfl mK (exM_V 1 rfl jH j9 jl mK rfl) rfl (fun _ => rfl) (fun W2 hW2 => ee s3.2 (w64 (Int.tdiv (w64 (s3.1 - 1)) 2)) s3.1 y9 hy10 W2 _ (bB [R,ai bq0 198 [.slice Aa p0.length ca],aL Aa ca 196 3 p0.length (encL ay s3.2)] [2]) Aa p0.length ca (hn2_s3) hW2) ?_
    rintro - hn11
    try dsimp only [ll,lsz,lss,List.append_nil]
    refine oN (eT (cR (oY rfl (yMI rfl) (oY rfl (yAI rfl) (oN (aw ?_))))))
    obtain rfl:=sI h
    exact eN ⟨_,hn11,rfl,(kp (kp rfl))⟩
  ·clear h; rcases iOs hb7 with ⟨hp5,h⟩ | ⟨hp5,h⟩
   ·refine oSk (sF rfl rfl rfl rfl hp5) (oSk (sF rfl rfl rfl rfl hp5) (oSk (sF rfl rfl rfl rfl hp5) (oSk (sF rfl rfl rfl rfl hp5) (oSk (sF rfl rfl rfl rfl hp5) (oY rfl (ab (vB hp5) rfl) ?_)))))
    obtain rfl:=sI h
    exact key _ _ (kp4 rfl)
   ·refine oY (sT rfl rfl rfl rfl hp5) (bR (v:=.iface 194 (.pointer (some ⟨bq0,0,none⟩))) rfl) (oY (sT rfl rfl rfl rfl hp5) (yMI rfl) (oY (sT rfl rfl rfl rfl hp5) (yMI rfl) ?_))
    obtain ⟨y12,hy13,h⟩:=bOs h
    refine oY (sT rfl rfl rfl rfl hp5) (kZ 1 [vI s3.1,vI (w64 (Int.tdiv (w64 (s3.1 - 1)) 2))] rfl jZ j9 jl sb rfl rfl (fun W2 hW2 => ef s3.2 s3.1 (w64 (Int.tdiv (w64 (s3.1 - 1)) 2)) y12 hy13 W2 Aa p0.length ca (hn2_s3) ((RdL.row 2 rfl) W2 hW2))) (oY (sT rfl rfl rfl rfl hp5) (bQ rfl) (oY rfl (ad (vB hp5) rfl) ?_))
    obtain rfl:=sI h
    exact key _ _ (kp4 rfl)
 ·intro e L tm hJ
  obtain ⟨rfl,tm0_u4,hn2_u4,rfl,rfl⟩:=hJ
  refine ⟨(by intro hc; cases hc),?_⟩
  refine ac ?_
  obtain rfl:=sI h
  exact cH (.inr rfl) rfl  (fun W2 hW2 => ⟨(Aa,p0.length,ca),hn2_u4,rfl,hW2.take 3⟩)
theorem l9 (p0:(List Twait)) (p1:Twait) (res:(List Twait)) (h:f8 p0 p1 = some res) (W:World) (w0:World) (R:Res) (bq0:Nat) (Aa:Option Addr) (n0_0 ca : Nat) (hn0_0:n0_0 = p0.length) (hW:Ext w0 W [R,ai bq0 198 [.slice Aa n0_0 ca],aL Aa ca 196 3 n0_0 (encL ay p0)]) :
  Calls Tryz.prog 214 [.pointer (some ⟨bq0,0,none⟩),.iface 196 (.agg #[vI p1.f_at,vI p1.f_stop.f_place,vI p1.f_stop.f_toll])].toArray W fun e W2 => ∃ x : (Option Addr × Nat × Nat),x.2.1 = res.length ∧ e = .returned (.tuple #[]) ∧ Ext w0 W2 [R,ai bq0 198 [.slice x.1 x.2.1 x.2.2],aL x.1 x.2.2 196 3 x.2.1 (encL ay res)]:=by
 subst hn0_0
 unfold f8 at h
 refine a8 (m:=13) Tryz.func214 rfl rfl (nB rfl) hW ?_
 obtain ⟨hg5,h⟩:=gOs h
 refine eF [[],[],[1],[1,2],[],[4],[4,5],[1,2,3,4,5,6],[0,1,2,3,4,5,6,7],[0,1,2,3,4,5,6,7,8]] [(none,0,[true,true,false]),(none,0,[true,true,true]),(none,0,[true,true,true]),(none,0,[true,true,true]),(none,0,[true,true,true]),(none,0,[true,true,true]),(none,1,[true,true,true]),(some 2,0,[true,true,true,true]),(none,0,[true,true,true,true]),(some 1,0,[true,true,true,true])] [⟨fun _ => .pointer (some ⟨bq0,0,none⟩),fun _ => noR,fun _ => []⟩,⟨fun _ => .pointer (some ⟨bq0,0,none⟩),fun _ => noR,fun _ => []⟩,⟨fun _ => .pointer (some ⟨bq0,0,none⟩),fun _ => noR,fun _ => []⟩,⟨fun _ => .slice Aa p0.length ca,fun _ => noR,fun _ => []⟩,⟨fun _ => .iface 196 (.agg #[vI p1.f_at,vI p1.f_stop.f_place,vI p1.f_stop.f_toll]),fun _ => noR,fun _ => []⟩,⟨fun _ => .agg #[vI p1.f_at,vI p1.f_stop.f_place,vI p1.f_stop.f_toll],fun _ => noR,fun _ => []⟩,⟨fun ξ1 => .slice (some ⟨(ξ1 6 0).2.1,0,none⟩) 1 1,fun _ => noR,fun ξ1 => [aL (some ⟨(ξ1 6 0).2.1,0,none⟩) 1 196 3 1 (encL ay [p1])]⟩,⟨fun ξ1 => .slice (ξ1 7 0).1 (p0.length + 1) (ξ1 7 0).2.2.1,fun ξ1 => aL (ξ1 7 0).1 (ξ1 7 0).2.2.1 196 3 (p0.length + 1) (encL ay (p0 ++ [p1])),fun _ => []⟩,⟨fun _ => .pointer (some ⟨bq0,0,none⟩),fun _ => noR,fun _ => []⟩,⟨fun _ => undef,fun ξ1 => ai bq0 198 [.slice (ξ1 7 0).1 (p0.length + 1) (ξ1 7 0).2.2.1],fun _ => []⟩] 3 cD (by kernel_rfl) (by kernel_rfl) ⟨⟨fun ξ1 ξ1' h => ⟨rfl,rfl,rfl⟩,fun _ => rfl⟩,⟨fun ξ1 ξ1' h => ⟨rfl,rfl,rfl⟩,fun _ => rfl⟩,⟨fun ξ1 ξ1' h => ⟨rfl,rfl,rfl⟩,fun _ => rfl⟩,⟨fun ξ1 ξ1' h => ⟨rfl,rfl,rfl⟩,fun _ => rfl⟩,⟨fun ξ1 ξ1' h => ⟨rfl,rfl,rfl⟩,fun _ => rfl⟩,⟨fun ξ1 ξ1' h => ⟨rfl,rfl,rfl⟩,fun _ => rfl⟩,⟨fun ξ1 ξ1' h => ⟨by simp only [h 6 (.inl rfl)],rfl,by simp only [h 6 (.inl rfl)]⟩,fun _ => rfl⟩,⟨fun ξ1 ξ1' h => ⟨by simp only [h 7 (.inl rfl)],by simp only [h 7 (.inl rfl)],rfl⟩,fun _ => rfl⟩,⟨fun ξ1 ξ1' h => ⟨rfl,rfl,rfl⟩,fun _ => rfl⟩,⟨fun ξ1 ξ1' h => ⟨rfl,by simp only [h 7 (.inr rfl)],rfl⟩,fun _ => rfl⟩,trivial⟩ rfl (fun ξ1 => ?_)
 refine bN rfl (fun L2 => ?_) ?_
 ·dsimp only [aF,lca,lna]
  refine oY rfl (kU rfl) (oN ?_)
  exact ap (fun _ => (none,0,0,[],noR)) rfl (List.append_nil _)
 dsimp only [bx,lsz,lss,lna,lca,List.append_nil]
 refine bN rfl (fun L2 => ?_) ?_
 ·dsimp only [aF,lca,lna]
  refine oY rfl (kU rfl) (oN ?_)
  exact ap (fun _ => (none,0,0,[],noR)) rfl (List.append_nil _)
 dsimp only [bx,lsz,lss,lna,lca,List.append_nil]
 refine bN rfl (fun L2 => ?_) ?_
 ·dsimp only [aF,lca,lna]
  refine oY rfl (jm rfl) (oN ?_)
  exact ap (fun _ => (none,0,0,[],noR)) rfl (List.append_nil _)
 dsimp only [bx,lsz,lss,lna,lca,List.append_nil]
 refine bN rfl (fun L2 => ?_) ?_
 ·dsimp only [aF,lca,lna]
  refine oY rfl (yL 1 jl rfl rfl rfl) (oN ?_)
  exact ap (fun _ => (none,0,0,[],noR)) rfl (List.append_nil _)
 dsimp only [bx,lsz,lss,lna,lca,List.append_nil]
 refine bN rfl (fun L2 => ?_) ?_
 ·dsimp only [aF,lca,lna]
  refine oY rfl (bR (v:=.iface 196 (.agg #[vI p1.f_at,vI p1.f_stop.f_place,vI p1.f_stop.f_toll])) rfl) (oN ?_)
  exact ap (fun _ => (none,0,0,[],noR)) rfl (List.append_nil _)
 dsimp only [bx,lsz,lss,lna,lca,List.append_nil]
 refine bN rfl (fun L2 => ?_) ?_
 ·dsimp only [aF,lca,lna]
  refine oY rfl (mO pI rfl) (oN ?_)
  exact ap (fun _ => (none,0,0,[],noR)) rfl (List.append_nil _)
 dsimp only [bx,lsz,lss,lna,lca,List.append_nil]
 refine bN rfl (fun L2 => ?_) ?_
 ·dsimp only [aF,lca,lna]
  refine aJ 1 (encL ay [p1]) _ se o5 oo by_196 (by decide) (by decide) (by kernel_rfl) (eL aS rfl) rfl (fun b2 => ?_)
  refine oN ?_
  exact ap (fun _ => (none,b2,0,[],noR)) rfl rfl
 dsimp only [bx,lsz,lss,lna,lca,List.append_nil]
 refine bN rfl (fun L2 => ?_) ?_
 ·dsimp only [aF,lca,lna]
  refine bE 2 o5 oo by_196 rfl rfl rfl (RdL.row 3 rfl) (eL aS rfl) (cv nz _) (cA hg5 (by decide)) rfl (fun A3 c4 => ?_)
  refine oN ?_
  first | exact ap (fun _ => (A3,0,c4,[],noR)) rfl rfl | exact ap (fun _ => (A3,0,c4,[],noR)) rfl (List.append_nil _)
 dsimp only [bx,lsz,lss,lna,lca,List.append_nil]
 refine bN rfl (fun L2 => ?_) ?_
 ·dsimp only [aF,lca,lna]
  refine oY rfl (jm rfl) (oN ?_)
  exact ap (fun _ => (none,0,0,[],noR)) rfl (List.append_nil _)
 dsimp only [bx,lsz,lss,lna,lca,List.append_nil]
 refine tr rfl (fun L2 => ?_) ?_
 ·dsimp only [aF,lca,lna]
  refine cr rfl (dt 1 (v:=.slice (ξ1 7 0).1 (p0.length + 1) (ξ1 7 0).2.2.1) sz_198 rfl (Nat.lt_of_lt_of_le (Nat.lt_succ_self _) (nB rfl)) rfl rfl rfl) (oN ?_)
  first | exact bP (fun _ => (none,0,0,[],noR)) rfl | exact bP (fun _ => (none,0,0,[],noR)) (List.append_nil _)
 dsimp only [bx,lsz,lss,lna,lca,List.append_nil]
 refine kx ?_
 obtain rfl:=sI h
 exact cH (.inr rfl) rfl  (fun W2 hW2 => ⟨((ξ1 7 0).1,(p0.length + 1),(ξ1 7 0).2.2.1),(gb rfl rfl),rfl,hW2.take 3⟩)
theorem kf (p0:(List Twait)) (p1:Twait) (res:(List Twait)) (h:cX p0 p1 = some res) (W:World) (w0:World) (R:Res) (bq0:Nat) (Aa:Option Addr) (n0_0 ca : Nat) (hn0_0:n0_0 = p0.length) (hW:Ext w0 W [R,ai bq0 198 [.slice Aa n0_0 ca],aL Aa ca 196 3 n0_0 (encL ay p0)]) :
  Calls Tryz.prog 150 [.iface 194 (.pointer (some ⟨bq0,0,none⟩)),.iface 196 (.agg #[vI p1.f_at,vI p1.f_stop.f_place,vI p1.f_stop.f_toll])].toArray W fun e W2 => ∃ x : (Option Addr × Nat × Nat),x.2.1 = res.length ∧ e = .returned (.tuple #[]) ∧ Ext w0 W2 [R,ai bq0 198 [.slice x.1 x.2.1 x.2.2],aL x.1 x.2.2 196 3 x.2.1 (encL ay res)]:=by
 subst hn0_0
 unfold cX at h
 refine a8 (m:=12) Tryz.func150 rfl rfl (nB rfl) hW (cS (cR (oY rfl (bR (v:=.iface 194 (.pointer (some ⟨bq0,0,none⟩))) rfl) (oY rfl (bR (v:=.iface 196 (.agg #[vI p1.f_at,vI p1.f_stop.f_place,vI p1.f_stop.f_toll])) rfl) ?_))))
 obtain ⟨y1,hy2,h⟩:=bOs h
 refine kX [1,2] [.pointer (some ⟨bq0,0,none⟩)] [.iface 196 (.agg #[vI p1.f_at,vI p1.f_stop.f_place,vI p1.f_stop.f_toll])] [] (fun (x:(Option Addr × Nat × Nat)) => x.2.1 = y1.length) (fun _ => .tuple #[]) (fun x => [ai bq0 198 [.slice x.1 x.2.1 x.2.2],aL x.1 x.2.2 196 3 x.2.1 (encL ay y1)]) (fun _ => []) (Foc.c2 rfl rfl) (by decide) rfl go_214 (exM_P rk j9 go_214 rfl) rfl (fun _ => rfl) (fun W2 hW2 => l9 p0 p1 y1 hy2 W2 _ (bB [R,ai bq0 198 [.slice Aa p0.length ca],aL Aa ca 196 3 p0.length (encL ay p0)] [1,2]) bq0 Aa p0.length ca rfl hW2) ?_
 rintro ⟨A3,n4,c5⟩ hn6
 replace hn6 : n4 = y1.length:=hn6; subst hn6
 try dsimp only [ll,lsz,lss,List.append_nil]
 refine oN (eT (cR (oY rfl (bR (v:=.iface 194 (.pointer (some ⟨bq0,0,none⟩))) rfl) (oY rfl (bR (v:=.iface 194 (.pointer (some ⟨bq0,0,none⟩))) rfl) ?_))))
 obtain ⟨y7,hy8,h⟩:=bOs h
 refine oY rfl (kZ 1 [] rfl pf j9 jl go_147 rfl rfl (fun W2 hW2 => gx y1 y7 hy8 W2 A3 y1.length c5 rfl ((RdL.row 2 rfl) W2 hW2))) (oY rfl (eH rfl rfl) ?_)
 obtain ⟨y9,hy10,h⟩:=bOs h
 refine gg [1,2] [] [.iface 194 (.pointer (some ⟨bq0,0,none⟩)),vI (w64 (y7 - 1))] [] (fun (x:(Option Addr × Nat × Nat)) => x.2.1 = y9.length) (fun _ => .tuple #[]) (fun x => [ai bq0 198 [.slice x.1 x.2.1 x.2.2],aL x.1 x.2.2 196 3 x.2.1 (encL ay y9)]) (fun _ => []) (Foc.c2 rfl rfl) (by decide) rfl go_179 rfl rfl (fun _ => rfl) (fun W2 hW2 => la y1 (w64 (y7 - 1)) y9 hy10 W2 _ (bB [R,ai bq0 198 [.slice A3 y1.length c5],aL A3 c5 196 3 y1.length (encL ay y1)] [1,2]) bq0 A3 y1.length c5 rfl hW2) ?_
 rintro ⟨A11,n12,c13⟩ hn14
 replace hn14 : n12 = y9.length:=hn14; subst hn14
 try dsimp only [ll,lsz,lss,List.append_nil]
 refine oN ?_
 obtain rfl:=sI h
 exact cH (.inr rfl) rfl  (fun W2 hW2 => ⟨(A11,y9.length,c13),rfl,rfl,hW2.take 3⟩)
end Go.Proofs.YthndghnkebboaaaGreat
