import Derived.Test.YthndghnkebboaaaGreatF
import Derived.Test.YthndghnkebboaaaGreatC6
import Derived.Test.YthndghnkebboaaaGreatGy
import Derived.Test.YthndghnkebboaaaGreatC2
import Derived.Test.YthndghnkebboaaaGreatC12
set_option maxHeartbeats 4000000
set_option maxRecDepth 100000
set_option linter.unusedVariables false
namespace Go.Proofs.YthndghnkebboaaaGreat
open Go.RowKit (Below)
attribute [local irreducible] OX QX CX EX OpY Calls CallsIn
theorem oV (p0:TR) (p1:Int) (res:Int) (h:iE p0 p1 = some res) (W:World) (Ab:Option Addr) (n0_1 cb : Nat) (ys0_1:List (Hd × TT)) (hn0_1:n0_1 = p0.fTracks.length) (hr0_1:Rd W Ab n0_1 cb (encL TTrack_cells2 ys0_1)) (hN0_1:NestW W (fun z : TT => z.fK) TSpan_cells ys0_1 p0.fTracks) :
  Calls Tryz.prog 76 [.agg #[vI p0.fPlaces,.slice Ab n0_1 cb],vI p1].toArray W fun e W2 => e = .returned (vI res) ∧ Ext W W2 []:=by
 subst hn0_1
 unfold iE at h
 refine ae (m:=22) Tryz.func76 rfl rfl (nB rfl) (cS (cR ?_))
 refine aW [vI p0.fPlaces,.slice Ab p0.fTracks.length cb] rfl rfl rfl (fun b1 => ?_)
 refine oY rfl (yAI rfl) (oN (eT (cS (cS (cR (oY rfl (yAI rfl) (oN (eT (cB ?_)))))))))
 obtain ⟨u4,hl8,h⟩:=bOs h
 refine bF (fun (s:(Int × Int)) L tm => ∃ (tm0:Nat → Value),L = [ai b1 24 [vI p0.fPlaces,.slice Ab p0.fTracks.length cb]] ∧ tm = (upd (upd (upd (upd tm0 1 (vI p1)) 2 (.pointer (some ⟨b1,0,none⟩))) 4 (vI s.1)) 5 (vI s.2))) 0 hl8 ⟨_,rfl,(kp4 rfl)⟩ ?_ ?_
 ·rintro s3 L tm st ⟨tm0_s3,rfl,rfl⟩ h
  unfold dV at h
  refine cS (cS (cR (oY rfl (yMI rfl) (oY rfl (yFA cq rfl) (oY rfl (yL 0 gG rfl rfl rfl) (oY rfl (bp (us:=[]) gF rfl) (oY rfl (bj rfl rfl) (oN (eT ?_)))))))))
  rcases iOs h with ⟨hp5,h⟩ | ⟨hp5,h⟩
  ·refine cT (vB hp5) (cK (eT (cS (cB (cS (cR (oY rfl (yFA cq rfl) (oY rfl (yL 0 gG rfl rfl rfl) (oY rfl (yMI rfl) ?_)))))))))
   obtain ⟨hg6,h⟩:=gOs h
   refine oY rfl (yI jP (by decide) hg6.1 hg6.2 (RdL.arg hr0_1) (eL au (NestP.hn hN0_1.p rfl)) rfl rfl) ?_
   refine oY rfl (yFR (A:=Ab) (j:=(Int.toNat s3.2 * 6)) gB rfl) (oY rfl (yR (A:=Ab) (j:=((Int.toNat s3.2 * 6) + 0)) (v:=vI ((rdL p0.fTracks s3.2).fID)) aV (RdL.arg hr0_1) rfl (eG au hg6.1 (ah hg6.2 (NestP.hn hN0_1.p rfl)) (congrArg (fun z : TT => some (Value.int .i64 z.fID)) (NestP.snd hN0_1.p s3.2)))) (oY rfl (yMI rfl) (oY rfl (da rfl rfl) (oN (eT ?_)))))
   rcases iOs h with ⟨hp7,h⟩ | ⟨hp7,h⟩
   ·refine cT (vB hp7) (cS (cR (oY rfl (yMI rfl) (oY rfl (yAI rfl) (oN (eT (am (ak (aa ?_)))))))))
    obtain rfl:=sI h
    exact ax ⟨rfl,_,rfl,(kp4 rfl)⟩
   ·refine cF (vB hp7) (cK (aw (eT (cR (oY rfl (yMI rfl) (oY rfl (aT rfl rfl) (oY rfl (yAI rfl) (oN ?_))))))))
    obtain rfl:=sI h
    exact eN ⟨_,rfl,(kp4 rfl)⟩
  ·refine cF (vB hp5) (aH (ag ?_))
   obtain rfl:=sI h
   exact ax ⟨rfl,_,rfl,(kp4 rfl)⟩
 ·intro e L tm hJ
  rcases u4 with u9 | u10
  ·dsimp only at h hJ
   obtain ⟨rfl,tm0_u9,rfl,rfl⟩:=hJ
   refine ⟨(by intro hc; cases hc),?_⟩
   refine ak (aa ?_)
   obtain rfl:=sI h
   exact al (.inl rfl) rfl (rVt (v:=vI u9.1) rfl) (fun W2 hW2 => ⟨rfl,hW2.none⟩)
  ·dsimp only at h hJ
   obtain ⟨rfl,tm0_u10,rfl,rfl⟩:=hJ
   refine ⟨(by intro hc; cases hc),?_⟩
   refine ac (eT (cS (cR (oY rfl (yAI rfl) (oN (eT (am ?_)))))))
   obtain rfl:=sI h
   exact al (.inl rfl) rfl (rVt (v:=vI (-1)) rfl) (fun W2 hW2 => ⟨rfl,hW2.none⟩)
theorem pL (p0:TT) (p1:Int) (res:Bool) (h:jB p0 p1 = some res) (W:World) (A0_5:Option Addr) (n0_5 c0_5 : Nat) (hn0_5:n0_5 = p0.fK.length) (hr0_5:Rd W A0_5 n0_5 c0_5 (encL TSpan_cells p0.fK)) :
  Calls Tryz.prog 78 [.agg #[vI p0.fID,vI p0.fFrom,vI p0.fTo,vI p0.fLong,vI p0.fToll,.slice A0_5 n0_5 c0_5],vI p1].toArray W fun e W2 => e = .returned (.bool res) ∧ Ext W W2 []:=by
 subst hn0_5
 unfold jB at h
 refine ae (m:=29) Tryz.func78 rfl rfl (nB rfl) (cS (cR ?_))
 refine aW [vI p0.fID,vI p0.fFrom,vI p0.fTo,vI p0.fLong,vI p0.fToll,.slice A0_5 p0.fK.length c0_5] rfl rfl rfl (fun b1 => ?_)
 refine oY rfl (yAB rfl) (oN (eT (cS (cS (cR (oY rfl (yAI rfl) (oN (eT (cB ?_)))))))))
 obtain ⟨u4,hl11,h⟩:=bOs h
 refine bF (fun (s:(Bool × Int)) L tm => ∃ (tm0:Nat → Value),L = [ai b1 120 [vI p0.fID,vI p0.fFrom,vI p0.fTo,vI p0.fLong,vI p0.fToll,.slice A0_5 p0.fK.length c0_5]] ∧ tm = (upd (upd (upd (upd tm0 1 (vI p1)) 2 (.pointer (some ⟨b1,0,none⟩))) 4 (.bool s.1)) 5 (vI s.2))) 0 hl11 ⟨_,rfl,(kp4 rfl)⟩ ?_ ?_
 ·rintro s3 L tm st ⟨tm0_s3,rfl,rfl⟩ h
  unfold im at h
  refine cS (cS (cR (oY rfl (yMI rfl) (oY rfl (yFA fq rfl) (oY rfl (yL 0 j8 rfl rfl rfl) (oY rfl (bp (us:=[]) lO rfl) (oY rfl (bj rfl rfl) (oN (eT ?_)))))))))
  rcases iOs h with ⟨hp5,h⟩ | ⟨hp5,h⟩
  ·refine cT (vB hp5) (cK (eT (cS (cB (cS ?_)))))
   refine bh 15 cD (by kernel_rfl) (by kernel_rfl) ?_
   refine qY rfl (yMI rfl) (qY rfl (yFA fq rfl) (qY rfl (yL 0 j8 rfl rfl rfl) (qY rfl (yMI rfl) ?_)))
   obtain ⟨hg6,h⟩:=gOs h
   refine qY rfl (yI jn (by decide) hg6.1 hg6.2 (RdL.arg hr0_5) (eL aD rfl) rfl rfl) ?_
   refine qY rfl (yFR (A:=A0_5) (j:=(Int.toNat s3.2 * 2)) f0 rfl) (qY rfl (yR (A:=A0_5) (j:=((Int.toNat s3.2 * 2) + 0)) (v:=vI ((rdL p0.fK s3.2).fLo)) aV (RdL.arg hr0_5) rfl (eG aD hg6.1 (ah hg6.2 rfl) rfl)) (qY rfl (yFA fq rfl) (qY rfl (yL 0 j8 rfl rfl rfl) (qY rfl (yMI rfl) ?_))))
   obtain ⟨hg7,h⟩:=gOs h
   refine qY rfl (yI jn (by decide) hg7.1 hg7.2 (RdL.arg hr0_5) (eL aD rfl) rfl rfl) ?_
   refine qY rfl (yFR (A:=A0_5) (j:=(Int.toNat s3.2 * 2)) eC rfl) (qY rfl (yR (A:=A0_5) (j:=((Int.toNat s3.2 * 2) + 1)) (v:=vI ((rdL p0.fK s3.2).fHi)) aV (RdL.arg hr0_5) rfl (eG aD hg7.1 (ah hg7.2 rfl) rfl)) ?_)
   obtain ⟨y8,hy9,h⟩:=bOs h
   refine qY rfl (yC [vI p1,vI ((rdL p0.fK s3.2).fLo),vI ((rdL p0.fK s3.2).fHi)] go rfl (fun W2 hW2 => aR p1 ((rdL p0.fK s3.2).fLo) ((rdL p0.fK s3.2).fHi) y8 hy9 W2 ) rfl) (qY rfl (yAB rfl) (cd (oN (eT (cS (cR (oY rfl (yMB rfl) (oN (eT ?_)))))))))
   rcases iOs h with ⟨hp10,h⟩ | ⟨hp10,h⟩
   ·refine cT (vB hp10) (cS (cR (oY rfl (yAB rfl) (oN (eT (am (ak (aa ?_))))))))
    obtain rfl:=sI h
    exact ax ⟨rfl,_,rfl,(kp4 rfl)⟩
   ·refine cF (vB hp10) (cK (aw (eT (cR (oY rfl (yMI rfl) (oY rfl (aT rfl rfl) (oY rfl (yAI rfl) (oN ?_))))))))
    obtain rfl:=sI h
    exact eN ⟨_,rfl,(kp4 rfl)⟩
  ·refine cF (vB hp5) (aH (ag ?_))
   obtain rfl:=sI h
   exact ax ⟨rfl,_,rfl,(kp4 rfl)⟩
 ·intro e L tm hJ
  rcases u4 with u12 | u13
  ·dsimp only at h hJ
   obtain ⟨rfl,tm0_u12,rfl,rfl⟩:=hJ
   refine ⟨(by intro hc; cases hc),?_⟩
   refine ak (aa ?_)
   obtain rfl:=sI h
   exact al (.inl rfl) rfl (rVt (v:=.bool u12.1) rfl) (fun W2 hW2 => ⟨rfl,hW2.none⟩)
  ·dsimp only at h hJ
   obtain ⟨rfl,tm0_u13,rfl,rfl⟩:=hJ
   refine ⟨(by intro hc; cases hc),?_⟩
   refine ac (eT (cS (cR (oY rfl (yAB rfl) (oN (eT (am ?_)))))))
   obtain rfl:=sI h
   exact al (.inl rfl) rfl (rVt (v:=.bool true) rfl) (fun W2 hW2 => ⟨rfl,hW2.none⟩)
theorem m9 (p0:TR) (p1:Int) (p2:Int) (p3:Int) (p4:TJ) (res:Bool) (h:eR p0 p1 p2 p3 p4 = some res) (W:World) (Ab:Option Addr) (n0_1 cb : Nat) (ys0_1:List (Hd × TT)) (hn0_1:n0_1 = p0.fTracks.length) (hr0_1:Rd W Ab n0_1 cb (encL TTrack_cells2 ys0_1)) (hN0_1:NestW W (fun z : TT => z.fK) TSpan_cells ys0_1 p0.fTracks) (A4_0:Option Addr) (n4_0 c4_0 : Nat) (hn4_0:n4_0 = p4.fLegs.length) (hr4_0:Rd W A4_0 n4_0 c4_0 (encL bt p4.fLegs)) :
  Calls Tryz.prog 21 [.agg #[vI p0.fPlaces,.slice Ab n0_1 cb],vI p1,vI p2,vI p3,.agg #[.slice A4_0 n4_0 c4_0,vI p4.fA,vI p4.fToll]].toArray W fun e W2 => e = .returned (.bool res) ∧ Ext W W2 []:=by
 subst hn0_1
 subst hn4_0
 unfold eR at h
 refine ae (m:=106) Tryz.func21 rfl rfl (nB rfl) (cS (cR ?_))
 refine aW [vI p0.fPlaces,.slice Ab p0.fTracks.length cb] rfl rfl rfl (fun b1 => ?_)
 refine aW [.slice A4_0 p4.fLegs.length c4_0,vI p4.fA,vI p4.fToll] rfl rfl rfl (fun b2 => ?_)
 refine oY rfl (yAB rfl) (oN (eT (cS (cR (oY rfl (yMI rfl) (oY rfl (yAI rfl) (oN (eT (cS (cR (oY rfl (yMI rfl) (oY rfl (yAI rfl) (oN (eT (cS (cR (oY rfl (yAI rfl) (oN (eT (cS (cS (cR (oY rfl (yAI rfl) (oN (eT (cB ?_))))))))))))))))))))))))))
 obtain ⟨u5,hl22,h⟩:=bOs h
 refine bF (fun (s:(Bool × Int × Int × Int × Int)) L tm => ∃ (tm0:Nat → Value),L = [ai b1 24 [vI p0.fPlaces,.slice Ab p0.fTracks.length cb],ai b2 29 [.slice A4_0 p4.fLegs.length c4_0,vI p4.fA,vI p4.fToll]] ∧ tm = (upd (upd (upd (upd (upd (upd (upd (upd tm0 2 (vI p2)) 5 (.pointer (some ⟨b1,0,none⟩))) 9 (.pointer (some ⟨b2,0,none⟩))) 10 (.bool s.1)) 11 (vI s.2.1)) 12 (vI s.2.2.1)) 13 (vI s.2.2.2.1)) 14 (vI s.2.2.2.2))) 0 hl22 ⟨_,rfl,(kp4 (kp4 rfl))⟩ ?_ ?_
 ·rintro s4 L tm st ⟨tm0_s4,rfl,rfl⟩ h
  unfold fp at h
  refine cS (cS (cR (oY rfl (yMI rfl) (oY rfl (yFA lz rfl) (oY rfl (yL 1 ta rfl rfl rfl) (oY rfl (bp (us:=[]) tP rfl) (oY rfl (bj rfl rfl) (oN (eT ?_)))))))))
  rcases iOs h with ⟨hp6,h⟩ | ⟨hp6,h⟩
  ·refine cT (vB hp6) (cK (eT (cS (cB (cS ?_)))))
   refine bh 9 cD (by kernel_rfl) (by kernel_rfl) ?_
   refine qY rfl (yN 0 [vI p0.fPlaces,.slice Ab p0.fTracks.length cb] dM rfl rfl rfl) (qY rfl (yFA lz rfl) (qY rfl (yL 1 ta rfl rfl rfl) (qY rfl (yMI rfl) ?_)))
   obtain ⟨hg7,h⟩:=gOs h
   refine qY rfl (yI tj (by decide) hg7.1 hg7.2 (RdL.arg hr4_0) (eL bo rfl) rfl rfl) ?_
   refine qY rfl (yFR (A:=A4_0) (j:=(Int.toNat s4.2.2.2.2 * 2)) fo_132_0 rfl) (qY rfl (yR (A:=A4_0) (j:=((Int.toNat s4.2.2.2.2 * 2) + 0)) (v:=vI ((rdL p4.fLegs s4.2.2.2.2).fTrack)) aV (RdL.arg hr4_0) rfl (eG bo hg7.1 (ah hg7.2 rfl) rfl)) ?_)
   obtain ⟨y8,hy9,h⟩:=bOs h
   refine qY rfl (yC [.agg #[vI p0.fPlaces,.slice Ab p0.fTracks.length cb],vI ((rdL p4.fLegs s4.2.2.2.2).fTrack)] go_76 rfl (fun W2 hW2 => oV p0 ((rdL p4.fLegs s4.2.2.2.2).fTrack) y8 hy9 W2 Ab p0.fTracks.length cb ys0_1 rfl ((RdL.arg hr0_1) W2 hW2) (NestL.at (NestL.arg hN0_1) W2 hW2)) rfl) (qY rfl (yAI rfl) (cd (oN (eT (cS (cS (cR (oY rfl (yMI rfl) (oY rfl (bj rfl rfl) (oN (eT ?_)))))))))))
   rcases iOs h with ⟨hp10,h⟩ | ⟨hp10,h⟩
   ·refine cT (vB hp10) (cS (cR (oY rfl (yAB rfl) (oN (eT (am (aa (ak (aa ?_)))))))))
    obtain rfl:=sI h
    exact ax ⟨rfl,_,rfl,(kp4 (kp4 rfl))⟩
   ·refine cF (vB hp10) (cK (eT (cS (cR (oY rfl (yFA cq rfl) (oY rfl (yL 0 gG rfl rfl rfl) (oY rfl (yMI rfl) ?_)))))))
    obtain ⟨hg11,h⟩:=gOs h
    refine oY rfl (yI jP (by decide) hg11.1 hg11.2 (RdL.arg hr0_1) (eL au (NestP.hn hN0_1.p rfl)) rfl rfl) ?_
    refine oY rfl (yM (A:=Ab) (j:=(Int.toNat y8 * 6)) [vI ((rdL p0.fTracks y8).fID),vI ((rdL p0.fTracks y8).fFrom),vI ((rdL p0.fTracks y8).fTo),vI ((rdL p0.fTracks y8).fLong),vI ((rdL p0.fTracks y8).fToll),.slice ((rdL ys0_1 y8).1.1) ((rdL p0.fTracks y8).fK.length) ((rdL ys0_1 y8).1.2.2)] i8 (Nat.succ_pos _) (RdL.arg hr0_1) rfl (kw (cx (NestP.snd hN0_1.p y8) (NestP.len hN0_1.p hg11.1 (ah hg11.2 rfl))).symm (bl au hg11.1 (ah hg11.2 (NestP.hn hN0_1.p rfl))))) ?_
    refine aE gp rfl (fun b12 => ?_)
    refine cr rfl (yS 2 [vI ((rdL p0.fTracks y8).fID),vI ((rdL p0.fTracks y8).fFrom),vI ((rdL p0.fTracks y8).fTo),vI ((rdL p0.fTracks y8).fLong),vI ((rdL p0.fTracks y8).fToll),.slice ((rdL ys0_1 y8).1.1) ((rdL p0.fTracks y8).fK.length) ((rdL ys0_1 y8).1.2.2)] pk rfl (nB rfl) rfl rfl rfl) (oN (eT (cS (cR (oY rfl (yFA lz rfl) (oY rfl (yL 1 ta rfl rfl rfl) (oY rfl (yMI rfl) ?_)))))))
    obtain ⟨hg13,h⟩:=gOs h
    refine oY rfl (yI tj (by decide) hg13.1 hg13.2 (RdL.arg hr4_0) (eL bo rfl) rfl rfl) ?_
    refine oY rfl (yFR (A:=A4_0) (j:=(Int.toNat s4.2.2.2.2 * 2)) fo_132_1 rfl) (oY rfl (yR (A:=A4_0) (j:=((Int.toNat s4.2.2.2.2 * 2) + 1)) (v:=vI ((rdL p4.fLegs s4.2.2.2.2).fHour)) aV (RdL.arg hr4_0) rfl (eG bo hg13.1 (ah hg13.2 rfl) rfl)) (oY rfl (yAI rfl) (oN (eT (cS (cR (oY rfl (yMI rfl) ?_)))))))
    obtain ⟨y14,hy15,h⟩:=bOs h
    refine oY rfl (yC [vI ((rdL p4.fLegs s4.2.2.2.2).fHour)] qN rfl (fun W2 hW2 => df ((rdL p4.fLegs s4.2.2.2.2).fHour) y14 hy15 W2 ) rfl) (oY rfl (yAB rfl) (oN (eT (cS (cR (oY rfl (yN 2 [vI ((rdL p0.fTracks y8).fID),vI ((rdL p0.fTracks y8).fFrom),vI ((rdL p0.fTracks y8).fTo),vI ((rdL p0.fTracks y8).fLong),vI ((rdL p0.fTracks y8).fToll),.slice ((rdL ys0_1 y8).1.1) ((rdL p0.fTracks y8).fK.length) ((rdL ys0_1 y8).1.2.2)] i8 rfl rfl rfl) (oY rfl (yMI rfl) ?_)))))))
    obtain ⟨y16,hy17,h⟩:=bOs h
    refine oY rfl (yC [.agg #[vI ((rdL p0.fTracks y8).fID),vI ((rdL p0.fTracks y8).fFrom),vI ((rdL p0.fTracks y8).fTo),vI ((rdL p0.fTracks y8).fLong),vI ((rdL p0.fTracks y8).fToll),.slice ((rdL ys0_1 y8).1.1) ((rdL p0.fTracks y8).fK.length) ((rdL ys0_1 y8).1.2.2)],vI ((rdL p4.fLegs s4.2.2.2.2).fHour)] go_78 rfl (fun W2 hW2 => pL (TT.mk ((rdL p0.fTracks y8).fID) ((rdL p0.fTracks y8).fFrom) ((rdL p0.fTracks y8).fTo) ((rdL p0.fTracks y8).fLong) ((rdL p0.fTracks y8).fToll) ((rdL p0.fTracks y8).fK)) ((rdL p4.fLegs s4.2.2.2.2).fHour) y16 hy17 W2 ((rdL ys0_1 y8).1.1) ((rdL p0.fTracks y8).fK.length) ((rdL ys0_1 y8).1.2.2) rfl ((NestL.rd (NestL.arg hN0_1) hg11.1 (ah hg11.2 rfl)) W2 hW2)) rfl) (oY rfl (yAB rfl) (oN (eT (cS (cS (cR (oY rfl (yFA jN rfl) (oY rfl (yL 2 aV rfl rfl rfl) (oY rfl (yMI rfl) (oY rfl (dl rfl rfl) (oY rfl (yMB rfl) ?_)))))))))))
    refine oJ 3 (fun tm0 => (upd (upd (upd (upd (upd (upd (upd (upd (upd (upd (upd (upd (upd (upd (upd (upd tm0 2 (vI p2)) 5 (.pointer (some ⟨b1,0,none⟩))) 9 (.pointer (some ⟨b2,0,none⟩))) 10 (.bool s4.1)) 11 (vI s4.2.1)) 12 (vI s4.2.2.1)) 13 (vI s4.2.2.2.1)) 14 (vI s4.2.2.2.2)) 26 (.bool (decide (s4.2.2.2.2 < (p4.fLegs.length:Int))))) 15 (vI y8)) 38 (.bool (decide (y8 < 0)))) 16 (.pointer (some ⟨b12,0,none⟩))) 17 (vI ((rdL p4.fLegs s4.2.2.2.2).fHour))) 18 (.bool y14)) 19 (.bool y16)) 62 (.bool ((((rdL p0.fTracks y8).fFrom) != s4.2.1) || (!y14))))) (fun tm0 => ?_) (fun key => ?_)
    ·refine oY rfl (yMB rfl) ?_
     refine oJ 3 (fun tm0 => (upd (upd (upd (upd (upd (upd (upd (upd (upd (upd (upd (upd (upd (upd (upd (upd tm0 2 (vI p2)) 5 (.pointer (some ⟨b1,0,none⟩))) 9 (.pointer (some ⟨b2,0,none⟩))) 10 (.bool s4.1)) 11 (vI s4.2.1)) 12 (vI s4.2.2.1)) 13 (vI s4.2.2.2.1)) 14 (vI s4.2.2.2.2)) 26 (.bool (decide (s4.2.2.2.2 < (p4.fLegs.length:Int))))) 15 (vI y8)) 38 (.bool (decide (y8 < 0)))) 16 (.pointer (some ⟨b12,0,none⟩))) 17 (vI ((rdL p4.fLegs s4.2.2.2.2).fHour))) 18 (.bool y14)) 19 (.bool y16)) 66 (.bool (((((rdL p0.fTracks y8).fFrom) != s4.2.1) || (!y14)) || (!y16))))) (fun tm0 => ?_) (fun key => ?_)
     ·refine oY rfl (yMB rfl) ?_
      refine oJ 4 (fun tm0 => (upd (upd (upd (upd (upd (upd (upd (upd (upd (upd (upd (upd (upd (upd (upd (upd tm0 2 (vI p2)) 5 (.pointer (some ⟨b1,0,none⟩))) 9 (.pointer (some ⟨b2,0,none⟩))) 10 (.bool s4.1)) 11 (vI s4.2.1)) 12 (vI s4.2.2.1)) 13 (vI s4.2.2.2.1)) 14 (vI s4.2.2.2.2)) 26 (.bool (decide (s4.2.2.2.2 < (p4.fLegs.length:Int))))) 15 (vI y8)) 38 (.bool (decide (y8 < 0)))) 16 (.pointer (some ⟨b12,0,none⟩))) 17 (vI ((rdL p4.fLegs s4.2.2.2.2).fHour))) 18 (.bool y14)) 19 (.bool y16)) 71 (.bool ((((((rdL p0.fTracks y8).fFrom) != s4.2.1) || (!y14)) || (!y16)) || (decide ((rdL p4.fLegs s4.2.2.2.2).fHour < s4.2.2.1)))))) (fun tm0 => ?_) (fun key => ?_)
      ·refine oN (eT ?_)
       rcases iOs h with ⟨hp21,h⟩ | ⟨hp21,h⟩
       ·refine cT (vB hp21) (cS (cR (oY rfl (yAB rfl) (oN (eT (am (aa (ak (aa (aU 2 ?_))))))))))
        obtain rfl:=sI h
        exact ax ⟨rfl,_,rfl,(kp4 (kp4 rfl))⟩
       ·refine cF (vB hp21) (cK (eT (cS (cR (oY rfl (yFA iV rfl) (oY rfl (yL 2 aV rfl rfl rfl) (oY rfl (yAI rfl) (oN (eT (cS (cR (oY rfl (yMI rfl) (oY rfl (yFA hQ rfl) (oY rfl (yL 2 aV rfl rfl rfl) (oY rfl (aT rfl rfl) (oY rfl (yAI rfl) (oN (eT (cR (oY rfl (yMI rfl) (oY rfl (yFA jK rfl) (oY rfl (yL 2 aV rfl rfl rfl) (oY rfl (aT rfl rfl) (oY rfl (y_min rfl rfl) (oY rfl (yAI rfl) (oN (aw (eT (cR (oY rfl (yMI rfl) (oY rfl (aT rfl rfl) (oY rfl (yAI rfl) (oN (aU 2 ?_))))))))))))))))))))))))))))))))))
        obtain rfl:=sI h
        exact eN ⟨_,rfl,(kp4 (kp4 rfl))⟩
      ·rcases ao (((((rdL p0.fTracks y8).fFrom) != s4.2.1) || (!y14)) || (!y16)) with hp20 | hp20
       ·refine oSk (sF rfl rfl rfl rfl hp20) (oSk (sF rfl rfl rfl rfl hp20) (oSk (sF rfl rfl rfl rfl hp20) (oY rfl (ab (vB hp20) rfl) ?_)))
        exact key _ _ (keep (keep (keep (keep (keep (keep (keep (keep (keep (keep (keep (keep (keep (keep (keep (keep rfl rfl) rfl) rfl) rfl) rfl) rfl) rfl) rfl) rfl) rfl) rfl) rfl) rfl) rfl) rfl) (vB (jf hp20)))
       ·refine oY (sT rfl rfl rfl rfl hp20) (yMI rfl) (oY (sT rfl rfl rfl rfl hp20) (yMI rfl) (oY (sT rfl rfl rfl rfl hp20) (bj rfl rfl) (oY rfl (ad (vB hp20) rfl) ?_)))
        exact key _ _ (keep (keep (keep (keep (keep (keep (keep (keep (keep (keep (keep (keep (keep (keep (keep (keep rfl rfl) rfl) rfl) rfl) rfl) rfl) rfl) rfl) rfl) rfl) rfl) rfl) rfl) rfl) rfl) (vB (jg hp20)))
     ·rcases ao ((((rdL p0.fTracks y8).fFrom) != s4.2.1) || (!y14)) with hp19 | hp19
      ·refine oSk (sF rfl rfl rfl rfl hp19) (oSk (sF rfl rfl rfl rfl hp19) (oY rfl (ab (vB hp19) rfl) ?_))
       exact key _ _ (keep (keep (keep (keep (keep (keep (keep (keep (keep (keep (keep (keep (keep (keep (keep (keep rfl rfl) rfl) rfl) rfl) rfl) rfl) rfl) rfl) rfl) rfl) rfl) rfl) rfl) rfl) rfl) (vB (jf hp19)))
      ·refine oY (sT rfl rfl rfl rfl hp19) (yMB rfl) (oY (sT rfl rfl rfl rfl hp19) (bQ rfl) (oY rfl (ad (vB hp19) rfl) ?_))
       exact key _ _ (keep (keep (keep (keep (keep (keep (keep (keep (keep (keep (keep (keep (keep (keep (keep (keep rfl rfl) rfl) rfl) rfl) rfl) rfl) rfl) rfl) rfl) rfl) rfl) rfl) rfl) rfl) rfl) (vB (jg hp19)))
    ·rcases ao (((rdL p0.fTracks y8).fFrom) != s4.2.1) with hp18 | hp18
     ·refine oSk (sF rfl rfl rfl rfl hp18) (oSk (sF rfl rfl rfl rfl hp18) (oY rfl (ab (vB hp18) rfl) ?_))
      exact key _ _ (keep (keep (keep (keep (keep (keep (keep (keep (keep (keep (keep (keep (keep (keep (keep (keep rfl rfl) rfl) rfl) rfl) rfl) rfl) rfl) rfl) rfl) rfl) rfl) rfl) rfl) rfl) rfl) (vB (jf hp18)))
     ·refine oY (sT rfl rfl rfl rfl hp18) (yMB rfl) (oY (sT rfl rfl rfl rfl hp18) (bQ rfl) (oY rfl (ad (vB hp18) rfl) ?_))
      exact key _ _ (keep (keep (keep (keep (keep (keep (keep (keep (keep (keep (keep (keep (keep (keep (keep (keep rfl rfl) rfl) rfl) rfl) rfl) rfl) rfl) rfl) rfl) rfl) rfl) rfl) rfl) rfl) rfl) (vB (jg hp18)))
  ·refine cF (vB hp6) (aH (ag ?_))
   obtain rfl:=sI h
   exact ax ⟨rfl,_,rfl,(kp4 (kp4 rfl))⟩
 ·intro e L tm hJ
  rcases u5 with u23 | u24
  ·dsimp only at h hJ
   obtain ⟨rfl,tm0_u23,rfl,rfl⟩:=hJ
   refine ⟨(by intro hc; cases hc),?_⟩
   refine ak (aa ?_)
   obtain rfl:=sI h
   exact al (.inl rfl) rfl (rVt (v:=.bool u23.1) rfl) (fun W2 hW2 => ⟨rfl,hW2.none⟩)
  ·dsimp only at h hJ
   obtain ⟨rfl,tm0_u24,rfl,rfl⟩:=hJ
   refine ⟨(by intro hc; cases hc),?_⟩
   refine ac (eT (cS (cR (oY rfl (yMI rfl) (oY rfl (yMI rfl) (oY rfl (da rfl rfl) (oY rfl (yMB rfl) ?_)))))))
   refine oJ 5 (fun tm0 => (upd (upd (upd (upd (upd tm0 9 (.pointer (some ⟨b2,0,none⟩))) 10 (.bool u24.1)) 12 (vI u24.2.2.1)) 13 (vI u24.2.2.2.1)) 91 (.bool ((u24.2.1 == p2) && (u24.2.2.1 == p4.fA))))) (fun tm0 => ?_) (fun key => ?_)
   ·refine oY rfl (yMB rfl) ?_
    refine oJ 3 (fun tm0 => (upd (upd (upd (upd tm0 9 (.pointer (some ⟨b2,0,none⟩))) 10 (.bool u24.1)) 13 (vI u24.2.2.2.1)) 95 (.bool (((u24.2.1 == p2) && (u24.2.2.1 == p4.fA)) && (decide (u24.2.2.1 ≤ 16384)))))) (fun tm0 => ?_) (fun key => ?_)
    ·refine oY rfl (yMB rfl) ?_
     refine oJ 5 (fun tm0 => (upd (upd (upd tm0 10 (.bool u24.1)) 13 (vI u24.2.2.2.1)) 101 (.bool ((((u24.2.1 == p2) && (u24.2.2.1 == p4.fA)) && (decide (u24.2.2.1 ≤ 16384))) && (u24.2.2.2.1 == p4.fToll))))) (fun tm0 => ?_) (fun key => ?_)
     ·refine oY rfl (yMB rfl) ?_
      refine oJ 3 (fun tm0 => (upd (upd tm0 10 (.bool u24.1)) 105 (.bool (((((u24.2.1 == p2) && (u24.2.2.1 == p4.fA)) && (decide (u24.2.2.1 ≤ 16384))) && (u24.2.2.2.1 == p4.fToll)) && (decide (u24.2.2.2.1 ≤ 60)))))) (fun tm0 => ?_) (fun key => ?_)
      ·refine oY rfl (yAB rfl) (oN (eT (am ?_)))
       obtain rfl:=sI h
       exact al (.inl rfl) rfl (rVt (v:=.bool (((((u24.2.1 == p2) && (u24.2.2.1 == p4.fA)) && (decide (u24.2.2.1 ≤ 16384))) && (u24.2.2.2.1 == p4.fToll)) && (decide (u24.2.2.2.1 ≤ 60)))) rfl) (fun W2 hW2 => ⟨rfl,hW2.none⟩)
      ·rcases ao ((((u24.2.1 == p2) && (u24.2.2.1 == p4.fA)) && (decide (u24.2.2.1 ≤ 16384))) && (u24.2.2.2.1 == p4.fToll)) with hp28 | hp28
       ·refine oY (sT rfl rfl rfl rfl hp28) (yMI rfl) (oY (sT rfl rfl rfl rfl hp28) (jw rfl rfl) (oY rfl (ab (vB hp28) rfl) ?_))
        exact key _ _ (keep (keep rfl rfl) (vB (fc hp28)))
       ·refine oSk (sF rfl rfl rfl rfl hp28) (oSk (sF rfl rfl rfl rfl hp28) (oY rfl (ad (vB hp28) rfl) ?_))
        exact key _ _ (keep (keep rfl rfl) (vB (fa hp28)))
     ·rcases ao (((u24.2.1 == p2) && (u24.2.2.1 == p4.fA)) && (decide (u24.2.2.1 ≤ 16384))) with hp27 | hp27
      ·refine oY (sT rfl rfl rfl rfl hp27) (yMI rfl) (oY (sT rfl rfl rfl rfl hp27) (yFA nv rfl) (oY (sT rfl rfl rfl rfl hp27) (yL 1 aV rfl rfl rfl) (oY (sT rfl rfl rfl rfl hp27) (da rfl rfl) (oY rfl (ab (vB hp27) rfl) ?_))))
       exact key _ _ (keep (keep (keep rfl rfl) rfl) (vB (fc hp27)))
      ·refine oSk (sF rfl rfl rfl rfl hp27) (oSk (sF rfl rfl rfl rfl hp27) (oSk (sF rfl rfl rfl rfl hp27) (oSk (sF rfl rfl rfl rfl hp27) (oY rfl (ad (vB hp27) rfl) ?_))))
       exact key _ _ (keep (keep (keep rfl rfl) rfl) (vB (fa hp27)))
    ·rcases ao ((u24.2.1 == p2) && (u24.2.2.1 == p4.fA)) with hp26 | hp26
     ·refine oY (sT rfl rfl rfl rfl hp26) (yMI rfl) (oY (sT rfl rfl rfl rfl hp26) (jw rfl rfl) (oY rfl (ab (vB hp26) rfl) ?_))
      exact key _ _ (keep (keep (keep (keep rfl rfl) rfl) rfl) (vB (fc hp26)))
     ·refine oSk (sF rfl rfl rfl rfl hp26) (oSk (sF rfl rfl rfl rfl hp26) (oY rfl (ad (vB hp26) rfl) ?_))
      exact key _ _ (keep (keep (keep (keep rfl rfl) rfl) rfl) (vB (fa hp26)))
   ·rcases ao (u24.2.1 == p2) with hp25 | hp25
    ·refine oY (sT rfl rfl rfl rfl hp25) (yMI rfl) (oY (sT rfl rfl rfl rfl hp25) (yFA ly rfl) (oY (sT rfl rfl rfl rfl hp25) (yL 1 aV rfl rfl rfl) (oY (sT rfl rfl rfl rfl hp25) (da rfl rfl) (oY rfl (ab (vB hp25) rfl) ?_))))
     exact key _ _ (keep (keep (keep (keep (keep rfl rfl) rfl) rfl) rfl) (vB (fc hp25)))
    ·refine oSk (sF rfl rfl rfl rfl hp25) (oSk (sF rfl rfl rfl rfl hp25) (oSk (sF rfl rfl rfl rfl hp25) (oSk (sF rfl rfl rfl rfl hp25) (oY rfl (ad (vB hp25) rfl) ?_))))
     exact key _ _ (keep (keep (keep (keep (keep rfl rfl) rfl) rfl) rfl) (vB (fa hp25)))
end Go.Proofs.YthndghnkebboaaaGreat
set_option maxHeartbeats 4000000
set_option maxRecDepth 100000
namespace Go.Proofs.YthndghnkebboaaaGreat
open Go.RowKit (Below)
attribute [local irreducible] OX QX CX EX OpY Calls CallsIn
theorem n3 (p0:(List Int)) (res:(List TPoint)) (h:fU p0 = some res) (W:World) (Aa:Option Addr) (n0_0 ca : Nat) (hn0_0:n0_0 = p0.length) (hr0_0:Rd W Aa n0_0 ca (encL cI p0)) :
  Calls Tryz.prog 74 [.slice Aa n0_0 ca].toArray W fun e W2 => ∃ x : Option Addr × Nat × Nat,x.2.1 = res.length ∧ e = .returned (.slice x.1 x.2.1 x.2.2) ∧ Ext W W2 [aL x.1 x.2.2 37 2 x.2.1 (encL gL res)]:=by
 subst hn0_0
 unfold fU at h
 refine ae (m:=43) Tryz.func74 rfl rfl (nB rfl) (cS (cR (oY rfl (yAS rfl) (oN (eT (cS (cR (oY rfl (yAS rfl) (oN (eT (cS (cS (cR (oY rfl (yAI rfl) (oN (eT (cB ?_)))))))))))))))))
 obtain ⟨u4,hl21,h⟩:=bOs h
 refine cQ 37 2 ?_
 refine ba (fun (s:(Int × (List TPoint))) L tm => ∃ (tm0:Nat → Value) (A0_s:Option Addr) (c0_s:Nat) (n0_s:Nat),n0_s = s.2.length ∧ L = [aL A0_s c0_s 37 2 n0_s (encL gL s.2)] ∧ tm = (upd (upd (upd (upd tm0 0 (.slice Aa p0.length ca)) 2 (.slice none 0 0)) 3 (.slice A0_s n0_s c0_s)) 4 (vI s.1))) 0 hl21 ⟨_,none,0,0,rfl,rfl,(kp4 rfl)⟩ ?_ ?_
 ·rintro s3 L tm st ⟨tm0_s3,A0_s3,c0_s3,n0_s3,rfl,rfl,rfl⟩ h
  unfold dD at h
  refine cS (cS (cR (oY rfl (yMI rfl) (oY rfl (yMS rfl) (oY rfl (bp (us:=[]) cV rfl) (oY rfl (bj rfl rfl) (oN (eT ?_))))))))
  rcases iOs h with ⟨hp5,h⟩ | ⟨hp5,h⟩
  ·refine cT (vB hp5) (cK (eT (cS (cB (cS ?_)))))
   refine bh 22 cD (by kernel_rfl) (by kernel_rfl) ?_
   refine qY rfl (yMS rfl) (qY rfl (yMI rfl) ?_)
   obtain ⟨hg6,h⟩:=gOs h
   refine qY rfl (yI bZ (by decide) hg6.1 hg6.2 (RdL.arg hr0_0) (eL aA rfl) rfl rfl) ?_
   refine qY rfl (yR (A:=Aa) (j:=(Int.toNat s3.1 * 1)) (v:=vI (rdL p0 s3.1)) aV (RdL.arg hr0_0) rfl (aC aA hg6.1 (ah hg6.2 rfl) rfl)) (qY rfl (oR rfl rfl) (qY rfl (yMB rfl) ?_))
   obtain ⟨b8,hb9,h⟩:=bOs h
   refine qJ 16 (fun tm0 => (upd (upd (upd (upd (upd (upd tm0 0 (.slice Aa p0.length ca)) 2 (.slice none 0 0)) 3 (.slice A0_s3 s3.2.length c0_s3)) 4 (vI s3.1)) 8 (.bool (decide (s3.1 < (p0.length:Int))))) 32 (.bool b8))) (fun tm0 => ?_) (fun key => ?_)
   ·refine cd (oN (eT ?_))
    rcases iOs h with ⟨hp10,h⟩ | ⟨hp10,h⟩
    ·refine cT (vB hp10) (cR (oY rfl (yMS rfl) (oY rfl (yMI rfl) (oY rfl (yMS rfl) (oY rfl (yMI rfl) ?_)))))
     obtain ⟨hg11,h⟩:=gOs h
     refine oY rfl (yI bZ (by decide) hg11.1 hg11.2 (RdL.arg hr0_0) (eL aA rfl) rfl rfl) ?_
     refine oY rfl (yR (A:=Aa) (j:=(Int.toNat s3.1 * 1)) (v:=vI (rdL p0 s3.1)) aV (RdL.arg hr0_0) rfl (aC aA hg11.1 (ah hg11.2 rfl) rfl)) ?_
     refine oY rfl (aY [vI s3.1,vI (rdL p0 s3.1)] [(0,1),(1,1)] ust_37 ze_37 (by kernel_rfl)) ?_
     refine aJ 1 (encL gL [(TPoint.mk s3.1 (rdL p0 s3.1))]) _ mc_37_1 rI ze_37 by_37 (by decide) (by decide) (by kernel_rfl) (eL fw rfl) rfl (fun b12 => ?_)
     obtain ⟨hg15,h⟩:=gOs h
     refine bE 0 rI ze_37 by_37 rfl rfl rfl (RdL.row 1 rfl) (eL fw rfl) (cv mT _) (cA hg15 (by decide)) rfl (fun A13 c14 => ?_)
     refine oY rfl (yAS rfl) (oN (aw (eT (cR (oY rfl (yMI rfl) (oY rfl (aT rfl rfl) (oY rfl (yAI rfl) (oN (aU 1 ?_)))))))))
     obtain rfl:=sI h
     exact eN ⟨_,A13,c14,(s3.2.length + 1),(gb rfl rfl),rfl,(kp4 rfl)⟩
    ·refine cF (vB hp10) (cK (aw (eT (cR (oY rfl (yMI rfl) (oY rfl (aT rfl rfl) (oY rfl (yAI rfl) (oN ?_))))))))
     obtain rfl:=sI h
     exact eN ⟨_,A0_s3,c0_s3,s3.2.length,rfl,rfl,(kp4 rfl)⟩
   ·clear h; rcases iOs hb9 with ⟨hp7,h⟩ | ⟨hp7,h⟩
    ·refine qY (sT rfl rfl rfl rfl hp7) (yMI rfl) (qY (sT rfl rfl rfl rfl hp7) (da rfl rfl) (qY (sT rfl rfl rfl rfl hp7) (yMB rfl) ?_))
     obtain ⟨b17,hb18,h⟩:=bOs h
     refine qJ 12 (fun tm0 => (upd (upd (upd (upd (upd (upd (upd tm0 0 (.slice Aa p0.length ca)) 2 (.slice none 0 0)) 3 (.slice A0_s3 s3.2.length c0_s3)) 4 (vI s3.1)) 8 (.bool (decide (s3.1 < (p0.length:Int))))) 16 (.bool (decide (0 ≤ (rdL p0 s3.1))))) 31 (.bool b17))) (fun tm0 => ?_) (fun key => ?_)
     ·refine qY rfl (ab (vB hp7) rfl) ?_
      obtain rfl:=sI h
      exact key _ _ (kp4 (kp (kp rfl)))
     ·clear h; rcases iOs hb18 with ⟨hp16,h⟩ | ⟨hp16,h⟩
      ·refine av (sF rfl rfl rfl rfl hp16) (av (sF rfl rfl rfl rfl hp16) (av (sF rfl rfl rfl rfl hp16) (av (sF rfl rfl rfl rfl hp16) (av (sF rfl rfl rfl rfl hp16) (av (sF rfl rfl rfl rfl hp16) (av (sF rfl rfl rfl rfl hp16) (av (sF rfl rfl rfl rfl hp16) (av (sF rfl rfl rfl rfl hp16) (av (sF rfl rfl rfl rfl hp16) (av (sF rfl rfl rfl rfl hp16) (qY (sT rfl rfl rfl rfl hp7) (ab (vB hp16) rfl) ?_)))))))))))
       obtain rfl:=sI h
       exact key _ _ (kp4 (kp (kp (kp rfl))))
      ·refine qY (sT rfl rfl rfl rfl hp16) (yMS rfl) (qY (sT rfl rfl rfl rfl hp16) (yMI rfl) (qY (sT rfl rfl rfl rfl hp16) (eH rfl rfl) (qY (sT rfl rfl rfl rfl hp16) (y_max rfl rfl) ?_)))
       obtain ⟨hg19,h⟩:=gOs h
       refine qY (sT rfl rfl rfl rfl hp16) (yI bZ (by decide) hg19.1 hg19.2 (RdL.arg hr0_0) (eL aA rfl) rfl rfl) ?_
       refine qY (sT rfl rfl rfl rfl hp16) (yR (A:=Aa) (j:=(Int.toNat (max 0 (w64 (s3.1 - 1))) * 1)) (v:=vI (rdL p0 (max 0 (w64 (s3.1 - 1))))) aV (RdL.arg hr0_0) rfl (aC aA hg19.1 (ah hg19.2 rfl) rfl)) (qY (sT rfl rfl rfl rfl hp16) (yMS rfl) (qY (sT rfl rfl rfl rfl hp16) (yMI rfl) ?_))
       obtain ⟨hg20,h⟩:=gOs h
       refine qY (sT rfl rfl rfl rfl hp16) (yI bZ (by decide) hg20.1 hg20.2 (RdL.arg hr0_0) (eL aA rfl) rfl rfl) ?_
       refine qY (sT rfl rfl rfl rfl hp16) (yR (A:=Aa) (j:=(Int.toNat s3.1 * 1)) (v:=vI (rdL p0 s3.1)) aV (RdL.arg hr0_0) rfl (aC aA hg20.1 (ah hg20.2 rfl) rfl)) (qY (sT rfl rfl rfl rfl hp16) (dl rfl rfl) (qY (sT rfl rfl rfl rfl hp7) (ad (vB hp16) rfl) ?_))
       obtain rfl:=sI h
       exact key _ _ (kp4 (kp (kp (kp rfl))))
    ·refine av (sF rfl rfl rfl rfl hp7) (av (sF rfl rfl rfl rfl hp7) (av (sF rfl rfl rfl rfl hp7) (av rfl (av rfl (av rfl (av rfl (av rfl (av rfl (av rfl (av rfl (av rfl (av rfl (av rfl (av (sF rfl rfl rfl rfl hp7) (qY rfl (ad (vB hp7) rfl) ?_)))))))))))))))
     obtain rfl:=sI h
     exact key _ _ (kp4 (kp (kp rfl)))
  ·refine cF (vB hp5) (aH (ag ?_))
   obtain rfl:=sI h
   exact ax ⟨rfl,_,A0_s3,c0_s3,s3.2.length,rfl,rfl,(kp4 rfl)⟩
 ·intro e L tm hJ
  obtain ⟨rfl,tm0_u4,A0_u4,c0_u4,n0_u4,rfl,rfl,rfl⟩:=hJ
  refine ⟨(by intro hc; cases hc),?_⟩
  refine ac (eT (cS (cR (oY rfl (yMS rfl) (oY rfl (yAS rfl) (oN (eT (am ?_))))))))
  obtain rfl:=sI h
  exact al (.inl rfl) rfl (rVt (v:=.slice A0_u4 u4.2.length c0_u4) rfl) (fun W2 hW2 => ⟨(A0_u4,u4.2.length,c0_u4),rfl,rfl,(hW2.pick 0 rfl)⟩)
end Go.Proofs.YthndghnkebboaaaGreat
set_option maxHeartbeats 4000000
set_option maxRecDepth 100000
namespace Go.Proofs.YthndghnkebboaaaGreat
open Go.RowKit (Below)
attribute [local irreducible] OX QX CX EX OpY Calls CallsIn
theorem qM (p0:(List Int)) (p1:Int) (res:(List Int)) (h:jF p0 p1 = some res) (W:World) (Aa:Option Addr) (n0_0 ca : Nat) (hn0_0:n0_0 = p0.length) (hr0_0:Rd W Aa n0_0 ca (encL cI p0)) :
  Calls Tryz.prog 82 [.slice Aa n0_0 ca,vI p1].toArray W fun e W2 => ∃ x : Option Addr × Nat × Nat,x.2.1 = res.length ∧ e = .returned (.slice x.1 x.2.1 x.2.2) ∧ Ext W W2 [aL x.1 x.2.2 3 1 x.2.1 (encL cI res)]:=by
 subst hn0_0
 unfold jF at h
 refine ae (m:=32) Tryz.func82 rfl rfl (nB rfl) (cS (cR (oY rfl (yAS rfl) (oN (eT (cS (cR (oY rfl (yAI rfl) (oN (eT (cS (cB ?_))))))))))))
 obtain ⟨u3,hl9,h⟩:=bOs h
 refine ba (fun (s:Int) L tm => ∃ (tm0:Nat → Value),L = [] ∧ tm = (upd (upd (upd (upd tm0 0 (.slice Aa p0.length ca)) 1 (vI p1)) 4 (.slice none 0 0)) 5 (vI s))) 0 hl9 ⟨_,rfl,(kp4 rfl)⟩ ?_ ?_
 ·rintro s2 L tm st ⟨tm0_s2,rfl,rfl⟩ h
  unfold gQ at h
  refine cS (cS (cR (oY rfl (yMI rfl) (oY rfl (yMS rfl) (oY rfl (bp (us:=[]) cV rfl) (oY rfl (bj rfl rfl) (oY rfl (yMB rfl) ?_)))))))
  obtain ⟨b5,hb6,h⟩:=bOs h
  refine oJ 7 (fun tm0 => (upd (upd (upd (upd (upd tm0 0 (.slice Aa p0.length ca)) 1 (vI p1)) 4 (.slice none 0 0)) 5 (vI s2)) 17 (.bool b5))) (fun tm0 => ?_) (fun key => ?_)
  ·refine oN (eT ?_)
   rcases iOs h with ⟨hp7,h⟩ | ⟨hp7,h⟩
   ·refine cT (vB hp7) (cK (eT (cB (cR (oY rfl (yMI rfl) (oY rfl (aT rfl rfl) (oY rfl (yAI rfl) (oN (aw ?_)))))))))
    obtain rfl:=sI h
    exact eN ⟨_,rfl,(kp4 rfl)⟩
   ·refine cF (vB hp7) (aH (ag ?_))
    obtain rfl:=sI h
    exact ax ⟨rfl,_,rfl,(kp4 rfl)⟩
  ·clear h; rcases iOs hb6 with ⟨hp4,h⟩ | ⟨hp4,h⟩
   ·refine oY (sT rfl rfl rfl rfl hp4) (yMS rfl) (oY (sT rfl rfl rfl rfl hp4) (yMI rfl) ?_)
    obtain ⟨hg8,h⟩:=gOs h
    refine oY (sT rfl rfl rfl rfl hp4) (yI bZ (by decide) hg8.1 hg8.2 (RdL.arg hr0_0) (eL aA rfl) rfl rfl) ?_
    refine oY (sT rfl rfl rfl rfl hp4) (yR (A:=Aa) (j:=(Int.toNat s2 * 1)) (v:=vI (rdL p0 s2)) aV (RdL.arg hr0_0) rfl (aC aA hg8.1 (ah hg8.2 rfl) rfl)) (oY (sT rfl rfl rfl rfl hp4) (yMI rfl) (oY (sT rfl rfl rfl rfl hp4) (bj rfl rfl) (oY rfl (ab (vB hp4) rfl) ?_)))
    obtain rfl:=sI h
    exact key _ _ (kp4 (kp rfl))
   ·refine oSk (sF rfl rfl rfl rfl hp4) (oSk (sF rfl rfl rfl rfl hp4) (oSk (sF rfl rfl rfl rfl hp4) (oSk (sF rfl rfl rfl rfl hp4) (oSk (sF rfl rfl rfl rfl hp4) (oSk (sF rfl rfl rfl rfl hp4) (oY rfl (ad (vB hp4) rfl) ?_))))))
    obtain rfl:=sI h
    exact key _ _ (kp4 (kp rfl))
 ·intro e L tm hJ
  obtain ⟨rfl,tm0_u3,rfl,rfl⟩:=hJ
  refine ⟨(by intro hc; cases hc),?_⟩
  refine ac (eT (cS ?_))
  obtain ⟨hg12,h⟩:=gOs h
  obtain ⟨hg15,h⟩:=gOs h
  obtain ⟨hg19,h⟩:=gOs h
  obtain ⟨hg20,h⟩:=gOs h
  obtain ⟨hg23,h⟩:=gOs h
  refine eF [[],[],[],[1,2],[0,1,2,3],[],[5],[0,1,2,3,4,5,6],[],[],[8,9],[0,1,2,3,4,5,6,7,8,9,10],[0,1,2,3,4,5,6,7,8,9,10,11]] [(none,1,[]),(none,0,[false]),(none,0,[false]),(none,0,[false]),(some 0,0,[true]),(none,0,[false]),(none,1,[false]),(some 0,0,[true,true]),(none,0,[false,false]),(none,0,[false,false]),(none,0,[false,false]),(some 0,0,[true,true]),(none,0,[true,true])] [⟨fun ξ10 => .slice (some ⟨(ξ10 0 0).2.1,0,none⟩) 0 0,fun _ => noR,fun ξ10 => [aL (some ⟨(ξ10 0 0).2.1,0,none⟩) 0 3 1 0 (encL cI ([]:List Int))]⟩,⟨fun _ => .slice Aa p0.length ca,fun _ => noR,fun _ => []⟩,⟨fun _ => vI u3,fun _ => noR,fun _ => []⟩,⟨fun _ => .slice Aa (Int.toNat u3) ca,fun _ => noR,fun _ => []⟩,⟨fun ξ10 => .slice (ξ10 4 0).1 (0 + (Int.toNat u3)) (ξ10 4 0).2.2.1,fun ξ10 => aL (ξ10 4 0).1 (ξ10 4 0).2.2.1 3 1 (0 + (Int.toNat u3)) (encL cI (([]:List Int) ++ (p0.take (Int.toNat u3)))),fun _ => []⟩,⟨fun _ => vI p1,fun _ => noR,fun _ => []⟩,⟨fun ξ10 => .slice (some ⟨(ξ10 6 0).2.1,0,none⟩) 1 1,fun _ => noR,fun ξ10 => [aL (some ⟨(ξ10 6 0).2.1,0,none⟩) 1 3 1 1 (encL cI [p1])]⟩,⟨fun ξ10 => .slice (ξ10 7 0).1 ((0 + (Int.toNat u3)) + 1) (ξ10 7 0).2.2.1,fun ξ10 => aL (ξ10 7 0).1 (ξ10 7 0).2.2.1 3 1 ((0 + (Int.toNat u3)) + 1) (encL cI ((([]:List Int) ++ (p0.take (Int.toNat u3))) ++ [p1])),fun _ => []⟩,⟨fun _ => .slice Aa p0.length ca,fun _ => noR,fun _ => []⟩,⟨fun _ => vI u3,fun _ => noR,fun _ => []⟩,⟨fun _ => .slice (if ca = Int.toNat u3 then Aa else Option.map (fun x => x.add (Int.toNat u3 * 1)) Aa) (p0.length - Int.toNat u3) (ca - Int.toNat u3),fun _ => noR,fun _ => []⟩,⟨fun ξ10 => .slice (ξ10 11 0).1 (((0 + (Int.toNat u3)) + 1) + (p0.length - Int.toNat u3)) (ξ10 11 0).2.2.1,fun ξ10 => aL (ξ10 11 0).1 (ξ10 11 0).2.2.1 3 1 (((0 + (Int.toNat u3)) + 1) + (p0.length - Int.toNat u3)) (encL cI (((([]:List Int) ++ (p0.take (Int.toNat u3))) ++ [p1]) ++ (p0.drop (Int.toNat u3)))),fun _ => []⟩,⟨fun ξ10 => .slice (ξ10 11 0).1 (((0 + (Int.toNat u3)) + 1) + (p0.length - Int.toNat u3)) (ξ10 11 0).2.2.1,fun _ => noR,fun _ => []⟩] 0 cD (by kernel_rfl) (by kernel_rfl) ⟨⟨fun ξ10 ξ10' h => ⟨by simp only [h 0 (.inl rfl)],rfl,by simp only [h 0 (.inl rfl)]⟩,fun _ => rfl⟩,⟨fun ξ10 ξ10' h => ⟨rfl,rfl,rfl⟩,fun _ => rfl⟩,⟨fun ξ10 ξ10' h => ⟨rfl,rfl,rfl⟩,fun _ => rfl⟩,⟨fun ξ10 ξ10' h => ⟨rfl,rfl,rfl⟩,fun _ => rfl⟩,⟨fun ξ10 ξ10' h => ⟨by simp only [h 4 (.inl rfl)],by simp only [h 4 (.inl rfl)],rfl⟩,fun _ => rfl⟩,⟨fun ξ10 ξ10' h => ⟨rfl,rfl,rfl⟩,fun _ => rfl⟩,⟨fun ξ10 ξ10' h => ⟨by simp only [h 6 (.inl rfl)],rfl,by simp only [h 6 (.inl rfl)]⟩,fun _ => rfl⟩,⟨fun ξ10 ξ10' h => ⟨by simp only [h 7 (.inl rfl)],by simp only [h 7 (.inl rfl)],rfl⟩,fun _ => rfl⟩,⟨fun ξ10 ξ10' h => ⟨rfl,rfl,rfl⟩,fun _ => rfl⟩,⟨fun ξ10 ξ10' h => ⟨rfl,rfl,rfl⟩,fun _ => rfl⟩,⟨fun ξ10 ξ10' h => ⟨rfl,rfl,rfl⟩,fun _ => rfl⟩,⟨fun ξ10 ξ10' h => ⟨by simp only [h 11 (.inl rfl)],by simp only [h 11 (.inl rfl)],rfl⟩,fun _ => rfl⟩,⟨fun ξ10 ξ10' h => ⟨by simp only [h 11 (.inr rfl)],rfl,rfl⟩,fun _ => rfl⟩,trivial⟩ rfl (fun ξ10 => ?_)
  refine bN rfl (fun L2 => ?_) ?_
  ·dsimp only [aF,lca,lna]
   refine dZ cI cV lj m4 rfl (fun b11 => ?_)
   refine oN ?_
   exact ap (fun _ => (none,b11,0,[],noR)) rfl rfl
  dsimp only [bx,lsz,lss,lna,lca,List.append_nil]
  refine bN rfl (fun L2 => ?_) ?_
  ·dsimp only [aF,lca,lna]
   refine oY rfl (yMS rfl) (oN ?_)
   exact ap (fun _ => (none,0,0,[],noR)) rfl (List.append_nil _)
  dsimp only [bx,lsz,lss,lna,lca,List.append_nil]
  refine bN rfl (fun L2 => ?_) ?_
  ·dsimp only [aF,lca,lna]
   refine oY rfl (yMI rfl) (oN ?_)
   exact ap (fun _ => (none,0,0,[],noR)) rfl (List.append_nil _)
  dsimp only [bx,lsz,lss,lna,lca,List.append_nil]
  refine bN rfl (fun L2 => ?_) ?_
  ·dsimp only [aF,lca,lna]
   refine oY rfl (o9 bZ hg12.1 hg12.2 (RdL.arg hr0_0) rfl rfl) (oN ?_)
   exact ap (fun _ => (none,0,0,[],noR)) rfl (List.append_nil _)
  dsimp only [bx,lsz,lss,lna,lca,List.append_nil]
  refine bN rfl (fun L2 => ?_) ?_
  ·dsimp only [aF,lca,lna]
   refine bE 0 cV lj m4 rfl rfl rfl (RdL.cutH aA (RdL.arg hr0_0) hg12.1 hg12.2) (eL aA (jV hg12.2 rfl)) (cv lG _) (cA hg15 (by decide)) rfl (fun A13 c14 => ?_)
   refine oN ?_
   first | exact ap (fun _ => (A13,0,c14,[],noR)) rfl rfl | exact ap (fun _ => (A13,0,c14,[],noR)) rfl (List.append_nil _)
  dsimp only [bx,lsz,lss,lna,lca,List.append_nil]
  refine bN rfl (fun L2 => ?_) ?_
  ·dsimp only [aF,lca,lna]
   refine oY rfl (yMI rfl) (oN ?_)
   exact ap (fun _ => (none,0,0,[],noR)) rfl (List.append_nil _)
  dsimp only [bx,lsz,lss,lna,lca,List.append_nil]
  refine bN rfl (fun L2 => ?_) ?_
  ·dsimp only [aF,lca,lna]
   refine aJ 1 (encL cI [p1]) _ mM cV lj m4 (by decide) (by decide) (by kernel_rfl) (eL aA rfl) rfl (fun b16 => ?_)
   refine oN ?_
   exact ap (fun _ => (none,b16,0,[],noR)) rfl rfl
  dsimp only [bx,lsz,lss,lna,lca,List.append_nil]
  refine bN rfl (fun L2 => ?_) ?_
  ·dsimp only [aF,lca,lna]
   refine bE 0 cV lj m4 rfl rfl rfl (RdL.row 1 rfl) (eL aA rfl) (cv lG _) (cA hg19 (by decide)) rfl (fun A17 c18 => ?_)
   refine oN ?_
   first | exact ap (fun _ => (A17,0,c18,[],noR)) rfl rfl | exact ap (fun _ => (A17,0,c18,[],noR)) rfl (List.append_nil _)
  dsimp only [bx,lsz,lss,lna,lca,List.append_nil]
  refine bN rfl (fun L2 => ?_) ?_
  ·dsimp only [aF,lca,lna]
   refine oY rfl (yMS rfl) (oN ?_)
   exact ap (fun _ => (none,0,0,[],noR)) rfl (List.append_nil _)
  dsimp only [bx,lsz,lss,lna,lca,List.append_nil]
  refine bN rfl (fun L2 => ?_) ?_
  ·dsimp only [aF,lca,lna]
   refine oY rfl (yMI rfl) (oN ?_)
   exact ap (fun _ => (none,0,0,[],noR)) rfl (List.append_nil _)
  dsimp only [bx,lsz,lss,lna,lca,List.append_nil]
  refine bN rfl (fun L2 => ?_) ?_
  ·dsimp only [aF,lca,lna]
   refine oY rfl (qS bZ hg20.1 hg20.2 (RdL.arg hr0_0) rfl rfl) (oN ?_)
   exact ap (fun _ => (none,0,0,[],noR)) rfl (List.append_nil _)
  dsimp only [bx,lsz,lss,lna,lca,List.append_nil]
  refine bN rfl (fun L2 => ?_) ?_
  ·dsimp only [aF,lca,lna]
   refine bE 0 cV lj m4 rfl rfl rfl (RdL.cutL aA (RdL.arg hr0_0) hg20.1 hg20.2 rfl) (eL aA (na rfl)) (cv lG _) (cA hg23 (by decide)) rfl (fun A21 c22 => ?_)
   refine oN ?_
   first | exact ap (fun _ => (A21,0,c22,[],noR)) rfl rfl | exact ap (fun _ => (A21,0,c22,[],noR)) rfl (List.append_nil _)
  dsimp only [bx,lsz,lss,lna,lca,List.append_nil]
  refine bN rfl (fun L2 => ?_) ?_
  ·dsimp only [aF,lca,lna]
   refine oY rfl (yAS rfl) (oN ?_)
   exact ap (fun _ => (none,0,0,[],noR)) rfl (List.append_nil _)
  dsimp only [bx,lsz,lss,lna,lca,List.append_nil]
  refine kx (eT (am ?_))
  obtain rfl:=sI h
  exact al (.inl rfl) rfl (rVt (v:=.slice (ξ10 11 0).1 (((0 + (Int.toNat u3)) + 1) + (p0.length - Int.toNat u3)) (ξ10 11 0).2.2.1) rfl) (fun W2 hW2 => ⟨((ξ10 11 0).1,(((0 + (Int.toNat u3)) + 1) + (p0.length - Int.toNat u3)),(ξ10 11 0).2.2.1),(gb (gb (gb rfl (jV hg12.2 rfl)) rfl) (na rfl)),rfl,(hW2.pick 0 rfl)⟩)
end Go.Proofs.YthndghnkebboaaaGreat
set_option maxHeartbeats 4000000
set_option maxRecDepth 100000
namespace Go.Proofs.YthndghnkebboaaaGreat
open Go.RowKit (Below)
attribute [local irreducible] OX QX CX EX OpY Calls CallsIn
theorem pS (p0:TR) (p1:Int) (p2:Int) (p3:Int) (p4:Int) (res:TPointed) (h:eX p0 p1 p2 p3 p4 = some res) (W:World) (Ab:Option Addr) (n0_1 cb : Nat) (ys0_1:List (Hd × TT)) (hn0_1:n0_1 = p0.fTracks.length) (hr0_1:Rd W Ab n0_1 cb (encL TTrack_cells2 ys0_1)) (hN0_1:NestW W (fun z : TT => z.fK) TSpan_cells ys0_1 p0.fTracks) :
  Calls Tryz.prog 20 [.agg #[vI p0.fPlaces,.slice Ab n0_1 cb],vI p1,vI p2,vI p3,vI p4].toArray W fun e W2 => e = .returned (.agg #[vI res.fP.fToll,vI res.fP.fA,vI res.fE]) ∧ Ext W W2 []:=by
 subst hn0_1
 unfold eX at h
 refine ae (m:=45) Tryz.func20 rfl rfl (nB rfl) (cS (cR ?_))
 refine aW [vI p0.fPlaces,.slice Ab p0.fTracks.length cb] rfl rfl rfl (fun b1 => ?_)
 refine aE tM rfl (fun b2 => ?_)
 refine oN (eT (cS (cR (oY rfl (yN 0 [vI p0.fPlaces,.slice Ab p0.fTracks.length cb] dM rfl rfl rfl) (oY rfl (yMI rfl) (oY rfl (yMI rfl) (oY rfl (yMI rfl) (oY rfl (yMI rfl) ?_))))))))
 obtain ⟨y3,hy4,h⟩:=bOs h
 refine oY rfl (yC [.agg #[vI p0.fPlaces,.slice Ab p0.fTracks.length cb],vI p1,vI p2,vI p3,vI p4] go_73 rfl (fun W2 hW2 => je p0 p1 p2 p3 p4 y3 hy4 W2 Ab p0.fTracks.length cb ys0_1 rfl ((RdL.arg hr0_1) W2 hW2) (NestL.at (NestL.arg hN0_1) W2 hW2)) rfl) (oY rfl (yAI rfl) (oN (eT (cS (cS (cR (oY rfl (yMI rfl) (oY rfl (dl rfl rfl) (oN (eT ?_))))))))))
 rcases iOs h with ⟨hp5,h⟩ | ⟨hp5,h⟩
 ·refine cT (vB hp5) (cS (cR (oY rfl (yMI rfl) ?_)))
  refine oY rfl (aY [vI 0,vI 0,vI y3] [(0,2),(2,1)] ust_39 tM (by kernel_rfl)) ?_
  refine cr rfl (yS 1 [vI 0,vI 0,vI y3] sz_39 rfl (nB rfl) rfl rfl rfl) (oN (eT (am (aa ?_))))
  obtain rfl:=sI h
  exact al (.inl rfl) rfl (bz 1 [vI 0,vI 0,vI y3] ag_39 rfl rfl rfl) (fun W2 hW2 => ⟨rfl,hW2.none⟩)
 ·refine cF (vB hp5) (cK (eT (cS (cR (oY rfl (yN 0 [vI p0.fPlaces,.slice Ab p0.fTracks.length cb] dM rfl rfl rfl) (oY rfl (yMI rfl) (oY rfl (yMI rfl) ?_)))))))
  obtain ⟨y6,hy7,h⟩:=bOs h
  refine oC [.agg #[vI p0.fPlaces,.slice Ab p0.fTracks.length cb],vI p1,vI p3] _ _ _ rfl go_75 rfl (fun W2 hW2 => eS p0 p1 p3 y6 hy7 W2 Ab p0.fTracks.length cb ys0_1 rfl ((RdL.arg hr0_1) W2 hW2) (NestL.at (NestL.arg hN0_1) W2 hW2) W (fun _ => True) (fun W3 hb => ⟨fV hW2.below hb,trivial⟩) ) ?_
  rintro ⟨⟨A10,n12,c11⟩,ys15,F16⟩ ⟨hn13,hP14,hV17⟩
  replace hn13 : n12 = y6.length:=hn13; subst hn13
  refine oY rfl (yMI rfl) ?_
  obtain ⟨hg18,h⟩:=gOs h
  refine oY rfl (yI ki (by decide) hg18.1 hg18.2 (RdL.row 2 rfl) (eL aq (NestP.hn hP14 rfl)) rfl rfl) ?_
  refine oY rfl (yR (A:=A10) (j:=(Int.toNat p2 * 1)) (v:=.slice ((rdL ys15 p2).1.1) ((rdL y6 p2).length) ((rdL ys15 p2).1.2.2)) iR (RdL.row 2 rfl) rfl (aC aq hg18.1 (ah hg18.2 (NestP.hn hP14 rfl)) (congrArg (fun n : Nat => some (Value.slice (rdL ys15 p2).1.1 n (rdL ys15 p2).1.2.2)) (NestP.len hP14 hg18.1 (ah hg18.2 rfl))))) (oY rfl (yMI rfl) (oY rfl (aT rfl rfl) ?_))
  obtain ⟨hg19,h⟩:=gOs h
  refine oY rfl (o9 bZ hg19.1 hg19.2 (NestL.rd (PvL.nestL hP14 hV17 (fun W2 hW2 => ⟨hW2.below,trivial,hW2.mem (i:=3) rfl⟩)) hg18.1 (ah hg18.2 rfl)) rfl rfl) ?_
  obtain ⟨y20,hy21,h⟩:=bOs h
  refine oC [.slice ((rdL ys15 p2).1.1) (Int.toNat (w64 (p4 + 1))) ((rdL ys15 p2).1.2.2)] _ _ _ rfl go_74 rfl (fun W2 hW2 => n3 ((rdL y6 p2).take (Int.toNat (w64 (p4 + 1)))) y20 hy21 W2 ((rdL ys15 p2).1.1) (Int.toNat (w64 (p4 + 1))) ((rdL ys15 p2).1.2.2) (jV hg19.2 rfl) ((RdL.cutH aA (NestL.rd (PvL.nestL hP14 hV17 (fun W2 hW2 => ⟨hW2.below,trivial,hW2.mem (i:=3) rfl⟩)) hg18.1 (ah hg18.2 rfl)) hg19.1 hg19.2) W2 hW2)) ?_
  rintro ⟨A22,n24,c23⟩ hn25
  replace hn25 : n24 = y20.length:=hn25; subst hn25
  refine oY rfl (yAS rfl) (oN (eT (cS (cS (cR (oY rfl (yMS rfl) (oY rfl (bp (us:=[]) rI rfl) (oY rfl (da rfl rfl) (oN (eT ?_))))))))))
  rcases iOs h with ⟨hp26,h⟩ | ⟨hp26,h⟩
  ·refine cT (vB hp26) (cS (cR ?_))
   refine oY rfl (aY [vI 0,vI 0,vI 5] [(0,2),(2,1)] ust_39 tM (by kernel_rfl)) ?_
   refine cr rfl (yS 1 [vI 0,vI 0,vI 5] sz_39 rfl (nB rfl) rfl rfl rfl) (oN (eT (am (aa ?_))))
   obtain rfl:=sI h
   exact al (.inl rfl) rfl (bz 1 [vI 0,vI 0,vI 5] ag_39 rfl rfl rfl) (fun W2 hW2 => ⟨rfl,hW2.none⟩)
  ·refine cF (vB hp26) (cK (eT (cS (cR (oY rfl (yMS rfl) (oY rfl (yMS rfl) (oY rfl (bp (us:=[]) rI rfl) (oY rfl (eH rfl rfl) ?_))))))))
   obtain ⟨hg27,h⟩:=gOs h
   refine oY rfl (yI sl_109 (by decide) hg27.1 hg27.2 (RdL.row 4 rfl) (eL fw rfl) rfl rfl) ?_
   refine oY rfl (yM (A:=A22) (j:=(Int.toNat (w64 ((y20.length:Int) - 1)) * 2)) [vI ((rdL y20 (w64 ((y20.length:Int) - 1))).fToll),vI ((rdL y20 (w64 ((y20.length:Int) - 1))).fA)] ag_37 (Nat.succ_pos _) (RdL.row 4 rfl) rfl (bl fw hg27.1 (ah hg27.2 rfl))) ?_
   refine oY rfl (aY [vI ((rdL y20 (w64 ((y20.length:Int) - 1))).fToll),vI ((rdL y20 (w64 ((y20.length:Int) - 1))).fA),vI 0] [(0,2),(2,1)] ust_39 tM (by kernel_rfl)) ?_
   refine cr rfl (yS 1 [vI ((rdL y20 (w64 ((y20.length:Int) - 1))).fToll),vI ((rdL y20 (w64 ((y20.length:Int) - 1))).fA),vI 0] sz_39 rfl (nB rfl) rfl rfl rfl) (oN (eT (am ?_)))
   obtain rfl:=sI h
   exact al (.inl rfl) rfl (bz 1 [vI ((rdL y20 (w64 ((y20.length:Int) - 1))).fToll),vI ((rdL y20 (w64 ((y20.length:Int) - 1))).fA),vI 0] ag_39 rfl rfl rfl) (fun W2 hW2 => ⟨rfl,hW2.none⟩)
theorem oc (p0:TR) (p1:Int) (p2:Int) (p3:Int) (p4:Int) (res:(Int × Int)) (h:eK p0 p1 p2 p3 p4 = some res) (W:World) (Ab:Option Addr) (n0_1 cb : Nat) (ys0_1:List (Hd × TT)) (hn0_1:n0_1 = p0.fTracks.length) (hr0_1:Rd W Ab n0_1 cb (encL TTrack_cells2 ys0_1)) (hN0_1:NestW W (fun z : TT => z.fK) TSpan_cells ys0_1 p0.fTracks) :
  Calls Tryz.prog 22 [.agg #[vI p0.fPlaces,.slice Ab n0_1 cb],vI p1,vI p2,vI p3,vI p4].toArray W fun e W2 => e = .returned (.tuple #[vI res.1,vI res.2]) ∧ Ext W W2 []:=by
 subst hn0_1
 unfold eK at h
 refine ae (m:=60) Tryz.func22 rfl rfl (nB rfl) (cS (cR ?_))
 refine aW [vI p0.fPlaces,.slice Ab p0.fTracks.length cb] rfl rfl rfl (fun b1 => ?_)
 refine oY rfl (yAI rfl) (oY rfl (yAI rfl) (oN (eT (cS (cR (oY rfl (yN 0 [vI p0.fPlaces,.slice Ab p0.fTracks.length cb] dM rfl rfl rfl) (oY rfl (yMI rfl) (oY rfl (yMI rfl) (oY rfl (yMI rfl) (oY rfl (yMI rfl) ?_))))))))))
 obtain ⟨y2,hy3,h⟩:=bOs h
 refine oY rfl (yC [.agg #[vI p0.fPlaces,.slice Ab p0.fTracks.length cb],vI p1,vI p2,vI p3,vI p4] go_73 rfl (fun W2 hW2 => je p0 p1 p2 p3 p4 y2 hy3 W2 Ab p0.fTracks.length cb ys0_1 rfl ((RdL.arg hr0_1) W2 hW2) (NestL.at (NestL.arg hN0_1) W2 hW2)) rfl) (oY rfl (yAI rfl) (oN (eT (cS (cS (cR (oY rfl (yMI rfl) (oY rfl (dl rfl rfl) (oN (eT ?_))))))))))
 rcases iOs h with ⟨hp4,h⟩ | ⟨hp4,h⟩
 ·refine cT (vB hp4) (cS (cR (oY rfl (yMI rfl) (oY rfl (yAI rfl) (oY rfl (yAI rfl) (oN (eT (am (aa ?_)))))))))
  obtain rfl:=sI h
  exact bI (.inl rfl) rfl (rVt (v:=vI 0) rfl) (rVt (v:=vI y2) rfl) (fun W2 hW2 => ⟨rfl,hW2.none⟩)
 ·refine cF (vB hp4) (cK (eT (cS (cR (oY rfl (yAI rfl) (oN (eT (cS (cR (oY rfl (yMI rfl) (oY rfl (yAI rfl) (oN (eT (cS (cB ?_)))))))))))))))
  obtain ⟨u7,hl25,h⟩:=bOs h
  refine ba (fun (s:(Int × Int)) L tm => ∃ (tm0:Nat → Value),L = [ai b1 24 [vI p0.fPlaces,.slice Ab p0.fTracks.length cb]] ∧ tm = (upd (upd (upd (upd (upd (upd (upd (upd (upd tm0 1 (vI p1)) 2 (vI p2)) 3 (vI p3)) 4 (vI p4)) 5 (.pointer (some ⟨b1,0,none⟩))) 10 (vI 0)) 11 (vI 0)) 13 (vI s.1)) 14 (vI s.2))) 0 hl25 ⟨_,rfl,(kp4 (kp4 (kp rfl)))⟩ ?_ ?_
  ·rintro s6 L tm st ⟨tm0_s6,rfl,rfl⟩ h
   unfold ge at h
   refine cS (cS (cR (oY rfl (yMI rfl) (oY rfl (yMI rfl) (oY rfl (bj rfl rfl) (oN (eT ?_)))))))
   rcases iOs h with ⟨hp8,h⟩ | ⟨hp8,h⟩
   ·refine cT (vB hp8) (cK (eT (cB (cS (cR (oY rfl (yMI rfl) (oY rfl (yMI rfl) (oY rfl (yMI rfl) (oY rfl (eH rfl rfl) (oY rfl (aT rfl rfl) ?_))))))))))
    refine oY rfl (y_quo (by decide) rfl rfl) ?_
    refine oY rfl (aT rfl rfl) (oY rfl (yAI rfl) (oN (eT (cS (cR (oY rfl (yN 0 [vI p0.fPlaces,.slice Ab p0.fTracks.length cb] dM rfl rfl rfl) (oY rfl (yMI rfl) (oY rfl (yMI rfl) ?_))))))))
    obtain ⟨y9,hy10,h⟩:=bOs h
    refine oC [.agg #[vI p0.fPlaces,.slice Ab p0.fTracks.length cb],vI p1,vI (w64 (s6.1 + (w64 (Int.tdiv (w64 ((w64 (s6.2 - s6.1)) + 1)) 2))))] _ _ _ rfl go_75 rfl (fun W2 hW2 => eS p0 p1 (w64 (s6.1 + (w64 (Int.tdiv (w64 ((w64 (s6.2 - s6.1)) + 1)) 2)))) y9 hy10 W2 Ab p0.fTracks.length cb ys0_1 rfl ((RdL.arg hr0_1) W2 hW2) (NestL.at (NestL.arg hN0_1) W2 hW2) W (fun _ => True) (fun W3 hb => ⟨fV hW2.below hb,trivial⟩) ) ?_
    rintro ⟨⟨A13,n15,c14⟩,ys18,F19⟩ ⟨hn16,hP17,hV20⟩
    replace hn16 : n15 = y9.length:=hn16; subst hn16
    refine oY rfl (yMI rfl) ?_
    obtain ⟨hg21,h⟩:=gOs h
    refine oY rfl (yI ki (by decide) hg21.1 hg21.2 (RdL.row 1 rfl) (eL aq (NestP.hn hP17 rfl)) rfl rfl) ?_
    refine oY rfl (yR (A:=A13) (j:=(Int.toNat p2 * 1)) (v:=.slice ((rdL ys18 p2).1.1) ((rdL y9 p2).length) ((rdL ys18 p2).1.2.2)) iR (RdL.row 1 rfl) rfl (aC aq hg21.1 (ah hg21.2 (NestP.hn hP17 rfl)) (congrArg (fun n : Nat => some (Value.slice (rdL ys18 p2).1.1 n (rdL ys18 p2).1.2.2)) (NestP.len hP17 hg21.1 (ah hg21.2 rfl))))) (oY rfl (yMI rfl) ?_)
    obtain ⟨hg22,h⟩:=gOs h
    refine oY rfl (yI bZ (by decide) hg22.1 hg22.2 (NestL.rd (PvL.nestL hP17 hV20 (fun W2 hW2 => ⟨hW2.below,trivial,hW2.mem (i:=2) rfl⟩)) hg21.1 (ah hg21.2 rfl)) (eL aA rfl) rfl rfl) ?_
    refine oY rfl (yR (A:=((rdL ys18 p2).1.1)) (j:=(Int.toNat p4 * 1)) (v:=vI (rdL (rdL y9 p2) p4)) aV (NestL.rd (PvL.nestL hP17 hV20 (fun W2 hW2 => ⟨hW2.below,trivial,hW2.mem (i:=2) rfl⟩)) hg21.1 (ah hg21.2 rfl)) rfl (aC aA hg22.1 (ah hg22.2 rfl) rfl)) (oY rfl (yAI rfl) (oN (eT (cS (cR (oY rfl (yMI rfl) (oY rfl (oR rfl rfl) (oY rfl (yMB rfl) ?_))))))))
    refine oJ 4 (fun tm0 => (upd (upd (upd (upd (upd (upd (upd (upd (upd (upd (upd (upd (upd tm0 1 (vI p1)) 2 (vI p2)) 3 (vI p3)) 4 (vI p4)) 5 (.pointer (some ⟨b1,0,none⟩))) 10 (vI 0)) 11 (vI 0)) 13 (vI s6.1)) 14 (vI s6.2)) 29 (.bool (decide (s6.1 < s6.2)))) 15 (vI (w64 (s6.1 + (w64 (Int.tdiv (w64 ((w64 (s6.2 - s6.1)) + 1)) 2)))))) 16 (vI (rdL (rdL y9 p2) p4))) 53 (.bool ((decide (0 ≤ (rdL (rdL y9 p2) p4))) && (decide ((rdL (rdL y9 p2) p4) ≤ p3)))))) (fun tm0 => ?_) (fun key => ?_)
    ·refine oN (eT ?_)
     rcases iOs h with ⟨hp24,h⟩ | ⟨hp24,h⟩
     ·refine cT (vB hp24) (cR (oY rfl (yMI rfl) (oY rfl (yAI rfl) (oN (aw (aU 1 ?_))))))
      obtain rfl:=sI h
      exact eN ⟨_,rfl,(kp4 (kp4 (kp rfl)))⟩
     ·refine cF (vB hp24) (cR (oY rfl (yMI rfl) (oY rfl (eH rfl rfl) (oY rfl (yAI rfl) (oN (aw (aU 1 ?_)))))))
      obtain rfl:=sI h
      exact eN ⟨_,rfl,(kp4 (kp4 (kp rfl)))⟩
    ·rcases ao (decide (0 ≤ (rdL (rdL y9 p2) p4))) with hp23 | hp23
     ·refine oY (sT rfl rfl rfl rfl hp23) (yMI rfl) (oY (sT rfl rfl rfl rfl hp23) (yMI rfl) (oY (sT rfl rfl rfl rfl hp23) (jw rfl rfl) (oY rfl (ab (vB hp23) rfl) ?_)))
      exact key _ _ (keep (keep (keep (keep (keep (keep (keep (keep (keep (keep (keep (keep (keep rfl rfl) rfl) rfl) rfl) rfl) rfl) rfl) rfl) rfl) rfl) rfl) rfl) (vB (fc hp23)))
     ·refine oSk (sF rfl rfl rfl rfl hp23) (oSk (sF rfl rfl rfl rfl hp23) (oSk (sF rfl rfl rfl rfl hp23) (oY rfl (ad (vB hp23) rfl) ?_)))
      exact key _ _ (keep (keep (keep (keep (keep (keep (keep (keep (keep (keep (keep (keep (keep rfl rfl) rfl) rfl) rfl) rfl) rfl) rfl) rfl) rfl) rfl) rfl) rfl) (vB (fa hp23)))
   ·refine cF (vB hp8) (aH (ag ?_))
    obtain rfl:=sI h
    exact ax ⟨rfl,_,rfl,(kp4 (kp4 (kp rfl)))⟩
  ·intro e L tm hJ
   obtain ⟨rfl,tm0_u7,rfl,rfl⟩:=hJ
   refine ⟨(by intro hc; cases hc),?_⟩
   refine ac (eT (cS (cS (cR (oY rfl (yMI rfl) (oY rfl (bj rfl rfl) (oN (eT ?_))))))))
   rcases iOs h with ⟨hp26,h⟩ | ⟨hp26,h⟩
   ·refine cT (vB hp26) (cS (cR (oY rfl (yAI rfl) (oY rfl (yAI rfl) (oN (eT (am (aa ?_))))))))
    obtain rfl:=sI h
    exact bI (.inl rfl) rfl (rVt (v:=vI 0) rfl) (rVt (v:=vI 5) rfl) (fun W2 hW2 => ⟨rfl,hW2.none⟩)
   ·refine cF (vB hp26) (cK (eT (cS (cR (oY rfl (yMI rfl) (oY rfl (yAI rfl) (oY rfl (yAI rfl) (oN (eT (am ?_))))))))))
    obtain rfl:=sI h
    exact bI (.inl rfl) rfl (rVt (v:=vI u7.1) rfl) (rVt (v:=vI 0) rfl) (fun W2 hW2 => ⟨rfl,hW2.none⟩)
theorem ou (p0:TR) (p1:Int) (p2:Int) (p3:Int) (p4:Int) (res:TInts) (h:cG p0 p1 p2 p3 p4 = some res) (W:World) (Ab:Option Addr) (n0_1 cb : Nat) (ys0_1:List (Hd × TT)) (hn0_1:n0_1 = p0.fTracks.length) (hr0_1:Rd W Ab n0_1 cb (encL TTrack_cells2 ys0_1)) (hN0_1:NestW W (fun z : TT => z.fK) TSpan_cells ys0_1 p0.fTracks) :
  Calls Tryz.prog 24 [.agg #[vI p0.fPlaces,.slice Ab n0_1 cb],vI p1,vI p2,vI p3,vI p4].toArray W fun e W2 => ∃ x : Option Addr × Nat × Nat,x.2.1 = res.fL.length ∧ e = .returned (.agg #[.slice x.1 x.2.1 x.2.2,vI res.fE]) ∧ Ext W W2 [aL x.1 x.2.2 3 1 x.2.1 (encL cI res.fL)]:=by
 subst hn0_1
 unfold cG at h
 refine ae (m:=83) Tryz.func24 rfl rfl (nB rfl) (cS (cR ?_))
 refine aW [vI p0.fPlaces,.slice Ab p0.fTracks.length cb] rfl rfl rfl (fun b1 => ?_)
 refine aE ze_46 rfl (fun b2 => ?_)
 refine oN (eT (cS (cR (oY rfl (yN 0 [vI p0.fPlaces,.slice Ab p0.fTracks.length cb] dM rfl rfl rfl) (oY rfl (yMI rfl) (oY rfl (yMI rfl) (oY rfl (yMI rfl) (oY rfl (yMI rfl) ?_))))))))
 obtain ⟨y3,hy4,h⟩:=bOs h
 refine oY rfl (yC [.agg #[vI p0.fPlaces,.slice Ab p0.fTracks.length cb],vI p1,vI p2,vI p3,vI p4] go_73 rfl (fun W2 hW2 => je p0 p1 p2 p3 p4 y3 hy4 W2 Ab p0.fTracks.length cb ys0_1 rfl ((RdL.arg hr0_1) W2 hW2) (NestL.at (NestL.arg hN0_1) W2 hW2)) rfl) (oY rfl (yAI rfl) (oN (eT (cS (cS (cR (oY rfl (yMI rfl) (oY rfl (dl rfl rfl) (oN (eT ?_))))))))))
 rcases iOs h with ⟨hp5,h⟩ | ⟨hp5,h⟩
 ·refine cT (vB hp5) (cS (cR (oY rfl (yMI rfl) ?_)))
  refine oY rfl (aY [.slice none 0 0,vI y3] [(0,1),(1,1)] ust_46 ze_46 (by kernel_rfl)) ?_
  refine cr rfl (yS 1 [.slice none 0 0,vI y3] sz_46 rfl (nB rfl) rfl rfl rfl) (oN (eT (am (aa ?_))))
  obtain rfl:=sI h
  exact al (.inl rfl) rfl (bz 1 [.slice none 0 0,vI y3] ag_46 rfl rfl rfl) (fun W2 hW2 => ⟨(none,0,0),rfl,rfl,((hW2.nilrow 3 1).pick 2 rfl)⟩)
 ·refine cF (vB hp5) (cK (eT (cS (cR (oY rfl (yN 0 [vI p0.fPlaces,.slice Ab p0.fTracks.length cb] dM rfl rfl rfl) (oY rfl (yMI rfl) (oY rfl (yMI rfl) ?_)))))))
  obtain ⟨y6,hy7,h⟩:=bOs h
  refine oC [.agg #[vI p0.fPlaces,.slice Ab p0.fTracks.length cb],vI p1,vI p3] _ _ _ rfl go_75 rfl (fun W2 hW2 => eS p0 p1 p3 y6 hy7 W2 Ab p0.fTracks.length cb ys0_1 rfl ((RdL.arg hr0_1) W2 hW2) (NestL.at (NestL.arg hN0_1) W2 hW2) W (fun _ => True) (fun W3 hb => ⟨fV hW2.below hb,trivial⟩) ) ?_
  rintro ⟨⟨A10,n12,c11⟩,ys15,F16⟩ ⟨hn13,hP14,hV17⟩
  replace hn13 : n12 = y6.length:=hn13; subst hn13
  refine oY rfl (yMI rfl) ?_
  obtain ⟨hg18,h⟩:=gOs h
  refine oY rfl (yI ki (by decide) hg18.1 hg18.2 (RdL.row 2 rfl) (eL aq (NestP.hn hP14 rfl)) rfl rfl) ?_
  refine oY rfl (yR (A:=A10) (j:=(Int.toNat p2 * 1)) (v:=.slice ((rdL ys15 p2).1.1) ((rdL y6 p2).length) ((rdL ys15 p2).1.2.2)) iR (RdL.row 2 rfl) rfl (aC aq hg18.1 (ah hg18.2 (NestP.hn hP14 rfl)) (congrArg (fun n : Nat => some (Value.slice (rdL ys15 p2).1.1 n (rdL ys15 p2).1.2.2)) (NestP.len hP14 hg18.1 (ah hg18.2 rfl))))) (oY rfl (yMI rfl) ?_)
  obtain ⟨hg19,h⟩:=gOs h
  refine oY rfl (yI bZ (by decide) hg19.1 hg19.2 (NestL.rd (PvL.nestL hP14 hV17 (fun W2 hW2 => ⟨hW2.below,trivial,hW2.mem (i:=3) rfl⟩)) hg18.1 (ah hg18.2 rfl)) (eL aA rfl) rfl rfl) ?_
  refine oY rfl (yR (A:=((rdL ys15 p2).1.1)) (j:=(Int.toNat p4 * 1)) (v:=vI (rdL (rdL y6 p2) p4)) aV (NestL.rd (PvL.nestL hP14 hV17 (fun W2 hW2 => ⟨hW2.below,trivial,hW2.mem (i:=3) rfl⟩)) hg18.1 (ah hg18.2 rfl)) rfl (aC aA hg19.1 (ah hg19.2 rfl) rfl)) (oY rfl (yAI rfl) (oN (eT (cS (cS (cR (oY rfl (yMI rfl) (oY rfl (bj rfl rfl) (oN (eT ?_))))))))))
  rcases iOs h with ⟨hp20,h⟩ | ⟨hp20,h⟩
  ·refine cT (vB hp20) (cS (cR ?_))
   refine oY rfl (aY [.slice none 0 0,vI 5] [(0,1),(1,1)] ust_46 ze_46 (by kernel_rfl)) ?_
   refine cr rfl (yS 1 [.slice none 0 0,vI 5] sz_46 rfl (nB rfl) rfl rfl rfl) (oN (eT (am (aa ?_))))
   obtain rfl:=sI h
   exact al (.inl rfl) rfl (bz 1 [.slice none 0 0,vI 5] ag_46 rfl rfl rfl) (fun W2 hW2 => ⟨(none,0,0),rfl,rfl,((hW2.nilrow 3 1).pick 4 rfl)⟩)
  ·refine cF (vB hp20) (cK (eT (cS (cR (oY rfl (yAS rfl) (oN (eT (cS (cS (cR (oY rfl (yAI rfl) (oN (eT (cB ?_))))))))))))))
   obtain ⟨u24,hl59,h⟩:=bOs h
   refine cQ 3 1 ?_
   refine ba (fun (s:(Int × (List Int))) L tm => ∃ (tm0:Nat → Value) (A4_s:Option Addr) (c4_s:Nat) (n4_s:Nat),n4_s = s.2.length ∧ L = [ai b1 24 [vI p0.fPlaces,.slice Ab p0.fTracks.length cb],ai b2 46 [.slice none 0 0,vI 0],aL A10 c11 42 1 y6.length (encL a7 ys15),F16,aL A4_s c4_s 3 1 n4_s (encL cI s.2)] ∧ tm = (upd (upd (upd (upd (upd (upd (upd (upd (upd tm0 1 (vI p1)) 2 (vI p2)) 3 (vI p3)) 4 (vI p4)) 5 (.pointer (some ⟨b1,0,none⟩))) 10 (.pointer (some ⟨b2,0,none⟩))) 12 (vI (rdL (rdL y6 p2) p4))) 13 (.slice A4_s n4_s c4_s)) 14 (vI s.1))) 0 hl59 ⟨_,none,0,0,rfl,rfl,(kp4 (kp4 (kp rfl)))⟩ ?_ ?_
   ·rintro s23 L tm st ⟨tm0_s23,A4_s23,c4_s23,n4_s23,rfl,rfl,rfl⟩ h
    unfold eE at h
    refine cS (cS (cR (oY rfl (yMI rfl) (oY rfl (yFA cq rfl) (oY rfl (yL 0 gG rfl rfl rfl) (oY rfl (bp (us:=[]) gF rfl) (oY rfl (bj rfl rfl) (oN (eT ?_)))))))))
    rcases iOs h with ⟨hp25,h⟩ | ⟨hp25,h⟩
    ·refine cT (vB hp25) (cK (eT (cS (cB (cS ?_)))))
     obtain ⟨hg28,h⟩:=gOs h
     obtain ⟨hg31,h⟩:=gOs h
     obtain ⟨hg32,h⟩:=gOs h
     obtain ⟨hg35,h⟩:=gOs h
     refine eF [[],[0],[],[],[3],[],[3,4,5],[2,3,4,5,6],[],[8],[],[10],[8,9,10,11],[2,3,4,5,6,7,8,9,10,11,12],[0,1,2,3,4,5,6,7,8,9,10,11,12,13],[],[0,1,2,3,4,5,6,7,8,9,10,11,12,13,14,15]] [(none,0,[true,true,true,true,true]),(none,0,[true,true,true,true,true]),(none,1,[true,true,true,true,true]),(none,0,[true,true,true,true,true,false]),(none,0,[true,true,true,true,true,false]),(none,0,[true,true,true,true,true,false]),(none,0,[true,true,true,true,true,false]),(some 5,0,[true,true,true,true,true,true]),(none,0,[true,true,true,true,true,false]),(none,0,[true,true,true,true,true,false]),(none,0,[true,true,true,true,true,false]),(none,0,[true,true,true,true,true,false]),(none,0,[true,true,true,true,true,false]),(some 5,0,[true,true,true,true,true,true]),(none,0,[true,true,true,true,true,true]),(none,1,[true,true,true,true,true,false]),(some 6,0,[true,true,true,true,true,true,true])] [⟨fun _ => .pointer (some ⟨b1,0 + 0,none⟩),fun _ => noR,fun _ => []⟩,⟨fun _ => vI p0.fPlaces,fun _ => noR,fun _ => []⟩,⟨fun ξ26 => .slice (some ⟨(ξ26 2 0).2.1,0,none⟩) 0 0,fun _ => noR,fun ξ26 => [aL (some ⟨(ξ26 2 0).2.1,0,none⟩) 0 120 6 0 (encL TTrack_cells2 ([]:List (Hd × TT)))]⟩,⟨fun _ => .pointer (some ⟨b1,0 + 1,none⟩),fun _ => noR,fun _ => []⟩,⟨fun _ => .slice Ab p0.fTracks.length cb,fun _ => noR,fun _ => []⟩,⟨fun _ => vI s23.1,fun _ => noR,fun _ => []⟩,⟨fun _ => .slice Ab (Int.toNat s23.1) cb,fun _ => noR,fun _ => []⟩,⟨fun ξ26 => .slice (ξ26 7 0).1 (0 + (Int.toNat s23.1)) (ξ26 7 0).2.2.1,fun ξ26 => aL (ξ26 7 0).1 (ξ26 7 0).2.2.1 120 6 (0 + (Int.toNat s23.1)) (encL TTrack_cells2 (([]:List (Hd × TT)) ++ (ys0_1.take (Int.toNat s23.1)))),fun _ => []⟩,⟨fun _ => .pointer (some ⟨b1,0 + 1,none⟩),fun _ => noR,fun _ => []⟩,⟨fun _ => .slice Ab p0.fTracks.length cb,fun _ => noR,fun _ => []⟩,⟨fun _ => vI s23.1,fun _ => noR,fun _ => []⟩,⟨fun _ => vI (w64 (s23.1 + 1)),fun _ => noR,fun _ => []⟩,⟨fun _ => .slice (if cb = Int.toNat (w64 (s23.1 + 1)) then Ab else Option.map (fun x => x.add (Int.toNat (w64 (s23.1 + 1)) * 6)) Ab) (p0.fTracks.length - Int.toNat (w64 (s23.1 + 1))) (cb - Int.toNat (w64 (s23.1 + 1))),fun _ => noR,fun _ => []⟩,⟨fun ξ26 => .slice (ξ26 13 0).1 ((0 + (Int.toNat s23.1)) + (p0.fTracks.length - Int.toNat (w64 (s23.1 + 1)))) (ξ26 13 0).2.2.1,fun ξ26 => aL (ξ26 13 0).1 (ξ26 13 0).2.2.1 120 6 ((0 + (Int.toNat s23.1)) + (p0.fTracks.length - Int.toNat (w64 (s23.1 + 1)))) (encL TTrack_cells2 ((([]:List (Hd × TT)) ++ (ys0_1.take (Int.toNat s23.1))) ++ (ys0_1.drop (Int.toNat (w64 (s23.1 + 1)))))),fun _ => []⟩,⟨fun ξ26 => .agg #[vI p0.fPlaces,.slice (ξ26 13 0).1 ((0 + (Int.toNat s23.1)) + (p0.fTracks.length - Int.toNat (w64 (s23.1 + 1)))) (ξ26 13 0).2.2.1],fun _ => noR,fun _ => []⟩,⟨fun ξ26 => .pointer (some ⟨(ξ26 15 0).2.1,0,none⟩),fun _ => noR,fun ξ26 => [ai (ξ26 15 0).2.1 24 [vI 0,.slice none 0 0]]⟩,⟨fun _ => undef,fun ξ26 => ai (ξ26 15 0).2.1 24 [vI p0.fPlaces,.slice (ξ26 13 0).1 ((0 + (Int.toNat s23.1)) + (p0.fTracks.length - Int.toNat (w64 (s23.1 + 1)))) (ξ26 13 0).2.2.1],fun _ => []⟩] 5 cD (by kernel_rfl) (by kernel_rfl) ⟨⟨fun ξ26 ξ26' h => ⟨rfl,rfl,rfl⟩,fun _ => rfl⟩,⟨fun ξ26 ξ26' h => ⟨rfl,rfl,rfl⟩,fun _ => rfl⟩,⟨fun ξ26 ξ26' h => ⟨by simp only [h 2 (.inl rfl)],rfl,by simp only [h 2 (.inl rfl)]⟩,fun _ => rfl⟩,⟨fun ξ26 ξ26' h => ⟨rfl,rfl,rfl⟩,fun _ => rfl⟩,⟨fun ξ26 ξ26' h => ⟨rfl,rfl,rfl⟩,fun _ => rfl⟩,⟨fun ξ26 ξ26' h => ⟨rfl,rfl,rfl⟩,fun _ => rfl⟩,⟨fun ξ26 ξ26' h => ⟨rfl,rfl,rfl⟩,fun _ => rfl⟩,⟨fun ξ26 ξ26' h => ⟨by simp only [h 7 (.inl rfl)],by simp only [h 7 (.inl rfl)],rfl⟩,fun _ => rfl⟩,⟨fun ξ26 ξ26' h => ⟨rfl,rfl,rfl⟩,fun _ => rfl⟩,⟨fun ξ26 ξ26' h => ⟨rfl,rfl,rfl⟩,fun _ => rfl⟩,⟨fun ξ26 ξ26' h => ⟨rfl,rfl,rfl⟩,fun _ => rfl⟩,⟨fun ξ26 ξ26' h => ⟨rfl,rfl,rfl⟩,fun _ => rfl⟩,⟨fun ξ26 ξ26' h => ⟨rfl,rfl,rfl⟩,fun _ => rfl⟩,⟨fun ξ26 ξ26' h => ⟨by simp only [h 13 (.inl rfl)],by simp only [h 13 (.inl rfl)],rfl⟩,fun _ => rfl⟩,⟨fun ξ26 ξ26' h => ⟨by simp only [h 13 (.inr rfl)],rfl,rfl⟩,fun _ => rfl⟩,⟨fun ξ26 ξ26' h => ⟨by simp only [h 15 (.inl rfl)],rfl,by simp only [h 15 (.inl rfl)]⟩,fun _ => rfl⟩,⟨fun ξ26 ξ26' h => ⟨rfl,by simp only [h 13 (.inr rfl),h 15 (.inr rfl)],rfl⟩,fun _ => rfl⟩,trivial⟩ rfl (fun ξ26 => ?_)
     refine bN rfl (fun L2 => ?_) ?_
     ·dsimp only [aF,lca,lna]
      refine oY rfl (yFA d8 rfl) (oN ?_)
      exact ap (fun _ => (none,0,0,[],noR)) rfl (List.append_nil _)
     dsimp only [bx,lsz,lss,lna,lca,List.append_nil]
     refine bN rfl (fun L2 => ?_) ?_
     ·dsimp only [aF,lca,lna]
      refine oY rfl (yL 0 aV rfl rfl rfl) (oN ?_)
      exact ap (fun _ => (none,0,0,[],noR)) rfl (List.append_nil _)
     dsimp only [bx,lsz,lss,lna,lca,List.append_nil]
     refine bN rfl (fun L2 => ?_) ?_
     ·dsimp only [aF,lca,lna]
      refine dZ TTrack_cells2 gF gp og rfl (fun b27 => ?_)
      refine oN ?_
      exact ap (fun _ => (none,b27,0,[],noR)) rfl rfl
     dsimp only [bx,lsz,lss,lna,lca,List.append_nil]
     refine bN rfl (fun L2 => ?_) ?_
     ·dsimp only [aF,lca,lna]
      refine oY rfl (yFA cq rfl) (oN ?_)
      exact ap (fun _ => (none,0,0,[],noR)) rfl (List.append_nil _)
     dsimp only [bx,lsz,lss,lna,lca,List.append_nil]
     refine bN rfl (fun L2 => ?_) ?_
     ·dsimp only [aF,lca,lna]
      refine oY rfl (yL 0 gG rfl rfl rfl) (oN ?_)
      exact ap (fun _ => (none,0,0,[],noR)) rfl (List.append_nil _)
     dsimp only [bx,lsz,lss,lna,lca,List.append_nil]
     refine bN rfl (fun L2 => ?_) ?_
     ·dsimp only [aF,lca,lna]
      refine oY rfl (yMI rfl) (oN ?_)
      exact ap (fun _ => (none,0,0,[],noR)) rfl (List.append_nil _)
     dsimp only [bx,lsz,lss,lna,lca,List.append_nil]
     refine bN rfl (fun L2 => ?_) ?_
     ·dsimp only [aF,lca,lna]
      refine oY rfl (o9 jP hg28.1 hg28.2 (RdL.arg hr0_1) rfl rfl) (oN ?_)
      exact ap (fun _ => (none,0,0,[],noR)) rfl (List.append_nil _)
     dsimp only [bx,lsz,lss,lna,lca,List.append_nil]
     refine bN rfl (fun L2 => ?_) ?_
     ·dsimp only [aF,lca,lna]
      refine bE 5 gF gp og rfl rfl rfl (RdL.cutH au (RdL.arg hr0_1) hg28.1 hg28.2) (eL au (NestP.hn (NestP.take _ hN0_1.p) (jV hg28.2 rfl))) (cv eU _) (cA hg31 (by decide)) rfl (fun A29 c30 => ?_)
      refine oN ?_
      first | exact ap (fun _ => (A29,0,c30,[],noR)) rfl rfl | exact ap (fun _ => (A29,0,c30,[],noR)) rfl (List.append_nil _)
     dsimp only [bx,lsz,lss,lna,lca,List.append_nil]
     refine bN rfl (fun L2 => ?_) ?_
     ·dsimp only [aF,lca,lna]
      refine oY rfl (yFA cq rfl) (oN ?_)
      exact ap (fun _ => (none,0,0,[],noR)) rfl (List.append_nil _)
     dsimp only [bx,lsz,lss,lna,lca,List.append_nil]
     refine bN rfl (fun L2 => ?_) ?_
     ·dsimp only [aF,lca,lna]
      refine oY rfl (yL 0 gG rfl rfl rfl) (oN ?_)
      exact ap (fun _ => (none,0,0,[],noR)) rfl (List.append_nil _)
     dsimp only [bx,lsz,lss,lna,lca,List.append_nil]
     refine bN rfl (fun L2 => ?_) ?_
     ·dsimp only [aF,lca,lna]
      refine oY rfl (yMI rfl) (oN ?_)
      exact ap (fun _ => (none,0,0,[],noR)) rfl (List.append_nil _)
     dsimp only [bx,lsz,lss,lna,lca,List.append_nil]
     refine bN rfl (fun L2 => ?_) ?_
     ·dsimp only [aF,lca,lna]
      refine oY rfl (aT rfl rfl) (oN ?_)
      exact ap (fun _ => (none,0,0,[],noR)) rfl (List.append_nil _)
     dsimp only [bx,lsz,lss,lna,lca,List.append_nil]
     refine bN rfl (fun L2 => ?_) ?_
     ·dsimp only [aF,lca,lna]
      refine oY rfl (qS jP hg32.1 hg32.2 (RdL.arg hr0_1) rfl rfl) (oN ?_)
      exact ap (fun _ => (none,0,0,[],noR)) rfl (List.append_nil _)
     dsimp only [bx,lsz,lss,lna,lca,List.append_nil]
     refine bN rfl (fun L2 => ?_) ?_
     ·dsimp only [aF,lca,lna]
      refine bE 5 gF gp og rfl rfl rfl (RdL.cutL au (RdL.arg hr0_1) hg32.1 hg32.2 (NestP.hn hN0_1.p rfl)) (eL au (NestP.hn (NestP.drop _ hN0_1.p) (na rfl))) (cv eU _) (cA hg35 (by decide)) rfl (fun A33 c34 => ?_)
      refine oN ?_
      first | exact ap (fun _ => (A33,0,c34,[],noR)) rfl rfl | exact ap (fun _ => (A33,0,c34,[],noR)) rfl (List.append_nil _)
     dsimp only [bx,lsz,lss,lna,lca,List.append_nil]
     refine bN rfl (fun L2 => ?_) ?_
     ·dsimp only [aF,lca,lna]
      refine oY rfl (aY [vI p0.fPlaces,.slice (ξ26 13 0).1 ((0 + (Int.toNat s23.1)) + (p0.fTracks.length - Int.toNat (w64 (s23.1 + 1)))) (ξ26 13 0).2.2.1] [(0,1),(1,1)] ust_24 ry (by kernel_rfl)) ?_
      refine oN ?_
      exact ap (fun _ => (none,0,0,[],noR)) rfl (List.append_nil _)
     dsimp only [bx,lsz,lss,lna,lca,List.append_nil]
     refine bN rfl (fun L2 => ?_) ?_
     ·dsimp only [aF,lca,lna]
      refine aE ry rfl (fun b36 => ?_)
      refine oN ?_
      exact ap (fun _ => (none,b36,0,[],noR)) rfl rfl
     dsimp only [bx,lsz,lss,lna,lca,List.append_nil]
     refine tr rfl (fun L2 => ?_) ?_
     ·dsimp only [aF,lca,lna]
      refine cr rfl (yS 6 [vI p0.fPlaces,.slice (ξ26 13 0).1 ((0 + (Int.toNat s23.1)) + (p0.fTracks.length - Int.toNat (w64 (s23.1 + 1)))) (ξ26 13 0).2.2.1] sz_24 rfl (nB rfl) rfl rfl rfl) (oN ?_)
      first | exact bP (fun _ => (none,0,0,[],noR)) rfl | exact bP (fun _ => (none,0,0,[],noR)) (List.append_nil _)
     dsimp only [bx,lsz,lss,lna,lca,List.append_nil]
     refine kx (eT (cS (cR ?_)))
     try dsimp only [lna,lca,lsz,lss]
     refine oY rfl (yN 6 [vI p0.fPlaces,.slice (ξ26 13 0).1 ((0 + (Int.toNat s23.1)) + (p0.fTracks.length - Int.toNat (w64 (s23.1 + 1)))) (ξ26 13 0).2.2.1] dM rfl rfl rfl) (oY rfl (yMI rfl) (oY rfl (yMI rfl) ?_))
     obtain ⟨y37,hy38,h⟩:=bOs h
     refine oC [.agg #[vI p0.fPlaces,.slice (ξ26 13 0).1 ((0 + (Int.toNat s23.1)) + (p0.fTracks.length - Int.toNat (w64 (s23.1 + 1)))) (ξ26 13 0).2.2.1],vI p1,vI p3] _ _ _ rfl go_75 rfl (fun W2 hW2 => eS (TR.mk p0.fPlaces ((([]:List TT) ++ (p0.fTracks.take (Int.toNat s23.1))) ++ (p0.fTracks.drop (Int.toNat (w64 (s23.1 + 1)))))) p1 p3 y37 hy38 W2 (ξ26 13 0).1 ((0 + (Int.toNat s23.1)) + (p0.fTracks.length - Int.toNat (w64 (s23.1 + 1)))) (ξ26 13 0).2.2.1 ((([]:List (Hd × TT)) ++ (ys0_1.take (Int.toNat s23.1))) ++ (ys0_1.drop (Int.toNat (w64 (s23.1 + 1))))) (gb (gb rfl (jV hg28.2 rfl)) (na rfl)) ((RdL.row 5 rfl) W2 hW2) (NestL.at (PvL.nestL (NestP.app (NestP.app NestP.nil (NestP.take _ hN0_1.p)) (NestP.drop _ hN0_1.p)) (PvL.app (PvL.app PvL.nil (PvL.sub (PvL.of_nest hN0_1) (fun y hy => List.mem_of_mem_take hy))) (PvL.sub (PvL.of_nest hN0_1) (fun y hy => List.mem_of_mem_drop hy))) (fun W2 hW2 => ⟨hW2.below,trivial⟩)) W2 hW2) W (fun _ => True) (fun W3 hb => ⟨fV hW2.below hb,trivial⟩) ) ?_
     rintro ⟨⟨A41,n43,c42⟩,ys46,F47⟩ ⟨hn44,hP45,hV48⟩
     replace hn44 : n43 = y37.length:=hn44; subst hn44
     try dsimp only [lna,lca,lsz,lss]
     refine oY rfl (yMI rfl) ?_
     obtain ⟨hg49,h⟩:=gOs h
     refine oY rfl (yI ki (by decide) hg49.1 hg49.2 (RdL.row 7 rfl) (eL aq (NestP.hn hP45 rfl)) rfl rfl) ?_
     refine oY rfl (yR (A:=A41) (j:=(Int.toNat p2 * 1)) (v:=.slice ((rdL ys46 p2).1.1) ((rdL y37 p2).length) ((rdL ys46 p2).1.2.2)) iR (RdL.row 7 rfl) rfl (aC aq hg49.1 (ah hg49.2 (NestP.hn hP45 rfl)) (congrArg (fun n : Nat => some (Value.slice (rdL ys46 p2).1.1 n (rdL ys46 p2).1.2.2)) (NestP.len hP45 hg49.1 (ah hg49.2 rfl))))) (oY rfl (yMI rfl) ?_)
     obtain ⟨hg50,h⟩:=gOs h
     refine oY rfl (yI bZ (by decide) hg50.1 hg50.2 (NestL.rd (PvL.nestL hP45 hV48 (fun W2 hW2 => ⟨hW2.below,trivial,hW2.mem (i:=8) rfl⟩)) hg49.1 (ah hg49.2 rfl)) (eL aA rfl) rfl rfl) ?_
     refine oY rfl (yR (A:=((rdL ys46 p2).1.1)) (j:=(Int.toNat p4 * 1)) (v:=vI (rdL (rdL y37 p2) p4)) aV (NestL.rd (PvL.nestL hP45 hV48 (fun W2 hW2 => ⟨hW2.below,trivial,hW2.mem (i:=8) rfl⟩)) hg49.1 (ah hg49.2 rfl)) rfl (aC aA hg50.1 (ah hg50.2 rfl) rfl)) (oY rfl (yMI rfl) (oY rfl (dl rfl rfl) (oN (eT ?_))))
     rcases iOs h with ⟨hp51,h⟩ | ⟨hp51,h⟩
     ·refine cT (vB hp51) (cR (oY rfl (yMS rfl) (oY rfl (yFA cq rfl) (oY rfl (yL 0 gG rfl rfl rfl) (oY rfl (yMI rfl) ?_)))))
      obtain ⟨hg52,h⟩:=gOs h
      refine oY rfl (yI jP (by decide) hg52.1 hg52.2 (RdL.arg hr0_1) (eL au (NestP.hn hN0_1.p rfl)) rfl rfl) ?_
      refine oY rfl (yFR (A:=Ab) (j:=(Int.toNat s23.1 * 6)) gB rfl) (oY rfl (yR (A:=Ab) (j:=((Int.toNat s23.1 * 6) + 0)) (v:=vI ((rdL p0.fTracks s23.1).fID)) aV (RdL.arg hr0_1) rfl (eG au hg52.1 (ah hg52.2 (NestP.hn hN0_1.p rfl)) (congrArg (fun z : TT => some (Value.int .i64 z.fID)) (NestP.snd hN0_1.p s23.1)))) ?_)
      obtain ⟨y53,hy54,h⟩:=bOs h
      refine oC [.slice A4_s23 s23.2.length c4_s23,vI ((rdL p0.fTracks s23.1).fID)] _ _ _ rfl go_82 rfl (fun W2 hW2 => qM s23.2 ((rdL p0.fTracks s23.1).fID) y53 hy54 W2 A4_s23 s23.2.length c4_s23 rfl ((RdL.row 4 rfl) W2 hW2)) ?_
      rintro ⟨A55,n57,c56⟩ hn58
      replace hn58 : n57 = y53.length:=hn58; subst hn58
      try dsimp only [lna,lca,lsz,lss]
      refine oY rfl (yAS rfl) (oN (aw (eT (cR (oY rfl (yMI rfl) (oY rfl (aT rfl rfl) (oY rfl (yAI rfl) (oN ?_))))))))
      refine ex_mv 4 9 (by decide) rfl ?_
      try dsimp only [lsz,lss]
      refine aU 5 ?_
      obtain rfl:=sI h
      exact eN ⟨_,A55,c56,y53.length,rfl,rfl,(kp4 (kp4 (kp rfl)))⟩
     ·refine cF (vB hp51) (cK (aw (eT (cR (oY rfl (yMI rfl) (oY rfl (aT rfl rfl) (oY rfl (yAI rfl) (oN (aU 5 ?_)))))))))
      obtain rfl:=sI h
      exact eN ⟨_,A4_s23,c4_s23,s23.2.length,rfl,rfl,(kp4 (kp4 (kp rfl)))⟩
    ·refine cF (vB hp25) (aH (ag ?_))
     obtain rfl:=sI h
     exact ax ⟨rfl,_,A4_s23,c4_s23,s23.2.length,rfl,rfl,(kp4 (kp4 (kp rfl)))⟩
   ·intro e L tm hJ
    obtain ⟨rfl,tm0_u24,A4_u24,c4_u24,n4_u24,rfl,rfl,rfl⟩:=hJ
    refine ⟨(by intro hc; cases hc),?_⟩
    refine ac (eT (cS (cR (oY rfl (yMS rfl) ?_))))
    refine oY rfl (aY [.slice A4_u24 u24.2.length c4_u24,vI 0] [(0,1),(1,1)] ust_46 ze_46 (by kernel_rfl)) ?_
    refine cr rfl (yS 1 [.slice A4_u24 u24.2.length c4_u24,vI 0] sz_46 rfl (nB rfl) rfl rfl rfl) (oN (eT (am ?_)))
    obtain rfl:=sI h
    exact al (.inl rfl) rfl (bz 1 [.slice A4_u24 u24.2.length c4_u24,vI 0] ag_46 rfl rfl rfl) (fun W2 hW2 => ⟨(A4_u24,u24.2.length,c4_u24),rfl,rfl,(hW2.pick 4 rfl)⟩)
theorem calxlaw05_CartBest_ok (p0:TR) (p1:Int) (p2:Int) (p3:Int) (p4:Int) (res:Bool) (h:ed p0 p1 p2 p3 p4 = some res) (W:World) (Ab:Option Addr) (n0_1 cb : Nat) (ys0_1:List (Hd × TT)) (hn0_1:n0_1 = p0.fTracks.length) (hr0_1:Rd W Ab n0_1 cb (encL TTrack_cells2 ys0_1)) (hN0_1:NestW W (fun z : TT => z.fK) TSpan_cells ys0_1 p0.fTracks) :
  Calls Tryz.prog 4 [.agg #[vI p0.fPlaces,.slice Ab n0_1 cb],vI p1,vI p2,vI p3,vI p4].toArray W fun e W2 => e = .returned (.bool res) ∧ Ext W W2 []:=by
 subst hn0_1
 unfold ed at h
 refine ae (m:=139) Tryz.func4 rfl rfl (nB rfl) (cS (cR ?_))
 refine aW [vI p0.fPlaces,.slice Ab p0.fTracks.length cb] rfl rfl rfl (fun b1 => ?_)
 refine oY rfl (yAB rfl) (oN (eT (cS (cS (cR (oY rfl (yN 0 [vI p0.fPlaces,.slice Ab p0.fTracks.length cb] dM rfl rfl rfl) ?_))))))
 obtain ⟨y2,hy3,h⟩:=bOs h
 refine oY rfl (yC [.agg #[vI p0.fPlaces,.slice Ab p0.fTracks.length cb]] go_16 rfl (fun W2 hW2 => m5 p0 y2 hy3 W2 Ab p0.fTracks.length cb ys0_1 rfl ((RdL.arg hr0_1) W2 hW2) (NestL.at (NestL.arg hN0_1) W2 hW2)) rfl) (oY rfl (bQ rfl) (oN (eT ?_)))
 rcases iOs h with ⟨hp4,h⟩ | ⟨hp4,h⟩
 ·refine cT (vB hp4) (cS (cR ?_))
  obtain ⟨y5,hy6,h⟩:=bOs h
  refine oY rfl (yC [] go_17 rfl (fun W2 hW2 => iJ  y5 hy6 W2 ) rfl) (oY rfl (yAB rfl) (oN (eT (am (aa ?_)))))
  obtain rfl:=sI h
  exact al (.inl rfl) rfl (rVt (v:=.bool y5) rfl) (fun W2 hW2 => ⟨rfl,hW2.none⟩)
 ·refine cF (vB hp4) (cK (eT (cS (cR (oY rfl (yN 0 [vI p0.fPlaces,.slice Ab p0.fTracks.length cb] dM rfl rfl rfl) (oY rfl (yMI rfl) (oY rfl (yMI rfl) (oY rfl (yMI rfl) (oY rfl (yMI rfl) ?_)))))))))
  obtain ⟨y7,hy8,h⟩:=bOs h
  refine oC [.agg #[vI p0.fPlaces,.slice Ab p0.fTracks.length cb],vI p1,vI p2,vI p3,vI p4] _ _ _ rfl go_18 rfl (fun W2 hW2 => kH p0 p1 p2 p3 p4 y7 hy8 W2 Ab p0.fTracks.length cb ys0_1 rfl ((RdL.arg hr0_1) W2 hW2) (NestL.at (NestL.arg hN0_1) W2 hW2) W (fun _ => True) (fun W3 hb => ⟨fV hW2.below hb,trivial⟩) ) ?_
  rintro ⟨⟨A11,n13,c12⟩,F15⟩ ⟨hn14,hV16⟩
  replace hn14 : n13 = y7.1.fLegs.length:=hn14; subst hn14
  refine oY rfl (aN rfl) (oY rfl (yE rfl rfl) (oY rfl (yE rfl rfl) ?_))
  refine aE ko rfl (fun b17 => ?_)
  refine cr rfl (yS 2 [.slice A11 y7.1.fLegs.length c12,vI y7.1.fA,vI y7.1.fToll] lD rfl (nB rfl) rfl rfl rfl) (oY rfl (yAI rfl) (oN (eT (cS (cR (oY rfl (yN 0 [vI p0.fPlaces,.slice Ab p0.fTracks.length cb] dM rfl rfl rfl) (oY rfl (yMI rfl) (oY rfl (yMI rfl) (oY rfl (yMI rfl) (oY rfl (yMI rfl) ?_))))))))))
  obtain ⟨y18,hy19,h⟩:=bOs h
  refine oY rfl (yC [.agg #[vI p0.fPlaces,.slice Ab p0.fTracks.length cb],vI p1,vI p2,vI p3,vI p4] go_20 rfl (fun W2 hW2 => pS p0 p1 p2 p3 p4 y18 hy19 W2 Ab p0.fTracks.length cb ys0_1 rfl ((RdL.arg hr0_1) W2 hW2) (NestL.at (NestL.arg hN0_1) W2 hW2)) rfl) ?_
  refine aE tM rfl (fun b20 => ?_)
  refine cr rfl (yS 3 [vI y18.fP.fToll,vI y18.fP.fA,vI y18.fE] sz_39 rfl (nB rfl) rfl rfl rfl) (oN (eT (cS (cS (cR (oY rfl (yMI rfl) (oY rfl (yFA fo_39_1 rfl) (oY rfl (yL 3 sc_30 rfl rfl rfl) (oY rfl (dl rfl rfl) (oY rfl (yMB rfl) ?_))))))))))
  refine oJ 7 (fun tm0 => (upd (upd (upd (upd (upd (upd (upd (upd (upd (upd tm0 1 (vI p1)) 2 (vI p2)) 3 (vI p3)) 4 (vI p4)) 5 (.pointer (some ⟨b1,0,none⟩))) 10 (.bool false)) 11 (.pointer (some ⟨b17,0,none⟩))) 12 (vI y7.2)) 13 (.pointer (some ⟨b20,0,none⟩))) 51 (.bool ((y7.2 != y18.fE) || (y7.1.fToll != y18.fP.fToll))))) (fun tm0 => ?_) (fun key => ?_)
  ·refine oY rfl (yMB rfl) ?_
   refine oJ 7 (fun tm0 => (upd (upd (upd (upd (upd (upd (upd (upd (upd tm0 1 (vI p1)) 2 (vI p2)) 3 (vI p3)) 4 (vI p4)) 5 (.pointer (some ⟨b1,0,none⟩))) 10 (.bool false)) 11 (.pointer (some ⟨b17,0,none⟩))) 12 (vI y7.2)) 59 (.bool (((y7.2 != y18.fE) || (y7.1.fToll != y18.fP.fToll)) || (y7.1.fA != y18.fP.fA))))) (fun tm0 => ?_) (fun key => ?_)
   ·refine oY rfl (yMB rfl) ?_
    obtain ⟨b24,hb25,h⟩:=bOs h
    refine oJ 12 (fun tm0 => (upd (upd (upd (upd (upd (upd (upd (upd (upd tm0 1 (vI p1)) 2 (vI p2)) 3 (vI p3)) 4 (vI p4)) 5 (.pointer (some ⟨b1,0,none⟩))) 10 (.bool false)) 11 (.pointer (some ⟨b17,0,none⟩))) 12 (vI y7.2)) 72 (.bool b24))) (fun tm0 => ?_) (fun key => ?_)
    ·refine oY rfl (yMB rfl) ?_
     refine oJ 9 (fun tm0 => (upd (upd (upd (upd (upd (upd (upd tm0 1 (vI p1)) 2 (vI p2)) 3 (vI p3)) 4 (vI p4)) 5 (.pointer (some ⟨b1,0,none⟩))) 10 (.bool false)) 82 (.bool (b24 || ((y7.2 != 0) && (decide (0 < (y7.1.fLegs.length:Int)))))))) (fun tm0 => ?_) (fun key => ?_)
     ·refine oN (eT ?_)
      rcases iOs h with ⟨hp27,h⟩ | ⟨hp27,h⟩
      ·refine cT (vB hp27) (cS (cR (oY rfl (yAB rfl) (oN (eT (am (aa ?_)))))))
       obtain rfl:=sI h
       exact al (.inl rfl) rfl (rVt (v:=.bool false) rfl) (fun W2 hW2 => ⟨rfl,hW2.none⟩)
      ·refine cF (vB hp27) (cK (eT (cS (cR (oY rfl (yN 0 [vI p0.fPlaces,.slice Ab p0.fTracks.length cb] dM rfl rfl rfl) (oY rfl (yMI rfl) (oY rfl (yMI rfl) (oY rfl (yMI rfl) (oY rfl (yMI rfl) ?_)))))))))
       obtain ⟨y28,hy29,h⟩:=bOs h
       refine oY rfl (yC [.agg #[vI p0.fPlaces,.slice Ab p0.fTracks.length cb],vI p1,vI p2,vI p3,vI p4] go_19 rfl (fun W2 hW2 => lh p0 p1 p2 p3 p4 y28 hy29 W2 Ab p0.fTracks.length cb ys0_1 rfl ((RdL.arg hr0_1) W2 hW2) (NestL.at (NestL.arg hN0_1) W2 hW2)) rfl) (oY rfl (aN rfl) (oY rfl (yE rfl rfl) (oY rfl (yE rfl rfl) (oY rfl (yAI rfl) (oY rfl (yAI rfl) (oN (eT (cS (cR (oY rfl (yN 0 [vI p0.fPlaces,.slice Ab p0.fTracks.length cb] dM rfl rfl rfl) (oY rfl (yMI rfl) (oY rfl (yMI rfl) (oY rfl (yMI rfl) (oY rfl (yMI rfl) ?_))))))))))))))
       obtain ⟨y30,hy31,h⟩:=bOs h
       refine oY rfl (yC [.agg #[vI p0.fPlaces,.slice Ab p0.fTracks.length cb],vI p1,vI p2,vI p3,vI p4] go_22 rfl (fun W2 hW2 => oc p0 p1 p2 p3 p4 y30 hy31 W2 Ab p0.fTracks.length cb ys0_1 rfl ((RdL.arg hr0_1) W2 hW2) (NestL.at (NestL.arg hN0_1) W2 hW2)) rfl) (oY rfl (aN rfl) (oY rfl (yE rfl rfl) (oY rfl (yE rfl rfl) (oY rfl (yAI rfl) (oY rfl (yAI rfl) (oN (eT (cS (cR (oY rfl (yN 0 [vI p0.fPlaces,.slice Ab p0.fTracks.length cb] dM rfl rfl rfl) (oY rfl (yMI rfl) (oY rfl (yMI rfl) (oY rfl (yMI rfl) (oY rfl (yMI rfl) ?_))))))))))))))
       obtain ⟨y32,hy33,h⟩:=bOs h
       refine oC [.agg #[vI p0.fPlaces,.slice Ab p0.fTracks.length cb],vI p1,vI p2,vI p3,vI p4] _ _ _ rfl go_23 rfl (fun W2 hW2 => jj p0 p1 p2 p3 p4 y32 hy33 W2 Ab p0.fTracks.length cb ys0_1 rfl ((RdL.arg hr0_1) W2 hW2) (NestL.at (NestL.arg hN0_1) W2 hW2)) ?_
       rintro ⟨A34,n36,c35⟩ hn37
       replace hn37 : n36 = y32.1.length:=hn37; subst hn37
       refine oY rfl (aN rfl) (oY rfl (yE rfl rfl) (oY rfl (yE rfl rfl) (oY rfl (yAS rfl) (oY rfl (yAI rfl) (oN (eT (cS (cR (oY rfl (yN 0 [vI p0.fPlaces,.slice Ab p0.fTracks.length cb] dM rfl rfl rfl) (oY rfl (yMI rfl) (oY rfl (yMI rfl) (oY rfl (yMI rfl) (oY rfl (yMI rfl) ?_)))))))))))))
       obtain ⟨y38,hy39,h⟩:=bOs h
       refine oC [.agg #[vI p0.fPlaces,.slice Ab p0.fTracks.length cb],vI p1,vI p2,vI p3,vI p4] _ _ _ rfl go_24 rfl (fun W2 hW2 => ou p0 p1 p2 p3 p4 y38 hy39 W2 Ab p0.fTracks.length cb ys0_1 rfl ((RdL.arg hr0_1) W2 hW2) (NestL.at (NestL.arg hN0_1) W2 hW2)) ?_
       rintro ⟨A40,n42,c41⟩ hn43
       replace hn43 : n42 = y38.fL.length:=hn43; subst hn43
       try dsimp only [lna,lca,lsz,lss]
       refine aE ze_46 rfl (fun b44 => ?_)
       try dsimp only [lna,lca,lsz,lss]
       refine cr rfl (yS 6 [.slice A40 y38.fL.length c41,vI y38.fE] sz_46 rfl (nB rfl) rfl rfl rfl) (oN (eT (cS (cR ?_))))
       obtain ⟨y45,hy46,h⟩:=bOs h
       refine oY rfl (yC [] go_17 rfl (fun W2 hW2 => iJ  y45 hy46 W2 ) rfl) (oY rfl (yMB rfl) ?_)
       refine oJ 4 (fun tm0 => (upd (upd (upd (upd (upd (upd (upd tm0 10 (.bool false)) 15 (vI y28.2)) 17 (vI y30.2)) 18 (.slice A34 y32.1.length c35)) 19 (vI y32.2)) 20 (.pointer (some ⟨b44,0,none⟩))) 121 (.bool (y45 && (y28.1 == y30.1))))) (fun tm0 => ?_) (fun key => ?_)
       ·refine oY rfl (yMB rfl) ?_
        refine oJ 4 (fun tm0 => (upd (upd (upd (upd (upd tm0 10 (.bool false)) 18 (.slice A34 y32.1.length c35)) 19 (vI y32.2)) 20 (.pointer (some ⟨b44,0,none⟩))) 126 (.bool ((y45 && (y28.1 == y30.1)) && (y28.2 == y30.2))))) (fun tm0 => ?_) (fun key => ?_)
        ·refine oY rfl (yMB rfl) ?_
         obtain ⟨b50,hb51,h⟩:=bOs h
         refine oJ 5 (fun tm0 => (upd (upd (upd (upd tm0 10 (.bool false)) 19 (vI y32.2)) 20 (.pointer (some ⟨b44,0,none⟩))) 132 (.bool b50))) (fun tm0 => ?_) (fun key => ?_)
         ·refine oY rfl (yMB rfl) ?_
          refine oJ 5 (fun tm0 => (upd (upd tm0 10 (.bool false)) 138 (.bool (b50 && (y32.2 == y38.fE))))) (fun tm0 => ?_) (fun key => ?_)
          ·refine oY rfl (yAB rfl) (oN (eT (am ?_)))
           obtain rfl:=sI h
           exact al (.inl rfl) rfl (rVt (v:=.bool (b50 && (y32.2 == y38.fE))) rfl) (fun W2 hW2 => ⟨rfl,hW2.none⟩)
          ·rcases ao b50 with hp52 | hp52
           ·refine oY (sT rfl rfl rfl rfl hp52) (yMI rfl) (oY (sT rfl rfl rfl rfl hp52) (yFA fo_46_1 rfl) (oY (sT rfl rfl rfl rfl hp52) (yL 6 sc_30 rfl rfl rfl) (oY (sT rfl rfl rfl rfl hp52) (da rfl rfl) (oY rfl (ab (vB hp52) rfl) ?_))))
            exact key _ _ (keep (keep rfl rfl) (vB (fc hp52)))
           ·refine oSk (sF rfl rfl rfl rfl hp52) (oSk (sF rfl rfl rfl rfl hp52) (oSk (sF rfl rfl rfl rfl hp52) (oSk (sF rfl rfl rfl rfl hp52) (oY rfl (ad (vB hp52) rfl) ?_))))
            exact key _ _ (keep (keep rfl rfl) (vB (fa hp52)))
         ·clear h; rcases iOs hb51 with ⟨hp49,h⟩ | ⟨hp49,h⟩
          ·refine oY (sT rfl rfl rfl rfl hp49) (yMS rfl) (oY (sT rfl rfl rfl rfl hp49) (yFA fo_46_0 rfl) (oY (sT rfl rfl rfl rfl hp49) (yL 6 iR rfl rfl rfl) ?_))
           obtain ⟨y53,hy54,h⟩:=bOs h
           refine oY (sT rfl rfl rfl rfl hp49) (yC [.slice A34 y32.1.length c35,.slice A40 y38.fL.length c41] sG rfl (fun W2 hW2 => cM y32.1 y38.fL y53 hy54 W2 A34 y32.1.length c35 rfl ((RdL.row 4 rfl) W2 hW2) A40 y38.fL.length c41 rfl ((RdL.row 5 rfl) W2 hW2)) rfl) (oY rfl (ab (vB hp49) rfl) ?_)
           obtain rfl:=sI h
           exact key _ _ (kp4 rfl)
          ·refine oSk (sF rfl rfl rfl rfl hp49) (oSk (sF rfl rfl rfl rfl hp49) (oSk (sF rfl rfl rfl rfl hp49) (oSk (sF rfl rfl rfl rfl hp49) (oY rfl (ad (vB hp49) rfl) ?_))))
           obtain rfl:=sI h
           exact key _ _ (kp4 rfl)
        ·rcases ao (y45 && (y28.1 == y30.1)) with hp48 | hp48
         ·refine oY (sT rfl rfl rfl rfl hp48) (yMI rfl) (oY (sT rfl rfl rfl rfl hp48) (yMI rfl) (oY (sT rfl rfl rfl rfl hp48) (da rfl rfl) (oY rfl (ab (vB hp48) rfl) ?_)))
          exact key _ _ (keep (keep (keep (keep (keep rfl rfl) rfl) rfl) rfl) (vB (fc hp48)))
         ·refine oSk (sF rfl rfl rfl rfl hp48) (oSk (sF rfl rfl rfl rfl hp48) (oSk (sF rfl rfl rfl rfl hp48) (oY rfl (ad (vB hp48) rfl) ?_)))
          exact key _ _ (keep (keep (keep (keep (keep rfl rfl) rfl) rfl) rfl) (vB (fa hp48)))
       ·rcases ao y45 with hp47 | hp47
        ·refine oY (sT rfl rfl rfl rfl hp47) (yMI rfl) (oY (sT rfl rfl rfl rfl hp47) (yMI rfl) (oY (sT rfl rfl rfl rfl hp47) (da rfl rfl) (oY rfl (ab (vB hp47) rfl) ?_)))
         exact key _ _ (keep (keep (keep (keep (keep (keep (keep rfl rfl) rfl) rfl) rfl) rfl) rfl) (vB (fc hp47)))
        ·refine oSk (sF rfl rfl rfl rfl hp47) (oSk (sF rfl rfl rfl rfl hp47) (oSk (sF rfl rfl rfl rfl hp47) (oY rfl (ad (vB hp47) rfl) ?_)))
         exact key _ _ (keep (keep (keep (keep (keep (keep (keep rfl rfl) rfl) rfl) rfl) rfl) rfl) (vB (fa hp47)))
     ·rcases ao b24 with hp26 | hp26
      ·refine oSk (sF rfl rfl rfl rfl hp26) (oSk (sF rfl rfl rfl rfl hp26) (oSk (sF rfl rfl rfl rfl hp26) (oSk rfl (oSk rfl (oSk rfl (oSk rfl (oSk (sF rfl rfl rfl rfl hp26) (oY rfl (ab (vB hp26) rfl) ?_))))))))
       exact key _ _ (keep (keep (keep (keep (keep (keep (keep rfl rfl) rfl) rfl) rfl) rfl) rfl) (vB (jf hp26)))
      ·refine oY (sT rfl rfl rfl rfl hp26) (yMI rfl) (oY (sT rfl rfl rfl rfl hp26) (dl rfl rfl) (oY (sT rfl rfl rfl rfl hp26) (yMB rfl) ?_))
       refine oJ 5 (fun tm0 => (upd (upd (upd (upd (upd (upd (upd (upd tm0 1 (vI p1)) 2 (vI p2)) 3 (vI p3)) 4 (vI p4)) 5 (.pointer (some ⟨b1,0,none⟩))) 10 (.bool false)) 73 (.bool b24)) 81 (.bool ((y7.2 != 0) && (decide (0 < (y7.1.fLegs.length:Int))))))) (fun tm0 => ?_) (fun key => ?_)
       ·refine oY rfl (ad (vB hp26) rfl) ?_
        exact key _ _ (keep (keep (keep (keep (keep (keep (keep rfl rfl) rfl) rfl) rfl) rfl) rfl) (vB (jg hp26)))
       ·rcases ao (y7.2 != 0) with hp55 | hp55
        ·refine oY (sT rfl rfl rfl rfl hp55) (yFA lz rfl) (oY (sT rfl rfl rfl rfl hp55) (yL 2 ta rfl rfl rfl) (oY (sT rfl rfl rfl rfl hp55) (bp (us:=[]) tP rfl) (oY (sT rfl rfl rfl rfl hp55) (gK rfl rfl) (oY (sT rfl rfl rfl rfl hp26) (ab (vB hp55) rfl) ?_))))
         exact key _ _ (keep (keep (keep (keep (keep (keep (keep (keep rfl rfl) rfl) rfl) rfl) rfl) rfl) rfl) (vB (fc hp55)))
        ·refine oSk (sF rfl rfl rfl rfl hp55) (oSk (sF rfl rfl rfl rfl hp55) (oSk (sF rfl rfl rfl rfl hp55) (oSk (sF rfl rfl rfl rfl hp55) (oY (sT rfl rfl rfl rfl hp26) (ad (vB hp55) rfl) ?_))))
         exact key _ _ (keep (keep (keep (keep (keep (keep (keep (keep rfl rfl) rfl) rfl) rfl) rfl) rfl) rfl) (vB (fa hp55)))
    ·clear h; rcases iOs hb25 with ⟨hp23,h⟩ | ⟨hp23,h⟩
     ·refine oSk (sF rfl rfl rfl rfl hp23) (oSk (sF rfl rfl rfl rfl hp23) (oSk (sF rfl rfl rfl rfl hp23) (oSk rfl (oSk rfl (oSk rfl (oSk rfl (oSk rfl (oSk rfl (oSk rfl (oSk (sF rfl rfl rfl rfl hp23) (oY rfl (ab (vB hp23) rfl) ?_)))))))))))
      obtain rfl:=sI h
      exact key _ _ (kp4 (kp4 (kp rfl)))
     ·refine oY (sT rfl rfl rfl rfl hp23) (yMI rfl) (oY (sT rfl rfl rfl rfl hp23) (da rfl rfl) (oY (sT rfl rfl rfl rfl hp23) (yMB rfl) ?_))
      obtain ⟨b57,hb58,h⟩:=bOs h
      refine oJ 8 (fun tm0 => (upd (upd (upd (upd (upd (upd (upd (upd (upd (upd tm0 1 (vI p1)) 2 (vI p2)) 3 (vI p3)) 4 (vI p4)) 5 (.pointer (some ⟨b1,0,none⟩))) 10 (.bool false)) 11 (.pointer (some ⟨b17,0,none⟩))) 12 (vI y7.2)) 60 (.bool (((y7.2 != y18.fE) || (y7.1.fToll != y18.fP.fToll)) || (y7.1.fA != y18.fP.fA)))) 71 (.bool b57))) (fun tm0 => ?_) (fun key => ?_)
      ·refine oY rfl (ad (vB hp23) rfl) ?_
       obtain rfl:=sI h
       exact key _ _ (kp4 (kp4 (kp rfl)))
      ·clear h; rcases iOs hb58 with ⟨hp56,h⟩ | ⟨hp56,h⟩
       ·refine oY (sT rfl rfl rfl rfl hp56) (yN 0 [vI p0.fPlaces,.slice Ab p0.fTracks.length cb] dM rfl rfl rfl) (oY (sT rfl rfl rfl rfl hp56) (yMI rfl) (oY (sT rfl rfl rfl rfl hp56) (yMI rfl) (oY (sT rfl rfl rfl rfl hp56) (yMI rfl) (oY (sT rfl rfl rfl rfl hp56) (yN 2 [.slice A11 y7.1.fLegs.length c12,vI y7.1.fA,vI y7.1.fToll] nY rfl rfl rfl) ?_))))
        obtain ⟨y59,hy60,h⟩:=bOs h
        refine oY (sT rfl rfl rfl rfl hp56) (yC [.agg #[vI p0.fPlaces,.slice Ab p0.fTracks.length cb],vI p1,vI p2,vI p3,.agg #[.slice A11 y7.1.fLegs.length c12,vI y7.1.fA,vI y7.1.fToll]] go_21 rfl (fun W2 hW2 => m9 p0 p1 p2 p3 y7.1 y59 hy60 W2 Ab p0.fTracks.length cb ys0_1 rfl ((RdL.arg hr0_1) W2 hW2) (NestL.at (NestL.arg hN0_1) W2 hW2) A11 y7.1.fLegs.length c12 rfl ((Pv.rdl hV16 (fun W2 hW2 => ⟨hW2.below,trivial,hW2.mem (i:=1) rfl⟩)) W2 hW2)) rfl) (oY (sT rfl rfl rfl rfl hp56) (bQ rfl) (oY (sT rfl rfl rfl rfl hp23) (ab (vB hp56) rfl) ?_))
        obtain rfl:=sI h
        exact key _ _ (kp4 (kp4 (kp (kp rfl))))
       ·refine oSk (sF rfl rfl rfl rfl hp56) (oSk (sF rfl rfl rfl rfl hp56) (oSk (sF rfl rfl rfl rfl hp56) (oSk (sF rfl rfl rfl rfl hp56) (oSk (sF rfl rfl rfl rfl hp56) (oSk (sF rfl rfl rfl rfl hp56) (oSk (sF rfl rfl rfl rfl hp56) (oY (sT rfl rfl rfl rfl hp23) (ad (vB hp56) rfl) ?_)))))))
        obtain rfl:=sI h
        exact key _ _ (kp4 (kp4 (kp (kp rfl))))
   ·rcases ao ((y7.2 != y18.fE) || (y7.1.fToll != y18.fP.fToll)) with hp22 | hp22
    ·refine oSk (sF rfl rfl rfl rfl hp22) (oSk (sF rfl rfl rfl rfl hp22) (oSk (sF rfl rfl rfl rfl hp22) (oSk (sF rfl rfl rfl rfl hp22) (oSk (sF rfl rfl rfl rfl hp22) (oSk (sF rfl rfl rfl rfl hp22) (oY rfl (ab (vB hp22) rfl) ?_))))))
     exact key _ _ (keep (keep (keep (keep (keep (keep (keep (keep (keep rfl rfl) rfl) rfl) rfl) rfl) rfl) rfl) rfl) (vB (jf hp22)))
    ·refine oY (sT rfl rfl rfl rfl hp22) (yFA ly rfl) (oY (sT rfl rfl rfl rfl hp22) (yL 2 aV rfl rfl rfl) (oY (sT rfl rfl rfl rfl hp22) (yFA fo_39_0 rfl) (oY (sT rfl rfl rfl rfl hp22) (yFA fo_37_1 rfl) (oY (sT rfl rfl rfl rfl hp22) (yL 3 aV rfl rfl rfl) (oY (sT rfl rfl rfl rfl hp22) (dl rfl rfl) (oY rfl (ad (vB hp22) rfl) ?_))))))
     exact key _ _ (keep (keep (keep (keep (keep (keep (keep (keep (keep rfl rfl) rfl) rfl) rfl) rfl) rfl) rfl) rfl) (vB (jg hp22)))
  ·rcases ao (y7.2 != y18.fE) with hp21 | hp21
   ·refine oSk (sF rfl rfl rfl rfl hp21) (oSk (sF rfl rfl rfl rfl hp21) (oSk (sF rfl rfl rfl rfl hp21) (oSk (sF rfl rfl rfl rfl hp21) (oSk (sF rfl rfl rfl rfl hp21) (oSk (sF rfl rfl rfl rfl hp21) (oY rfl (ab (vB hp21) rfl) ?_))))))
    exact key _ _ (keep (keep (keep (keep (keep (keep (keep (keep (keep (keep rfl rfl) rfl) rfl) rfl) rfl) rfl) rfl) rfl) rfl) (vB (jf hp21)))
   ·refine oY (sT rfl rfl rfl rfl hp21) (yFA nv rfl) (oY (sT rfl rfl rfl rfl hp21) (yL 2 aV rfl rfl rfl) (oY (sT rfl rfl rfl rfl hp21) (yFA fo_39_0 rfl) (oY (sT rfl rfl rfl rfl hp21) (yFA fo_37_0 rfl) (oY (sT rfl rfl rfl rfl hp21) (yL 3 aV rfl rfl rfl) (oY (sT rfl rfl rfl rfl hp21) (dl rfl rfl) (oY rfl (ad (vB hp21) rfl) ?_))))))
    exact key _ _ (keep (keep (keep (keep (keep (keep (keep (keep (keep (keep rfl rfl) rfl) rfl) rfl) rfl) rfl) rfl) rfl) rfl) (vB (jg hp21)))
end Go.Proofs.YthndghnkebboaaaGreat
