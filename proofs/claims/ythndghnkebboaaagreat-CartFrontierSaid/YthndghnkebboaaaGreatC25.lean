import Derived.Test.YthndghnkebboaaaGreatF
import Derived.Test.YthndghnkebboaaaGreatGC
import Derived.Test.YthndghnkebboaaaGreatC0
import Derived.Test.YthndghnkebboaaaGreatC2
import Derived.Test.YthndghnkebboaaaGreatC6
import Derived.Test.YthndghnkebboaaaGreatC15
set_option maxHeartbeats 4000000
set_option maxRecDepth 100000
set_option linter.unusedVariables false
namespace Go.Proofs.YthndghnkebboaaaGreat
open Go.RowKit (Below)
attribute [local irreducible] OX QX CX EX OpY Calls CallsIn
theorem fg (p0:(List TJ)) (p1:TJ → Option Bool) (res:Int) (h:bg p0 p1 = some res) (W:World) (Aa:Option Addr) (n0_0 ca : Nat) (ys0_0:List (Hd × TJ)) (hn0_0:n0_0 = p0.length) (hr0_0:Rd W Aa n0_0 ca (encL TJourney_cells2 ys0_0)) (hN0_0:NestW W (fun z : TJ => z.fLegs) TLeg_cells ys0_0 p0) (fid1:Nat) (fst1 caps1 : List Value) (hgo1:bw Tryz.prog fid1 = true) (hof1:∀ W2,Below W.heap.size W W2 → ∀ x,∀ (hx:Hd),Rd W2 hx.1 x.fLegs.length hx.2.2 (encL TLeg_cells x.fLegs) → ∀ y,p1 x = some y → Calls Tryz.prog fid1 (fst1 ++ (([.agg #[.slice hx.1 x.fLegs.length hx.2.2,vI x.fA,vI x.fToll]] : List Value) ++ caps1)).toArray W2 fun e W3 => e = .returned (.bool y) ∧ Ext W2 W3 []) :
  Calls Tryz.prog 158 [.slice Aa n0_0 ca,.func (.func fid1) fst1.toArray caps1.toArray].toArray W fun e W2 => e = .returned (vI res) ∧ Ext W W2 []:=by
 subst hn0_0
 unfold bg at h
 refine ab (m:=19) Tryz.func158 rfl rfl (nB rfl) (cS (cR (oY rfl (yAI rfl) (oN (eT (cS (cS (cR (oY rfl (yMS rfl) (oY rfl (bl (us:=[]) kN rfl) (oY rfl (yMI rfl) (oN (eT (cB ?_))))))))))))))
 obtain ⟨u3,hl9,h⟩:=bOs h
 refine bn (fun (s:(Int × Int)) L tm => ∃ (tm0:Nat → Value),L = [] ∧ tm = (upd (upd (upd (upd (upd tm0 0 (.slice Aa p0.length ca)) 1 (.func (.func fid1) fst1.toArray caps1.toArray)) 4 (vI s.1)) 7 (vI (p0.length:Int))) 8 (vI s.2))) 0 hl9 ⟨_,rfl,(kp4 (kp rfl))⟩ ?_ ?_
 ·rintro s2 L tm st ⟨tm0_s2,rfl,rfl⟩ h
  unfold aQ at h
  refine cS (cR (oY rfl (bo rfl rfl) (oN (eT (cS ?_)))))
  rcases iOs h with ⟨hp4,h⟩ | ⟨hp4,h⟩
  ·refine cT (vB hp4) (cK (eT (cS (cB (cS (cR (oY rfl (yMI rfl) (oY rfl (yAI rfl) (oN (eT (cS (cR (oY rfl (bC (v:=.func (.func fid1) fst1.toArray caps1.toArray) rfl) (oY rfl (yMS rfl) (oY rfl (yMI rfl) ?_)))))))))))))))
   obtain ⟨hg5,h⟩:=gOs h
   refine oY rfl (yI iW (by decide) hg5.1 hg5.2 (RdL.arg hr0_0) (eL ap (NestP.hn hN0_0.p rfl)) rfl rfl) ?_
   refine oY rfl (yM (A:=Aa) (j:=(Int.toNat s2.2 * 3)) [.slice ((rdL ys0_0 s2.2).1.1) ((rdL p0 s2.2).fLegs.length) ((rdL ys0_0 s2.2).1.2.2),vI ((rdL p0 s2.2).fA),vI ((rdL p0 s2.2).fToll)] jB (Nat.succ_pos _) (RdL.arg hr0_0) rfl (iN (dX (NestP.snd hN0_0.p s2.2) (NestP.len hN0_0.p hg5.1 (aq hg5.2 rfl))).symm (bd ap hg5.1 (aq hg5.2 (NestP.hn hN0_0.p rfl))))) ?_
   obtain ⟨y6,hy7,h⟩:=bOs h
   refine oY rfl (fS [.agg #[.slice ((rdL ys0_0 s2.2).1.1) ((rdL p0 s2.2).fLegs.length) ((rdL ys0_0 s2.2).1.2.2),vI ((rdL p0 s2.2).fA),vI ((rdL p0 s2.2).fToll)]] hgo1 rfl rfl (fun W2 hW2 => hof1 W2 hW2.below (TJ.mk ((rdL p0 s2.2).fLegs) ((rdL p0 s2.2).fA) ((rdL p0 s2.2).fToll)) ((rdL ys0_0 s2.2).1.1,0,(rdL ys0_0 s2.2).1.2.2) ((NestL.rd (NestL.arg hN0_0) hg5.1 (aq hg5.2 rfl)) W2 hW2) y6 hy7)) (oN (eT ?_))
   rcases iOs h with ⟨hp8,h⟩ | ⟨hp8,h⟩
   ·refine cT (vB hp8) (cS (cR (oY rfl (yMI rfl) (oY rfl (yAI rfl) (oN (eT (ak (ah (aa ?_)))))))))
    obtain rfl:=sI h
    exact au ⟨rfl,_,rfl,(kp4 (kp rfl))⟩
   ·refine cF (vB hp8) (cK (ay (eT (cR (oY rfl (aY rfl rfl) (oY rfl (yMI rfl) (oN ?_)))))))
    obtain rfl:=sI h
    exact eN ⟨_,rfl,(kp4 (kp rfl))⟩
  ·refine cF (vB hp4) (aE (ai ?_))
   obtain rfl:=sI h
   exact au ⟨rfl,_,rfl,(kp4 (kp rfl))⟩
 ·intro e L tm hJ
  rcases u3 with u10 | u11
  ·dsimp only at h hJ
   obtain ⟨rfl,tm0_u10,rfl,rfl⟩:=hJ
   refine ⟨(by intro hc; cases hc),?_⟩
   refine ah (aa ?_)
   obtain rfl:=sI h
   exact aj (.inl rfl) rfl (rVt (v:=vI u10.1) rfl) (fun W2 hW2 => ⟨rfl,hW2.none⟩)
  ·dsimp only at h hJ
   obtain ⟨rfl,tm0_u11,rfl,rfl⟩:=hJ
   refine ⟨(by intro hc; cases hc),?_⟩
   refine ac (eT (cS (cR (oY rfl (yAI rfl) (oN (eT (ak ?_)))))))
   obtain rfl:=sI h
   exact aj (.inl rfl) rfl (rVt (v:=vI (-1)) rfl) (fun W2 hW2 => ⟨rfl,hW2.none⟩)
theorem gF (p0:(List TJ)) (p1:TJ → Option Bool) (res:Int) (h:bN p0 p1 = some res) (W:World) (Aa:Option Addr) (n0_0 ca : Nat) (ys0_0:List (Hd × TJ)) (hn0_0:n0_0 = p0.length) (hr0_0:Rd W Aa n0_0 ca (encL TJourney_cells2 ys0_0)) (hN0_0:NestW W (fun z : TJ => z.fLegs) TLeg_cells ys0_0 p0) (fid1:Nat) (fst1 caps1 : List Value) (hgo1:bw Tryz.prog fid1 = true) (hof1:∀ W2,Below W.heap.size W W2 → ∀ x,∀ (hx:Hd),Rd W2 hx.1 x.fLegs.length hx.2.2 (encL TLeg_cells x.fLegs) → ∀ y,p1 x = some y → Calls Tryz.prog fid1 (fst1 ++ (([.agg #[.slice hx.1 x.fLegs.length hx.2.2,vI x.fA,vI x.fToll]] : List Value) ++ caps1)).toArray W2 fun e W3 => e = .returned (.bool y) ∧ Ext W2 W3 []) :
  Calls Tryz.prog 120 [.slice Aa n0_0 ca,.func (.func fid1) fst1.toArray caps1.toArray].toArray W fun e W2 => e = .returned (vI res) ∧ Ext W W2 []:=by
 subst hn0_0
 unfold bN at h
 refine ab (m:=8) Tryz.func120 rfl rfl (nB rfl) (cS (cR (oY rfl (yAI rfl) (oN (eT (cS (cR (oY rfl (yMS rfl) (oY rfl (bC (v:=.func (.func fid1) fst1.toArray caps1.toArray) rfl) ?_)))))))))
 obtain ⟨y1,hy2,h⟩:=bOs h
 refine oY rfl (yC [.slice Aa p0.length ca,.func (.func fid1) fst1.toArray caps1.toArray] go_158 rfl (fun W2 hW2 => fg p0 p1 y1 hy2 W2 Aa p0.length ca ys0_0 rfl ((RdL.arg hr0_0) W2 hW2) (NestL.at (NestL.arg hN0_0) W2 hW2) fid1 fst1 caps1 hgo1 (fun W3 hb => hof1 W3 (fq hW2.below hb))) rfl) (oY rfl (yAI rfl) (oN (eT (ak ?_))))
 obtain rfl:=sI h
 exact aj (.inl rfl) rfl (rVt (v:=vI y1) rfl) (fun W2 hW2 => ⟨rfl,hW2.none⟩)
theorem kF (p0:TJ) (cap0:TR) (cap1:Int) (cap2:Int) (cap3:Int) (res:Bool) (h:cA p0 cap0 cap1 cap2 cap3 = some res) (W:World) (Aa:Option Addr) (n0_0 ca : Nat) (hn0_0:n0_0 = p0.fLegs.length) (hr0_0:Rd W Aa n0_0 ca (encL TLeg_cells p0.fLegs)) (bc0:Nat) (A100_1:Option Addr) (n100_1 c100_1 : Nat) (ys100_1:List (Hd × TT)) (hn100_1:n100_1 = cap0.fTracks.length) (hr100_1:Rd W A100_1 n100_1 c100_1 (encL TTrack_cells2 ys100_1)) (hN100_1:NestW W (fun z : TT => z.fK) TSpan_cells ys100_1 cap0.fTracks) (hcap0:Rd W (some ⟨bc0,0,none⟩) 1 1 [vI cap0.fPlaces,.slice A100_1 n100_1 c100_1]) (bc1:Nat) (hcap1:Rd W (some ⟨bc1,0,none⟩) 1 1 (cI cap1)) (bc2:Nat) (hcap2:Rd W (some ⟨bc2,0,none⟩) 1 1 (cI cap2)) (bc3:Nat) (hcap3:Rd W (some ⟨bc3,0,none⟩) 1 1 (cI cap3)) :
  Calls Tryz.prog 121 [.agg #[.slice Aa n0_0 ca,vI p0.fA,vI p0.fToll],.pointer (some ⟨bc0,0,none⟩),.pointer (some ⟨bc1,0,none⟩),.pointer (some ⟨bc2,0,none⟩),.pointer (some ⟨bc3,0,none⟩)].toArray W fun e W2 => e = .returned (.bool res) ∧ Ext W W2 []:=by
 subst hn0_0
 subst hn100_1
 unfold cA at h
 refine ab (m:=14) Tryz.func121 rfl rfl (nB rfl) (cS (cR ?_))
 refine aM [.slice Aa p0.fLegs.length ca,vI p0.fA,vI p0.fToll] rfl rfl rfl (fun b1 => ?_)
 refine oY rfl (yAB rfl) (oN (eT (cS (cR (oY rfl (yM (A:=(some ⟨bc0,0,none⟩)) (j:=0) [vI cap0.fPlaces,.slice A100_1 cap0.fTracks.length c100_1] eC (Nat.succ_pos _) (RdL.arg hcap0) rfl (nb rfl)) (oY rfl (yR (A:=(some ⟨bc1,0,none⟩)) (j:=0) (v:=vI cap1) aX (RdL.arg hcap1) rfl rfl) (oY rfl (yR (A:=(some ⟨bc2,0,none⟩)) (j:=0) (v:=vI cap2) aX (RdL.arg hcap2) rfl rfl) (oY rfl (yR (A:=(some ⟨bc3,0,none⟩)) (j:=0) (v:=vI cap3) aX (RdL.arg hcap3) rfl rfl) (oY rfl (yN 0 [.slice Aa p0.fLegs.length ca,vI p0.fA,vI p0.fToll] jB rfl rfl rfl) ?_)))))))))
 obtain ⟨y2,hy3,h⟩:=bOs h
 refine oY rfl (yC [.agg #[vI cap0.fPlaces,.slice A100_1 cap0.fTracks.length c100_1],vI cap1,vI cap2,vI cap3,.agg #[.slice Aa p0.fLegs.length ca,vI p0.fA,vI p0.fToll]] go_113 rfl (fun W2 hW2 => jY cap0 cap1 cap2 cap3 p0 y2 hy3 W2 A100_1 cap0.fTracks.length c100_1 ys100_1 rfl ((RdL.arg hr100_1) W2 hW2) (NestL.at (NestL.arg hN100_1) W2 hW2) Aa p0.fLegs.length ca rfl ((RdL.arg hr0_0) W2 hW2)) rfl) (oY rfl (bH rfl) (oY rfl (yAB rfl) (oN (eT (ak ?_)))))
 obtain rfl:=sI h
 exact aj (.inl rfl) rfl (rVt (v:=.bool (!y2)) rfl) (fun W2 hW2 => ⟨rfl,hW2.none⟩)
theorem iE (p0:TR) (p1:Int) (p2:Int) (p3:Int) (p4:(List TJ)) (p5:TTimes) (res:Int) (h:ck p0 p1 p2 p3 p4 p5 = some res) (W:World) (Ab:Option Addr) (n0_1 cb : Nat) (ys0_1:List (Hd × TT)) (hn0_1:n0_1 = p0.fTracks.length) (hr0_1:Rd W Ab n0_1 cb (encL TTrack_cells2 ys0_1)) (hN0_1:NestW W (fun z : TT => z.fK) TSpan_cells ys0_1 p0.fTracks) (A4_0:Option Addr) (n4_0 c4_0 : Nat) (ys4_0:List (Hd × TJ)) (hn4_0:n4_0 = p4.length) (hr4_0:Rd W A4_0 n4_0 c4_0 (encL TJourney_cells2 ys4_0)) (hN4_0:NestW W (fun z : TJ => z.fLegs) TLeg_cells ys4_0 p4) (A5_0:Option Addr) (n5_0 c5_0 : Nat) (ys5_0:List (Hd × (List Int))) (hn5_0:n5_0 = p5.fH.length) (hr5_0:Rd W A5_0 n5_0 c5_0 (encL SlInt_cells2 ys5_0)) (hN5_0:NestW W (fun z : (List Int) => z) cI ys5_0 p5.fH) :
  Calls Tryz.prog 64 [.agg #[vI p0.fPlaces,.slice Ab n0_1 cb],vI p1,vI p2,vI p3,.slice A4_0 n4_0 c4_0,.agg #[.slice A5_0 n5_0 c5_0]].toArray W fun e W2 => e = .returned (vI res) ∧ Ext W W2 []:=by
 subst hn0_1
 subst hn4_0
 subst hn5_0
 unfold ck at h
 refine ab (m:=98) Tryz.func64 rfl rfl (nB rfl) (cS (cR ?_))
 refine aM [vI p0.fPlaces,.slice Ab p0.fTracks.length cb] rfl rfl rfl (fun b1 => ?_)
 refine aM [vI p1] rfl rfl rfl (fun b2 => ?_)
 refine aM [vI p2] rfl rfl rfl (fun b3 => ?_)
 refine aM [vI p3] rfl rfl rfl (fun b4 => ?_)
 refine aM [.slice A5_0 p5.fH.length c5_0] rfl rfl rfl (fun b5 => ?_)
 refine oY rfl (yAI rfl) (oN (eT (cS (cS (cR (oY rfl (yN 0 [vI p0.fPlaces,.slice Ab p0.fTracks.length cb] eC rfl rfl rfl) (oY rfl (yL 1 aX rfl rfl rfl) (oY rfl (yL 2 aX rfl rfl rfl) (oY rfl (yL 3 aX rfl rfl rfl) ?_)))))))))
 obtain ⟨y6,hy7,h⟩:=bOs h
 refine oY rfl (yC [.agg #[vI p0.fPlaces,.slice Ab p0.fTracks.length cb],vI p1,vI p2,vI p3,vI 0] sn rfl (fun W2 hW2 => eM p0 p1 p2 p3 0 y6 hy7 W2 Ab p0.fTracks.length cb ys0_1 rfl ((RdL.arg hr0_1) W2 hW2) (NestL.at (NestL.arg hN0_1) W2 hW2)) rfl) (oY rfl (yAI rfl) (oN (eT (cS (cR (oY rfl (yMI rfl) (oY rfl (dJ rfl rfl) (oN (eT ?_)))))))))
 rcases iOs h with ⟨hp8,h⟩ | ⟨hp8,h⟩
 ·refine cT (vB hp8) (cS (cR (oY rfl (yMI rfl) (oY rfl (yAI rfl) (oN (eT (ak (aa ?_))))))))
  obtain rfl:=sI h
  exact aj (.inl rfl) rfl (rVt (v:=vI y6) rfl) (fun W2 hW2 => ⟨rfl,hW2.none⟩)
 ·refine cF (vB hp8) (cK (eT (cS (cS (cR (oY rfl (yN 0 [vI p0.fPlaces,.slice Ab p0.fTracks.length cb] eC rfl rfl rfl) (oY rfl (yL 1 aX rfl rfl rfl) (oY rfl (yL 3 aX rfl rfl rfl) (oY rfl (yN 4 [.slice A5_0 p5.fH.length c5_0] qB rfl rfl rfl) ?_)))))))))
  obtain ⟨y9,hy10,h⟩:=bOs h
  refine oY rfl (yC [.agg #[vI p0.fPlaces,.slice Ab p0.fTracks.length cb],vI p1,vI p3,.agg #[.slice A5_0 p5.fH.length c5_0]] go_112 rfl (fun W2 hW2 => nr p0 p1 p3 p5 y9 hy10 W2 Ab p0.fTracks.length cb ys0_1 rfl ((RdL.arg hr0_1) W2 hW2) (NestL.at (NestL.arg hN0_1) W2 hW2) A5_0 p5.fH.length c5_0 ys5_0 rfl ((RdL.arg hr5_0) W2 hW2) (NestL.at (NestL.arg hN5_0) W2 hW2)) rfl) (oY rfl (bH rfl) (oY rfl (yMB rfl) ?_))
  obtain ⟨b12,hb13,h⟩:=bOs h
  refine oJ 5 (fun tm0 => (upd (upd (upd (upd (upd tm0 4 (.slice A4_0 p4.length c4_0)) 8 (.pointer (some ⟨b3,0,none⟩))) 11 (.pointer (some ⟨b5,0,none⟩))) 12 (vI 0)) 39 (.bool b12))) (fun tm0 => ?_) (fun key => ?_)
  ·refine oN (eT ?_)
   rcases iOs h with ⟨hp14,h⟩ | ⟨hp14,h⟩
   ·refine cT (vB hp14) (cS (cR (oY rfl (yAI rfl) (oN (eT (ak (aa ?_)))))))
    obtain rfl:=sI h
    exact aj (.inl rfl) rfl (rVt (v:=vI 8) rfl) (fun W2 hW2 => ⟨rfl,hW2.none⟩)
   ·refine cF (vB hp14) (cK (eT (cS (cR ?_))))
    refine aB oV rfl (fun b15 => ?_)
    try dsimp only [lna,lca,lsz,lss]
    refine aB oV rfl (fun b16 => ?_)
    try dsimp only [lna,lca,lsz,lss]
    refine oN (eT (cS ?_))
    refine bv 6 dm (by kernel_rfl) (by kernel_rfl) ?_
    refine qY rfl (oT rz pD rfl) (qY rfl (yFA eQ rfl) (qY rfl (yL 4 kZ rfl rfl rfl) (qY rfl (yL 2 aX rfl rfl rfl) ?_)))
    obtain ⟨hg17,h⟩:=gOs h
    refine qY rfl (yI og (by decide) hg17.1 hg17.2 (RdL.arg hr5_0) (eL aF (NestP.hn hN5_0.p rfl)) rfl rfl) ?_
    refine qY rfl (yR (A:=A5_0) (j:=(Int.toNat p2 * 1)) (v:=.slice ((rdL ys5_0 p2).1.1) ((rdL p5.fH p2).length) ((rdL ys5_0 p2).1.2.2)) lX (RdL.arg hr5_0) rfl (aJ aF hg17.1 (aq hg17.2 (NestP.hn hN5_0.p rfl)) (congrArg (fun n : Nat => some (Value.slice (rdL ys5_0 p2).1.1 n (rdL ys5_0 p2).1.2.2)) (NestP.len hN5_0.p hg17.1 (aq hg17.2 rfl))))) (cN ?_)
    obtain ⟨hg18,h⟩:=gOs h
    refine oY rfl (y_copyA 5 (by decide) c8 pD List.length_replicate rfl (NestL.rd (NestL.arg hN5_0) hg17.1 (aq hg17.2 rfl)) rfl hg18 rfl rfl) ?_
    refine oN (eT (cS (cS (cR (oY rfl (yMI rfl) (oN (eT (cB ?_))))))))
    obtain ⟨u22,hl25,h⟩:=bOs h
    refine bq (fun (s:(Int × (List Int))) L tm => ∃ (tm0:Nat → Value),s.2.length = 61 ∧ L = [ag b1 24 [vI p0.fPlaces,.slice Ab p0.fTracks.length cb],ag b2 3 [vI p1],ag b3 3 [vI p2],ag b4 3 [vI p3],ag b5 87 [.slice A5_0 p5.fH.length c5_0],ag b15 160 (encL cI (rdL p5.fH p2)),ag b16 160 (encL cI s.2)] ∧ tm = (upd (upd (upd (upd (upd tm0 4 (.slice A4_0 p4.length c4_0)) 12 (vI 0)) 14 (.pointer (some ⟨b15,0,none⟩))) 15 (.pointer (some ⟨b16,0,none⟩))) 47 (vI s.1))) 0 hl25 ⟨_,List.length_replicate,rfl,(kp4 (kp rfl))⟩ ?_ ?_
    ·rintro s21 L tm st ⟨tm0_s21,hl6_s21,rfl,rfl⟩ h
     unfold d9 at h
     refine cS (cR (oY rfl (bo rfl rfl) (oN (eT (cS ?_)))))
     rcases iOs h with ⟨hp23,h⟩ | ⟨hp23,h⟩
     ·refine cT (vB hp23) (cK (eT (cS (cB (cS (cR (oY rfl (yMI rfl) (oY rfl (yAI rfl) (oN (eT (cR (oY rfl (yMI rfl) ?_))))))))))))
      obtain ⟨hg24,h⟩:=gOs h
      refine oY rfl (kw re hg24.1 hg24.2 rfl rfl) (cL rfl (li 6 (encL cI (s21.2.set (Int.toNat s21.1) (-1))) pD rfl (ltA hl6_s21 hg24.1 hg24.2) setA' rfl rfl rfl) (oN (ay (eT (cR (oY rfl (aY rfl rfl) (oY rfl (yMI rfl) (oN ?_))))))))
      obtain rfl:=sI h
      exact eN ⟨_,(pk hl6_s21),rfl,(kp4 (kp rfl))⟩
     ·refine cF (vB hp23) (aE (ai ?_))
      obtain rfl:=sI h
      exact au ⟨rfl,_,hl6_s21,rfl,(kp4 (kp rfl))⟩
    ·intro e L tm hJ
     obtain ⟨rfl,tm0_u22,hl6_u22,rfl,rfl⟩:=hJ
     refine ⟨(by intro hc; cases hc),?_⟩
     refine ac (eT (cS (cS (cR (oY rfl (yMS rfl) (oY rfl (bl (us:=[]) kN rfl) (oY rfl (yMI rfl) (oN (eT (cB ?_))))))))))
     obtain ⟨u29,hl49,h⟩:=bOs h
     refine bn (fun (s:(Int × Int × (List Int))) L tm => ∃ (tm0:Nat → Value),s.2.2.length = 61 ∧ L = [ag b1 24 [vI p0.fPlaces,.slice Ab p0.fTracks.length cb],ag b2 3 [vI p1],ag b3 3 [vI p2],ag b4 3 [vI p3],ag b5 87 [.slice A5_0 p5.fH.length c5_0],ag b15 160 (encL cI (rdL p5.fH p2)),ag b16 160 (encL cI s.2.2)] ∧ tm = (upd (upd (upd (upd (upd (upd (upd tm0 4 (.slice A4_0 p4.length c4_0)) 12 (vI s.1)) 14 (.pointer (some ⟨b15,0,none⟩))) 15 (.pointer (some ⟨b16,0,none⟩))) 53 (.slice A4_0 p4.length c4_0)) 54 (vI (p4.length:Int))) 55 (vI s.2.1))) 2 hl49 ⟨_,hl6_u22,rfl,(kp4 (kp (kp (kp rfl))))⟩ ?_ ?_
     ·rintro s28 L tm st ⟨tm0_s28,hl6_s28,rfl,rfl⟩ h
      unfold cm at h
      refine cS (cR (oY rfl (bo rfl rfl) (oN (eT (cS ?_)))))
      rcases iOs h with ⟨hp30,h⟩ | ⟨hp30,h⟩
      ·refine cT (vB hp30) (cK (eT (cS (cB (cS (cR (oY rfl (yMI rfl) ?_)))))))
       obtain ⟨hg31,h⟩:=gOs h
       refine oY rfl (yI iW (by decide) hg31.1 hg31.2 (RdL.arg hr4_0) (eL ap (NestP.hn hN4_0.p rfl)) rfl rfl) ?_
       refine oY rfl (yM (A:=A4_0) (j:=(Int.toNat s28.2.1 * 3)) [.slice ((rdL ys4_0 s28.2.1).1.1) ((rdL p4 s28.2.1).fLegs.length) ((rdL ys4_0 s28.2.1).1.2.2),vI ((rdL p4 s28.2.1).fA),vI ((rdL p4 s28.2.1).fToll)] jB (Nat.succ_pos _) (RdL.arg hr4_0) rfl (iN (dX (NestP.snd hN4_0.p s28.2.1) (NestP.len hN4_0.p hg31.1 (aq hg31.2 rfl))).symm (bd ap hg31.1 (aq hg31.2 (NestP.hn hN4_0.p rfl))))) ?_
       refine aB jN rfl (fun b32 => ?_)
       try dsimp only [lna,lca,lsz,lss]
       refine oY rfl (yAI rfl) (cL rfl (yS 7 [.slice ((rdL ys4_0 s28.2.1).1.1) ((rdL p4 s28.2.1).fLegs.length) ((rdL ys4_0 s28.2.1).1.2.2),vI ((rdL p4 s28.2.1).fA),vI ((rdL p4 s28.2.1).fToll)] k9 rfl (nB rfl) rfl rfl rfl) (oN (eT (cS (cS ?_)))))
       refine bv 24 dm (by kernel_rfl) (by kernel_rfl) ?_
       refine qY rfl (yMI rfl) (qY rfl (gG rfl rfl) (qY rfl (yMB rfl) ?_))
       obtain ⟨b34,hb35,h⟩:=bOs h
       refine qJ 21 (fun tm0 => (upd (upd (upd (upd (upd (upd (upd (upd (upd (upd (upd tm0 4 (.slice A4_0 p4.length c4_0)) 12 (vI s28.1)) 14 (.pointer (some ⟨b15,0,none⟩))) 15 (.pointer (some ⟨b16,0,none⟩))) 53 (.slice A4_0 p4.length c4_0)) 54 (vI (p4.length:Int))) 55 (vI s28.2.1)) 56 (.bool (decide (s28.2.1 < (p4.length:Int))))) 18 (.pointer (some ⟨b32,0,none⟩))) 17 (vI s28.2.1)) 83 (.bool b34))) (fun tm0 => ?_) (fun key => ?_)
       ·refine cN (oN (eT ?_))
        rcases iOs h with ⟨hp36,h⟩ | ⟨hp36,h⟩
        ·refine cT (vB hp36) (cS (cR (oY rfl (yAI rfl) (oN (eT (ak (aa (ah (aa (aU 7 ?_))))))))))
         obtain rfl:=sI h
         exact au ⟨rfl,_,hl6_s28,rfl,(kp4 (kp (kp (kp rfl))))⟩
        ·refine cF (vB hp36) (cK (eT (cS (cR (oY rfl (yFA ik rfl) (oY rfl (yL 7 aX rfl rfl rfl) (oY rfl (yAI rfl) (oN (eT (cB ?_))))))))))
         obtain ⟨u40,hl43,h⟩:=bOs h
         refine bq (fun (s:(Int × (List Int))) L tm => ∃ (tm0:Nat → Value),s.2.length = 61 ∧ L = [ag b1 24 [vI p0.fPlaces,.slice Ab p0.fTracks.length cb],ag b2 3 [vI p1],ag b3 3 [vI p2],ag b4 3 [vI p3],ag b5 87 [.slice A5_0 p5.fH.length c5_0],ag b15 160 (encL cI (rdL p5.fH p2)),ag b16 160 (encL cI s.2),ag b32 29 [.slice ((rdL ys4_0 s28.2.1).1.1) ((rdL p4 s28.2.1).fLegs.length) ((rdL ys4_0 s28.2.1).1.2.2),vI ((rdL p4 s28.2.1).fA),vI ((rdL p4 s28.2.1).fToll)]] ∧ tm = (upd (upd (upd (upd (upd (upd (upd (upd (upd (upd (upd (upd tm0 4 (.slice A4_0 p4.length c4_0)) 12 (vI s28.1)) 14 (.pointer (some ⟨b15,0,none⟩))) 15 (.pointer (some ⟨b16,0,none⟩))) 53 (.slice A4_0 p4.length c4_0)) 54 (vI (p4.length:Int))) 55 (vI s28.2.1)) 56 (.bool (decide (s28.2.1 < (p4.length:Int))))) 18 (.pointer (some ⟨b32,0,none⟩))) 17 (vI s28.2.1)) 83 (.bool b34)) 19 (vI s.1))) 4 hl43 ⟨_,hl6_s28,rfl,(kp4 (kp4 (kp4 rfl)))⟩ ?_ ?_
         ·rintro s39 L tm st ⟨tm0_s39,hl6_s39,rfl,rfl⟩ h
          unfold db at h
          refine cS (cS (cR (oY rfl (yMI rfl) (oY rfl (iO rfl rfl) (oN (eT ?_))))))
          rcases iOs h with ⟨hp41,h⟩ | ⟨hp41,h⟩
          ·refine cT (vB hp41) (cK (eT (cS (cB (cR (oY rfl (yMI rfl) (oY rfl (yFA gh rfl) (oY rfl (yL 7 aX rfl rfl rfl) ?_))))))))
           obtain ⟨hg42,h⟩:=gOs h
           refine oY rfl (kw re hg42.1 hg42.2 rfl rfl) (cL rfl (li 6 (encL cI (s39.2.set (Int.toNat s39.1) ((rdL p4 s28.2.1).fA))) pD rfl (ltA hl6_s39 hg42.1 hg42.2) setA' rfl rfl rfl) (oN (ay (eT (cR (oY rfl (yMI rfl) (oY rfl (aY rfl rfl) (oY rfl (yAI rfl) (oN ?_)))))))))
           obtain rfl:=sI h
           exact eN ⟨_,(pk hl6_s39),rfl,(kp4 (kp4 (kp4 rfl)))⟩
          ·refine cF (vB hp41) (aE (ai ?_))
           obtain rfl:=sI h
           exact au ⟨rfl,_,hl6_s39,rfl,(kp4 (kp4 (kp4 rfl)))⟩
         ·intro e L tm hJ
          obtain ⟨rfl,tm0_u40,hl6_u40,rfl,rfl⟩:=hJ
          refine ⟨(by intro hc; cases hc),?_⟩
          refine ac (ay (eT (cR (oY rfl (aY rfl rfl) (oY rfl (yMI rfl) (oN (aU 7 ?_)))))))
          obtain rfl:=sI h
          exact eN ⟨_,hl6_u40,rfl,(kp4 (kp (kp (kp rfl))))⟩
       ·clear h; rcases iOs hb35 with ⟨hp33,h⟩ | ⟨hp33,h⟩
        ·refine qY (sT rfl rfl rfl rfl hp33) (yFA ik rfl) (qY (sT rfl rfl rfl rfl hp33) (yL 7 aX rfl rfl rfl) (qY (sT rfl rfl rfl rfl hp33) (yMS rfl) (qY (sT rfl rfl rfl rfl hp33) (yMI rfl) (qY (sT rfl rfl rfl rfl hp33) (gE rfl rfl) ?_))))
         obtain ⟨hg44,h⟩:=gOs h
         refine qY (sT rfl rfl rfl rfl hp33) (yI iW (by decide) hg44.1 hg44.2 (RdL.arg hr4_0) (eL ap (NestP.hn hN4_0.p rfl)) rfl rfl) ?_
         refine qY (sT rfl rfl rfl rfl hp33) (yFR (A:=A4_0) (j:=(Int.toNat (w64 (s28.2.1 - 1)) * 3)) ik rfl) (qY (sT rfl rfl rfl rfl hp33) (yR (A:=A4_0) (j:=((Int.toNat (w64 (s28.2.1 - 1)) * 3) + 2)) (v:=vI ((rdL p4 (w64 (s28.2.1 - 1))).fToll)) aX (RdL.arg hr4_0) rfl (eG ap hg44.1 (aq hg44.2 (NestP.hn hN4_0.p rfl)) (congrArg (fun z : TJ => some (Value.int .i64 z.fToll)) (NestP.snd hN4_0.p (w64 (s28.2.1 - 1)))))) (qY (sT rfl rfl rfl rfl hp33) (iO rfl rfl) (qY (sT rfl rfl rfl rfl hp33) (yMB rfl) ?_)))
         obtain ⟨b46,hb47,h⟩:=bOs h
         refine qJ 10 (fun tm0 => (upd (upd (upd (upd (upd (upd (upd (upd (upd (upd (upd (upd tm0 4 (.slice A4_0 p4.length c4_0)) 12 (vI s28.1)) 14 (.pointer (some ⟨b15,0,none⟩))) 15 (.pointer (some ⟨b16,0,none⟩))) 53 (.slice A4_0 p4.length c4_0)) 54 (vI (p4.length:Int))) 55 (vI s28.2.1)) 56 (.bool (decide (s28.2.1 < (p4.length:Int))))) 18 (.pointer (some ⟨b32,0,none⟩))) 17 (vI s28.2.1)) 62 (.bool (decide (0 < s28.2.1)))) 82 (.bool b46))) (fun tm0 => ?_) (fun key => ?_)
         ·refine qY rfl (ad (vB hp33) rfl) ?_
          obtain rfl:=sI h
          exact key _ _ (kp4 (kp4 (kp (kp (kp rfl)))))
         ·clear h; rcases iOs hb47 with ⟨hp45,h⟩ | ⟨hp45,h⟩
          ·refine ar (sF rfl rfl rfl rfl hp45) (ar (sF rfl rfl rfl rfl hp45) (ar (sF rfl rfl rfl rfl hp45) (ar (sF rfl rfl rfl rfl hp45) (ar (sF rfl rfl rfl rfl hp45) (ar (sF rfl rfl rfl rfl hp45) (ar (sF rfl rfl rfl rfl hp45) (ar (sF rfl rfl rfl rfl hp45) (ar (sF rfl rfl rfl rfl hp45) (qY (sT rfl rfl rfl rfl hp33) (ad (vB hp45) rfl) ?_)))))))))
           obtain rfl:=sI h
           exact key _ _ (kp4 (kp4 (kp4 rfl)))
          ·refine qY (sT rfl rfl rfl rfl hp45) (yFA gh rfl) (qY (sT rfl rfl rfl rfl hp45) (yL 7 aX rfl rfl rfl) (qY (sT rfl rfl rfl rfl hp45) (yMS rfl) (qY (sT rfl rfl rfl rfl hp45) (yMI rfl) (qY (sT rfl rfl rfl rfl hp45) (gE rfl rfl) ?_))))
           obtain ⟨hg48,h⟩:=gOs h
           refine qY (sT rfl rfl rfl rfl hp45) (yI iW (by decide) hg48.1 hg48.2 (RdL.arg hr4_0) (eL ap (NestP.hn hN4_0.p rfl)) rfl rfl) ?_
           refine qY (sT rfl rfl rfl rfl hp45) (yFR (A:=A4_0) (j:=(Int.toNat (w64 (s28.2.1 - 1)) * 3)) gh rfl) (qY (sT rfl rfl rfl rfl hp45) (yR (A:=A4_0) (j:=((Int.toNat (w64 (s28.2.1 - 1)) * 3) + 1)) (v:=vI ((rdL p4 (w64 (s28.2.1 - 1))).fA)) aX (RdL.arg hr4_0) rfl (eG ap hg48.1 (aq hg48.2 (NestP.hn hN4_0.p rfl)) (congrArg (fun z : TJ => some (Value.int .i64 z.fA)) (NestP.snd hN4_0.p (w64 (s28.2.1 - 1)))))) (qY (sT rfl rfl rfl rfl hp45) (mL rfl rfl) (qY (sT rfl rfl rfl rfl hp33) (ae (vB hp45) rfl) ?_)))
           obtain rfl:=sI h
           exact key _ _ (kp4 (kp4 (kp4 rfl)))
        ·refine ar (sF rfl rfl rfl rfl hp33) (ar (sF rfl rfl rfl rfl hp33) (ar (sF rfl rfl rfl rfl hp33) (ar (sF rfl rfl rfl rfl hp33) (ar (sF rfl rfl rfl rfl hp33) (ar (sF rfl rfl rfl rfl hp33) (ar (sF rfl rfl rfl rfl hp33) (ar (sF rfl rfl rfl rfl hp33) (ar (sF rfl rfl rfl rfl hp33) (ar (sF rfl rfl rfl rfl hp33) (ar rfl (ar rfl (ar rfl (ar rfl (ar rfl (ar rfl (ar rfl (ar rfl (ar rfl (ar (sF rfl rfl rfl rfl hp33) (qY rfl (ae (vB hp33) rfl) ?_))))))))))))))))))))
         obtain rfl:=sI h
         exact key _ _ (kp4 (kp4 (kp (kp (kp rfl)))))
      ·refine cF (vB hp30) (aE (ai ?_))
       obtain rfl:=sI h
       exact au ⟨rfl,_,hl6_s28,rfl,(kp4 (kp (kp (kp rfl))))⟩
     ·intro e L tm hJ
      rcases u29 with u50 | u51
      ·dsimp only at h hJ
       obtain ⟨rfl,tm0_u50,hl6_u50,rfl,rfl⟩:=hJ
       refine ⟨(by intro hc; cases hc),?_⟩
       refine ah (aa ?_)
       obtain rfl:=sI h
       exact aj (.inl rfl) rfl (rVt (v:=vI u50.1) rfl) (fun W2 hW2 => ⟨rfl,hW2.none⟩)
      ·dsimp only at h hJ
       obtain ⟨rfl,tm0_u51,hl6_u51,rfl,rfl⟩:=hJ
       refine ⟨(by intro hc; cases hc),?_⟩
       refine ac (eT (cS (cS (cR (oY rfl (yN 5 (encL cI (rdL p5.fH p2)) (aggA nA hg18) rfl rfl (sJ _)) (oY rfl (yN 6 (encL cI u51.2.2) (aggA nA hl6_u51) rfl rfl (sJ _)) (oY rfl (y_neqa (b:=decide ((rdL p5.fH p2) = u51.2.2)) eg_160 rfl rfl (fun _ => eqAN rz aX ui_3 hg18 hl6_u51)) (oN (eT ?_)))))))))
       rcases iOs h with ⟨hp52,h⟩ | ⟨hp52,h⟩
       ·refine cT (vB hp52) (cS (cR (oY rfl (yAI rfl) (oN (eT (ak (aa ?_)))))))
        obtain rfl:=sI h
        exact aj (.inl rfl) rfl (rVt (v:=vI 8) rfl) (fun W2 hW2 => ⟨rfl,hW2.none⟩)
       ·refine cF (vB hp52) (cK (eT (cS (cR (oY rfl (yAI rfl) (oN (eT (ak ?_))))))))
        obtain rfl:=sI h
        exact aj (.inl rfl) rfl (rVt (v:=vI 0) rfl) (fun W2 hW2 => ⟨rfl,hW2.none⟩)
  ·clear h; rcases iOs hb13 with ⟨hp11,h⟩ | ⟨hp11,h⟩
   ·refine oSk (sF rfl rfl rfl rfl hp11) (oSk (sF rfl rfl rfl rfl hp11) (oSk (sF rfl rfl rfl rfl hp11) (oSk (sF rfl rfl rfl rfl hp11) (oY rfl (ad (vB hp11) rfl) ?_))))
    obtain rfl:=sI h
    exact key _ _ (kp4 (kp rfl))
   ·refine oY (sT rfl rfl rfl rfl hp11) (yMS rfl) (oY (sT rfl rfl rfl rfl hp11) (bQ [.pointer (some ⟨b1,0,none⟩),.pointer (some ⟨b2,0,none⟩),.pointer (some ⟨b3,0,none⟩),.pointer (some ⟨b4,0,none⟩)] rfl rfl) ?_)
    obtain ⟨y54,hy55,h⟩:=bOs h
    refine oY (sT rfl rfl rfl rfl hp11) (yC [.slice A4_0 p4.length c4_0,.func (.func 121) #[] #[.pointer (some ⟨b1,0,none⟩),.pointer (some ⟨b2,0,none⟩),.pointer (some ⟨b3,0,none⟩),.pointer (some ⟨b4,0,none⟩)]] go_120 rfl (fun W2 hW2 => gF p4 (fun x53 => cA x53 p0 p1 p2 p3) y54 hy55 W2 A4_0 p4.length c4_0 ys4_0 rfl ((RdL.arg hr4_0) W2 hW2) (NestL.at (NestL.arg hN4_0) W2 hW2) 121 [] [.pointer (some ⟨b1,0,none⟩),.pointer (some ⟨b2,0,none⟩),.pointer (some ⟨b3,0,none⟩),.pointer (some ⟨b4,0,none⟩)] go_121 (fun W3 hb x hx rx y hxy => kF  x p0 p1 p2 p3 y hxy W3 hx.1 _ hx.2.2 rfl rx b1 Ab p0.fTracks.length cb ys0_1 rfl (((RdL.arg hr0_1) W2 hW2).later hb) ((NestL.at (NestL.arg hN0_1) W2 hW2).later hb) (((RdL.cells 0 rfl) W2 hW2).later hb) b2 (((RdL.cells 1 rfl) W2 hW2).later hb) b3 (((RdL.cells 2 rfl) W2 hW2).later hb) b4 (((RdL.cells 3 rfl) W2 hW2).later hb))) rfl) (oY (sT rfl rfl rfl rfl hp11) (mL rfl rfl) (oY rfl (ae (vB hp11) rfl) ?_))
    obtain rfl:=sI h
    exact key _ _ (kp4 (kp rfl))
theorem g8 (p0:(List TJ)) (p1:TJ) (res:Bool) (h:cW p0 p1 = some res) (W:World) (Aa:Option Addr) (n0_0 ca : Nat) (ys0_0:List (Hd × TJ)) (hn0_0:n0_0 = p0.length) (hr0_0:Rd W Aa n0_0 ca (encL TJourney_cells2 ys0_0)) (hN0_0:NestW W (fun z : TJ => z.fLegs) TLeg_cells ys0_0 p0) (Ac:Option Addr) (n1_0 cc : Nat) (hn1_0:n1_0 = p1.fLegs.length) (hr1_0:Rd W Ac n1_0 cc (encL TLeg_cells p1.fLegs)) :
  Calls Tryz.prog 66 [.slice Aa n0_0 ca,.agg #[.slice Ac n1_0 cc,vI p1.fA,vI p1.fToll]].toArray W fun e W2 => e = .returned (.bool res) ∧ Ext W W2 []:=by
 subst hn0_0
 subst hn1_0
 unfold cW at h
 refine ab (m:=30) Tryz.func66 rfl rfl (nB rfl) (cS (cR ?_))
 refine aM [.slice Ac p1.fLegs.length cc,vI p1.fA,vI p1.fToll] rfl rfl rfl (fun b1 => ?_)
 refine oY rfl (yAB rfl) (oN (eT (cS (cS (cR (oY rfl (yAI rfl) (oN (eT (cB ?_)))))))))
 obtain ⟨u4,hl12,h⟩:=bOs h
 refine bn (fun (s:(Bool × Int)) L tm => ∃ (tm0:Nat → Value),L = [ag b1 29 [.slice Ac p1.fLegs.length cc,vI p1.fA,vI p1.fToll]] ∧ tm = (upd (upd (upd (upd tm0 0 (.slice Aa p0.length ca)) 3 (.pointer (some ⟨b1,0,none⟩))) 4 (.bool s.1)) 5 (vI s.2))) 0 hl12 ⟨_,rfl,(kp4 rfl)⟩ ?_ ?_
 ·rintro s3 L tm st ⟨tm0_s3,rfl,rfl⟩ h
  unfold dI at h
  refine cS (cS (cR (oY rfl (yMI rfl) (oY rfl (yMS rfl) (oY rfl (bl (us:=[]) kN rfl) (oY rfl (bo rfl rfl) (oN (eT ?_))))))))
  rcases iOs h with ⟨hp5,h⟩ | ⟨hp5,h⟩
  ·refine cT (vB hp5) (cK (eT (cS (cB (cS ?_)))))
   refine bv 18 dm (by kernel_rfl) (by kernel_rfl) ?_
   refine qY rfl (yMS rfl) (qY rfl (yMI rfl) ?_)
   obtain ⟨hg6,h⟩:=gOs h
   refine qY rfl (yI iW (by decide) hg6.1 hg6.2 (RdL.arg hr0_0) (eL ap (NestP.hn hN0_0.p rfl)) rfl rfl) ?_
   refine qY rfl (yFR (A:=Aa) (j:=(Int.toNat s3.2 * 3)) ik rfl) (qY rfl (yR (A:=Aa) (j:=((Int.toNat s3.2 * 3) + 2)) (v:=vI ((rdL p0 s3.2).fToll)) aX (RdL.arg hr0_0) rfl (eG ap hg6.1 (aq hg6.2 (NestP.hn hN0_0.p rfl)) (congrArg (fun z : TJ => some (Value.int .i64 z.fToll)) (NestP.snd hN0_0.p s3.2)))) (qY rfl (yFA ik rfl) (qY rfl (yL 0 aX rfl rfl rfl) (qY rfl (iO rfl rfl) (qY rfl (yMB rfl) ?_)))))
   obtain ⟨b8,hb9,h⟩:=bOs h
   refine qJ 9 (fun tm0 => (upd (upd (upd (upd (upd (upd tm0 0 (.slice Aa p0.length ca)) 3 (.pointer (some ⟨b1,0,none⟩))) 4 (.bool s3.1)) 5 (vI s3.2)) 9 (.bool (decide (s3.2 < (p0.length:Int))))) 29 (.bool b8))) (fun tm0 => ?_) (fun key => ?_)
   ·refine cN (oN (eT ?_))
    rcases iOs h with ⟨hp10,h⟩ | ⟨hp10,h⟩
    ·refine cT (vB hp10) (cS (cR (oY rfl (yAB rfl) (oN (eT (ak (ah (aa ?_))))))))
     obtain rfl:=sI h
     exact au ⟨rfl,_,rfl,(kp4 rfl)⟩
    ·refine cF (vB hp10) (cK (ay (eT (cR (oY rfl (yMI rfl) (oY rfl (aY rfl rfl) (oY rfl (yAI rfl) (oN ?_))))))))
     obtain rfl:=sI h
     exact eN ⟨_,rfl,(kp4 rfl)⟩
   ·clear h; rcases iOs hb9 with ⟨hp7,h⟩ | ⟨hp7,h⟩
    ·refine qY (sT rfl rfl rfl rfl hp7) (yMS rfl) (qY (sT rfl rfl rfl rfl hp7) (yMI rfl) ?_)
     obtain ⟨hg11,h⟩:=gOs h
     refine qY (sT rfl rfl rfl rfl hp7) (yI iW (by decide) hg11.1 hg11.2 (RdL.arg hr0_0) (eL ap (NestP.hn hN0_0.p rfl)) rfl rfl) ?_
     refine qY (sT rfl rfl rfl rfl hp7) (yFR (A:=Aa) (j:=(Int.toNat s3.2 * 3)) gh rfl) (qY (sT rfl rfl rfl rfl hp7) (yR (A:=Aa) (j:=((Int.toNat s3.2 * 3) + 1)) (v:=vI ((rdL p0 s3.2).fA)) aX (RdL.arg hr0_0) rfl (eG ap hg11.1 (aq hg11.2 (NestP.hn hN0_0.p rfl)) (congrArg (fun z : TJ => some (Value.int .i64 z.fA)) (NestP.snd hN0_0.p s3.2)))) (qY (sT rfl rfl rfl rfl hp7) (yFA gh rfl) (qY (sT rfl rfl rfl rfl hp7) (yL 0 aX rfl rfl rfl) (qY (sT rfl rfl rfl rfl hp7) (iO rfl rfl) (qY rfl (ad (vB hp7) rfl) ?_)))))
     obtain rfl:=sI h
     exact key _ _ (kp4 (kp (kp rfl)))
    ·refine ar (sF rfl rfl rfl rfl hp7) (ar (sF rfl rfl rfl rfl hp7) (ar (sF rfl rfl rfl rfl hp7) (ar (sF rfl rfl rfl rfl hp7) (ar (sF rfl rfl rfl rfl hp7) (ar (sF rfl rfl rfl rfl hp7) (ar (sF rfl rfl rfl rfl hp7) (ar (sF rfl rfl rfl rfl hp7) (qY rfl (ae (vB hp7) rfl) ?_))))))))
     obtain rfl:=sI h
     exact key _ _ (kp4 (kp (kp rfl)))
  ·refine cF (vB hp5) (aE (ai ?_))
   obtain rfl:=sI h
   exact au ⟨rfl,_,rfl,(kp4 rfl)⟩
 ·intro e L tm hJ
  rcases u4 with u13 | u14
  ·dsimp only at h hJ
   obtain ⟨rfl,tm0_u13,rfl,rfl⟩:=hJ
   refine ⟨(by intro hc; cases hc),?_⟩
   refine ah (aa ?_)
   obtain rfl:=sI h
   exact aj (.inl rfl) rfl (rVt (v:=.bool u13.1) rfl) (fun W2 hW2 => ⟨rfl,hW2.none⟩)
  ·dsimp only at h hJ
   obtain ⟨rfl,tm0_u14,rfl,rfl⟩:=hJ
   refine ⟨(by intro hc; cases hc),?_⟩
   refine ac (eT (cS (cR (oY rfl (yAB rfl) (oN (eT (ak ?_)))))))
   obtain rfl:=sI h
   exact aj (.inl rfl) rfl (rVt (v:=.bool false) rfl) (fun W2 hW2 => ⟨rfl,hW2.none⟩)
theorem calxlaw05_CartFrontier_ok (p0:TR) (p1:Int) (p2:Int) (p3:Int) (p4:TJ) (p5:(List TJ)) (p6:TTimes) (p7:Int) (res:Bool) (h:cP p0 p1 p2 p3 p4 p5 p6 p7 = some res) (W:World) (Ab:Option Addr) (n0_1 cb : Nat) (ys0_1:List (Hd × TT)) (hn0_1:n0_1 = p0.fTracks.length) (hr0_1:Rd W Ab n0_1 cb (encL TTrack_cells2 ys0_1)) (hN0_1:NestW W (fun z : TT => z.fK) TSpan_cells ys0_1 p0.fTracks) (A4_0:Option Addr) (n4_0 c4_0 : Nat) (hn4_0:n4_0 = p4.fLegs.length) (hr4_0:Rd W A4_0 n4_0 c4_0 (encL TLeg_cells p4.fLegs)) (A5_0:Option Addr) (n5_0 c5_0 : Nat) (ys5_0:List (Hd × TJ)) (hn5_0:n5_0 = p5.length) (hr5_0:Rd W A5_0 n5_0 c5_0 (encL TJourney_cells2 ys5_0)) (hN5_0:NestW W (fun z : TJ => z.fLegs) TLeg_cells ys5_0 p5) (A6_0:Option Addr) (n6_0 c6_0 : Nat) (ys6_0:List (Hd × (List Int))) (hn6_0:n6_0 = p6.fH.length) (hr6_0:Rd W A6_0 n6_0 c6_0 (encL SlInt_cells2 ys6_0)) (hN6_0:NestW W (fun z : (List Int) => z) cI ys6_0 p6.fH) :
  Calls Tryz.prog 15 [.agg #[vI p0.fPlaces,.slice Ab n0_1 cb],vI p1,vI p2,vI p3,.agg #[.slice A4_0 n4_0 c4_0,vI p4.fA,vI p4.fToll],.slice A5_0 n5_0 c5_0,.agg #[.slice A6_0 n6_0 c6_0],.int .u8 p7].toArray W fun e W2 => e = .returned (.bool res) ∧ Ext W W2 []:=by
 subst hn0_1
 subst hn4_0
 subst hn5_0
 subst hn6_0
 unfold cP at h
 refine ab (m:=168) Tryz.func15 rfl rfl (nB rfl) (cS (cR ?_))
 refine aM [vI p0.fPlaces,.slice Ab p0.fTracks.length cb] rfl rfl rfl (fun b1 => ?_)
 refine aM [.slice A4_0 p4.fLegs.length c4_0,vI p4.fA,vI p4.fToll] rfl rfl rfl (fun b2 => ?_)
 refine aM [.slice A6_0 p6.fH.length c6_0] rfl rfl rfl (fun b3 => ?_)
 refine oY rfl (yAB rfl) (oN (eT (cS (cS (cR (oY rfl (yN 0 [vI p0.fPlaces,.slice Ab p0.fTracks.length cb] eC rfl rfl rfl) ?_))))))
 obtain ⟨y4,hy5,h⟩:=bOs h
 refine oY rfl (yC [.agg #[vI p0.fPlaces,.slice Ab p0.fTracks.length cb]] go_16 rfl (fun W2 hW2 => mQ p0 y4 hy5 W2 Ab p0.fTracks.length cb ys0_1 rfl ((RdL.arg hr0_1) W2 hW2) (NestL.at (NestL.arg hN0_1) W2 hW2)) rfl) (oY rfl (bH rfl) (oY rfl (yMB rfl) ?_))
 obtain ⟨b7,hb8,h⟩:=bOs h
 refine oJ 4 (fun tm0 => (upd (upd (upd (upd (upd (upd (upd (upd (upd (upd tm0 1 (vI p1)) 2 (vI p2)) 3 (vI p3)) 5 (.slice A5_0 p5.length c5_0)) 7 (.int .u8 p7)) 8 (.pointer (some ⟨b1,0,none⟩))) 12 (.pointer (some ⟨b2,0,none⟩))) 14 (.pointer (some ⟨b3,0,none⟩))) 16 (.bool false)) 34 (.bool b7))) (fun tm0 => ?_) (fun key => ?_)
 ·refine oY rfl (yMB rfl) ?_
  obtain ⟨b10,hb11,h⟩:=bOs h
  refine oJ 4 (fun tm0 => (upd (upd (upd (upd (upd (upd (upd (upd (upd (upd tm0 1 (vI p1)) 2 (vI p2)) 3 (vI p3)) 5 (.slice A5_0 p5.length c5_0)) 7 (.int .u8 p7)) 8 (.pointer (some ⟨b1,0,none⟩))) 12 (.pointer (some ⟨b2,0,none⟩))) 14 (.pointer (some ⟨b3,0,none⟩))) 16 (.bool false)) 39 (.bool b10))) (fun tm0 => ?_) (fun key => ?_)
  ·refine oY rfl (yMB rfl) ?_
   refine oJ 4 (fun tm0 => (upd (upd (upd (upd (upd (upd (upd (upd (upd (upd tm0 1 (vI p1)) 2 (vI p2)) 3 (vI p3)) 5 (.slice A5_0 p5.length c5_0)) 7 (.int .u8 p7)) 8 (.pointer (some ⟨b1,0,none⟩))) 12 (.pointer (some ⟨b2,0,none⟩))) 14 (.pointer (some ⟨b3,0,none⟩))) 16 (.bool false)) 44 (.bool (b10 || (decide (20 < (p5.length:Int))))))) (fun tm0 => ?_) (fun key => ?_)
   ·refine oN (eT ?_)
    rcases iOs h with ⟨hp13,h⟩ | ⟨hp13,h⟩
    ·refine cT (vB hp13) (cS (cR ?_))
     obtain ⟨y14,hy15,h⟩:=bOs h
     refine oY rfl (yC [] tC rfl (fun W2 hW2 => cH  y14 hy15 W2 ) rfl) (oY rfl (yAB rfl) (oN (eT (ak (aa ?_)))))
     obtain rfl:=sI h
     exact aj (.inl rfl) rfl (rVt (v:=.bool y14) rfl) (fun W2 hW2 => ⟨rfl,hW2.none⟩)
    ·refine cF (vB hp13) (cK (eT (cS (cS (cR (oY rfl (yAI rfl) (oN (eT (cB ?_)))))))))
     obtain ⟨u18,hl26,h⟩:=bOs h
     refine bn (fun (s:(Bool × Int)) L tm => ∃ (tm0:Nat → Value),L = [ag b1 24 [vI p0.fPlaces,.slice Ab p0.fTracks.length cb],ag b2 29 [.slice A4_0 p4.fLegs.length c4_0,vI p4.fA,vI p4.fToll],ag b3 87 [.slice A6_0 p6.fH.length c6_0]] ∧ tm = (upd (upd (upd (upd (upd (upd (upd (upd (upd (upd tm0 1 (vI p1)) 2 (vI p2)) 3 (vI p3)) 5 (.slice A5_0 p5.length c5_0)) 7 (.int .u8 p7)) 8 (.pointer (some ⟨b1,0,none⟩))) 12 (.pointer (some ⟨b2,0,none⟩))) 14 (.pointer (some ⟨b3,0,none⟩))) 16 (.bool s.1)) 17 (vI s.2))) 0 hl26 ⟨_,rfl,(kp4 (kp4 (kp (kp rfl))))⟩ ?_ ?_
     ·rintro s17 L tm st ⟨tm0_s17,rfl,rfl⟩ h
      unfold bD at h
      refine cS (cS (cR (oY rfl (yMI rfl) (oY rfl (yMS rfl) (oY rfl (bl (us:=[]) kN rfl) (oY rfl (bo rfl rfl) (oN (eT ?_))))))))
      rcases iOs h with ⟨hp19,h⟩ | ⟨hp19,h⟩
      ·refine cT (vB hp19) (cK (eT (cS (cB (cS (cR (oY rfl (yMS rfl) (oY rfl (yMI rfl) ?_))))))))
       obtain ⟨hg20,h⟩:=gOs h
       refine oY rfl (yI iW (by decide) hg20.1 hg20.2 (RdL.arg hr5_0) (eL ap (NestP.hn hN5_0.p rfl)) rfl rfl) ?_
       refine oY rfl (yM (A:=A5_0) (j:=(Int.toNat s17.2 * 3)) [.slice ((rdL ys5_0 s17.2).1.1) ((rdL p5 s17.2).fLegs.length) ((rdL ys5_0 s17.2).1.2.2),vI ((rdL p5 s17.2).fA),vI ((rdL p5 s17.2).fToll)] jB (Nat.succ_pos _) (RdL.arg hr5_0) rfl (iN (dX (NestP.snd hN5_0.p s17.2) (NestP.len hN5_0.p hg20.1 (aq hg20.2 rfl))).symm (bd ap hg20.1 (aq hg20.2 (NestP.hn hN5_0.p rfl))))) ?_
       obtain ⟨y21,hy22,h⟩:=bOs h
       refine oY rfl (yC [.agg #[.slice ((rdL ys5_0 s17.2).1.1) ((rdL p5 s17.2).fLegs.length) ((rdL ys5_0 s17.2).1.2.2),vI ((rdL p5 s17.2).fA),vI ((rdL p5 s17.2).fToll)]] go_47 rfl (fun W2 hW2 => iI (TJ.mk ((rdL p5 s17.2).fLegs) ((rdL p5 s17.2).fA) ((rdL p5 s17.2).fToll)) y21 hy22 W2 ((rdL ys5_0 s17.2).1.1) ((rdL p5 s17.2).fLegs.length) ((rdL ys5_0 s17.2).1.2.2) rfl ((NestL.rd (NestL.arg hN5_0) hg20.1 (aq hg20.2 rfl)) W2 hW2)) rfl) (oY rfl (bH rfl) (oN (eT ?_)))
       rcases iOs h with ⟨hp23,h⟩ | ⟨hp23,h⟩
       ·refine cT (vB hp23) (cS (cR ?_))
        obtain ⟨y24,hy25,h⟩:=bOs h
        refine oY rfl (yC [] tC rfl (fun W2 hW2 => cH  y24 hy25 W2 ) rfl) (oY rfl (yAB rfl) (oN (eT (ak (ah (aa ?_))))))
        obtain rfl:=sI h
        exact au ⟨rfl,_,rfl,(kp4 (kp4 (kp (kp rfl))))⟩
       ·refine cF (vB hp23) (cK (ay (eT (cR (oY rfl (yMI rfl) (oY rfl (aY rfl rfl) (oY rfl (yAI rfl) (oN ?_))))))))
        obtain rfl:=sI h
        exact eN ⟨_,rfl,(kp4 (kp4 (kp (kp rfl))))⟩
      ·refine cF (vB hp19) (aE (ai ?_))
       obtain rfl:=sI h
       exact au ⟨rfl,_,rfl,(kp4 (kp4 (kp (kp rfl))))⟩
     ·intro e L tm hJ
      rcases u18 with u27 | u28
      ·dsimp only at h hJ
       obtain ⟨rfl,tm0_u27,rfl,rfl⟩:=hJ
       refine ⟨(by intro hc; cases hc),?_⟩
       refine ah (aa ?_)
       obtain rfl:=sI h
       exact aj (.inl rfl) rfl (rVt (v:=.bool u27.1) rfl) (fun W2 hW2 => ⟨rfl,hW2.none⟩)
      ·dsimp only at h hJ
       obtain ⟨rfl,tm0_u28,rfl,rfl⟩:=hJ
       refine ⟨(by intro hc; cases hc),?_⟩
       refine ac (eT (cS (cR (oY rfl (yN 0 [vI p0.fPlaces,.slice Ab p0.fTracks.length cb] eC rfl rfl rfl) (oY rfl (yMI rfl) (oY rfl (yMI rfl) (oY rfl (yMI rfl) ?_)))))))
       obtain ⟨y29,hy30,h⟩:=bOs h
       refine oC [.agg #[vI p0.fPlaces,.slice Ab p0.fTracks.length cb],vI p1,vI p2,vI p3] _ _ _ rfl go_61 rfl (fun W2 hW2 => lz p0 p1 p2 p3 y29 hy30 W2 Ab p0.fTracks.length cb ys0_1 rfl ((RdL.arg hr0_1) W2 hW2) (NestL.at (NestL.arg hN0_1) W2 hW2) W (fun _ => True) (fun W3 hb => ⟨fq hW2.below hb,trivial⟩) ) ?_
       rintro ⟨⟨A33,n35,c34⟩,ys38,F39⟩ ⟨hn36,hP37,hV40⟩
       replace hn36 : n35 = y29.1.length:=hn36; subst hn36
       refine oY rfl (aK rfl) (oY rfl (yE rfl rfl) (oY rfl (yE rfl rfl) (oY rfl (yAS rfl) (oY rfl (yAI rfl) (oN (eT (cS (cS (cR (oY rfl (yMI rfl) (oY rfl (dJ rfl rfl) (oN (eT ?_)))))))))))))
       rcases iOs h with ⟨hp41,h⟩ | ⟨hp41,h⟩
       ·refine cT (vB hp41) (cS (cR ?_))
        obtain ⟨y42,hy43,h⟩:=bOs h
        refine oY rfl (yC [] tC rfl (fun W2 hW2 => cH  y42 hy43 W2 ) rfl) (oY rfl (yAB rfl) (oN (eT (ak (aa ?_)))))
        obtain rfl:=sI h
        exact aj (.inl rfl) rfl (rVt (v:=.bool y42) rfl) (fun W2 hW2 => ⟨rfl,hW2.none⟩)
       ·refine cF (vB hp41) (cK (eT (cS (cR (oY rfl (yN 0 [vI p0.fPlaces,.slice Ab p0.fTracks.length cb] eC rfl rfl rfl) (oY rfl (yMI rfl) (oY rfl (yMI rfl) ?_)))))))
        obtain ⟨y44,hy45,h⟩:=bOs h
        refine oC [.agg #[vI p0.fPlaces,.slice Ab p0.fTracks.length cb],vI p1,vI p3] _ _ _ rfl go_49 rfl (fun W2 hW2 => jE p0 p1 p3 y44 hy45 W2 Ab p0.fTracks.length cb ys0_1 rfl ((RdL.arg hr0_1) W2 hW2) (NestL.at (NestL.arg hN0_1) W2 hW2) W (fun _ => True) (fun W3 hb => ⟨fq hW2.below hb,trivial⟩) ) ?_
        rintro ⟨⟨A48,n50,c49⟩,ys53,F54⟩ ⟨hn51,hP52,hV55⟩
        replace hn51 : n50 = y44.1.fH.length:=hn51; subst hn51
        try dsimp only [lna,lca,lsz,lss]
        refine oY rfl (aK rfl) (oY rfl (yE rfl rfl) (oY rfl (yE rfl rfl) ?_))
        refine aB tw rfl (fun b56 => ?_)
        try dsimp only [lna,lca,lsz,lss]
        refine cL rfl (yS 7 [.slice A48 y44.1.fH.length c49] sz_87 rfl (nB rfl) rfl rfl rfl) (oY rfl (yAI rfl) (oN (eT (cS (cS (cR (oY rfl (yMI rfl) (oY rfl (dJ rfl rfl) (oY rfl (yMB rfl) ?_)))))))))
        obtain ⟨b58,hb59,h⟩:=bOs h
        refine oJ 9 (fun tm0 => (upd (upd (upd (upd (upd (upd (upd (upd (upd (upd (upd tm0 1 (vI p1)) 2 (vI p2)) 3 (vI p3)) 5 (.slice A5_0 p5.length c5_0)) 7 (.int .u8 p7)) 8 (.pointer (some ⟨b1,0,none⟩))) 12 (.pointer (some ⟨b2,0,none⟩))) 14 (.pointer (some ⟨b3,0,none⟩))) 16 (.bool u28.1)) 18 (.slice A33 y29.1.length c34)) 88 (.bool b58))) (fun tm0 => ?_) (fun key => ?_)
        ·refine oN (eT ?_)
         rcases iOs h with ⟨hp60,h⟩ | ⟨hp60,h⟩
         ·refine cT (vB hp60) (cS (cR (oY rfl (yAB rfl) (oN (eT (ak (aa ?_)))))))
          obtain rfl:=sI h
          exact aj (.inl rfl) rfl (rVt (v:=.bool false) rfl) (fun W2 hW2 => ⟨rfl,hW2.none⟩)
         ·refine cF (vB hp60) (cK (eT (cS (cR (oY rfl (yN 0 [vI p0.fPlaces,.slice Ab p0.fTracks.length cb] eC rfl rfl rfl) (oY rfl (yMI rfl) (oY rfl (yMI rfl) (oY rfl (yMI rfl) (oY rfl (yN 1 [.slice A4_0 p4.fLegs.length c4_0,vI p4.fA,vI p4.fToll] jB rfl rfl rfl) ?_)))))))))
          obtain ⟨y61,hy62,h⟩:=bOs h
          refine oY rfl (yC [.agg #[vI p0.fPlaces,.slice Ab p0.fTracks.length cb],vI p1,vI p2,vI p3,.agg #[.slice A4_0 p4.fLegs.length c4_0,vI p4.fA,vI p4.fToll]] go_51 rfl (fun W2 hW2 => kD p0 p1 p2 p3 p4 y61 hy62 W2 Ab p0.fTracks.length cb ys0_1 rfl ((RdL.arg hr0_1) W2 hW2) (NestL.at (NestL.arg hN0_1) W2 hW2) A4_0 p4.fLegs.length c4_0 rfl ((RdL.arg hr4_0) W2 hW2)) rfl) (oY rfl (dc rfl rfl) (oY rfl (yAB rfl) (oN (eT (cS (cS (cR (oY rfl (yMB rfl) (oY rfl (yMB rfl) ?_)))))))))
          obtain ⟨b64,hb65,h⟩:=bOs h
          refine oJ 21 (fun tm0 => (upd (upd (upd (upd (upd (upd (upd (upd tm0 1 (vI p1)) 2 (vI p2)) 3 (vI p3)) 7 (.int .u8 p7)) 8 (.pointer (some ⟨b1,0,none⟩))) 16 (.bool u28.1)) 18 (.slice A33 y29.1.length c34)) 118 (.bool b64))) (fun tm0 => ?_) (fun key => ?_)
          ·refine oN (eT ?_)
           rcases iOs h with ⟨hp66,h⟩ | ⟨hp66,h⟩
           ·refine cT (vB hp66) (cS (cR (oY rfl (yAB rfl) (oN (eT (ak (aa ?_)))))))
            obtain rfl:=sI h
            exact aj (.inl rfl) rfl (rVt (v:=.bool false) rfl) (fun W2 hW2 => ⟨rfl,hW2.none⟩)
           ·refine cF (vB hp66) (cK (eT (cS (cR (oY rfl (yN 0 [vI p0.fPlaces,.slice Ab p0.fTracks.length cb] eC rfl rfl rfl) (oY rfl (yMI rfl) (oY rfl (yMI rfl) (oY rfl (yMI rfl) (oY rfl (yMI rfl) (oY rfl (sL ui_5 ui_3 rfl) ?_))))))))))
            refine oY rfl (y_rem (by decide) rfl rfl) ?_
            obtain ⟨y67,hy68,h⟩:=bOs h
            refine oC [.agg #[vI p0.fPlaces,.slice Ab p0.fTracks.length cb],vI p1,vI p2,vI p3,vI (Int.tmod (w64 p7) 61)] _ _ _ rfl go_18 rfl (fun W2 hW2 => kf p0 p1 p2 p3 (Int.tmod (w64 p7) 61) y67 hy68 W2 Ab p0.fTracks.length cb ys0_1 rfl ((RdL.arg hr0_1) W2 hW2) (NestL.at (NestL.arg hN0_1) W2 hW2) W (fun _ => True) (fun W3 hb => ⟨fq hW2.below hb,trivial⟩) ) ?_
            rintro ⟨⟨A71,n73,c72⟩,F75⟩ ⟨hn74,hV76⟩
            replace hn74 : n73 = y67.1.fLegs.length:=hn74; subst hn74
            try dsimp only [lna,lca,lsz,lss]
            refine oY rfl (aK rfl) (oY rfl (yE rfl rfl) (oY rfl (yE rfl rfl) ?_))
            refine aB jN rfl (fun b77 => ?_)
            try dsimp only [lna,lca,lsz,lss]
            refine cL rfl (yS 9 [.slice A71 y67.1.fLegs.length c72,vI y67.1.fA,vI y67.1.fToll] k9 rfl (nB rfl) rfl rfl rfl) (oY rfl (yAI rfl) (oN (eT (cS (cS (cR (oY rfl (yMI rfl) (oY rfl (dc rfl rfl) (oN (eT ?_))))))))))
            rcases iOs h with ⟨hp78,h⟩ | ⟨hp78,h⟩
            ·refine cT (vB hp78) (cS (cR ?_))
             obtain ⟨y79,hy80,h⟩:=bOs h
             refine oY rfl (yC [] tC rfl (fun W2 hW2 => cH  y79 hy80 W2 ) rfl) (oY rfl (yAB rfl) (oN (eT (ak (aa ?_)))))
             obtain rfl:=sI h
             exact aj (.inl rfl) rfl (rVt (v:=.bool y79) rfl) (fun W2 hW2 => ⟨rfl,hW2.none⟩)
            ·refine cF (vB hp78) (cK (eT (cS (cR (oY rfl (yAB rfl) (oN (eT (cS (cS (cR (oY rfl (yAI rfl) (oN (eT (cB ?_))))))))))))))
             obtain ⟨u83,hl93,h⟩:=bOs h
             refine bq (fun (s:(Bool × Int)) L tm => ∃ (tm0:Nat → Value),L = [ag b1 24 [vI p0.fPlaces,.slice Ab p0.fTracks.length cb],ag b2 29 [.slice A4_0 p4.fLegs.length c4_0,vI p4.fA,vI p4.fToll],ag b3 87 [.slice A6_0 p6.fH.length c6_0],aT A33 c34 29 3 y29.1.length (encL TJourney_cells2 ys38),F39,aT A48 c49 42 1 y44.1.fH.length (encL SlInt_cells2 ys53),F54,ag b56 87 [.slice A48 y44.1.fH.length c49],F75,ag b77 29 [.slice A71 y67.1.fLegs.length c72,vI y67.1.fA,vI y67.1.fToll]] ∧ tm = (upd (upd (upd (upd (upd (upd tm0 16 (.bool u28.1)) 18 (.slice A33 y29.1.length c34)) 23 (.pointer (some ⟨b77,0,none⟩))) 24 (vI y67.2)) 25 (.bool s.1)) 26 (vI s.2))) 2 hl93 ⟨_,rfl,(kp4 (kp (kp rfl)))⟩ ?_ ?_
             ·rintro s82 L tm st ⟨tm0_s82,rfl,rfl⟩ h
              unfold bY at h
              refine cS (cS (cR (oY rfl (yMI rfl) (oY rfl (yMS rfl) (oY rfl (bl (us:=[]) kN rfl) (oY rfl (bo rfl rfl) (oN (eT ?_))))))))
              rcases iOs h with ⟨hp84,h⟩ | ⟨hp84,h⟩
              ·refine cT (vB hp84) (cK (eT (cS (cB ?_))))
               refine bv 22 dm (by kernel_rfl) (by kernel_rfl) ?_
               refine qY rfl (yMB rfl) (qY rfl (yMB rfl) ?_)
               obtain ⟨b86,hb87,h⟩:=bOs h
               refine qJ 19 (fun tm0 => (upd (upd (upd (upd (upd (upd (upd (upd tm0 16 (.bool u28.1)) 18 (.slice A33 y29.1.length c34)) 23 (.pointer (some ⟨b77,0,none⟩))) 24 (vI y67.2)) 25 (.bool s82.1)) 26 (vI s82.2)) 136 (.bool (decide (s82.2 < (y29.1.length:Int))))) 159 (.bool b86))) (fun tm0 => ?_) (fun key => ?_)
               ·refine qY rfl (yAB rfl) (cN (oN (ay (eT (cR (oY rfl (yMI rfl) (oY rfl (aY rfl rfl) (oY rfl (yAI rfl) (oN ?_)))))))))
                obtain rfl:=sI h
                exact eN ⟨_,rfl,(kp4 (kp (kp rfl)))⟩
               ·clear h; rcases iOs hb87 with ⟨hp85,h⟩ | ⟨hp85,h⟩
                ·refine ar (sF rfl rfl rfl rfl hp85) (ar (sF rfl rfl rfl rfl hp85) (ar (sF rfl rfl rfl rfl hp85) (ar (sF rfl rfl rfl rfl hp85) (ar (sF rfl rfl rfl rfl hp85) (ar (sF rfl rfl rfl rfl hp85) (ar (sF rfl rfl rfl rfl hp85) (ar (sF rfl rfl rfl rfl hp85) (ar (sF rfl rfl rfl rfl hp85) (ar rfl (ar rfl (ar rfl (ar rfl (ar rfl (ar rfl (ar rfl (ar rfl (ar (sF rfl rfl rfl rfl hp85) (qY rfl (ad (vB hp85) rfl) ?_))))))))))))))))))
                 obtain rfl:=sI h
                 exact key _ _ (kp4 (kp4 rfl))
                ·refine qY (sT rfl rfl rfl rfl hp85) (yMS rfl) (qY (sT rfl rfl rfl rfl hp85) (yMI rfl) ?_)
                 obtain ⟨hg88,h⟩:=gOs h
                 refine qY (sT rfl rfl rfl rfl hp85) (yI iW (by decide) hg88.1 hg88.2 (RdL.row 3 rfl) (eL ap (NestP.hn hP37 rfl)) rfl rfl) ?_
                 refine qY (sT rfl rfl rfl rfl hp85) (yFR (A:=A33) (j:=(Int.toNat s82.2 * 3)) ik rfl) (qY (sT rfl rfl rfl rfl hp85) (yR (A:=A33) (j:=((Int.toNat s82.2 * 3) + 2)) (v:=vI ((rdL y29.1 s82.2).fToll)) aX (RdL.row 3 rfl) rfl (eG ap hg88.1 (aq hg88.2 (NestP.hn hP37 rfl)) (congrArg (fun z : TJ => some (Value.int .i64 z.fToll)) (NestP.snd hP37 s82.2)))) (qY (sT rfl rfl rfl rfl hp85) (yFA ik rfl) (qY (sT rfl rfl rfl rfl hp85) (yL 9 aX rfl rfl rfl) (qY (sT rfl rfl rfl rfl hp85) (dc rfl rfl) (qY (sT rfl rfl rfl rfl hp85) (yMB rfl) ?_)))))
                 obtain ⟨b90,hb91,h⟩:=bOs h
                 refine qJ 9 (fun tm0 => (upd (upd (upd (upd (upd (upd (upd (upd (upd tm0 16 (.bool u28.1)) 18 (.slice A33 y29.1.length c34)) 23 (.pointer (some ⟨b77,0,none⟩))) 24 (vI y67.2)) 25 (.bool s82.1)) 26 (vI s82.2)) 136 (.bool (decide (s82.2 < (y29.1.length:Int))))) 140 (.bool s82.1)) 158 (.bool b90))) (fun tm0 => ?_) (fun key => ?_)
                 ·refine qY rfl (ae (vB hp85) rfl) ?_
                  obtain rfl:=sI h
                  exact key _ _ (kp4 (kp4 rfl))
                 ·clear h; rcases iOs hb91 with ⟨hp89,h⟩ | ⟨hp89,h⟩
                  ·refine qY (sT rfl rfl rfl rfl hp89) (yMS rfl) (qY (sT rfl rfl rfl rfl hp89) (yMI rfl) ?_)
                   obtain ⟨hg92,h⟩:=gOs h
                   refine qY (sT rfl rfl rfl rfl hp89) (yI iW (by decide) hg92.1 hg92.2 (RdL.row 3 rfl) (eL ap (NestP.hn hP37 rfl)) rfl rfl) ?_
                   refine qY (sT rfl rfl rfl rfl hp89) (yFR (A:=A33) (j:=(Int.toNat s82.2 * 3)) gh rfl) (qY (sT rfl rfl rfl rfl hp89) (yR (A:=A33) (j:=((Int.toNat s82.2 * 3) + 1)) (v:=vI ((rdL y29.1 s82.2).fA)) aX (RdL.row 3 rfl) rfl (eG ap hg92.1 (aq hg92.2 (NestP.hn hP37 rfl)) (congrArg (fun z : TJ => some (Value.int .i64 z.fA)) (NestP.snd hP37 s82.2)))) (qY (sT rfl rfl rfl rfl hp89) (yFA gh rfl) (qY (sT rfl rfl rfl rfl hp89) (yL 9 aX rfl rfl rfl) (qY (sT rfl rfl rfl rfl hp89) (dc rfl rfl) (qY (sT rfl rfl rfl rfl hp85) (ad (vB hp89) rfl) ?_)))))
                   obtain rfl:=sI h
                   exact key _ _ (kp4 (kp4 (kp rfl)))
                  ·refine ar (sF rfl rfl rfl rfl hp89) (ar (sF rfl rfl rfl rfl hp89) (ar (sF rfl rfl rfl rfl hp89) (ar (sF rfl rfl rfl rfl hp89) (ar (sF rfl rfl rfl rfl hp89) (ar (sF rfl rfl rfl rfl hp89) (ar (sF rfl rfl rfl rfl hp89) (ar (sF rfl rfl rfl rfl hp89) (qY (sT rfl rfl rfl rfl hp85) (ae (vB hp89) rfl) ?_))))))))
                   obtain rfl:=sI h
                   exact key _ _ (kp4 (kp4 (kp rfl)))
              ·refine cF (vB hp84) (aE (ai ?_))
               obtain rfl:=sI h
               exact au ⟨rfl,_,rfl,(kp4 (kp (kp rfl)))⟩
             ·intro e L tm hJ
              obtain ⟨rfl,tm0_u83,rfl,rfl⟩:=hJ
              refine ⟨(by intro hc; cases hc),?_⟩
              refine ac (eT (cS (cR ?_)))
              obtain ⟨y94,hy95,h⟩:=bOs h
              refine oY rfl (yC [] tC rfl (fun W2 hW2 => cH  y94 hy95 W2 ) rfl) (oY rfl (yMB rfl) ?_)
              refine oJ 3 (fun tm0 => (upd (upd (upd tm0 16 (.bool u28.1)) 25 (.bool u83.1)) 164 (.bool (y94 && (y67.2 == 0))))) (fun tm0 => ?_) (fun key => ?_)
              ·refine oY rfl (yMB rfl) ?_
               refine oJ 2 (fun tm0 => (upd (upd tm0 16 (.bool u28.1)) 167 (.bool ((y94 && (y67.2 == 0)) && u83.1)))) (fun tm0 => ?_) (fun key => ?_)
               ·refine oY rfl (yAB rfl) (oN (eT (ak ?_)))
                obtain rfl:=sI h
                exact aj (.inl rfl) rfl (rVt (v:=.bool ((y94 && (y67.2 == 0)) && u83.1)) rfl) (fun W2 hW2 => ⟨rfl,hW2.none⟩)
               ·rcases ao (y94 && (y67.2 == 0)) with hp97 | hp97
                ·refine oY (sT rfl rfl rfl rfl hp97) (yMB rfl) (oY rfl (ad (vB hp97) rfl) ?_)
                 exact key _ _ (keep (keep rfl rfl) (vB (hQ hp97)))
                ·refine oSk (sF rfl rfl rfl rfl hp97) (oY rfl (ae (vB hp97) rfl) ?_)
                 exact key _ _ (keep (keep rfl rfl) (vB (iw hp97)))
              ·rcases ao y94 with hp96 | hp96
               ·refine oY (sT rfl rfl rfl rfl hp96) (yMI rfl) (oY (sT rfl rfl rfl rfl hp96) (dc rfl rfl) (oY rfl (ad (vB hp96) rfl) ?_))
                exact key _ _ (keep (keep (keep rfl rfl) rfl) (vB (hQ hp96)))
               ·refine oSk (sF rfl rfl rfl rfl hp96) (oSk (sF rfl rfl rfl rfl hp96) (oY rfl (ae (vB hp96) rfl) ?_))
                exact key _ _ (keep (keep (keep rfl rfl) rfl) (vB (iw hp96)))
          ·clear h; rcases iOs hb65 with ⟨hp63,h⟩ | ⟨hp63,h⟩
           ·refine oY (sT rfl rfl rfl rfl hp63) (yMS rfl) (oY (sT rfl rfl rfl rfl hp63) (yN 1 [.slice A4_0 p4.fLegs.length c4_0,vI p4.fA,vI p4.fToll] jB rfl rfl rfl) ?_)
            obtain ⟨y98,hy99,h⟩:=bOs h
            refine oY (sT rfl rfl rfl rfl hp63) (yC [.slice A33 y29.1.length c34,.agg #[.slice A4_0 p4.fLegs.length c4_0,vI p4.fA,vI p4.fToll]] go_66 rfl (fun W2 hW2 => g8 y29.1 p4 y98 hy99 W2 A33 y29.1.length c34 ys38 rfl ((RdL.row 3 rfl) W2 hW2) (NestL.at (PvL.nestL hP37 hV40 (fun W2 hW2 => ⟨hW2.below,trivial,hW2.mem (i:=4) rfl⟩)) W2 hW2) A4_0 p4.fLegs.length c4_0 rfl ((RdL.arg hr4_0) W2 hW2)) rfl) (oY (sT rfl rfl rfl rfl hp63) (bH rfl) (oY (sT rfl rfl rfl rfl hp63) (yMB rfl) ?_))
            obtain ⟨b101,hb102,h⟩:=bOs h
            refine oJ 15 (fun tm0 => (upd (upd (upd (upd (upd (upd (upd (upd (upd tm0 1 (vI p1)) 2 (vI p2)) 3 (vI p3)) 7 (.int .u8 p7)) 8 (.pointer (some ⟨b1,0,none⟩))) 16 (.bool u28.1)) 18 (.slice A33 y29.1.length c34)) 97 (.bool (y61 == 0))) 117 (.bool b101))) (fun tm0 => ?_) (fun key => ?_)
            ·refine oY rfl (ad (vB hp63) rfl) ?_
             obtain rfl:=sI h
             exact key _ _ (kp4 (kp4 rfl))
            ·clear h; rcases iOs hb102 with ⟨hp100,h⟩ | ⟨hp100,h⟩
             ·refine oSk (sF rfl rfl rfl rfl hp100) (oSk (sF rfl rfl rfl rfl hp100) (oSk (sF rfl rfl rfl rfl hp100) (oSk (sF rfl rfl rfl rfl hp100) (oSk (sF rfl rfl rfl rfl hp100) (oSk (sF rfl rfl rfl rfl hp100) (oSk (sF rfl rfl rfl rfl hp100) (oSk (sF rfl rfl rfl rfl hp100) (oSk (sF rfl rfl rfl rfl hp100) (oSk rfl (oSk rfl (oSk rfl (oSk rfl (oSk (sF rfl rfl rfl rfl hp100) (oY (sT rfl rfl rfl rfl hp63) (ad (vB hp100) rfl) ?_))))))))))))))
              obtain rfl:=sI h
              exact key _ _ (kp4 (kp4 (kp rfl)))
             ·refine oY (sT rfl rfl rfl rfl hp100) (yN 0 [vI p0.fPlaces,.slice Ab p0.fTracks.length cb] eC rfl rfl rfl) (oY (sT rfl rfl rfl rfl hp100) (yMI rfl) (oY (sT rfl rfl rfl rfl hp100) (yMI rfl) (oY (sT rfl rfl rfl rfl hp100) (yMI rfl) (oY (sT rfl rfl rfl rfl hp100) (yMS rfl) (oY (sT rfl rfl rfl rfl hp100) (yN 2 [.slice A6_0 p6.fH.length c6_0] qB rfl rfl rfl) ?_)))))
              obtain ⟨y103,hy104,h⟩:=bOs h
              refine oY (sT rfl rfl rfl rfl hp100) (yC [.agg #[vI p0.fPlaces,.slice Ab p0.fTracks.length cb],vI p1,vI p2,vI p3,.slice A5_0 p5.length c5_0,.agg #[.slice A6_0 p6.fH.length c6_0]] go_64 rfl (fun W2 hW2 => iE p0 p1 p2 p3 p5 p6 y103 hy104 W2 Ab p0.fTracks.length cb ys0_1 rfl ((RdL.arg hr0_1) W2 hW2) (NestL.at (NestL.arg hN0_1) W2 hW2) A5_0 p5.length c5_0 ys5_0 rfl ((RdL.arg hr5_0) W2 hW2) (NestL.at (NestL.arg hN5_0) W2 hW2) A6_0 p6.fH.length c6_0 ys6_0 rfl ((RdL.arg hr6_0) W2 hW2) (NestL.at (NestL.arg hN6_0) W2 hW2)) rfl) (oY (sT rfl rfl rfl rfl hp100) (dc rfl rfl) (oY (sT rfl rfl rfl rfl hp100) (yMB rfl) ?_))
              obtain ⟨b106,hb107,h⟩:=bOs h
              refine oJ 5 (fun tm0 => (upd (upd (upd (upd (upd (upd (upd (upd (upd (upd tm0 1 (vI p1)) 2 (vI p2)) 3 (vI p3)) 7 (.int .u8 p7)) 8 (.pointer (some ⟨b1,0,none⟩))) 16 (.bool u28.1)) 18 (.slice A33 y29.1.length c34)) 97 (.bool (y61 == 0))) 102 (.bool (!y98))) 116 (.bool b106))) (fun tm0 => ?_) (fun key => ?_)
              ·refine oY (sT rfl rfl rfl rfl hp63) (ae (vB hp100) rfl) ?_
               obtain rfl:=sI h
               exact key _ _ (kp4 (kp4 (kp rfl)))
              ·clear h; rcases iOs hb107 with ⟨hp105,h⟩ | ⟨hp105,h⟩
               ·refine oY (sT rfl rfl rfl rfl hp105) (yMS rfl) (oY (sT rfl rfl rfl rfl hp105) (yN 1 [.slice A4_0 p4.fLegs.length c4_0,vI p4.fA,vI p4.fToll] jB rfl rfl rfl) ?_)
                obtain ⟨y108,hy109,h⟩:=bOs h
                refine oY (sT rfl rfl rfl rfl hp105) (yC [.slice A5_0 p5.length c5_0,.agg #[.slice A4_0 p4.fLegs.length c4_0,vI p4.fA,vI p4.fToll]] go_66 rfl (fun W2 hW2 => g8 p5 p4 y108 hy109 W2 A5_0 p5.length c5_0 ys5_0 rfl ((RdL.arg hr5_0) W2 hW2) (NestL.at (NestL.arg hN5_0) W2 hW2) A4_0 p4.fLegs.length c4_0 rfl ((RdL.arg hr4_0) W2 hW2)) rfl) (oY (sT rfl rfl rfl rfl hp105) (bH rfl) (oY (sT rfl rfl rfl rfl hp100) (ad (vB hp105) rfl) ?_))
                obtain rfl:=sI h
                exact key _ _ (kp4 (kp4 (kp (kp rfl))))
               ·refine oSk (sF rfl rfl rfl rfl hp105) (oSk (sF rfl rfl rfl rfl hp105) (oSk (sF rfl rfl rfl rfl hp105) (oSk (sF rfl rfl rfl rfl hp105) (oY (sT rfl rfl rfl rfl hp100) (ae (vB hp105) rfl) ?_))))
                obtain rfl:=sI h
                exact key _ _ (kp4 (kp4 (kp (kp rfl))))
           ·refine oSk (sF rfl rfl rfl rfl hp63) (oSk (sF rfl rfl rfl rfl hp63) (oSk (sF rfl rfl rfl rfl hp63) (oSk (sF rfl rfl rfl rfl hp63) (oSk (sF rfl rfl rfl rfl hp63) (oSk rfl (oSk rfl (oSk rfl (oSk rfl (oSk rfl (oSk rfl (oSk rfl (oSk rfl (oSk rfl (oSk rfl (oSk rfl (oSk rfl (oSk rfl (oSk rfl (oSk (sF rfl rfl rfl rfl hp63) (oY rfl (ae (vB hp63) rfl) ?_))))))))))))))))))))
            obtain rfl:=sI h
            exact key _ _ (kp4 (kp4 rfl))
        ·clear h; rcases iOs hb59 with ⟨hp57,h⟩ | ⟨hp57,h⟩
         ·refine oSk (sF rfl rfl rfl rfl hp57) (oSk (sF rfl rfl rfl rfl hp57) (oSk (sF rfl rfl rfl rfl hp57) (oSk (sF rfl rfl rfl rfl hp57) (oSk (sF rfl rfl rfl rfl hp57) (oSk (sF rfl rfl rfl rfl hp57) (oSk (sF rfl rfl rfl rfl hp57) (oSk (sF rfl rfl rfl rfl hp57) (oY rfl (ad (vB hp57) rfl) ?_))))))))
          obtain rfl:=sI h
          exact key _ _ (kp4 (kp4 (kp (kp (kp rfl)))))
         ·refine oY (sT rfl rfl rfl rfl hp57) (yN 0 [vI p0.fPlaces,.slice Ab p0.fTracks.length cb] eC rfl rfl rfl) (oY (sT rfl rfl rfl rfl hp57) (yMI rfl) (oY (sT rfl rfl rfl rfl hp57) (yMI rfl) (oY (sT rfl rfl rfl rfl hp57) (yMI rfl) (oY (sT rfl rfl rfl rfl hp57) (yMS rfl) (oY (sT rfl rfl rfl rfl hp57) (yN 7 [.slice A48 y44.1.fH.length c49] qB rfl rfl rfl) ?_)))))
          obtain ⟨y110,hy111,h⟩:=bOs h
          refine oY (sT rfl rfl rfl rfl hp57) (yC [.agg #[vI p0.fPlaces,.slice Ab p0.fTracks.length cb],vI p1,vI p2,vI p3,.slice A33 y29.1.length c34,.agg #[.slice A48 y44.1.fH.length c49]] go_64 rfl (fun W2 hW2 => iE p0 p1 p2 p3 y29.1 y44.1 y110 hy111 W2 Ab p0.fTracks.length cb ys0_1 rfl ((RdL.arg hr0_1) W2 hW2) (NestL.at (NestL.arg hN0_1) W2 hW2) A33 y29.1.length c34 ys38 rfl ((RdL.row 3 rfl) W2 hW2) (NestL.at (PvL.nestL hP37 hV40 (fun W2 hW2 => ⟨hW2.below,trivial,hW2.mem (i:=4) rfl⟩)) W2 hW2) A48 y44.1.fH.length c49 ys53 rfl ((RdL.row 5 rfl) W2 hW2) (NestL.at (PvL.nestL hP52 hV55 (fun W2 hW2 => ⟨hW2.below,trivial,hW2.mem (i:=6) rfl⟩)) W2 hW2)) rfl) (oY (sT rfl rfl rfl rfl hp57) (dJ rfl rfl) (oY rfl (ae (vB hp57) rfl) ?_))
          obtain rfl:=sI h
          exact key _ _ (kp4 (kp4 (kp (kp (kp rfl)))))
   ·rcases ao b10 with hp12 | hp12
    ·refine oSk (sF rfl rfl rfl rfl hp12) (oSk (sF rfl rfl rfl rfl hp12) (oSk (sF rfl rfl rfl rfl hp12) (oY rfl (ad (vB hp12) rfl) ?_)))
     exact key _ _ (keep (keep (keep (keep (keep (keep (keep (keep (keep (keep rfl rfl) rfl) rfl) rfl) rfl) rfl) rfl) rfl) rfl) (vB (jF hp12)))
    ·refine oY (sT rfl rfl rfl rfl hp12) (yMS rfl) (oY (sT rfl rfl rfl rfl hp12) (bl (us:=[]) kN rfl) (oY (sT rfl rfl rfl rfl hp12) (gG rfl rfl) (oY rfl (ae (vB hp12) rfl) ?_)))
     exact key _ _ (keep (keep (keep (keep (keep (keep (keep (keep (keep (keep rfl rfl) rfl) rfl) rfl) rfl) rfl) rfl) rfl) rfl) (vB (jI hp12)))
  ·clear h; rcases iOs hb11 with ⟨hp9,h⟩ | ⟨hp9,h⟩
   ·refine oSk (sF rfl rfl rfl rfl hp9) (oSk (sF rfl rfl rfl rfl hp9) (oSk (sF rfl rfl rfl rfl hp9) (oY rfl (ad (vB hp9) rfl) ?_)))
    obtain rfl:=sI h
    exact key _ _ (kp4 (kp4 (kp (kp rfl))))
   ·refine oY (sT rfl rfl rfl rfl hp9) (yN 2 [.slice A6_0 p6.fH.length c6_0] qB rfl rfl rfl) ?_
    obtain ⟨y112,hy113,h⟩:=bOs h
    refine oY (sT rfl rfl rfl rfl hp9) (yC [.agg #[.slice A6_0 p6.fH.length c6_0]] go_48 rfl (fun W2 hW2 => mn p6 y112 hy113 W2 A6_0 p6.fH.length c6_0 ys6_0 rfl ((RdL.arg hr6_0) W2 hW2) (NestL.at (NestL.arg hN6_0) W2 hW2)) rfl) (oY (sT rfl rfl rfl rfl hp9) (bH rfl) (oY rfl (ae (vB hp9) rfl) ?_))
    obtain rfl:=sI h
    exact key _ _ (kp4 (kp4 (kp (kp rfl))))
 ·clear h; rcases iOs hb8 with ⟨hp6,h⟩ | ⟨hp6,h⟩
  ·refine oSk (sF rfl rfl rfl rfl hp6) (oSk (sF rfl rfl rfl rfl hp6) (oSk (sF rfl rfl rfl rfl hp6) (oY rfl (ad (vB hp6) rfl) ?_)))
   obtain rfl:=sI h
   exact key _ _ (kp4 (kp4 (kp (kp rfl))))
  ·refine oY (sT rfl rfl rfl rfl hp6) (yN 1 [.slice A4_0 p4.fLegs.length c4_0,vI p4.fA,vI p4.fToll] jB rfl rfl rfl) ?_
   obtain ⟨y114,hy115,h⟩:=bOs h
   refine oY (sT rfl rfl rfl rfl hp6) (yC [.agg #[.slice A4_0 p4.fLegs.length c4_0,vI p4.fA,vI p4.fToll]] go_47 rfl (fun W2 hW2 => iI p4 y114 hy115 W2 A4_0 p4.fLegs.length c4_0 rfl ((RdL.arg hr4_0) W2 hW2)) rfl) (oY (sT rfl rfl rfl rfl hp6) (bH rfl) (oY rfl (ae (vB hp6) rfl) ?_))
   obtain rfl:=sI h
   exact key _ _ (kp4 (kp4 (kp (kp rfl))))
end Go.Proofs.YthndghnkebboaaaGreat
