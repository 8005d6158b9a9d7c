import Derived.Test.YthndghnkebboaaaGreatF
import Derived.Test.YthndghnkebboaaaGreatGy
import Derived.Test.YthndghnkebboaaaGreatC2
import Derived.Test.YthndghnkebboaaaGreatC4
import Derived.Test.YthndghnkebboaaaGreatC6
import Derived.Test.YthndghnkebboaaaGreatGF
set_option maxHeartbeats 4000000
set_option maxRecDepth 100000
set_option linter.unusedVariables false
namespace Go.Proofs.YthndghnkebboaaaGreat
open Go.RowKit (Below)
attribute [local irreducible] OX QX CX EX OpY Calls CallsIn
theorem iJ  (res:Bool) (h:dT = some res) (W:World)  :
  Calls Tryz.prog 17 [].toArray W fun e W2 => e = .returned (.bool res) ∧ Ext W W2 []:=by
 unfold dT at h
 refine ae (m:=261) Tryz.func17 rfl rfl (nB rfl) (cS (cR (oY rfl (yAB rfl) (oN (eT (cS (cR ?_)))))))
 obtain ⟨y1,hy2,h⟩:=bOs h
 refine oC [] _ _ _ rfl go_67 rfl (fun W2 hW2 => lK  y1 hy2 W2 W (fun _ => True) (fun W3 hb => ⟨fV hW2.below hb,trivial⟩) ) ?_
 rintro ⟨⟨A5,n7,c6⟩,ys10,F11⟩ ⟨hn8,hP9,hV12⟩
 replace hn8 : n7 = y1.fTracks.length:=hn8; subst hn8
 refine aE ry rfl (fun b13 => ?_)
 refine cr rfl (yS 2 [vI y1.fPlaces,.slice A5 y1.fTracks.length c6] sz_24 rfl (nB rfl) rfl rfl rfl) (oN (eT (cS (cR ?_))))
 obtain ⟨y14,hy15,h⟩:=bOs h
 refine oC [] _ _ _ rfl go_68 rfl (fun W2 hW2 => lX  y14 hy15 W2 ) ?_
 rintro ⟨⟨A16,n20,c17⟩,⟨A18,n22,c19⟩⟩ ⟨hn21,hn23⟩
 replace hn21 : n20 = y14.fB.length:=hn21; subst hn21
 replace hn23 : n22 = y14.fR.length:=hn23; subst hn23
 refine aE q9 rfl (fun b24 => ?_)
 try dsimp only [lna,lca,lsz,lss]
 refine cr rfl (yS 5 [.slice A16 y14.fB.length c17,.slice A18 y14.fR.length c19] sz_53 rfl (nB rfl) rfl rfl rfl) (oN (eT (cS (cR (oY rfl (yFA cq rfl) (oY rfl (yL 2 gG rfl rfl rfl) ?_))))))
 obtain ⟨hg25,h⟩:=gOs h
 refine oY rfl (yI jP (by decide) hg25.1 hg25.2 (RdL.row 0 rfl) (eL au (NestP.hn hP9 rfl)) rfl rfl) ?_
 refine oY rfl (yM (A:=A5) (j:=(Int.toNat 1 * 6)) [vI ((rdL y1.fTracks 1).fID),vI ((rdL y1.fTracks 1).fFrom),vI ((rdL y1.fTracks 1).fTo),vI ((rdL y1.fTracks 1).fLong),vI ((rdL y1.fTracks 1).fToll),.slice ((rdL ys10 1).1.1) ((rdL y1.fTracks 1).fK.length) ((rdL ys10 1).1.2.2)] i8 (Nat.succ_pos _) (RdL.row 0 rfl) rfl (kw (cx (NestP.snd hP9 1) (NestP.len hP9 hg25.1 (ah hg25.2 rfl))).symm (bl au hg25.1 (ah hg25.2 (NestP.hn hP9 rfl))))) ?_
 obtain ⟨y26,hy27,h⟩:=bOs h
 refine oY rfl (yC [.agg #[vI ((rdL y1.fTracks 1).fID),vI ((rdL y1.fTracks 1).fFrom),vI ((rdL y1.fTracks 1).fTo),vI ((rdL y1.fTracks 1).fLong),vI ((rdL y1.fTracks 1).fToll),.slice ((rdL ys10 1).1.1) ((rdL y1.fTracks 1).fK.length) ((rdL ys10 1).1.2.2)],vI 8] go_69 rfl (fun W2 hW2 => pF (TT.mk ((rdL y1.fTracks 1).fID) ((rdL y1.fTracks 1).fFrom) ((rdL y1.fTracks 1).fTo) ((rdL y1.fTracks 1).fLong) ((rdL y1.fTracks 1).fToll) ((rdL y1.fTracks 1).fK)) 8 y26 hy27 W2 ((rdL ys10 1).1.1) ((rdL y1.fTracks 1).fK.length) ((rdL ys10 1).1.2.2) rfl ((NestL.rd (PvL.nestL hP9 hV12 (fun W2 hW2 => ⟨hW2.below,trivial,hW2.mem (i:=1) rfl⟩)) hg25.1 (ah hg25.2 rfl)) W2 hW2)) rfl) (oY rfl (aN rfl) (oY rfl (yE rfl rfl) (oY rfl (yE rfl rfl) (oY rfl (yAI rfl) (oY rfl (yAI rfl) (oN (eT (cS (cR (oY rfl (yN 2 [vI y1.fPlaces,.slice A5 y1.fTracks.length c6] dM rfl rfl rfl) ?_))))))))))
 obtain ⟨y28,hy29,h⟩:=bOs h
 refine oC [.agg #[vI y1.fPlaces,.slice A5 y1.fTracks.length c6],vI 0,vI 4] _ _ _ rfl go_49 rfl (fun W2 hW2 => mV y1 0 4 y28 hy29 W2 A5 y1.fTracks.length c6 ys10 rfl ((RdL.row 0 rfl) W2 hW2) (NestL.at (PvL.nestL hP9 hV12 (fun W2 hW2 => ⟨hW2.below,trivial,hW2.mem (i:=1) rfl⟩)) W2 hW2) W (fun _ => True) (fun W3 hb => ⟨fV hW2.below hb,trivial⟩) ) ?_
 rintro ⟨⟨A32,n34,c33⟩,ys37,F38⟩ ⟨hn35,hP36,hV39⟩
 replace hn35 : n34 = y28.1.fH.length:=hn35; subst hn35
 try dsimp only [lna,lca,lsz,lss]
 refine oY rfl (aN rfl) (oY rfl (yE rfl rfl) (oY rfl (yE rfl rfl) ?_))
 refine aE ze_87 rfl (fun b40 => ?_)
 try dsimp only [lna,lca,lsz,lss]
 refine cr rfl (yS 8 [.slice A32 y28.1.fH.length c33] sz_87 rfl (nB rfl) rfl rfl rfl) (oY rfl (yAI rfl) (oN (eT (cS (cR (oY rfl (yN 2 [vI y1.fPlaces,.slice A5 y1.fTracks.length c6] dM rfl rfl rfl) ?_))))))
 obtain ⟨y41,hy42,h⟩:=bOs h
 refine oC [.agg #[vI y1.fPlaces,.slice A5 y1.fTracks.length c6],vI 0,vI 2,vI 4] _ _ _ rfl go_61 rfl (fun W2 hW2 => pM y1 0 2 4 y41 hy42 W2 A5 y1.fTracks.length c6 ys10 rfl ((RdL.row 0 rfl) W2 hW2) (NestL.at (PvL.nestL hP9 hV12 (fun W2 hW2 => ⟨hW2.below,trivial,hW2.mem (i:=1) rfl⟩)) W2 hW2) W (fun _ => True) (fun W3 hb => ⟨fV hW2.below hb,trivial⟩) ) ?_
 rintro ⟨⟨A45,n47,c46⟩,ys50,F51⟩ ⟨hn48,hP49,hV52⟩
 replace hn48 : n47 = y41.1.length:=hn48; subst hn48
 try dsimp only [lna,lca,lsz,lss]
 refine oY rfl (aN rfl) (oY rfl (yE rfl rfl) (oY rfl (yE rfl rfl) (oY rfl (yAS rfl) (oY rfl (yAI rfl) (oN (eT (cS (cR (oY rfl (yN 2 [vI y1.fPlaces,.slice A5 y1.fTracks.length c6] dM rfl rfl rfl) ?_)))))))))
 obtain ⟨y53,hy54,h⟩:=bOs h
 refine oC [.agg #[vI y1.fPlaces,.slice A5 y1.fTracks.length c6],vI 0,vI 2,vI 4,vI 5] _ _ _ rfl go_18 rfl (fun W2 hW2 => kH y1 0 2 4 5 y53 hy54 W2 A5 y1.fTracks.length c6 ys10 rfl ((RdL.row 0 rfl) W2 hW2) (NestL.at (PvL.nestL hP9 hV12 (fun W2 hW2 => ⟨hW2.below,trivial,hW2.mem (i:=1) rfl⟩)) W2 hW2) W (fun _ => True) (fun W3 hb => ⟨fV hW2.below hb,trivial⟩) ) ?_
 rintro ⟨⟨A57,n59,c58⟩,F61⟩ ⟨hn60,hV62⟩
 replace hn60 : n59 = y53.1.fLegs.length:=hn60; subst hn60
 try dsimp only [lna,lca,lsz,lss]
 refine oY rfl (aN rfl) (oY rfl (yE rfl rfl) (oY rfl (yE rfl rfl) ?_))
 refine aE ko rfl (fun b63 => ?_)
 try dsimp only [lna,lca,lsz,lss]
 refine cr rfl (yS 12 [.slice A57 y53.1.fLegs.length c58,vI y53.1.fA,vI y53.1.fToll] lD rfl (nB rfl) rfl rfl rfl) (oY rfl (yAI rfl) (oN (eT (cS (cR (oY rfl (yN 2 [vI y1.fPlaces,.slice A5 y1.fTracks.length c6] dM rfl rfl rfl) ?_))))))
 obtain ⟨y64,hy65,h⟩:=bOs h
 refine oY rfl (yC [.agg #[vI y1.fPlaces,.slice A5 y1.fTracks.length c6],vI 0,vI 2,vI 26,vI 0] go_19 rfl (fun W2 hW2 => lh y1 0 2 26 0 y64 hy65 W2 A5 y1.fTracks.length c6 ys10 rfl ((RdL.row 0 rfl) W2 hW2) (NestL.at (PvL.nestL hP9 hV12 (fun W2 hW2 => ⟨hW2.below,trivial,hW2.mem (i:=1) rfl⟩)) W2 hW2)) rfl) (oY rfl (aN rfl) (oY rfl (yE rfl rfl) (oY rfl (yE rfl rfl) (oY rfl (yAI rfl) (oY rfl (yAI rfl) (oN (eT (cS (cR (oY rfl (yN 2 [vI y1.fPlaces,.slice A5 y1.fTracks.length c6] dM rfl rfl rfl) ?_))))))))))
 obtain ⟨y66,hy67,h⟩:=bOs h
 refine oC [.agg #[vI y1.fPlaces,.slice A5 y1.fTracks.length c6],vI 0,vI 2,vI 4,vI 0] _ _ _ rfl go_23 rfl (fun W2 hW2 => jj y1 0 2 4 0 y66 hy67 W2 A5 y1.fTracks.length c6 ys10 rfl ((RdL.row 0 rfl) W2 hW2) (NestL.at (PvL.nestL hP9 hV12 (fun W2 hW2 => ⟨hW2.below,trivial,hW2.mem (i:=1) rfl⟩)) W2 hW2)) ?_
 rintro ⟨A68,n70,c69⟩ hn71
 replace hn71 : n70 = y66.1.length:=hn71; subst hn71
 try dsimp only [lna,lca,lsz,lss]
 refine oY rfl (aN rfl) (oY rfl (yE rfl rfl) (oY rfl (yE rfl rfl) (oY rfl (yAS rfl) (oY rfl (yAI rfl) (oN (eT (cS (cR (oY rfl (yN 2 [vI y1.fPlaces,.slice A5 y1.fTracks.length c6] dM rfl rfl rfl) ?_)))))))))
 obtain ⟨y72,hy73,h⟩:=bOs h
 refine oC [.agg #[vI y1.fPlaces,.slice A5 y1.fTracks.length c6],vI 0,vI 2,vI 4,vI 60] _ _ _ rfl go_23 rfl (fun W2 hW2 => jj y1 0 2 4 60 y72 hy73 W2 A5 y1.fTracks.length c6 ys10 rfl ((RdL.row 0 rfl) W2 hW2) (NestL.at (PvL.nestL hP9 hV12 (fun W2 hW2 => ⟨hW2.below,trivial,hW2.mem (i:=1) rfl⟩)) W2 hW2)) ?_
 rintro ⟨A74,n76,c75⟩ hn77
 replace hn77 : n76 = y72.1.length:=hn77; subst hn77
 try dsimp only [lna,lca,lsz,lss]
 refine oY rfl (aN rfl) (oY rfl (yE rfl rfl) (oY rfl (yE rfl rfl) (oY rfl (yAS rfl) (oY rfl (yAI rfl) (oN (eT (cS (cS (cR (oY rfl (yMI rfl) (oY rfl (dl rfl rfl) (oY rfl (yMB rfl) ?_))))))))))))
 refine oJ 3 (fun tm0 => (upd (upd (upd (upd (upd (upd (upd (upd (upd (upd (upd (upd (upd (upd (upd tm0 0 (.bool false)) 2 (.pointer (some ⟨b24,0,none⟩))) 3 (vI y26.1)) 5 (.pointer (some ⟨b40,0,none⟩))) 7 (.slice A45 y41.1.length c46)) 8 (vI y41.2)) 9 (.pointer (some ⟨b63,0,none⟩))) 10 (vI y53.2)) 11 (vI y64.1)) 12 (vI y64.2)) 13 (.slice A68 y66.1.length c69)) 14 (vI y66.2)) 15 (.slice A74 y72.1.length c75)) 16 (vI y72.2)) 74 (.bool ((y26.2 != 0) || (y28.2 != 0))))) (fun tm0 => ?_) (fun key => ?_)
 ·refine oY rfl (yMB rfl) ?_
  refine oJ 3 (fun tm0 => (upd (upd (upd (upd (upd (upd (upd (upd (upd (upd (upd (upd (upd (upd tm0 0 (.bool false)) 2 (.pointer (some ⟨b24,0,none⟩))) 3 (vI y26.1)) 5 (.pointer (some ⟨b40,0,none⟩))) 7 (.slice A45 y41.1.length c46)) 9 (.pointer (some ⟨b63,0,none⟩))) 10 (vI y53.2)) 11 (vI y64.1)) 12 (vI y64.2)) 13 (.slice A68 y66.1.length c69)) 14 (vI y66.2)) 15 (.slice A74 y72.1.length c75)) 16 (vI y72.2)) 78 (.bool (((y26.2 != 0) || (y28.2 != 0)) || (y41.2 != 0))))) (fun tm0 => ?_) (fun key => ?_)
  ·refine oY rfl (yMB rfl) ?_
   refine oJ 3 (fun tm0 => (upd (upd (upd (upd (upd (upd (upd (upd (upd (upd (upd (upd (upd tm0 0 (.bool false)) 2 (.pointer (some ⟨b24,0,none⟩))) 3 (vI y26.1)) 5 (.pointer (some ⟨b40,0,none⟩))) 7 (.slice A45 y41.1.length c46)) 9 (.pointer (some ⟨b63,0,none⟩))) 11 (vI y64.1)) 12 (vI y64.2)) 13 (.slice A68 y66.1.length c69)) 14 (vI y66.2)) 15 (.slice A74 y72.1.length c75)) 16 (vI y72.2)) 82 (.bool ((((y26.2 != 0) || (y28.2 != 0)) || (y41.2 != 0)) || (y53.2 != 0))))) (fun tm0 => ?_) (fun key => ?_)
   ·refine oY rfl (yMB rfl) ?_
    refine oJ 3 (fun tm0 => (upd (upd (upd (upd (upd (upd (upd (upd (upd (upd (upd (upd tm0 0 (.bool false)) 2 (.pointer (some ⟨b24,0,none⟩))) 3 (vI y26.1)) 5 (.pointer (some ⟨b40,0,none⟩))) 7 (.slice A45 y41.1.length c46)) 9 (.pointer (some ⟨b63,0,none⟩))) 11 (vI y64.1)) 13 (.slice A68 y66.1.length c69)) 14 (vI y66.2)) 15 (.slice A74 y72.1.length c75)) 16 (vI y72.2)) 86 (.bool (((((y26.2 != 0) || (y28.2 != 0)) || (y41.2 != 0)) || (y53.2 != 0)) || (y64.2 != 0))))) (fun tm0 => ?_) (fun key => ?_)
    ·refine oY rfl (yMB rfl) ?_
     refine oJ 3 (fun tm0 => (upd (upd (upd (upd (upd (upd (upd (upd (upd (upd (upd tm0 0 (.bool false)) 2 (.pointer (some ⟨b24,0,none⟩))) 3 (vI y26.1)) 5 (.pointer (some ⟨b40,0,none⟩))) 7 (.slice A45 y41.1.length c46)) 9 (.pointer (some ⟨b63,0,none⟩))) 11 (vI y64.1)) 13 (.slice A68 y66.1.length c69)) 15 (.slice A74 y72.1.length c75)) 16 (vI y72.2)) 90 (.bool ((((((y26.2 != 0) || (y28.2 != 0)) || (y41.2 != 0)) || (y53.2 != 0)) || (y64.2 != 0)) || (y66.2 != 0))))) (fun tm0 => ?_) (fun key => ?_)
     ·refine oY rfl (yMB rfl) ?_
      refine oJ 3 (fun tm0 => (upd (upd (upd (upd (upd (upd (upd (upd (upd (upd tm0 0 (.bool false)) 2 (.pointer (some ⟨b24,0,none⟩))) 3 (vI y26.1)) 5 (.pointer (some ⟨b40,0,none⟩))) 7 (.slice A45 y41.1.length c46)) 9 (.pointer (some ⟨b63,0,none⟩))) 11 (vI y64.1)) 13 (.slice A68 y66.1.length c69)) 15 (.slice A74 y72.1.length c75)) 94 (.bool (((((((y26.2 != 0) || (y28.2 != 0)) || (y41.2 != 0)) || (y53.2 != 0)) || (y64.2 != 0)) || (y66.2 != 0)) || (y72.2 != 0))))) (fun tm0 => ?_) (fun key => ?_)
      ·refine oY rfl (yMB rfl) ?_
       refine oJ 3 (fun tm0 => (upd (upd (upd (upd (upd (upd (upd (upd (upd tm0 0 (.bool false)) 2 (.pointer (some ⟨b24,0,none⟩))) 5 (.pointer (some ⟨b40,0,none⟩))) 7 (.slice A45 y41.1.length c46)) 9 (.pointer (some ⟨b63,0,none⟩))) 11 (vI y64.1)) 13 (.slice A68 y66.1.length c69)) 15 (.slice A74 y72.1.length c75)) 98 (.bool ((((((((y26.2 != 0) || (y28.2 != 0)) || (y41.2 != 0)) || (y53.2 != 0)) || (y64.2 != 0)) || (y66.2 != 0)) || (y72.2 != 0)) || (y26.1 != 21))))) (fun tm0 => ?_) (fun key => ?_)
       ·refine oY rfl (yMB rfl) ?_
        refine oJ 5 (fun tm0 => (upd (upd (upd (upd (upd (upd (upd (upd (upd tm0 0 (.bool false)) 2 (.pointer (some ⟨b24,0,none⟩))) 5 (.pointer (some ⟨b40,0,none⟩))) 7 (.slice A45 y41.1.length c46)) 9 (.pointer (some ⟨b63,0,none⟩))) 11 (vI y64.1)) 13 (.slice A68 y66.1.length c69)) 15 (.slice A74 y72.1.length c75)) 104 (.bool (((((((((y26.2 != 0) || (y28.2 != 0)) || (y41.2 != 0)) || (y53.2 != 0)) || (y64.2 != 0)) || (y66.2 != 0)) || (y72.2 != 0)) || (y26.1 != 21)) || ((y28.1.fH.length:Int) != 3))))) (fun tm0 => ?_) (fun key => ?_)
        ·refine oY rfl (yMB rfl) ?_
         obtain ⟨b87,hb88,h⟩:=bOs h
         refine oJ 7 (fun tm0 => (upd (upd (upd (upd (upd (upd (upd (upd (upd tm0 0 (.bool false)) 2 (.pointer (some ⟨b24,0,none⟩))) 5 (.pointer (some ⟨b40,0,none⟩))) 7 (.slice A45 y41.1.length c46)) 9 (.pointer (some ⟨b63,0,none⟩))) 11 (vI y64.1)) 13 (.slice A68 y66.1.length c69)) 15 (.slice A74 y72.1.length c75)) 112 (.bool b87))) (fun tm0 => ?_) (fun key => ?_)
         ·refine oY rfl (yMB rfl) ?_
          refine oJ 4 (fun tm0 => (upd (upd (upd (upd (upd (upd (upd (upd (upd tm0 0 (.bool false)) 2 (.pointer (some ⟨b24,0,none⟩))) 5 (.pointer (some ⟨b40,0,none⟩))) 7 (.slice A45 y41.1.length c46)) 9 (.pointer (some ⟨b63,0,none⟩))) 11 (vI y64.1)) 13 (.slice A68 y66.1.length c69)) 15 (.slice A74 y72.1.length c75)) 117 (.bool (b87 || ((y41.1.length:Int) != 3))))) (fun tm0 => ?_) (fun key => ?_)
          ·refine oN (eT ?_)
           rcases iOs h with ⟨hp90,h⟩ | ⟨hp90,h⟩
           ·refine cT (vB hp90) (cS (cR (oY rfl (yAB rfl) (oN (eT (am (aa ?_)))))))
            obtain rfl:=sI h
            exact al (.inl rfl) rfl (rVt (v:=.bool false) rfl) (fun W2 hW2 => ⟨rfl,hW2.none⟩)
           ·refine cF (vB hp90) (cK (eT (cS (cR (oY rfl (yFA lA rfl) (oY rfl (yL 8 tq rfl rfl rfl) ?_))))))
            obtain ⟨hg91,h⟩:=gOs h
            refine oY rfl (yI ki (by decide) hg91.1 hg91.2 (RdL.row 6 rfl) (eL aq (NestP.hn hP36 rfl)) rfl rfl) ?_
            refine oY rfl (yR (A:=A32) (j:=(Int.toNat 2 * 1)) (v:=.slice ((rdL ys37 2).1.1) ((rdL y28.1.fH 2).length) ((rdL ys37 2).1.2.2)) iR (RdL.row 6 rfl) rfl (aC aq hg91.1 (ah hg91.2 (NestP.hn hP36 rfl)) (congrArg (fun n : Nat => some (Value.slice (rdL ys37 2).1.1 n (rdL ys37 2).1.2.2)) (NestP.len hP36 hg91.1 (ah hg91.2 rfl))))) ?_
            obtain ⟨hg92,h⟩:=gOs h
            refine oY rfl (yI bZ (by decide) hg92.1 hg92.2 (NestL.rd (PvL.nestL hP36 hV39 (fun W2 hW2 => ⟨hW2.below,trivial,hW2.mem (i:=7) rfl⟩)) hg91.1 (ah hg91.2 rfl)) (eL aA rfl) rfl rfl) ?_
            refine oY rfl (yR (A:=((rdL ys37 2).1.1)) (j:=(Int.toNat 0 * 1)) (v:=vI (rdL (rdL y28.1.fH 2) 0)) aV (NestL.rd (PvL.nestL hP36 hV39 (fun W2 hW2 => ⟨hW2.below,trivial,hW2.mem (i:=7) rfl⟩)) hg91.1 (ah hg91.2 rfl)) rfl (aC aA hg92.1 (ah hg92.2 rfl) rfl)) (oY rfl (da rfl rfl) (oY rfl (yMB rfl) ?_))
            obtain ⟨b94,hb95,h⟩:=bOs h
            refine oJ 8 (fun tm0 => (upd (upd (upd (upd (upd (upd (upd (upd (upd tm0 0 (.bool false)) 2 (.pointer (some ⟨b24,0,none⟩))) 5 (.pointer (some ⟨b40,0,none⟩))) 7 (.slice A45 y41.1.length c46)) 9 (.pointer (some ⟨b63,0,none⟩))) 11 (vI y64.1)) 13 (.slice A68 y66.1.length c69)) 15 (.slice A74 y72.1.length c75)) 133 (.bool b94))) (fun tm0 => ?_) (fun key => ?_)
            ·refine oY rfl (yMB rfl) ?_
             obtain ⟨b97,hb98,h⟩:=bOs h
             refine oJ 8 (fun tm0 => (upd (upd (upd (upd (upd (upd (upd (upd tm0 0 (.bool false)) 2 (.pointer (some ⟨b24,0,none⟩))) 7 (.slice A45 y41.1.length c46)) 9 (.pointer (some ⟨b63,0,none⟩))) 11 (vI y64.1)) 13 (.slice A68 y66.1.length c69)) 15 (.slice A74 y72.1.length c75)) 142 (.bool b97))) (fun tm0 => ?_) (fun key => ?_)
             ·refine oY rfl (yMB rfl) ?_
              obtain ⟨b100,hb101,h⟩:=bOs h
              refine oJ 6 (fun tm0 => (upd (upd (upd (upd (upd (upd (upd (upd tm0 0 (.bool false)) 2 (.pointer (some ⟨b24,0,none⟩))) 7 (.slice A45 y41.1.length c46)) 9 (.pointer (some ⟨b63,0,none⟩))) 11 (vI y64.1)) 13 (.slice A68 y66.1.length c69)) 15 (.slice A74 y72.1.length c75)) 149 (.bool b100))) (fun tm0 => ?_) (fun key => ?_)
              ·refine oY rfl (yMB rfl) ?_
               obtain ⟨b103,hb104,h⟩:=bOs h
               refine oJ 6 (fun tm0 => (upd (upd (upd (upd (upd (upd (upd (upd tm0 0 (.bool false)) 2 (.pointer (some ⟨b24,0,none⟩))) 7 (.slice A45 y41.1.length c46)) 9 (.pointer (some ⟨b63,0,none⟩))) 11 (vI y64.1)) 13 (.slice A68 y66.1.length c69)) 15 (.slice A74 y72.1.length c75)) 156 (.bool b103))) (fun tm0 => ?_) (fun key => ?_)
               ·refine oY rfl (yMB rfl) ?_
                obtain ⟨b106,hb107,h⟩:=bOs h
                refine oJ 6 (fun tm0 => (upd (upd (upd (upd (upd (upd (upd tm0 0 (.bool false)) 2 (.pointer (some ⟨b24,0,none⟩))) 9 (.pointer (some ⟨b63,0,none⟩))) 11 (vI y64.1)) 13 (.slice A68 y66.1.length c69)) 15 (.slice A74 y72.1.length c75)) 163 (.bool b106))) (fun tm0 => ?_) (fun key => ?_)
                ·refine oY rfl (yMB rfl) ?_
                 refine oJ 4 (fun tm0 => (upd (upd (upd (upd (upd (upd tm0 0 (.bool false)) 2 (.pointer (some ⟨b24,0,none⟩))) 11 (vI y64.1)) 13 (.slice A68 y66.1.length c69)) 15 (.slice A74 y72.1.length c75)) 168 (.bool (b106 && (y53.1.fA == 17))))) (fun tm0 => ?_) (fun key => ?_)
                 ·refine oY rfl (yMB rfl) ?_
                  refine oJ 3 (fun tm0 => (upd (upd (upd (upd (upd tm0 0 (.bool false)) 2 (.pointer (some ⟨b24,0,none⟩))) 13 (.slice A68 y66.1.length c69)) 15 (.slice A74 y72.1.length c75)) 172 (.bool ((b106 && (y53.1.fA == 17)) && (y64.1 == 16))))) (fun tm0 => ?_) (fun key => ?_)
                  ·refine oY rfl (yMB rfl) ?_
                   obtain ⟨b111,hb112,h⟩:=bOs h
                   refine oJ 4 (fun tm0 => (upd (upd (upd (upd tm0 0 (.bool false)) 2 (.pointer (some ⟨b24,0,none⟩))) 15 (.slice A74 y72.1.length c75)) 177 (.bool b111))) (fun tm0 => ?_) (fun key => ?_)
                   ·refine oY rfl (yMB rfl) ?_
                    obtain ⟨b114,hb115,h⟩:=bOs h
                    refine oJ 4 (fun tm0 => (upd (upd (upd tm0 0 (.bool false)) 2 (.pointer (some ⟨b24,0,none⟩))) 182 (.bool b114))) (fun tm0 => ?_) (fun key => ?_)
                    ·refine oY rfl (yAB rfl) (oN (eT (cS (cR (oY rfl (yN 5 [.slice A16 y14.fB.length c17,.slice A18 y14.fR.length c19] dp rfl rfl rfl) ?_)))))
                     obtain ⟨y116,hy117,h⟩:=bOs h
                     refine oC [.agg #[.slice A16 y14.fB.length c17,.slice A18 y14.fR.length c19]] _ _ _ rfl go_37 rfl (fun W2 hW2 => pW y14 y116 hy117 W2 A16 y14.fB.length c17 rfl ((RdL.row 3 rfl) W2 hW2) A18 y14.fR.length c19 rfl ((RdL.row 4 rfl) W2 hW2) W (fun _ => True) (fun W3 hb => ⟨fV hW2.below hb,trivial⟩) ) ?_
                     rintro ⟨⟨⟨A122,n124,c123⟩,F126⟩,⟨⟨A128,n130,c129⟩,F132⟩⟩ ⟨hn125,hV127,hn131,hV133⟩
                     replace hn125 : n124 = y116.1.fG.length:=hn125; subst hn125
                     replace hn131 : n130 = y116.1.fPrices.length:=hn131; subst hn131
                     try dsimp only [lna,lca,lsz,lss]
                     refine oY rfl (aN rfl) (oY rfl (yE rfl rfl) (oY rfl (yE rfl rfl) ?_))
                     refine aE sC rfl (fun b134 => ?_)
                     try dsimp only [lna,lca,lsz,lss]
                     refine cr rfl (yS 17 [.slice A122 y116.1.fG.length c123,vI y116.1.fW,.slice A128 y116.1.fPrices.length c129] sz_71 rfl (nB rfl) rfl rfl rfl) (oY rfl (yAI rfl) (oN (eT (cS (cR (oY rfl (yN 5 [.slice A16 y14.fB.length c17,.slice A18 y14.fR.length c19] dp rfl rfl rfl) ?_))))))
                     obtain ⟨y135,hy136,h⟩:=bOs h
                     refine oC [.agg #[.slice A16 y14.fB.length c17,.slice A18 y14.fR.length c19]] _ _ _ rfl go_27 rfl (fun W2 hW2 => oP y14 y135 hy136 W2 A16 y14.fB.length c17 rfl ((RdL.row 3 rfl) W2 hW2) A18 y14.fR.length c19 rfl ((RdL.row 4 rfl) W2 hW2)) ?_
                     rintro ⟨A137,n139,c138⟩ hn140
                     replace hn140 : n139 = y135.1.length:=hn140; subst hn140
                     try dsimp only [lna,lca,lsz,lss]
                     refine oY rfl (aN rfl) (oY rfl (yE rfl rfl) (oY rfl (yE rfl rfl) (oY rfl (yAS rfl) (oY rfl (yAI rfl) (oN (eT (cS (cR (oY rfl (yN 5 [.slice A16 y14.fB.length c17,.slice A18 y14.fR.length c19] dp rfl rfl rfl) ?_)))))))))
                     obtain ⟨y141,hy142,h⟩:=bOs h
                     refine oC [.agg #[.slice A16 y14.fB.length c17,.slice A18 y14.fR.length c19]] _ _ _ rfl go_29 rfl (fun W2 hW2 => pY y14 y141 hy142 W2 A16 y14.fB.length c17 rfl ((RdL.row 3 rfl) W2 hW2) A18 y14.fR.length c19 rfl ((RdL.row 4 rfl) W2 hW2)) ?_
                     rintro ⟨A143,n145,c144⟩ hn146
                     replace hn146 : n145 = y141.1.length:=hn146; subst hn146
                     try dsimp only [lna,lca,lsz,lss]
                     refine oY rfl (aN rfl) (oY rfl (yE rfl rfl) (oY rfl (yE rfl rfl) (oY rfl (yAS rfl) (oY rfl (yAI rfl) (oN (eT (cS (cR (oY rfl (yN 5 [.slice A16 y14.fB.length c17,.slice A18 y14.fR.length c19] dp rfl rfl rfl) ?_)))))))))
                     refine aJ 3 (encL cI [7,8,9]) _ mc_3_3 cV lj m4 (by decide) (by decide) (by kernel_rfl) (eL aA rfl) rfl (fun b147 => ?_)
                     try dsimp only [lna,lca,lsz,lss]
                     obtain ⟨y148,hy149,h⟩:=bOs h
                     refine oC [.agg #[.slice A16 y14.fB.length c17,.slice A18 y14.fR.length c19],.slice (some ⟨b147,0,none⟩) 3 3] _ _ _ rfl go_31 rfl (fun W2 hW2 => nV y14 [7,8,9] y148 hy149 W2 A16 y14.fB.length c17 rfl ((RdL.row 3 rfl) W2 hW2) A18 y14.fR.length c19 rfl ((RdL.row 4 rfl) W2 hW2) (some ⟨b147,0,none⟩) 3 3 rfl ((RdL.row 20 rfl) W2 hW2)) ?_
                     rintro ⟨A150,n152,c151⟩ hn153
                     replace hn153 : n152 = y148.1.length:=hn153; subst hn153
                     try dsimp only [lna,lca,lsz,lss]
                     refine oY rfl (aN rfl) (oY rfl (yE rfl rfl) (oY rfl (yE rfl rfl) (oY rfl (yAS rfl) (oY rfl (yAI rfl) (oN (eT (cS (cR (oY rfl (yN 5 [.slice A16 y14.fB.length c17,.slice A18 y14.fR.length c19] dp rfl rfl rfl) ?_)))))))))
                     obtain ⟨y154,hy155,h⟩:=bOs h
                     refine oY rfl (yC [.agg #[.slice A16 y14.fB.length c17,.slice A18 y14.fR.length c19],vI 1] go_33 rfl (fun W2 hW2 => qD y14 1 y154 hy155 W2 A16 y14.fB.length c17 rfl ((RdL.row 3 rfl) W2 hW2) A18 y14.fR.length c19 rfl ((RdL.row 4 rfl) W2 hW2)) rfl) (oY rfl (aN rfl) (oY rfl (yE rfl rfl) (oY rfl (yE rfl rfl) (oY rfl (yAI rfl) (oY rfl (yAI rfl) (oN (eT (cS (cR (oY rfl (yMI rfl) (oY rfl (da rfl rfl) (oY rfl (yMB rfl) ?_))))))))))))
                     refine oJ 4 (fun tm0 => (upd (upd (upd (upd (upd (upd (upd (upd (upd (upd (upd (upd (upd tm0 0 (.bool false)) 2 (.pointer (some ⟨b24,0,none⟩))) 17 (.bool b114)) 18 (.pointer (some ⟨b134,0,none⟩))) 20 (.slice A137 y135.1.length c138)) 21 (vI y135.2)) 22 (.slice A143 y141.1.length c144)) 23 (vI y141.2)) 24 (.slice A150 y148.1.length c151)) 25 (vI y148.2)) 26 (vI y154.1)) 27 (vI y154.2)) 215 (.bool ((y116.2 == 0) && (y116.1.fW == 14))))) (fun tm0 => ?_) (fun key => ?_)
                     ·refine oY rfl (yMB rfl) ?_
                      obtain ⟨b158,hb159,h⟩:=bOs h
                      refine oJ 5 (fun tm0 => (upd (upd (upd (upd (upd (upd (upd (upd (upd (upd (upd tm0 0 (.bool false)) 17 (.bool b114)) 20 (.slice A137 y135.1.length c138)) 21 (vI y135.2)) 22 (.slice A143 y141.1.length c144)) 23 (vI y141.2)) 24 (.slice A150 y148.1.length c151)) 25 (vI y148.2)) 26 (vI y154.1)) 27 (vI y154.2)) 221 (.bool b158))) (fun tm0 => ?_) (fun key => ?_)
                      ·refine oY rfl (yMB rfl) ?_
                       refine oJ 3 (fun tm0 => (upd (upd (upd (upd (upd (upd (upd (upd (upd (upd tm0 0 (.bool false)) 17 (.bool b114)) 20 (.slice A137 y135.1.length c138)) 22 (.slice A143 y141.1.length c144)) 23 (vI y141.2)) 24 (.slice A150 y148.1.length c151)) 25 (vI y148.2)) 26 (vI y154.1)) 27 (vI y154.2)) 225 (.bool (b158 && (y135.2 == 0))))) (fun tm0 => ?_) (fun key => ?_)
                       ·refine oY rfl (yMB rfl) ?_
                        obtain ⟨b162,hb163,h⟩:=bOs h
                        refine oJ 4 (fun tm0 => (upd (upd (upd (upd (upd (upd (upd (upd (upd tm0 0 (.bool false)) 17 (.bool b114)) 22 (.slice A143 y141.1.length c144)) 23 (vI y141.2)) 24 (.slice A150 y148.1.length c151)) 25 (vI y148.2)) 26 (vI y154.1)) 27 (vI y154.2)) 230 (.bool b162))) (fun tm0 => ?_) (fun key => ?_)
                        ·refine oY rfl (yMB rfl) ?_
                         refine oJ 3 (fun tm0 => (upd (upd (upd (upd (upd (upd (upd (upd tm0 0 (.bool false)) 17 (.bool b114)) 22 (.slice A143 y141.1.length c144)) 24 (.slice A150 y148.1.length c151)) 25 (vI y148.2)) 26 (vI y154.1)) 27 (vI y154.2)) 234 (.bool (b162 && (y141.2 == 0))))) (fun tm0 => ?_) (fun key => ?_)
                         ·refine oY rfl (yMB rfl) ?_
                          obtain ⟨b166,hb167,h⟩:=bOs h
                          refine oJ 4 (fun tm0 => (upd (upd (upd (upd (upd (upd (upd tm0 0 (.bool false)) 17 (.bool b114)) 24 (.slice A150 y148.1.length c151)) 25 (vI y148.2)) 26 (vI y154.1)) 27 (vI y154.2)) 239 (.bool b166))) (fun tm0 => ?_) (fun key => ?_)
                          ·refine oY rfl (yAB rfl) (oN (eT (cS (cR (oY rfl (yMB rfl) (oY rfl (yMB rfl) ?_))))))
                           refine oJ 2 (fun tm0 => (upd (upd (upd (upd (upd (upd tm0 0 (.bool false)) 24 (.slice A150 y148.1.length c151)) 25 (vI y148.2)) 26 (vI y154.1)) 27 (vI y154.2)) 243 (.bool (b114 && b166)))) (fun tm0 => ?_) (fun key => ?_)
                           ·refine oY rfl (yMB rfl) ?_
                            refine oJ 3 (fun tm0 => (upd (upd (upd (upd (upd tm0 0 (.bool false)) 24 (.slice A150 y148.1.length c151)) 26 (vI y154.1)) 27 (vI y154.2)) 247 (.bool ((b114 && b166) && (y148.2 == 0))))) (fun tm0 => ?_) (fun key => ?_)
                            ·refine oY rfl (yMB rfl) ?_
                             obtain ⟨b171,hb172,h⟩:=bOs h
                             refine oJ 4 (fun tm0 => (upd (upd (upd (upd tm0 0 (.bool false)) 26 (vI y154.1)) 27 (vI y154.2)) 252 (.bool b171))) (fun tm0 => ?_) (fun key => ?_)
                             ·refine oY rfl (yMB rfl) ?_
                              refine oJ 3 (fun tm0 => (upd (upd (upd tm0 0 (.bool false)) 26 (vI y154.1)) 256 (.bool (b171 && (y154.2 == 0))))) (fun tm0 => ?_) (fun key => ?_)
                              ·refine oY rfl (yMB rfl) ?_
                               refine oJ 3 (fun tm0 => (upd (upd tm0 0 (.bool false)) 260 (.bool ((b171 && (y154.2 == 0)) && (y154.1 == 5))))) (fun tm0 => ?_) (fun key => ?_)
                               ·refine oY rfl (yAB rfl) (oN (eT (am ?_)))
                                obtain rfl:=sI h
                                exact al (.inl rfl) rfl (rVt (v:=.bool ((b171 && (y154.2 == 0)) && (y154.1 == 5))) rfl) (fun W2 hW2 => ⟨rfl,hW2.none⟩)
                               ·rcases ao (b171 && (y154.2 == 0)) with hp174 | hp174
                                ·refine oY (sT rfl rfl rfl rfl hp174) (yMI rfl) (oY (sT rfl rfl rfl rfl hp174) (da rfl rfl) (oY rfl (ab (vB hp174) rfl) ?_))
                                 exact key _ _ (keep (keep rfl rfl) (vB (fc hp174)))
                                ·refine oSk (sF rfl rfl rfl rfl hp174) (oSk (sF rfl rfl rfl rfl hp174) (oY rfl (ad (vB hp174) rfl) ?_))
                                 exact key _ _ (keep (keep rfl rfl) (vB (fa hp174)))
                              ·rcases ao b171 with hp173 | hp173
                               ·refine oY (sT rfl rfl rfl rfl hp173) (yMI rfl) (oY (sT rfl rfl rfl rfl hp173) (da rfl rfl) (oY rfl (ab (vB hp173) rfl) ?_))
                                exact key _ _ (keep (keep (keep rfl rfl) rfl) (vB (fc hp173)))
                               ·refine oSk (sF rfl rfl rfl rfl hp173) (oSk (sF rfl rfl rfl rfl hp173) (oY rfl (ad (vB hp173) rfl) ?_))
                                exact key _ _ (keep (keep (keep rfl rfl) rfl) (vB (fa hp173)))
                             ·clear h; rcases iOs hb172 with ⟨hp170,h⟩ | ⟨hp170,h⟩
                              ·refine oY (sT rfl rfl rfl rfl hp170) (yMS rfl) ?_
                               refine aJ 2 (encL cI [8,9]) _ mc_3_2 cV lj m4 (by decide) (by decide) (by kernel_rfl) (eL aA rfl) (sT rfl rfl rfl rfl hp170) (fun b175 => ?_)
                               try dsimp only [lna,lca,lsz,lss]
                               obtain ⟨y176,hy177,h⟩:=bOs h
                               refine oY (sT rfl rfl rfl rfl hp170) (yC [.slice A150 y148.1.length c151,.slice (some ⟨b175,0,none⟩) 2 2] sG rfl (fun W2 hW2 => cM y148.1 [8,9] y176 hy177 W2 A150 y148.1.length c151 rfl ((RdL.row 21 rfl) W2 hW2) (some ⟨b175,0,none⟩) 2 2 rfl ((RdL.row 22 rfl) W2 hW2)) rfl) (oY rfl (ab (vB hp170) rfl) ?_)
                               obtain rfl:=sI h
                               refine nQ 22 ?_
                               exact key _ _ (kp4 rfl)
                              ·refine oSk (sF rfl rfl rfl rfl hp170) (oSk (sF rfl rfl rfl rfl hp170) (oSk (sF rfl rfl rfl rfl hp170) (oY rfl (ad (vB hp170) rfl) ?_)))
                               obtain rfl:=sI h
                               exact key _ _ (kp4 rfl)
                            ·rcases ao (b114 && b166) with hp169 | hp169
                             ·refine oY (sT rfl rfl rfl rfl hp169) (yMI rfl) (oY (sT rfl rfl rfl rfl hp169) (da rfl rfl) (oY rfl (ab (vB hp169) rfl) ?_))
                              exact key _ _ (keep (keep (keep (keep (keep rfl rfl) rfl) rfl) rfl) (vB (fc hp169)))
                             ·refine oSk (sF rfl rfl rfl rfl hp169) (oSk (sF rfl rfl rfl rfl hp169) (oY rfl (ad (vB hp169) rfl) ?_))
                              exact key _ _ (keep (keep (keep (keep (keep rfl rfl) rfl) rfl) rfl) (vB (fa hp169)))
                           ·rcases ao b114 with hp168 | hp168
                            ·refine oY (sT rfl rfl rfl rfl hp168) (yMB rfl) (oY rfl (ab (vB hp168) rfl) ?_)
                             exact key _ _ (keep (keep (keep (keep (keep (keep rfl rfl) rfl) rfl) rfl) rfl) (vB (fc hp168)))
                            ·refine oSk (sF rfl rfl rfl rfl hp168) (oY rfl (ad (vB hp168) rfl) ?_)
                             exact key _ _ (keep (keep (keep (keep (keep (keep rfl rfl) rfl) rfl) rfl) rfl) (vB (fa hp168)))
                          ·clear h; rcases iOs hb167 with ⟨hp165,h⟩ | ⟨hp165,h⟩
                           ·refine oY (sT rfl rfl rfl rfl hp165) (yMS rfl) ?_
                            refine aJ 1 (encL cI [9]) _ mM cV lj m4 (by decide) (by decide) (by kernel_rfl) (eL aA rfl) (sT rfl rfl rfl rfl hp165) (fun b178 => ?_)
                            try dsimp only [lna,lca,lsz,lss]
                            obtain ⟨y179,hy180,h⟩:=bOs h
                            refine oY (sT rfl rfl rfl rfl hp165) (yC [.slice A143 y141.1.length c144,.slice (some ⟨b178,0,none⟩) 1 1] sG rfl (fun W2 hW2 => cM y141.1 [9] y179 hy180 W2 A143 y141.1.length c144 rfl ((RdL.row 19 rfl) W2 hW2) (some ⟨b178,0,none⟩) 1 1 rfl ((RdL.row 22 rfl) W2 hW2)) rfl) (oY rfl (ab (vB hp165) rfl) ?_)
                            obtain rfl:=sI h
                            refine nQ 22 ?_
                            exact key _ _ (kp4 (kp (kp (kp rfl))))
                           ·refine oSk (sF rfl rfl rfl rfl hp165) (oSk (sF rfl rfl rfl rfl hp165) (oSk (sF rfl rfl rfl rfl hp165) (oY rfl (ad (vB hp165) rfl) ?_)))
                            obtain rfl:=sI h
                            exact key _ _ (kp4 (kp (kp (kp rfl))))
                         ·rcases ao b162 with hp164 | hp164
                          ·refine oY (sT rfl rfl rfl rfl hp164) (yMI rfl) (oY (sT rfl rfl rfl rfl hp164) (da rfl rfl) (oY rfl (ab (vB hp164) rfl) ?_))
                           exact key _ _ (keep (keep (keep (keep (keep (keep (keep (keep rfl rfl) rfl) rfl) rfl) rfl) rfl) rfl) (vB (fc hp164)))
                          ·refine oSk (sF rfl rfl rfl rfl hp164) (oSk (sF rfl rfl rfl rfl hp164) (oY rfl (ad (vB hp164) rfl) ?_))
                           exact key _ _ (keep (keep (keep (keep (keep (keep (keep (keep rfl rfl) rfl) rfl) rfl) rfl) rfl) rfl) (vB (fa hp164)))
                        ·clear h; rcases iOs hb163 with ⟨hp161,h⟩ | ⟨hp161,h⟩
                         ·refine oY (sT rfl rfl rfl rfl hp161) (yMS rfl) ?_
                          refine aJ 2 (encL cI [7,8]) _ mc_3_2 cV lj m4 (by decide) (by decide) (by kernel_rfl) (eL aA rfl) (sT rfl rfl rfl rfl hp161) (fun b181 => ?_)
                          try dsimp only [lna,lca,lsz,lss]
                          obtain ⟨y182,hy183,h⟩:=bOs h
                          refine oY (sT rfl rfl rfl rfl hp161) (yC [.slice A137 y135.1.length c138,.slice (some ⟨b181,0,none⟩) 2 2] sG rfl (fun W2 hW2 => cM y135.1 [7,8] y182 hy183 W2 A137 y135.1.length c138 rfl ((RdL.row 18 rfl) W2 hW2) (some ⟨b181,0,none⟩) 2 2 rfl ((RdL.row 22 rfl) W2 hW2)) rfl) (oY rfl (ab (vB hp161) rfl) ?_)
                          obtain rfl:=sI h
                          refine nQ 22 ?_
                          exact key _ _ (kp4 (kp4 (kp rfl)))
                         ·refine oSk (sF rfl rfl rfl rfl hp161) (oSk (sF rfl rfl rfl rfl hp161) (oSk (sF rfl rfl rfl rfl hp161) (oY rfl (ad (vB hp161) rfl) ?_)))
                          obtain rfl:=sI h
                          exact key _ _ (kp4 (kp4 (kp rfl)))
                       ·rcases ao b158 with hp160 | hp160
                        ·refine oY (sT rfl rfl rfl rfl hp160) (yMI rfl) (oY (sT rfl rfl rfl rfl hp160) (da rfl rfl) (oY rfl (ab (vB hp160) rfl) ?_))
                         exact key _ _ (keep (keep (keep (keep (keep (keep (keep (keep (keep (keep rfl rfl) rfl) rfl) rfl) rfl) rfl) rfl) rfl) rfl) (vB (fc hp160)))
                        ·refine oSk (sF rfl rfl rfl rfl hp160) (oSk (sF rfl rfl rfl rfl hp160) (oY rfl (ad (vB hp160) rfl) ?_))
                         exact key _ _ (keep (keep (keep (keep (keep (keep (keep (keep (keep (keep rfl rfl) rfl) rfl) rfl) rfl) rfl) rfl) rfl) rfl) (vB (fa hp160)))
                      ·clear h; rcases iOs hb159 with ⟨hp157,h⟩ | ⟨hp157,h⟩
                       ·refine oY (sT rfl rfl rfl rfl hp157) (yN 5 [.slice A16 y14.fB.length c17,.slice A18 y14.fR.length c19] dp rfl rfl rfl) (oY (sT rfl rfl rfl rfl hp157) (yN 17 [.slice A122 y116.1.fG.length c123,vI y116.1.fW,.slice A128 y116.1.fPrices.length c129] ag_71 rfl rfl rfl) ?_)
                        obtain ⟨y184,hy185,h⟩:=bOs h
                        refine oY (sT rfl rfl rfl rfl hp157) (yC [.agg #[.slice A16 y14.fB.length c17,.slice A18 y14.fR.length c19],.agg #[.slice A122 y116.1.fG.length c123,vI y116.1.fW,.slice A128 y116.1.fPrices.length c129]] go_44 rfl (fun W2 hW2 => lE y14 y116.1 y184 hy185 W2 A16 y14.fB.length c17 rfl ((RdL.row 3 rfl) W2 hW2) A18 y14.fR.length c19 rfl ((RdL.row 4 rfl) W2 hW2) A122 y116.1.fG.length c123 rfl ((Pv.rdl hV127 (fun W2 hW2 => ⟨hW2.below,trivial,hW2.mem (i:=15) rfl⟩)) W2 hW2) A128 y116.1.fPrices.length c129 rfl ((Pv.rdl hV133 (fun W2 hW2 => ⟨hW2.below,trivial,hW2.mem (i:=16) rfl⟩)) W2 hW2)) rfl) (oY (sT rfl rfl rfl rfl hp157) (da rfl rfl) (oY rfl (ab (vB hp157) rfl) ?_))
                        obtain rfl:=sI h
                        exact key _ _ (kp4 (kp4 (kp (kp (kp rfl)))))
                       ·refine oSk (sF rfl rfl rfl rfl hp157) (oSk (sF rfl rfl rfl rfl hp157) (oSk (sF rfl rfl rfl rfl hp157) (oSk (sF rfl rfl rfl rfl hp157) (oY rfl (ad (vB hp157) rfl) ?_))))
                        obtain rfl:=sI h
                        exact key _ _ (kp4 (kp4 (kp (kp (kp rfl)))))
                     ·rcases ao (y116.2 == 0) with hp156 | hp156
                      ·refine oY (sT rfl rfl rfl rfl hp156) (yFA pp rfl) (oY (sT rfl rfl rfl rfl hp156) (yL 17 aV rfl rfl rfl) (oY (sT rfl rfl rfl rfl hp156) (da rfl rfl) (oY rfl (ab (vB hp156) rfl) ?_)))
                       exact key _ _ (keep (keep (keep (keep (keep (keep (keep (keep (keep (keep (keep (keep (keep rfl rfl) rfl) rfl) rfl) rfl) rfl) rfl) rfl) rfl) rfl) rfl) rfl) (vB (fc hp156)))
                      ·refine oSk (sF rfl rfl rfl rfl hp156) (oSk (sF rfl rfl rfl rfl hp156) (oSk (sF rfl rfl rfl rfl hp156) (oY rfl (ad (vB hp156) rfl) ?_)))
                       exact key _ _ (keep (keep (keep (keep (keep (keep (keep (keep (keep (keep (keep (keep (keep rfl rfl) rfl) rfl) rfl) rfl) rfl) rfl) rfl) rfl) rfl) rfl) rfl) (vB (fa hp156)))
                    ·clear h; rcases iOs hb115 with ⟨hp113,h⟩ | ⟨hp113,h⟩
                     ·refine oY (sT rfl rfl rfl rfl hp113) (yMS rfl) ?_
                      refine aJ 1 (encL cI [3]) _ mM cV lj m4 (by decide) (by decide) (by kernel_rfl) (eL aA rfl) (sT rfl rfl rfl rfl hp113) (fun b186 => ?_)
                      try dsimp only [lna,lca,lsz,lss]
                      obtain ⟨y187,hy188,h⟩:=bOs h
                      refine oY (sT rfl rfl rfl rfl hp113) (yC [.slice A74 y72.1.length c75,.slice (some ⟨b186,0,none⟩) 1 1] sG rfl (fun W2 hW2 => cM y72.1 [3] y187 hy188 W2 A74 y72.1.length c75 rfl ((RdL.row 14 rfl) W2 hW2) (some ⟨b186,0,none⟩) 1 1 rfl ((RdL.row 15 rfl) W2 hW2)) rfl) (oY rfl (ab (vB hp113) rfl) ?_)
                      obtain rfl:=sI h
                      refine nQ 15 ?_
                      exact key _ _ (kp (kp (kp rfl)))
                     ·refine oSk (sF rfl rfl rfl rfl hp113) (oSk (sF rfl rfl rfl rfl hp113) (oSk (sF rfl rfl rfl rfl hp113) (oY rfl (ad (vB hp113) rfl) ?_)))
                      obtain rfl:=sI h
                      exact key _ _ (kp (kp (kp rfl)))
                   ·clear h; rcases iOs hb112 with ⟨hp110,h⟩ | ⟨hp110,h⟩
                    ·refine oY (sT rfl rfl rfl rfl hp110) (yMS rfl) ?_
                     refine aJ 2 (encL cI [1,2]) _ mc_3_2 cV lj m4 (by decide) (by decide) (by kernel_rfl) (eL aA rfl) (sT rfl rfl rfl rfl hp110) (fun b189 => ?_)
                     try dsimp only [lna,lca,lsz,lss]
                     obtain ⟨y190,hy191,h⟩:=bOs h
                     refine oY (sT rfl rfl rfl rfl hp110) (yC [.slice A68 y66.1.length c69,.slice (some ⟨b189,0,none⟩) 2 2] sG rfl (fun W2 hW2 => cM y66.1 [1,2] y190 hy191 W2 A68 y66.1.length c69 rfl ((RdL.row 13 rfl) W2 hW2) (some ⟨b189,0,none⟩) 2 2 rfl ((RdL.row 15 rfl) W2 hW2)) rfl) (oY rfl (ab (vB hp110) rfl) ?_)
                     obtain rfl:=sI h
                     refine nQ 15 ?_
                     exact key _ _ (kp4 rfl)
                    ·refine oSk (sF rfl rfl rfl rfl hp110) (oSk (sF rfl rfl rfl rfl hp110) (oSk (sF rfl rfl rfl rfl hp110) (oY rfl (ad (vB hp110) rfl) ?_)))
                     obtain rfl:=sI h
                     exact key _ _ (kp4 rfl)
                  ·rcases ao (b106 && (y53.1.fA == 17)) with hp109 | hp109
                   ·refine oY (sT rfl rfl rfl rfl hp109) (yMI rfl) (oY (sT rfl rfl rfl rfl hp109) (da rfl rfl) (oY rfl (ab (vB hp109) rfl) ?_))
                    exact key _ _ (keep (keep (keep (keep (keep rfl rfl) rfl) rfl) rfl) (vB (fc hp109)))
                   ·refine oSk (sF rfl rfl rfl rfl hp109) (oSk (sF rfl rfl rfl rfl hp109) (oY rfl (ad (vB hp109) rfl) ?_))
                    exact key _ _ (keep (keep (keep (keep (keep rfl rfl) rfl) rfl) rfl) (vB (fa hp109)))
                 ·rcases ao b106 with hp108 | hp108
                  ·refine oY (sT rfl rfl rfl rfl hp108) (yFA ly rfl) (oY (sT rfl rfl rfl rfl hp108) (yL 12 aV rfl rfl rfl) (oY (sT rfl rfl rfl rfl hp108) (da rfl rfl) (oY rfl (ab (vB hp108) rfl) ?_)))
                   exact key _ _ (keep (keep (keep (keep (keep (keep rfl rfl) rfl) rfl) rfl) rfl) (vB (fc hp108)))
                  ·refine oSk (sF rfl rfl rfl rfl hp108) (oSk (sF rfl rfl rfl rfl hp108) (oSk (sF rfl rfl rfl rfl hp108) (oY rfl (ad (vB hp108) rfl) ?_)))
                   exact key _ _ (keep (keep (keep (keep (keep (keep rfl rfl) rfl) rfl) rfl) rfl) (vB (fa hp108)))
                ·clear h; rcases iOs hb107 with ⟨hp105,h⟩ | ⟨hp105,h⟩
                 ·refine oY (sT rfl rfl rfl rfl hp105) (yMS rfl) ?_
                  obtain ⟨hg192,h⟩:=gOs h
                  refine oY (sT rfl rfl rfl rfl hp105) (yI rL (by decide) hg192.1 hg192.2 (RdL.row 9 rfl) (eL bg (NestP.hn hP49 rfl)) rfl rfl) ?_
                  refine oY (sT rfl rfl rfl rfl hp105) (yFR (A:=A45) (j:=(Int.toNat 2 * 3)) nv rfl) (oY (sT rfl rfl rfl rfl hp105) (yR (A:=A45) (j:=((Int.toNat 2 * 3) + 2)) (v:=vI ((rdL y41.1 2).fToll)) aV (RdL.row 9 rfl) rfl (eG bg hg192.1 (ah hg192.2 (NestP.hn hP49 rfl)) (congrArg (fun z : TJ => some (Value.int .i64 z.fToll)) (NestP.snd hP49 2)))) (oY (sT rfl rfl rfl rfl hp105) (da rfl rfl) (oY rfl (ab (vB hp105) rfl) ?_)))
                  obtain rfl:=sI h
                  exact key _ _ (kp4 (kp (kp (kp rfl))))
                 ·refine oSk (sF rfl rfl rfl rfl hp105) (oSk (sF rfl rfl rfl rfl hp105) (oSk (sF rfl rfl rfl rfl hp105) (oSk (sF rfl rfl rfl rfl hp105) (oSk (sF rfl rfl rfl rfl hp105) (oY rfl (ad (vB hp105) rfl) ?_)))))
                  obtain rfl:=sI h
                  exact key _ _ (kp4 (kp (kp (kp rfl))))
               ·clear h; rcases iOs hb104 with ⟨hp102,h⟩ | ⟨hp102,h⟩
                ·refine oY (sT rfl rfl rfl rfl hp102) (yMS rfl) ?_
                 obtain ⟨hg193,h⟩:=gOs h
                 refine oY (sT rfl rfl rfl rfl hp102) (yI rL (by decide) hg193.1 hg193.2 (RdL.row 9 rfl) (eL bg (NestP.hn hP49 rfl)) rfl rfl) ?_
                 refine oY (sT rfl rfl rfl rfl hp102) (yFR (A:=A45) (j:=(Int.toNat 1 * 3)) ly rfl) (oY (sT rfl rfl rfl rfl hp102) (yR (A:=A45) (j:=((Int.toNat 1 * 3) + 1)) (v:=vI ((rdL y41.1 1).fA)) aV (RdL.row 9 rfl) rfl (eG bg hg193.1 (ah hg193.2 (NestP.hn hP49 rfl)) (congrArg (fun z : TJ => some (Value.int .i64 z.fA)) (NestP.snd hP49 1)))) (oY (sT rfl rfl rfl rfl hp102) (da rfl rfl) (oY rfl (ab (vB hp102) rfl) ?_)))
                 obtain rfl:=sI h
                 exact key _ _ (kp4 (kp4 rfl))
                ·refine oSk (sF rfl rfl rfl rfl hp102) (oSk (sF rfl rfl rfl rfl hp102) (oSk (sF rfl rfl rfl rfl hp102) (oSk (sF rfl rfl rfl rfl hp102) (oSk (sF rfl rfl rfl rfl hp102) (oY rfl (ad (vB hp102) rfl) ?_)))))
                 obtain rfl:=sI h
                 exact key _ _ (kp4 (kp4 rfl))
              ·clear h; rcases iOs hb101 with ⟨hp99,h⟩ | ⟨hp99,h⟩
               ·refine oY (sT rfl rfl rfl rfl hp99) (yMS rfl) ?_
                obtain ⟨hg194,h⟩:=gOs h
                refine oY (sT rfl rfl rfl rfl hp99) (yI rL (by decide) hg194.1 hg194.2 (RdL.row 9 rfl) (eL bg (NestP.hn hP49 rfl)) rfl rfl) ?_
                refine oY (sT rfl rfl rfl rfl hp99) (yFR (A:=A45) (j:=(Int.toNat 0 * 3)) nv rfl) (oY (sT rfl rfl rfl rfl hp99) (yR (A:=A45) (j:=((Int.toNat 0 * 3) + 2)) (v:=vI ((rdL y41.1 0).fToll)) aV (RdL.row 9 rfl) rfl (eG bg hg194.1 (ah hg194.2 (NestP.hn hP49 rfl)) (congrArg (fun z : TJ => some (Value.int .i64 z.fToll)) (NestP.snd hP49 0)))) (oY (sT rfl rfl rfl rfl hp99) (da rfl rfl) (oY rfl (ab (vB hp99) rfl) ?_)))
                obtain rfl:=sI h
                exact key _ _ (kp4 (kp4 rfl))
               ·refine oSk (sF rfl rfl rfl rfl hp99) (oSk (sF rfl rfl rfl rfl hp99) (oSk (sF rfl rfl rfl rfl hp99) (oSk (sF rfl rfl rfl rfl hp99) (oSk (sF rfl rfl rfl rfl hp99) (oY rfl (ad (vB hp99) rfl) ?_)))))
                obtain rfl:=sI h
                exact key _ _ (kp4 (kp4 rfl))
             ·clear h; rcases iOs hb98 with ⟨hp96,h⟩ | ⟨hp96,h⟩
              ·refine oY (sT rfl rfl rfl rfl hp96) (yFA lA rfl) (oY (sT rfl rfl rfl rfl hp96) (yL 8 tq rfl rfl rfl) ?_)
               obtain ⟨hg195,h⟩:=gOs h
               refine oY (sT rfl rfl rfl rfl hp96) (yI ki (by decide) hg195.1 hg195.2 (RdL.row 6 rfl) (eL aq (NestP.hn hP36 rfl)) rfl rfl) ?_
               refine oY (sT rfl rfl rfl rfl hp96) (yR (A:=A32) (j:=(Int.toNat 2 * 1)) (v:=.slice ((rdL ys37 2).1.1) ((rdL y28.1.fH 2).length) ((rdL ys37 2).1.2.2)) iR (RdL.row 6 rfl) rfl (aC aq hg195.1 (ah hg195.2 (NestP.hn hP36 rfl)) (congrArg (fun n : Nat => some (Value.slice (rdL ys37 2).1.1 n (rdL ys37 2).1.2.2)) (NestP.len hP36 hg195.1 (ah hg195.2 rfl))))) ?_
               obtain ⟨hg196,h⟩:=gOs h
               refine oY (sT rfl rfl rfl rfl hp96) (yI bZ (by decide) hg196.1 hg196.2 (NestL.rd (PvL.nestL hP36 hV39 (fun W2 hW2 => ⟨hW2.below,trivial,hW2.mem (i:=7) rfl⟩)) hg195.1 (ah hg195.2 rfl)) (eL aA rfl) rfl rfl) ?_
               refine oY (sT rfl rfl rfl rfl hp96) (yR (A:=((rdL ys37 2).1.1)) (j:=(Int.toNat 6 * 1)) (v:=vI (rdL (rdL y28.1.fH 2) 6)) aV (NestL.rd (PvL.nestL hP36 hV39 (fun W2 hW2 => ⟨hW2.below,trivial,hW2.mem (i:=7) rfl⟩)) hg195.1 (ah hg195.2 rfl)) rfl (aC aA hg196.1 (ah hg196.2 rfl) rfl)) (oY (sT rfl rfl rfl rfl hp96) (da rfl rfl) (oY rfl (ab (vB hp96) rfl) ?_))
               obtain rfl:=sI h
               exact key _ _ (kp4 (kp4 rfl))
              ·refine oSk (sF rfl rfl rfl rfl hp96) (oSk (sF rfl rfl rfl rfl hp96) (oSk (sF rfl rfl rfl rfl hp96) (oSk (sF rfl rfl rfl rfl hp96) (oSk (sF rfl rfl rfl rfl hp96) (oSk (sF rfl rfl rfl rfl hp96) (oSk (sF rfl rfl rfl rfl hp96) (oY rfl (ad (vB hp96) rfl) ?_)))))))
               obtain rfl:=sI h
               exact key _ _ (kp4 (kp4 rfl))
            ·clear h; rcases iOs hb95 with ⟨hp93,h⟩ | ⟨hp93,h⟩
             ·refine oY (sT rfl rfl rfl rfl hp93) (yFA lA rfl) (oY (sT rfl rfl rfl rfl hp93) (yL 8 tq rfl rfl rfl) ?_)
              obtain ⟨hg197,h⟩:=gOs h
              refine oY (sT rfl rfl rfl rfl hp93) (yI ki (by decide) hg197.1 hg197.2 (RdL.row 6 rfl) (eL aq (NestP.hn hP36 rfl)) rfl rfl) ?_
              refine oY (sT rfl rfl rfl rfl hp93) (yR (A:=A32) (j:=(Int.toNat 2 * 1)) (v:=.slice ((rdL ys37 2).1.1) ((rdL y28.1.fH 2).length) ((rdL ys37 2).1.2.2)) iR (RdL.row 6 rfl) rfl (aC aq hg197.1 (ah hg197.2 (NestP.hn hP36 rfl)) (congrArg (fun n : Nat => some (Value.slice (rdL ys37 2).1.1 n (rdL ys37 2).1.2.2)) (NestP.len hP36 hg197.1 (ah hg197.2 rfl))))) ?_
              obtain ⟨hg198,h⟩:=gOs h
              refine oY (sT rfl rfl rfl rfl hp93) (yI bZ (by decide) hg198.1 hg198.2 (NestL.rd (PvL.nestL hP36 hV39 (fun W2 hW2 => ⟨hW2.below,trivial,hW2.mem (i:=7) rfl⟩)) hg197.1 (ah hg197.2 rfl)) (eL aA rfl) rfl rfl) ?_
              refine oY (sT rfl rfl rfl rfl hp93) (yR (A:=((rdL ys37 2).1.1)) (j:=(Int.toNat 2 * 1)) (v:=vI (rdL (rdL y28.1.fH 2) 2)) aV (NestL.rd (PvL.nestL hP36 hV39 (fun W2 hW2 => ⟨hW2.below,trivial,hW2.mem (i:=7) rfl⟩)) hg197.1 (ah hg197.2 rfl)) rfl (aC aA hg198.1 (ah hg198.2 rfl) rfl)) (oY (sT rfl rfl rfl rfl hp93) (da rfl rfl) (oY rfl (ab (vB hp93) rfl) ?_))
              obtain rfl:=sI h
              exact key _ _ (kp4 (kp4 (kp rfl)))
             ·refine oSk (sF rfl rfl rfl rfl hp93) (oSk (sF rfl rfl rfl rfl hp93) (oSk (sF rfl rfl rfl rfl hp93) (oSk (sF rfl rfl rfl rfl hp93) (oSk (sF rfl rfl rfl rfl hp93) (oSk (sF rfl rfl rfl rfl hp93) (oSk (sF rfl rfl rfl rfl hp93) (oY rfl (ad (vB hp93) rfl) ?_)))))))
              obtain rfl:=sI h
              exact key _ _ (kp4 (kp4 (kp rfl)))
          ·rcases ao b87 with hp89 | hp89
           ·refine oSk (sF rfl rfl rfl rfl hp89) (oSk (sF rfl rfl rfl rfl hp89) (oSk (sF rfl rfl rfl rfl hp89) (oY rfl (ab (vB hp89) rfl) ?_)))
            exact key _ _ (keep (keep (keep (keep (keep (keep (keep (keep (keep rfl rfl) rfl) rfl) rfl) rfl) rfl) rfl) rfl) (vB (jf hp89)))
           ·refine oY (sT rfl rfl rfl rfl hp89) (yMS rfl) (oY (sT rfl rfl rfl rfl hp89) (bp (us:=[]) rN rfl) (oY (sT rfl rfl rfl rfl hp89) (dl rfl rfl) (oY rfl (ad (vB hp89) rfl) ?_)))
            exact key _ _ (keep (keep (keep (keep (keep (keep (keep (keep (keep rfl rfl) rfl) rfl) rfl) rfl) rfl) rfl) rfl) (vB (jg hp89)))
         ·clear h; rcases iOs hb88 with ⟨hp86,h⟩ | ⟨hp86,h⟩
          ·refine oSk (sF rfl rfl rfl rfl hp86) (oSk (sF rfl rfl rfl rfl hp86) (oSk (sF rfl rfl rfl rfl hp86) (oSk (sF rfl rfl rfl rfl hp86) (oSk (sF rfl rfl rfl rfl hp86) (oSk (sF rfl rfl rfl rfl hp86) (oY rfl (ab (vB hp86) rfl) ?_))))))
           obtain rfl:=sI h
           exact key _ _ (kp4 (kp4 (kp rfl)))
          ·refine oY (sT rfl rfl rfl rfl hp86) (yFA lA rfl) (oY (sT rfl rfl rfl rfl hp86) (yL 8 tq rfl rfl rfl) ?_)
           obtain ⟨hg199,h⟩:=gOs h
           refine oY (sT rfl rfl rfl rfl hp86) (yI ki (by decide) hg199.1 hg199.2 (RdL.row 6 rfl) (eL aq (NestP.hn hP36 rfl)) rfl rfl) ?_
           refine oY (sT rfl rfl rfl rfl hp86) (yR (A:=A32) (j:=(Int.toNat 2 * 1)) (v:=.slice ((rdL ys37 2).1.1) ((rdL y28.1.fH 2).length) ((rdL ys37 2).1.2.2)) iR (RdL.row 6 rfl) rfl (aC aq hg199.1 (ah hg199.2 (NestP.hn hP36 rfl)) (congrArg (fun n : Nat => some (Value.slice (rdL ys37 2).1.1 n (rdL ys37 2).1.2.2)) (NestP.len hP36 hg199.1 (ah hg199.2 rfl))))) (oY (sT rfl rfl rfl rfl hp86) (bp (us:=[]) cV rfl) (oY (sT rfl rfl rfl rfl hp86) (dl rfl rfl) (oY rfl (ad (vB hp86) rfl) ?_)))
           obtain rfl:=sI h
           exact key _ _ (kp4 (kp4 (kp rfl)))
        ·rcases ao ((((((((y26.2 != 0) || (y28.2 != 0)) || (y41.2 != 0)) || (y53.2 != 0)) || (y64.2 != 0)) || (y66.2 != 0)) || (y72.2 != 0)) || (y26.1 != 21)) with hp85 | hp85
         ·refine oSk (sF rfl rfl rfl rfl hp85) (oSk (sF rfl rfl rfl rfl hp85) (oSk (sF rfl rfl rfl rfl hp85) (oSk (sF rfl rfl rfl rfl hp85) (oY rfl (ab (vB hp85) rfl) ?_))))
          exact key _ _ (keep (keep (keep (keep (keep (keep (keep (keep (keep rfl rfl) rfl) rfl) rfl) rfl) rfl) rfl) rfl) (vB (jf hp85)))
         ·refine oY (sT rfl rfl rfl rfl hp85) (yFA lA rfl) (oY (sT rfl rfl rfl rfl hp85) (yL 8 tq rfl rfl rfl) (oY (sT rfl rfl rfl rfl hp85) (bp (us:=[]) us_85 rfl) (oY (sT rfl rfl rfl rfl hp85) (dl rfl rfl) (oY rfl (ad (vB hp85) rfl) ?_))))
          exact key _ _ (keep (keep (keep (keep (keep (keep (keep (keep (keep rfl rfl) rfl) rfl) rfl) rfl) rfl) rfl) rfl) (vB (jg hp85)))
       ·rcases ao (((((((y26.2 != 0) || (y28.2 != 0)) || (y41.2 != 0)) || (y53.2 != 0)) || (y64.2 != 0)) || (y66.2 != 0)) || (y72.2 != 0)) with hp84 | hp84
        ·refine oSk (sF rfl rfl rfl rfl hp84) (oSk (sF rfl rfl rfl rfl hp84) (oY rfl (ab (vB hp84) rfl) ?_))
         exact key _ _ (keep (keep (keep (keep (keep (keep (keep (keep (keep rfl rfl) rfl) rfl) rfl) rfl) rfl) rfl) rfl) (vB (jf hp84)))
        ·refine oY (sT rfl rfl rfl rfl hp84) (yMI rfl) (oY (sT rfl rfl rfl rfl hp84) (dl rfl rfl) (oY rfl (ad (vB hp84) rfl) ?_))
         exact key _ _ (keep (keep (keep (keep (keep (keep (keep (keep (keep rfl rfl) rfl) rfl) rfl) rfl) rfl) rfl) rfl) (vB (jg hp84)))
      ·rcases ao ((((((y26.2 != 0) || (y28.2 != 0)) || (y41.2 != 0)) || (y53.2 != 0)) || (y64.2 != 0)) || (y66.2 != 0)) with hp83 | hp83
       ·refine oSk (sF rfl rfl rfl rfl hp83) (oSk (sF rfl rfl rfl rfl hp83) (oY rfl (ab (vB hp83) rfl) ?_))
        exact key _ _ (keep (keep (keep (keep (keep (keep (keep (keep (keep (keep rfl rfl) rfl) rfl) rfl) rfl) rfl) rfl) rfl) rfl) (vB (jf hp83)))
       ·refine oY (sT rfl rfl rfl rfl hp83) (yMI rfl) (oY (sT rfl rfl rfl rfl hp83) (dl rfl rfl) (oY rfl (ad (vB hp83) rfl) ?_))
        exact key _ _ (keep (keep (keep (keep (keep (keep (keep (keep (keep (keep rfl rfl) rfl) rfl) rfl) rfl) rfl) rfl) rfl) rfl) (vB (jg hp83)))
     ·rcases ao (((((y26.2 != 0) || (y28.2 != 0)) || (y41.2 != 0)) || (y53.2 != 0)) || (y64.2 != 0)) with hp82 | hp82
      ·refine oSk (sF rfl rfl rfl rfl hp82) (oSk (sF rfl rfl rfl rfl hp82) (oY rfl (ab (vB hp82) rfl) ?_))
       exact key _ _ (keep (keep (keep (keep (keep (keep (keep (keep (keep (keep (keep rfl rfl) rfl) rfl) rfl) rfl) rfl) rfl) rfl) rfl) rfl) (vB (jf hp82)))
      ·refine oY (sT rfl rfl rfl rfl hp82) (yMI rfl) (oY (sT rfl rfl rfl rfl hp82) (dl rfl rfl) (oY rfl (ad (vB hp82) rfl) ?_))
       exact key _ _ (keep (keep (keep (keep (keep (keep (keep (keep (keep (keep (keep rfl rfl) rfl) rfl) rfl) rfl) rfl) rfl) rfl) rfl) rfl) (vB (jg hp82)))
    ·rcases ao ((((y26.2 != 0) || (y28.2 != 0)) || (y41.2 != 0)) || (y53.2 != 0)) with hp81 | hp81
     ·refine oSk (sF rfl rfl rfl rfl hp81) (oSk (sF rfl rfl rfl rfl hp81) (oY rfl (ab (vB hp81) rfl) ?_))
      exact key _ _ (keep (keep (keep (keep (keep (keep (keep (keep (keep (keep (keep (keep rfl rfl) rfl) rfl) rfl) rfl) rfl) rfl) rfl) rfl) rfl) rfl) (vB (jf hp81)))
     ·refine oY (sT rfl rfl rfl rfl hp81) (yMI rfl) (oY (sT rfl rfl rfl rfl hp81) (dl rfl rfl) (oY rfl (ad (vB hp81) rfl) ?_))
      exact key _ _ (keep (keep (keep (keep (keep (keep (keep (keep (keep (keep (keep (keep rfl rfl) rfl) rfl) rfl) rfl) rfl) rfl) rfl) rfl) rfl) rfl) (vB (jg hp81)))
   ·rcases ao (((y26.2 != 0) || (y28.2 != 0)) || (y41.2 != 0)) with hp80 | hp80
    ·refine oSk (sF rfl rfl rfl rfl hp80) (oSk (sF rfl rfl rfl rfl hp80) (oY rfl (ab (vB hp80) rfl) ?_))
     exact key _ _ (keep (keep (keep (keep (keep (keep (keep (keep (keep (keep (keep (keep (keep rfl rfl) rfl) rfl) rfl) rfl) rfl) rfl) rfl) rfl) rfl) rfl) rfl) (vB (jf hp80)))
    ·refine oY (sT rfl rfl rfl rfl hp80) (yMI rfl) (oY (sT rfl rfl rfl rfl hp80) (dl rfl rfl) (oY rfl (ad (vB hp80) rfl) ?_))
     exact key _ _ (keep (keep (keep (keep (keep (keep (keep (keep (keep (keep (keep (keep (keep rfl rfl) rfl) rfl) rfl) rfl) rfl) rfl) rfl) rfl) rfl) rfl) rfl) (vB (jg hp80)))
  ·rcases ao ((y26.2 != 0) || (y28.2 != 0)) with hp79 | hp79
   ·refine oSk (sF rfl rfl rfl rfl hp79) (oSk (sF rfl rfl rfl rfl hp79) (oY rfl (ab (vB hp79) rfl) ?_))
    exact key _ _ (keep (keep (keep (keep (keep (keep (keep (keep (keep (keep (keep (keep (keep (keep rfl rfl) rfl) rfl) rfl) rfl) rfl) rfl) rfl) rfl) rfl) rfl) rfl) rfl) (vB (jf hp79)))
   ·refine oY (sT rfl rfl rfl rfl hp79) (yMI rfl) (oY (sT rfl rfl rfl rfl hp79) (dl rfl rfl) (oY rfl (ad (vB hp79) rfl) ?_))
    exact key _ _ (keep (keep (keep (keep (keep (keep (keep (keep (keep (keep (keep (keep (keep (keep rfl rfl) rfl) rfl) rfl) rfl) rfl) rfl) rfl) rfl) rfl) rfl) rfl) rfl) (vB (jg hp79)))
 ·rcases ao (y26.2 != 0) with hp78 | hp78
  ·refine oSk (sF rfl rfl rfl rfl hp78) (oSk (sF rfl rfl rfl rfl hp78) (oY rfl (ab (vB hp78) rfl) ?_))
   exact key _ _ (keep (keep (keep (keep (keep (keep (keep (keep (keep (keep (keep (keep (keep (keep (keep rfl rfl) rfl) rfl) rfl) rfl) rfl) rfl) rfl) rfl) rfl) rfl) rfl) rfl) rfl) (vB (jf hp78)))
  ·refine oY (sT rfl rfl rfl rfl hp78) (yMI rfl) (oY (sT rfl rfl rfl rfl hp78) (dl rfl rfl) (oY rfl (ad (vB hp78) rfl) ?_))
   exact key _ _ (keep (keep (keep (keep (keep (keep (keep (keep (keep (keep (keep (keep (keep (keep (keep rfl rfl) rfl) rfl) rfl) rfl) rfl) rfl) rfl) rfl) rfl) rfl) rfl) rfl) rfl) (vB (jg hp78)))
end Go.Proofs.YthndghnkebboaaaGreat
set_option maxHeartbeats 4000000
set_option maxRecDepth 100000
namespace Go.Proofs.YthndghnkebboaaaGreat
open Go.RowKit (Below)
attribute [local irreducible] OX QX CX EX OpY Calls CallsIn
theorem m5 (p0:TR) (res:Bool) (h:dO p0 = some res) (W:World) (Ab:Option Addr) (n0_1 cb : Nat) (ys0_1:List (Hd × TT)) (hn0_1:n0_1 = p0.fTracks.length) (hr0_1:Rd W Ab n0_1 cb (encL TTrack_cells2 ys0_1)) (hN0_1:NestW W (fun z : TT => z.fK) TSpan_cells ys0_1 p0.fTracks) :
  Calls Tryz.prog 16 [.agg #[vI p0.fPlaces,.slice Ab n0_1 cb]].toArray W fun e W2 => e = .returned (.bool res) ∧ Ext W W2 []:=by
 subst hn0_1
 unfold dO at h
 refine ae (m:=49) Tryz.func16 rfl rfl (nB rfl) (cS (cR ?_))
 refine aW [vI p0.fPlaces,.slice Ab p0.fTracks.length cb] rfl rfl rfl (fun b1 => ?_)
 refine oY rfl (yAB rfl) (oN (eT (cS (cS (cR (oY rfl (yAI rfl) (oN (eT (cB ?_)))))))))
 obtain ⟨u4,hl8,h⟩:=bOs h
 refine bF (fun (s:(Bool × Int)) L tm => ∃ (tm0:Nat → Value),L = [ai b1 24 [vI p0.fPlaces,.slice Ab p0.fTracks.length cb]] ∧ tm = (upd (upd (upd tm0 1 (.pointer (some ⟨b1,0,none⟩))) 2 (.bool s.1)) 3 (vI s.2))) 0 hl8 ⟨_,rfl,(kp (kp (kp rfl)))⟩ ?_ ?_
 ·rintro s3 L tm st ⟨tm0_s3,rfl,rfl⟩ h
  unfold de at h
  refine cS (cS (cR (oY rfl (yMI rfl) (oY rfl (yFA cq rfl) (oY rfl (yL 0 gG rfl rfl rfl) (oY rfl (bp (us:=[]) gF rfl) (oY rfl (bj rfl rfl) (oN (eT ?_)))))))))
  rcases iOs h with ⟨hp5,h⟩ | ⟨hp5,h⟩
  ·refine cT (vB hp5) (cK (eT (cS (cB (cS (cR (oY rfl (yFA cq rfl) (oY rfl (yL 0 gG rfl rfl rfl) (oY rfl (yMI rfl) ?_)))))))))
   obtain ⟨hg6,h⟩:=gOs h
   refine oY rfl (yI jP (by decide) hg6.1 hg6.2 (RdL.arg hr0_1) (eL au (NestP.hn hN0_1.p rfl)) rfl rfl) ?_
   refine oY rfl (yFR (A:=Ab) (j:=(Int.toNat s3.2 * 6)) fq rfl) (oY rfl (yR (A:=Ab) (j:=((Int.toNat s3.2 * 6) + 5)) (v:=.slice ((rdL ys0_1 s3.2).1.1) ((rdL p0.fTracks s3.2).fK.length) ((rdL ys0_1 s3.2).1.2.2)) j8 (RdL.arg hr0_1) rfl (eG au hg6.1 (ah hg6.2 (NestP.hn hN0_1.p rfl)) (congrArg (fun n : Nat => some (Value.slice (rdL ys0_1 s3.2).1.1 n (rdL ys0_1 s3.2).1.2.2)) (NestP.len hN0_1.p hg6.1 (ah hg6.2 rfl))))) (oY rfl (bp (us:=[]) lO rfl) (oY rfl (gK rfl rfl) (oN (eT ?_)))))
   rcases iOs h with ⟨hp7,h⟩ | ⟨hp7,h⟩
   ·refine cT (vB hp7) (cS (cR (oY rfl (yAB rfl) (oN (eT (am (ak (aa ?_))))))))
    obtain rfl:=sI h
    exact ax ⟨rfl,_,rfl,(kp (kp (kp rfl)))⟩
   ·refine cF (vB hp7) (cK (aw (eT (cR (oY rfl (yMI rfl) (oY rfl (aT rfl rfl) (oY rfl (yAI rfl) (oN ?_))))))))
    obtain rfl:=sI h
    exact eN ⟨_,rfl,(kp (kp (kp rfl)))⟩
  ·refine cF (vB hp5) (aH (ag ?_))
   obtain rfl:=sI h
   exact ax ⟨rfl,_,rfl,(kp (kp (kp rfl)))⟩
 ·intro e L tm hJ
  rcases u4 with u9 | u10
  ·dsimp only at h hJ
   obtain ⟨rfl,tm0_u9,rfl,rfl⟩:=hJ
   refine ⟨(by intro hc; cases hc),?_⟩
   refine ak (aa ?_)
   obtain rfl:=sI h
   exact al (.inl rfl) rfl (rVt (v:=.bool u9.1) rfl) (fun W2 hW2 => ⟨rfl,hW2.none⟩)
  ·dsimp only at h hJ
   obtain ⟨rfl,tm0_u10,rfl,rfl⟩:=hJ
   refine ⟨(by intro hc; cases hc),?_⟩
   refine ac (eT (cS (cR (oY rfl (yFA d8 rfl) (oY rfl (yL 0 aV rfl rfl rfl) (oY rfl (jw rfl rfl) (oY rfl (yMB rfl) ?_)))))))
   refine oJ 4 (fun tm0 => (upd (upd (upd tm0 1 (.pointer (some ⟨b1,0,none⟩))) 2 (.bool u10.1)) 28 (.bool ((decide (p0.fPlaces ≤ 8)) || (decide (16 < p0.fPlaces)))))) (fun tm0 => ?_) (fun key => ?_)
   ·refine oY rfl (yAB rfl) (oN (eT (cS (cR (oY rfl (yFA cq rfl) (oY rfl (yL 0 gG rfl rfl rfl) (oY rfl (bp (us:=[]) gF rfl) (oY rfl (jw rfl rfl) (oY rfl (yMB rfl) ?_)))))))))
    refine oJ 11 (fun tm0 => (upd (upd (upd tm0 2 (.bool u10.1)) 4 (.bool ((decide (p0.fPlaces ≤ 8)) || (decide (16 < p0.fPlaces))))) 44 (.bool ((decide ((p0.fTracks.length:Int) ≤ 16)) || ((decide (48 < (p0.fTracks.length:Int))) && (decide ((p0.fTracks.length:Int) ≤ 60))))))) (fun tm0 => ?_) (fun key => ?_)
    ·refine oY rfl (yAB rfl) (oN (eT (cS (cR (oY rfl (yMB rfl) (oY rfl (yMB rfl) ?_))))))
     refine oJ 2 (fun tm0 => (upd (upd tm0 2 (.bool u10.1)) 48 (.bool (((decide (p0.fPlaces ≤ 8)) || (decide (16 < p0.fPlaces))) && ((decide ((p0.fTracks.length:Int) ≤ 16)) || ((decide (48 < (p0.fTracks.length:Int))) && (decide ((p0.fTracks.length:Int) ≤ 60)))))))) (fun tm0 => ?_) (fun key => ?_)
     ·refine oY rfl (yAB rfl) (oN (eT (am ?_)))
      obtain rfl:=sI h
      exact al (.inl rfl) rfl (rVt (v:=.bool (((decide (p0.fPlaces ≤ 8)) || (decide (16 < p0.fPlaces))) && ((decide ((p0.fTracks.length:Int) ≤ 16)) || ((decide (48 < (p0.fTracks.length:Int))) && (decide ((p0.fTracks.length:Int) ≤ 60)))))) rfl) (fun W2 hW2 => ⟨rfl,hW2.none⟩)
     ·rcases ao ((decide (p0.fPlaces ≤ 8)) || (decide (16 < p0.fPlaces))) with hp13 | hp13
      ·refine oY (sT rfl rfl rfl rfl hp13) (yMB rfl) (oY rfl (ab (vB hp13) rfl) ?_)
       exact key _ _ (keep (keep rfl rfl) (vB (fc hp13)))
      ·refine oSk (sF rfl rfl rfl rfl hp13) (oY rfl (ad (vB hp13) rfl) ?_)
       exact key _ _ (keep (keep rfl rfl) (vB (fa hp13)))
    ·rcases ao (decide ((p0.fTracks.length:Int) ≤ 16)) with hp12 | hp12
     ·refine oSk (sF rfl rfl rfl rfl hp12) (oSk (sF rfl rfl rfl rfl hp12) (oSk (sF rfl rfl rfl rfl hp12) (oSk (sF rfl rfl rfl rfl hp12) (oSk (sF rfl rfl rfl rfl hp12) (oSk rfl (oSk rfl (oSk rfl (oSk rfl (oSk (sF rfl rfl rfl rfl hp12) (oY rfl (ab (vB hp12) rfl) ?_))))))))))
      exact key _ _ (keep (keep (keep rfl rfl) rfl) (vB (jf hp12)))
     ·refine oY (sT rfl rfl rfl rfl hp12) (yFA cq rfl) (oY (sT rfl rfl rfl rfl hp12) (yL 0 gG rfl rfl rfl) (oY (sT rfl rfl rfl rfl hp12) (bp (us:=[]) gF rfl) (oY (sT rfl rfl rfl rfl hp12) (gK rfl rfl) (oY (sT rfl rfl rfl rfl hp12) (yMB rfl) ?_))))
      refine oJ 5 (fun tm0 => (upd (upd (upd (upd tm0 2 (.bool u10.1)) 4 (.bool ((decide (p0.fPlaces ≤ 8)) || (decide (16 < p0.fPlaces))))) 33 (.bool (decide ((p0.fTracks.length:Int) ≤ 16)))) 43 (.bool ((decide (48 < (p0.fTracks.length:Int))) && (decide ((p0.fTracks.length:Int) ≤ 60)))))) (fun tm0 => ?_) (fun key => ?_)
      ·refine oY rfl (ad (vB hp12) rfl) ?_
       exact key _ _ (keep (keep (keep rfl rfl) rfl) (vB (jg hp12)))
      ·rcases ao (decide (48 < (p0.fTracks.length:Int))) with hp14 | hp14
       ·refine oY (sT rfl rfl rfl rfl hp14) (yFA cq rfl) (oY (sT rfl rfl rfl rfl hp14) (yL 0 gG rfl rfl rfl) (oY (sT rfl rfl rfl rfl hp14) (bp (us:=[]) gF rfl) (oY (sT rfl rfl rfl rfl hp14) (jw rfl rfl) (oY (sT rfl rfl rfl rfl hp12) (ab (vB hp14) rfl) ?_))))
        exact key _ _ (keep (keep (keep (keep rfl rfl) rfl) rfl) (vB (fc hp14)))
       ·refine oSk (sF rfl rfl rfl rfl hp14) (oSk (sF rfl rfl rfl rfl hp14) (oSk (sF rfl rfl rfl rfl hp14) (oSk (sF rfl rfl rfl rfl hp14) (oY (sT rfl rfl rfl rfl hp12) (ad (vB hp14) rfl) ?_))))
        exact key _ _ (keep (keep (keep (keep rfl rfl) rfl) rfl) (vB (fa hp14)))
   ·rcases ao (decide (p0.fPlaces ≤ 8)) with hp11 | hp11
    ·refine oSk (sF rfl rfl rfl rfl hp11) (oSk (sF rfl rfl rfl rfl hp11) (oSk (sF rfl rfl rfl rfl hp11) (oY rfl (ab (vB hp11) rfl) ?_)))
     exact key _ _ (keep (keep (keep rfl rfl) rfl) (vB (jf hp11)))
    ·refine oY (sT rfl rfl rfl rfl hp11) (yFA d8 rfl) (oY (sT rfl rfl rfl rfl hp11) (yL 0 aV rfl rfl rfl) (oY (sT rfl rfl rfl rfl hp11) (gK rfl rfl) (oY rfl (ad (vB hp11) rfl) ?_)))
     exact key _ _ (keep (keep (keep rfl rfl) rfl) (vB (jg hp11)))
end Go.Proofs.YthndghnkebboaaaGreat
set_option maxHeartbeats 4000000
set_option maxRecDepth 100000
namespace Go.Proofs.YthndghnkebboaaaGreat
open Go.RowKit (Below)
attribute [local irreducible] OX QX CX EX OpY Calls CallsIn
theorem oz (p0:(List TSpan)) (res:Bool) (h:gI p0 = some res) (W:World) (Aa:Option Addr) (n0_0 ca : Nat) (hn0_0:n0_0 = p0.length) (hr0_0:Rd W Aa n0_0 ca (encL TSpan_cells p0)) :
  Calls Tryz.prog 184 [.slice Aa n0_0 ca].toArray W fun e W2 => e = .returned (.bool res) ∧ Ext W W2 []:=by
 subst hn0_0
 unfold gI at h
 refine ae (m:=66) Tryz.func184 rfl rfl (nB rfl) (cS (cR (oY rfl (yAB rfl) (oN (eT (cS (cS (cR (oY rfl (yMS rfl) (oY rfl (bp (us:=[]) lO rfl) (oY rfl (gK rfl rfl) (oN (eT ?_)))))))))))))
 rcases iOs h with ⟨hp1,h⟩ | ⟨hp1,h⟩
 ·refine cT (vB hp1) (cS (cR (oY rfl (yAB rfl) (oN (eT (am (aa ?_)))))))
  obtain rfl:=sI h
  exact al (.inl rfl) rfl (rVt (v:=.bool false) rfl) (fun W2 hW2 => ⟨rfl,hW2.none⟩)
 ·refine cF (vB hp1) (cK (eT (cS (cS (cR (oY rfl (yAI rfl) (oN (eT (cB ?_)))))))))
  obtain ⟨u4,hl27,h⟩:=bOs h
  refine bF (fun (s:(Bool × Int)) L tm => ∃ (tm0:Nat → Value),L = [] ∧ tm = (upd (upd (upd tm0 0 (.slice Aa p0.length ca)) 2 (.bool s.1)) 3 (vI s.2))) 0 hl27 ⟨_,rfl,(kp (kp (kp rfl)))⟩ ?_ ?_
  ·rintro s3 L tm st ⟨tm0_s3,rfl,rfl⟩ h
   unfold dx at h
   refine cS (cS (cR (oY rfl (yMI rfl) (oY rfl (yMS rfl) (oY rfl (bp (us:=[]) lO rfl) (oY rfl (bj rfl rfl) (oN (eT ?_))))))))
   rcases iOs h with ⟨hp5,h⟩ | ⟨hp5,h⟩
   ·refine cT (vB hp5) (cK (eT (cS (cB (cS (cR (oY rfl (yMS rfl) (oY rfl (yMI rfl) ?_))))))))
    obtain ⟨hg6,h⟩:=gOs h
    refine oY rfl (yI jn (by decide) hg6.1 hg6.2 (RdL.arg hr0_0) (eL aD rfl) rfl rfl) ?_
    refine oY rfl (yFR (A:=Aa) (j:=(Int.toNat s3.2 * 2)) f0 rfl) (oY rfl (yR (A:=Aa) (j:=((Int.toNat s3.2 * 2) + 0)) (v:=vI ((rdL p0 s3.2).fLo)) aV (RdL.arg hr0_0) rfl (eG aD hg6.1 (ah hg6.2 rfl) rfl)) ?_)
    obtain ⟨y7,hy8,h⟩:=bOs h
    refine oY rfl (yC [vI ((rdL p0 s3.2).fLo)] qN rfl (fun W2 hW2 => df ((rdL p0 s3.2).fLo) y7 hy8 W2 ) rfl) (oY rfl (yAB rfl) (oN (eT (cS (cR (oY rfl (yMS rfl) (oY rfl (yMI rfl) ?_)))))))
    obtain ⟨hg9,h⟩:=gOs h
    refine oY rfl (yI jn (by decide) hg9.1 hg9.2 (RdL.arg hr0_0) (eL aD rfl) rfl rfl) ?_
    refine oY rfl (yFR (A:=Aa) (j:=(Int.toNat s3.2 * 2)) eC rfl) (oY rfl (yR (A:=Aa) (j:=((Int.toNat s3.2 * 2) + 1)) (v:=vI ((rdL p0 s3.2).fHi)) aV (RdL.arg hr0_0) rfl (eG aD hg9.1 (ah hg9.2 rfl) rfl)) ?_)
    obtain ⟨y10,hy11,h⟩:=bOs h
    refine oY rfl (yC [vI ((rdL p0 s3.2).fHi)] qN rfl (fun W2 hW2 => df ((rdL p0 s3.2).fHi) y10 hy11 W2 ) rfl) (oY rfl (yAB rfl) (oN (eT (cS ?_))))
    refine bh 39 cD (by kernel_rfl) (by kernel_rfl) ?_
    refine qY rfl (yMB rfl) (qY rfl (bQ rfl) (qY rfl (yMB rfl) ?_))
    refine qJ 3 (fun tm0 => (upd (upd (upd (upd (upd (upd (upd tm0 0 (.slice Aa p0.length ca)) 2 (.bool s3.1)) 3 (vI s3.2)) 12 (.bool (decide (s3.2 < (p0.length:Int))))) 4 (.bool y7)) 5 (.bool y10)) 32 (.bool ((!y7) || (!y10))))) (fun tm0 => ?_) (fun key => ?_)
    ·refine qY rfl (yMB rfl) ?_
     obtain ⟨b14,hb15,h⟩:=bOs h
     refine qJ 12 (fun tm0 => (upd (upd (upd (upd (upd (upd (upd tm0 0 (.slice Aa p0.length ca)) 2 (.bool s3.1)) 3 (vI s3.2)) 12 (.bool (decide (s3.2 < (p0.length:Int))))) 4 (.bool y7)) 5 (.bool y10)) 45 (.bool b14))) (fun tm0 => ?_) (fun key => ?_)
     ·refine qY rfl (yMB rfl) ?_
      obtain ⟨b17,hb18,h⟩:=bOs h
      refine qJ 19 (fun tm0 => (upd (upd (upd (upd (upd (upd (upd tm0 0 (.slice Aa p0.length ca)) 2 (.bool s3.1)) 3 (vI s3.2)) 12 (.bool (decide (s3.2 < (p0.length:Int))))) 4 (.bool y7)) 5 (.bool y10)) 65 (.bool b17))) (fun tm0 => ?_) (fun key => ?_)
      ·refine cd (oN (eT ?_))
       rcases iOs h with ⟨hp19,h⟩ | ⟨hp19,h⟩
       ·refine cT (vB hp19) (cS (cR (oY rfl (yAB rfl) (oN (eT (am (ak (aa ?_))))))))
        obtain rfl:=sI h
        exact ax ⟨rfl,_,rfl,(kp (kp (kp rfl)))⟩
       ·refine cF (vB hp19) (cK (aw (eT (cR (oY rfl (yMI rfl) (oY rfl (aT rfl rfl) (oY rfl (yAI rfl) (oN ?_))))))))
        obtain rfl:=sI h
        exact eN ⟨_,rfl,(kp (kp (kp rfl)))⟩
      ·clear h; rcases iOs hb18 with ⟨hp16,h⟩ | ⟨hp16,h⟩
       ·refine av (sF rfl rfl rfl rfl hp16) (av (sF rfl rfl rfl rfl hp16) (av (sF rfl rfl rfl rfl hp16) (av rfl (av rfl (av rfl (av rfl (av rfl (av rfl (av rfl (av rfl (av rfl (av rfl (av rfl (av rfl (av rfl (av rfl (av (sF rfl rfl rfl rfl hp16) (qY rfl (ab (vB hp16) rfl) ?_))))))))))))))))))
        obtain rfl:=sI h
        exact key _ _ (kp4 (kp (kp (kp rfl))))
       ·refine qY (sT rfl rfl rfl rfl hp16) (yMI rfl) (qY (sT rfl rfl rfl rfl hp16) (gK rfl rfl) (qY (sT rfl rfl rfl rfl hp16) (yMB rfl) ?_))
        obtain ⟨b21,hb22,h⟩:=bOs h
        refine qJ 15 (fun tm0 => (upd (upd (upd (upd (upd (upd (upd (upd tm0 0 (.slice Aa p0.length ca)) 2 (.bool s3.1)) 3 (vI s3.2)) 12 (.bool (decide (s3.2 < (p0.length:Int))))) 4 (.bool y7)) 5 (.bool y10)) 46 (.bool b14)) 64 (.bool b21))) (fun tm0 => ?_) (fun key => ?_)
        ·refine qY rfl (ad (vB hp16) rfl) ?_
         obtain rfl:=sI h
         exact key _ _ (kp4 (kp (kp (kp rfl))))
        ·clear h; rcases iOs hb22 with ⟨hp20,h⟩ | ⟨hp20,h⟩
         ·refine qY (sT rfl rfl rfl rfl hp20) (yMS rfl) (qY (sT rfl rfl rfl rfl hp20) (yMI rfl) ?_)
          obtain ⟨hg23,h⟩:=gOs h
          refine qY (sT rfl rfl rfl rfl hp20) (yI jn (by decide) hg23.1 hg23.2 (RdL.arg hr0_0) (eL aD rfl) rfl rfl) ?_
          refine qY (sT rfl rfl rfl rfl hp20) (yFR (A:=Aa) (j:=(Int.toNat s3.2 * 2)) f0 rfl) (qY (sT rfl rfl rfl rfl hp20) (yR (A:=Aa) (j:=((Int.toNat s3.2 * 2) + 0)) (v:=vI ((rdL p0 s3.2).fLo)) aV (RdL.arg hr0_0) rfl (eG aD hg23.1 (ah hg23.2 rfl) rfl)) (qY (sT rfl rfl rfl rfl hp20) (yMS rfl) (qY (sT rfl rfl rfl rfl hp20) (yMI rfl) (qY (sT rfl rfl rfl rfl hp20) (eH rfl rfl) (qY (sT rfl rfl rfl rfl hp20) (y_max rfl rfl) ?_)))))
          obtain ⟨hg24,h⟩:=gOs h
          refine qY (sT rfl rfl rfl rfl hp20) (yI jn (by decide) hg24.1 hg24.2 (RdL.arg hr0_0) (eL aD rfl) rfl rfl) ?_
          refine qY (sT rfl rfl rfl rfl hp20) (yFR (A:=Aa) (j:=(Int.toNat (max 0 (w64 (s3.2 - 1))) * 2)) eC rfl) (qY (sT rfl rfl rfl rfl hp20) (yR (A:=Aa) (j:=((Int.toNat (max 0 (w64 (s3.2 - 1))) * 2) + 1)) (v:=vI ((rdL p0 (max 0 (w64 (s3.2 - 1)))).fHi)) aV (RdL.arg hr0_0) rfl (eG aD hg24.1 (ah hg24.2 rfl) rfl)) (qY (sT rfl rfl rfl rfl hp20) (aT rfl rfl) (qY (sT rfl rfl rfl rfl hp20) (bj rfl rfl) (qY (sT rfl rfl rfl rfl hp16) (ab (vB hp20) rfl) ?_))))
          obtain rfl:=sI h
          exact key _ _ (kp4 (kp4 rfl))
         ·refine av (sF rfl rfl rfl rfl hp20) (av (sF rfl rfl rfl rfl hp20) (av (sF rfl rfl rfl rfl hp20) (av (sF rfl rfl rfl rfl hp20) (av (sF rfl rfl rfl rfl hp20) (av (sF rfl rfl rfl rfl hp20) (av (sF rfl rfl rfl rfl hp20) (av (sF rfl rfl rfl rfl hp20) (av (sF rfl rfl rfl rfl hp20) (av (sF rfl rfl rfl rfl hp20) (av (sF rfl rfl rfl rfl hp20) (av (sF rfl rfl rfl rfl hp20) (av (sF rfl rfl rfl rfl hp20) (av (sF rfl rfl rfl rfl hp20) (qY (sT rfl rfl rfl rfl hp16) (ad (vB hp20) rfl) ?_))))))))))))))
          obtain rfl:=sI h
          exact key _ _ (kp4 (kp4 rfl))
     ·clear h; rcases iOs hb15 with ⟨hp13,h⟩ | ⟨hp13,h⟩
      ·refine av (sF rfl rfl rfl rfl hp13) (av (sF rfl rfl rfl rfl hp13) (av (sF rfl rfl rfl rfl hp13) (av (sF rfl rfl rfl rfl hp13) (av (sF rfl rfl rfl rfl hp13) (av (sF rfl rfl rfl rfl hp13) (av (sF rfl rfl rfl rfl hp13) (av (sF rfl rfl rfl rfl hp13) (av (sF rfl rfl rfl rfl hp13) (av (sF rfl rfl rfl rfl hp13) (av (sF rfl rfl rfl rfl hp13) (qY rfl (ab (vB hp13) rfl) ?_)))))))))))
       obtain rfl:=sI h
       exact key _ _ (kp4 (kp (kp (kp rfl))))
      ·refine qY (sT rfl rfl rfl rfl hp13) (yMS rfl) (qY (sT rfl rfl rfl rfl hp13) (yMI rfl) ?_)
       obtain ⟨hg25,h⟩:=gOs h
       refine qY (sT rfl rfl rfl rfl hp13) (yI jn (by decide) hg25.1 hg25.2 (RdL.arg hr0_0) (eL aD rfl) rfl rfl) ?_
       refine qY (sT rfl rfl rfl rfl hp13) (yFR (A:=Aa) (j:=(Int.toNat s3.2 * 2)) f0 rfl) (qY (sT rfl rfl rfl rfl hp13) (yR (A:=Aa) (j:=((Int.toNat s3.2 * 2) + 0)) (v:=vI ((rdL p0 s3.2).fLo)) aV (RdL.arg hr0_0) rfl (eG aD hg25.1 (ah hg25.2 rfl) rfl)) (qY (sT rfl rfl rfl rfl hp13) (yMS rfl) (qY (sT rfl rfl rfl rfl hp13) (yMI rfl) ?_)))
       obtain ⟨hg26,h⟩:=gOs h
       refine qY (sT rfl rfl rfl rfl hp13) (yI jn (by decide) hg26.1 hg26.2 (RdL.arg hr0_0) (eL aD rfl) rfl rfl) ?_
       refine qY (sT rfl rfl rfl rfl hp13) (yFR (A:=Aa) (j:=(Int.toNat s3.2 * 2)) eC rfl) (qY (sT rfl rfl rfl rfl hp13) (yR (A:=Aa) (j:=((Int.toNat s3.2 * 2) + 1)) (v:=vI ((rdL p0 s3.2).fHi)) aV (RdL.arg hr0_0) rfl (eG aD hg26.1 (ah hg26.2 rfl) rfl)) (qY (sT rfl rfl rfl rfl hp13) (gK rfl rfl) (qY rfl (ad (vB hp13) rfl) ?_)))
       obtain rfl:=sI h
       exact key _ _ (kp4 (kp (kp (kp rfl))))
    ·rcases ao (!y7) with hp12 | hp12
     ·refine av (sF rfl rfl rfl rfl hp12) (av (sF rfl rfl rfl rfl hp12) (qY rfl (ab (vB hp12) rfl) ?_))
      exact key _ _ (keep (keep (keep (keep (keep (keep (keep rfl rfl) rfl) rfl) rfl) rfl) rfl) (vB (jf hp12)))
     ·refine qY (sT rfl rfl rfl rfl hp12) (yMB rfl) (qY (sT rfl rfl rfl rfl hp12) (bQ rfl) (qY rfl (ad (vB hp12) rfl) ?_))
      exact key _ _ (keep (keep (keep (keep (keep (keep (keep rfl rfl) rfl) rfl) rfl) rfl) rfl) (vB (jg hp12)))
   ·refine cF (vB hp5) (aH (ag ?_))
    obtain rfl:=sI h
    exact ax ⟨rfl,_,rfl,(kp (kp (kp rfl)))⟩
  ·intro e L tm hJ
   rcases u4 with u28 | u29
   ·dsimp only at h hJ
    obtain ⟨rfl,tm0_u28,rfl,rfl⟩:=hJ
    refine ⟨(by intro hc; cases hc),?_⟩
    refine ak (aa ?_)
    obtain rfl:=sI h
    exact al (.inl rfl) rfl (rVt (v:=.bool u28.1) rfl) (fun W2 hW2 => ⟨rfl,hW2.none⟩)
   ·dsimp only at h hJ
    obtain ⟨rfl,tm0_u29,rfl,rfl⟩:=hJ
    refine ⟨(by intro hc; cases hc),?_⟩
    refine ac (eT (cS (cR (oY rfl (yAB rfl) (oN (eT (am ?_)))))))
    obtain rfl:=sI h
    exact al (.inl rfl) rfl (rVt (v:=.bool true) rfl) (fun W2 hW2 => ⟨rfl,hW2.none⟩)
theorem oS (p0:TR) (p1:TT) (res:Bool) (h:iP p0 p1 = some res) (W:World) (Ab:Option Addr) (n0_1 cb : Nat) (ys0_1:List (Hd × TT)) (hn0_1:n0_1 = p0.fTracks.length) (hr0_1:Rd W Ab n0_1 cb (encL TTrack_cells2 ys0_1)) (hN0_1:NestW W (fun z : TT => z.fK) TSpan_cells ys0_1 p0.fTracks) (A1_5:Option Addr) (n1_5 c1_5 : Nat) (hn1_5:n1_5 = p1.fK.length) (hr1_5:Rd W A1_5 n1_5 c1_5 (encL TSpan_cells p1.fK)) :
  Calls Tryz.prog 160 [.agg #[vI p0.fPlaces,.slice Ab n0_1 cb],.agg #[vI p1.fID,vI p1.fFrom,vI p1.fTo,vI p1.fLong,vI p1.fToll,.slice A1_5 n1_5 c1_5]].toArray W fun e W2 => e = .returned (.bool res) ∧ Ext W W2 []:=by
 subst hn0_1
 subst hn1_5
 unfold iP at h
 refine ae (m:=58) Tryz.func160 rfl rfl (nB rfl) (cS (cR ?_))
 refine aW [vI p0.fPlaces,.slice Ab p0.fTracks.length cb] rfl rfl rfl (fun b1 => ?_)
 refine aW [vI p1.fID,vI p1.fFrom,vI p1.fTo,vI p1.fLong,vI p1.fToll,.slice A1_5 p1.fK.length c1_5] rfl rfl rfl (fun b2 => ?_)
 refine oY rfl (yAB rfl) (oN (eT (cS (cR (oY rfl (yFA gB rfl) (oY rfl (yL 1 aV rfl rfl rfl) ?_))))))
 obtain ⟨y3,hy4,h⟩:=bOs h
 refine oY rfl (yC [vI p1.fID,vI 1,vI 1099511627776] go rfl (fun W2 hW2 => aR p1.fID 1 1099511627776 y3 hy4 W2 ) rfl) (oY rfl (yAB rfl) (oN (eT (cS (cR (oY rfl (yFA jN rfl) (oY rfl (yL 1 aV rfl rfl rfl) (oY rfl (yFA d8 rfl) (oY rfl (yL 0 aV rfl rfl rfl) (oY rfl (eH rfl rfl) ?_))))))))))
 obtain ⟨y5,hy6,h⟩:=bOs h
 refine oY rfl (yC [vI p1.fFrom,vI 0,vI (w64 (p0.fPlaces - 1))] go rfl (fun W2 hW2 => aR p1.fFrom 0 (w64 (p0.fPlaces - 1)) y5 hy6 W2 ) rfl) (oY rfl (yAB rfl) (oN (eT (cS (cR (oY rfl (yFA iV rfl) (oY rfl (yL 1 aV rfl rfl rfl) (oY rfl (yFA d8 rfl) (oY rfl (yL 0 aV rfl rfl rfl) (oY rfl (eH rfl rfl) ?_))))))))))
 obtain ⟨y7,hy8,h⟩:=bOs h
 refine oY rfl (yC [vI p1.fTo,vI 0,vI (w64 (p0.fPlaces - 1))] go rfl (fun W2 hW2 => aR p1.fTo 0 (w64 (p0.fPlaces - 1)) y7 hy8 W2 ) rfl) (oY rfl (yAB rfl) (oN (eT (cS (cR (oY rfl (yFA hQ rfl) (oY rfl (yL 1 aV rfl rfl rfl) ?_)))))))
 obtain ⟨y9,hy10,h⟩:=bOs h
 refine oY rfl (yC [vI p1.fLong,vI 1,vI 72] go rfl (fun W2 hW2 => aR p1.fLong 1 72 y9 hy10 W2 ) rfl) (oY rfl (yAB rfl) (oN (eT (cS (cR (oY rfl (yFA jK rfl) (oY rfl (yL 1 aV rfl rfl rfl) ?_)))))))
 obtain ⟨y11,hy12,h⟩:=bOs h
 refine oY rfl (yC [vI p1.fToll,vI 0,vI 40] go rfl (fun W2 hW2 => aR p1.fToll 0 40 y11 hy12 W2 ) rfl) (oY rfl (yAB rfl) (oN (eT (cS (cR (oY rfl (yFA fq rfl) (oY rfl (yL 1 j8 rfl rfl rfl) ?_)))))))
 obtain ⟨y13,hy14,h⟩:=bOs h
 refine oY rfl (yC [.slice A1_5 p1.fK.length c1_5] go_184 rfl (fun W2 hW2 => oz p1.fK y13 hy14 W2 A1_5 p1.fK.length c1_5 rfl ((RdL.arg hr1_5) W2 hW2)) rfl) (oY rfl (yAB rfl) (oN (eT (cS (cR (oY rfl (yMB rfl) (oY rfl (yMB rfl) ?_)))))))
 refine oJ 2 (fun tm0 => (upd (upd (upd (upd (upd (upd (upd tm0 3 (.pointer (some ⟨b2,0,none⟩))) 4 (.bool false)) 7 (.bool y7)) 8 (.bool y9)) 9 (.bool y11)) 10 (.bool y13)) 38 (.bool (y3 && y5)))) (fun tm0 => ?_) (fun key => ?_)
 ·refine oY rfl (yMB rfl) ?_
  refine oJ 2 (fun tm0 => (upd (upd (upd (upd (upd (upd tm0 3 (.pointer (some ⟨b2,0,none⟩))) 4 (.bool false)) 8 (.bool y9)) 9 (.bool y11)) 10 (.bool y13)) 41 (.bool ((y3 && y5) && y7)))) (fun tm0 => ?_) (fun key => ?_)
  ·refine oY rfl (yMB rfl) ?_
   refine oJ 6 (fun tm0 => (upd (upd (upd (upd (upd tm0 4 (.bool false)) 8 (.bool y9)) 9 (.bool y11)) 10 (.bool y13)) 48 (.bool (((y3 && y5) && y7) && (p1.fFrom != p1.fTo))))) (fun tm0 => ?_) (fun key => ?_)
   ·refine oY rfl (yMB rfl) ?_
    refine oJ 2 (fun tm0 => (upd (upd (upd (upd tm0 4 (.bool false)) 9 (.bool y11)) 10 (.bool y13)) 51 (.bool ((((y3 && y5) && y7) && (p1.fFrom != p1.fTo)) && y9)))) (fun tm0 => ?_) (fun key => ?_)
    ·refine oY rfl (yMB rfl) ?_
     refine oJ 2 (fun tm0 => (upd (upd (upd tm0 4 (.bool false)) 10 (.bool y13)) 54 (.bool (((((y3 && y5) && y7) && (p1.fFrom != p1.fTo)) && y9) && y11)))) (fun tm0 => ?_) (fun key => ?_)
     ·refine oY rfl (yMB rfl) ?_
      refine oJ 2 (fun tm0 => (upd (upd tm0 4 (.bool false)) 57 (.bool ((((((y3 && y5) && y7) && (p1.fFrom != p1.fTo)) && y9) && y11) && y13)))) (fun tm0 => ?_) (fun key => ?_)
      ·refine oY rfl (yAB rfl) (oN (eT (am ?_)))
       obtain rfl:=sI h
       exact al (.inl rfl) rfl (rVt (v:=.bool ((((((y3 && y5) && y7) && (p1.fFrom != p1.fTo)) && y9) && y11) && y13)) rfl) (fun W2 hW2 => ⟨rfl,hW2.none⟩)
      ·rcases ao (((((y3 && y5) && y7) && (p1.fFrom != p1.fTo)) && y9) && y11) with hp20 | hp20
       ·refine oY (sT rfl rfl rfl rfl hp20) (yMB rfl) (oY rfl (ab (vB hp20) rfl) ?_)
        exact key _ _ (keep (keep rfl rfl) (vB (fc hp20)))
       ·refine oSk (sF rfl rfl rfl rfl hp20) (oY rfl (ad (vB hp20) rfl) ?_)
        exact key _ _ (keep (keep rfl rfl) (vB (fa hp20)))
     ·rcases ao ((((y3 && y5) && y7) && (p1.fFrom != p1.fTo)) && y9) with hp19 | hp19
      ·refine oY (sT rfl rfl rfl rfl hp19) (yMB rfl) (oY rfl (ab (vB hp19) rfl) ?_)
       exact key _ _ (keep (keep (keep rfl rfl) rfl) (vB (fc hp19)))
      ·refine oSk (sF rfl rfl rfl rfl hp19) (oY rfl (ad (vB hp19) rfl) ?_)
       exact key _ _ (keep (keep (keep rfl rfl) rfl) (vB (fa hp19)))
    ·rcases ao (((y3 && y5) && y7) && (p1.fFrom != p1.fTo)) with hp18 | hp18
     ·refine oY (sT rfl rfl rfl rfl hp18) (yMB rfl) (oY rfl (ab (vB hp18) rfl) ?_)
      exact key _ _ (keep (keep (keep (keep rfl rfl) rfl) rfl) (vB (fc hp18)))
     ·refine oSk (sF rfl rfl rfl rfl hp18) (oY rfl (ad (vB hp18) rfl) ?_)
      exact key _ _ (keep (keep (keep (keep rfl rfl) rfl) rfl) (vB (fa hp18)))
   ·rcases ao ((y3 && y5) && y7) with hp17 | hp17
    ·refine oY (sT rfl rfl rfl rfl hp17) (yFA jN rfl) (oY (sT rfl rfl rfl rfl hp17) (yL 1 aV rfl rfl rfl) (oY (sT rfl rfl rfl rfl hp17) (yFA iV rfl) (oY (sT rfl rfl rfl rfl hp17) (yL 1 aV rfl rfl rfl) (oY (sT rfl rfl rfl rfl hp17) (dl rfl rfl) (oY rfl (ab (vB hp17) rfl) ?_)))))
     exact key _ _ (keep (keep (keep (keep (keep rfl rfl) rfl) rfl) rfl) (vB (fc hp17)))
    ·refine oSk (sF rfl rfl rfl rfl hp17) (oSk (sF rfl rfl rfl rfl hp17) (oSk (sF rfl rfl rfl rfl hp17) (oSk (sF rfl rfl rfl rfl hp17) (oSk (sF rfl rfl rfl rfl hp17) (oY rfl (ad (vB hp17) rfl) ?_)))))
     exact key _ _ (keep (keep (keep (keep (keep rfl rfl) rfl) rfl) rfl) (vB (fa hp17)))
  ·rcases ao (y3 && y5) with hp16 | hp16
   ·refine oY (sT rfl rfl rfl rfl hp16) (yMB rfl) (oY rfl (ab (vB hp16) rfl) ?_)
    exact key _ _ (keep (keep (keep (keep (keep (keep rfl rfl) rfl) rfl) rfl) rfl) (vB (fc hp16)))
   ·refine oSk (sF rfl rfl rfl rfl hp16) (oY rfl (ad (vB hp16) rfl) ?_)
    exact key _ _ (keep (keep (keep (keep (keep (keep rfl rfl) rfl) rfl) rfl) rfl) (vB (fa hp16)))
 ·rcases ao y3 with hp15 | hp15
  ·refine oY (sT rfl rfl rfl rfl hp15) (yMB rfl) (oY rfl (ab (vB hp15) rfl) ?_)
   exact key _ _ (keep (keep (keep (keep (keep (keep (keep rfl rfl) rfl) rfl) rfl) rfl) rfl) (vB (fc hp15)))
  ·refine oSk (sF rfl rfl rfl rfl hp15) (oY rfl (ad (vB hp15) rfl) ?_)
   exact key _ _ (keep (keep (keep (keep (keep (keep (keep rfl rfl) rfl) rfl) rfl) rfl) rfl) (vB (fa hp15)))
theorem oO (p0:TR) (res:Int) (h:iO p0 = some res) (W:World) (Ab:Option Addr) (n0_1 cb : Nat) (ys0_1:List (Hd × TT)) (hn0_1:n0_1 = p0.fTracks.length) (hr0_1:Rd W Ab n0_1 cb (encL TTrack_cells2 ys0_1)) (hN0_1:NestW W (fun z : TT => z.fK) TSpan_cells ys0_1 p0.fTracks) :
  Calls Tryz.prog 125 [.agg #[vI p0.fPlaces,.slice Ab n0_1 cb]].toArray W fun e W2 => e = .returned (vI res) ∧ Ext W W2 []:=by
 subst hn0_1
 unfold iO at h
 refine ae (m:=52) Tryz.func125 rfl rfl (nB rfl) (cS (cR ?_))
 refine aW [vI p0.fPlaces,.slice Ab p0.fTracks.length cb] rfl rfl rfl (fun b1 => ?_)
 refine oY rfl (yAI rfl) (oN (eT (cS (cS (cR (oY rfl (yFA d8 rfl) (oY rfl (yL 0 aV rfl rfl rfl) (oY rfl (bj rfl rfl) (oY rfl (yMB rfl) ?_)))))))))
 refine oJ 4 (fun tm0 => (upd (upd (upd tm0 1 (.pointer (some ⟨b1,0,none⟩))) 2 (vI 0)) 13 (.bool ((decide (p0.fPlaces < 1)) || (decide (16 < p0.fPlaces)))))) (fun tm0 => ?_) (fun key => ?_)
 ·refine oN (eT ?_)
  rcases iOs h with ⟨hp3,h⟩ | ⟨hp3,h⟩
  ·refine cT (vB hp3) (cS (cR (oY rfl (yAI rfl) (oN (eT (am (aa ?_)))))))
   obtain rfl:=sI h
   exact al (.inl rfl) rfl (rVt (v:=vI 1) rfl) (fun W2 hW2 => ⟨rfl,hW2.none⟩)
  ·refine cF (vB hp3) (cK (eT (cS (cS (cR (oY rfl (yFA cq rfl) (oY rfl (yL 0 gG rfl rfl rfl) (oY rfl (bp (us:=[]) gF rfl) (oY rfl (gK rfl rfl) (oN (eT ?_)))))))))))
   rcases iOs h with ⟨hp4,h⟩ | ⟨hp4,h⟩
   ·refine cT (vB hp4) (cS (cR (oY rfl (yAI rfl) (oN (eT (am (aa ?_)))))))
    obtain rfl:=sI h
    exact al (.inl rfl) rfl (rVt (v:=vI 2) rfl) (fun W2 hW2 => ⟨rfl,hW2.none⟩)
   ·refine cF (vB hp4) (cK (eT (cS (cS (cR (oY rfl (yAI rfl) (oN (eT (cB ?_)))))))))
    obtain ⟨u7,hl23,h⟩:=bOs h
    refine bF (fun (s:(Int × Int)) L tm => ∃ (tm0:Nat → Value),L = [ai b1 24 [vI p0.fPlaces,.slice Ab p0.fTracks.length cb]] ∧ tm = (upd (upd (upd tm0 1 (.pointer (some ⟨b1,0,none⟩))) 2 (vI s.1)) 3 (vI s.2))) 0 hl23 ⟨_,rfl,(kp (kp (kp rfl)))⟩ ?_ ?_
    ·rintro s6 L tm st ⟨tm0_s6,rfl,rfl⟩ h
     unfold fk at h
     refine cS (cS (cR (oY rfl (yMI rfl) (oY rfl (yFA cq rfl) (oY rfl (yL 0 gG rfl rfl rfl) (oY rfl (bp (us:=[]) gF rfl) (oY rfl (bj rfl rfl) (oN (eT ?_)))))))))
     rcases iOs h with ⟨hp8,h⟩ | ⟨hp8,h⟩
     ·refine cT (vB hp8) (cK (eT (cS (cB (cS ?_)))))
      refine bh 8 cD (by kernel_rfl) (by kernel_rfl) ?_
      refine qY rfl (yN 0 [vI p0.fPlaces,.slice Ab p0.fTracks.length cb] dM rfl rfl rfl) (qY rfl (yFA cq rfl) (qY rfl (yL 0 gG rfl rfl rfl) (qY rfl (yMI rfl) ?_)))
      obtain ⟨hg9,h⟩:=gOs h
      refine qY rfl (yI jP (by decide) hg9.1 hg9.2 (RdL.arg hr0_1) (eL au (NestP.hn hN0_1.p rfl)) rfl rfl) ?_
      refine qY rfl (yM (A:=Ab) (j:=(Int.toNat s6.2 * 6)) [vI ((rdL p0.fTracks s6.2).fID),vI ((rdL p0.fTracks s6.2).fFrom),vI ((rdL p0.fTracks s6.2).fTo),vI ((rdL p0.fTracks s6.2).fLong),vI ((rdL p0.fTracks s6.2).fToll),.slice ((rdL ys0_1 s6.2).1.1) ((rdL p0.fTracks s6.2).fK.length) ((rdL ys0_1 s6.2).1.2.2)] i8 (Nat.succ_pos _) (RdL.arg hr0_1) rfl (kw (cx (NestP.snd hN0_1.p s6.2) (NestP.len hN0_1.p hg9.1 (ah hg9.2 rfl))).symm (bl au hg9.1 (ah hg9.2 (NestP.hn hN0_1.p rfl))))) ?_
      obtain ⟨y10,hy11,h⟩:=bOs h
      refine qY rfl (yC [.agg #[vI p0.fPlaces,.slice Ab p0.fTracks.length cb],.agg #[vI ((rdL p0.fTracks s6.2).fID),vI ((rdL p0.fTracks s6.2).fFrom),vI ((rdL p0.fTracks s6.2).fTo),vI ((rdL p0.fTracks s6.2).fLong),vI ((rdL p0.fTracks s6.2).fToll),.slice ((rdL ys0_1 s6.2).1.1) ((rdL p0.fTracks s6.2).fK.length) ((rdL ys0_1 s6.2).1.2.2)]] go_160 rfl (fun W2 hW2 => oS p0 (TT.mk ((rdL p0.fTracks s6.2).fID) ((rdL p0.fTracks s6.2).fFrom) ((rdL p0.fTracks s6.2).fTo) ((rdL p0.fTracks s6.2).fLong) ((rdL p0.fTracks s6.2).fToll) ((rdL p0.fTracks s6.2).fK)) y10 hy11 W2 Ab p0.fTracks.length cb ys0_1 rfl ((RdL.arg hr0_1) W2 hW2) (NestL.at (NestL.arg hN0_1) W2 hW2) ((rdL ys0_1 s6.2).1.1) ((rdL p0.fTracks s6.2).fK.length) ((rdL ys0_1 s6.2).1.2.2) rfl ((NestL.rd (NestL.arg hN0_1) hg9.1 (ah hg9.2 rfl)) W2 hW2)) rfl) (qY rfl (yAB rfl) (cd (oN (eT (cS (cS (cR (oY rfl (yMB rfl) (oY rfl (bQ rfl) (oN (eT ?_)))))))))))
      rcases iOs h with ⟨hp12,h⟩ | ⟨hp12,h⟩
      ·refine cT (vB hp12) (cS (cR (oY rfl (yAI rfl) (oN (eT (am (aa (ak (aa ?_)))))))))
       obtain rfl:=sI h
       exact ax ⟨rfl,_,rfl,(kp (kp (kp rfl)))⟩
      ·refine cF (vB hp12) (cK (eT (cS (cR (oY rfl (yAI rfl) (oN (eT (cB ?_))))))))
       obtain ⟨u15,hl20,h⟩:=bOs h
       refine bF (fun (s:(Int × Int)) L tm => ∃ (tm0:Nat → Value),L = [ai b1 24 [vI p0.fPlaces,.slice Ab p0.fTracks.length cb]] ∧ tm = (upd (upd (upd (upd (upd (upd (upd tm0 1 (.pointer (some ⟨b1,0,none⟩))) 2 (vI s.1)) 3 (vI s6.2)) 22 (.bool (decide (s6.2 < (p0.fTracks.length:Int))))) 4 (.bool y10)) 33 (.bool (!y10))) 5 (vI s.2))) 2 hl20 ⟨_,rfl,(kp4 (kp (kp (kp rfl))))⟩ ?_ ?_
       ·rintro s14 L tm st ⟨tm0_s14,rfl,rfl⟩ h
        unfold fe at h
        refine cS (cS (cR (oY rfl (yMI rfl) (oY rfl (yMI rfl) (oY rfl (bj rfl rfl) (oN (eT ?_)))))))
        rcases iOs h with ⟨hp16,h⟩ | ⟨hp16,h⟩
        ·refine cT (vB hp16) (cK (eT (cS (cB (cS ?_)))))
         refine bh 13 cD (by kernel_rfl) (by kernel_rfl) ?_
         refine qY rfl (yFA cq rfl) (qY rfl (yL 0 gG rfl rfl rfl) (qY rfl (yMI rfl) ?_))
         obtain ⟨hg17,h⟩:=gOs h
         refine qY rfl (yI jP (by decide) hg17.1 hg17.2 (RdL.arg hr0_1) (eL au (NestP.hn hN0_1.p rfl)) rfl rfl) ?_
         refine qY rfl (yFR (A:=Ab) (j:=(Int.toNat s14.2 * 6)) gB rfl) (qY rfl (yR (A:=Ab) (j:=((Int.toNat s14.2 * 6) + 0)) (v:=vI ((rdL p0.fTracks s14.2).fID)) aV (RdL.arg hr0_1) rfl (eG au hg17.1 (ah hg17.2 (NestP.hn hN0_1.p rfl)) (congrArg (fun z : TT => some (Value.int .i64 z.fID)) (NestP.snd hN0_1.p s14.2)))) (qY rfl (yFA cq rfl) (qY rfl (yL 0 gG rfl rfl rfl) (qY rfl (yMI rfl) ?_))))
         obtain ⟨hg18,h⟩:=gOs h
         refine qY rfl (yI jP (by decide) hg18.1 hg18.2 (RdL.arg hr0_1) (eL au (NestP.hn hN0_1.p rfl)) rfl rfl) ?_
         refine qY rfl (yFR (A:=Ab) (j:=(Int.toNat s6.2 * 6)) gB rfl) (qY rfl (yR (A:=Ab) (j:=((Int.toNat s6.2 * 6) + 0)) (v:=vI ((rdL p0.fTracks s6.2).fID)) aV (RdL.arg hr0_1) rfl (eG au hg18.1 (ah hg18.2 (NestP.hn hN0_1.p rfl)) (congrArg (fun z : TT => some (Value.int .i64 z.fID)) (NestP.snd hN0_1.p s6.2)))) (qY rfl (da rfl rfl) (cd (oN (eT ?_)))))
         rcases iOs h with ⟨hp19,h⟩ | ⟨hp19,h⟩
         ·refine cT (vB hp19) (cS (cR (oY rfl (yAI rfl) (oN (eT (am (ak (aa ?_))))))))
          obtain rfl:=sI h
          exact ax ⟨rfl,_,rfl,(kp4 (kp (kp (kp rfl))))⟩
         ·refine cF (vB hp19) (cK (aw (eT (cR (oY rfl (yMI rfl) (oY rfl (aT rfl rfl) (oY rfl (yAI rfl) (oN ?_))))))))
          obtain rfl:=sI h
          exact eN ⟨_,rfl,(kp4 (kp (kp (kp rfl))))⟩
        ·refine cF (vB hp16) (aH (ag ?_))
         obtain rfl:=sI h
         exact ax ⟨rfl,_,rfl,(kp4 (kp (kp (kp rfl))))⟩
       ·intro e L tm hJ
        rcases u15 with u21 | u22
        ·dsimp only at h hJ
         obtain ⟨rfl,tm0_u21,rfl,rfl⟩:=hJ
         refine ⟨(by intro hc; cases hc),?_⟩
         refine ak (ak (aa ?_))
         obtain rfl:=sI h
         exact ax ⟨rfl,_,rfl,(kp (kp (kp rfl)))⟩
        ·dsimp only at h hJ
         obtain ⟨rfl,tm0_u22,rfl,rfl⟩:=hJ
         refine ⟨(by intro hc; cases hc),?_⟩
         refine ac (aw (eT (cR (oY rfl (yMI rfl) (oY rfl (aT rfl rfl) (oY rfl (yAI rfl) (oN ?_)))))))
         obtain rfl:=sI h
         exact eN ⟨_,rfl,(kp (kp (kp rfl)))⟩
     ·refine cF (vB hp8) (aH (ag ?_))
      obtain rfl:=sI h
      exact ax ⟨rfl,_,rfl,(kp (kp (kp rfl)))⟩
    ·intro e L tm hJ
     rcases u7 with u24 | u25
     ·dsimp only at h hJ
      obtain ⟨rfl,tm0_u24,rfl,rfl⟩:=hJ
      refine ⟨(by intro hc; cases hc),?_⟩
      refine ak (aa ?_)
      obtain rfl:=sI h
      exact al (.inl rfl) rfl (rVt (v:=vI u24.1) rfl) (fun W2 hW2 => ⟨rfl,hW2.none⟩)
     ·dsimp only at h hJ
      obtain ⟨rfl,tm0_u25,rfl,rfl⟩:=hJ
      refine ⟨(by intro hc; cases hc),?_⟩
      refine ac (eT (cS (cR (oY rfl (yAI rfl) (oN (eT (am ?_)))))))
      obtain rfl:=sI h
      exact al (.inl rfl) rfl (rVt (v:=vI 0) rfl) (fun W2 hW2 => ⟨rfl,hW2.none⟩)
 ·rcases ao (decide (p0.fPlaces < 1)) with hp2 | hp2
  ·refine oSk (sF rfl rfl rfl rfl hp2) (oSk (sF rfl rfl rfl rfl hp2) (oSk (sF rfl rfl rfl rfl hp2) (oY rfl (ab (vB hp2) rfl) ?_)))
   exact key _ _ (keep (keep (keep rfl rfl) rfl) (vB (jf hp2)))
  ·refine oY (sT rfl rfl rfl rfl hp2) (yFA d8 rfl) (oY (sT rfl rfl rfl rfl hp2) (yL 0 aV rfl rfl rfl) (oY (sT rfl rfl rfl rfl hp2) (gK rfl rfl) (oY rfl (ad (vB hp2) rfl) ?_)))
   exact key _ _ (keep (keep (keep rfl rfl) rfl) (vB (jg hp2)))
theorem je (p0:TR) (p1:Int) (p2:Int) (p3:Int) (p4:Int) (res:Int) (h:fy p0 p1 p2 p3 p4 = some res) (W:World) (Ab:Option Addr) (n0_1 cb : Nat) (ys0_1:List (Hd × TT)) (hn0_1:n0_1 = p0.fTracks.length) (hr0_1:Rd W Ab n0_1 cb (encL TTrack_cells2 ys0_1)) (hN0_1:NestW W (fun z : TT => z.fK) TSpan_cells ys0_1 p0.fTracks) :
  Calls Tryz.prog 73 [.agg #[vI p0.fPlaces,.slice Ab n0_1 cb],vI p1,vI p2,vI p3,vI p4].toArray W fun e W2 => e = .returned (vI res) ∧ Ext W W2 []:=by
 subst hn0_1
 unfold fy at h
 refine ae (m:=49) Tryz.func73 rfl rfl (nB rfl) (cS (cR ?_))
 refine aW [vI p0.fPlaces,.slice Ab p0.fTracks.length cb] rfl rfl rfl (fun b1 => ?_)
 refine oY rfl (yAI rfl) (oN (eT (cS (cR (oY rfl (yN 0 [vI p0.fPlaces,.slice Ab p0.fTracks.length cb] dM rfl rfl rfl) ?_)))))
 obtain ⟨y2,hy3,h⟩:=bOs h
 refine oY rfl (yC [.agg #[vI p0.fPlaces,.slice Ab p0.fTracks.length cb]] go_125 rfl (fun W2 hW2 => oO p0 y2 hy3 W2 Ab p0.fTracks.length cb ys0_1 rfl ((RdL.arg hr0_1) W2 hW2) (NestL.at (NestL.arg hN0_1) W2 hW2)) rfl) (oY rfl (yAI rfl) (oN (eT (cS (cS (cR (oY rfl (yMI rfl) (oY rfl (dl rfl rfl) (oN (eT ?_))))))))))
 rcases iOs h with ⟨hp4,h⟩ | ⟨hp4,h⟩
 ·refine cT (vB hp4) (cS (cR (oY rfl (yMI rfl) (oY rfl (yAI rfl) (oN (eT (am (aa ?_))))))))
  obtain rfl:=sI h
  exact al (.inl rfl) rfl (rVt (v:=vI y2) rfl) (fun W2 hW2 => ⟨rfl,hW2.none⟩)
 ·refine cF (vB hp4) (cK (eT (cS (cR (oY rfl (yMI rfl) (oY rfl (yFA d8 rfl) (oY rfl (yL 0 aV rfl rfl rfl) (oY rfl (eH rfl rfl) ?_))))))))
  obtain ⟨y5,hy6,h⟩:=bOs h
  refine oY rfl (yC [vI p1,vI 0,vI (w64 (p0.fPlaces - 1))] go rfl (fun W2 hW2 => aR p1 0 (w64 (p0.fPlaces - 1)) y5 hy6 W2 ) rfl) (oY rfl (yAB rfl) (oN (eT (cS (cR (oY rfl (yMI rfl) (oY rfl (yFA d8 rfl) (oY rfl (yL 0 aV rfl rfl rfl) (oY rfl (eH rfl rfl) ?_)))))))))
  obtain ⟨y7,hy8,h⟩:=bOs h
  refine oY rfl (yC [vI p2,vI 0,vI (w64 (p0.fPlaces - 1))] go rfl (fun W2 hW2 => aR p2 0 (w64 (p0.fPlaces - 1)) y7 hy8 W2 ) rfl) (oY rfl (yAB rfl) (oN (eT (cS (cR (oY rfl (yMI rfl) ?_))))))
  obtain ⟨y9,hy10,h⟩:=bOs h
  refine oY rfl (yC [vI p3] qN rfl (fun W2 hW2 => df p3 y9 hy10 W2 ) rfl) (oY rfl (yAB rfl) (oN (eT (cS (cR (oY rfl (yMI rfl) ?_))))))
  obtain ⟨y11,hy12,h⟩:=bOs h
  refine oY rfl (yC [vI p4,vI 0,vI 60] go rfl (fun W2 hW2 => aR p4 0 60 y11 hy12 W2 ) rfl) (oY rfl (yAB rfl) (oN (eT (cS (cS (cR (oY rfl (yMB rfl) (oY rfl (bQ rfl) (oY rfl (yMB rfl) ?_)))))))))
  refine oJ 3 (fun tm0 => (upd (upd (upd (upd tm0 10 (vI 0)) 14 (.bool y9)) 15 (.bool y11)) 40 (.bool ((!y5) || (!y7))))) (fun tm0 => ?_) (fun key => ?_)
  ·refine oY rfl (yMB rfl) ?_
   refine oJ 3 (fun tm0 => (upd (upd (upd tm0 10 (vI 0)) 15 (.bool y11)) 44 (.bool (((!y5) || (!y7)) || (!y9))))) (fun tm0 => ?_) (fun key => ?_)
   ·refine oY rfl (yMB rfl) ?_
    refine oJ 3 (fun tm0 => (upd (upd tm0 10 (vI 0)) 48 (.bool ((((!y5) || (!y7)) || (!y9)) || (!y11))))) (fun tm0 => ?_) (fun key => ?_)
    ·refine oN (eT ?_)
     rcases iOs h with ⟨hp16,h⟩ | ⟨hp16,h⟩
     ·refine cT (vB hp16) (cS (cR (oY rfl (yAI rfl) (oN (eT (am (aa ?_)))))))
      obtain rfl:=sI h
      exact al (.inl rfl) rfl (rVt (v:=vI 1) rfl) (fun W2 hW2 => ⟨rfl,hW2.none⟩)
     ·refine cF (vB hp16) (cK (eT (cS (cR (oY rfl (yAI rfl) (oN (eT (am ?_))))))))
      obtain rfl:=sI h
      exact al (.inl rfl) rfl (rVt (v:=vI 0) rfl) (fun W2 hW2 => ⟨rfl,hW2.none⟩)
    ·rcases ao (((!y5) || (!y7)) || (!y9)) with hp15 | hp15
     ·refine oSk (sF rfl rfl rfl rfl hp15) (oSk (sF rfl rfl rfl rfl hp15) (oY rfl (ab (vB hp15) rfl) ?_))
      exact key _ _ (keep (keep rfl rfl) (vB (jf hp15)))
     ·refine oY (sT rfl rfl rfl rfl hp15) (yMB rfl) (oY (sT rfl rfl rfl rfl hp15) (bQ rfl) (oY rfl (ad (vB hp15) rfl) ?_))
      exact key _ _ (keep (keep rfl rfl) (vB (jg hp15)))
   ·rcases ao ((!y5) || (!y7)) with hp14 | hp14
    ·refine oSk (sF rfl rfl rfl rfl hp14) (oSk (sF rfl rfl rfl rfl hp14) (oY rfl (ab (vB hp14) rfl) ?_))
     exact key _ _ (keep (keep (keep rfl rfl) rfl) (vB (jf hp14)))
    ·refine oY (sT rfl rfl rfl rfl hp14) (yMB rfl) (oY (sT rfl rfl rfl rfl hp14) (bQ rfl) (oY rfl (ad (vB hp14) rfl) ?_))
     exact key _ _ (keep (keep (keep rfl rfl) rfl) (vB (jg hp14)))
  ·rcases ao (!y5) with hp13 | hp13
   ·refine oSk (sF rfl rfl rfl rfl hp13) (oSk (sF rfl rfl rfl rfl hp13) (oY rfl (ab (vB hp13) rfl) ?_))
    exact key _ _ (keep (keep (keep (keep rfl rfl) rfl) rfl) (vB (jf hp13)))
   ·refine oY (sT rfl rfl rfl rfl hp13) (yMB rfl) (oY (sT rfl rfl rfl rfl hp13) (bQ rfl) (oY rfl (ad (vB hp13) rfl) ?_))
    exact key _ _ (keep (keep (keep (keep rfl rfl) rfl) rfl) (vB (jg hp13)))
theorem oT (p0:TT) (p1:Int) (res:Int) (h:iD p0 p1 = some res) (W:World) (A0_5:Option Addr) (n0_5 c0_5 : Nat) (hn0_5:n0_5 = p0.fK.length) (hr0_5:Rd W A0_5 n0_5 c0_5 (encL TSpan_cells p0.fK)) :
  Calls Tryz.prog 161 [.agg #[vI p0.fID,vI p0.fFrom,vI p0.fTo,vI p0.fLong,vI p0.fToll,.slice A0_5 n0_5 c0_5],vI p1].toArray W fun e W2 => e = .returned (vI res) ∧ Ext W W2 []:=by
 subst hn0_5
 unfold iD at h
 refine ae (m:=44) Tryz.func161 rfl rfl (nB rfl) (cS (cR ?_))
 refine aW [vI p0.fID,vI p0.fFrom,vI p0.fTo,vI p0.fLong,vI p0.fToll,.slice A0_5 p0.fK.length c0_5] rfl rfl rfl (fun b1 => ?_)
 refine oY rfl (yAI rfl) (oN (eT (cS (cR (oY rfl (yMI rfl) (oY rfl (yAI rfl) (oN (eT (cS (cS (cR (oY rfl (yAI rfl) (oN (eT (cB ?_)))))))))))))))
 obtain ⟨u4,hl12,h⟩:=bOs h
 refine ba (fun (s:(Int × Int)) L tm => ∃ (tm0:Nat → Value),L = [ai b1 120 [vI p0.fID,vI p0.fFrom,vI p0.fTo,vI p0.fLong,vI p0.fToll,.slice A0_5 p0.fK.length c0_5]] ∧ tm = (upd (upd (upd (upd tm0 2 (.pointer (some ⟨b1,0,none⟩))) 4 (vI 0)) 5 (vI s.1)) 6 (vI s.2))) 0 hl12 ⟨_,rfl,(kp4 rfl)⟩ ?_ ?_
 ·rintro s3 L tm st ⟨tm0_s3,rfl,rfl⟩ h
  unfold dX at h
  refine cS (cS (cR (oY rfl (yMI rfl) (oY rfl (yFA fq rfl) (oY rfl (yL 0 j8 rfl rfl rfl) (oY rfl (bp (us:=[]) lO rfl) (oY rfl (bj rfl rfl) (oN (eT ?_)))))))))
  rcases iOs h with ⟨hp5,h⟩ | ⟨hp5,h⟩
  ·refine cT (vB hp5) (cK (eT (cS (cB (cS ?_)))))
   refine bh 15 cD (by kernel_rfl) (by kernel_rfl) ?_
   refine qY rfl (yMI rfl) (qY rfl (yFA fq rfl) (qY rfl (yL 0 j8 rfl rfl rfl) (qY rfl (yMI rfl) ?_)))
   obtain ⟨hg6,h⟩:=gOs h
   refine qY rfl (yI jn (by decide) hg6.1 hg6.2 (RdL.arg hr0_5) (eL aD rfl) rfl rfl) ?_
   refine qY rfl (yFR (A:=A0_5) (j:=(Int.toNat s3.2 * 2)) f0 rfl) (qY rfl (yR (A:=A0_5) (j:=((Int.toNat s3.2 * 2) + 0)) (v:=vI ((rdL p0.fK s3.2).fLo)) aV (RdL.arg hr0_5) rfl (eG aD hg6.1 (ah hg6.2 rfl) rfl)) (qY rfl (yFA fq rfl) (qY rfl (yL 0 j8 rfl rfl rfl) (qY rfl (yMI rfl) ?_))))
   obtain ⟨hg7,h⟩:=gOs h
   refine qY rfl (yI jn (by decide) hg7.1 hg7.2 (RdL.arg hr0_5) (eL aD rfl) rfl rfl) ?_
   refine qY rfl (yFR (A:=A0_5) (j:=(Int.toNat s3.2 * 2)) eC rfl) (qY rfl (yR (A:=A0_5) (j:=((Int.toNat s3.2 * 2) + 1)) (v:=vI ((rdL p0.fK s3.2).fHi)) aV (RdL.arg hr0_5) rfl (eG aD hg7.1 (ah hg7.2 rfl) rfl)) ?_)
   obtain ⟨y8,hy9,h⟩:=bOs h
   refine qY rfl (yC [vI s3.1,vI ((rdL p0.fK s3.2).fLo),vI ((rdL p0.fK s3.2).fHi)] go rfl (fun W2 hW2 => aR s3.1 ((rdL p0.fK s3.2).fLo) ((rdL p0.fK s3.2).fHi) y8 hy9 W2 ) rfl) (qY rfl (yAB rfl) (cd (oN (eT (cS (cR (oY rfl (yMB rfl) (oN (eT ?_)))))))))
   rcases iOs h with ⟨hp10,h⟩ | ⟨hp10,h⟩
   ·refine cT (vB hp10) (cR (oY rfl (yFA fq rfl) (oY rfl (yL 0 j8 rfl rfl rfl) (oY rfl (yMI rfl) ?_))))
    obtain ⟨hg11,h⟩:=gOs h
    refine oY rfl (yI jn (by decide) hg11.1 hg11.2 (RdL.arg hr0_5) (eL aD rfl) rfl rfl) ?_
    refine oY rfl (yFR (A:=A0_5) (j:=(Int.toNat s3.2 * 2)) eC rfl) (oY rfl (yR (A:=A0_5) (j:=((Int.toNat s3.2 * 2) + 1)) (v:=vI ((rdL p0.fK s3.2).fHi)) aV (RdL.arg hr0_5) rfl (eG aD hg11.1 (ah hg11.2 rfl) rfl)) (oY rfl (aT rfl rfl) (oY rfl (yAI rfl) (oN (aw (eT (cR (oY rfl (yMI rfl) (oY rfl (aT rfl rfl) (oY rfl (yAI rfl) (oN ?_)))))))))))
    obtain rfl:=sI h
    exact eN ⟨_,rfl,(kp4 rfl)⟩
   ·refine cF (vB hp10) (cK (aw (eT (cR (oY rfl (yMI rfl) (oY rfl (aT rfl rfl) (oY rfl (yAI rfl) (oN ?_))))))))
    obtain rfl:=sI h
    exact eN ⟨_,rfl,(kp4 rfl)⟩
  ·refine cF (vB hp5) (aH (ag ?_))
   obtain rfl:=sI h
   exact ax ⟨rfl,_,rfl,(kp4 rfl)⟩
 ·intro e L tm hJ
  obtain ⟨rfl,tm0_u4,rfl,rfl⟩:=hJ
  refine ⟨(by intro hc; cases hc),?_⟩
  refine ac (eT (cS (cR (oY rfl (yMI rfl) ?_))))
  obtain ⟨y13,hy14,h⟩:=bOs h
  refine oY rfl (yC [vI u4.1] qN rfl (fun W2 hW2 => df u4.1 y13 hy14 W2 ) rfl) (oY rfl (yAB rfl) (oN (eT (cS (cS (cR (oY rfl (yMB rfl) (oY rfl (bQ rfl) (oN (eT ?_))))))))))
  rcases iOs h with ⟨hp15,h⟩ | ⟨hp15,h⟩
  ·refine cT (vB hp15) (cS (cR (oY rfl (yAI rfl) (oN (eT (am (aa ?_)))))))
   obtain rfl:=sI h
   exact al (.inl rfl) rfl (rVt (v:=vI (-1)) rfl) (fun W2 hW2 => ⟨rfl,hW2.none⟩)
  ·refine cF (vB hp15) (cK (eT (cS (cR (oY rfl (yMI rfl) (oY rfl (yAI rfl) (oN (eT (am ?_)))))))))
   obtain rfl:=sI h
   exact al (.inl rfl) rfl (rVt (v:=vI u4.1) rfl) (fun W2 hW2 => ⟨rfl,hW2.none⟩)
theorem m7 (p0:TT) (p1:Int) (res:Int) (h:gk p0 p1 = some res) (W:World) (A0_5:Option Addr) (n0_5 c0_5 : Nat) (hn0_5:n0_5 = p0.fK.length) (hr0_5:Rd W A0_5 n0_5 c0_5 (encL TSpan_cells p0.fK)) :
  Calls Tryz.prog 126 [.agg #[vI p0.fID,vI p0.fFrom,vI p0.fTo,vI p0.fLong,vI p0.fToll,.slice A0_5 n0_5 c0_5],vI p1].toArray W fun e W2 => e = .returned (vI res) ∧ Ext W W2 []:=by
 subst hn0_5
 unfold gk at h
 refine ae (m:=24) Tryz.func126 rfl rfl (nB rfl) (cS (cR ?_))
 refine aW [vI p0.fID,vI p0.fFrom,vI p0.fTo,vI p0.fLong,vI p0.fToll,.slice A0_5 p0.fK.length c0_5] rfl rfl rfl (fun b1 => ?_)
 refine oY rfl (yAI rfl) (oN (eT (cS (cS (cR (oY rfl (yMI rfl) (oY rfl (bj rfl rfl) (oN (eT ?_)))))))))
 rcases iOs h with ⟨hp2,h⟩ | ⟨hp2,h⟩
 ·refine cT (vB hp2) (cS (cR (oY rfl (yAI rfl) (oN (eT (am (aa ?_)))))))
  obtain rfl:=sI h
  exact al (.inl rfl) rfl (rVt (v:=vI (-1)) rfl) (fun W2 hW2 => ⟨rfl,hW2.none⟩)
 ·refine cF (vB hp2) (cK (eT (cS (cR (oY rfl (yN 0 [vI p0.fID,vI p0.fFrom,vI p0.fTo,vI p0.fLong,vI p0.fToll,.slice A0_5 p0.fK.length c0_5] i8 rfl rfl rfl) (oY rfl (yMI rfl) ?_))))))
  obtain ⟨y3,hy4,h⟩:=bOs h
  refine oY rfl (yC [.agg #[vI p0.fID,vI p0.fFrom,vI p0.fTo,vI p0.fLong,vI p0.fToll,.slice A0_5 p0.fK.length c0_5],vI p1] go_161 rfl (fun W2 hW2 => oT p0 p1 y3 hy4 W2 A0_5 p0.fK.length c0_5 rfl ((RdL.arg hr0_5) W2 hW2)) rfl) (oY rfl (yAI rfl) (oN (eT (cS (cS (cR (oY rfl (yMI rfl) (oY rfl (bj rfl rfl) (oY rfl (yMB rfl) ?_)))))))))
  refine oJ 6 (fun tm0 => (upd (upd (upd (upd tm0 2 (.pointer (some ⟨b1,0,none⟩))) 4 (vI 0)) 5 (vI y3)) 19 (.bool ((decide (y3 < 0)) || (decide (16384 < w64 (y3 + p0.fLong))))))) (fun tm0 => ?_) (fun key => ?_)
  ·refine oN (eT ?_)
   rcases iOs h with ⟨hp6,h⟩ | ⟨hp6,h⟩
   ·refine cT (vB hp6) (cS (cR (oY rfl (yAI rfl) (oN (eT (am (aa ?_)))))))
    obtain rfl:=sI h
    exact al (.inl rfl) rfl (rVt (v:=vI (-1)) rfl) (fun W2 hW2 => ⟨rfl,hW2.none⟩)
   ·refine cF (vB hp6) (cK (eT (cS (cR (oY rfl (yMI rfl) (oY rfl (yFA hQ rfl) (oY rfl (yL 0 aV rfl rfl rfl) (oY rfl (aT rfl rfl) (oY rfl (yAI rfl) (oN (eT (am ?_))))))))))))
    obtain rfl:=sI h
    exact al (.inl rfl) rfl (rVt (v:=vI (w64 (y3 + p0.fLong))) rfl) (fun W2 hW2 => ⟨rfl,hW2.none⟩)
  ·rcases ao (decide (y3 < 0)) with hp5 | hp5
   ·refine oSk (sF rfl rfl rfl rfl hp5) (oSk (sF rfl rfl rfl rfl hp5) (oSk (sF rfl rfl rfl rfl hp5) (oSk (sF rfl rfl rfl rfl hp5) (oSk (sF rfl rfl rfl rfl hp5) (oY rfl (ab (vB hp5) rfl) ?_)))))
    exact key _ _ (keep (keep (keep (keep rfl rfl) rfl) rfl) (vB (jf hp5)))
   ·refine oY (sT rfl rfl rfl rfl hp5) (yMI rfl) (oY (sT rfl rfl rfl rfl hp5) (yFA hQ rfl) (oY (sT rfl rfl rfl rfl hp5) (yL 0 aV rfl rfl rfl) (oY (sT rfl rfl rfl rfl hp5) (aT rfl rfl) (oY (sT rfl rfl rfl rfl hp5) (gK rfl rfl) (oY rfl (ad (vB hp5) rfl) ?_)))))
    exact key _ _ (keep (keep (keep (keep rfl rfl) rfl) rfl) (vB (jg hp5)))
theorem kN (p0:Int) (p1:Int) (res:Bool) (h:fJ p0 p1 = some res) (W:World)  :
  Calls Tryz.prog 127 [vI p0,vI p1].toArray W fun e W2 => e = .returned (.bool res) ∧ Ext W W2 []:=by
 unfold fJ at h
 refine ae (m:=16) Tryz.func127 rfl rfl (nB rfl) (cS (cR (oY rfl (yAB rfl) (oN (eT (cS (cR (oY rfl (yMI rfl) (oY rfl (oR rfl rfl) (oY rfl (yMB rfl) ?_))))))))))
 refine oJ 8 (fun tm0 => (upd (upd tm0 4 (.bool false)) 15 (.bool ((decide (0 ≤ p0)) && ((decide (p1 < 0)) || (decide (p0 < p1))))))) (fun tm0 => ?_) (fun key => ?_)
 ·refine oY rfl (yAB rfl) (oN (eT (am ?_)))
  obtain rfl:=sI h
  exact al (.inl rfl) rfl (rVt (v:=.bool ((decide (0 ≤ p0)) && ((decide (p1 < 0)) || (decide (p0 < p1))))) rfl) (fun W2 hW2 => ⟨rfl,hW2.none⟩)
 ·rcases ao (decide (0 ≤ p0)) with hp1 | hp1
  ·refine oY (sT rfl rfl rfl rfl hp1) (yMI rfl) (oY (sT rfl rfl rfl rfl hp1) (bj rfl rfl) (oY (sT rfl rfl rfl rfl hp1) (yMB rfl) ?_))
   refine oJ 4 (fun tm0 => (upd (upd (upd tm0 4 (.bool false)) 7 (.bool (decide (0 ≤ p0)))) 14 (.bool ((decide (p1 < 0)) || (decide (p0 < p1)))))) (fun tm0 => ?_) (fun key => ?_)
   ·refine oY rfl (ab (vB hp1) rfl) ?_
    exact key _ _ (keep (keep rfl rfl) (vB (fc hp1)))
   ·rcases ao (decide (p1 < 0)) with hp2 | hp2
    ·refine oSk (sF rfl rfl rfl rfl hp2) (oSk (sF rfl rfl rfl rfl hp2) (oSk (sF rfl rfl rfl rfl hp2) (oY (sT rfl rfl rfl rfl hp1) (ab (vB hp2) rfl) ?_)))
     exact key _ _ (keep (keep (keep rfl rfl) rfl) (vB (jf hp2)))
    ·refine oY (sT rfl rfl rfl rfl hp2) (yMI rfl) (oY (sT rfl rfl rfl rfl hp2) (yMI rfl) (oY (sT rfl rfl rfl rfl hp2) (bj rfl rfl) (oY (sT rfl rfl rfl rfl hp1) (ad (vB hp2) rfl) ?_)))
     exact key _ _ (keep (keep (keep rfl rfl) rfl) (vB (jg hp2)))
  ·refine oSk (sF rfl rfl rfl rfl hp1) (oSk (sF rfl rfl rfl rfl hp1) (oSk (sF rfl rfl rfl rfl hp1) (oSk rfl (oSk rfl (oSk rfl (oSk (sF rfl rfl rfl rfl hp1) (oY rfl (ad (vB hp1) rfl) ?_)))))))
   exact key _ _ (keep (keep rfl rfl) (vB (fa hp1)))
theorem eS (p0:TR) (p1:Int) (p2:Int) (res:(List (List Int))) (h:ck p0 p1 p2 = some res) (W:World) (Ab:Option Addr) (n0_1 cb : Nat) (ys0_1:List (Hd × TT)) (hn0_1:n0_1 = p0.fTracks.length) (hr0_1:Rd W Ab n0_1 cb (encL TTrack_cells2 ys0_1)) (hN0_1:NestW W (fun z : TT => z.fK) TSpan_cells ys0_1 p0.fTracks) (wb:World) (Hb:World → Prop) (hB:∀ W3,Below W.heap.size W W3 → Below wb.heap.size wb W3 ∧ Hb W3) :
  Calls Tryz.prog 75 [.agg #[vI p0.fPlaces,.slice Ab n0_1 cb],vI p1,vI p2].toArray W fun e W2 => ∃ x : ((Option Addr × Nat × Nat) × (List (Hd × (List Int))) × Res),(x.1.2.1 = res.length ∧ NestP (fun z : (List Int) => z) x.2.1 res ∧ PvL (fun z : (List Int) => z) cI wb (fun W4 => Hb W4 ∧ Res.holds x.2.2 W4) x.2.1) ∧ e = .returned (.slice x.1.1 x.1.2.1 x.1.2.2) ∧ Ext W W2 [aL x.1.1 x.1.2.2 42 1 x.1.2.1 (encL a7 x.2.1),x.2.2]:=by
 subst hn0_1
 unfold ck at h
 refine ae (m:=149) Tryz.func75 rfl rfl (nB rfl) (cS (cR ?_))
 refine aW [vI p0.fPlaces,.slice Ab p0.fTracks.length cb] rfl rfl rfl (fun b1 => ?_)
 refine oY rfl (yAS rfl) (oN (eT (cS (cR (oY rfl (yFA d8 rfl) (oY rfl (yL 0 aV rfl rfl rfl) ?_))))))
 obtain ⟨hg3,h⟩:=gOs h
 refine rA (encL a7 (List.replicate (Int.toNat p0.fPlaces) nilY)) us_85 ze_42 by_42 hg3.1 hg3.2 rfl (ql _ _ _ rfl rfl) rfl (fun b2 => ?_)
 refine ox_addIn (e:=3) (k:=Int.toNat p0.fPlaces) (oY rfl (yAS rfl) (oN (eT (cS (cS (cR (oY rfl (yAI rfl) (oN (eT (cB ?_))))))))))
 obtain ⟨u7,hl23,h⟩:=bOs h
 refine ba (fun (s:(Int × (List (List Int)))) L tm => ∃ (tm0:Nat → Value) (ys1_s:List (Hd × (List Int))),Int.toNat p0.fPlaces = s.2.length ∧ NestP (fun z : (List Int) => z) ys1_s s.2 ∧ L = [ai b1 24 [vI p0.fPlaces,.slice Ab p0.fTracks.length cb],aL (some ⟨b2,0,none⟩) (Int.toNat p0.fPlaces) 42 1 (Int.toNat p0.fPlaces) (encL a7 ys1_s),inR 3 ys1_s] ∧ tm = (upd (upd (upd (upd (upd (upd tm0 1 (vI p1)) 2 (vI p2)) 3 (.pointer (some ⟨b1,0,none⟩))) 6 (.slice none 0 0)) 7 (.slice (some ⟨b2,0,none⟩) (Int.toNat p0.fPlaces) (Int.toNat p0.fPlaces))) 8 (vI s.1))) 0 hl23 ⟨_,(List.replicate (Int.toNat p0.fPlaces) nilY),(List.length_replicate).symm,NestP.nils,rfl,(kp4 (kp (kp rfl)))⟩ ?_ ?_
 ·rintro s6 L tm st ⟨tm0_s6,ys1_s6,hn1_s6,hP1_s6,rfl,rfl⟩ h
  unfold dH at h
  refine cS (cS (cR (oY rfl (yMI rfl) (oY rfl (yFA d8 rfl) (oY rfl (yL 0 aV rfl rfl rfl) (oY rfl (bj rfl rfl) (oN (eT ?_))))))))
  rcases iOs h with ⟨hp8,h⟩ | ⟨hp8,h⟩
  ·refine cT (vB hp8) (cK (eT (cS (cB (cS (cR (oY rfl (yMS rfl) (oY rfl (yMI rfl) ?_))))))))
   obtain ⟨hg10,h⟩:=gOs h
   refine rA (encL cI (List.replicate (Int.toNat 61) 0)) cV lj m4 hg10.1 hg10.2 rfl (ql _ _ _ rfl rfl) rfl (fun b9 => ?_)
   obtain ⟨hg11,h⟩:=gOs h
   refine oY rfl (yI ki (by decide) hg11.1 hg11.2 (RdL.row 1 rfl) (eL aq (NestP.hn hP1_s6 hn1_s6)) rfl rfl) ?_
   refine cr rfl (gO 1 (xs:=ys1_s6) aq (((some ⟨b9,0,none⟩),Int.toNat 61,Int.toNat 61),(List.replicate (Int.toNat 61) 0)) sz_42 rfl hg11.1 (ah hg11.2 (NestP.hn hP1_s6 hn1_s6)) rfl rfl rfl rfl) ?_
   refine ox_putIn 2 3 (by decide) (ys:=ys1_s6) (p:=s6.1) rfl rfl hg11.1 (ah hg11.2 (NestP.hn hP1_s6 hn1_s6)) ?_
   refine oN (eT (cS (cR (oY rfl (yAI rfl) (oN (eT (cB ?_)))))))
   obtain ⟨u15,hl22,h⟩:=bOs h
   refine ba (fun (s:(Int × (List (List Int)))) L tm => ∃ (tm0:Nat → Value) (ys1_s:List (Hd × (List Int))),Int.toNat p0.fPlaces = s.2.length ∧ NestP (fun z : (List Int) => z) ys1_s s.2 ∧ L = [ai b1 24 [vI p0.fPlaces,.slice Ab p0.fTracks.length cb],aL (some ⟨b2,0,none⟩) (Int.toNat p0.fPlaces) 42 1 (Int.toNat p0.fPlaces) (encL a7 ys1_s),inR 3 ys1_s,noR] ∧ tm = (upd (upd (upd (upd (upd (upd (upd (upd tm0 1 (vI p1)) 2 (vI p2)) 3 (.pointer (some ⟨b1,0,none⟩))) 6 (.slice none 0 0)) 7 (.slice (some ⟨b2,0,none⟩) (Int.toNat p0.fPlaces) (Int.toNat p0.fPlaces))) 8 (vI s6.1)) 25 (.bool (decide (s6.1 < p0.fPlaces)))) 9 (vI s.1))) 2 hl22 ⟨_,(ys1_s6.set (Int.toNat s6.1) (((some ⟨b9,0,none⟩),Int.toNat 61,Int.toNat 61),(List.replicate (Int.toNat 61) 0))),(cP hn1_s6),(NestP.set _ hP1_s6 (List.length_replicate).symm rfl),rfl,(kp4 (kp4 rfl))⟩ ?_ ?_
   ·rintro s14 L tm st ⟨tm0_s14,ys1_s14,hn1_s14,hP1_s14,rfl,rfl⟩ h
    unfold dB at h
    refine cS (cS (cR (oY rfl (yMI rfl) (oY rfl (jw rfl rfl) (oN (eT ?_))))))
    rcases iOs h with ⟨hp16,h⟩ | ⟨hp16,h⟩
    ·refine cT (vB hp16) (cK (eT (cS (cB (cS (cR (oY rfl (yMS rfl) (oY rfl (yMI rfl) ?_))))))))
     obtain ⟨hg17,h⟩:=gOs h
     refine oY rfl (yI ki (by decide) hg17.1 hg17.2 (RdL.row 1 rfl) (eL aq (NestP.hn hP1_s14 hn1_s14)) rfl rfl) ?_
     refine oY rfl (yR (A:=(some ⟨b2,0,none⟩)) (j:=(Int.toNat s6.1 * 1)) (v:=.slice ((rdL ys1_s14 s6.1).1.1) ((rdL s14.2 s6.1).length) ((rdL ys1_s14 s6.1).1.2.2)) iR (RdL.row 1 rfl) rfl (aC aq hg17.1 (ah hg17.2 (NestP.hn hP1_s14 hn1_s14)) (congrArg (fun n : Nat => some (Value.slice (rdL ys1_s14 s6.1).1.1 n (rdL ys1_s14 s6.1).1.2.2)) (NestP.len hP1_s14 hg17.1 (ah hg17.2 hn1_s14))))) (oY rfl (yMI rfl) ?_)
     obtain ⟨hg18,h⟩:=gOs h
     refine oY rfl (yI bZ (by decide) hg18.1 hg18.2 (NestL.rd (PvL.nestL hP1_s14 (PvL.inR (e:=3) (wb:=wb) (Hb:=Hb) (ys:=ys1_s14)) (fun W2 hW2 => ⟨(hB W2 hW2.below).1,(hB W2 hW2.below).2,hW2.mem (i:=2) rfl⟩)) hg17.1 (ah hg17.2 hn1_s14)) (eL aA rfl) rfl rfl) ?_
     refine cr rfl (mb 1 2 (by decide) (fun y z e => by unfold a7; rw [e]) (ys:=ys1_s14) (p:=s6.1) qk rfl rfl hg17.1 (ah hg17.2 (NestP.hn hP1_s14 hn1_s14)) hg18.1 (NestP.ltIn hP1_s14 (ah hg18.2 rfl)) rfl rfl) ?_
     refine oN (eT (cS (cR (oY rfl (yMI rfl) (oY rfl (yMI rfl) (oY rfl (da rfl rfl) (oN (eT ?_))))))))
     rcases iOs h with ⟨hp19,h⟩ | ⟨hp19,h⟩
     ·refine cT (vB hp19) (cR (oY rfl (yMS rfl) (oY rfl (yMI rfl) ?_)))
      obtain ⟨hg20,h⟩:=gOs h
      refine oY rfl (yI ki (by decide) hg20.1 hg20.2 (RdL.row 1 rfl) (eL aq (NestP.hn (NestP.setIn hP1_s14 hg17.1 (ah hg17.2 hn1_s14)) (cP hn1_s14))) rfl rfl) ?_
      refine oY rfl (yR (A:=(some ⟨b2,0,none⟩)) (j:=(Int.toNat s6.1 * 1)) (v:=.slice ((rdL (ys1_s14.set (Int.toNat s6.1) ((rdL ys1_s14 s6.1).1,(rdL ys1_s14 s6.1).2.set (Int.toNat s14.1) (-1))) s6.1).1.1) ((rdL (s14.2.set (Int.toNat s6.1) ((rdL s14.2 s6.1).set (Int.toNat s14.1) (-1))) s6.1).length) ((rdL (ys1_s14.set (Int.toNat s6.1) ((rdL ys1_s14 s6.1).1,(rdL ys1_s14 s6.1).2.set (Int.toNat s14.1) (-1))) s6.1).1.2.2)) iR (RdL.row 1 rfl) rfl (aC aq hg20.1 (ah hg20.2 (NestP.hn (NestP.setIn hP1_s14 hg17.1 (ah hg17.2 hn1_s14)) (cP hn1_s14))) (congrArg (fun n : Nat => some (Value.slice (rdL (ys1_s14.set (Int.toNat s6.1) ((rdL ys1_s14 s6.1).1,(rdL ys1_s14 s6.1).2.set (Int.toNat s14.1) (-1))) s6.1).1.1 n (rdL (ys1_s14.set (Int.toNat s6.1) ((rdL ys1_s14 s6.1).1,(rdL ys1_s14 s6.1).2.set (Int.toNat s14.1) (-1))) s6.1).1.2.2)) (NestP.len (NestP.setIn hP1_s14 hg17.1 (ah hg17.2 hn1_s14)) hg20.1 (ah hg20.2 (cP hn1_s14)))))) (oY rfl (yMI rfl) (oY rfl (yMI rfl) ?_))
      obtain ⟨hg21,h⟩:=gOs h
      refine oY rfl (yI bZ (by decide) hg21.1 hg21.2 (NestL.rd (PvL.nestL (NestP.setIn hP1_s14 hg17.1 (ah hg17.2 hn1_s14)) (PvL.inR (e:=3) (wb:=wb) (Hb:=Hb) (ys:=(ys1_s14.set (Int.toNat s6.1) ((rdL ys1_s14 s6.1).1,(rdL ys1_s14 s6.1).2.set (Int.toNat s14.1) (-1))))) (fun W2 hW2 => ⟨(hB W2 hW2.below).1,(hB W2 hW2.below).2,hW2.mem (i:=2) rfl⟩)) hg20.1 (ah hg20.2 (cP hn1_s14))) (eL aA rfl) rfl rfl) ?_
      refine cr rfl (mb 1 2 (by decide) (fun y z e => by unfold a7; rw [e]) (ys:=(ys1_s14.set (Int.toNat s6.1) ((rdL ys1_s14 s6.1).1,(rdL ys1_s14 s6.1).2.set (Int.toNat s14.1) (-1)))) (p:=s6.1) qk rfl rfl hg20.1 (ah hg20.2 (NestP.hn (NestP.setIn hP1_s14 hg17.1 (ah hg17.2 hn1_s14)) (cP hn1_s14))) hg21.1 (NestP.ltIn (NestP.setIn hP1_s14 hg17.1 (ah hg17.2 hn1_s14)) (ah hg21.2 rfl)) rfl rfl) ?_
      refine oN (aw (eT (cR (oY rfl (yMI rfl) (oY rfl (aT rfl rfl) (oY rfl (yAI rfl) (oN ?_)))))))
      obtain rfl:=sI h
      exact eN ⟨_,((ys1_s14.set (Int.toNat s6.1) ((rdL ys1_s14 s6.1).1,(rdL ys1_s14 s6.1).2.set (Int.toNat s14.1) (-1))).set (Int.toNat s6.1) ((rdL (ys1_s14.set (Int.toNat s6.1) ((rdL ys1_s14 s6.1).1,(rdL ys1_s14 s6.1).2.set (Int.toNat s14.1) (-1))) s6.1).1,(rdL (ys1_s14.set (Int.toNat s6.1) ((rdL ys1_s14 s6.1).1,(rdL ys1_s14 s6.1).2.set (Int.toNat s14.1) (-1))) s6.1).2.set (Int.toNat s14.1) p2)),(cP (cP hn1_s14)),(NestP.setIn (NestP.setIn hP1_s14 hg17.1 (ah hg17.2 hn1_s14)) hg20.1 (ah hg20.2 (cP hn1_s14))),rfl,(kp4 (kp4 rfl))⟩
     ·refine cF (vB hp19) (cK (aw (eT (cR (oY rfl (yMI rfl) (oY rfl (aT rfl rfl) (oY rfl (yAI rfl) (oN ?_))))))))
      obtain rfl:=sI h
      exact eN ⟨_,(ys1_s14.set (Int.toNat s6.1) ((rdL ys1_s14 s6.1).1,(rdL ys1_s14 s6.1).2.set (Int.toNat s14.1) (-1))),(cP hn1_s14),(NestP.setIn hP1_s14 hg17.1 (ah hg17.2 hn1_s14)),rfl,(kp4 (kp4 rfl))⟩
    ·refine cF (vB hp16) (aH (ag ?_))
     obtain rfl:=sI h
     exact ax ⟨rfl,_,ys1_s14,hn1_s14,hP1_s14,rfl,(kp4 (kp4 rfl))⟩
   ·intro e L tm hJ
    obtain ⟨rfl,tm0_u15,ys1_u15,hn1_u15,hP1_u15,rfl,rfl⟩:=hJ
    refine ⟨(by intro hc; cases hc),?_⟩
    refine ac (aw (eT (cR (oY rfl (yMI rfl) (oY rfl (aT rfl rfl) (oY rfl (yAI rfl) (oN (aU 3 ?_))))))))
    obtain rfl:=sI h
    exact eN ⟨_,ys1_u15,hn1_u15,hP1_u15,rfl,(kp4 (kp (kp rfl)))⟩
  ·refine cF (vB hp8) (aH (ag ?_))
   obtain rfl:=sI h
   exact ax ⟨rfl,_,ys1_s6,hn1_s6,hP1_s6,rfl,(kp4 (kp (kp rfl)))⟩
 ·intro e L tm hJ
  obtain ⟨rfl,tm0_u7,ys1_u7,hn1_u7,hP1_u7,rfl,rfl⟩:=hJ
  refine ⟨(by intro hc; cases hc),?_⟩
  refine ac (eT (cS (cR (oY rfl (yAB rfl) (oN (eT (cS (cB ?_))))))))
  obtain ⟨u27,hl77,h⟩:=bOs h
  refine ba (fun (s:(Bool × (List (List Int)))) L tm => ∃ (tm0:Nat → Value) (ys1_s:List (Hd × (List Int))),Int.toNat p0.fPlaces = s.2.length ∧ NestP (fun z : (List Int) => z) ys1_s s.2 ∧ L = [ai b1 24 [vI p0.fPlaces,.slice Ab p0.fTracks.length cb],aL (some ⟨b2,0,none⟩) (Int.toNat p0.fPlaces) 42 1 (Int.toNat p0.fPlaces) (encL a7 ys1_s),inR 3 ys1_s] ∧ tm = (upd (upd (upd (upd tm0 3 (.pointer (some ⟨b1,0,none⟩))) 6 (.slice none 0 0)) 7 (.slice (some ⟨b2,0,none⟩) (Int.toNat p0.fPlaces) (Int.toNat p0.fPlaces))) 10 (.bool s.1))) 4 hl77 ⟨_,ys1_u7,hn1_u7,hP1_u7,rfl,(kp4 rfl)⟩ ?_ ?_
  ·rintro s26 L tm st ⟨tm0_s26,ys1_s26,hn1_s26,hP1_s26,rfl,rfl⟩ h
   unfold dz at h
   refine cS (cS (cR (oY rfl (yMB rfl) (oN (eT ?_)))))
   rcases iOs h with ⟨hp28,h⟩ | ⟨hp28,h⟩
   ·refine cT (vB hp28) (cK (eT (cB (cS (cR (oY rfl (yAB rfl) (oN (eT (cS (cS (cR (oY rfl (yAI rfl) (oN (eT (cB ?_)))))))))))))))
    obtain ⟨u32,hl53,h⟩:=bOs h
    refine ba (fun (s:(Bool × Int × (List (List Int)))) L tm => ∃ (tm0:Nat → Value) (ys1_s:List (Hd × (List Int))),Int.toNat p0.fPlaces = s.2.2.length ∧ NestP (fun z : (List Int) => z) ys1_s s.2.2 ∧ L = [ai b1 24 [vI p0.fPlaces,.slice Ab p0.fTracks.length cb],aL (some ⟨b2,0,none⟩) (Int.toNat p0.fPlaces) 42 1 (Int.toNat p0.fPlaces) (encL a7 ys1_s),inR 3 ys1_s] ∧ tm = (upd (upd (upd (upd (upd (upd tm0 3 (.pointer (some ⟨b1,0,none⟩))) 6 (.slice none 0 0)) 7 (.slice (some ⟨b2,0,none⟩) (Int.toNat p0.fPlaces) (Int.toNat p0.fPlaces))) 10 (.bool s.1)) 52 (.bool s26.1)) 11 (vI s.2.1))) 6 hl53 ⟨_,ys1_s26,hn1_s26,hP1_s26,rfl,(kp4 (kp (kp rfl)))⟩ ?_ ?_
    ·rintro s31 L tm st ⟨tm0_s31,ys1_s31,hn1_s31,hP1_s31,rfl,rfl⟩ h
     unfold dL at h
     refine cS (cS (cR (oY rfl (yMI rfl) (oY rfl (yFA cq rfl) (oY rfl (yL 0 gG rfl rfl rfl) (oY rfl (bp (us:=[]) gF rfl) (oY rfl (bj rfl rfl) (oN (eT ?_)))))))))
     rcases iOs h with ⟨hp33,h⟩ | ⟨hp33,h⟩
     ·refine cT (vB hp33) (cK (eT (cS (cB (cS (cR (oY rfl (yFA cq rfl) (oY rfl (yL 0 gG rfl rfl rfl) (oY rfl (yMI rfl) ?_)))))))))
      obtain ⟨hg34,h⟩:=gOs h
      refine oY rfl (yI jP (by decide) hg34.1 hg34.2 (RdL.arg hr0_1) (eL au (NestP.hn hN0_1.p rfl)) rfl rfl) ?_
      refine oY rfl (yM (A:=Ab) (j:=(Int.toNat s31.2.1 * 6)) [vI ((rdL p0.fTracks s31.2.1).fID),vI ((rdL p0.fTracks s31.2.1).fFrom),vI ((rdL p0.fTracks s31.2.1).fTo),vI ((rdL p0.fTracks s31.2.1).fLong),vI ((rdL p0.fTracks s31.2.1).fToll),.slice ((rdL ys0_1 s31.2.1).1.1) ((rdL p0.fTracks s31.2.1).fK.length) ((rdL ys0_1 s31.2.1).1.2.2)] i8 (Nat.succ_pos _) (RdL.arg hr0_1) rfl (kw (cx (NestP.snd hN0_1.p s31.2.1) (NestP.len hN0_1.p hg34.1 (ah hg34.2 rfl))).symm (bl au hg34.1 (ah hg34.2 (NestP.hn hN0_1.p rfl))))) ?_
      refine aE gp rfl (fun b35 => ?_)
      refine cr rfl (yS 3 [vI ((rdL p0.fTracks s31.2.1).fID),vI ((rdL p0.fTracks s31.2.1).fFrom),vI ((rdL p0.fTracks s31.2.1).fTo),vI ((rdL p0.fTracks s31.2.1).fLong),vI ((rdL p0.fTracks s31.2.1).fToll),.slice ((rdL ys0_1 s31.2.1).1.1) ((rdL p0.fTracks s31.2.1).fK.length) ((rdL ys0_1 s31.2.1).1.2.2)] pk rfl (nB rfl) rfl rfl rfl) (oN (eT (cS (cR (oY rfl (yAI rfl) (oN (eT (cB ?_))))))))
      obtain ⟨u39,hl52,h⟩:=bOs h
      refine ba (fun (s:(Bool × Int × (List (List Int)))) L tm => ∃ (tm0:Nat → Value) (ys1_s:List (Hd × (List Int))),Int.toNat p0.fPlaces = s.2.2.length ∧ NestP (fun z : (List Int) => z) ys1_s s.2.2 ∧ L = [ai b1 24 [vI p0.fPlaces,.slice Ab p0.fTracks.length cb],aL (some ⟨b2,0,none⟩) (Int.toNat p0.fPlaces) 42 1 (Int.toNat p0.fPlaces) (encL a7 ys1_s),inR 3 ys1_s,ai b35 120 [vI ((rdL p0.fTracks s31.2.1).fID),vI ((rdL p0.fTracks s31.2.1).fFrom),vI ((rdL p0.fTracks s31.2.1).fTo),vI ((rdL p0.fTracks s31.2.1).fLong),vI ((rdL p0.fTracks s31.2.1).fToll),.slice ((rdL ys0_1 s31.2.1).1.1) ((rdL p0.fTracks s31.2.1).fK.length) ((rdL ys0_1 s31.2.1).1.2.2)]] ∧ tm = (upd (upd (upd (upd (upd (upd (upd (upd (upd tm0 3 (.pointer (some ⟨b1,0,none⟩))) 6 (.slice none 0 0)) 7 (.slice (some ⟨b2,0,none⟩) (Int.toNat p0.fPlaces) (Int.toNat p0.fPlaces))) 10 (.bool s.1)) 52 (.bool s26.1)) 11 (vI s31.2.1)) 57 (.bool (decide (s31.2.1 < (p0.fTracks.length:Int))))) 12 (.pointer (some ⟨b35,0,none⟩))) 13 (vI s.2.1))) 8 hl52 ⟨_,ys1_s31,hn1_s31,hP1_s31,rfl,(kp4 (kp4 (kp rfl)))⟩ ?_ ?_
      ·rintro s38 L tm st ⟨tm0_s38,ys1_s38,hn1_s38,hP1_s38,rfl,rfl⟩ h
       unfold dC at h
       refine cS (cS (cR (oY rfl (yMI rfl) (oY rfl (yFA jK rfl) (oY rfl (yL 3 aV rfl rfl rfl) (oY rfl (aT rfl rfl) (oY rfl (jw rfl rfl) (oN (eT ?_)))))))))
       rcases iOs h with ⟨hp40,h⟩ | ⟨hp40,h⟩
       ·refine cT (vB hp40) (cK (eT (cS (cB (cS ?_)))))
        refine bh 11 cD (by kernel_rfl) (by kernel_rfl) ?_
        refine qY rfl (yN 3 [vI ((rdL p0.fTracks s31.2.1).fID),vI ((rdL p0.fTracks s31.2.1).fFrom),vI ((rdL p0.fTracks s31.2.1).fTo),vI ((rdL p0.fTracks s31.2.1).fLong),vI ((rdL p0.fTracks s31.2.1).fToll),.slice ((rdL ys0_1 s31.2.1).1.1) ((rdL p0.fTracks s31.2.1).fK.length) ((rdL ys0_1 s31.2.1).1.2.2)] i8 rfl rfl rfl) (qY rfl (yMS rfl) (qY rfl (yFA jN rfl) (qY rfl (yL 3 aV rfl rfl rfl) ?_)))
        obtain ⟨hg41,h⟩:=gOs h
        refine qY rfl (yI ki (by decide) hg41.1 hg41.2 (RdL.row 1 rfl) (eL aq (NestP.hn hP1_s38 hn1_s38)) rfl rfl) ?_
        refine qY rfl (yR (A:=(some ⟨b2,0,none⟩)) (j:=(Int.toNat ((rdL p0.fTracks s31.2.1).fFrom) * 1)) (v:=.slice ((rdL ys1_s38 ((rdL p0.fTracks s31.2.1).fFrom)).1.1) ((rdL s38.2.2 ((rdL p0.fTracks s31.2.1).fFrom)).length) ((rdL ys1_s38 ((rdL p0.fTracks s31.2.1).fFrom)).1.2.2)) iR (RdL.row 1 rfl) rfl (aC aq hg41.1 (ah hg41.2 (NestP.hn hP1_s38 hn1_s38)) (congrArg (fun n : Nat => some (Value.slice (rdL ys1_s38 ((rdL p0.fTracks s31.2.1).fFrom)).1.1 n (rdL ys1_s38 ((rdL p0.fTracks s31.2.1).fFrom)).1.2.2)) (NestP.len hP1_s38 hg41.1 (ah hg41.2 hn1_s38))))) (qY rfl (yMI rfl) ?_)
        obtain ⟨hg42,h⟩:=gOs h
        refine qY rfl (yI bZ (by decide) hg42.1 hg42.2 (NestL.rd (PvL.nestL hP1_s38 (PvL.inR (e:=3) (wb:=wb) (Hb:=Hb) (ys:=ys1_s38)) (fun W2 hW2 => ⟨(hB W2 hW2.below).1,(hB W2 hW2.below).2,hW2.mem (i:=2) rfl⟩)) hg41.1 (ah hg41.2 hn1_s38)) (eL aA rfl) rfl rfl) ?_
        refine qY rfl (yR (A:=((rdL ys1_s38 ((rdL p0.fTracks s31.2.1).fFrom)).1.1)) (j:=(Int.toNat s38.2.1 * 1)) (v:=vI (rdL (rdL s38.2.2 ((rdL p0.fTracks s31.2.1).fFrom)) s38.2.1)) aV (NestL.rd (PvL.nestL hP1_s38 (PvL.inR (e:=3) (wb:=wb) (Hb:=Hb) (ys:=ys1_s38)) (fun W2 hW2 => ⟨(hB W2 hW2.below).1,(hB W2 hW2.below).2,hW2.mem (i:=2) rfl⟩)) hg41.1 (ah hg41.2 hn1_s38)) rfl (aC aA hg42.1 (ah hg42.2 rfl) rfl)) ?_
        obtain ⟨y43,hy44,h⟩:=bOs h
        refine qY rfl (yC [.agg #[vI ((rdL p0.fTracks s31.2.1).fID),vI ((rdL p0.fTracks s31.2.1).fFrom),vI ((rdL p0.fTracks s31.2.1).fTo),vI ((rdL p0.fTracks s31.2.1).fLong),vI ((rdL p0.fTracks s31.2.1).fToll),.slice ((rdL ys0_1 s31.2.1).1.1) ((rdL p0.fTracks s31.2.1).fK.length) ((rdL ys0_1 s31.2.1).1.2.2)],vI (rdL (rdL s38.2.2 ((rdL p0.fTracks s31.2.1).fFrom)) s38.2.1)] go_126 rfl (fun W2 hW2 => m7 (TT.mk ((rdL p0.fTracks s31.2.1).fID) ((rdL p0.fTracks s31.2.1).fFrom) ((rdL p0.fTracks s31.2.1).fTo) ((rdL p0.fTracks s31.2.1).fLong) ((rdL p0.fTracks s31.2.1).fToll) ((rdL p0.fTracks s31.2.1).fK)) (rdL (rdL s38.2.2 ((rdL p0.fTracks s31.2.1).fFrom)) s38.2.1) y43 hy44 W2 ((rdL ys0_1 s31.2.1).1.1) ((rdL p0.fTracks s31.2.1).fK.length) ((rdL ys0_1 s31.2.1).1.2.2) rfl ((NestL.rd (NestL.arg hN0_1) hg34.1 (ah hg34.2 rfl)) W2 hW2)) rfl) (qY rfl (yAI rfl) (cd (oN (eT (cS ?_)))))
        refine bh 14 cD (by kernel_rfl) (by kernel_rfl) ?_
        refine qY rfl (yMI rfl) (qY rfl (yMS rfl) (qY rfl (yFA iV rfl) (qY rfl (yL 3 aV rfl rfl rfl) ?_)))
        obtain ⟨hg45,h⟩:=gOs h
        refine qY rfl (yI ki (by decide) hg45.1 hg45.2 (RdL.row 1 rfl) (eL aq (NestP.hn hP1_s38 hn1_s38)) rfl rfl) ?_
        refine qY rfl (yR (A:=(some ⟨b2,0,none⟩)) (j:=(Int.toNat ((rdL p0.fTracks s31.2.1).fTo) * 1)) (v:=.slice ((rdL ys1_s38 ((rdL p0.fTracks s31.2.1).fTo)).1.1) ((rdL s38.2.2 ((rdL p0.fTracks s31.2.1).fTo)).length) ((rdL ys1_s38 ((rdL p0.fTracks s31.2.1).fTo)).1.2.2)) iR (RdL.row 1 rfl) rfl (aC aq hg45.1 (ah hg45.2 (NestP.hn hP1_s38 hn1_s38)) (congrArg (fun n : Nat => some (Value.slice (rdL ys1_s38 ((rdL p0.fTracks s31.2.1).fTo)).1.1 n (rdL ys1_s38 ((rdL p0.fTracks s31.2.1).fTo)).1.2.2)) (NestP.len hP1_s38 hg45.1 (ah hg45.2 hn1_s38))))) (qY rfl (yMI rfl) (qY rfl (yFA jK rfl) (qY rfl (yL 3 aV rfl rfl rfl) (qY rfl (aT rfl rfl) ?_))))
        obtain ⟨hg46,h⟩:=gOs h
        refine qY rfl (yI bZ (by decide) hg46.1 hg46.2 (NestL.rd (PvL.nestL hP1_s38 (PvL.inR (e:=3) (wb:=wb) (Hb:=Hb) (ys:=ys1_s38)) (fun W2 hW2 => ⟨(hB W2 hW2.below).1,(hB W2 hW2.below).2,hW2.mem (i:=2) rfl⟩)) hg45.1 (ah hg45.2 hn1_s38)) (eL aA rfl) rfl rfl) ?_
        refine qY rfl (yR (A:=((rdL ys1_s38 ((rdL p0.fTracks s31.2.1).fTo)).1.1)) (j:=(Int.toNat (w64 (s38.2.1 + ((rdL p0.fTracks s31.2.1).fToll))) * 1)) (v:=vI (rdL (rdL s38.2.2 ((rdL p0.fTracks s31.2.1).fTo)) (w64 (s38.2.1 + ((rdL p0.fTracks s31.2.1).fToll))))) aV (NestL.rd (PvL.nestL hP1_s38 (PvL.inR (e:=3) (wb:=wb) (Hb:=Hb) (ys:=ys1_s38)) (fun W2 hW2 => ⟨(hB W2 hW2.below).1,(hB W2 hW2.below).2,hW2.mem (i:=2) rfl⟩)) hg45.1 (ah hg45.2 hn1_s38)) rfl (aC aA hg46.1 (ah hg46.2 rfl) rfl)) ?_
        obtain ⟨y47,hy48,h⟩:=bOs h
        refine qY rfl (yC [vI y43,vI (rdL (rdL s38.2.2 ((rdL p0.fTracks s31.2.1).fTo)) (w64 (s38.2.1 + ((rdL p0.fTracks s31.2.1).fToll))))] go_127 rfl (fun W2 hW2 => kN y43 (rdL (rdL s38.2.2 ((rdL p0.fTracks s31.2.1).fTo)) (w64 (s38.2.1 + ((rdL p0.fTracks s31.2.1).fToll)))) y47 hy48 W2 ) rfl) (qY rfl (yAB rfl) (cd (oN (eT (cS (cR (oY rfl (yMB rfl) (oN (eT ?_)))))))))
        rcases iOs h with ⟨hp49,h⟩ | ⟨hp49,h⟩
        ·refine cT (vB hp49) (cS ?_)
         refine bh 11 cD (by kernel_rfl) (by kernel_rfl) ?_
         refine qY rfl (yMS rfl) (qY rfl (yFA iV rfl) (qY rfl (yL 3 aV rfl rfl rfl) ?_))
         obtain ⟨hg50,h⟩:=gOs h
         refine qY rfl (yI ki (by decide) hg50.1 hg50.2 (RdL.row 1 rfl) (eL aq (NestP.hn hP1_s38 hn1_s38)) rfl rfl) ?_
         refine qY rfl (yR (A:=(some ⟨b2,0,none⟩)) (j:=(Int.toNat ((rdL p0.fTracks s31.2.1).fTo) * 1)) (v:=.slice ((rdL ys1_s38 ((rdL p0.fTracks s31.2.1).fTo)).1.1) ((rdL s38.2.2 ((rdL p0.fTracks s31.2.1).fTo)).length) ((rdL ys1_s38 ((rdL p0.fTracks s31.2.1).fTo)).1.2.2)) iR (RdL.row 1 rfl) rfl (aC aq hg50.1 (ah hg50.2 (NestP.hn hP1_s38 hn1_s38)) (congrArg (fun n : Nat => some (Value.slice (rdL ys1_s38 ((rdL p0.fTracks s31.2.1).fTo)).1.1 n (rdL ys1_s38 ((rdL p0.fTracks s31.2.1).fTo)).1.2.2)) (NestP.len hP1_s38 hg50.1 (ah hg50.2 hn1_s38))))) (qY rfl (yMI rfl) (qY rfl (yFA jK rfl) (qY rfl (yL 3 aV rfl rfl rfl) (qY rfl (aT rfl rfl) (qY rfl (yMI rfl) ?_)))))
         obtain ⟨hg51,h⟩:=gOs h
         refine qY rfl (yI bZ (by decide) hg51.1 hg51.2 (NestL.rd (PvL.nestL hP1_s38 (PvL.inR (e:=3) (wb:=wb) (Hb:=Hb) (ys:=ys1_s38)) (fun W2 hW2 => ⟨(hB W2 hW2.below).1,(hB W2 hW2.below).2,hW2.mem (i:=2) rfl⟩)) hg50.1 (ah hg50.2 hn1_s38)) (eL aA rfl) rfl rfl) ?_
         refine cd ?_
         refine cr rfl (mb 1 2 (by decide) (fun y z e => by unfold a7; rw [e]) (ys:=ys1_s38) (p:=((rdL p0.fTracks s31.2.1).fTo)) qk rfl rfl hg50.1 (ah hg50.2 (NestP.hn hP1_s38 hn1_s38)) hg51.1 (NestP.ltIn hP1_s38 (ah hg51.2 rfl)) rfl rfl) ?_
         refine oN (eT (cR (oY rfl (yAB rfl) (oN (aw (eT (cR (oY rfl (yMI rfl) (oY rfl (aT rfl rfl) (oY rfl (yAI rfl) (oN ?_)))))))))))
         obtain rfl:=sI h
         exact eN ⟨_,(ys1_s38.set (Int.toNat ((rdL p0.fTracks s31.2.1).fTo)) ((rdL ys1_s38 ((rdL p0.fTracks s31.2.1).fTo)).1,(rdL ys1_s38 ((rdL p0.fTracks s31.2.1).fTo)).2.set (Int.toNat (w64 (s38.2.1 + ((rdL p0.fTracks s31.2.1).fToll)))) y43)),(cP hn1_s38),(NestP.setIn hP1_s38 hg50.1 (ah hg50.2 hn1_s38)),rfl,(kp4 (kp4 (kp rfl)))⟩
        ·refine cF (vB hp49) (cK (aw (eT (cR (oY rfl (yMI rfl) (oY rfl (aT rfl rfl) (oY rfl (yAI rfl) (oN ?_))))))))
         obtain rfl:=sI h
         exact eN ⟨_,ys1_s38,hn1_s38,hP1_s38,rfl,(kp4 (kp4 (kp rfl)))⟩
       ·refine cF (vB hp40) (aH (ag ?_))
        obtain rfl:=sI h
        exact ax ⟨rfl,_,ys1_s38,hn1_s38,hP1_s38,rfl,(kp4 (kp4 (kp rfl)))⟩
      ·intro e L tm hJ
       obtain ⟨rfl,tm0_u39,ys1_u39,hn1_u39,hP1_u39,rfl,rfl⟩:=hJ
       refine ⟨(by intro hc; cases hc),?_⟩
       refine ac (aw (eT (cR (oY rfl (yMI rfl) (oY rfl (aT rfl rfl) (oY rfl (yAI rfl) (oN (aU 3 ?_))))))))
       obtain rfl:=sI h
       exact eN ⟨_,ys1_u39,hn1_u39,hP1_u39,rfl,(kp4 (kp (kp rfl)))⟩
     ·refine cF (vB hp33) (aH (ag ?_))
      obtain rfl:=sI h
      exact ax ⟨rfl,_,ys1_s31,hn1_s31,hP1_s31,rfl,(kp4 (kp (kp rfl)))⟩
    ·intro e L tm hJ
     obtain ⟨rfl,tm0_u32,ys1_u32,hn1_u32,hP1_u32,rfl,rfl⟩:=hJ
     refine ⟨(by intro hc; cases hc),?_⟩
     refine ac (eT (cS (cR (oY rfl (yAI rfl) (oN (eT (cB ?_)))))))
     obtain ⟨u57,hl76,h⟩:=bOs h
     refine ba (fun (s:(Bool × Int × (List (List Int)))) L tm => ∃ (tm0:Nat → Value) (ys1_s:List (Hd × (List Int))),Int.toNat p0.fPlaces = s.2.2.length ∧ NestP (fun z : (List Int) => z) ys1_s s.2.2 ∧ L = [ai b1 24 [vI p0.fPlaces,.slice Ab p0.fTracks.length cb],aL (some ⟨b2,0,none⟩) (Int.toNat p0.fPlaces) 42 1 (Int.toNat p0.fPlaces) (encL a7 ys1_s),inR 3 ys1_s] ∧ tm = (upd (upd (upd (upd (upd (upd (upd tm0 3 (.pointer (some ⟨b1,0,none⟩))) 6 (.slice none 0 0)) 7 (.slice (some ⟨b2,0,none⟩) (Int.toNat p0.fPlaces) (Int.toNat p0.fPlaces))) 10 (.bool s.1)) 52 (.bool s26.1)) 11 (vI u32.2.1)) 16 (vI s.2.1))) 10 hl76 ⟨_,ys1_u32,hn1_u32,hP1_u32,rfl,(kp4 (kp (kp (kp rfl))))⟩ ?_ ?_
     ·rintro s56 L tm st ⟨tm0_s56,ys1_s56,hn1_s56,hP1_s56,rfl,rfl⟩ h
      unfold dK at h
      refine cS (cS (cR (oY rfl (yMI rfl) (oY rfl (yFA d8 rfl) (oY rfl (yL 0 aV rfl rfl rfl) (oY rfl (bj rfl rfl) (oN (eT ?_))))))))
      rcases iOs h with ⟨hp58,h⟩ | ⟨hp58,h⟩
      ·refine cT (vB hp58) (cK (eT (cS (cB (cS (cR (oY rfl (yAI rfl) (oN (eT (cB ?_))))))))))
       obtain ⟨u62,hl75,h⟩:=bOs h
       refine ba (fun (s:(Bool × Int × (List (List Int)))) L tm => ∃ (tm0:Nat → Value) (ys1_s:List (Hd × (List Int))),Int.toNat p0.fPlaces = s.2.2.length ∧ NestP (fun z : (List Int) => z) ys1_s s.2.2 ∧ L = [ai b1 24 [vI p0.fPlaces,.slice Ab p0.fTracks.length cb],aL (some ⟨b2,0,none⟩) (Int.toNat p0.fPlaces) 42 1 (Int.toNat p0.fPlaces) (encL a7 ys1_s),inR 3 ys1_s] ∧ tm = (upd (upd (upd (upd (upd (upd (upd (upd (upd tm0 3 (.pointer (some ⟨b1,0,none⟩))) 6 (.slice none 0 0)) 7 (.slice (some ⟨b2,0,none⟩) (Int.toNat p0.fPlaces) (Int.toNat p0.fPlaces))) 10 (.bool s.1)) 52 (.bool s26.1)) 11 (vI u32.2.1)) 16 (vI s56.2.1)) 110 (.bool (decide (s56.2.1 < p0.fPlaces)))) 17 (vI s.2.1))) 12 hl75 ⟨_,ys1_s56,hn1_s56,hP1_s56,rfl,(kp4 (kp4 (kp rfl)))⟩ ?_ ?_
       ·rintro s61 L tm st ⟨tm0_s61,ys1_s61,hn1_s61,hP1_s61,rfl,rfl⟩ h
        unfold dF at h
        refine cS (cS (cR (oY rfl (yMI rfl) (oY rfl (jw rfl rfl) (oN (eT ?_))))))
        rcases iOs h with ⟨hp63,h⟩ | ⟨hp63,h⟩
        ·refine cT (vB hp63) (cK (eT (cS (cB (cS ?_)))))
         refine bh 17 cD (by kernel_rfl) (by kernel_rfl) ?_
         refine qY rfl (yMS rfl) (qY rfl (yMI rfl) ?_)
         obtain ⟨hg64,h⟩:=gOs h
         refine qY rfl (yI ki (by decide) hg64.1 hg64.2 (RdL.row 1 rfl) (eL aq (NestP.hn hP1_s61 hn1_s61)) rfl rfl) ?_
         refine qY rfl (yR (A:=(some ⟨b2,0,none⟩)) (j:=(Int.toNat s56.2.1 * 1)) (v:=.slice ((rdL ys1_s61 s56.2.1).1.1) ((rdL s61.2.2 s56.2.1).length) ((rdL ys1_s61 s56.2.1).1.2.2)) iR (RdL.row 1 rfl) rfl (aC aq hg64.1 (ah hg64.2 (NestP.hn hP1_s61 hn1_s61)) (congrArg (fun n : Nat => some (Value.slice (rdL ys1_s61 s56.2.1).1.1 n (rdL ys1_s61 s56.2.1).1.2.2)) (NestP.len hP1_s61 hg64.1 (ah hg64.2 hn1_s61))))) (qY rfl (yMI rfl) (qY rfl (eH rfl rfl) ?_))
         obtain ⟨hg65,h⟩:=gOs h
         refine qY rfl (yI bZ (by decide) hg65.1 hg65.2 (NestL.rd (PvL.nestL hP1_s61 (PvL.inR (e:=3) (wb:=wb) (Hb:=Hb) (ys:=ys1_s61)) (fun W2 hW2 => ⟨(hB W2 hW2.below).1,(hB W2 hW2.below).2,hW2.mem (i:=2) rfl⟩)) hg64.1 (ah hg64.2 hn1_s61)) (eL aA rfl) rfl rfl) ?_
         refine qY rfl (yR (A:=((rdL ys1_s61 s56.2.1).1.1)) (j:=(Int.toNat (w64 (s61.2.1 - 1)) * 1)) (v:=vI (rdL (rdL s61.2.2 s56.2.1) (w64 (s61.2.1 - 1)))) aV (NestL.rd (PvL.nestL hP1_s61 (PvL.inR (e:=3) (wb:=wb) (Hb:=Hb) (ys:=ys1_s61)) (fun W2 hW2 => ⟨(hB W2 hW2.below).1,(hB W2 hW2.below).2,hW2.mem (i:=2) rfl⟩)) hg64.1 (ah hg64.2 hn1_s61)) rfl (aC aA hg65.1 (ah hg65.2 rfl) rfl)) (qY rfl (yMS rfl) (qY rfl (yMI rfl) ?_))
         obtain ⟨hg66,h⟩:=gOs h
         refine qY rfl (yI ki (by decide) hg66.1 hg66.2 (RdL.row 1 rfl) (eL aq (NestP.hn hP1_s61 hn1_s61)) rfl rfl) ?_
         refine qY rfl (yR (A:=(some ⟨b2,0,none⟩)) (j:=(Int.toNat s56.2.1 * 1)) (v:=.slice ((rdL ys1_s61 s56.2.1).1.1) ((rdL s61.2.2 s56.2.1).length) ((rdL ys1_s61 s56.2.1).1.2.2)) iR (RdL.row 1 rfl) rfl (aC aq hg66.1 (ah hg66.2 (NestP.hn hP1_s61 hn1_s61)) (congrArg (fun n : Nat => some (Value.slice (rdL ys1_s61 s56.2.1).1.1 n (rdL ys1_s61 s56.2.1).1.2.2)) (NestP.len hP1_s61 hg66.1 (ah hg66.2 hn1_s61))))) (qY rfl (yMI rfl) ?_)
         obtain ⟨hg67,h⟩:=gOs h
         refine qY rfl (yI bZ (by decide) hg67.1 hg67.2 (NestL.rd (PvL.nestL hP1_s61 (PvL.inR (e:=3) (wb:=wb) (Hb:=Hb) (ys:=ys1_s61)) (fun W2 hW2 => ⟨(hB W2 hW2.below).1,(hB W2 hW2.below).2,hW2.mem (i:=2) rfl⟩)) hg66.1 (ah hg66.2 hn1_s61)) (eL aA rfl) rfl rfl) ?_
         refine qY rfl (yR (A:=((rdL ys1_s61 s56.2.1).1.1)) (j:=(Int.toNat s61.2.1 * 1)) (v:=vI (rdL (rdL s61.2.2 s56.2.1) s61.2.1)) aV (NestL.rd (PvL.nestL hP1_s61 (PvL.inR (e:=3) (wb:=wb) (Hb:=Hb) (ys:=ys1_s61)) (fun W2 hW2 => ⟨(hB W2 hW2.below).1,(hB W2 hW2.below).2,hW2.mem (i:=2) rfl⟩)) hg66.1 (ah hg66.2 hn1_s61)) rfl (aC aA hg67.1 (ah hg67.2 rfl) rfl)) ?_
         obtain ⟨y68,hy69,h⟩:=bOs h
         refine qY rfl (yC [vI (rdL (rdL s61.2.2 s56.2.1) (w64 (s61.2.1 - 1))),vI (rdL (rdL s61.2.2 s56.2.1) s61.2.1)] go_127 rfl (fun W2 hW2 => kN (rdL (rdL s61.2.2 s56.2.1) (w64 (s61.2.1 - 1))) (rdL (rdL s61.2.2 s56.2.1) s61.2.1) y68 hy69 W2 ) rfl) (qY rfl (yAB rfl) (cd (oN (eT (cS (cR (oY rfl (yMB rfl) (oN (eT ?_)))))))))
         rcases iOs h with ⟨hp70,h⟩ | ⟨hp70,h⟩
         ·refine cT (vB hp70) (cS ?_)
          refine bh 14 cD (by kernel_rfl) (by kernel_rfl) ?_
          refine qY rfl (yMS rfl) (qY rfl (yMI rfl) ?_)
          obtain ⟨hg71,h⟩:=gOs h
          refine qY rfl (yI ki (by decide) hg71.1 hg71.2 (RdL.row 1 rfl) (eL aq (NestP.hn hP1_s61 hn1_s61)) rfl rfl) ?_
          refine qY rfl (yR (A:=(some ⟨b2,0,none⟩)) (j:=(Int.toNat s56.2.1 * 1)) (v:=.slice ((rdL ys1_s61 s56.2.1).1.1) ((rdL s61.2.2 s56.2.1).length) ((rdL ys1_s61 s56.2.1).1.2.2)) iR (RdL.row 1 rfl) rfl (aC aq hg71.1 (ah hg71.2 (NestP.hn hP1_s61 hn1_s61)) (congrArg (fun n : Nat => some (Value.slice (rdL ys1_s61 s56.2.1).1.1 n (rdL ys1_s61 s56.2.1).1.2.2)) (NestP.len hP1_s61 hg71.1 (ah hg71.2 hn1_s61))))) (qY rfl (yMI rfl) (qY rfl (yMS rfl) (qY rfl (yMI rfl) ?_)))
          obtain ⟨hg72,h⟩:=gOs h
          refine qY rfl (yI ki (by decide) hg72.1 hg72.2 (RdL.row 1 rfl) (eL aq (NestP.hn hP1_s61 hn1_s61)) rfl rfl) ?_
          refine qY rfl (yR (A:=(some ⟨b2,0,none⟩)) (j:=(Int.toNat s56.2.1 * 1)) (v:=.slice ((rdL ys1_s61 s56.2.1).1.1) ((rdL s61.2.2 s56.2.1).length) ((rdL ys1_s61 s56.2.1).1.2.2)) iR (RdL.row 1 rfl) rfl (aC aq hg72.1 (ah hg72.2 (NestP.hn hP1_s61 hn1_s61)) (congrArg (fun n : Nat => some (Value.slice (rdL ys1_s61 s56.2.1).1.1 n (rdL ys1_s61 s56.2.1).1.2.2)) (NestP.len hP1_s61 hg72.1 (ah hg72.2 hn1_s61))))) (qY rfl (yMI rfl) (qY rfl (eH rfl rfl) ?_))
          obtain ⟨hg73,h⟩:=gOs h
          refine qY rfl (yI bZ (by decide) hg73.1 hg73.2 (NestL.rd (PvL.nestL hP1_s61 (PvL.inR (e:=3) (wb:=wb) (Hb:=Hb) (ys:=ys1_s61)) (fun W2 hW2 => ⟨(hB W2 hW2.below).1,(hB W2 hW2.below).2,hW2.mem (i:=2) rfl⟩)) hg72.1 (ah hg72.2 hn1_s61)) (eL aA rfl) rfl rfl) ?_
          refine qY rfl (yR (A:=((rdL ys1_s61 s56.2.1).1.1)) (j:=(Int.toNat (w64 (s61.2.1 - 1)) * 1)) (v:=vI (rdL (rdL s61.2.2 s56.2.1) (w64 (s61.2.1 - 1)))) aV (NestL.rd (PvL.nestL hP1_s61 (PvL.inR (e:=3) (wb:=wb) (Hb:=Hb) (ys:=ys1_s61)) (fun W2 hW2 => ⟨(hB W2 hW2.below).1,(hB W2 hW2.below).2,hW2.mem (i:=2) rfl⟩)) hg72.1 (ah hg72.2 hn1_s61)) rfl (aC aA hg73.1 (ah hg73.2 rfl) rfl)) ?_
          obtain ⟨hg74,h⟩:=gOs h
          refine qY rfl (yI bZ (by decide) hg74.1 hg74.2 (NestL.rd (PvL.nestL hP1_s61 (PvL.inR (e:=3) (wb:=wb) (Hb:=Hb) (ys:=ys1_s61)) (fun W2 hW2 => ⟨(hB W2 hW2.below).1,(hB W2 hW2.below).2,hW2.mem (i:=2) rfl⟩)) hg71.1 (ah hg71.2 hn1_s61)) (eL aA rfl) rfl rfl) ?_
          refine cd ?_
          refine cr rfl (mb 1 2 (by decide) (fun y z e => by unfold a7; rw [e]) (ys:=ys1_s61) (p:=s56.2.1) qk rfl rfl hg71.1 (ah hg71.2 (NestP.hn hP1_s61 hn1_s61)) hg74.1 (NestP.ltIn hP1_s61 (ah hg74.2 rfl)) rfl rfl) ?_
          refine oN (eT (cR (oY rfl (yAB rfl) (oN (aw (eT (cR (oY rfl (yMI rfl) (oY rfl (aT rfl rfl) (oY rfl (yAI rfl) (oN ?_)))))))))))
          obtain rfl:=sI h
          exact eN ⟨_,(ys1_s61.set (Int.toNat s56.2.1) ((rdL ys1_s61 s56.2.1).1,(rdL ys1_s61 s56.2.1).2.set (Int.toNat s61.2.1) (rdL (rdL s61.2.2 s56.2.1) (w64 (s61.2.1 - 1))))),(cP hn1_s61),(NestP.setIn hP1_s61 hg71.1 (ah hg71.2 hn1_s61)),rfl,(kp4 (kp4 (kp rfl)))⟩
         ·refine cF (vB hp70) (cK (aw (eT (cR (oY rfl (yMI rfl) (oY rfl (aT rfl rfl) (oY rfl (yAI rfl) (oN ?_))))))))
          obtain rfl:=sI h
          exact eN ⟨_,ys1_s61,hn1_s61,hP1_s61,rfl,(kp4 (kp4 (kp rfl)))⟩
        ·refine cF (vB hp63) (aH (ag ?_))
         obtain rfl:=sI h
         exact ax ⟨rfl,_,ys1_s61,hn1_s61,hP1_s61,rfl,(kp4 (kp4 (kp rfl)))⟩
       ·intro e L tm hJ
        obtain ⟨rfl,tm0_u62,ys1_u62,hn1_u62,hP1_u62,rfl,rfl⟩:=hJ
        refine ⟨(by intro hc; cases hc),?_⟩
        refine ac (aw (eT (cR (oY rfl (yMI rfl) (oY rfl (aT rfl rfl) (oY rfl (yAI rfl) (oN ?_)))))))
        obtain rfl:=sI h
        exact eN ⟨_,ys1_u62,hn1_u62,hP1_u62,rfl,(kp4 (kp (kp (kp rfl))))⟩
      ·refine cF (vB hp58) (aH (ag ?_))
       obtain rfl:=sI h
       exact ax ⟨rfl,_,ys1_s56,hn1_s56,hP1_s56,rfl,(kp4 (kp (kp (kp rfl))))⟩
     ·intro e L tm hJ
      obtain ⟨rfl,tm0_u57,ys1_u57,hn1_u57,hP1_u57,rfl,rfl⟩:=hJ
      refine ⟨(by intro hc; cases hc),?_⟩
      refine ac (aw ?_)
      obtain rfl:=sI h
      exact eN ⟨_,ys1_u57,hn1_u57,hP1_u57,rfl,(kp4 rfl)⟩
   ·refine cF (vB hp28) (aH (ag ?_))
    obtain rfl:=sI h
    exact ax ⟨rfl,_,ys1_s26,hn1_s26,hP1_s26,rfl,(kp4 rfl)⟩
  ·intro e L tm hJ
   obtain ⟨rfl,tm0_u27,ys1_u27,hn1_u27,hP1_u27,rfl,rfl⟩:=hJ
   refine ⟨(by intro hc; cases hc),?_⟩
   refine ac (eT (cS (cR (oY rfl (yMS rfl) (oY rfl (yAS rfl) (oN (eT (am ?_))))))))
   obtain rfl:=sI h
   exact al (.inl rfl) rfl (rVt (v:=.slice (some ⟨b2,0,none⟩) (Int.toNat p0.fPlaces) (Int.toNat p0.fPlaces)) rfl) (fun W2 hW2 => ⟨(((some ⟨b2,0,none⟩),Int.toNat p0.fPlaces,Int.toNat p0.fPlaces),ys1_u27,inR 3 ys1_u27),⟨hn1_u27,hP1_u27,(PvL.inR (e:=3) (wb:=wb) (Hb:=Hb) (ys:=ys1_u27))⟩,rfl,hW2.pickL [1,2] (by decide) rfl⟩)
end Go.Proofs.YthndghnkebboaaaGreat
