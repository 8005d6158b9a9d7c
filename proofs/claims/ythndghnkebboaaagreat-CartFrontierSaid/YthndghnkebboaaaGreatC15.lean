import Derived.Test.YthndghnkebboaaaGreatF
import Derived.Test.YthndghnkebboaaaGreatGC
import Derived.Test.YthndghnkebboaaaGreatC2
import Derived.Test.YthndghnkebboaaaGreatC4
import Derived.Test.YthndghnkebboaaaGreatC6
import Derived.Test.YthndghnkebboaaaGreatC0
set_option maxHeartbeats 4000000
set_option maxRecDepth 100000
set_option linter.unusedVariables false
namespace Go.Proofs.YthndghnkebboaaaGreat
open Go.RowKit (Below)
attribute [local irreducible] OX QX CX EX OpY Calls CallsIn
theorem cH  (res:Bool) (h:bT = some res) (W:World)  :
  Calls Tryz.prog 17 [].toArray W fun e W2 => e = .returned (.bool res) ∧ Ext W W2 []:=by
 unfold bT at h
 refine ab (m:=261) Tryz.func17 rfl rfl (nB rfl) (cS (cR (oY rfl (yAB rfl) (oN (eT (cS (cR ?_)))))))
 obtain ⟨y1,hy2,h⟩:=bOs h
 refine oC [] _ _ _ rfl go_67 rfl (fun W2 hW2 => lJ  y1 hy2 W2 W (fun _ => True) (fun W3 hb => ⟨fq hW2.below hb,trivial⟩) ) ?_
 rintro ⟨⟨A5,n7,c6⟩,ys10,F11⟩ ⟨hn8,hP9,hV12⟩
 replace hn8 : n7 = y1.fTracks.length:=hn8; subst hn8
 refine aB sM rfl (fun b13 => ?_)
 refine cL rfl (yS 2 [vI y1.fPlaces,.slice A5 y1.fTracks.length c6] sz_24 rfl (nB rfl) rfl rfl rfl) (oN (eT (cS (cR ?_))))
 obtain ⟨y14,hy15,h⟩:=bOs h
 refine oC [] _ _ _ rfl go_68 rfl (fun W2 hW2 => lQ  y14 hy15 W2 ) ?_
 rintro ⟨⟨A16,n20,c17⟩,⟨A18,n22,c19⟩⟩ ⟨hn21,hn23⟩
 replace hn21 : n20 = y14.fB.length:=hn21; subst hn21
 replace hn23 : n22 = y14.fR.length:=hn23; subst hn23
 refine aB qC rfl (fun b24 => ?_)
 try dsimp only [lna,lca,lsz,lss]
 refine cL rfl (yS 5 [.slice A16 y14.fB.length c17,.slice A18 y14.fR.length c19] sz_53 rfl (nB rfl) rfl rfl rfl) (oN (eT (cS (cR (oY rfl (yFA dV rfl) (oY rfl (yL 2 jK rfl rfl rfl) ?_))))))
 obtain ⟨hg25,h⟩:=gOs h
 refine oY rfl (yI kE (by decide) hg25.1 hg25.2 (RdL.row 0 rfl) (eL ax (NestP.hn hP9 rfl)) rfl rfl) ?_
 refine oY rfl (yM (A:=A5) (j:=(Int.toNat 1 * 6)) [vI ((rdL y1.fTracks 1).fID),vI ((rdL y1.fTracks 1).fFrom),vI ((rdL y1.fTracks 1).fTo),vI ((rdL y1.fTracks 1).fLong),vI ((rdL y1.fTracks 1).fToll),.slice ((rdL ys10 1).1.1) ((rdL y1.fTracks 1).fK.length) ((rdL ys10 1).1.2.2)] jQ (Nat.succ_pos _) (RdL.row 0 rfl) rfl (iN (cZ (NestP.snd hP9 1) (NestP.len hP9 hg25.1 (aq hg25.2 rfl))).symm (bd ax hg25.1 (aq hg25.2 (NestP.hn hP9 rfl))))) ?_
 obtain ⟨y26,hy27,h⟩:=bOs h
 refine oY rfl (yC [.agg #[vI ((rdL y1.fTracks 1).fID),vI ((rdL y1.fTracks 1).fFrom),vI ((rdL y1.fTracks 1).fTo),vI ((rdL y1.fTracks 1).fLong),vI ((rdL y1.fTracks 1).fToll),.slice ((rdL ys10 1).1.1) ((rdL y1.fTracks 1).fK.length) ((rdL ys10 1).1.2.2)],vI 8] go_69 rfl (fun W2 hW2 => oW (TT.mk ((rdL y1.fTracks 1).fID) ((rdL y1.fTracks 1).fFrom) ((rdL y1.fTracks 1).fTo) ((rdL y1.fTracks 1).fLong) ((rdL y1.fTracks 1).fToll) ((rdL y1.fTracks 1).fK)) 8 y26 hy27 W2 ((rdL ys10 1).1.1) ((rdL y1.fTracks 1).fK.length) ((rdL ys10 1).1.2.2) rfl ((NestL.rd (PvL.nestL hP9 hV12 (fun W2 hW2 => ⟨hW2.below,trivial,hW2.mem (i:=1) rfl⟩)) hg25.1 (aq hg25.2 rfl)) W2 hW2)) rfl) (oY rfl (aK rfl) (oY rfl (yE rfl rfl) (oY rfl (yE rfl rfl) (oY rfl (yAI rfl) (oY rfl (yAI rfl) (oN (eT (cS (cR (oY rfl (yN 2 [vI y1.fPlaces,.slice A5 y1.fTracks.length c6] eC rfl rfl rfl) ?_))))))))))
 obtain ⟨y28,hy29,h⟩:=bOs h
 refine oC [.agg #[vI y1.fPlaces,.slice A5 y1.fTracks.length c6],vI 0,vI 4] _ _ _ rfl go_49 rfl (fun W2 hW2 => jE y1 0 4 y28 hy29 W2 A5 y1.fTracks.length c6 ys10 rfl ((RdL.row 0 rfl) W2 hW2) (NestL.at (PvL.nestL hP9 hV12 (fun W2 hW2 => ⟨hW2.below,trivial,hW2.mem (i:=1) rfl⟩)) W2 hW2) W (fun _ => True) (fun W3 hb => ⟨fq hW2.below hb,trivial⟩) ) ?_
 rintro ⟨⟨A32,n34,c33⟩,ys37,F38⟩ ⟨hn35,hP36,hV39⟩
 replace hn35 : n34 = y28.1.fH.length:=hn35; subst hn35
 try dsimp only [lna,lca,lsz,lss]
 refine oY rfl (aK rfl) (oY rfl (yE rfl rfl) (oY rfl (yE rfl rfl) ?_))
 refine aB tw rfl (fun b40 => ?_)
 try dsimp only [lna,lca,lsz,lss]
 refine cL rfl (yS 8 [.slice A32 y28.1.fH.length c33] sz_87 rfl (nB rfl) rfl rfl rfl) (oY rfl (yAI rfl) (oN (eT (cS (cR (oY rfl (yN 2 [vI y1.fPlaces,.slice A5 y1.fTracks.length c6] eC rfl rfl rfl) ?_))))))
 obtain ⟨y41,hy42,h⟩:=bOs h
 refine oC [.agg #[vI y1.fPlaces,.slice A5 y1.fTracks.length c6],vI 0,vI 2,vI 4] _ _ _ rfl go_61 rfl (fun W2 hW2 => lz y1 0 2 4 y41 hy42 W2 A5 y1.fTracks.length c6 ys10 rfl ((RdL.row 0 rfl) W2 hW2) (NestL.at (PvL.nestL hP9 hV12 (fun W2 hW2 => ⟨hW2.below,trivial,hW2.mem (i:=1) rfl⟩)) W2 hW2) W (fun _ => True) (fun W3 hb => ⟨fq hW2.below hb,trivial⟩) ) ?_
 rintro ⟨⟨A45,n47,c46⟩,ys50,F51⟩ ⟨hn48,hP49,hV52⟩
 replace hn48 : n47 = y41.1.length:=hn48; subst hn48
 try dsimp only [lna,lca,lsz,lss]
 refine oY rfl (aK rfl) (oY rfl (yE rfl rfl) (oY rfl (yE rfl rfl) (oY rfl (yAS rfl) (oY rfl (yAI rfl) (oN (eT (cS (cR (oY rfl (yN 2 [vI y1.fPlaces,.slice A5 y1.fTracks.length c6] eC rfl rfl rfl) ?_)))))))))
 obtain ⟨y53,hy54,h⟩:=bOs h
 refine oC [.agg #[vI y1.fPlaces,.slice A5 y1.fTracks.length c6],vI 0,vI 2,vI 4,vI 5] _ _ _ rfl go_18 rfl (fun W2 hW2 => kf y1 0 2 4 5 y53 hy54 W2 A5 y1.fTracks.length c6 ys10 rfl ((RdL.row 0 rfl) W2 hW2) (NestL.at (PvL.nestL hP9 hV12 (fun W2 hW2 => ⟨hW2.below,trivial,hW2.mem (i:=1) rfl⟩)) W2 hW2) W (fun _ => True) (fun W3 hb => ⟨fq hW2.below hb,trivial⟩) ) ?_
 rintro ⟨⟨A57,n59,c58⟩,F61⟩ ⟨hn60,hV62⟩
 replace hn60 : n59 = y53.1.fLegs.length:=hn60; subst hn60
 try dsimp only [lna,lca,lsz,lss]
 refine oY rfl (aK rfl) (oY rfl (yE rfl rfl) (oY rfl (yE rfl rfl) ?_))
 refine aB jN rfl (fun b63 => ?_)
 try dsimp only [lna,lca,lsz,lss]
 refine cL rfl (yS 12 [.slice A57 y53.1.fLegs.length c58,vI y53.1.fA,vI y53.1.fToll] k9 rfl (nB rfl) rfl rfl rfl) (oY rfl (yAI rfl) (oN (eT (cS (cR (oY rfl (yN 2 [vI y1.fPlaces,.slice A5 y1.fTracks.length c6] eC rfl rfl rfl) ?_))))))
 obtain ⟨y64,hy65,h⟩:=bOs h
 refine oY rfl (yC [.agg #[vI y1.fPlaces,.slice A5 y1.fTracks.length c6],vI 0,vI 2,vI 26,vI 0] go_19 rfl (fun W2 hW2 => oy y1 0 2 26 0 y64 hy65 W2 A5 y1.fTracks.length c6 ys10 rfl ((RdL.row 0 rfl) W2 hW2) (NestL.at (PvL.nestL hP9 hV12 (fun W2 hW2 => ⟨hW2.below,trivial,hW2.mem (i:=1) rfl⟩)) W2 hW2)) rfl) (oY rfl (aK rfl) (oY rfl (yE rfl rfl) (oY rfl (yE rfl rfl) (oY rfl (yAI rfl) (oY rfl (yAI rfl) (oN (eT (cS (cR (oY rfl (yN 2 [vI y1.fPlaces,.slice A5 y1.fTracks.length c6] eC rfl rfl rfl) ?_))))))))))
 obtain ⟨y66,hy67,h⟩:=bOs h
 refine oC [.agg #[vI y1.fPlaces,.slice A5 y1.fTracks.length c6],vI 0,vI 2,vI 4,vI 0] _ _ _ rfl go_23 rfl (fun W2 hW2 => kP y1 0 2 4 0 y66 hy67 W2 A5 y1.fTracks.length c6 ys10 rfl ((RdL.row 0 rfl) W2 hW2) (NestL.at (PvL.nestL hP9 hV12 (fun W2 hW2 => ⟨hW2.below,trivial,hW2.mem (i:=1) rfl⟩)) W2 hW2)) ?_
 rintro ⟨A68,n70,c69⟩ hn71
 replace hn71 : n70 = y66.1.length:=hn71; subst hn71
 try dsimp only [lna,lca,lsz,lss]
 refine oY rfl (aK rfl) (oY rfl (yE rfl rfl) (oY rfl (yE rfl rfl) (oY rfl (yAS rfl) (oY rfl (yAI rfl) (oN (eT (cS (cR (oY rfl (yN 2 [vI y1.fPlaces,.slice A5 y1.fTracks.length c6] eC rfl rfl rfl) ?_)))))))))
 obtain ⟨y72,hy73,h⟩:=bOs h
 refine oC [.agg #[vI y1.fPlaces,.slice A5 y1.fTracks.length c6],vI 0,vI 2,vI 4,vI 60] _ _ _ rfl go_23 rfl (fun W2 hW2 => kP y1 0 2 4 60 y72 hy73 W2 A5 y1.fTracks.length c6 ys10 rfl ((RdL.row 0 rfl) W2 hW2) (NestL.at (PvL.nestL hP9 hV12 (fun W2 hW2 => ⟨hW2.below,trivial,hW2.mem (i:=1) rfl⟩)) W2 hW2)) ?_
 rintro ⟨A74,n76,c75⟩ hn77
 replace hn77 : n76 = y72.1.length:=hn77; subst hn77
 try dsimp only [lna,lca,lsz,lss]
 refine oY rfl (aK rfl) (oY rfl (yE rfl rfl) (oY rfl (yE rfl rfl) (oY rfl (yAS rfl) (oY rfl (yAI rfl) (oN (eT (cS (cS (cR (oY rfl (yMI rfl) (oY rfl (dJ rfl rfl) (oY rfl (yMB rfl) ?_))))))))))))
 refine oJ 3 (fun tm0 => (upd (upd (upd (upd (upd (upd (upd (upd (upd (upd (upd (upd (upd (upd (upd tm0 0 (.bool false)) 2 (.pointer (some ⟨b24,0,none⟩))) 3 (vI y26.1)) 5 (.pointer (some ⟨b40,0,none⟩))) 7 (.slice A45 y41.1.length c46)) 8 (vI y41.2)) 9 (.pointer (some ⟨b63,0,none⟩))) 10 (vI y53.2)) 11 (vI y64.1)) 12 (vI y64.2)) 13 (.slice A68 y66.1.length c69)) 14 (vI y66.2)) 15 (.slice A74 y72.1.length c75)) 16 (vI y72.2)) 74 (.bool ((y26.2 != 0) || (y28.2 != 0))))) (fun tm0 => ?_) (fun key => ?_)
 ·refine oY rfl (yMB rfl) ?_
  refine oJ 3 (fun tm0 => (upd (upd (upd (upd (upd (upd (upd (upd (upd (upd (upd (upd (upd (upd tm0 0 (.bool false)) 2 (.pointer (some ⟨b24,0,none⟩))) 3 (vI y26.1)) 5 (.pointer (some ⟨b40,0,none⟩))) 7 (.slice A45 y41.1.length c46)) 9 (.pointer (some ⟨b63,0,none⟩))) 10 (vI y53.2)) 11 (vI y64.1)) 12 (vI y64.2)) 13 (.slice A68 y66.1.length c69)) 14 (vI y66.2)) 15 (.slice A74 y72.1.length c75)) 16 (vI y72.2)) 78 (.bool (((y26.2 != 0) || (y28.2 != 0)) || (y41.2 != 0))))) (fun tm0 => ?_) (fun key => ?_)
  ·refine oY rfl (yMB rfl) ?_
   refine oJ 3 (fun tm0 => (upd (upd (upd (upd (upd (upd (upd (upd (upd (upd (upd (upd (upd tm0 0 (.bool false)) 2 (.pointer (some ⟨b24,0,none⟩))) 3 (vI y26.1)) 5 (.pointer (some ⟨b40,0,none⟩))) 7 (.slice A45 y41.1.length c46)) 9 (.pointer (some ⟨b63,0,none⟩))) 11 (vI y64.1)) 12 (vI y64.2)) 13 (.slice A68 y66.1.length c69)) 14 (vI y66.2)) 15 (.slice A74 y72.1.length c75)) 16 (vI y72.2)) 82 (.bool ((((y26.2 != 0) || (y28.2 != 0)) || (y41.2 != 0)) || (y53.2 != 0))))) (fun tm0 => ?_) (fun key => ?_)
   ·refine oY rfl (yMB rfl) ?_
    refine oJ 3 (fun tm0 => (upd (upd (upd (upd (upd (upd (upd (upd (upd (upd (upd (upd tm0 0 (.bool false)) 2 (.pointer (some ⟨b24,0,none⟩))) 3 (vI y26.1)) 5 (.pointer (some ⟨b40,0,none⟩))) 7 (.slice A45 y41.1.length c46)) 9 (.pointer (some ⟨b63,0,none⟩))) 11 (vI y64.1)) 13 (.slice A68 y66.1.length c69)) 14 (vI y66.2)) 15 (.slice A74 y72.1.length c75)) 16 (vI y72.2)) 86 (.bool (((((y26.2 != 0) || (y28.2 != 0)) || (y41.2 != 0)) || (y53.2 != 0)) || (y64.2 != 0))))) (fun tm0 => ?_) (fun key => ?_)
    ·refine oY rfl (yMB rfl) ?_
     refine oJ 3 (fun tm0 => (upd (upd (upd (upd (upd (upd (upd (upd (upd (upd (upd tm0 0 (.bool false)) 2 (.pointer (some ⟨b24,0,none⟩))) 3 (vI y26.1)) 5 (.pointer (some ⟨b40,0,none⟩))) 7 (.slice A45 y41.1.length c46)) 9 (.pointer (some ⟨b63,0,none⟩))) 11 (vI y64.1)) 13 (.slice A68 y66.1.length c69)) 15 (.slice A74 y72.1.length c75)) 16 (vI y72.2)) 90 (.bool ((((((y26.2 != 0) || (y28.2 != 0)) || (y41.2 != 0)) || (y53.2 != 0)) || (y64.2 != 0)) || (y66.2 != 0))))) (fun tm0 => ?_) (fun key => ?_)
     ·refine oY rfl (yMB rfl) ?_
      refine oJ 3 (fun tm0 => (upd (upd (upd (upd (upd (upd (upd (upd (upd (upd tm0 0 (.bool false)) 2 (.pointer (some ⟨b24,0,none⟩))) 3 (vI y26.1)) 5 (.pointer (some ⟨b40,0,none⟩))) 7 (.slice A45 y41.1.length c46)) 9 (.pointer (some ⟨b63,0,none⟩))) 11 (vI y64.1)) 13 (.slice A68 y66.1.length c69)) 15 (.slice A74 y72.1.length c75)) 94 (.bool (((((((y26.2 != 0) || (y28.2 != 0)) || (y41.2 != 0)) || (y53.2 != 0)) || (y64.2 != 0)) || (y66.2 != 0)) || (y72.2 != 0))))) (fun tm0 => ?_) (fun key => ?_)
      ·refine oY rfl (yMB rfl) ?_
       refine oJ 3 (fun tm0 => (upd (upd (upd (upd (upd (upd (upd (upd (upd tm0 0 (.bool false)) 2 (.pointer (some ⟨b24,0,none⟩))) 5 (.pointer (some ⟨b40,0,none⟩))) 7 (.slice A45 y41.1.length c46)) 9 (.pointer (some ⟨b63,0,none⟩))) 11 (vI y64.1)) 13 (.slice A68 y66.1.length c69)) 15 (.slice A74 y72.1.length c75)) 98 (.bool ((((((((y26.2 != 0) || (y28.2 != 0)) || (y41.2 != 0)) || (y53.2 != 0)) || (y64.2 != 0)) || (y66.2 != 0)) || (y72.2 != 0)) || (y26.1 != 21))))) (fun tm0 => ?_) (fun key => ?_)
       ·refine oY rfl (yMB rfl) ?_
        refine oJ 5 (fun tm0 => (upd (upd (upd (upd (upd (upd (upd (upd (upd tm0 0 (.bool false)) 2 (.pointer (some ⟨b24,0,none⟩))) 5 (.pointer (some ⟨b40,0,none⟩))) 7 (.slice A45 y41.1.length c46)) 9 (.pointer (some ⟨b63,0,none⟩))) 11 (vI y64.1)) 13 (.slice A68 y66.1.length c69)) 15 (.slice A74 y72.1.length c75)) 104 (.bool (((((((((y26.2 != 0) || (y28.2 != 0)) || (y41.2 != 0)) || (y53.2 != 0)) || (y64.2 != 0)) || (y66.2 != 0)) || (y72.2 != 0)) || (y26.1 != 21)) || ((y28.1.fH.length:Int) != 3))))) (fun tm0 => ?_) (fun key => ?_)
        ·refine oY rfl (yMB rfl) ?_
         obtain ⟨b87,hb88,h⟩:=bOs h
         refine oJ 7 (fun tm0 => (upd (upd (upd (upd (upd (upd (upd (upd (upd tm0 0 (.bool false)) 2 (.pointer (some ⟨b24,0,none⟩))) 5 (.pointer (some ⟨b40,0,none⟩))) 7 (.slice A45 y41.1.length c46)) 9 (.pointer (some ⟨b63,0,none⟩))) 11 (vI y64.1)) 13 (.slice A68 y66.1.length c69)) 15 (.slice A74 y72.1.length c75)) 112 (.bool b87))) (fun tm0 => ?_) (fun key => ?_)
         ·refine oY rfl (yMB rfl) ?_
          refine oJ 4 (fun tm0 => (upd (upd (upd (upd (upd (upd (upd (upd (upd tm0 0 (.bool false)) 2 (.pointer (some ⟨b24,0,none⟩))) 5 (.pointer (some ⟨b40,0,none⟩))) 7 (.slice A45 y41.1.length c46)) 9 (.pointer (some ⟨b63,0,none⟩))) 11 (vI y64.1)) 13 (.slice A68 y66.1.length c69)) 15 (.slice A74 y72.1.length c75)) 117 (.bool (b87 || ((y41.1.length:Int) != 3))))) (fun tm0 => ?_) (fun key => ?_)
          ·refine oN (eT ?_)
           rcases iOs h with ⟨hp90,h⟩ | ⟨hp90,h⟩
           ·refine cT (vB hp90) (cS (cR (oY rfl (yAB rfl) (oN (eT (ak (aa ?_)))))))
            obtain rfl:=sI h
            exact aj (.inl rfl) rfl (rVt (v:=.bool false) rfl) (fun W2 hW2 => ⟨rfl,hW2.none⟩)
           ·refine cF (vB hp90) (cK (eT (cS (cR (oY rfl (yFA eQ rfl) (oY rfl (yL 8 kZ rfl rfl rfl) ?_))))))
            obtain ⟨hg91,h⟩:=gOs h
            refine oY rfl (yI og (by decide) hg91.1 hg91.2 (RdL.row 6 rfl) (eL aF (NestP.hn hP36 rfl)) rfl rfl) ?_
            refine oY rfl (yR (A:=A32) (j:=(Int.toNat 2 * 1)) (v:=.slice ((rdL ys37 2).1.1) ((rdL y28.1.fH 2).length) ((rdL ys37 2).1.2.2)) lX (RdL.row 6 rfl) rfl (aJ aF hg91.1 (aq hg91.2 (NestP.hn hP36 rfl)) (congrArg (fun n : Nat => some (Value.slice (rdL ys37 2).1.1 n (rdL ys37 2).1.2.2)) (NestP.len hP36 hg91.1 (aq hg91.2 rfl))))) ?_
            obtain ⟨hg92,h⟩:=gOs h
            refine oY rfl (yI dN (by decide) hg92.1 hg92.2 (NestL.rd (PvL.nestL hP36 hV39 (fun W2 hW2 => ⟨hW2.below,trivial,hW2.mem (i:=7) rfl⟩)) hg91.1 (aq hg91.2 rfl)) (eL aG rfl) rfl rfl) ?_
            refine oY rfl (yR (A:=((rdL ys37 2).1.1)) (j:=(Int.toNat 0 * 1)) (v:=vI (rdL (rdL y28.1.fH 2) 0)) aX (NestL.rd (PvL.nestL hP36 hV39 (fun W2 hW2 => ⟨hW2.below,trivial,hW2.mem (i:=7) rfl⟩)) hg91.1 (aq hg91.2 rfl)) rfl (aJ aG hg92.1 (aq hg92.2 rfl) rfl)) (oY rfl (dc rfl rfl) (oY rfl (yMB rfl) ?_))
            obtain ⟨b94,hb95,h⟩:=bOs h
            refine oJ 8 (fun tm0 => (upd (upd (upd (upd (upd (upd (upd (upd (upd tm0 0 (.bool false)) 2 (.pointer (some ⟨b24,0,none⟩))) 5 (.pointer (some ⟨b40,0,none⟩))) 7 (.slice A45 y41.1.length c46)) 9 (.pointer (some ⟨b63,0,none⟩))) 11 (vI y64.1)) 13 (.slice A68 y66.1.length c69)) 15 (.slice A74 y72.1.length c75)) 133 (.bool b94))) (fun tm0 => ?_) (fun key => ?_)
            ·refine oY rfl (yMB rfl) ?_
             obtain ⟨b97,hb98,h⟩:=bOs h
             refine oJ 8 (fun tm0 => (upd (upd (upd (upd (upd (upd (upd (upd tm0 0 (.bool false)) 2 (.pointer (some ⟨b24,0,none⟩))) 7 (.slice A45 y41.1.length c46)) 9 (.pointer (some ⟨b63,0,none⟩))) 11 (vI y64.1)) 13 (.slice A68 y66.1.length c69)) 15 (.slice A74 y72.1.length c75)) 142 (.bool b97))) (fun tm0 => ?_) (fun key => ?_)
             ·refine oY rfl (yMB rfl) ?_
              obtain ⟨b100,hb101,h⟩:=bOs h
              refine oJ 6 (fun tm0 => (upd (upd (upd (upd (upd (upd (upd (upd tm0 0 (.bool false)) 2 (.pointer (some ⟨b24,0,none⟩))) 7 (.slice A45 y41.1.length c46)) 9 (.pointer (some ⟨b63,0,none⟩))) 11 (vI y64.1)) 13 (.slice A68 y66.1.length c69)) 15 (.slice A74 y72.1.length c75)) 149 (.bool b100))) (fun tm0 => ?_) (fun key => ?_)
              ·refine oY rfl (yMB rfl) ?_
               obtain ⟨b103,hb104,h⟩:=bOs h
               refine oJ 6 (fun tm0 => (upd (upd (upd (upd (upd (upd (upd (upd tm0 0 (.bool false)) 2 (.pointer (some ⟨b24,0,none⟩))) 7 (.slice A45 y41.1.length c46)) 9 (.pointer (some ⟨b63,0,none⟩))) 11 (vI y64.1)) 13 (.slice A68 y66.1.length c69)) 15 (.slice A74 y72.1.length c75)) 156 (.bool b103))) (fun tm0 => ?_) (fun key => ?_)
               ·refine oY rfl (yMB rfl) ?_
                obtain ⟨b106,hb107,h⟩:=bOs h
                refine oJ 6 (fun tm0 => (upd (upd (upd (upd (upd (upd (upd tm0 0 (.bool false)) 2 (.pointer (some ⟨b24,0,none⟩))) 9 (.pointer (some ⟨b63,0,none⟩))) 11 (vI y64.1)) 13 (.slice A68 y66.1.length c69)) 15 (.slice A74 y72.1.length c75)) 163 (.bool b106))) (fun tm0 => ?_) (fun key => ?_)
                ·refine oY rfl (yMB rfl) ?_
                 refine oJ 4 (fun tm0 => (upd (upd (upd (upd (upd (upd tm0 0 (.bool false)) 2 (.pointer (some ⟨b24,0,none⟩))) 11 (vI y64.1)) 13 (.slice A68 y66.1.length c69)) 15 (.slice A74 y72.1.length c75)) 168 (.bool (b106 && (y53.1.fA == 17))))) (fun tm0 => ?_) (fun key => ?_)
                 ·refine oY rfl (yMB rfl) ?_
                  refine oJ 3 (fun tm0 => (upd (upd (upd (upd (upd tm0 0 (.bool false)) 2 (.pointer (some ⟨b24,0,none⟩))) 13 (.slice A68 y66.1.length c69)) 15 (.slice A74 y72.1.length c75)) 172 (.bool ((b106 && (y53.1.fA == 17)) && (y64.1 == 16))))) (fun tm0 => ?_) (fun key => ?_)
                  ·refine oY rfl (yMB rfl) ?_
                   obtain ⟨b111,hb112,h⟩:=bOs h
                   refine oJ 4 (fun tm0 => (upd (upd (upd (upd tm0 0 (.bool false)) 2 (.pointer (some ⟨b24,0,none⟩))) 15 (.slice A74 y72.1.length c75)) 177 (.bool b111))) (fun tm0 => ?_) (fun key => ?_)
                   ·refine oY rfl (yMB rfl) ?_
                    obtain ⟨b114,hb115,h⟩:=bOs h
                    refine oJ 4 (fun tm0 => (upd (upd (upd tm0 0 (.bool false)) 2 (.pointer (some ⟨b24,0,none⟩))) 182 (.bool b114))) (fun tm0 => ?_) (fun key => ?_)
                    ·refine oY rfl (yAB rfl) (oN (eT (cS (cR (oY rfl (yN 5 [.slice A16 y14.fB.length c17,.slice A18 y14.fR.length c19] dl rfl rfl rfl) ?_)))))
                     obtain ⟨y116,hy117,h⟩:=bOs h
                     refine oC [.agg #[.slice A16 y14.fB.length c17,.slice A18 y14.fR.length c19]] _ _ _ rfl go_37 rfl (fun W2 hW2 => oZ y14 y116 hy117 W2 A16 y14.fB.length c17 rfl ((RdL.row 3 rfl) W2 hW2) A18 y14.fR.length c19 rfl ((RdL.row 4 rfl) W2 hW2)) ?_
                     rintro ⟨⟨A118,n122,c119⟩,⟨A120,n124,c121⟩⟩ ⟨hn123,hn125⟩
                     replace hn123 : n122 = y116.1.fG.length:=hn123; subst hn123
                     replace hn125 : n124 = y116.1.fPrices.length:=hn125; subst hn125
                     try dsimp only [lna,lca,lsz,lss]
                     refine oY rfl (aK rfl) (oY rfl (yE rfl rfl) (oY rfl (yE rfl rfl) ?_))
                     refine aB rZ rfl (fun b126 => ?_)
                     try dsimp only [lna,lca,lsz,lss]
                     refine cL rfl (yS 17 [.slice A118 y116.1.fG.length c119,vI y116.1.fW,.slice A120 y116.1.fPrices.length c121] tl rfl (nB rfl) rfl rfl rfl) (oY rfl (yAI rfl) (oN (eT (cS (cR (oY rfl (yN 5 [.slice A16 y14.fB.length c17,.slice A18 y14.fR.length c19] dl rfl rfl rfl) ?_))))))
                     obtain ⟨y127,hy128,h⟩:=bOs h
                     refine oC [.agg #[.slice A16 y14.fB.length c17,.slice A18 y14.fR.length c19]] _ _ _ rfl go_27 rfl (fun W2 hW2 => oh y14 y127 hy128 W2 A16 y14.fB.length c17 rfl ((RdL.row 3 rfl) W2 hW2) A18 y14.fR.length c19 rfl ((RdL.row 4 rfl) W2 hW2)) ?_
                     rintro ⟨A129,n131,c130⟩ hn132
                     replace hn132 : n131 = y127.1.length:=hn132; subst hn132
                     try dsimp only [lna,lca,lsz,lss]
                     refine oY rfl (aK rfl) (oY rfl (yE rfl rfl) (oY rfl (yE rfl rfl) (oY rfl (yAS rfl) (oY rfl (yAI rfl) (oN (eT (cS (cR (oY rfl (yN 5 [.slice A16 y14.fB.length c17,.slice A18 y14.fR.length c19] dl rfl rfl rfl) ?_)))))))))
                     obtain ⟨y133,hy134,h⟩:=bOs h
                     refine oC [.agg #[.slice A16 y14.fB.length c17,.slice A18 y14.fR.length c19]] _ _ _ rfl go_29 rfl (fun W2 hW2 => pv y14 y133 hy134 W2 A16 y14.fB.length c17 rfl ((RdL.row 3 rfl) W2 hW2) A18 y14.fR.length c19 rfl ((RdL.row 4 rfl) W2 hW2)) ?_
                     rintro ⟨A135,n137,c136⟩ hn138
                     replace hn138 : n137 = y133.1.length:=hn138; subst hn138
                     try dsimp only [lna,lca,lsz,lss]
                     refine oY rfl (aK rfl) (oY rfl (yE rfl rfl) (oY rfl (yE rfl rfl) (oY rfl (yAS rfl) (oY rfl (yAI rfl) (oN (eT (cS (cR (oY rfl (yN 5 [.slice A16 y14.fB.length c17,.slice A18 y14.fR.length c19] dl rfl rfl rfl) ?_)))))))))
                     refine aN 3 (encL cI [7,8,9]) _ mc_3_3 c8 mB pp (by decide) (by decide) (by kernel_rfl) (eL aG rfl) rfl (fun b139 => ?_)
                     try dsimp only [lna,lca,lsz,lss]
                     obtain ⟨y140,hy141,h⟩:=bOs h
                     refine oC [.agg #[.slice A16 y14.fB.length c17,.slice A18 y14.fR.length c19],.slice (some ⟨b139,0,none⟩) 3 3] _ _ _ rfl go_31 rfl (fun W2 hW2 => nF y14 [7,8,9] y140 hy141 W2 A16 y14.fB.length c17 rfl ((RdL.row 3 rfl) W2 hW2) A18 y14.fR.length c19 rfl ((RdL.row 4 rfl) W2 hW2) (some ⟨b139,0,none⟩) 3 3 rfl ((RdL.row 20 rfl) W2 hW2)) ?_
                     rintro ⟨A142,n144,c143⟩ hn145
                     replace hn145 : n144 = y140.1.length:=hn145; subst hn145
                     try dsimp only [lna,lca,lsz,lss]
                     refine oY rfl (aK rfl) (oY rfl (yE rfl rfl) (oY rfl (yE rfl rfl) (oY rfl (yAS rfl) (oY rfl (yAI rfl) (oN (eT (cS (cR (oY rfl (yN 5 [.slice A16 y14.fB.length c17,.slice A18 y14.fR.length c19] dl rfl rfl rfl) ?_)))))))))
                     obtain ⟨y146,hy147,h⟩:=bOs h
                     refine oY rfl (yC [.agg #[.slice A16 y14.fB.length c17,.slice A18 y14.fR.length c19],vI 1] go_33 rfl (fun W2 hW2 => p9 y14 1 y146 hy147 W2 A16 y14.fB.length c17 rfl ((RdL.row 3 rfl) W2 hW2) A18 y14.fR.length c19 rfl ((RdL.row 4 rfl) W2 hW2)) rfl) (oY rfl (aK rfl) (oY rfl (yE rfl rfl) (oY rfl (yE rfl rfl) (oY rfl (yAI rfl) (oY rfl (yAI rfl) (oN (eT (cS (cR (oY rfl (yMI rfl) (oY rfl (dc rfl rfl) (oY rfl (yMB rfl) ?_))))))))))))
                     refine oJ 4 (fun tm0 => (upd (upd (upd (upd (upd (upd (upd (upd (upd (upd (upd (upd (upd tm0 0 (.bool false)) 2 (.pointer (some ⟨b24,0,none⟩))) 17 (.bool b114)) 18 (.pointer (some ⟨b126,0,none⟩))) 20 (.slice A129 y127.1.length c130)) 21 (vI y127.2)) 22 (.slice A135 y133.1.length c136)) 23 (vI y133.2)) 24 (.slice A142 y140.1.length c143)) 25 (vI y140.2)) 26 (vI y146.1)) 27 (vI y146.2)) 215 (.bool ((y116.2 == 0) && (y116.1.fW == 14))))) (fun tm0 => ?_) (fun key => ?_)
                     ·refine oY rfl (yMB rfl) ?_
                      obtain ⟨b150,hb151,h⟩:=bOs h
                      refine oJ 5 (fun tm0 => (upd (upd (upd (upd (upd (upd (upd (upd (upd (upd (upd tm0 0 (.bool false)) 17 (.bool b114)) 20 (.slice A129 y127.1.length c130)) 21 (vI y127.2)) 22 (.slice A135 y133.1.length c136)) 23 (vI y133.2)) 24 (.slice A142 y140.1.length c143)) 25 (vI y140.2)) 26 (vI y146.1)) 27 (vI y146.2)) 221 (.bool b150))) (fun tm0 => ?_) (fun key => ?_)
                      ·refine oY rfl (yMB rfl) ?_
                       refine oJ 3 (fun tm0 => (upd (upd (upd (upd (upd (upd (upd (upd (upd (upd tm0 0 (.bool false)) 17 (.bool b114)) 20 (.slice A129 y127.1.length c130)) 22 (.slice A135 y133.1.length c136)) 23 (vI y133.2)) 24 (.slice A142 y140.1.length c143)) 25 (vI y140.2)) 26 (vI y146.1)) 27 (vI y146.2)) 225 (.bool (b150 && (y127.2 == 0))))) (fun tm0 => ?_) (fun key => ?_)
                       ·refine oY rfl (yMB rfl) ?_
                        obtain ⟨b154,hb155,h⟩:=bOs h
                        refine oJ 4 (fun tm0 => (upd (upd (upd (upd (upd (upd (upd (upd (upd tm0 0 (.bool false)) 17 (.bool b114)) 22 (.slice A135 y133.1.length c136)) 23 (vI y133.2)) 24 (.slice A142 y140.1.length c143)) 25 (vI y140.2)) 26 (vI y146.1)) 27 (vI y146.2)) 230 (.bool b154))) (fun tm0 => ?_) (fun key => ?_)
                        ·refine oY rfl (yMB rfl) ?_
                         refine oJ 3 (fun tm0 => (upd (upd (upd (upd (upd (upd (upd (upd tm0 0 (.bool false)) 17 (.bool b114)) 22 (.slice A135 y133.1.length c136)) 24 (.slice A142 y140.1.length c143)) 25 (vI y140.2)) 26 (vI y146.1)) 27 (vI y146.2)) 234 (.bool (b154 && (y133.2 == 0))))) (fun tm0 => ?_) (fun key => ?_)
                         ·refine oY rfl (yMB rfl) ?_
                          obtain ⟨b158,hb159,h⟩:=bOs h
                          refine oJ 4 (fun tm0 => (upd (upd (upd (upd (upd (upd (upd tm0 0 (.bool false)) 17 (.bool b114)) 24 (.slice A142 y140.1.length c143)) 25 (vI y140.2)) 26 (vI y146.1)) 27 (vI y146.2)) 239 (.bool b158))) (fun tm0 => ?_) (fun key => ?_)
                          ·refine oY rfl (yAB rfl) (oN (eT (cS (cR (oY rfl (yMB rfl) (oY rfl (yMB rfl) ?_))))))
                           refine oJ 2 (fun tm0 => (upd (upd (upd (upd (upd (upd tm0 0 (.bool false)) 24 (.slice A142 y140.1.length c143)) 25 (vI y140.2)) 26 (vI y146.1)) 27 (vI y146.2)) 243 (.bool (b114 && b158)))) (fun tm0 => ?_) (fun key => ?_)
                           ·refine oY rfl (yMB rfl) ?_
                            refine oJ 3 (fun tm0 => (upd (upd (upd (upd (upd tm0 0 (.bool false)) 24 (.slice A142 y140.1.length c143)) 26 (vI y146.1)) 27 (vI y146.2)) 247 (.bool ((b114 && b158) && (y140.2 == 0))))) (fun tm0 => ?_) (fun key => ?_)
                            ·refine oY rfl (yMB rfl) ?_
                             obtain ⟨b163,hb164,h⟩:=bOs h
                             refine oJ 4 (fun tm0 => (upd (upd (upd (upd tm0 0 (.bool false)) 26 (vI y146.1)) 27 (vI y146.2)) 252 (.bool b163))) (fun tm0 => ?_) (fun key => ?_)
                             ·refine oY rfl (yMB rfl) ?_
                              refine oJ 3 (fun tm0 => (upd (upd (upd tm0 0 (.bool false)) 26 (vI y146.1)) 256 (.bool (b163 && (y146.2 == 0))))) (fun tm0 => ?_) (fun key => ?_)
                              ·refine oY rfl (yMB rfl) ?_
                               refine oJ 3 (fun tm0 => (upd (upd tm0 0 (.bool false)) 260 (.bool ((b163 && (y146.2 == 0)) && (y146.1 == 5))))) (fun tm0 => ?_) (fun key => ?_)
                               ·refine oY rfl (yAB rfl) (oN (eT (ak ?_)))
                                obtain rfl:=sI h
                                exact aj (.inl rfl) rfl (rVt (v:=.bool ((b163 && (y146.2 == 0)) && (y146.1 == 5))) rfl) (fun W2 hW2 => ⟨rfl,hW2.none⟩)
                               ·rcases ao (b163 && (y146.2 == 0)) with hp166 | hp166
                                ·refine oY (sT rfl rfl rfl rfl hp166) (yMI rfl) (oY (sT rfl rfl rfl rfl hp166) (dc rfl rfl) (oY rfl (ad (vB hp166) rfl) ?_))
                                 exact key _ _ (keep (keep rfl rfl) (vB (hQ hp166)))
                                ·refine oSk (sF rfl rfl rfl rfl hp166) (oSk (sF rfl rfl rfl rfl hp166) (oY rfl (ae (vB hp166) rfl) ?_))
                                 exact key _ _ (keep (keep rfl rfl) (vB (iw hp166)))
                              ·rcases ao b163 with hp165 | hp165
                               ·refine oY (sT rfl rfl rfl rfl hp165) (yMI rfl) (oY (sT rfl rfl rfl rfl hp165) (dc rfl rfl) (oY rfl (ad (vB hp165) rfl) ?_))
                                exact key _ _ (keep (keep (keep rfl rfl) rfl) (vB (hQ hp165)))
                               ·refine oSk (sF rfl rfl rfl rfl hp165) (oSk (sF rfl rfl rfl rfl hp165) (oY rfl (ae (vB hp165) rfl) ?_))
                                exact key _ _ (keep (keep (keep rfl rfl) rfl) (vB (iw hp165)))
                             ·clear h; rcases iOs hb164 with ⟨hp162,h⟩ | ⟨hp162,h⟩
                              ·refine oY (sT rfl rfl rfl rfl hp162) (yMS rfl) ?_
                               refine aN 2 (encL cI [8,9]) _ sS c8 mB pp (by decide) (by decide) (by kernel_rfl) (eL aG rfl) (sT rfl rfl rfl rfl hp162) (fun b167 => ?_)
                               try dsimp only [lna,lca,lsz,lss]
                               obtain ⟨y168,hy169,h⟩:=bOs h
                               refine oY (sT rfl rfl rfl rfl hp162) (yC [.slice A142 y140.1.length c143,.slice (some ⟨b167,0,none⟩) 2 2] go_25 rfl (fun W2 hW2 => dx y140.1 [8,9] y168 hy169 W2 A142 y140.1.length c143 rfl ((RdL.row 21 rfl) W2 hW2) (some ⟨b167,0,none⟩) 2 2 rfl ((RdL.row 22 rfl) W2 hW2)) rfl) (oY rfl (ad (vB hp162) rfl) ?_)
                               obtain rfl:=sI h
                               refine ni 22 ?_
                               exact key _ _ (kp4 rfl)
                              ·refine oSk (sF rfl rfl rfl rfl hp162) (oSk (sF rfl rfl rfl rfl hp162) (oSk (sF rfl rfl rfl rfl hp162) (oY rfl (ae (vB hp162) rfl) ?_)))
                               obtain rfl:=sI h
                               exact key _ _ (kp4 rfl)
                            ·rcases ao (b114 && b158) with hp161 | hp161
                             ·refine oY (sT rfl rfl rfl rfl hp161) (yMI rfl) (oY (sT rfl rfl rfl rfl hp161) (dc rfl rfl) (oY rfl (ad (vB hp161) rfl) ?_))
                              exact key _ _ (keep (keep (keep (keep (keep rfl rfl) rfl) rfl) rfl) (vB (hQ hp161)))
                             ·refine oSk (sF rfl rfl rfl rfl hp161) (oSk (sF rfl rfl rfl rfl hp161) (oY rfl (ae (vB hp161) rfl) ?_))
                              exact key _ _ (keep (keep (keep (keep (keep rfl rfl) rfl) rfl) rfl) (vB (iw hp161)))
                           ·rcases ao b114 with hp160 | hp160
                            ·refine oY (sT rfl rfl rfl rfl hp160) (yMB rfl) (oY rfl (ad (vB hp160) rfl) ?_)
                             exact key _ _ (keep (keep (keep (keep (keep (keep rfl rfl) rfl) rfl) rfl) rfl) (vB (hQ hp160)))
                            ·refine oSk (sF rfl rfl rfl rfl hp160) (oY rfl (ae (vB hp160) rfl) ?_)
                             exact key _ _ (keep (keep (keep (keep (keep (keep rfl rfl) rfl) rfl) rfl) rfl) (vB (iw hp160)))
                          ·clear h; rcases iOs hb159 with ⟨hp157,h⟩ | ⟨hp157,h⟩
                           ·refine oY (sT rfl rfl rfl rfl hp157) (yMS rfl) ?_
                            refine aN 1 (encL cI [9]) _ nN c8 mB pp (by decide) (by decide) (by kernel_rfl) (eL aG rfl) (sT rfl rfl rfl rfl hp157) (fun b170 => ?_)
                            try dsimp only [lna,lca,lsz,lss]
                            obtain ⟨y171,hy172,h⟩:=bOs h
                            refine oY (sT rfl rfl rfl rfl hp157) (yC [.slice A135 y133.1.length c136,.slice (some ⟨b170,0,none⟩) 1 1] go_25 rfl (fun W2 hW2 => dx y133.1 [9] y171 hy172 W2 A135 y133.1.length c136 rfl ((RdL.row 19 rfl) W2 hW2) (some ⟨b170,0,none⟩) 1 1 rfl ((RdL.row 22 rfl) W2 hW2)) rfl) (oY rfl (ad (vB hp157) rfl) ?_)
                            obtain rfl:=sI h
                            refine ni 22 ?_
                            exact key _ _ (kp4 (kp (kp (kp rfl))))
                           ·refine oSk (sF rfl rfl rfl rfl hp157) (oSk (sF rfl rfl rfl rfl hp157) (oSk (sF rfl rfl rfl rfl hp157) (oY rfl (ae (vB hp157) rfl) ?_)))
                            obtain rfl:=sI h
                            exact key _ _ (kp4 (kp (kp (kp rfl))))
                         ·rcases ao b154 with hp156 | hp156
                          ·refine oY (sT rfl rfl rfl rfl hp156) (yMI rfl) (oY (sT rfl rfl rfl rfl hp156) (dc rfl rfl) (oY rfl (ad (vB hp156) rfl) ?_))
                           exact key _ _ (keep (keep (keep (keep (keep (keep (keep (keep rfl rfl) rfl) rfl) rfl) rfl) rfl) rfl) (vB (hQ hp156)))
                          ·refine oSk (sF rfl rfl rfl rfl hp156) (oSk (sF rfl rfl rfl rfl hp156) (oY rfl (ae (vB hp156) rfl) ?_))
                           exact key _ _ (keep (keep (keep (keep (keep (keep (keep (keep rfl rfl) rfl) rfl) rfl) rfl) rfl) rfl) (vB (iw hp156)))
                        ·clear h; rcases iOs hb155 with ⟨hp153,h⟩ | ⟨hp153,h⟩
                         ·refine oY (sT rfl rfl rfl rfl hp153) (yMS rfl) ?_
                          refine aN 2 (encL cI [7,8]) _ sS c8 mB pp (by decide) (by decide) (by kernel_rfl) (eL aG rfl) (sT rfl rfl rfl rfl hp153) (fun b173 => ?_)
                          try dsimp only [lna,lca,lsz,lss]
                          obtain ⟨y174,hy175,h⟩:=bOs h
                          refine oY (sT rfl rfl rfl rfl hp153) (yC [.slice A129 y127.1.length c130,.slice (some ⟨b173,0,none⟩) 2 2] go_25 rfl (fun W2 hW2 => dx y127.1 [7,8] y174 hy175 W2 A129 y127.1.length c130 rfl ((RdL.row 18 rfl) W2 hW2) (some ⟨b173,0,none⟩) 2 2 rfl ((RdL.row 22 rfl) W2 hW2)) rfl) (oY rfl (ad (vB hp153) rfl) ?_)
                          obtain rfl:=sI h
                          refine ni 22 ?_
                          exact key _ _ (kp4 (kp4 (kp rfl)))
                         ·refine oSk (sF rfl rfl rfl rfl hp153) (oSk (sF rfl rfl rfl rfl hp153) (oSk (sF rfl rfl rfl rfl hp153) (oY rfl (ae (vB hp153) rfl) ?_)))
                          obtain rfl:=sI h
                          exact key _ _ (kp4 (kp4 (kp rfl)))
                       ·rcases ao b150 with hp152 | hp152
                        ·refine oY (sT rfl rfl rfl rfl hp152) (yMI rfl) (oY (sT rfl rfl rfl rfl hp152) (dc rfl rfl) (oY rfl (ad (vB hp152) rfl) ?_))
                         exact key _ _ (keep (keep (keep (keep (keep (keep (keep (keep (keep (keep rfl rfl) rfl) rfl) rfl) rfl) rfl) rfl) rfl) rfl) (vB (hQ hp152)))
                        ·refine oSk (sF rfl rfl rfl rfl hp152) (oSk (sF rfl rfl rfl rfl hp152) (oY rfl (ae (vB hp152) rfl) ?_))
                         exact key _ _ (keep (keep (keep (keep (keep (keep (keep (keep (keep (keep rfl rfl) rfl) rfl) rfl) rfl) rfl) rfl) rfl) rfl) (vB (iw hp152)))
                      ·clear h; rcases iOs hb151 with ⟨hp149,h⟩ | ⟨hp149,h⟩
                       ·refine oY (sT rfl rfl rfl rfl hp149) (yN 5 [.slice A16 y14.fB.length c17,.slice A18 y14.fR.length c19] dl rfl rfl rfl) (oY (sT rfl rfl rfl rfl hp149) (yN 17 [.slice A118 y116.1.fG.length c119,vI y116.1.fW,.slice A120 y116.1.fPrices.length c121] tT rfl rfl rfl) ?_)
                        obtain ⟨y176,hy177,h⟩:=bOs h
                        refine oY (sT rfl rfl rfl rfl hp149) (yC [.agg #[.slice A16 y14.fB.length c17,.slice A18 y14.fR.length c19],.agg #[.slice A118 y116.1.fG.length c119,vI y116.1.fW,.slice A120 y116.1.fPrices.length c121]] go_44 rfl (fun W2 hW2 => lS y14 y116.1 y176 hy177 W2 A16 y14.fB.length c17 rfl ((RdL.row 3 rfl) W2 hW2) A18 y14.fR.length c19 rfl ((RdL.row 4 rfl) W2 hW2) A118 y116.1.fG.length c119 rfl ((RdL.row 15 rfl) W2 hW2) A120 y116.1.fPrices.length c121 rfl ((RdL.row 16 rfl) W2 hW2)) rfl) (oY (sT rfl rfl rfl rfl hp149) (dc rfl rfl) (oY rfl (ad (vB hp149) rfl) ?_))
                        obtain rfl:=sI h
                        exact key _ _ (kp4 (kp4 (kp (kp (kp rfl)))))
                       ·refine oSk (sF rfl rfl rfl rfl hp149) (oSk (sF rfl rfl rfl rfl hp149) (oSk (sF rfl rfl rfl rfl hp149) (oSk (sF rfl rfl rfl rfl hp149) (oY rfl (ae (vB hp149) rfl) ?_))))
                        obtain rfl:=sI h
                        exact key _ _ (kp4 (kp4 (kp (kp (kp rfl)))))
                     ·rcases ao (y116.2 == 0) with hp148 | hp148
                      ·refine oY (sT rfl rfl rfl rfl hp148) (yFA o5 rfl) (oY (sT rfl rfl rfl rfl hp148) (yL 17 aX rfl rfl rfl) (oY (sT rfl rfl rfl rfl hp148) (dc rfl rfl) (oY rfl (ad (vB hp148) rfl) ?_)))
                       exact key _ _ (keep (keep (keep (keep (keep (keep (keep (keep (keep (keep (keep (keep (keep rfl rfl) rfl) rfl) rfl) rfl) rfl) rfl) rfl) rfl) rfl) rfl) rfl) (vB (hQ hp148)))
                      ·refine oSk (sF rfl rfl rfl rfl hp148) (oSk (sF rfl rfl rfl rfl hp148) (oSk (sF rfl rfl rfl rfl hp148) (oY rfl (ae (vB hp148) rfl) ?_)))
                       exact key _ _ (keep (keep (keep (keep (keep (keep (keep (keep (keep (keep (keep (keep (keep rfl rfl) rfl) rfl) rfl) rfl) rfl) rfl) rfl) rfl) rfl) rfl) rfl) (vB (iw hp148)))
                    ·clear h; rcases iOs hb115 with ⟨hp113,h⟩ | ⟨hp113,h⟩
                     ·refine oY (sT rfl rfl rfl rfl hp113) (yMS rfl) ?_
                      refine aN 1 (encL cI [3]) _ nN c8 mB pp (by decide) (by decide) (by kernel_rfl) (eL aG rfl) (sT rfl rfl rfl rfl hp113) (fun b178 => ?_)
                      try dsimp only [lna,lca,lsz,lss]
                      obtain ⟨y179,hy180,h⟩:=bOs h
                      refine oY (sT rfl rfl rfl rfl hp113) (yC [.slice A74 y72.1.length c75,.slice (some ⟨b178,0,none⟩) 1 1] go_25 rfl (fun W2 hW2 => dx y72.1 [3] y179 hy180 W2 A74 y72.1.length c75 rfl ((RdL.row 14 rfl) W2 hW2) (some ⟨b178,0,none⟩) 1 1 rfl ((RdL.row 15 rfl) W2 hW2)) rfl) (oY rfl (ad (vB hp113) rfl) ?_)
                      obtain rfl:=sI h
                      refine ni 15 ?_
                      exact key _ _ (kp (kp (kp rfl)))
                     ·refine oSk (sF rfl rfl rfl rfl hp113) (oSk (sF rfl rfl rfl rfl hp113) (oSk (sF rfl rfl rfl rfl hp113) (oY rfl (ae (vB hp113) rfl) ?_)))
                      obtain rfl:=sI h
                      exact key _ _ (kp (kp (kp rfl)))
                   ·clear h; rcases iOs hb112 with ⟨hp110,h⟩ | ⟨hp110,h⟩
                    ·refine oY (sT rfl rfl rfl rfl hp110) (yMS rfl) ?_
                     refine aN 2 (encL cI [1,2]) _ sS c8 mB pp (by decide) (by decide) (by kernel_rfl) (eL aG rfl) (sT rfl rfl rfl rfl hp110) (fun b181 => ?_)
                     try dsimp only [lna,lca,lsz,lss]
                     obtain ⟨y182,hy183,h⟩:=bOs h
                     refine oY (sT rfl rfl rfl rfl hp110) (yC [.slice A68 y66.1.length c69,.slice (some ⟨b181,0,none⟩) 2 2] go_25 rfl (fun W2 hW2 => dx y66.1 [1,2] y182 hy183 W2 A68 y66.1.length c69 rfl ((RdL.row 13 rfl) W2 hW2) (some ⟨b181,0,none⟩) 2 2 rfl ((RdL.row 15 rfl) W2 hW2)) rfl) (oY rfl (ad (vB hp110) rfl) ?_)
                     obtain rfl:=sI h
                     refine ni 15 ?_
                     exact key _ _ (kp4 rfl)
                    ·refine oSk (sF rfl rfl rfl rfl hp110) (oSk (sF rfl rfl rfl rfl hp110) (oSk (sF rfl rfl rfl rfl hp110) (oY rfl (ae (vB hp110) rfl) ?_)))
                     obtain rfl:=sI h
                     exact key _ _ (kp4 rfl)
                  ·rcases ao (b106 && (y53.1.fA == 17)) with hp109 | hp109
                   ·refine oY (sT rfl rfl rfl rfl hp109) (yMI rfl) (oY (sT rfl rfl rfl rfl hp109) (dc rfl rfl) (oY rfl (ad (vB hp109) rfl) ?_))
                    exact key _ _ (keep (keep (keep (keep (keep rfl rfl) rfl) rfl) rfl) (vB (hQ hp109)))
                   ·refine oSk (sF rfl rfl rfl rfl hp109) (oSk (sF rfl rfl rfl rfl hp109) (oY rfl (ae (vB hp109) rfl) ?_))
                    exact key _ _ (keep (keep (keep (keep (keep rfl rfl) rfl) rfl) rfl) (vB (iw hp109)))
                 ·rcases ao b106 with hp108 | hp108
                  ·refine oY (sT rfl rfl rfl rfl hp108) (yFA gh rfl) (oY (sT rfl rfl rfl rfl hp108) (yL 12 aX rfl rfl rfl) (oY (sT rfl rfl rfl rfl hp108) (dc rfl rfl) (oY rfl (ad (vB hp108) rfl) ?_)))
                   exact key _ _ (keep (keep (keep (keep (keep (keep rfl rfl) rfl) rfl) rfl) rfl) (vB (hQ hp108)))
                  ·refine oSk (sF rfl rfl rfl rfl hp108) (oSk (sF rfl rfl rfl rfl hp108) (oSk (sF rfl rfl rfl rfl hp108) (oY rfl (ae (vB hp108) rfl) ?_)))
                   exact key _ _ (keep (keep (keep (keep (keep (keep rfl rfl) rfl) rfl) rfl) rfl) (vB (iw hp108)))
                ·clear h; rcases iOs hb107 with ⟨hp105,h⟩ | ⟨hp105,h⟩
                 ·refine oY (sT rfl rfl rfl rfl hp105) (yMS rfl) ?_
                  obtain ⟨hg184,h⟩:=gOs h
                  refine oY (sT rfl rfl rfl rfl hp105) (yI iW (by decide) hg184.1 hg184.2 (RdL.row 9 rfl) (eL ap (NestP.hn hP49 rfl)) rfl rfl) ?_
                  refine oY (sT rfl rfl rfl rfl hp105) (yFR (A:=A45) (j:=(Int.toNat 2 * 3)) ik rfl) (oY (sT rfl rfl rfl rfl hp105) (yR (A:=A45) (j:=((Int.toNat 2 * 3) + 2)) (v:=vI ((rdL y41.1 2).fToll)) aX (RdL.row 9 rfl) rfl (eG ap hg184.1 (aq hg184.2 (NestP.hn hP49 rfl)) (congrArg (fun z : TJ => some (Value.int .i64 z.fToll)) (NestP.snd hP49 2)))) (oY (sT rfl rfl rfl rfl hp105) (dc rfl rfl) (oY rfl (ad (vB hp105) rfl) ?_)))
                  obtain rfl:=sI h
                  exact key _ _ (kp4 (kp (kp (kp rfl))))
                 ·refine oSk (sF rfl rfl rfl rfl hp105) (oSk (sF rfl rfl rfl rfl hp105) (oSk (sF rfl rfl rfl rfl hp105) (oSk (sF rfl rfl rfl rfl hp105) (oSk (sF rfl rfl rfl rfl hp105) (oY rfl (ae (vB hp105) rfl) ?_)))))
                  obtain rfl:=sI h
                  exact key _ _ (kp4 (kp (kp (kp rfl))))
               ·clear h; rcases iOs hb104 with ⟨hp102,h⟩ | ⟨hp102,h⟩
                ·refine oY (sT rfl rfl rfl rfl hp102) (yMS rfl) ?_
                 obtain ⟨hg185,h⟩:=gOs h
                 refine oY (sT rfl rfl rfl rfl hp102) (yI iW (by decide) hg185.1 hg185.2 (RdL.row 9 rfl) (eL ap (NestP.hn hP49 rfl)) rfl rfl) ?_
                 refine oY (sT rfl rfl rfl rfl hp102) (yFR (A:=A45) (j:=(Int.toNat 1 * 3)) gh rfl) (oY (sT rfl rfl rfl rfl hp102) (yR (A:=A45) (j:=((Int.toNat 1 * 3) + 1)) (v:=vI ((rdL y41.1 1).fA)) aX (RdL.row 9 rfl) rfl (eG ap hg185.1 (aq hg185.2 (NestP.hn hP49 rfl)) (congrArg (fun z : TJ => some (Value.int .i64 z.fA)) (NestP.snd hP49 1)))) (oY (sT rfl rfl rfl rfl hp102) (dc rfl rfl) (oY rfl (ad (vB hp102) rfl) ?_)))
                 obtain rfl:=sI h
                 exact key _ _ (kp4 (kp4 rfl))
                ·refine oSk (sF rfl rfl rfl rfl hp102) (oSk (sF rfl rfl rfl rfl hp102) (oSk (sF rfl rfl rfl rfl hp102) (oSk (sF rfl rfl rfl rfl hp102) (oSk (sF rfl rfl rfl rfl hp102) (oY rfl (ae (vB hp102) rfl) ?_)))))
                 obtain rfl:=sI h
                 exact key _ _ (kp4 (kp4 rfl))
              ·clear h; rcases iOs hb101 with ⟨hp99,h⟩ | ⟨hp99,h⟩
               ·refine oY (sT rfl rfl rfl rfl hp99) (yMS rfl) ?_
                obtain ⟨hg186,h⟩:=gOs h
                refine oY (sT rfl rfl rfl rfl hp99) (yI iW (by decide) hg186.1 hg186.2 (RdL.row 9 rfl) (eL ap (NestP.hn hP49 rfl)) rfl rfl) ?_
                refine oY (sT rfl rfl rfl rfl hp99) (yFR (A:=A45) (j:=(Int.toNat 0 * 3)) ik rfl) (oY (sT rfl rfl rfl rfl hp99) (yR (A:=A45) (j:=((Int.toNat 0 * 3) + 2)) (v:=vI ((rdL y41.1 0).fToll)) aX (RdL.row 9 rfl) rfl (eG ap hg186.1 (aq hg186.2 (NestP.hn hP49 rfl)) (congrArg (fun z : TJ => some (Value.int .i64 z.fToll)) (NestP.snd hP49 0)))) (oY (sT rfl rfl rfl rfl hp99) (dc rfl rfl) (oY rfl (ad (vB hp99) rfl) ?_)))
                obtain rfl:=sI h
                exact key _ _ (kp4 (kp4 rfl))
               ·refine oSk (sF rfl rfl rfl rfl hp99) (oSk (sF rfl rfl rfl rfl hp99) (oSk (sF rfl rfl rfl rfl hp99) (oSk (sF rfl rfl rfl rfl hp99) (oSk (sF rfl rfl rfl rfl hp99) (oY rfl (ae (vB hp99) rfl) ?_)))))
                obtain rfl:=sI h
                exact key _ _ (kp4 (kp4 rfl))
             ·clear h; rcases iOs hb98 with ⟨hp96,h⟩ | ⟨hp96,h⟩
              ·refine oY (sT rfl rfl rfl rfl hp96) (yFA eQ rfl) (oY (sT rfl rfl rfl rfl hp96) (yL 8 kZ rfl rfl rfl) ?_)
               obtain ⟨hg187,h⟩:=gOs h
               refine oY (sT rfl rfl rfl rfl hp96) (yI og (by decide) hg187.1 hg187.2 (RdL.row 6 rfl) (eL aF (NestP.hn hP36 rfl)) rfl rfl) ?_
               refine oY (sT rfl rfl rfl rfl hp96) (yR (A:=A32) (j:=(Int.toNat 2 * 1)) (v:=.slice ((rdL ys37 2).1.1) ((rdL y28.1.fH 2).length) ((rdL ys37 2).1.2.2)) lX (RdL.row 6 rfl) rfl (aJ aF hg187.1 (aq hg187.2 (NestP.hn hP36 rfl)) (congrArg (fun n : Nat => some (Value.slice (rdL ys37 2).1.1 n (rdL ys37 2).1.2.2)) (NestP.len hP36 hg187.1 (aq hg187.2 rfl))))) ?_
               obtain ⟨hg188,h⟩:=gOs h
               refine oY (sT rfl rfl rfl rfl hp96) (yI dN (by decide) hg188.1 hg188.2 (NestL.rd (PvL.nestL hP36 hV39 (fun W2 hW2 => ⟨hW2.below,trivial,hW2.mem (i:=7) rfl⟩)) hg187.1 (aq hg187.2 rfl)) (eL aG rfl) rfl rfl) ?_
               refine oY (sT rfl rfl rfl rfl hp96) (yR (A:=((rdL ys37 2).1.1)) (j:=(Int.toNat 6 * 1)) (v:=vI (rdL (rdL y28.1.fH 2) 6)) aX (NestL.rd (PvL.nestL hP36 hV39 (fun W2 hW2 => ⟨hW2.below,trivial,hW2.mem (i:=7) rfl⟩)) hg187.1 (aq hg187.2 rfl)) rfl (aJ aG hg188.1 (aq hg188.2 rfl) rfl)) (oY (sT rfl rfl rfl rfl hp96) (dc rfl rfl) (oY rfl (ad (vB hp96) rfl) ?_))
               obtain rfl:=sI h
               exact key _ _ (kp4 (kp4 rfl))
              ·refine oSk (sF rfl rfl rfl rfl hp96) (oSk (sF rfl rfl rfl rfl hp96) (oSk (sF rfl rfl rfl rfl hp96) (oSk (sF rfl rfl rfl rfl hp96) (oSk (sF rfl rfl rfl rfl hp96) (oSk (sF rfl rfl rfl rfl hp96) (oSk (sF rfl rfl rfl rfl hp96) (oY rfl (ae (vB hp96) rfl) ?_)))))))
               obtain rfl:=sI h
               exact key _ _ (kp4 (kp4 rfl))
            ·clear h; rcases iOs hb95 with ⟨hp93,h⟩ | ⟨hp93,h⟩
             ·refine oY (sT rfl rfl rfl rfl hp93) (yFA eQ rfl) (oY (sT rfl rfl rfl rfl hp93) (yL 8 kZ rfl rfl rfl) ?_)
              obtain ⟨hg189,h⟩:=gOs h
              refine oY (sT rfl rfl rfl rfl hp93) (yI og (by decide) hg189.1 hg189.2 (RdL.row 6 rfl) (eL aF (NestP.hn hP36 rfl)) rfl rfl) ?_
              refine oY (sT rfl rfl rfl rfl hp93) (yR (A:=A32) (j:=(Int.toNat 2 * 1)) (v:=.slice ((rdL ys37 2).1.1) ((rdL y28.1.fH 2).length) ((rdL ys37 2).1.2.2)) lX (RdL.row 6 rfl) rfl (aJ aF hg189.1 (aq hg189.2 (NestP.hn hP36 rfl)) (congrArg (fun n : Nat => some (Value.slice (rdL ys37 2).1.1 n (rdL ys37 2).1.2.2)) (NestP.len hP36 hg189.1 (aq hg189.2 rfl))))) ?_
              obtain ⟨hg190,h⟩:=gOs h
              refine oY (sT rfl rfl rfl rfl hp93) (yI dN (by decide) hg190.1 hg190.2 (NestL.rd (PvL.nestL hP36 hV39 (fun W2 hW2 => ⟨hW2.below,trivial,hW2.mem (i:=7) rfl⟩)) hg189.1 (aq hg189.2 rfl)) (eL aG rfl) rfl rfl) ?_
              refine oY (sT rfl rfl rfl rfl hp93) (yR (A:=((rdL ys37 2).1.1)) (j:=(Int.toNat 2 * 1)) (v:=vI (rdL (rdL y28.1.fH 2) 2)) aX (NestL.rd (PvL.nestL hP36 hV39 (fun W2 hW2 => ⟨hW2.below,trivial,hW2.mem (i:=7) rfl⟩)) hg189.1 (aq hg189.2 rfl)) rfl (aJ aG hg190.1 (aq hg190.2 rfl) rfl)) (oY (sT rfl rfl rfl rfl hp93) (dc rfl rfl) (oY rfl (ad (vB hp93) rfl) ?_))
              obtain rfl:=sI h
              exact key _ _ (kp4 (kp4 (kp rfl)))
             ·refine oSk (sF rfl rfl rfl rfl hp93) (oSk (sF rfl rfl rfl rfl hp93) (oSk (sF rfl rfl rfl rfl hp93) (oSk (sF rfl rfl rfl rfl hp93) (oSk (sF rfl rfl rfl rfl hp93) (oSk (sF rfl rfl rfl rfl hp93) (oSk (sF rfl rfl rfl rfl hp93) (oY rfl (ae (vB hp93) rfl) ?_)))))))
              obtain rfl:=sI h
              exact key _ _ (kp4 (kp4 (kp rfl)))
          ·rcases ao b87 with hp89 | hp89
           ·refine oSk (sF rfl rfl rfl rfl hp89) (oSk (sF rfl rfl rfl rfl hp89) (oSk (sF rfl rfl rfl rfl hp89) (oY rfl (ad (vB hp89) rfl) ?_)))
            exact key _ _ (keep (keep (keep (keep (keep (keep (keep (keep (keep rfl rfl) rfl) rfl) rfl) rfl) rfl) rfl) rfl) (vB (jF hp89)))
           ·refine oY (sT rfl rfl rfl rfl hp89) (yMS rfl) (oY (sT rfl rfl rfl rfl hp89) (bl (us:=[]) kN rfl) (oY (sT rfl rfl rfl rfl hp89) (dJ rfl rfl) (oY rfl (ae (vB hp89) rfl) ?_)))
            exact key _ _ (keep (keep (keep (keep (keep (keep (keep (keep (keep rfl rfl) rfl) rfl) rfl) rfl) rfl) rfl) rfl) (vB (jI hp89)))
         ·clear h; rcases iOs hb88 with ⟨hp86,h⟩ | ⟨hp86,h⟩
          ·refine oSk (sF rfl rfl rfl rfl hp86) (oSk (sF rfl rfl rfl rfl hp86) (oSk (sF rfl rfl rfl rfl hp86) (oSk (sF rfl rfl rfl rfl hp86) (oSk (sF rfl rfl rfl rfl hp86) (oSk (sF rfl rfl rfl rfl hp86) (oY rfl (ad (vB hp86) rfl) ?_))))))
           obtain rfl:=sI h
           exact key _ _ (kp4 (kp4 (kp rfl)))
          ·refine oY (sT rfl rfl rfl rfl hp86) (yFA eQ rfl) (oY (sT rfl rfl rfl rfl hp86) (yL 8 kZ rfl rfl rfl) ?_)
           obtain ⟨hg191,h⟩:=gOs h
           refine oY (sT rfl rfl rfl rfl hp86) (yI og (by decide) hg191.1 hg191.2 (RdL.row 6 rfl) (eL aF (NestP.hn hP36 rfl)) rfl rfl) ?_
           refine oY (sT rfl rfl rfl rfl hp86) (yR (A:=A32) (j:=(Int.toNat 2 * 1)) (v:=.slice ((rdL ys37 2).1.1) ((rdL y28.1.fH 2).length) ((rdL ys37 2).1.2.2)) lX (RdL.row 6 rfl) rfl (aJ aF hg191.1 (aq hg191.2 (NestP.hn hP36 rfl)) (congrArg (fun n : Nat => some (Value.slice (rdL ys37 2).1.1 n (rdL ys37 2).1.2.2)) (NestP.len hP36 hg191.1 (aq hg191.2 rfl))))) (oY (sT rfl rfl rfl rfl hp86) (bl (us:=[]) c8 rfl) (oY (sT rfl rfl rfl rfl hp86) (dJ rfl rfl) (oY rfl (ae (vB hp86) rfl) ?_)))
           obtain rfl:=sI h
           exact key _ _ (kp4 (kp4 (kp rfl)))
        ·rcases ao ((((((((y26.2 != 0) || (y28.2 != 0)) || (y41.2 != 0)) || (y53.2 != 0)) || (y64.2 != 0)) || (y66.2 != 0)) || (y72.2 != 0)) || (y26.1 != 21)) with hp85 | hp85
         ·refine oSk (sF rfl rfl rfl rfl hp85) (oSk (sF rfl rfl rfl rfl hp85) (oSk (sF rfl rfl rfl rfl hp85) (oSk (sF rfl rfl rfl rfl hp85) (oY rfl (ad (vB hp85) rfl) ?_))))
          exact key _ _ (keep (keep (keep (keep (keep (keep (keep (keep (keep rfl rfl) rfl) rfl) rfl) rfl) rfl) rfl) rfl) (vB (jF hp85)))
         ·refine oY (sT rfl rfl rfl rfl hp85) (yFA eQ rfl) (oY (sT rfl rfl rfl rfl hp85) (yL 8 kZ rfl rfl rfl) (oY (sT rfl rfl rfl rfl hp85) (bl (us:=[]) qH rfl) (oY (sT rfl rfl rfl rfl hp85) (dJ rfl rfl) (oY rfl (ae (vB hp85) rfl) ?_))))
          exact key _ _ (keep (keep (keep (keep (keep (keep (keep (keep (keep rfl rfl) rfl) rfl) rfl) rfl) rfl) rfl) rfl) (vB (jI hp85)))
       ·rcases ao (((((((y26.2 != 0) || (y28.2 != 0)) || (y41.2 != 0)) || (y53.2 != 0)) || (y64.2 != 0)) || (y66.2 != 0)) || (y72.2 != 0)) with hp84 | hp84
        ·refine oSk (sF rfl rfl rfl rfl hp84) (oSk (sF rfl rfl rfl rfl hp84) (oY rfl (ad (vB hp84) rfl) ?_))
         exact key _ _ (keep (keep (keep (keep (keep (keep (keep (keep (keep rfl rfl) rfl) rfl) rfl) rfl) rfl) rfl) rfl) (vB (jF hp84)))
        ·refine oY (sT rfl rfl rfl rfl hp84) (yMI rfl) (oY (sT rfl rfl rfl rfl hp84) (dJ rfl rfl) (oY rfl (ae (vB hp84) rfl) ?_))
         exact key _ _ (keep (keep (keep (keep (keep (keep (keep (keep (keep rfl rfl) rfl) rfl) rfl) rfl) rfl) rfl) rfl) (vB (jI hp84)))
      ·rcases ao ((((((y26.2 != 0) || (y28.2 != 0)) || (y41.2 != 0)) || (y53.2 != 0)) || (y64.2 != 0)) || (y66.2 != 0)) with hp83 | hp83
       ·refine oSk (sF rfl rfl rfl rfl hp83) (oSk (sF rfl rfl rfl rfl hp83) (oY rfl (ad (vB hp83) rfl) ?_))
        exact key _ _ (keep (keep (keep (keep (keep (keep (keep (keep (keep (keep rfl rfl) rfl) rfl) rfl) rfl) rfl) rfl) rfl) rfl) (vB (jF hp83)))
       ·refine oY (sT rfl rfl rfl rfl hp83) (yMI rfl) (oY (sT rfl rfl rfl rfl hp83) (dJ rfl rfl) (oY rfl (ae (vB hp83) rfl) ?_))
        exact key _ _ (keep (keep (keep (keep (keep (keep (keep (keep (keep (keep rfl rfl) rfl) rfl) rfl) rfl) rfl) rfl) rfl) rfl) (vB (jI hp83)))
     ·rcases ao (((((y26.2 != 0) || (y28.2 != 0)) || (y41.2 != 0)) || (y53.2 != 0)) || (y64.2 != 0)) with hp82 | hp82
      ·refine oSk (sF rfl rfl rfl rfl hp82) (oSk (sF rfl rfl rfl rfl hp82) (oY rfl (ad (vB hp82) rfl) ?_))
       exact key _ _ (keep (keep (keep (keep (keep (keep (keep (keep (keep (keep (keep rfl rfl) rfl) rfl) rfl) rfl) rfl) rfl) rfl) rfl) rfl) (vB (jF hp82)))
      ·refine oY (sT rfl rfl rfl rfl hp82) (yMI rfl) (oY (sT rfl rfl rfl rfl hp82) (dJ rfl rfl) (oY rfl (ae (vB hp82) rfl) ?_))
       exact key _ _ (keep (keep (keep (keep (keep (keep (keep (keep (keep (keep (keep rfl rfl) rfl) rfl) rfl) rfl) rfl) rfl) rfl) rfl) rfl) (vB (jI hp82)))
    ·rcases ao ((((y26.2 != 0) || (y28.2 != 0)) || (y41.2 != 0)) || (y53.2 != 0)) with hp81 | hp81
     ·refine oSk (sF rfl rfl rfl rfl hp81) (oSk (sF rfl rfl rfl rfl hp81) (oY rfl (ad (vB hp81) rfl) ?_))
      exact key _ _ (keep (keep (keep (keep (keep (keep (keep (keep (keep (keep (keep (keep rfl rfl) rfl) rfl) rfl) rfl) rfl) rfl) rfl) rfl) rfl) rfl) (vB (jF hp81)))
     ·refine oY (sT rfl rfl rfl rfl hp81) (yMI rfl) (oY (sT rfl rfl rfl rfl hp81) (dJ rfl rfl) (oY rfl (ae (vB hp81) rfl) ?_))
      exact key _ _ (keep (keep (keep (keep (keep (keep (keep (keep (keep (keep (keep (keep rfl rfl) rfl) rfl) rfl) rfl) rfl) rfl) rfl) rfl) rfl) rfl) (vB (jI hp81)))
   ·rcases ao (((y26.2 != 0) || (y28.2 != 0)) || (y41.2 != 0)) with hp80 | hp80
    ·refine oSk (sF rfl rfl rfl rfl hp80) (oSk (sF rfl rfl rfl rfl hp80) (oY rfl (ad (vB hp80) rfl) ?_))
     exact key _ _ (keep (keep (keep (keep (keep (keep (keep (keep (keep (keep (keep (keep (keep rfl rfl) rfl) rfl) rfl) rfl) rfl) rfl) rfl) rfl) rfl) rfl) rfl) (vB (jF hp80)))
    ·refine oY (sT rfl rfl rfl rfl hp80) (yMI rfl) (oY (sT rfl rfl rfl rfl hp80) (dJ rfl rfl) (oY rfl (ae (vB hp80) rfl) ?_))
     exact key _ _ (keep (keep (keep (keep (keep (keep (keep (keep (keep (keep (keep (keep (keep rfl rfl) rfl) rfl) rfl) rfl) rfl) rfl) rfl) rfl) rfl) rfl) rfl) (vB (jI hp80)))
  ·rcases ao ((y26.2 != 0) || (y28.2 != 0)) with hp79 | hp79
   ·refine oSk (sF rfl rfl rfl rfl hp79) (oSk (sF rfl rfl rfl rfl hp79) (oY rfl (ad (vB hp79) rfl) ?_))
    exact key _ _ (keep (keep (keep (keep (keep (keep (keep (keep (keep (keep (keep (keep (keep (keep rfl rfl) rfl) rfl) rfl) rfl) rfl) rfl) rfl) rfl) rfl) rfl) rfl) rfl) (vB (jF hp79)))
   ·refine oY (sT rfl rfl rfl rfl hp79) (yMI rfl) (oY (sT rfl rfl rfl rfl hp79) (dJ rfl rfl) (oY rfl (ae (vB hp79) rfl) ?_))
    exact key _ _ (keep (keep (keep (keep (keep (keep (keep (keep (keep (keep (keep (keep (keep (keep rfl rfl) rfl) rfl) rfl) rfl) rfl) rfl) rfl) rfl) rfl) rfl) rfl) rfl) (vB (jI hp79)))
 ·rcases ao (y26.2 != 0) with hp78 | hp78
  ·refine oSk (sF rfl rfl rfl rfl hp78) (oSk (sF rfl rfl rfl rfl hp78) (oY rfl (ad (vB hp78) rfl) ?_))
   exact key _ _ (keep (keep (keep (keep (keep (keep (keep (keep (keep (keep (keep (keep (keep (keep (keep rfl rfl) rfl) rfl) rfl) rfl) rfl) rfl) rfl) rfl) rfl) rfl) rfl) rfl) rfl) (vB (jF hp78)))
  ·refine oY (sT rfl rfl rfl rfl hp78) (yMI rfl) (oY (sT rfl rfl rfl rfl hp78) (dJ rfl rfl) (oY rfl (ae (vB hp78) rfl) ?_))
   exact key _ _ (keep (keep (keep (keep (keep (keep (keep (keep (keep (keep (keep (keep (keep (keep (keep rfl rfl) rfl) rfl) rfl) rfl) rfl) rfl) rfl) rfl) rfl) rfl) rfl) rfl) rfl) (vB (jI hp78)))
end Go.Proofs.YthndghnkebboaaaGreat
set_option maxHeartbeats 4000000
set_option maxRecDepth 100000
namespace Go.Proofs.YthndghnkebboaaaGreat
open Go.RowKit (Below)
attribute [local irreducible] OX QX CX EX OpY Calls CallsIn
theorem mQ (p0:TR) (res:Bool) (h:fV p0 = some res) (W:World) (Ab:Option Addr) (n0_1 cb : Nat) (ys0_1:List (Hd × TT)) (hn0_1:n0_1 = p0.fTracks.length) (hr0_1:Rd W Ab n0_1 cb (encL TTrack_cells2 ys0_1)) (hN0_1:NestW W (fun z : TT => z.fK) TSpan_cells ys0_1 p0.fTracks) :
  Calls Tryz.prog 16 [.agg #[vI p0.fPlaces,.slice Ab n0_1 cb]].toArray W fun e W2 => e = .returned (.bool res) ∧ Ext W W2 []:=by
 subst hn0_1
 unfold fV at h
 refine ab (m:=49) Tryz.func16 rfl rfl (nB rfl) (cS (cR ?_))
 refine aM [vI p0.fPlaces,.slice Ab p0.fTracks.length cb] rfl rfl rfl (fun b1 => ?_)
 refine oY rfl (yAB rfl) (oN (eT (cS (cS (cR (oY rfl (yAI rfl) (oN (eT (cB ?_)))))))))
 obtain ⟨u4,hl8,h⟩:=bOs h
 refine bn (fun (s:(Bool × Int)) L tm => ∃ (tm0:Nat → Value),L = [ag b1 24 [vI p0.fPlaces,.slice Ab p0.fTracks.length cb]] ∧ tm = (upd (upd (upd tm0 1 (.pointer (some ⟨b1,0,none⟩))) 2 (.bool s.1)) 3 (vI s.2))) 0 hl8 ⟨_,rfl,(kp (kp (kp rfl)))⟩ ?_ ?_
 ·rintro s3 L tm st ⟨tm0_s3,rfl,rfl⟩ h
  unfold eY at h
  refine cS (cS (cR (oY rfl (yMI rfl) (oY rfl (yFA dV rfl) (oY rfl (yL 0 jK rfl rfl rfl) (oY rfl (bl (us:=[]) ji rfl) (oY rfl (bo rfl rfl) (oN (eT ?_)))))))))
  rcases iOs h with ⟨hp5,h⟩ | ⟨hp5,h⟩
  ·refine cT (vB hp5) (cK (eT (cS (cB (cS (cR (oY rfl (yFA dV rfl) (oY rfl (yL 0 jK rfl rfl rfl) (oY rfl (yMI rfl) ?_)))))))))
   obtain ⟨hg6,h⟩:=gOs h
   refine oY rfl (yI kE (by decide) hg6.1 hg6.2 (RdL.arg hr0_1) (eL ax (NestP.hn hN0_1.p rfl)) rfl rfl) ?_
   refine oY rfl (yFR (A:=Ab) (j:=(Int.toNat s3.2 * 6)) mV rfl) (oY rfl (yR (A:=Ab) (j:=((Int.toNat s3.2 * 6) + 5)) (v:=.slice ((rdL ys0_1 s3.2).1.1) ((rdL p0.fTracks s3.2).fK.length) ((rdL ys0_1 s3.2).1.2.2)) rh (RdL.arg hr0_1) rfl (eG ax hg6.1 (aq hg6.2 (NestP.hn hN0_1.p rfl)) (congrArg (fun n : Nat => some (Value.slice (rdL ys0_1 s3.2).1.1 n (rdL ys0_1 s3.2).1.2.2)) (NestP.len hN0_1.p hg6.1 (aq hg6.2 rfl))))) (oY rfl (bl (us:=[]) qd rfl) (oY rfl (gG rfl rfl) (oN (eT ?_)))))
   rcases iOs h with ⟨hp7,h⟩ | ⟨hp7,h⟩
   ·refine cT (vB hp7) (cS (cR (oY rfl (yAB rfl) (oN (eT (ak (ah (aa ?_))))))))
    obtain rfl:=sI h
    exact au ⟨rfl,_,rfl,(kp (kp (kp rfl)))⟩
   ·refine cF (vB hp7) (cK (ay (eT (cR (oY rfl (yMI rfl) (oY rfl (aY rfl rfl) (oY rfl (yAI rfl) (oN ?_))))))))
    obtain rfl:=sI h
    exact eN ⟨_,rfl,(kp (kp (kp rfl)))⟩
  ·refine cF (vB hp5) (aE (ai ?_))
   obtain rfl:=sI h
   exact au ⟨rfl,_,rfl,(kp (kp (kp rfl)))⟩
 ·intro e L tm hJ
  rcases u4 with u9 | u10
  ·dsimp only at h hJ
   obtain ⟨rfl,tm0_u9,rfl,rfl⟩:=hJ
   refine ⟨(by intro hc; cases hc),?_⟩
   refine ah (aa ?_)
   obtain rfl:=sI h
   exact aj (.inl rfl) rfl (rVt (v:=.bool u9.1) rfl) (fun W2 hW2 => ⟨rfl,hW2.none⟩)
  ·dsimp only at h hJ
   obtain ⟨rfl,tm0_u10,rfl,rfl⟩:=hJ
   refine ⟨(by intro hc; cases hc),?_⟩
   refine ac (eT (cS (cR (oY rfl (yFA jp rfl) (oY rfl (yL 0 aX rfl rfl rfl) (oY rfl (iO rfl rfl) (oY rfl (yMB rfl) ?_)))))))
   refine oJ 4 (fun tm0 => (upd (upd (upd tm0 1 (.pointer (some ⟨b1,0,none⟩))) 2 (.bool u10.1)) 28 (.bool ((decide (p0.fPlaces ≤ 8)) || (decide (16 < p0.fPlaces)))))) (fun tm0 => ?_) (fun key => ?_)
   ·refine oY rfl (yAB rfl) (oN (eT (cS (cR (oY rfl (yFA dV rfl) (oY rfl (yL 0 jK rfl rfl rfl) (oY rfl (bl (us:=[]) ji rfl) (oY rfl (iO rfl rfl) (oY rfl (yMB rfl) ?_)))))))))
    refine oJ 11 (fun tm0 => (upd (upd (upd tm0 2 (.bool u10.1)) 4 (.bool ((decide (p0.fPlaces ≤ 8)) || (decide (16 < p0.fPlaces))))) 44 (.bool ((decide ((p0.fTracks.length:Int) ≤ 16)) || ((decide (48 < (p0.fTracks.length:Int))) && (decide ((p0.fTracks.length:Int) ≤ 60))))))) (fun tm0 => ?_) (fun key => ?_)
    ·refine oY rfl (yAB rfl) (oN (eT (cS (cR (oY rfl (yMB rfl) (oY rfl (yMB rfl) ?_))))))
     refine oJ 2 (fun tm0 => (upd (upd tm0 2 (.bool u10.1)) 48 (.bool (((decide (p0.fPlaces ≤ 8)) || (decide (16 < p0.fPlaces))) && ((decide ((p0.fTracks.length:Int) ≤ 16)) || ((decide (48 < (p0.fTracks.length:Int))) && (decide ((p0.fTracks.length:Int) ≤ 60)))))))) (fun tm0 => ?_) (fun key => ?_)
     ·refine oY rfl (yAB rfl) (oN (eT (ak ?_)))
      obtain rfl:=sI h
      exact aj (.inl rfl) rfl (rVt (v:=.bool (((decide (p0.fPlaces ≤ 8)) || (decide (16 < p0.fPlaces))) && ((decide ((p0.fTracks.length:Int) ≤ 16)) || ((decide (48 < (p0.fTracks.length:Int))) && (decide ((p0.fTracks.length:Int) ≤ 60)))))) rfl) (fun W2 hW2 => ⟨rfl,hW2.none⟩)
     ·rcases ao ((decide (p0.fPlaces ≤ 8)) || (decide (16 < p0.fPlaces))) with hp13 | hp13
      ·refine oY (sT rfl rfl rfl rfl hp13) (yMB rfl) (oY rfl (ad (vB hp13) rfl) ?_)
       exact key _ _ (keep (keep rfl rfl) (vB (hQ hp13)))
      ·refine oSk (sF rfl rfl rfl rfl hp13) (oY rfl (ae (vB hp13) rfl) ?_)
       exact key _ _ (keep (keep rfl rfl) (vB (iw hp13)))
    ·rcases ao (decide ((p0.fTracks.length:Int) ≤ 16)) with hp12 | hp12
     ·refine oSk (sF rfl rfl rfl rfl hp12) (oSk (sF rfl rfl rfl rfl hp12) (oSk (sF rfl rfl rfl rfl hp12) (oSk (sF rfl rfl rfl rfl hp12) (oSk (sF rfl rfl rfl rfl hp12) (oSk rfl (oSk rfl (oSk rfl (oSk rfl (oSk (sF rfl rfl rfl rfl hp12) (oY rfl (ad (vB hp12) rfl) ?_))))))))))
      exact key _ _ (keep (keep (keep rfl rfl) rfl) (vB (jF hp12)))
     ·refine oY (sT rfl rfl rfl rfl hp12) (yFA dV rfl) (oY (sT rfl rfl rfl rfl hp12) (yL 0 jK rfl rfl rfl) (oY (sT rfl rfl rfl rfl hp12) (bl (us:=[]) ji rfl) (oY (sT rfl rfl rfl rfl hp12) (gG rfl rfl) (oY (sT rfl rfl rfl rfl hp12) (yMB rfl) ?_))))
      refine oJ 5 (fun tm0 => (upd (upd (upd (upd tm0 2 (.bool u10.1)) 4 (.bool ((decide (p0.fPlaces ≤ 8)) || (decide (16 < p0.fPlaces))))) 33 (.bool (decide ((p0.fTracks.length:Int) ≤ 16)))) 43 (.bool ((decide (48 < (p0.fTracks.length:Int))) && (decide ((p0.fTracks.length:Int) ≤ 60)))))) (fun tm0 => ?_) (fun key => ?_)
      ·refine oY rfl (ae (vB hp12) rfl) ?_
       exact key _ _ (keep (keep (keep rfl rfl) rfl) (vB (jI hp12)))
      ·rcases ao (decide (48 < (p0.fTracks.length:Int))) with hp14 | hp14
       ·refine oY (sT rfl rfl rfl rfl hp14) (yFA dV rfl) (oY (sT rfl rfl rfl rfl hp14) (yL 0 jK rfl rfl rfl) (oY (sT rfl rfl rfl rfl hp14) (bl (us:=[]) ji rfl) (oY (sT rfl rfl rfl rfl hp14) (iO rfl rfl) (oY (sT rfl rfl rfl rfl hp12) (ad (vB hp14) rfl) ?_))))
        exact key _ _ (keep (keep (keep (keep rfl rfl) rfl) rfl) (vB (hQ hp14)))
       ·refine oSk (sF rfl rfl rfl rfl hp14) (oSk (sF rfl rfl rfl rfl hp14) (oSk (sF rfl rfl rfl rfl hp14) (oSk (sF rfl rfl rfl rfl hp14) (oY (sT rfl rfl rfl rfl hp12) (ae (vB hp14) rfl) ?_))))
        exact key _ _ (keep (keep (keep (keep rfl rfl) rfl) rfl) (vB (iw hp14)))
   ·rcases ao (decide (p0.fPlaces ≤ 8)) with hp11 | hp11
    ·refine oSk (sF rfl rfl rfl rfl hp11) (oSk (sF rfl rfl rfl rfl hp11) (oSk (sF rfl rfl rfl rfl hp11) (oY rfl (ad (vB hp11) rfl) ?_)))
     exact key _ _ (keep (keep (keep rfl rfl) rfl) (vB (jF hp11)))
    ·refine oY (sT rfl rfl rfl rfl hp11) (yFA jp rfl) (oY (sT rfl rfl rfl rfl hp11) (yL 0 aX rfl rfl rfl) (oY (sT rfl rfl rfl rfl hp11) (gG rfl rfl) (oY rfl (ae (vB hp11) rfl) ?_)))
     exact key _ _ (keep (keep (keep rfl rfl) rfl) (vB (jI hp11)))
end Go.Proofs.YthndghnkebboaaaGreat
set_option maxHeartbeats 4000000
set_option maxRecDepth 100000
namespace Go.Proofs.YthndghnkebboaaaGreat
open Go.RowKit (Below)
attribute [local irreducible] OX QX CX EX OpY Calls CallsIn
theorem iI (p0:TJ) (res:Bool) (h:dD p0 = some res) (W:World) (Aa:Option Addr) (n0_0 ca : Nat) (hn0_0:n0_0 = p0.fLegs.length) (hr0_0:Rd W Aa n0_0 ca (encL TLeg_cells p0.fLegs)) :
  Calls Tryz.prog 47 [.agg #[.slice Aa n0_0 ca,vI p0.fA,vI p0.fToll]].toArray W fun e W2 => e = .returned (.bool res) ∧ Ext W W2 []:=by
 subst hn0_0
 unfold dD at h
 refine ab (m:=7) Tryz.func47 rfl rfl (nB rfl) (cS (cR ?_))
 refine aM [.slice Aa p0.fLegs.length ca,vI p0.fA,vI p0.fToll] rfl rfl rfl (fun b1 => ?_)
 refine oY rfl (yAB rfl) (oN (eT (cS (cR (oY rfl (yFA nx rfl) (oY rfl (yL 0 sc_27 rfl rfl rfl) (oY rfl (bl (us:=[]) sx rfl) (oY rfl (iO rfl rfl) (oY rfl (yAB rfl) (oN (eT (ak ?_))))))))))))
 obtain rfl:=sI h
 exact aj (.inl rfl) rfl (rVt (v:=.bool (decide ((p0.fLegs.length:Int) ≤ 40))) rfl) (fun W2 hW2 => ⟨rfl,hW2.none⟩)
theorem mn (p0:TTimes) (res:Bool) (h:eV p0 = some res) (W:World) (Aa:Option Addr) (n0_0 ca : Nat) (ys0_0:List (Hd × (List Int))) (hn0_0:n0_0 = p0.fH.length) (hr0_0:Rd W Aa n0_0 ca (encL SlInt_cells2 ys0_0)) (hN0_0:NestW W (fun z : (List Int) => z) cI ys0_0 p0.fH) :
  Calls Tryz.prog 48 [.agg #[.slice Aa n0_0 ca]].toArray W fun e W2 => e = .returned (.bool res) ∧ Ext W W2 []:=by
 subst hn0_0
 unfold eV at h
 refine ab (m:=22) Tryz.func48 rfl rfl (nB rfl) (cS (cR ?_))
 refine aM [.slice Aa p0.fH.length ca] rfl rfl rfl (fun b1 => ?_)
 refine oY rfl (yAB rfl) (oN (eT (cS (cS (cR (oY rfl (yAI rfl) (oN (eT (cB ?_)))))))))
 obtain ⟨u4,hl8,h⟩:=bOs h
 refine bn (fun (s:(Bool × Int)) L tm => ∃ (tm0:Nat → Value),L = [ag b1 87 [.slice Aa p0.fH.length ca]] ∧ tm = (upd (upd (upd tm0 1 (.pointer (some ⟨b1,0,none⟩))) 2 (.bool s.1)) 3 (vI s.2))) 0 hl8 ⟨_,rfl,(kp (kp (kp rfl)))⟩ ?_ ?_
 ·rintro s3 L tm st ⟨tm0_s3,rfl,rfl⟩ h
  unfold eJ at h
  refine cS (cS (cR (oY rfl (yMI rfl) (oY rfl (yFA eQ rfl) (oY rfl (yL 0 kZ rfl rfl rfl) (oY rfl (bl (us:=[]) qH rfl) (oY rfl (bo rfl rfl) (oN (eT ?_)))))))))
  rcases iOs h with ⟨hp5,h⟩ | ⟨hp5,h⟩
  ·refine cT (vB hp5) (cK (eT (cS (cB (cS (cR (oY rfl (yFA eQ rfl) (oY rfl (yL 0 kZ rfl rfl rfl) (oY rfl (yMI rfl) ?_)))))))))
   obtain ⟨hg6,h⟩:=gOs h
   refine oY rfl (yI og (by decide) hg6.1 hg6.2 (RdL.arg hr0_0) (eL aF (NestP.hn hN0_0.p rfl)) rfl rfl) ?_
   refine oY rfl (yR (A:=Aa) (j:=(Int.toNat s3.2 * 1)) (v:=.slice ((rdL ys0_0 s3.2).1.1) ((rdL p0.fH s3.2).length) ((rdL ys0_0 s3.2).1.2.2)) lX (RdL.arg hr0_0) rfl (aJ aF hg6.1 (aq hg6.2 (NestP.hn hN0_0.p rfl)) (congrArg (fun n : Nat => some (Value.slice (rdL ys0_0 s3.2).1.1 n (rdL ys0_0 s3.2).1.2.2)) (NestP.len hN0_0.p hg6.1 (aq hg6.2 rfl))))) (oY rfl (bl (us:=[]) c8 rfl) (oY rfl (gG rfl rfl) (oN (eT ?_))))
   rcases iOs h with ⟨hp7,h⟩ | ⟨hp7,h⟩
   ·refine cT (vB hp7) (cS (cR (oY rfl (yAB rfl) (oN (eT (ak (ah (aa ?_))))))))
    obtain rfl:=sI h
    exact au ⟨rfl,_,rfl,(kp (kp (kp rfl)))⟩
   ·refine cF (vB hp7) (cK (ay (eT (cR (oY rfl (yMI rfl) (oY rfl (aY rfl rfl) (oY rfl (yAI rfl) (oN ?_))))))))
    obtain rfl:=sI h
    exact eN ⟨_,rfl,(kp (kp (kp rfl)))⟩
  ·refine cF (vB hp5) (aE (ai ?_))
   obtain rfl:=sI h
   exact au ⟨rfl,_,rfl,(kp (kp (kp rfl)))⟩
 ·intro e L tm hJ
  rcases u4 with u9 | u10
  ·dsimp only at h hJ
   obtain ⟨rfl,tm0_u9,rfl,rfl⟩:=hJ
   refine ⟨(by intro hc; cases hc),?_⟩
   refine ah (aa ?_)
   obtain rfl:=sI h
   exact aj (.inl rfl) rfl (rVt (v:=.bool u9.1) rfl) (fun W2 hW2 => ⟨rfl,hW2.none⟩)
  ·dsimp only at h hJ
   obtain ⟨rfl,tm0_u10,rfl,rfl⟩:=hJ
   refine ⟨(by intro hc; cases hc),?_⟩
   refine ac (eT (cS (cR (oY rfl (yFA eQ rfl) (oY rfl (yL 0 kZ rfl rfl rfl) (oY rfl (bl (us:=[]) qH rfl) (oY rfl (iO rfl rfl) (oY rfl (yAB rfl) (oN (eT (ak ?_)))))))))))
   obtain rfl:=sI h
   exact aj (.inl rfl) rfl (rVt (v:=.bool (decide ((p0.fH.length:Int) ≤ 20))) rfl) (fun W2 hW2 => ⟨rfl,hW2.none⟩)
theorem fI (p0:(List (List Int))) (p1:(List Int) → Option Bool) (res:Int) (h:bm p0 p1 = some res) (W:World) (Aa:Option Addr) (n0_0 ca : Nat) (ys0_0:List (Hd × (List Int))) (hn0_0:n0_0 = p0.length) (hr0_0:Rd W Aa n0_0 ca (encL SlInt_cells2 ys0_0)) (hN0_0:NestW W (fun z : (List Int) => z) cI ys0_0 p0) (fid1:Nat) (fst1 caps1 : List Value) (hgo1:bw Tryz.prog fid1 = true) (hof1:∀ W2,Below W.heap.size W W2 → ∀ x,∀ (hx:Hd),Rd W2 hx.1 x.length hx.2.2 (encL cI x) → ∀ y,p1 x = some y → Calls Tryz.prog fid1 (fst1 ++ (([.slice hx.1 x.length hx.2.2] : List Value) ++ caps1)).toArray W2 fun e W3 => e = .returned (.bool y) ∧ Ext W2 W3 []) :
  Calls Tryz.prog 180 [.slice Aa n0_0 ca,.func (.func fid1) fst1.toArray caps1.toArray].toArray W fun e W2 => e = .returned (vI res) ∧ Ext W W2 []:=by
 subst hn0_0
 unfold bm at h
 refine ab (m:=19) Tryz.func180 rfl rfl (nB rfl) (cS (cR (oY rfl (yAI rfl) (oN (eT (cS (cS (cR (oY rfl (yMS rfl) (oY rfl (bl (us:=[]) qH rfl) (oY rfl (yMI rfl) (oN (eT (cB ?_))))))))))))))
 obtain ⟨u3,hl9,h⟩:=bOs h
 refine bn (fun (s:(Int × Int)) L tm => ∃ (tm0:Nat → Value),L = [] ∧ tm = (upd (upd (upd (upd (upd tm0 0 (.slice Aa p0.length ca)) 1 (.func (.func fid1) fst1.toArray caps1.toArray)) 4 (vI s.1)) 7 (vI (p0.length:Int))) 8 (vI s.2))) 0 hl9 ⟨_,rfl,(kp4 (kp rfl))⟩ ?_ ?_
 ·rintro s2 L tm st ⟨tm0_s2,rfl,rfl⟩ h
  unfold aV at h
  refine cS (cR (oY rfl (bo rfl rfl) (oN (eT (cS ?_)))))
  rcases iOs h with ⟨hp4,h⟩ | ⟨hp4,h⟩
  ·refine cT (vB hp4) (cK (eT (cS (cB (cS (cR (oY rfl (yMI rfl) (oY rfl (yAI rfl) (oN (eT (cS (cR (oY rfl (bC (v:=.func (.func fid1) fst1.toArray caps1.toArray) rfl) (oY rfl (yMS rfl) (oY rfl (yMI rfl) ?_)))))))))))))))
   obtain ⟨hg5,h⟩:=gOs h
   refine oY rfl (yI og (by decide) hg5.1 hg5.2 (RdL.arg hr0_0) (eL aF (NestP.hn hN0_0.p rfl)) rfl rfl) ?_
   refine oY rfl (yR (A:=Aa) (j:=(Int.toNat s2.2 * 1)) (v:=.slice ((rdL ys0_0 s2.2).1.1) ((rdL p0 s2.2).length) ((rdL ys0_0 s2.2).1.2.2)) lX (RdL.arg hr0_0) rfl (aJ aF hg5.1 (aq hg5.2 (NestP.hn hN0_0.p rfl)) (congrArg (fun n : Nat => some (Value.slice (rdL ys0_0 s2.2).1.1 n (rdL ys0_0 s2.2).1.2.2)) (NestP.len hN0_0.p hg5.1 (aq hg5.2 rfl))))) ?_
   obtain ⟨y6,hy7,h⟩:=bOs h
   refine oY rfl (fS [.slice ((rdL ys0_0 s2.2).1.1) ((rdL p0 s2.2).length) ((rdL ys0_0 s2.2).1.2.2)] hgo1 rfl rfl (fun W2 hW2 => hof1 W2 hW2.below (rdL p0 s2.2) ((rdL ys0_0 s2.2).1.1,0,(rdL ys0_0 s2.2).1.2.2) ((NestL.rd (NestL.arg hN0_0) hg5.1 (aq hg5.2 rfl)) W2 hW2) y6 hy7)) (oN (eT ?_))
   rcases iOs h with ⟨hp8,h⟩ | ⟨hp8,h⟩
   ·refine cT (vB hp8) (cS (cR (oY rfl (yMI rfl) (oY rfl (yAI rfl) (oN (eT (ak (ah (aa ?_)))))))))
    obtain rfl:=sI h
    exact au ⟨rfl,_,rfl,(kp4 (kp rfl))⟩
   ·refine cF (vB hp8) (cK (ay (eT (cR (oY rfl (aY rfl rfl) (oY rfl (yMI rfl) (oN ?_)))))))
    obtain rfl:=sI h
    exact eN ⟨_,rfl,(kp4 (kp rfl))⟩
  ·refine cF (vB hp4) (aE (ai ?_))
   obtain rfl:=sI h
   exact au ⟨rfl,_,rfl,(kp4 (kp rfl))⟩
 ·intro e L tm hJ
  rcases u3 with u10 | u11
  ·dsimp only at h hJ
   obtain ⟨rfl,tm0_u10,rfl,rfl⟩:=hJ
   refine ⟨(by intro hc; cases hc),?_⟩
   refine ah (aa ?_)
   obtain rfl:=sI h
   exact aj (.inl rfl) rfl (rVt (v:=vI u10.1) rfl) (fun W2 hW2 => ⟨rfl,hW2.none⟩)
  ·dsimp only at h hJ
   obtain ⟨rfl,tm0_u11,rfl,rfl⟩:=hJ
   refine ⟨(by intro hc; cases hc),?_⟩
   refine ac (eT (cS (cR (oY rfl (yAI rfl) (oN (eT (ak ?_)))))))
   obtain rfl:=sI h
   exact aj (.inl rfl) rfl (rVt (v:=vI (-1)) rfl) (fun W2 hW2 => ⟨rfl,hW2.none⟩)
theorem kG (p0:(List (List Int))) (p1:(List Int) → Option Bool) (res:Int) (h:eF p0 p1 = some res) (W:World) (Aa:Option Addr) (n0_0 ca : Nat) (ys0_0:List (Hd × (List Int))) (hn0_0:n0_0 = p0.length) (hr0_0:Rd W Aa n0_0 ca (encL SlInt_cells2 ys0_0)) (hN0_0:NestW W (fun z : (List Int) => z) cI ys0_0 p0) (fid1:Nat) (fst1 caps1 : List Value) (hgo1:bw Tryz.prog fid1 = true) (hof1:∀ W2,Below W.heap.size W W2 → ∀ x,∀ (hx:Hd),Rd W2 hx.1 x.length hx.2.2 (encL cI x) → ∀ y,p1 x = some y → Calls Tryz.prog fid1 (fst1 ++ (([.slice hx.1 x.length hx.2.2] : List Value) ++ caps1)).toArray W2 fun e W3 => e = .returned (.bool y) ∧ Ext W2 W3 []) :
  Calls Tryz.prog 151 [.slice Aa n0_0 ca,.func (.func fid1) fst1.toArray caps1.toArray].toArray W fun e W2 => e = .returned (vI res) ∧ Ext W W2 []:=by
 subst hn0_0
 unfold eF at h
 refine ab (m:=8) Tryz.func151 rfl rfl (nB rfl) (cS (cR (oY rfl (yAI rfl) (oN (eT (cS (cR (oY rfl (yMS rfl) (oY rfl (bC (v:=.func (.func fid1) fst1.toArray caps1.toArray) rfl) ?_)))))))))
 obtain ⟨y1,hy2,h⟩:=bOs h
 refine oY rfl (yC [.slice Aa p0.length ca,.func (.func fid1) fst1.toArray caps1.toArray] go_180 rfl (fun W2 hW2 => fI p0 p1 y1 hy2 W2 Aa p0.length ca ys0_0 rfl ((RdL.arg hr0_0) W2 hW2) (NestL.at (NestL.arg hN0_0) W2 hW2) fid1 fst1 caps1 hgo1 (fun W3 hb => hof1 W3 (fq hW2.below hb))) rfl) (oY rfl (yAI rfl) (oN (eT (ak ?_))))
 obtain rfl:=sI h
 exact aj (.inl rfl) rfl (rVt (v:=vI y1) rfl) (fun W2 hW2 => ⟨rfl,hW2.none⟩)
theorem nu (p0:(List Int)) (res:Bool) (h:gz p0 = some res) (W:World) (Aa:Option Addr) (n0_0 ca : Nat) (hn0_0:n0_0 = p0.length) (hr0_0:Rd W Aa n0_0 ca (encL cI p0)) :
  Calls Tryz.prog 153 [.slice Aa n0_0 ca].toArray W fun e W2 => e = .returned (.bool res) ∧ Ext W W2 []:=by
 subst hn0_0
 unfold gz at h
 refine ab (m:=33) Tryz.func153 rfl rfl (nB rfl) (cS (cR (oY rfl (yAB rfl) (oN (eT (cS (cR (oY rfl (yAI rfl) (oN (eT (cS (cS (cR (oY rfl (yMS rfl) (oY rfl (bl (us:=[]) c8 rfl) (oY rfl (yMI rfl) (oN (eT (cB ?_)))))))))))))))))))
 obtain ⟨u3,hl12,h⟩:=bOs h
 refine bn (fun (s:(Bool × Int × Int)) L tm => ∃ (tm0:Nat → Value),L = [] ∧ tm = (upd (upd (upd (upd (upd (upd tm0 0 (.slice Aa p0.length ca)) 2 (.bool s.1)) 3 (vI s.2.1)) 6 (.slice Aa p0.length ca)) 7 (vI (p0.length:Int))) 8 (vI s.2.2))) 0 hl12 ⟨_,rfl,(kp4 (kp (kp rfl)))⟩ ?_ ?_
 ·rintro s2 L tm st ⟨tm0_s2,rfl,rfl⟩ h
  unfold fF at h
  refine cS (cR (oY rfl (bo rfl rfl) (oN (eT (cS ?_)))))
  rcases iOs h with ⟨hp4,h⟩ | ⟨hp4,h⟩
  ·refine cT (vB hp4) (cK (eT (cS (cB (cS (cR ?_))))))
   obtain ⟨hg5,h⟩:=gOs h
   refine oY rfl (yI dN (by decide) hg5.1 hg5.2 (RdL.arg hr0_0) (eL aG rfl) rfl rfl) ?_
   refine oY rfl (yR (A:=Aa) (j:=(Int.toNat s2.2.2 * 1)) (v:=vI (rdL p0 s2.2.2)) aX (RdL.arg hr0_0) rfl (aJ aG hg5.1 (aq hg5.2 rfl) rfl)) (oY rfl (yAI rfl) (oN (eT (cS (cS (cR (oY rfl (yMI rfl) ?_)))))))
   obtain ⟨y6,hy7,h⟩:=bOs h
   refine oY rfl (yC [vI (rdL p0 s2.2.2),vI (-1),vI 16384] gx rfl (fun W2 hW2 => ba (rdL p0 s2.2.2) (-1) 16384 y6 hy7 W2 ) rfl) (oY rfl (bH rfl) (oY rfl (yMB rfl) ?_))
   refine oJ 12 (fun tm0 => (upd (upd (upd (upd (upd (upd (upd (upd (upd tm0 0 (.slice Aa p0.length ca)) 2 (.bool s2.1)) 3 (vI s2.2.1)) 6 (.slice Aa p0.length ca)) 7 (vI (p0.length:Int))) 8 (vI s2.2.2)) 9 (.bool (decide (s2.2.2 < (p0.length:Int))))) 5 (vI (rdL p0 s2.2.2))) 27 (.bool ((!y6) || ((decide (0 ≤ s2.2.1)) && ((decide ((rdL p0 s2.2.2) < 0)) || (decide (s2.2.1 < (rdL p0 s2.2.2))))))))) (fun tm0 => ?_) (fun key => ?_)
   ·refine oN (eT ?_)
    rcases iOs h with ⟨hp9,h⟩ | ⟨hp9,h⟩
    ·refine cT (vB hp9) (cS (cR (oY rfl (yAB rfl) (oN (eT (ak (aa (ah (aa ?_)))))))))
     obtain rfl:=sI h
     exact au ⟨rfl,_,rfl,(kp4 (kp (kp rfl)))⟩
    ·refine cF (vB hp9) (cK (eT (cR (oY rfl (yMI rfl) (oY rfl (yAI rfl) (oN (ay (eT (cR (oY rfl (aY rfl rfl) (oY rfl (yMI rfl) (oN ?_))))))))))))
     obtain rfl:=sI h
     exact eN ⟨_,rfl,(kp4 (kp (kp rfl)))⟩
   ·rcases ao (!y6) with hp8 | hp8
    ·refine oSk (sF rfl rfl rfl rfl hp8) (oSk (sF rfl rfl rfl rfl hp8) (oSk (sF rfl rfl rfl rfl hp8) (oSk rfl (oSk rfl (oSk rfl (oSk rfl (oSk rfl (oSk rfl (oSk rfl (oSk (sF rfl rfl rfl rfl hp8) (oY rfl (ad (vB hp8) rfl) ?_)))))))))))
     exact key _ _ (keep (keep (keep (keep (keep (keep (keep (keep (keep rfl rfl) rfl) rfl) rfl) rfl) rfl) rfl) rfl) (vB (jF hp8)))
    ·refine oY (sT rfl rfl rfl rfl hp8) (yMI rfl) (oY (sT rfl rfl rfl rfl hp8) (mL rfl rfl) (oY (sT rfl rfl rfl rfl hp8) (yMB rfl) ?_))
     refine oJ 8 (fun tm0 => (upd (upd (upd (upd (upd (upd (upd (upd (upd (upd tm0 0 (.slice Aa p0.length ca)) 2 (.bool s2.1)) 3 (vI s2.2.1)) 6 (.slice Aa p0.length ca)) 7 (vI (p0.length:Int))) 8 (vI s2.2.2)) 9 (.bool (decide (s2.2.2 < (p0.length:Int))))) 5 (vI (rdL p0 s2.2.2))) 15 (.bool (!y6))) 26 (.bool ((decide (0 ≤ s2.2.1)) && ((decide ((rdL p0 s2.2.2) < 0)) || (decide (s2.2.1 < (rdL p0 s2.2.2)))))))) (fun tm0 => ?_) (fun key => ?_)
     ·refine oY rfl (ae (vB hp8) rfl) ?_
      exact key _ _ (keep (keep (keep (keep (keep (keep (keep (keep (keep rfl rfl) rfl) rfl) rfl) rfl) rfl) rfl) rfl) (vB (jI hp8)))
     ·rcases ao (decide (0 ≤ s2.2.1)) with hp10 | hp10
      ·refine oY (sT rfl rfl rfl rfl hp10) (yMI rfl) (oY (sT rfl rfl rfl rfl hp10) (bo rfl rfl) (oY (sT rfl rfl rfl rfl hp10) (yMB rfl) ?_))
       refine oJ 4 (fun tm0 => (upd (upd (upd (upd (upd (upd (upd (upd (upd (upd (upd tm0 0 (.slice Aa p0.length ca)) 2 (.bool s2.1)) 3 (vI s2.2.1)) 6 (.slice Aa p0.length ca)) 7 (vI (p0.length:Int))) 8 (vI s2.2.2)) 9 (.bool (decide (s2.2.2 < (p0.length:Int))))) 5 (vI (rdL p0 s2.2.2))) 15 (.bool (!y6))) 18 (.bool (decide (0 ≤ s2.2.1)))) 25 (.bool ((decide ((rdL p0 s2.2.2) < 0)) || (decide (s2.2.1 < (rdL p0 s2.2.2))))))) (fun tm0 => ?_) (fun key => ?_)
       ·refine oY (sT rfl rfl rfl rfl hp8) (ad (vB hp10) rfl) ?_
        exact key _ _ (keep (keep (keep (keep (keep (keep (keep (keep (keep (keep rfl rfl) rfl) rfl) rfl) rfl) rfl) rfl) rfl) rfl) (vB (hQ hp10)))
       ·rcases ao (decide ((rdL p0 s2.2.2) < 0)) with hp11 | hp11
        ·refine oSk (sF rfl rfl rfl rfl hp11) (oSk (sF rfl rfl rfl rfl hp11) (oSk (sF rfl rfl rfl rfl hp11) (oY (sT rfl rfl rfl rfl hp10) (ad (vB hp11) rfl) ?_)))
         exact key _ _ (keep (keep (keep (keep (keep (keep (keep (keep (keep (keep (keep rfl rfl) rfl) rfl) rfl) rfl) rfl) rfl) rfl) rfl) rfl) (vB (jF hp11)))
        ·refine oY (sT rfl rfl rfl rfl hp11) (yMI rfl) (oY (sT rfl rfl rfl rfl hp11) (yMI rfl) (oY (sT rfl rfl rfl rfl hp11) (gG rfl rfl) (oY (sT rfl rfl rfl rfl hp10) (ae (vB hp11) rfl) ?_)))
         exact key _ _ (keep (keep (keep (keep (keep (keep (keep (keep (keep (keep (keep rfl rfl) rfl) rfl) rfl) rfl) rfl) rfl) rfl) rfl) rfl) (vB (jI hp11)))
      ·refine oSk (sF rfl rfl rfl rfl hp10) (oSk (sF rfl rfl rfl rfl hp10) (oSk (sF rfl rfl rfl rfl hp10) (oSk rfl (oSk rfl (oSk rfl (oSk (sF rfl rfl rfl rfl hp10) (oY (sT rfl rfl rfl rfl hp8) (ae (vB hp10) rfl) ?_)))))))
       exact key _ _ (keep (keep (keep (keep (keep (keep (keep (keep (keep (keep rfl rfl) rfl) rfl) rfl) rfl) rfl) rfl) rfl) rfl) (vB (iw hp10)))
  ·refine cF (vB hp4) (aE (ai ?_))
   obtain rfl:=sI h
   exact au ⟨rfl,_,rfl,(kp4 (kp (kp rfl)))⟩
 ·intro e L tm hJ
  rcases u3 with u13 | u14
  ·dsimp only at h hJ
   obtain ⟨rfl,tm0_u13,rfl,rfl⟩:=hJ
   refine ⟨(by intro hc; cases hc),?_⟩
   refine ah (aa ?_)
   obtain rfl:=sI h
   exact aj (.inl rfl) rfl (rVt (v:=.bool u13.1) rfl) (fun W2 hW2 => ⟨rfl,hW2.none⟩)
  ·dsimp only at h hJ
   obtain ⟨rfl,tm0_u14,rfl,rfl⟩:=hJ
   refine ⟨(by intro hc; cases hc),?_⟩
   refine ac (eT (cS (cR (oY rfl (yMS rfl) (oY rfl (bl (us:=[]) c8 rfl) (oY rfl (dc rfl rfl) (oY rfl (yAB rfl) (oN (eT (ak ?_))))))))))
   obtain rfl:=sI h
   exact aj (.inl rfl) rfl (rVt (v:=.bool ((p0.length:Int) == 61)) rfl) (fun W2 hW2 => ⟨rfl,hW2.none⟩)
theorem l7 (p0:(List Int)) (res:Bool) (h:dR p0 = some res) (W:World) (Aa:Option Addr) (n0_0 ca : Nat) (hn0_0:n0_0 = p0.length) (hr0_0:Rd W Aa n0_0 ca (encL cI p0)) :
  Calls Tryz.prog 152 [.slice Aa n0_0 ca].toArray W fun e W2 => e = .returned (.bool res) ∧ Ext W W2 []:=by
 subst hn0_0
 unfold dR at h
 refine ab (m:=6) Tryz.func152 rfl rfl (nB rfl) (cS (cR (oY rfl (yAB rfl) (oN (eT (cS (cR (oY rfl (yMS rfl) ?_))))))))
 obtain ⟨y1,hy2,h⟩:=bOs h
 refine oY rfl (yC [.slice Aa p0.length ca] go_153 rfl (fun W2 hW2 => nu p0 y1 hy2 W2 Aa p0.length ca rfl ((RdL.arg hr0_0) W2 hW2)) rfl) (oY rfl (bH rfl) (oY rfl (yAB rfl) (oN (eT (ak ?_)))))
 obtain rfl:=sI h
 exact aj (.inl rfl) rfl (rVt (v:=.bool (!y1)) rfl) (fun W2 hW2 => ⟨rfl,hW2.none⟩)
theorem me (p0:Int) (cap0:Int) (res:Bool) (h:eR p0 cap0 = some res) (W:World) (bc0:Nat) (hcap0:Rd W (some ⟨bc0,0,none⟩) 1 1 (cI cap0)) :
  Calls Tryz.prog 154 [vI p0,.pointer (some ⟨bc0,0,none⟩)].toArray W fun e W2 => e = .returned (.bool res) ∧ Ext W W2 []:=by
 unfold eR at h
 refine ab (m:=11) Tryz.func154 rfl rfl (nB rfl) (cS (cR (oY rfl (yAB rfl) (oN (eT (cS (cR (oY rfl (yMI rfl) (oY rfl (bo rfl rfl) (oY rfl (yMB rfl) ?_))))))))))
 refine oJ 4 (fun tm0 => (upd (upd tm0 3 (.bool false)) 10 (.bool ((decide (p0 < 0)) || (decide (cap0 < p0)))))) (fun tm0 => ?_) (fun key => ?_)
 ·refine oY rfl (yAB rfl) (oN (eT (ak ?_)))
  obtain rfl:=sI h
  exact aj (.inl rfl) rfl (rVt (v:=.bool ((decide (p0 < 0)) || (decide (cap0 < p0)))) rfl) (fun W2 hW2 => ⟨rfl,hW2.none⟩)
 ·rcases ao (decide (p0 < 0)) with hp1 | hp1
  ·refine oSk (sF rfl rfl rfl rfl hp1) (oSk (sF rfl rfl rfl rfl hp1) (oSk (sF rfl rfl rfl rfl hp1) (oY rfl (ad (vB hp1) rfl) ?_)))
   exact key _ _ (keep (keep rfl rfl) (vB (jF hp1)))
  ·refine oY (sT rfl rfl rfl rfl hp1) (yMI rfl) (oY (sT rfl rfl rfl rfl hp1) (yR (A:=(some ⟨bc0,0,none⟩)) (j:=0) (v:=vI cap0) aX (RdL.arg hcap0) rfl rfl) (oY (sT rfl rfl rfl rfl hp1) (gG rfl rfl) (oY rfl (ae (vB hp1) rfl) ?_)))
   exact key _ _ (keep (keep rfl rfl) (vB (jI hp1)))
theorem nr (p0:TR) (p1:Int) (p2:Int) (p3:TTimes) (res:Bool) (h:gw p0 p1 p2 p3 = some res) (W:World) (Ab:Option Addr) (n0_1 cb : Nat) (ys0_1:List (Hd × TT)) (hn0_1:n0_1 = p0.fTracks.length) (hr0_1:Rd W Ab n0_1 cb (encL TTrack_cells2 ys0_1)) (hN0_1:NestW W (fun z : TT => z.fK) TSpan_cells ys0_1 p0.fTracks) (A3_0:Option Addr) (n3_0 c3_0 : Nat) (ys3_0:List (Hd × (List Int))) (hn3_0:n3_0 = p3.fH.length) (hr3_0:Rd W A3_0 n3_0 c3_0 (encL SlInt_cells2 ys3_0)) (hN3_0:NestW W (fun z : (List Int) => z) cI ys3_0 p3.fH) :
  Calls Tryz.prog 112 [.agg #[vI p0.fPlaces,.slice Ab n0_1 cb],vI p1,vI p2,.agg #[.slice A3_0 n3_0 c3_0]].toArray W fun e W2 => e = .returned (.bool res) ∧ Ext W W2 []:=by
 subst hn0_1
 subst hn3_0
 unfold gw at h
 refine ab (m:=104) Tryz.func112 rfl rfl (nB rfl) (cS (cR ?_))
 refine aM [vI p0.fPlaces,.slice Ab p0.fTracks.length cb] rfl rfl rfl (fun b1 => ?_)
 refine aM [vI p2] rfl rfl rfl (fun b2 => ?_)
 refine aM [.slice A3_0 p3.fH.length c3_0] rfl rfl rfl (fun b3 => ?_)
 refine oY rfl (yAB rfl) (oN (eT (cS (cS (cR (oY rfl (yFA eQ rfl) (oY rfl (yL 2 kZ rfl rfl rfl) (oY rfl (bl (us:=[]) qH rfl) (oY rfl (yFA jp rfl) (oY rfl (yL 0 aX rfl rfl rfl) (oY rfl (dJ rfl rfl) (oY rfl (yMB rfl) ?_))))))))))))
 obtain ⟨b5,hb6,h⟩:=bOs h
 refine oJ 5 (fun tm0 => (upd (upd (upd (upd (upd (upd tm0 1 (vI p1)) 4 (.pointer (some ⟨b1,0,none⟩))) 6 (.pointer (some ⟨b2,0,none⟩))) 7 (.pointer (some ⟨b3,0,none⟩))) 8 (.bool false)) 27 (.bool b5))) (fun tm0 => ?_) (fun key => ?_)
 ·refine oN (eT ?_)
  rcases iOs h with ⟨hp7,h⟩ | ⟨hp7,h⟩
  ·refine cT (vB hp7) (cS (cR (oY rfl (yAB rfl) (oN (eT (ak (aa ?_)))))))
   obtain rfl:=sI h
   exact aj (.inl rfl) rfl (rVt (v:=.bool false) rfl) (fun W2 hW2 => ⟨rfl,hW2.none⟩)
  ·refine cF (vB hp7) (cK (eT (cS (cS (cR (oY rfl (yFA eQ rfl) (oY rfl (yL 2 kZ rfl rfl rfl) (oY rfl (yMI rfl) ?_))))))))
   obtain ⟨hg8,h⟩:=gOs h
   refine oY rfl (yI og (by decide) hg8.1 hg8.2 (RdL.arg hr3_0) (eL aF (NestP.hn hN3_0.p rfl)) rfl rfl) ?_
   refine oY rfl (yR (A:=A3_0) (j:=(Int.toNat p1 * 1)) (v:=.slice ((rdL ys3_0 p1).1.1) ((rdL p3.fH p1).length) ((rdL ys3_0 p1).1.2.2)) lX (RdL.arg hr3_0) rfl (aJ aF hg8.1 (aq hg8.2 (NestP.hn hN3_0.p rfl)) (congrArg (fun n : Nat => some (Value.slice (rdL ys3_0 p1).1.1 n (rdL ys3_0 p1).1.2.2)) (NestP.len hN3_0.p hg8.1 (aq hg8.2 rfl))))) (oY rfl (bQ [.pointer (some ⟨b2,0,none⟩)] rfl rfl) ?_)
   obtain ⟨y10,hy11,h⟩:=bOs h
   refine oY rfl (yC [.slice ((rdL ys3_0 p1).1.1) ((rdL p3.fH p1).length) ((rdL ys3_0 p1).1.2.2),.func (.func 154) #[] #[.pointer (some ⟨b2,0,none⟩)]] go_136 rfl (fun W2 hW2 => mp (rdL p3.fH p1) (fun x9 => eR x9 p2) y10 hy11 W2 ((rdL ys3_0 p1).1.1) ((rdL p3.fH p1).length) ((rdL ys3_0 p1).1.2.2) rfl ((NestL.rd (NestL.arg hN3_0) hg8.1 (aq hg8.2 rfl)) W2 hW2) 154 [] [.pointer (some ⟨b2,0,none⟩)] go_154 (fun W3 hb x y hxy => me  x p2 y hxy W3 b2 (((RdL.cells 1 rfl) W2 hW2).later hb))) rfl) (oY rfl (mL rfl rfl) (oN (eT ?_)))
   rcases iOs h with ⟨hp12,h⟩ | ⟨hp12,h⟩
   ·refine cT (vB hp12) (cS (cR (oY rfl (yAB rfl) (oN (eT (ak (aa ?_)))))))
    obtain rfl:=sI h
    exact aj (.inl rfl) rfl (rVt (v:=.bool false) rfl) (fun W2 hW2 => ⟨rfl,hW2.none⟩)
   ·refine cF (vB hp12) (cK (eT (cS (cS (cR (oY rfl (yFA dV rfl) (oY rfl (yL 0 jK rfl rfl rfl) (oY rfl (bl (us:=[]) ji rfl) (oY rfl (yMI rfl) (oN (eT (cB ?_))))))))))))
    obtain ⟨u15,hl42,h⟩:=bOs h
    refine bn (fun (s:(Bool × Int)) L tm => ∃ (tm0:Nat → Value),L = [ag b1 24 [vI p0.fPlaces,.slice Ab p0.fTracks.length cb],ag b2 3 [vI p2],ag b3 87 [.slice A3_0 p3.fH.length c3_0]] ∧ tm = (upd (upd (upd (upd (upd tm0 7 (.pointer (some ⟨b3,0,none⟩))) 8 (.bool s.1)) 37 (.slice Ab p0.fTracks.length cb)) 38 (vI (p0.fTracks.length:Int))) 39 (vI s.2))) 0 hl42 ⟨_,rfl,(kp4 (kp rfl))⟩ ?_ ?_
    ·rintro s14 L tm st ⟨tm0_s14,rfl,rfl⟩ h
     unfold fX at h
     refine cS (cR (oY rfl (bo rfl rfl) (oN (eT (cS ?_)))))
     rcases iOs h with ⟨hp16,h⟩ | ⟨hp16,h⟩
     ·refine cT (vB hp16) (cK (eT (cS (cB (cS (cR ?_))))))
      obtain ⟨hg17,h⟩:=gOs h
      refine oY rfl (yI kE (by decide) hg17.1 hg17.2 (RdL.arg hr0_1) (eL ax (NestP.hn hN0_1.p rfl)) rfl rfl) ?_
      refine oY rfl (yM (A:=Ab) (j:=(Int.toNat s14.2 * 6)) [vI ((rdL p0.fTracks s14.2).fID),vI ((rdL p0.fTracks s14.2).fFrom),vI ((rdL p0.fTracks s14.2).fTo),vI ((rdL p0.fTracks s14.2).fLong),vI ((rdL p0.fTracks s14.2).fToll),.slice ((rdL ys0_1 s14.2).1.1) ((rdL p0.fTracks s14.2).fK.length) ((rdL ys0_1 s14.2).1.2.2)] jQ (Nat.succ_pos _) (RdL.arg hr0_1) rfl (iN (cZ (NestP.snd hN0_1.p s14.2) (NestP.len hN0_1.p hg17.1 (aq hg17.2 rfl))).symm (bd ax hg17.1 (aq hg17.2 (NestP.hn hN0_1.p rfl))))) ?_
      refine aB iD rfl (fun b18 => ?_)
      refine cL rfl (yS 3 [vI ((rdL p0.fTracks s14.2).fID),vI ((rdL p0.fTracks s14.2).fFrom),vI ((rdL p0.fTracks s14.2).fTo),vI ((rdL p0.fTracks s14.2).fLong),vI ((rdL p0.fTracks s14.2).fToll),.slice ((rdL ys0_1 s14.2).1.1) ((rdL p0.fTracks s14.2).fK.length) ((rdL ys0_1 s14.2).1.2.2)] qe rfl (nB rfl) rfl rfl rfl) (oN (eT (cS (cR (oY rfl (yFA eQ rfl) (oY rfl (yL 2 kZ rfl rfl rfl) (oY rfl (yFA lY rfl) (oY rfl (yL 3 aX rfl rfl rfl) ?_))))))))
      obtain ⟨hg19,h⟩:=gOs h
      refine oY rfl (yI og (by decide) hg19.1 hg19.2 (RdL.arg hr3_0) (eL aF (NestP.hn hN3_0.p rfl)) rfl rfl) ?_
      refine oY rfl (yR (A:=A3_0) (j:=(Int.toNat ((rdL p0.fTracks s14.2).fFrom) * 1)) (v:=.slice ((rdL ys3_0 ((rdL p0.fTracks s14.2).fFrom)).1.1) ((rdL p3.fH ((rdL p0.fTracks s14.2).fFrom)).length) ((rdL ys3_0 ((rdL p0.fTracks s14.2).fFrom)).1.2.2)) lX (RdL.arg hr3_0) rfl (aJ aF hg19.1 (aq hg19.2 (NestP.hn hN3_0.p rfl)) (congrArg (fun n : Nat => some (Value.slice (rdL ys3_0 ((rdL p0.fTracks s14.2).fFrom)).1.1 n (rdL ys3_0 ((rdL p0.fTracks s14.2).fFrom)).1.2.2)) (NestP.len hN3_0.p hg19.1 (aq hg19.2 rfl))))) (oY rfl (bl (us:=[]) c8 rfl) (oY rfl (yMI rfl) (oN (eT (cB ?_)))))
      obtain ⟨u22,hl39,h⟩:=bOs h
      refine bn (fun (s:(Bool × Int)) L tm => ∃ (tm0:Nat → Value),L = [ag b1 24 [vI p0.fPlaces,.slice Ab p0.fTracks.length cb],ag b2 3 [vI p2],ag b3 87 [.slice A3_0 p3.fH.length c3_0],ag b18 120 [vI ((rdL p0.fTracks s14.2).fID),vI ((rdL p0.fTracks s14.2).fFrom),vI ((rdL p0.fTracks s14.2).fTo),vI ((rdL p0.fTracks s14.2).fLong),vI ((rdL p0.fTracks s14.2).fToll),.slice ((rdL ys0_1 s14.2).1.1) ((rdL p0.fTracks s14.2).fK.length) ((rdL ys0_1 s14.2).1.2.2)]] ∧ tm = (upd (upd (upd (upd (upd (upd (upd (upd (upd (upd tm0 7 (.pointer (some ⟨b3,0,none⟩))) 8 (.bool s.1)) 37 (.slice Ab p0.fTracks.length cb)) 38 (vI (p0.fTracks.length:Int))) 39 (vI s14.2)) 40 (.bool (decide (s14.2 < (p0.fTracks.length:Int))))) 10 (.pointer (some ⟨b18,0,none⟩))) 48 (.slice ((rdL ys3_0 ((rdL p0.fTracks s14.2).fFrom)).1.1) ((rdL p3.fH ((rdL p0.fTracks s14.2).fFrom)).length) ((rdL ys3_0 ((rdL p0.fTracks s14.2).fFrom)).1.2.2))) 49 (vI (((rdL p3.fH ((rdL p0.fTracks s14.2).fFrom)).length : Nat) : Int))) 50 (vI s.2))) 2 hl39 ⟨_,rfl,(kp4 (kp4 (kp (kp rfl))))⟩ ?_ ?_
      ·rintro s21 L tm st ⟨tm0_s21,rfl,rfl⟩ h
       unfold eu at h
       refine cS (cR (oY rfl (bo rfl rfl) (oN (eT (cS ?_)))))
       rcases iOs h with ⟨hp23,h⟩ | ⟨hp23,h⟩
       ·refine cT (vB hp23) (cK (eT (cS (cB (cS (cR (oY rfl (yMI rfl) ?_)))))))
        obtain ⟨hg24,h⟩:=gOs h
        refine oY rfl (yI dN (by decide) hg24.1 hg24.2 (NestL.rd (NestL.arg hN3_0) hg19.1 (aq hg19.2 rfl)) (eL aG rfl) rfl rfl) ?_
        refine oY rfl (yR (A:=((rdL ys3_0 ((rdL p0.fTracks s14.2).fFrom)).1.1)) (j:=(Int.toNat s21.2 * 1)) (v:=vI (rdL (rdL p3.fH ((rdL p0.fTracks s14.2).fFrom)) s21.2)) aX (NestL.rd (NestL.arg hN3_0) hg19.1 (aq hg19.2 rfl)) rfl (aJ aG hg24.1 (aq hg24.2 rfl) rfl)) (oY rfl (yAI rfl) (oY rfl (yAI rfl) (oN (eT (cS (cS (cR (oY rfl (yMI rfl) (oY rfl (bo rfl rfl) (oY rfl (yMB rfl) ?_))))))))))
        refine oJ 6 (fun tm0 => (upd (upd (upd (upd (upd (upd (upd (upd (upd (upd (upd (upd (upd (upd tm0 7 (.pointer (some ⟨b3,0,none⟩))) 8 (.bool s21.1)) 37 (.slice Ab p0.fTracks.length cb)) 38 (vI (p0.fTracks.length:Int))) 39 (vI s14.2)) 40 (.bool (decide (s14.2 < (p0.fTracks.length:Int))))) 10 (.pointer (some ⟨b18,0,none⟩))) 48 (.slice ((rdL ys3_0 ((rdL p0.fTracks s14.2).fFrom)).1.1) ((rdL p3.fH ((rdL p0.fTracks s14.2).fFrom)).length) ((rdL ys3_0 ((rdL p0.fTracks s14.2).fFrom)).1.2.2))) 49 (vI (((rdL p3.fH ((rdL p0.fTracks s14.2).fFrom)).length : Nat) : Int))) 50 (vI s21.2)) 51 (.bool (decide (s21.2 < (((rdL p3.fH ((rdL p0.fTracks s14.2).fFrom)).length : Nat) : Int))))) 11 (vI s21.2)) 12 (vI (rdL (rdL p3.fH ((rdL p0.fTracks s14.2).fFrom)) s21.2))) 63 (.bool ((decide ((rdL (rdL p3.fH ((rdL p0.fTracks s14.2).fFrom)) s21.2) < 0)) || (decide (60 < w64 (s21.2 + ((rdL p0.fTracks s14.2).fToll)))))))) (fun tm0 => ?_) (fun key => ?_)
        ·refine oN (eT ?_)
         rcases iOs h with ⟨hp26,h⟩ | ⟨hp26,h⟩
         ·refine cT (vB hp26) (aE (ai (ac (eT (cR (oY rfl (aY rfl rfl) (oY rfl (yMI rfl) (oN ?_))))))))
          obtain rfl:=sI h
          exact eN ⟨_,rfl,(kp4 (kp4 (kp (kp rfl))))⟩
         ·refine cF (vB hp26) (cK (eT (cS (cR (oY rfl (yN 3 [vI ((rdL p0.fTracks s14.2).fID),vI ((rdL p0.fTracks s14.2).fFrom),vI ((rdL p0.fTracks s14.2).fTo),vI ((rdL p0.fTracks s14.2).fLong),vI ((rdL p0.fTracks s14.2).fToll),.slice ((rdL ys0_1 s14.2).1.1) ((rdL p0.fTracks s14.2).fK.length) ((rdL ys0_1 s14.2).1.2.2)] jQ rfl rfl rfl) (oY rfl (yMI rfl) ?_))))))
          obtain ⟨y27,hy28,h⟩:=bOs h
          refine oY rfl (yC [.agg #[vI ((rdL p0.fTracks s14.2).fID),vI ((rdL p0.fTracks s14.2).fFrom),vI ((rdL p0.fTracks s14.2).fTo),vI ((rdL p0.fTracks s14.2).fLong),vI ((rdL p0.fTracks s14.2).fToll),.slice ((rdL ys0_1 s14.2).1.1) ((rdL p0.fTracks s14.2).fK.length) ((rdL ys0_1 s14.2).1.2.2)],vI (rdL (rdL p3.fH ((rdL p0.fTracks s14.2).fFrom)) s21.2)] rc rfl (fun W2 hW2 => gO (TT.mk ((rdL p0.fTracks s14.2).fID) ((rdL p0.fTracks s14.2).fFrom) ((rdL p0.fTracks s14.2).fTo) ((rdL p0.fTracks s14.2).fLong) ((rdL p0.fTracks s14.2).fToll) ((rdL p0.fTracks s14.2).fK)) (rdL (rdL p3.fH ((rdL p0.fTracks s14.2).fFrom)) s21.2) y27 hy28 W2 ((rdL ys0_1 s14.2).1.1) ((rdL p0.fTracks s14.2).fK.length) ((rdL ys0_1 s14.2).1.2.2) rfl ((NestL.rd (NestL.arg hN0_1) hg17.1 (aq hg17.2 rfl)) W2 hW2)) rfl) (oY rfl (aK rfl) (oY rfl (yE rfl rfl) (oY rfl (yE rfl rfl) (oY rfl (yAI rfl) (oY rfl (yAB rfl) (oN (eT (cS (cS (cR (oY rfl (yMB rfl) (oY rfl (bH rfl) (oY rfl (yMB rfl) ?_)))))))))))))
          obtain ⟨b30,hb31,h⟩:=bOs h
          refine oJ 7 (fun tm0 => (upd (upd (upd (upd (upd (upd (upd (upd (upd (upd (upd (upd (upd (upd (upd (upd (upd tm0 7 (.pointer (some ⟨b3,0,none⟩))) 8 (.bool s21.1)) 37 (.slice Ab p0.fTracks.length cb)) 38 (vI (p0.fTracks.length:Int))) 39 (vI s14.2)) 40 (.bool (decide (s14.2 < (p0.fTracks.length:Int))))) 10 (.pointer (some ⟨b18,0,none⟩))) 48 (.slice ((rdL ys3_0 ((rdL p0.fTracks s14.2).fFrom)).1.1) ((rdL p3.fH ((rdL p0.fTracks s14.2).fFrom)).length) ((rdL ys3_0 ((rdL p0.fTracks s14.2).fFrom)).1.2.2))) 49 (vI (((rdL p3.fH ((rdL p0.fTracks s14.2).fFrom)).length : Nat) : Int))) 50 (vI s21.2)) 51 (.bool (decide (s21.2 < (((rdL p3.fH ((rdL p0.fTracks s14.2).fFrom)).length : Nat) : Int))))) 11 (vI s21.2)) 12 (vI (rdL (rdL p3.fH ((rdL p0.fTracks s14.2).fFrom)) s21.2))) 63 (.bool ((decide ((rdL (rdL p3.fH ((rdL p0.fTracks s14.2).fFrom)) s21.2) < 0)) || (decide (60 < w64 (s21.2 + ((rdL p0.fTracks s14.2).fToll))))))) 13 (vI y27.1)) 14 (.bool y27.2)) 79 (.bool b30))) (fun tm0 => ?_) (fun key => ?_)
          ·refine oN (eT ?_)
           rcases iOs h with ⟨hp32,h⟩ | ⟨hp32,h⟩
           ·refine cT (vB hp32) (aE (ai (ac (eT (cR (oY rfl (aY rfl rfl) (oY rfl (yMI rfl) (oN ?_))))))))
            obtain rfl:=sI h
            exact eN ⟨_,rfl,(kp4 (kp4 (kp (kp rfl))))⟩
           ·refine cF (vB hp32) (cK (eT (cS ?_)))
            refine bv 13 dm (by kernel_rfl) (by kernel_rfl) ?_
            refine qY rfl (yFA eQ rfl) (qY rfl (yL 2 kZ rfl rfl rfl) (qY rfl (yFA lw rfl) (qY rfl (yL 3 aX rfl rfl rfl) ?_)))
            obtain ⟨hg33,h⟩:=gOs h
            refine qY rfl (yI og (by decide) hg33.1 hg33.2 (RdL.arg hr3_0) (eL aF (NestP.hn hN3_0.p rfl)) rfl rfl) ?_
            refine qY rfl (yR (A:=A3_0) (j:=(Int.toNat ((rdL p0.fTracks s14.2).fTo) * 1)) (v:=.slice ((rdL ys3_0 ((rdL p0.fTracks s14.2).fTo)).1.1) ((rdL p3.fH ((rdL p0.fTracks s14.2).fTo)).length) ((rdL ys3_0 ((rdL p0.fTracks s14.2).fTo)).1.2.2)) lX (RdL.arg hr3_0) rfl (aJ aF hg33.1 (aq hg33.2 (NestP.hn hN3_0.p rfl)) (congrArg (fun n : Nat => some (Value.slice (rdL ys3_0 ((rdL p0.fTracks s14.2).fTo)).1.1 n (rdL ys3_0 ((rdL p0.fTracks s14.2).fTo)).1.2.2)) (NestP.len hN3_0.p hg33.1 (aq hg33.2 rfl))))) (qY rfl (yMI rfl) (qY rfl (yFA lU rfl) (qY rfl (yL 3 aX rfl rfl rfl) (qY rfl (aY rfl rfl) ?_))))
            obtain ⟨hg34,h⟩:=gOs h
            refine qY rfl (yI dN (by decide) hg34.1 hg34.2 (NestL.rd (NestL.arg hN3_0) hg33.1 (aq hg33.2 rfl)) (eL aG rfl) rfl rfl) ?_
            refine qY rfl (yR (A:=((rdL ys3_0 ((rdL p0.fTracks s14.2).fTo)).1.1)) (j:=(Int.toNat (w64 (s21.2 + ((rdL p0.fTracks s14.2).fToll))) * 1)) (v:=vI (rdL (rdL p3.fH ((rdL p0.fTracks s14.2).fTo)) (w64 (s21.2 + ((rdL p0.fTracks s14.2).fToll))))) aX (NestL.rd (NestL.arg hN3_0) hg33.1 (aq hg33.2 rfl)) rfl (aJ aG hg34.1 (aq hg34.2 rfl) rfl)) (qY rfl (yAI rfl) (cN (oN (eT (cS (cR (oY rfl (yMI rfl) (oY rfl (bo rfl rfl) (oY rfl (yMB rfl) ?_)))))))))
            refine oJ 7 (fun tm0 => (upd (upd (upd (upd (upd (upd (upd (upd (upd (upd (upd (upd (upd (upd (upd (upd (upd (upd (upd tm0 7 (.pointer (some ⟨b3,0,none⟩))) 8 (.bool s21.1)) 37 (.slice Ab p0.fTracks.length cb)) 38 (vI (p0.fTracks.length:Int))) 39 (vI s14.2)) 40 (.bool (decide (s14.2 < (p0.fTracks.length:Int))))) 10 (.pointer (some ⟨b18,0,none⟩))) 48 (.slice ((rdL ys3_0 ((rdL p0.fTracks s14.2).fFrom)).1.1) ((rdL p3.fH ((rdL p0.fTracks s14.2).fFrom)).length) ((rdL ys3_0 ((rdL p0.fTracks s14.2).fFrom)).1.2.2))) 49 (vI (((rdL p3.fH ((rdL p0.fTracks s14.2).fFrom)).length : Nat) : Int))) 50 (vI s21.2)) 51 (.bool (decide (s21.2 < (((rdL p3.fH ((rdL p0.fTracks s14.2).fFrom)).length : Nat) : Int))))) 11 (vI s21.2)) 12 (vI (rdL (rdL p3.fH ((rdL p0.fTracks s14.2).fFrom)) s21.2))) 63 (.bool ((decide ((rdL (rdL p3.fH ((rdL p0.fTracks s14.2).fFrom)) s21.2) < 0)) || (decide (60 < w64 (s21.2 + ((rdL p0.fTracks s14.2).fToll))))))) 13 (vI y27.1)) 14 (.bool y27.2)) 79 (.bool b30)) 15 (vI (rdL (rdL p3.fH ((rdL p0.fTracks s14.2).fTo)) (w64 (s21.2 + ((rdL p0.fTracks s14.2).fToll)))))) 101 (.bool ((decide ((rdL (rdL p3.fH ((rdL p0.fTracks s14.2).fTo)) (w64 (s21.2 + ((rdL p0.fTracks s14.2).fToll)))) < 0)) || (decide (w64 (y27.1 + ((rdL p0.fTracks s14.2).fLong)) < (rdL (rdL p3.fH ((rdL p0.fTracks s14.2).fTo)) (w64 (s21.2 + ((rdL p0.fTracks s14.2).fToll)))))))))) (fun tm0 => ?_) (fun key => ?_)
            ·refine oN (eT ?_)
             rcases iOs h with ⟨hp36,h⟩ | ⟨hp36,h⟩
             ·refine cT (vB hp36) (cS (cR (oY rfl (yAB rfl) (oN (eT (ak (ah (aa ?_))))))))
              obtain rfl:=sI h
              exact au ⟨rfl,_,rfl,(kp4 (kp4 (kp (kp rfl))))⟩
             ·refine cF (vB hp36) (cK (ay (eT (cR (oY rfl (aY rfl rfl) (oY rfl (yMI rfl) (oN ?_)))))))
              obtain rfl:=sI h
              exact eN ⟨_,rfl,(kp4 (kp4 (kp (kp rfl))))⟩
            ·rcases ao (decide ((rdL (rdL p3.fH ((rdL p0.fTracks s14.2).fTo)) (w64 (s21.2 + ((rdL p0.fTracks s14.2).fToll)))) < 0)) with hp35 | hp35
             ·refine oSk (sF rfl rfl rfl rfl hp35) (oSk (sF rfl rfl rfl rfl hp35) (oSk (sF rfl rfl rfl rfl hp35) (oSk (sF rfl rfl rfl rfl hp35) (oSk (sF rfl rfl rfl rfl hp35) (oSk (sF rfl rfl rfl rfl hp35) (oY rfl (ad (vB hp35) rfl) ?_))))))
              exact key _ _ (keep (keep (keep (keep (keep (keep (keep (keep (keep (keep (keep (keep (keep (keep (keep (keep (keep (keep (keep rfl rfl) rfl) rfl) rfl) rfl) rfl) rfl) rfl) rfl) rfl) rfl) rfl) rfl) rfl) rfl) rfl) rfl) rfl) (vB (jF hp35)))
             ·refine oY (sT rfl rfl rfl rfl hp35) (yMI rfl) (oY (sT rfl rfl rfl rfl hp35) (yMI rfl) (oY (sT rfl rfl rfl rfl hp35) (yFA iH rfl) (oY (sT rfl rfl rfl rfl hp35) (yL 3 aX rfl rfl rfl) (oY (sT rfl rfl rfl rfl hp35) (aY rfl rfl) (oY (sT rfl rfl rfl rfl hp35) (gG rfl rfl) (oY rfl (ae (vB hp35) rfl) ?_))))))
              exact key _ _ (keep (keep (keep (keep (keep (keep (keep (keep (keep (keep (keep (keep (keep (keep (keep (keep (keep (keep (keep rfl rfl) rfl) rfl) rfl) rfl) rfl) rfl) rfl) rfl) rfl) rfl) rfl) rfl) rfl) rfl) rfl) rfl) rfl) (vB (jI hp35)))
          ·clear h; rcases iOs hb31 with ⟨hp29,h⟩ | ⟨hp29,h⟩
           ·refine oSk (sF rfl rfl rfl rfl hp29) (oSk (sF rfl rfl rfl rfl hp29) (oSk (sF rfl rfl rfl rfl hp29) (oSk (sF rfl rfl rfl rfl hp29) (oSk (sF rfl rfl rfl rfl hp29) (oSk (sF rfl rfl rfl rfl hp29) (oY rfl (ad (vB hp29) rfl) ?_))))))
            obtain rfl:=sI h
            exact key _ _ (kp4 (kp4 (kp4 (kp4 (kp rfl)))))
           ·refine oY (sT rfl rfl rfl rfl hp29) (yMI rfl) (oY (sT rfl rfl rfl rfl hp29) (yFA iH rfl) (oY (sT rfl rfl rfl rfl hp29) (yL 3 aX rfl rfl rfl) (oY (sT rfl rfl rfl rfl hp29) (aY rfl rfl) ?_)))
            obtain ⟨y37,hy38,h⟩:=bOs h
            refine oY (sT rfl rfl rfl rfl hp29) (yC [vI (w64 (y27.1 + ((rdL p0.fTracks s14.2).fLong)))] kS rfl (fun W2 hW2 => cw (w64 (y27.1 + ((rdL p0.fTracks s14.2).fLong))) y37 hy38 W2 ) rfl) (oY (sT rfl rfl rfl rfl hp29) (bH rfl) (oY rfl (ae (vB hp29) rfl) ?_))
            obtain rfl:=sI h
            exact key _ _ (kp4 (kp4 (kp4 (kp4 (kp rfl)))))
        ·rcases ao (decide ((rdL (rdL p3.fH ((rdL p0.fTracks s14.2).fFrom)) s21.2) < 0)) with hp25 | hp25
         ·refine oSk (sF rfl rfl rfl rfl hp25) (oSk (sF rfl rfl rfl rfl hp25) (oSk (sF rfl rfl rfl rfl hp25) (oSk (sF rfl rfl rfl rfl hp25) (oSk (sF rfl rfl rfl rfl hp25) (oY rfl (ad (vB hp25) rfl) ?_)))))
          exact key _ _ (keep (keep (keep (keep (keep (keep (keep (keep (keep (keep (keep (keep (keep (keep rfl rfl) rfl) rfl) rfl) rfl) rfl) rfl) rfl) rfl) rfl) rfl) rfl) rfl) (vB (jF hp25)))
         ·refine oY (sT rfl rfl rfl rfl hp25) (yMI rfl) (oY (sT rfl rfl rfl rfl hp25) (yFA lU rfl) (oY (sT rfl rfl rfl rfl hp25) (yL 3 aX rfl rfl rfl) (oY (sT rfl rfl rfl rfl hp25) (aY rfl rfl) (oY (sT rfl rfl rfl rfl hp25) (gG rfl rfl) (oY rfl (ae (vB hp25) rfl) ?_)))))
          exact key _ _ (keep (keep (keep (keep (keep (keep (keep (keep (keep (keep (keep (keep (keep (keep rfl rfl) rfl) rfl) rfl) rfl) rfl) rfl) rfl) rfl) rfl) rfl) rfl) rfl) (vB (jI hp25)))
       ·refine cF (vB hp23) (aE (ai ?_))
        obtain rfl:=sI h
        exact au ⟨rfl,_,rfl,(kp4 (kp4 (kp (kp rfl))))⟩
      ·intro e L tm hJ
       rcases u22 with u40 | u41
       ·dsimp only at h hJ
        obtain ⟨rfl,tm0_u40,rfl,rfl⟩:=hJ
        refine ⟨(by intro hc; cases hc),?_⟩
        refine ah (ah (aa (aU 3 ?_)))
        obtain rfl:=sI h
        exact au ⟨rfl,_,rfl,(kp4 (kp rfl))⟩
       ·dsimp only at h hJ
        obtain ⟨rfl,tm0_u41,rfl,rfl⟩:=hJ
        refine ⟨(by intro hc; cases hc),?_⟩
        refine ac (ay (eT (cR (oY rfl (aY rfl rfl) (oY rfl (yMI rfl) (oN (aU 3 ?_)))))))
        obtain rfl:=sI h
        exact eN ⟨_,rfl,(kp4 (kp rfl))⟩
     ·refine cF (vB hp16) (aE (ai ?_))
      obtain rfl:=sI h
      exact au ⟨rfl,_,rfl,(kp4 (kp rfl))⟩
    ·intro e L tm hJ
     rcases u15 with u43 | u44
     ·dsimp only at h hJ
      obtain ⟨rfl,tm0_u43,rfl,rfl⟩:=hJ
      refine ⟨(by intro hc; cases hc),?_⟩
      refine ah (aa ?_)
      obtain rfl:=sI h
      exact aj (.inl rfl) rfl (rVt (v:=.bool u43.1) rfl) (fun W2 hW2 => ⟨rfl,hW2.none⟩)
     ·dsimp only at h hJ
      obtain ⟨rfl,tm0_u44,rfl,rfl⟩:=hJ
      refine ⟨(by intro hc; cases hc),?_⟩
      refine ac (eT (cS (cR (oY rfl (yAB rfl) (oN (eT (ak ?_)))))))
      obtain rfl:=sI h
      exact aj (.inl rfl) rfl (rVt (v:=.bool true) rfl) (fun W2 hW2 => ⟨rfl,hW2.none⟩)
 ·clear h; rcases iOs hb6 with ⟨hp4,h⟩ | ⟨hp4,h⟩
  ·refine oSk (sF rfl rfl rfl rfl hp4) (oSk (sF rfl rfl rfl rfl hp4) (oSk (sF rfl rfl rfl rfl hp4) (oSk (sF rfl rfl rfl rfl hp4) (oY rfl (ad (vB hp4) rfl) ?_))))
   obtain rfl:=sI h
   exact key _ _ (kp4 (kp (kp rfl)))
  ·refine oY (sT rfl rfl rfl rfl hp4) (yFA eQ rfl) (oY (sT rfl rfl rfl rfl hp4) (yL 2 kZ rfl rfl rfl) ?_)
   obtain ⟨y46,hy47,h⟩:=bOs h
   refine oY (sT rfl rfl rfl rfl hp4) (yC [.slice A3_0 p3.fH.length c3_0,.func (.func 152) #[] #[]] go_151 rfl (fun W2 hW2 => kG p3.fH (fun x45 => dR x45) y46 hy47 W2 A3_0 p3.fH.length c3_0 ys3_0 rfl ((RdL.arg hr3_0) W2 hW2) (NestL.at (NestL.arg hN3_0) W2 hW2) 152 [] [] go_152 (fun W3 hb x hx rx y hxy => l7  x  y hxy W3 hx.1 _ hx.2.2 rfl rx)) rfl) (oY (sT rfl rfl rfl rfl hp4) (mL rfl rfl) (oY rfl (ae (vB hp4) rfl) ?_))
   obtain rfl:=sI h
   exact key _ _ (kp4 (kp (kp rfl)))
theorem jY (p0:TR) (p1:Int) (p2:Int) (p3:Int) (p4:TJ) (res:Bool) (h:ef p0 p1 p2 p3 p4 = some res) (W:World) (Ab:Option Addr) (n0_1 cb : Nat) (ys0_1:List (Hd × TT)) (hn0_1:n0_1 = p0.fTracks.length) (hr0_1:Rd W Ab n0_1 cb (encL TTrack_cells2 ys0_1)) (hN0_1:NestW W (fun z : TT => z.fK) TSpan_cells ys0_1 p0.fTracks) (A4_0:Option Addr) (n4_0 c4_0 : Nat) (hn4_0:n4_0 = p4.fLegs.length) (hr4_0:Rd W A4_0 n4_0 c4_0 (encL TLeg_cells p4.fLegs)) :
  Calls Tryz.prog 113 [.agg #[vI p0.fPlaces,.slice Ab n0_1 cb],vI p1,vI p2,vI p3,.agg #[.slice A4_0 n4_0 c4_0,vI p4.fA,vI p4.fToll]].toArray W fun e W2 => e = .returned (.bool res) ∧ Ext W W2 []:=by
 subst hn0_1
 subst hn4_0
 unfold ef at h
 refine ab (m:=118) Tryz.func113 rfl rfl (nB rfl) (cS (cR ?_))
 refine aM [vI p0.fPlaces,.slice Ab p0.fTracks.length cb] rfl rfl rfl (fun b1 => ?_)
 refine aM [.slice A4_0 p4.fLegs.length c4_0,vI p4.fA,vI p4.fToll] rfl rfl rfl (fun b2 => ?_)
 refine oY rfl (yAB rfl) (oN (eT (cS (cR (oY rfl (yAI rfl) (oN (eT (cS (cS (cR (oY rfl (yFA nx rfl) (oY rfl (yL 1 sc_27 rfl rfl rfl) (oY rfl (bl (us:=[]) sx rfl) (oY rfl (yMI rfl) (oN (eT (cB ?_)))))))))))))))))
 obtain ⟨u5,hl30,h⟩:=bOs h
 refine bn (fun (s:(Int × Int × Bool × Int × Int)) L tm => ∃ (tm0:Nat → Value),L = [ag b1 24 [vI p0.fPlaces,.slice Ab p0.fTracks.length cb],ag b2 29 [.slice A4_0 p4.fLegs.length c4_0,vI p4.fA,vI p4.fToll]] ∧ tm = (upd (upd (upd (upd (upd (upd (upd (upd (upd (upd tm0 1 (vI s.1)) 2 (vI p2)) 3 (vI s.2.1)) 5 (.pointer (some ⟨b1,0,none⟩))) 9 (.pointer (some ⟨b2,0,none⟩))) 10 (.bool s.2.2.1)) 11 (vI s.2.2.2.1)) 18 (.slice A4_0 p4.fLegs.length c4_0)) 19 (vI (p4.fLegs.length:Int))) 20 (vI s.2.2.2.2))) 0 hl30 ⟨_,rfl,(kp4 (kp4 (kp (kp rfl))))⟩ ?_ ?_
 ·rintro s4 L tm st ⟨tm0_s4,rfl,rfl⟩ h
  unfold ee at h
  refine cS (cR (oY rfl (bo rfl rfl) (oN (eT (cS ?_)))))
  rcases iOs h with ⟨hp6,h⟩ | ⟨hp6,h⟩
  ·refine cT (vB hp6) (cK (eT (cS (cB (cS (cR ?_))))))
   obtain ⟨hg7,h⟩:=gOs h
   refine oY rfl (yI tN (by decide) hg7.1 hg7.2 (RdL.arg hr4_0) (eL bA rfl) rfl rfl) ?_
   refine oY rfl (yM (A:=A4_0) (j:=(Int.toNat s4.2.2.2.2 * 2)) [vI ((rdL p4.fLegs s4.2.2.2.2).fTrack),vI ((rdL p4.fLegs s4.2.2.2.2).fHour)] rG (Nat.succ_pos _) (RdL.arg hr4_0) rfl (bd bA hg7.1 (aq hg7.2 rfl))) ?_
   refine aB ro rfl (fun b8 => ?_)
   refine cL rfl (yS 2 [vI ((rdL p4.fLegs s4.2.2.2.2).fTrack),vI ((rdL p4.fLegs s4.2.2.2.2).fHour)] tA rfl (nB rfl) rfl rfl rfl) (oN (eT (cS (cR (oY rfl (yN 0 [vI p0.fPlaces,.slice Ab p0.fTracks.length cb] eC rfl rfl rfl) (oY rfl (yFA fo_132_0 rfl) (oY rfl (yL 2 aX rfl rfl rfl) ?_)))))))
   obtain ⟨y9,hy10,h⟩:=bOs h
   refine oY rfl (yC [.agg #[vI p0.fPlaces,.slice Ab p0.fTracks.length cb],vI ((rdL p4.fLegs s4.2.2.2.2).fTrack)] go_155 rfl (fun W2 hW2 => lq p0 ((rdL p4.fLegs s4.2.2.2.2).fTrack) y9 hy10 W2 Ab p0.fTracks.length cb ys0_1 rfl ((RdL.arg hr0_1) W2 hW2) (NestL.at (NestL.arg hN0_1) W2 hW2)) rfl) (oY rfl (yAI rfl) (oN (eT (cS (cS (cR (oY rfl (yMI rfl) (oY rfl (bo rfl rfl) (oY rfl (yMB rfl) ?_)))))))))
   obtain ⟨b12,hb13,h⟩:=bOs h
   refine oJ 9 (fun tm0 => (upd (upd (upd (upd (upd (upd (upd (upd (upd (upd (upd (upd (upd (upd tm0 1 (vI s4.1)) 2 (vI p2)) 3 (vI s4.2.1)) 5 (.pointer (some ⟨b1,0,none⟩))) 9 (.pointer (some ⟨b2,0,none⟩))) 10 (.bool s4.2.2.1)) 11 (vI s4.2.2.2.1)) 18 (.slice A4_0 p4.fLegs.length c4_0)) 19 (vI (p4.fLegs.length:Int))) 20 (vI s4.2.2.2.2)) 21 (.bool (decide (s4.2.2.2.2 < (p4.fLegs.length:Int))))) 13 (.pointer (some ⟨b8,0,none⟩))) 14 (vI y9)) 39 (.bool b12))) (fun tm0 => ?_) (fun key => ?_)
   ·refine oY rfl (yMB rfl) ?_
    refine oJ 5 (fun tm0 => (upd (upd (upd (upd (upd (upd (upd (upd (upd (upd (upd (upd (upd (upd tm0 1 (vI s4.1)) 2 (vI p2)) 3 (vI s4.2.1)) 5 (.pointer (some ⟨b1,0,none⟩))) 9 (.pointer (some ⟨b2,0,none⟩))) 10 (.bool s4.2.2.1)) 11 (vI s4.2.2.2.1)) 18 (.slice A4_0 p4.fLegs.length c4_0)) 19 (vI (p4.fLegs.length:Int))) 20 (vI s4.2.2.2.2)) 21 (.bool (decide (s4.2.2.2.2 < (p4.fLegs.length:Int))))) 13 (.pointer (some ⟨b8,0,none⟩))) 14 (vI y9)) 45 (.bool (b12 || (decide ((rdL p4.fLegs s4.2.2.2.2).fHour < s4.2.1)))))) (fun tm0 => ?_) (fun key => ?_)
    ·refine oY rfl (yMB rfl) ?_
     obtain ⟨b16,hb17,h⟩:=bOs h
     refine oJ 5 (fun tm0 => (upd (upd (upd (upd (upd (upd (upd (upd (upd (upd (upd (upd (upd (upd tm0 1 (vI s4.1)) 2 (vI p2)) 3 (vI s4.2.1)) 5 (.pointer (some ⟨b1,0,none⟩))) 9 (.pointer (some ⟨b2,0,none⟩))) 10 (.bool s4.2.2.1)) 11 (vI s4.2.2.2.1)) 18 (.slice A4_0 p4.fLegs.length c4_0)) 19 (vI (p4.fLegs.length:Int))) 20 (vI s4.2.2.2.2)) 21 (.bool (decide (s4.2.2.2.2 < (p4.fLegs.length:Int))))) 13 (.pointer (some ⟨b8,0,none⟩))) 14 (vI y9)) 51 (.bool b16))) (fun tm0 => ?_) (fun key => ?_)
     ·refine oN (eT ?_)
      rcases iOs h with ⟨hp18,h⟩ | ⟨hp18,h⟩
      ·refine cT (vB hp18) (cS (cR (oY rfl (yAB rfl) (oN (eT (ak (aa (ah (aa (aU 2 ?_))))))))))
       obtain rfl:=sI h
       exact au ⟨rfl,_,rfl,(kp4 (kp4 (kp (kp rfl))))⟩
      ·refine cF (vB hp18) (cK (eT (cS (cS ?_))))
       refine bv 13 dm (by kernel_rfl) (by kernel_rfl) ?_
       refine qY rfl (yFA dV rfl) (qY rfl (yL 0 jK rfl rfl rfl) (qY rfl (yMI rfl) ?_))
       obtain ⟨hg19,h⟩:=gOs h
       refine qY rfl (yI kE (by decide) hg19.1 hg19.2 (RdL.arg hr0_1) (eL ax (NestP.hn hN0_1.p rfl)) rfl rfl) ?_
       refine qY rfl (yM (A:=Ab) (j:=(Int.toNat y9 * 6)) [vI ((rdL p0.fTracks y9).fID),vI ((rdL p0.fTracks y9).fFrom),vI ((rdL p0.fTracks y9).fTo),vI ((rdL p0.fTracks y9).fLong),vI ((rdL p0.fTracks y9).fToll),.slice ((rdL ys0_1 y9).1.1) ((rdL p0.fTracks y9).fK.length) ((rdL ys0_1 y9).1.2.2)] jQ (Nat.succ_pos _) (RdL.arg hr0_1) rfl (iN (cZ (NestP.snd hN0_1.p y9) (NestP.len hN0_1.p hg19.1 (aq hg19.2 rfl))).symm (bd ax hg19.1 (aq hg19.2 (NestP.hn hN0_1.p rfl))))) (qY rfl (yFA lW rfl) (qY rfl (yL 2 aX rfl rfl rfl) ?_))
       obtain ⟨y20,hy21,h⟩:=bOs h
       refine qY rfl (yC [.agg #[vI ((rdL p0.fTracks y9).fID),vI ((rdL p0.fTracks y9).fFrom),vI ((rdL p0.fTracks y9).fTo),vI ((rdL p0.fTracks y9).fLong),vI ((rdL p0.fTracks y9).fToll),.slice ((rdL ys0_1 y9).1.1) ((rdL p0.fTracks y9).fK.length) ((rdL ys0_1 y9).1.2.2)],vI ((rdL p4.fLegs s4.2.2.2.2).fHour)] rc rfl (fun W2 hW2 => gO (TT.mk ((rdL p0.fTracks y9).fID) ((rdL p0.fTracks y9).fFrom) ((rdL p0.fTracks y9).fTo) ((rdL p0.fTracks y9).fLong) ((rdL p0.fTracks y9).fToll) ((rdL p0.fTracks y9).fK)) ((rdL p4.fLegs s4.2.2.2.2).fHour) y20 hy21 W2 ((rdL ys0_1 y9).1.1) ((rdL p0.fTracks y9).fK.length) ((rdL ys0_1 y9).1.2.2) rfl ((NestL.rd (NestL.arg hN0_1) hg19.1 (aq hg19.2 rfl)) W2 hW2)) rfl) (qY rfl (aK rfl) (qY rfl (yE rfl rfl) (qY rfl (yE rfl rfl) (qY rfl (yAI rfl) (qY rfl (yAB rfl) (cN (oN (eT (cS (cR (oY rfl (yMB rfl) (oY rfl (bH rfl) (oY rfl (yMB rfl) ?_)))))))))))))
       refine oJ 5 (fun tm0 => (upd (upd (upd (upd (upd (upd (upd (upd (upd (upd (upd (upd (upd (upd (upd (upd (upd tm0 1 (vI s4.1)) 2 (vI p2)) 3 (vI s4.2.1)) 5 (.pointer (some ⟨b1,0,none⟩))) 9 (.pointer (some ⟨b2,0,none⟩))) 10 (.bool s4.2.2.1)) 11 (vI s4.2.2.2.1)) 18 (.slice A4_0 p4.fLegs.length c4_0)) 19 (vI (p4.fLegs.length:Int))) 20 (vI s4.2.2.2.2)) 21 (.bool (decide (s4.2.2.2.2 < (p4.fLegs.length:Int))))) 13 (.pointer (some ⟨b8,0,none⟩))) 14 (vI y9)) 51 (.bool b16)) 15 (vI y20.1)) 16 (.bool y20.2)) 70 (.bool ((!y20.2) || (y20.1 != ((rdL p4.fLegs s4.2.2.2.2).fHour)))))) (fun tm0 => ?_) (fun key => ?_)
       ·refine oN (eT ?_)
        rcases iOs h with ⟨hp23,h⟩ | ⟨hp23,h⟩
        ·refine cT (vB hp23) (cS (cR (oY rfl (yAB rfl) (oN (eT (ak (aa (ah (aa (aU 2 ?_))))))))))
         obtain rfl:=sI h
         exact au ⟨rfl,_,rfl,(kp4 (kp4 (kp (kp rfl))))⟩
        ·refine cF (vB hp23) (cK (eT ?_))
         refine bv 26 dm (by kernel_rfl) (by kernel_rfl) ?_
         refine qY rfl (yFA dV rfl) (qY rfl (yL 0 jK rfl rfl rfl) (qY rfl (yMI rfl) ?_))
         obtain ⟨hg24,h⟩:=gOs h
         refine qY rfl (yI kE (by decide) hg24.1 hg24.2 (RdL.arg hr0_1) (eL ax (NestP.hn hN0_1.p rfl)) rfl rfl) ?_
         refine qY rfl (yFR (A:=Ab) (j:=(Int.toNat y9 * 6)) lw rfl) (qY rfl (yR (A:=Ab) (j:=((Int.toNat y9 * 6) + 2)) (v:=vI ((rdL p0.fTracks y9).fTo)) aX (RdL.arg hr0_1) rfl (eG ax hg24.1 (aq hg24.2 (NestP.hn hN0_1.p rfl)) (congrArg (fun z : TT => some (Value.int .i64 z.fTo)) (NestP.snd hN0_1.p y9)))) (qY rfl (yFA lW rfl) (qY rfl (yL 2 aX rfl rfl rfl) (qY rfl (yFA dV rfl) (qY rfl (yL 0 jK rfl rfl rfl) (qY rfl (yMI rfl) ?_))))))
         obtain ⟨hg25,h⟩:=gOs h
         refine qY rfl (yI kE (by decide) hg25.1 hg25.2 (RdL.arg hr0_1) (eL ax (NestP.hn hN0_1.p rfl)) rfl rfl) ?_
         refine qY rfl (yFR (A:=Ab) (j:=(Int.toNat y9 * 6)) iH rfl) (qY rfl (yR (A:=Ab) (j:=((Int.toNat y9 * 6) + 3)) (v:=vI ((rdL p0.fTracks y9).fLong)) aX (RdL.arg hr0_1) rfl (eG ax hg25.1 (aq hg25.2 (NestP.hn hN0_1.p rfl)) (congrArg (fun z : TT => some (Value.int .i64 z.fLong)) (NestP.snd hN0_1.p y9)))) (qY rfl (aY rfl rfl) (qY rfl (yMI rfl) (qY rfl (yFA dV rfl) (qY rfl (yL 0 jK rfl rfl rfl) (qY rfl (yMI rfl) ?_))))))
         obtain ⟨hg26,h⟩:=gOs h
         refine qY rfl (yI kE (by decide) hg26.1 hg26.2 (RdL.arg hr0_1) (eL ax (NestP.hn hN0_1.p rfl)) rfl rfl) ?_
         refine qY rfl (yFR (A:=Ab) (j:=(Int.toNat y9 * 6)) lU rfl) (qY rfl (yR (A:=Ab) (j:=((Int.toNat y9 * 6) + 4)) (v:=vI ((rdL p0.fTracks y9).fToll)) aX (RdL.arg hr0_1) rfl (eG ax hg26.1 (aq hg26.2 (NestP.hn hN0_1.p rfl)) (congrArg (fun z : TT => some (Value.int .i64 z.fToll)) (NestP.snd hN0_1.p y9)))) (qY rfl (aY rfl rfl) (qY rfl (yAI rfl) (qY rfl (yAI rfl) (qY rfl (yAI rfl) (cN (oN (ay (eT (cR (oY rfl (aY rfl rfl) (oY rfl (yMI rfl) (oN (aU 2 ?_))))))))))))))
         obtain rfl:=sI h
         exact eN ⟨_,rfl,(kp4 (kp4 (kp (kp rfl))))⟩
       ·rcases ao (!y20.2) with hp22 | hp22
        ·refine oSk (sF rfl rfl rfl rfl hp22) (oSk (sF rfl rfl rfl rfl hp22) (oSk (sF rfl rfl rfl rfl hp22) (oSk (sF rfl rfl rfl rfl hp22) (oY rfl (ad (vB hp22) rfl) ?_))))
         exact key _ _ (keep (keep (keep (keep (keep (keep (keep (keep (keep (keep (keep (keep (keep (keep (keep (keep (keep rfl rfl) rfl) rfl) rfl) rfl) rfl) rfl) rfl) rfl) rfl) rfl) rfl) rfl) rfl) rfl) rfl) (vB (jF hp22)))
        ·refine oY (sT rfl rfl rfl rfl hp22) (yMI rfl) (oY (sT rfl rfl rfl rfl hp22) (yFA lW rfl) (oY (sT rfl rfl rfl rfl hp22) (yL 2 aX rfl rfl rfl) (oY (sT rfl rfl rfl rfl hp22) (dJ rfl rfl) (oY rfl (ae (vB hp22) rfl) ?_))))
         exact key _ _ (keep (keep (keep (keep (keep (keep (keep (keep (keep (keep (keep (keep (keep (keep (keep (keep (keep rfl rfl) rfl) rfl) rfl) rfl) rfl) rfl) rfl) rfl) rfl) rfl) rfl) rfl) rfl) rfl) rfl) (vB (jI hp22)))
     ·clear h; rcases iOs hb17 with ⟨hp15,h⟩ | ⟨hp15,h⟩
      ·refine oSk (sF rfl rfl rfl rfl hp15) (oSk (sF rfl rfl rfl rfl hp15) (oSk (sF rfl rfl rfl rfl hp15) (oSk (sF rfl rfl rfl rfl hp15) (oY rfl (ad (vB hp15) rfl) ?_))))
       obtain rfl:=sI h
       exact key _ _ (kp4 (kp4 (kp4 (kp (kp rfl)))))
      ·refine oY (sT rfl rfl rfl rfl hp15) (yFA lW rfl) (oY (sT rfl rfl rfl rfl hp15) (yL 2 aX rfl rfl rfl) ?_)
       obtain ⟨y27,hy28,h⟩:=bOs h
       refine oY (sT rfl rfl rfl rfl hp15) (yC [vI ((rdL p4.fLegs s4.2.2.2.2).fHour)] kS rfl (fun W2 hW2 => cw ((rdL p4.fLegs s4.2.2.2.2).fHour) y27 hy28 W2 ) rfl) (oY (sT rfl rfl rfl rfl hp15) (bH rfl) (oY rfl (ae (vB hp15) rfl) ?_))
       obtain rfl:=sI h
       exact key _ _ (kp4 (kp4 (kp4 (kp (kp rfl)))))
    ·rcases ao b12 with hp14 | hp14
     ·refine oSk (sF rfl rfl rfl rfl hp14) (oSk (sF rfl rfl rfl rfl hp14) (oSk (sF rfl rfl rfl rfl hp14) (oSk (sF rfl rfl rfl rfl hp14) (oY rfl (ad (vB hp14) rfl) ?_))))
      exact key _ _ (keep (keep (keep (keep (keep (keep (keep (keep (keep (keep (keep (keep (keep (keep rfl rfl) rfl) rfl) rfl) rfl) rfl) rfl) rfl) rfl) rfl) rfl) rfl) rfl) (vB (jF hp14)))
     ·refine oY (sT rfl rfl rfl rfl hp14) (yFA lW rfl) (oY (sT rfl rfl rfl rfl hp14) (yL 2 aX rfl rfl rfl) (oY (sT rfl rfl rfl rfl hp14) (yMI rfl) (oY (sT rfl rfl rfl rfl hp14) (bo rfl rfl) (oY rfl (ae (vB hp14) rfl) ?_))))
      exact key _ _ (keep (keep (keep (keep (keep (keep (keep (keep (keep (keep (keep (keep (keep (keep rfl rfl) rfl) rfl) rfl) rfl) rfl) rfl) rfl) rfl) rfl) rfl) rfl) rfl) (vB (jI hp14)))
   ·clear h; rcases iOs hb13 with ⟨hp11,h⟩ | ⟨hp11,h⟩
    ·refine oSk (sF rfl rfl rfl rfl hp11) (oSk (sF rfl rfl rfl rfl hp11) (oSk (sF rfl rfl rfl rfl hp11) (oSk (sF rfl rfl rfl rfl hp11) (oSk (sF rfl rfl rfl rfl hp11) (oSk (sF rfl rfl rfl rfl hp11) (oSk (sF rfl rfl rfl rfl hp11) (oSk (sF rfl rfl rfl rfl hp11) (oY rfl (ad (vB hp11) rfl) ?_))))))))
     obtain rfl:=sI h
     exact key _ _ (kp4 (kp4 (kp4 (kp (kp rfl)))))
    ·refine oY (sT rfl rfl rfl rfl hp11) (yFA dV rfl) (oY (sT rfl rfl rfl rfl hp11) (yL 0 jK rfl rfl rfl) (oY (sT rfl rfl rfl rfl hp11) (yMI rfl) ?_))
     obtain ⟨hg29,h⟩:=gOs h
     refine oY (sT rfl rfl rfl rfl hp11) (yI kE (by decide) hg29.1 hg29.2 (RdL.arg hr0_1) (eL ax (NestP.hn hN0_1.p rfl)) rfl rfl) ?_
     refine oY (sT rfl rfl rfl rfl hp11) (yFR (A:=Ab) (j:=(Int.toNat y9 * 6)) lY rfl) (oY (sT rfl rfl rfl rfl hp11) (yR (A:=Ab) (j:=((Int.toNat y9 * 6) + 1)) (v:=vI ((rdL p0.fTracks y9).fFrom)) aX (RdL.arg hr0_1) rfl (eG ax hg29.1 (aq hg29.2 (NestP.hn hN0_1.p rfl)) (congrArg (fun z : TT => some (Value.int .i64 z.fFrom)) (NestP.snd hN0_1.p y9)))) (oY (sT rfl rfl rfl rfl hp11) (yMI rfl) (oY (sT rfl rfl rfl rfl hp11) (dJ rfl rfl) (oY rfl (ae (vB hp11) rfl) ?_))))
     obtain rfl:=sI h
     exact key _ _ (kp4 (kp4 (kp4 (kp (kp rfl)))))
  ·refine cF (vB hp6) (aE (ai ?_))
   obtain rfl:=sI h
   exact au ⟨rfl,_,rfl,(kp4 (kp4 (kp (kp rfl))))⟩
 ·intro e L tm hJ
  rcases u5 with u31 | u32
  ·dsimp only at h hJ
   obtain ⟨rfl,tm0_u31,rfl,rfl⟩:=hJ
   refine ⟨(by intro hc; cases hc),?_⟩
   refine ah (aa ?_)
   obtain rfl:=sI h
   exact aj (.inl rfl) rfl (rVt (v:=.bool u31.2.2.1) rfl) (fun W2 hW2 => ⟨rfl,hW2.none⟩)
  ·dsimp only at h hJ
   obtain ⟨rfl,tm0_u32,rfl,rfl⟩:=hJ
   refine ⟨(by intro hc; cases hc),?_⟩
   refine ac (eT (cS (cR (oY rfl (yMI rfl) (oY rfl (yMI rfl) (oY rfl (dc rfl rfl) (oY rfl (yMB rfl) ?_)))))))
   refine oJ 5 (fun tm0 => (upd (upd (upd (upd (upd tm0 3 (vI u32.2.1)) 9 (.pointer (some ⟨b2,0,none⟩))) 10 (.bool u32.2.2.1)) 11 (vI u32.2.2.2.1)) 103 (.bool ((u32.1 == p2) && (u32.2.1 == p4.fA))))) (fun tm0 => ?_) (fun key => ?_)
   ·refine oY rfl (yMB rfl) ?_
    refine oJ 5 (fun tm0 => (upd (upd (upd (upd tm0 3 (vI u32.2.1)) 10 (.bool u32.2.2.1)) 11 (vI u32.2.2.2.1)) 109 (.bool (((u32.1 == p2) && (u32.2.1 == p4.fA)) && (u32.2.2.2.1 == p4.fToll))))) (fun tm0 => ?_) (fun key => ?_)
    ·refine oY rfl (yMB rfl) ?_
     obtain ⟨b36,hb37,h⟩:=bOs h
     refine oJ 3 (fun tm0 => (upd (upd (upd tm0 10 (.bool u32.2.2.1)) 11 (vI u32.2.2.2.1)) 113 (.bool b36))) (fun tm0 => ?_) (fun key => ?_)
     ·refine oY rfl (yMB rfl) ?_
      refine oJ 3 (fun tm0 => (upd (upd tm0 10 (.bool u32.2.2.1)) 117 (.bool (b36 && (decide (u32.2.2.2.1 ≤ 60)))))) (fun tm0 => ?_) (fun key => ?_)
      ·refine oY rfl (yAB rfl) (oN (eT (ak ?_)))
       obtain rfl:=sI h
       exact aj (.inl rfl) rfl (rVt (v:=.bool (b36 && (decide (u32.2.2.2.1 ≤ 60)))) rfl) (fun W2 hW2 => ⟨rfl,hW2.none⟩)
      ·rcases ao b36 with hp38 | hp38
       ·refine oY (sT rfl rfl rfl rfl hp38) (yMI rfl) (oY (sT rfl rfl rfl rfl hp38) (iO rfl rfl) (oY rfl (ad (vB hp38) rfl) ?_))
        exact key _ _ (keep (keep rfl rfl) (vB (hQ hp38)))
       ·refine oSk (sF rfl rfl rfl rfl hp38) (oSk (sF rfl rfl rfl rfl hp38) (oY rfl (ae (vB hp38) rfl) ?_))
        exact key _ _ (keep (keep rfl rfl) (vB (iw hp38)))
     ·clear h; rcases iOs hb37 with ⟨hp35,h⟩ | ⟨hp35,h⟩
      ·refine oY (sT rfl rfl rfl rfl hp35) (yMI rfl) ?_
       obtain ⟨y39,hy40,h⟩:=bOs h
       refine oY (sT rfl rfl rfl rfl hp35) (yC [vI u32.2.1] kS rfl (fun W2 hW2 => cw u32.2.1 y39 hy40 W2 ) rfl) (oY rfl (ad (vB hp35) rfl) ?_)
       obtain rfl:=sI h
       exact key _ _ (kp (kp (kp rfl)))
      ·refine oSk (sF rfl rfl rfl rfl hp35) (oSk (sF rfl rfl rfl rfl hp35) (oY rfl (ae (vB hp35) rfl) ?_))
       obtain rfl:=sI h
       exact key _ _ (kp (kp (kp rfl)))
    ·rcases ao ((u32.1 == p2) && (u32.2.1 == p4.fA)) with hp34 | hp34
     ·refine oY (sT rfl rfl rfl rfl hp34) (yMI rfl) (oY (sT rfl rfl rfl rfl hp34) (yFA ik rfl) (oY (sT rfl rfl rfl rfl hp34) (yL 1 aX rfl rfl rfl) (oY (sT rfl rfl rfl rfl hp34) (dc rfl rfl) (oY rfl (ad (vB hp34) rfl) ?_))))
      exact key _ _ (keep (keep (keep (keep rfl rfl) rfl) rfl) (vB (hQ hp34)))
     ·refine oSk (sF rfl rfl rfl rfl hp34) (oSk (sF rfl rfl rfl rfl hp34) (oSk (sF rfl rfl rfl rfl hp34) (oSk (sF rfl rfl rfl rfl hp34) (oY rfl (ae (vB hp34) rfl) ?_))))
      exact key _ _ (keep (keep (keep (keep rfl rfl) rfl) rfl) (vB (iw hp34)))
   ·rcases ao (u32.1 == p2) with hp33 | hp33
    ·refine oY (sT rfl rfl rfl rfl hp33) (yMI rfl) (oY (sT rfl rfl rfl rfl hp33) (yFA gh rfl) (oY (sT rfl rfl rfl rfl hp33) (yL 1 aX rfl rfl rfl) (oY (sT rfl rfl rfl rfl hp33) (dc rfl rfl) (oY rfl (ad (vB hp33) rfl) ?_))))
     exact key _ _ (keep (keep (keep (keep (keep rfl rfl) rfl) rfl) rfl) (vB (hQ hp33)))
    ·refine oSk (sF rfl rfl rfl rfl hp33) (oSk (sF rfl rfl rfl rfl hp33) (oSk (sF rfl rfl rfl rfl hp33) (oSk (sF rfl rfl rfl rfl hp33) (oY rfl (ae (vB hp33) rfl) ?_))))
     exact key _ _ (keep (keep (keep (keep (keep rfl rfl) rfl) rfl) rfl) (vB (iw hp33)))
theorem kD (p0:TR) (p1:Int) (p2:Int) (p3:Int) (p4:TJ) (res:Int) (h:dw p0 p1 p2 p3 p4 = some res) (W:World) (Ab:Option Addr) (n0_1 cb : Nat) (ys0_1:List (Hd × TT)) (hn0_1:n0_1 = p0.fTracks.length) (hr0_1:Rd W Ab n0_1 cb (encL TTrack_cells2 ys0_1)) (hN0_1:NestW W (fun z : TT => z.fK) TSpan_cells ys0_1 p0.fTracks) (A4_0:Option Addr) (n4_0 c4_0 : Nat) (hn4_0:n4_0 = p4.fLegs.length) (hr4_0:Rd W A4_0 n4_0 c4_0 (encL TLeg_cells p4.fLegs)) :
  Calls Tryz.prog 51 [.agg #[vI p0.fPlaces,.slice Ab n0_1 cb],vI p1,vI p2,vI p3,.agg #[.slice A4_0 n4_0 c4_0,vI p4.fA,vI p4.fToll]].toArray W fun e W2 => e = .returned (vI res) ∧ Ext W W2 []:=by
 subst hn0_1
 subst hn4_0
 unfold dw at h
 refine ab (m:=27) Tryz.func51 rfl rfl (nB rfl) (cS (cR ?_))
 refine aM [vI p0.fPlaces,.slice Ab p0.fTracks.length cb] rfl rfl rfl (fun b1 => ?_)
 refine aM [.slice A4_0 p4.fLegs.length c4_0,vI p4.fA,vI p4.fToll] rfl rfl rfl (fun b2 => ?_)
 refine oY rfl (yAI rfl) (oN (eT (cS (cS (cR (oY rfl (yN 0 [vI p0.fPlaces,.slice Ab p0.fTracks.length cb] eC rfl rfl rfl) (oY rfl (yMI rfl) (oY rfl (yMI rfl) (oY rfl (yMI rfl) ?_)))))))))
 obtain ⟨y3,hy4,h⟩:=bOs h
 refine oY rfl (yC [.agg #[vI p0.fPlaces,.slice Ab p0.fTracks.length cb],vI p1,vI p2,vI p3,vI 0] sn rfl (fun W2 hW2 => eM p0 p1 p2 p3 0 y3 hy4 W2 Ab p0.fTracks.length cb ys0_1 rfl ((RdL.arg hr0_1) W2 hW2) (NestL.at (NestL.arg hN0_1) W2 hW2)) rfl) (oY rfl (yAI rfl) (oN (eT (cS (cR (oY rfl (yMI rfl) (oY rfl (dJ rfl rfl) (oN (eT ?_)))))))))
 rcases iOs h with ⟨hp5,h⟩ | ⟨hp5,h⟩
 ·refine cT (vB hp5) (cS (cR (oY rfl (yMI rfl) (oY rfl (yAI rfl) (oN (eT (ak (aa ?_))))))))
  obtain rfl:=sI h
  exact aj (.inl rfl) rfl (rVt (v:=vI y3) rfl) (fun W2 hW2 => ⟨rfl,hW2.none⟩)
 ·refine cF (vB hp5) (cK (eT (cS (cS (cR (oY rfl (yN 0 [vI p0.fPlaces,.slice Ab p0.fTracks.length cb] eC rfl rfl rfl) (oY rfl (yMI rfl) (oY rfl (yMI rfl) (oY rfl (yMI rfl) (oY rfl (yN 1 [.slice A4_0 p4.fLegs.length c4_0,vI p4.fA,vI p4.fToll] jB rfl rfl rfl) ?_))))))))))
  obtain ⟨y6,hy7,h⟩:=bOs h
  refine oY rfl (yC [.agg #[vI p0.fPlaces,.slice Ab p0.fTracks.length cb],vI p1,vI p2,vI p3,.agg #[.slice A4_0 p4.fLegs.length c4_0,vI p4.fA,vI p4.fToll]] go_113 rfl (fun W2 hW2 => jY p0 p1 p2 p3 p4 y6 hy7 W2 Ab p0.fTracks.length cb ys0_1 rfl ((RdL.arg hr0_1) W2 hW2) (NestL.at (NestL.arg hN0_1) W2 hW2) A4_0 p4.fLegs.length c4_0 rfl ((RdL.arg hr4_0) W2 hW2)) rfl) (oY rfl (bH rfl) (oN (eT ?_)))
  rcases iOs h with ⟨hp8,h⟩ | ⟨hp8,h⟩
  ·refine cT (vB hp8) (cS (cR (oY rfl (yAI rfl) (oN (eT (ak (aa ?_)))))))
   obtain rfl:=sI h
   exact aj (.inl rfl) rfl (rVt (v:=vI 8) rfl) (fun W2 hW2 => ⟨rfl,hW2.none⟩)
  ·refine cF (vB hp8) (cK (eT (cS (cR (oY rfl (yAI rfl) (oN (eT (ak ?_))))))))
   obtain rfl:=sI h
   exact aj (.inl rfl) rfl (rVt (v:=vI 0) rfl) (fun W2 hW2 => ⟨rfl,hW2.none⟩)
end Go.Proofs.YthndghnkebboaaaGreat
