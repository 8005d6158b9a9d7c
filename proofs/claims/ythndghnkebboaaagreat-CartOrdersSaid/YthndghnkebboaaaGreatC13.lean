import Derived.Test.YthndghnkebboaaaGreatF
import Derived.Test.YthndghnkebboaaaGreatGy
import Derived.Test.YthndghnkebboaaaGreatC2
import Derived.Test.YthndghnkebboaaaGreatC4
import Derived.Test.YthndghnkebboaaaGreatC6
import Derived.Test.YthndghnkebboaaaGreatGv
set_option maxHeartbeats 4000000
set_option maxRecDepth 100000
set_option linter.unusedVariables false
namespace Go.Proofs.YthndghnkebboaaaGreat
open Go.RowKit (Below)
attribute [local irreducible] OX QX CX EX OpY Calls CallsIn
theorem g9  (res:Bool) (h:d9 = some res) (W:World)  :
  Calls Tryz.prog 17 [].toArray W fun e W2 => e = .returned (.bool res) ∧ Ext W W2 []:=by
 unfold d9 at h
 refine ac (m:=261) Tryz.func17 rfl rfl (nB rfl) (cS (cR (oY rfl (yAB rfl) (oN (eT (cS (cR ?_)))))))
 obtain ⟨y1,hy2,h⟩:=bOs h
 refine oC [] _ _ _ rfl go_67 rfl (fun W2 hW2 => lc  y1 hy2 W2 W (fun _ => True) (fun W3 hb => ⟨iv hW2.below hb,trivial⟩) ) ?_
 rintro ⟨⟨A5,n7,c6⟩,ys10,F11⟩ ⟨hn8,hP9,hV12⟩
 replace hn8 : n7 = y1.fTracks.length:=hn8; subst hn8
 refine aB ze_24 rfl (fun b13 => ?_)
 refine cH rfl (yS 2 [vI y1.fPlaces,.slice A5 y1.fTracks.length c6] sz_24 rfl (nB rfl) rfl rfl rfl) (oN (eT (cS (cR ?_))))
 obtain ⟨y14,hy15,h⟩:=bOs h
 refine oC [] _ _ _ rfl go_68 rfl (fun W2 hW2 => lb  y14 hy15 W2 ) ?_
 rintro ⟨⟨A16,n20,c17⟩,⟨A18,n22,c19⟩⟩ ⟨hn21,hn23⟩
 replace hn21 : n20 = y14.fB.length:=hn21; subst hn21
 replace hn23 : n22 = y14.fR.length:=hn23; subst hn23
 refine aB o8 rfl (fun b24 => ?_)
 try dsimp only [lna,lca,lsz,lss]
 refine cH rfl (yS 5 [.slice A16 y14.fB.length c17,.slice A18 y14.fR.length c19] sz_53 rfl (nB rfl) rfl rfl rfl) (oN (eT (cS (cR (oY rfl (yFA kK rfl) (oY rfl (yL 2 qv rfl rfl rfl) ?_))))))
 obtain ⟨hg25,h⟩:=gOs h
 refine oY rfl (yI oy (by decide) hg25.1 hg25.2 (RdL.row 0 rfl) (eL aV (NestP.hn hP9 rfl)) rfl rfl) ?_
 refine oY rfl (yM (A:=A5) (j:=(Int.toNat 1 * 6)) [vI ((rdL y1.fTracks 1).fID),vI ((rdL y1.fTracks 1).fFrom),vI ((rdL y1.fTracks 1).fTo),vI ((rdL y1.fTracks 1).fLong),vI ((rdL y1.fTracks 1).fToll),.slice ((rdL ys10 1).1.1) ((rdL y1.fTracks 1).fK.length) ((rdL ys10 1).1.2.2)] my (Nat.succ_pos _) (RdL.row 0 rfl) rfl (ng (fi (NestP.snd hP9 1) (NestP.len hP9 hg25.1 (aA hg25.2 rfl))).symm (bE aV hg25.1 (aA hg25.2 (NestP.hn hP9 rfl))))) ?_
 obtain ⟨y26,hy27,h⟩:=bOs h
 refine oY rfl (yC [.agg #[vI ((rdL y1.fTracks 1).fID),vI ((rdL y1.fTracks 1).fFrom),vI ((rdL y1.fTracks 1).fTo),vI ((rdL y1.fTracks 1).fLong),vI ((rdL y1.fTracks 1).fToll),.slice ((rdL ys10 1).1.1) ((rdL y1.fTracks 1).fK.length) ((rdL ys10 1).1.2.2)],vI 8] go_69 rfl (fun W2 hW2 => pn (TT.mk ((rdL y1.fTracks 1).fID) ((rdL y1.fTracks 1).fFrom) ((rdL y1.fTracks 1).fTo) ((rdL y1.fTracks 1).fLong) ((rdL y1.fTracks 1).fToll) ((rdL y1.fTracks 1).fK)) 8 y26 hy27 W2 ((rdL ys10 1).1.1) ((rdL y1.fTracks 1).fK.length) ((rdL ys10 1).1.2.2) rfl ((NestL.rd (PvL.nestL hP9 hV12 (fun W2 hW2 => ⟨hW2.below,trivial,hW2.mem (i:=1) rfl⟩)) hg25.1 (aA hg25.2 rfl)) W2 hW2)) rfl) (oY rfl (aM rfl) (oY rfl (yE rfl rfl) (oY rfl (yE rfl rfl) (oY rfl (yAI rfl) (oY rfl (yAI rfl) (oN (eT (cS (cR (oY rfl (yN 2 [vI y1.fPlaces,.slice A5 y1.fTracks.length c6] iu rfl rfl rfl) ?_))))))))))
 obtain ⟨y28,hy29,h⟩:=bOs h
 refine oC [.agg #[vI y1.fPlaces,.slice A5 y1.fTracks.length c6],vI 0,vI 4] _ _ _ rfl go_49 rfl (fun W2 hW2 => mz y1 0 4 y28 hy29 W2 A5 y1.fTracks.length c6 ys10 rfl ((RdL.row 0 rfl) W2 hW2) (NestL.at (PvL.nestL hP9 hV12 (fun W2 hW2 => ⟨hW2.below,trivial,hW2.mem (i:=1) rfl⟩)) W2 hW2) W (fun _ => True) (fun W3 hb => ⟨iv hW2.below hb,trivial⟩) ) ?_
 rintro ⟨⟨A32,n34,c33⟩,ys37,F38⟩ ⟨hn35,hP36,hV39⟩
 replace hn35 : n34 = y28.1.fH.length:=hn35; subst hn35
 try dsimp only [lna,lca,lsz,lss]
 refine oY rfl (aM rfl) (oY rfl (yE rfl rfl) (oY rfl (yE rfl rfl) ?_))
 refine aB ze_87 rfl (fun b40 => ?_)
 try dsimp only [lna,lca,lsz,lss]
 refine cH rfl (yS 8 [.slice A32 y28.1.fH.length c33] sz_87 rfl (nB rfl) rfl rfl rfl) (oY rfl (yAI rfl) (oN (eT (cS (cR (oY rfl (yN 2 [vI y1.fPlaces,.slice A5 y1.fTracks.length c6] iu rfl rfl rfl) ?_))))))
 obtain ⟨y41,hy42,h⟩:=bOs h
 refine oC [.agg #[vI y1.fPlaces,.slice A5 y1.fTracks.length c6],vI 0,vI 2,vI 4] _ _ _ rfl go_61 rfl (fun W2 hW2 => pl y1 0 2 4 y41 hy42 W2 A5 y1.fTracks.length c6 ys10 rfl ((RdL.row 0 rfl) W2 hW2) (NestL.at (PvL.nestL hP9 hV12 (fun W2 hW2 => ⟨hW2.below,trivial,hW2.mem (i:=1) rfl⟩)) W2 hW2) W (fun _ => True) (fun W3 hb => ⟨iv hW2.below hb,trivial⟩) ) ?_
 rintro ⟨⟨A45,n47,c46⟩,ys50,F51⟩ ⟨hn48,hP49,hV52⟩
 replace hn48 : n47 = y41.1.length:=hn48; subst hn48
 try dsimp only [lna,lca,lsz,lss]
 refine oY rfl (aM rfl) (oY rfl (yE rfl rfl) (oY rfl (yE rfl rfl) (oY rfl (yAS rfl) (oY rfl (yAI rfl) (oN (eT (cS (cR (oY rfl (yN 2 [vI y1.fPlaces,.slice A5 y1.fTracks.length c6] iu rfl rfl rfl) ?_)))))))))
 obtain ⟨y53,hy54,h⟩:=bOs h
 refine oC [.agg #[vI y1.fPlaces,.slice A5 y1.fTracks.length c6],vI 0,vI 2,vI 4,vI 5] _ _ _ rfl go_18 rfl (fun W2 hW2 => mr y1 0 2 4 5 y53 hy54 W2 A5 y1.fTracks.length c6 ys10 rfl ((RdL.row 0 rfl) W2 hW2) (NestL.at (PvL.nestL hP9 hV12 (fun W2 hW2 => ⟨hW2.below,trivial,hW2.mem (i:=1) rfl⟩)) W2 hW2) W (fun _ => True) (fun W3 hb => ⟨iv hW2.below hb,trivial⟩) ) ?_
 rintro ⟨⟨A57,n59,c58⟩,F61⟩ ⟨hn60,hV62⟩
 replace hn60 : n59 = y53.1.fLegs.length:=hn60; subst hn60
 try dsimp only [lna,lca,lsz,lss]
 refine oY rfl (aM rfl) (oY rfl (yE rfl rfl) (oY rfl (yE rfl rfl) ?_))
 refine aB kr rfl (fun b63 => ?_)
 try dsimp only [lna,lca,lsz,lss]
 refine cH rfl (yS 12 [.slice A57 y53.1.fLegs.length c58,vI y53.1.fA,vI y53.1.fToll] lU rfl (nB rfl) rfl rfl rfl) (oY rfl (yAI rfl) (oN (eT (cS (cR (oY rfl (yN 2 [vI y1.fPlaces,.slice A5 y1.fTracks.length c6] iu rfl rfl rfl) ?_))))))
 obtain ⟨y64,hy65,h⟩:=bOs h
 refine oY rfl (yC [.agg #[vI y1.fPlaces,.slice A5 y1.fTracks.length c6],vI 0,vI 2,vI 26,vI 0] go_19 rfl (fun W2 hW2 => nL y1 0 2 26 0 y64 hy65 W2 A5 y1.fTracks.length c6 ys10 rfl ((RdL.row 0 rfl) W2 hW2) (NestL.at (PvL.nestL hP9 hV12 (fun W2 hW2 => ⟨hW2.below,trivial,hW2.mem (i:=1) rfl⟩)) W2 hW2)) rfl) (oY rfl (aM rfl) (oY rfl (yE rfl rfl) (oY rfl (yE rfl rfl) (oY rfl (yAI rfl) (oY rfl (yAI rfl) (oN (eT (cS (cR (oY rfl (yN 2 [vI y1.fPlaces,.slice A5 y1.fTracks.length c6] iu rfl rfl rfl) ?_))))))))))
 obtain ⟨y66,hy67,h⟩:=bOs h
 refine oC [.agg #[vI y1.fPlaces,.slice A5 y1.fTracks.length c6],vI 0,vI 2,vI 4,vI 0] _ _ _ rfl go_23 rfl (fun W2 hW2 => kC y1 0 2 4 0 y66 hy67 W2 A5 y1.fTracks.length c6 ys10 rfl ((RdL.row 0 rfl) W2 hW2) (NestL.at (PvL.nestL hP9 hV12 (fun W2 hW2 => ⟨hW2.below,trivial,hW2.mem (i:=1) rfl⟩)) W2 hW2)) ?_
 rintro ⟨A68,n70,c69⟩ hn71
 replace hn71 : n70 = y66.1.length:=hn71; subst hn71
 try dsimp only [lna,lca,lsz,lss]
 refine oY rfl (aM rfl) (oY rfl (yE rfl rfl) (oY rfl (yE rfl rfl) (oY rfl (yAS rfl) (oY rfl (yAI rfl) (oN (eT (cS (cR (oY rfl (yN 2 [vI y1.fPlaces,.slice A5 y1.fTracks.length c6] iu rfl rfl rfl) ?_)))))))))
 obtain ⟨y72,hy73,h⟩:=bOs h
 refine oC [.agg #[vI y1.fPlaces,.slice A5 y1.fTracks.length c6],vI 0,vI 2,vI 4,vI 60] _ _ _ rfl go_23 rfl (fun W2 hW2 => kC y1 0 2 4 60 y72 hy73 W2 A5 y1.fTracks.length c6 ys10 rfl ((RdL.row 0 rfl) W2 hW2) (NestL.at (PvL.nestL hP9 hV12 (fun W2 hW2 => ⟨hW2.below,trivial,hW2.mem (i:=1) rfl⟩)) W2 hW2)) ?_
 rintro ⟨A74,n76,c75⟩ hn77
 replace hn77 : n76 = y72.1.length:=hn77; subst hn77
 try dsimp only [lna,lca,lsz,lss]
 refine oY rfl (aM rfl) (oY rfl (yE rfl rfl) (oY rfl (yE rfl rfl) (oY rfl (yAS rfl) (oY rfl (yAI rfl) (oN (eT (cS (cS (cR (oY rfl (yMI rfl) (oY rfl (em rfl rfl) (oY rfl (yMB rfl) ?_))))))))))))
 refine oJ 3 (fun tm0 => (upd (upd (upd (upd (upd (upd (upd (upd (upd (upd (upd (upd (upd (upd (upd tm0 0 (.bool false)) 2 (.pointer (some ⟨b24,0,none⟩))) 3 (vI y26.1)) 5 (.pointer (some ⟨b40,0,none⟩))) 7 (.slice A45 y41.1.length c46)) 8 (vI y41.2)) 9 (.pointer (some ⟨b63,0,none⟩))) 10 (vI y53.2)) 11 (vI y64.1)) 12 (vI y64.2)) 13 (.slice A68 y66.1.length c69)) 14 (vI y66.2)) 15 (.slice A74 y72.1.length c75)) 16 (vI y72.2)) 74 (.bool ((y26.2 != 0) || (y28.2 != 0))))) (fun tm0 => ?_) (fun key => ?_)
 ·refine oY rfl (yMB rfl) ?_
  refine oJ 3 (fun tm0 => (upd (upd (upd (upd (upd (upd (upd (upd (upd (upd (upd (upd (upd (upd tm0 0 (.bool false)) 2 (.pointer (some ⟨b24,0,none⟩))) 3 (vI y26.1)) 5 (.pointer (some ⟨b40,0,none⟩))) 7 (.slice A45 y41.1.length c46)) 9 (.pointer (some ⟨b63,0,none⟩))) 10 (vI y53.2)) 11 (vI y64.1)) 12 (vI y64.2)) 13 (.slice A68 y66.1.length c69)) 14 (vI y66.2)) 15 (.slice A74 y72.1.length c75)) 16 (vI y72.2)) 78 (.bool (((y26.2 != 0) || (y28.2 != 0)) || (y41.2 != 0))))) (fun tm0 => ?_) (fun key => ?_)
  ·refine oY rfl (yMB rfl) ?_
   refine oJ 3 (fun tm0 => (upd (upd (upd (upd (upd (upd (upd (upd (upd (upd (upd (upd (upd tm0 0 (.bool false)) 2 (.pointer (some ⟨b24,0,none⟩))) 3 (vI y26.1)) 5 (.pointer (some ⟨b40,0,none⟩))) 7 (.slice A45 y41.1.length c46)) 9 (.pointer (some ⟨b63,0,none⟩))) 11 (vI y64.1)) 12 (vI y64.2)) 13 (.slice A68 y66.1.length c69)) 14 (vI y66.2)) 15 (.slice A74 y72.1.length c75)) 16 (vI y72.2)) 82 (.bool ((((y26.2 != 0) || (y28.2 != 0)) || (y41.2 != 0)) || (y53.2 != 0))))) (fun tm0 => ?_) (fun key => ?_)
   ·refine oY rfl (yMB rfl) ?_
    refine oJ 3 (fun tm0 => (upd (upd (upd (upd (upd (upd (upd (upd (upd (upd (upd (upd tm0 0 (.bool false)) 2 (.pointer (some ⟨b24,0,none⟩))) 3 (vI y26.1)) 5 (.pointer (some ⟨b40,0,none⟩))) 7 (.slice A45 y41.1.length c46)) 9 (.pointer (some ⟨b63,0,none⟩))) 11 (vI y64.1)) 13 (.slice A68 y66.1.length c69)) 14 (vI y66.2)) 15 (.slice A74 y72.1.length c75)) 16 (vI y72.2)) 86 (.bool (((((y26.2 != 0) || (y28.2 != 0)) || (y41.2 != 0)) || (y53.2 != 0)) || (y64.2 != 0))))) (fun tm0 => ?_) (fun key => ?_)
    ·refine oY rfl (yMB rfl) ?_
     refine oJ 3 (fun tm0 => (upd (upd (upd (upd (upd (upd (upd (upd (upd (upd (upd tm0 0 (.bool false)) 2 (.pointer (some ⟨b24,0,none⟩))) 3 (vI y26.1)) 5 (.pointer (some ⟨b40,0,none⟩))) 7 (.slice A45 y41.1.length c46)) 9 (.pointer (some ⟨b63,0,none⟩))) 11 (vI y64.1)) 13 (.slice A68 y66.1.length c69)) 15 (.slice A74 y72.1.length c75)) 16 (vI y72.2)) 90 (.bool ((((((y26.2 != 0) || (y28.2 != 0)) || (y41.2 != 0)) || (y53.2 != 0)) || (y64.2 != 0)) || (y66.2 != 0))))) (fun tm0 => ?_) (fun key => ?_)
     ·refine oY rfl (yMB rfl) ?_
      refine oJ 3 (fun tm0 => (upd (upd (upd (upd (upd (upd (upd (upd (upd (upd tm0 0 (.bool false)) 2 (.pointer (some ⟨b24,0,none⟩))) 3 (vI y26.1)) 5 (.pointer (some ⟨b40,0,none⟩))) 7 (.slice A45 y41.1.length c46)) 9 (.pointer (some ⟨b63,0,none⟩))) 11 (vI y64.1)) 13 (.slice A68 y66.1.length c69)) 15 (.slice A74 y72.1.length c75)) 94 (.bool (((((((y26.2 != 0) || (y28.2 != 0)) || (y41.2 != 0)) || (y53.2 != 0)) || (y64.2 != 0)) || (y66.2 != 0)) || (y72.2 != 0))))) (fun tm0 => ?_) (fun key => ?_)
      ·refine oY rfl (yMB rfl) ?_
       refine oJ 3 (fun tm0 => (upd (upd (upd (upd (upd (upd (upd (upd (upd tm0 0 (.bool false)) 2 (.pointer (some ⟨b24,0,none⟩))) 5 (.pointer (some ⟨b40,0,none⟩))) 7 (.slice A45 y41.1.length c46)) 9 (.pointer (some ⟨b63,0,none⟩))) 11 (vI y64.1)) 13 (.slice A68 y66.1.length c69)) 15 (.slice A74 y72.1.length c75)) 98 (.bool ((((((((y26.2 != 0) || (y28.2 != 0)) || (y41.2 != 0)) || (y53.2 != 0)) || (y64.2 != 0)) || (y66.2 != 0)) || (y72.2 != 0)) || (y26.1 != 21))))) (fun tm0 => ?_) (fun key => ?_)
       ·refine oY rfl (yMB rfl) ?_
        refine oJ 5 (fun tm0 => (upd (upd (upd (upd (upd (upd (upd (upd (upd tm0 0 (.bool false)) 2 (.pointer (some ⟨b24,0,none⟩))) 5 (.pointer (some ⟨b40,0,none⟩))) 7 (.slice A45 y41.1.length c46)) 9 (.pointer (some ⟨b63,0,none⟩))) 11 (vI y64.1)) 13 (.slice A68 y66.1.length c69)) 15 (.slice A74 y72.1.length c75)) 104 (.bool (((((((((y26.2 != 0) || (y28.2 != 0)) || (y41.2 != 0)) || (y53.2 != 0)) || (y64.2 != 0)) || (y66.2 != 0)) || (y72.2 != 0)) || (y26.1 != 21)) || ((y28.1.fH.length:Int) != 3))))) (fun tm0 => ?_) (fun key => ?_)
        ·refine oY rfl (yMB rfl) ?_
         obtain ⟨b87,hb88,h⟩:=bOs h
         refine oJ 7 (fun tm0 => (upd (upd (upd (upd (upd (upd (upd (upd (upd tm0 0 (.bool false)) 2 (.pointer (some ⟨b24,0,none⟩))) 5 (.pointer (some ⟨b40,0,none⟩))) 7 (.slice A45 y41.1.length c46)) 9 (.pointer (some ⟨b63,0,none⟩))) 11 (vI y64.1)) 13 (.slice A68 y66.1.length c69)) 15 (.slice A74 y72.1.length c75)) 112 (.bool b87))) (fun tm0 => ?_) (fun key => ?_)
         ·refine oY rfl (yMB rfl) ?_
          refine oJ 4 (fun tm0 => (upd (upd (upd (upd (upd (upd (upd (upd (upd tm0 0 (.bool false)) 2 (.pointer (some ⟨b24,0,none⟩))) 5 (.pointer (some ⟨b40,0,none⟩))) 7 (.slice A45 y41.1.length c46)) 9 (.pointer (some ⟨b63,0,none⟩))) 11 (vI y64.1)) 13 (.slice A68 y66.1.length c69)) 15 (.slice A74 y72.1.length c75)) 117 (.bool (b87 || ((y41.1.length:Int) != 3))))) (fun tm0 => ?_) (fun key => ?_)
          ·refine oN (eT ?_)
           rcases iOs h with ⟨hp90,h⟩ | ⟨hp90,h⟩
           ·refine cT (vB hp90) (cS (cR (oY rfl (yAB rfl) (oN (eT (ao (aa ?_)))))))
            obtain rfl:=sI h
            exact ap (.inl rfl) rfl (rVt (v:=.bool false) rfl) (fun W2 hW2 => ⟨rfl,hW2.none⟩)
           ·refine cF (vB hp90) (cK (eT (cS (cR (oY rfl (yFA kQ rfl) (oY rfl (yL 8 rR rfl rfl rfl) ?_))))))
            obtain ⟨hg91,h⟩:=gOs h
            refine oY rfl (yI sl_85 (by decide) hg91.1 hg91.2 (RdL.row 6 rfl) (eL bG (NestP.hn hP36 rfl)) rfl rfl) ?_
            refine oY rfl (yR (A:=A32) (j:=(Int.toNat 2 * 1)) (v:=.slice ((rdL ys37 2).1.1) ((rdL y28.1.fH 2).length) ((rdL ys37 2).1.2.2)) nA (RdL.row 6 rfl) rfl (aL bG hg91.1 (aA hg91.2 (NestP.hn hP36 rfl)) (congrArg (fun n : Nat => some (Value.slice (rdL ys37 2).1.1 n (rdL ys37 2).1.2.2)) (NestP.len hP36 hg91.1 (aA hg91.2 rfl))))) ?_
            obtain ⟨hg92,h⟩:=gOs h
            refine oY rfl (yI cO (by decide) hg92.1 hg92.2 (NestL.rd (PvL.nestL hP36 hV39 (fun W2 hW2 => ⟨hW2.below,trivial,hW2.mem (i:=7) rfl⟩)) hg91.1 (aA hg91.2 rfl)) (eL ax rfl) rfl rfl) ?_
            refine oY rfl (yR (A:=((rdL ys37 2).1.1)) (j:=(Int.toNat 0 * 1)) (v:=vI (rdL (rdL y28.1.fH 2) 0)) bg (NestL.rd (PvL.nestL hP36 hV39 (fun W2 hW2 => ⟨hW2.below,trivial,hW2.mem (i:=7) rfl⟩)) hg91.1 (aA hg91.2 rfl)) rfl (aL ax hg92.1 (aA hg92.2 rfl) rfl)) (oY rfl (dC rfl rfl) (oY rfl (yMB rfl) ?_))
            obtain ⟨b94,hb95,h⟩:=bOs h
            refine oJ 8 (fun tm0 => (upd (upd (upd (upd (upd (upd (upd (upd (upd tm0 0 (.bool false)) 2 (.pointer (some ⟨b24,0,none⟩))) 5 (.pointer (some ⟨b40,0,none⟩))) 7 (.slice A45 y41.1.length c46)) 9 (.pointer (some ⟨b63,0,none⟩))) 11 (vI y64.1)) 13 (.slice A68 y66.1.length c69)) 15 (.slice A74 y72.1.length c75)) 133 (.bool b94))) (fun tm0 => ?_) (fun key => ?_)
            ·refine oY rfl (yMB rfl) ?_
             obtain ⟨b97,hb98,h⟩:=bOs h
             refine oJ 8 (fun tm0 => (upd (upd (upd (upd (upd (upd (upd (upd tm0 0 (.bool false)) 2 (.pointer (some ⟨b24,0,none⟩))) 7 (.slice A45 y41.1.length c46)) 9 (.pointer (some ⟨b63,0,none⟩))) 11 (vI y64.1)) 13 (.slice A68 y66.1.length c69)) 15 (.slice A74 y72.1.length c75)) 142 (.bool b97))) (fun tm0 => ?_) (fun key => ?_)
             ·refine oY rfl (yMB rfl) ?_
              obtain ⟨b100,hb101,h⟩:=bOs h
              refine oJ 6 (fun tm0 => (upd (upd (upd (upd (upd (upd (upd (upd tm0 0 (.bool false)) 2 (.pointer (some ⟨b24,0,none⟩))) 7 (.slice A45 y41.1.length c46)) 9 (.pointer (some ⟨b63,0,none⟩))) 11 (vI y64.1)) 13 (.slice A68 y66.1.length c69)) 15 (.slice A74 y72.1.length c75)) 149 (.bool b100))) (fun tm0 => ?_) (fun key => ?_)
              ·refine oY rfl (yMB rfl) ?_
               obtain ⟨b103,hb104,h⟩:=bOs h
               refine oJ 6 (fun tm0 => (upd (upd (upd (upd (upd (upd (upd (upd tm0 0 (.bool false)) 2 (.pointer (some ⟨b24,0,none⟩))) 7 (.slice A45 y41.1.length c46)) 9 (.pointer (some ⟨b63,0,none⟩))) 11 (vI y64.1)) 13 (.slice A68 y66.1.length c69)) 15 (.slice A74 y72.1.length c75)) 156 (.bool b103))) (fun tm0 => ?_) (fun key => ?_)
               ·refine oY rfl (yMB rfl) ?_
                obtain ⟨b106,hb107,h⟩:=bOs h
                refine oJ 6 (fun tm0 => (upd (upd (upd (upd (upd (upd (upd tm0 0 (.bool false)) 2 (.pointer (some ⟨b24,0,none⟩))) 9 (.pointer (some ⟨b63,0,none⟩))) 11 (vI y64.1)) 13 (.slice A68 y66.1.length c69)) 15 (.slice A74 y72.1.length c75)) 163 (.bool b106))) (fun tm0 => ?_) (fun key => ?_)
                ·refine oY rfl (yMB rfl) ?_
                 refine oJ 4 (fun tm0 => (upd (upd (upd (upd (upd (upd tm0 0 (.bool false)) 2 (.pointer (some ⟨b24,0,none⟩))) 11 (vI y64.1)) 13 (.slice A68 y66.1.length c69)) 15 (.slice A74 y72.1.length c75)) 168 (.bool (b106 && (y53.1.fA == 17))))) (fun tm0 => ?_) (fun key => ?_)
                 ·refine oY rfl (yMB rfl) ?_
                  refine oJ 3 (fun tm0 => (upd (upd (upd (upd (upd tm0 0 (.bool false)) 2 (.pointer (some ⟨b24,0,none⟩))) 13 (.slice A68 y66.1.length c69)) 15 (.slice A74 y72.1.length c75)) 172 (.bool ((b106 && (y53.1.fA == 17)) && (y64.1 == 16))))) (fun tm0 => ?_) (fun key => ?_)
                  ·refine oY rfl (yMB rfl) ?_
                   obtain ⟨b111,hb112,h⟩:=bOs h
                   refine oJ 4 (fun tm0 => (upd (upd (upd (upd tm0 0 (.bool false)) 2 (.pointer (some ⟨b24,0,none⟩))) 15 (.slice A74 y72.1.length c75)) 177 (.bool b111))) (fun tm0 => ?_) (fun key => ?_)
                   ·refine oY rfl (yMB rfl) ?_
                    obtain ⟨b114,hb115,h⟩:=bOs h
                    refine oJ 4 (fun tm0 => (upd (upd (upd tm0 0 (.bool false)) 2 (.pointer (some ⟨b24,0,none⟩))) 182 (.bool b114))) (fun tm0 => ?_) (fun key => ?_)
                    ·refine oY rfl (yAB rfl) (oN (eT (cS (cR (oY rfl (yN 5 [.slice A16 y14.fB.length c17,.slice A18 y14.fR.length c19] bt rfl rfl rfl) ?_)))))
                     obtain ⟨y116,hy117,h⟩:=bOs h
                     refine oC [.agg #[.slice A16 y14.fB.length c17,.slice A18 y14.fR.length c19]] _ _ _ rfl go_37 rfl (fun W2 hW2 => ph y14 y116 hy117 W2 A16 y14.fB.length c17 rfl ((RdL.row 3 rfl) W2 hW2) A18 y14.fR.length c19 rfl ((RdL.row 4 rfl) W2 hW2)) ?_
                     rintro ⟨⟨A118,n122,c119⟩,⟨A120,n124,c121⟩⟩ ⟨hn123,hn125⟩
                     replace hn123 : n122 = y116.1.fG.length:=hn123; subst hn123
                     replace hn125 : n124 = y116.1.fPrices.length:=hn125; subst hn125
                     try dsimp only [lna,lca,lsz,lss]
                     refine oY rfl (aM rfl) (oY rfl (yE rfl rfl) (oY rfl (yE rfl rfl) ?_))
                     refine aB se rfl (fun b126 => ?_)
                     try dsimp only [lna,lca,lsz,lss]
                     refine cH rfl (yS 17 [.slice A118 y116.1.fG.length c119,vI y116.1.fW,.slice A120 y116.1.fPrices.length c121] sz_71 rfl (nB rfl) rfl rfl rfl) (oY rfl (yAI rfl) (oN (eT (cS (cR (oY rfl (yN 5 [.slice A16 y14.fB.length c17,.slice A18 y14.fR.length c19] bt rfl rfl rfl) ?_))))))
                     obtain ⟨y127,hy128,h⟩:=bOs h
                     refine oC [.agg #[.slice A16 y14.fB.length c17,.slice A18 y14.fR.length c19]] _ _ _ rfl go_27 rfl (fun W2 hW2 => kA y14 y127 hy128 W2 A16 y14.fB.length c17 rfl ((RdL.row 3 rfl) W2 hW2) A18 y14.fR.length c19 rfl ((RdL.row 4 rfl) W2 hW2)) ?_
                     rintro ⟨A129,n131,c130⟩ hn132
                     replace hn132 : n131 = y127.1.length:=hn132; subst hn132
                     try dsimp only [lna,lca,lsz,lss]
                     refine oY rfl (aM rfl) (oY rfl (yE rfl rfl) (oY rfl (yE rfl rfl) (oY rfl (yAS rfl) (oY rfl (yAI rfl) (oN (eT (cS (cR (oY rfl (yN 5 [.slice A16 y14.fB.length c17,.slice A18 y14.fR.length c19] bt rfl rfl rfl) ?_)))))))))
                     obtain ⟨y133,hy134,h⟩:=bOs h
                     refine oC [.agg #[.slice A16 y14.fB.length c17,.slice A18 y14.fR.length c19]] _ _ _ rfl go_29 rfl (fun W2 hW2 => lM y14 y133 hy134 W2 A16 y14.fB.length c17 rfl ((RdL.row 3 rfl) W2 hW2) A18 y14.fR.length c19 rfl ((RdL.row 4 rfl) W2 hW2)) ?_
                     rintro ⟨A135,n137,c136⟩ hn138
                     replace hn138 : n137 = y133.1.length:=hn138; subst hn138
                     try dsimp only [lna,lca,lsz,lss]
                     refine oY rfl (aM rfl) (oY rfl (yE rfl rfl) (oY rfl (yE rfl rfl) (oY rfl (yAS rfl) (oY rfl (yAI rfl) (oN (eT (cS (cR (oY rfl (yN 5 [.slice A16 y14.fB.length c17,.slice A18 y14.fR.length c19] bt rfl rfl rfl) ?_)))))))))
                     refine aF 3 (aq cI [7,8,9]) _ mc_3_3 bJ gO iJ (by decide) (by decide) (by kernel_rfl) (eL ax rfl) rfl (fun b139 => ?_)
                     try dsimp only [lna,lca,lsz,lss]
                     obtain ⟨y140,hy141,h⟩:=bOs h
                     refine oC [.agg #[.slice A16 y14.fB.length c17,.slice A18 y14.fR.length c19],.slice (some ⟨b139,0,none⟩) 3 3] _ _ _ rfl go_31 rfl (fun W2 hW2 => jz y14 [7,8,9] y140 hy141 W2 A16 y14.fB.length c17 rfl ((RdL.row 3 rfl) W2 hW2) A18 y14.fR.length c19 rfl ((RdL.row 4 rfl) W2 hW2) (some ⟨b139,0,none⟩) 3 3 rfl ((RdL.row 20 rfl) W2 hW2)) ?_
                     rintro ⟨A142,n144,c143⟩ hn145
                     replace hn145 : n144 = y140.1.length:=hn145; subst hn145
                     try dsimp only [lna,lca,lsz,lss]
                     refine oY rfl (aM rfl) (oY rfl (yE rfl rfl) (oY rfl (yE rfl rfl) (oY rfl (yAS rfl) (oY rfl (yAI rfl) (oN (eT (cS (cR (oY rfl (yN 5 [.slice A16 y14.fB.length c17,.slice A18 y14.fR.length c19] bt rfl rfl rfl) ?_)))))))))
                     obtain ⟨y146,hy147,h⟩:=bOs h
                     refine oY rfl (yC [.agg #[.slice A16 y14.fB.length c17,.slice A18 y14.fR.length c19],vI 1] go_33 rfl (fun W2 hW2 => md y14 1 y146 hy147 W2 A16 y14.fB.length c17 rfl ((RdL.row 3 rfl) W2 hW2) A18 y14.fR.length c19 rfl ((RdL.row 4 rfl) W2 hW2)) rfl) (oY rfl (aM rfl) (oY rfl (yE rfl rfl) (oY rfl (yE rfl rfl) (oY rfl (yAI rfl) (oY rfl (yAI rfl) (oN (eT (cS (cR (oY rfl (yMI rfl) (oY rfl (dC rfl rfl) (oY rfl (yMB rfl) ?_))))))))))))
                     refine oJ 4 (fun tm0 => (upd (upd (upd (upd (upd (upd (upd (upd (upd (upd (upd (upd (upd tm0 0 (.bool false)) 2 (.pointer (some ⟨b24,0,none⟩))) 17 (.bool b114)) 18 (.pointer (some ⟨b126,0,none⟩))) 20 (.slice A129 y127.1.length c130)) 21 (vI y127.2)) 22 (.slice A135 y133.1.length c136)) 23 (vI y133.2)) 24 (.slice A142 y140.1.length c143)) 25 (vI y140.2)) 26 (vI y146.1)) 27 (vI y146.2)) 215 (.bool ((y116.2 == 0) && (y116.1.fW == 14))))) (fun tm0 => ?_) (fun key => ?_)
                     ·refine oY rfl (yMB rfl) ?_
                      obtain ⟨b150,hb151,h⟩:=bOs h
                      refine oJ 5 (fun tm0 => (upd (upd (upd (upd (upd (upd (upd (upd (upd (upd (upd tm0 0 (.bool false)) 17 (.bool b114)) 20 (.slice A129 y127.1.length c130)) 21 (vI y127.2)) 22 (.slice A135 y133.1.length c136)) 23 (vI y133.2)) 24 (.slice A142 y140.1.length c143)) 25 (vI y140.2)) 26 (vI y146.1)) 27 (vI y146.2)) 221 (.bool b150))) (fun tm0 => ?_) (fun key => ?_)
                      ·refine oY rfl (yMB rfl) ?_
                       refine oJ 3 (fun tm0 => (upd (upd (upd (upd (upd (upd (upd (upd (upd (upd tm0 0 (.bool false)) 17 (.bool b114)) 20 (.slice A129 y127.1.length c130)) 22 (.slice A135 y133.1.length c136)) 23 (vI y133.2)) 24 (.slice A142 y140.1.length c143)) 25 (vI y140.2)) 26 (vI y146.1)) 27 (vI y146.2)) 225 (.bool (b150 && (y127.2 == 0))))) (fun tm0 => ?_) (fun key => ?_)
                       ·refine oY rfl (yMB rfl) ?_
                        obtain ⟨b154,hb155,h⟩:=bOs h
                        refine oJ 4 (fun tm0 => (upd (upd (upd (upd (upd (upd (upd (upd (upd tm0 0 (.bool false)) 17 (.bool b114)) 22 (.slice A135 y133.1.length c136)) 23 (vI y133.2)) 24 (.slice A142 y140.1.length c143)) 25 (vI y140.2)) 26 (vI y146.1)) 27 (vI y146.2)) 230 (.bool b154))) (fun tm0 => ?_) (fun key => ?_)
                        ·refine oY rfl (yMB rfl) ?_
                         refine oJ 3 (fun tm0 => (upd (upd (upd (upd (upd (upd (upd (upd tm0 0 (.bool false)) 17 (.bool b114)) 22 (.slice A135 y133.1.length c136)) 24 (.slice A142 y140.1.length c143)) 25 (vI y140.2)) 26 (vI y146.1)) 27 (vI y146.2)) 234 (.bool (b154 && (y133.2 == 0))))) (fun tm0 => ?_) (fun key => ?_)
                         ·refine oY rfl (yMB rfl) ?_
                          obtain ⟨b158,hb159,h⟩:=bOs h
                          refine oJ 4 (fun tm0 => (upd (upd (upd (upd (upd (upd (upd tm0 0 (.bool false)) 17 (.bool b114)) 24 (.slice A142 y140.1.length c143)) 25 (vI y140.2)) 26 (vI y146.1)) 27 (vI y146.2)) 239 (.bool b158))) (fun tm0 => ?_) (fun key => ?_)
                          ·refine oY rfl (yAB rfl) (oN (eT (cS (cR (oY rfl (yMB rfl) (oY rfl (yMB rfl) ?_))))))
                           refine oJ 2 (fun tm0 => (upd (upd (upd (upd (upd (upd tm0 0 (.bool false)) 24 (.slice A142 y140.1.length c143)) 25 (vI y140.2)) 26 (vI y146.1)) 27 (vI y146.2)) 243 (.bool (b114 && b158)))) (fun tm0 => ?_) (fun key => ?_)
                           ·refine oY rfl (yMB rfl) ?_
                            refine oJ 3 (fun tm0 => (upd (upd (upd (upd (upd tm0 0 (.bool false)) 24 (.slice A142 y140.1.length c143)) 26 (vI y146.1)) 27 (vI y146.2)) 247 (.bool ((b114 && b158) && (y140.2 == 0))))) (fun tm0 => ?_) (fun key => ?_)
                            ·refine oY rfl (yMB rfl) ?_
                             obtain ⟨b163,hb164,h⟩:=bOs h
                             refine oJ 4 (fun tm0 => (upd (upd (upd (upd tm0 0 (.bool false)) 26 (vI y146.1)) 27 (vI y146.2)) 252 (.bool b163))) (fun tm0 => ?_) (fun key => ?_)
                             ·refine oY rfl (yMB rfl) ?_
                              refine oJ 3 (fun tm0 => (upd (upd (upd tm0 0 (.bool false)) 26 (vI y146.1)) 256 (.bool (b163 && (y146.2 == 0))))) (fun tm0 => ?_) (fun key => ?_)
                              ·refine oY rfl (yMB rfl) ?_
                               refine oJ 3 (fun tm0 => (upd (upd tm0 0 (.bool false)) 260 (.bool ((b163 && (y146.2 == 0)) && (y146.1 == 5))))) (fun tm0 => ?_) (fun key => ?_)
                               ·refine oY rfl (yAB rfl) (oN (eT (ao ?_)))
                                obtain rfl:=sI h
                                exact ap (.inl rfl) rfl (rVt (v:=.bool ((b163 && (y146.2 == 0)) && (y146.1 == 5))) rfl) (fun W2 hW2 => ⟨rfl,hW2.none⟩)
                               ·rcases ar (b163 && (y146.2 == 0)) with hp166 | hp166
                                ·refine oY (sT rfl rfl rfl rfl hp166) (yMI rfl) (oY (sT rfl rfl rfl rfl hp166) (dC rfl rfl) (oY rfl (ai (vB hp166) rfl) ?_))
                                 exact key _ _ (keep (keep rfl rfl) (vB (ii hp166)))
                                ·refine oSk (sF rfl rfl rfl rfl hp166) (oSk (sF rfl rfl rfl rfl hp166) (oY rfl (aj (vB hp166) rfl) ?_))
                                 exact key _ _ (keep (keep rfl rfl) (vB (ik hp166)))
                              ·rcases ar b163 with hp165 | hp165
                               ·refine oY (sT rfl rfl rfl rfl hp165) (yMI rfl) (oY (sT rfl rfl rfl rfl hp165) (dC rfl rfl) (oY rfl (ai (vB hp165) rfl) ?_))
                                exact key _ _ (keep (keep (keep rfl rfl) rfl) (vB (ii hp165)))
                               ·refine oSk (sF rfl rfl rfl rfl hp165) (oSk (sF rfl rfl rfl rfl hp165) (oY rfl (aj (vB hp165) rfl) ?_))
                                exact key _ _ (keep (keep (keep rfl rfl) rfl) (vB (ik hp165)))
                             ·clear h; rcases iOs hb164 with ⟨hp162,h⟩ | ⟨hp162,h⟩
                              ·refine oY (sT rfl rfl rfl rfl hp162) (yMS rfl) ?_
                               refine aF 2 (aq cI [8,9]) _ sK bJ gO iJ (by decide) (by decide) (by kernel_rfl) (eL ax rfl) (sT rfl rfl rfl rfl hp162) (fun b167 => ?_)
                               try dsimp only [lna,lca,lsz,lss]
                               obtain ⟨y168,hy169,h⟩:=bOs h
                               refine oY (sT rfl rfl rfl rfl hp162) (yC [.slice A142 y140.1.length c143,.slice (some ⟨b167,0,none⟩) 2 2] pF rfl (fun W2 hW2 => bU y140.1 [8,9] y168 hy169 W2 A142 y140.1.length c143 rfl ((RdL.row 21 rfl) W2 hW2) (some ⟨b167,0,none⟩) 2 2 rfl ((RdL.row 22 rfl) W2 hW2)) rfl) (oY rfl (ai (vB hp162) rfl) ?_)
                               obtain rfl:=sI h
                               refine nh 22 ?_
                               exact key _ _ (kp4 rfl)
                              ·refine oSk (sF rfl rfl rfl rfl hp162) (oSk (sF rfl rfl rfl rfl hp162) (oSk (sF rfl rfl rfl rfl hp162) (oY rfl (aj (vB hp162) rfl) ?_)))
                               obtain rfl:=sI h
                               exact key _ _ (kp4 rfl)
                            ·rcases ar (b114 && b158) with hp161 | hp161
                             ·refine oY (sT rfl rfl rfl rfl hp161) (yMI rfl) (oY (sT rfl rfl rfl rfl hp161) (dC rfl rfl) (oY rfl (ai (vB hp161) rfl) ?_))
                              exact key _ _ (keep (keep (keep (keep (keep rfl rfl) rfl) rfl) rfl) (vB (ii hp161)))
                             ·refine oSk (sF rfl rfl rfl rfl hp161) (oSk (sF rfl rfl rfl rfl hp161) (oY rfl (aj (vB hp161) rfl) ?_))
                              exact key _ _ (keep (keep (keep (keep (keep rfl rfl) rfl) rfl) rfl) (vB (ik hp161)))
                           ·rcases ar b114 with hp160 | hp160
                            ·refine oY (sT rfl rfl rfl rfl hp160) (yMB rfl) (oY rfl (ai (vB hp160) rfl) ?_)
                             exact key _ _ (keep (keep (keep (keep (keep (keep rfl rfl) rfl) rfl) rfl) rfl) (vB (ii hp160)))
                            ·refine oSk (sF rfl rfl rfl rfl hp160) (oY rfl (aj (vB hp160) rfl) ?_)
                             exact key _ _ (keep (keep (keep (keep (keep (keep rfl rfl) rfl) rfl) rfl) rfl) (vB (ik hp160)))
                          ·clear h; rcases iOs hb159 with ⟨hp157,h⟩ | ⟨hp157,h⟩
                           ·refine oY (sT rfl rfl rfl rfl hp157) (yMS rfl) ?_
                            refine aF 1 (aq cI [9]) _ iz bJ gO iJ (by decide) (by decide) (by kernel_rfl) (eL ax rfl) (sT rfl rfl rfl rfl hp157) (fun b170 => ?_)
                            try dsimp only [lna,lca,lsz,lss]
                            obtain ⟨y171,hy172,h⟩:=bOs h
                            refine oY (sT rfl rfl rfl rfl hp157) (yC [.slice A135 y133.1.length c136,.slice (some ⟨b170,0,none⟩) 1 1] pF rfl (fun W2 hW2 => bU y133.1 [9] y171 hy172 W2 A135 y133.1.length c136 rfl ((RdL.row 19 rfl) W2 hW2) (some ⟨b170,0,none⟩) 1 1 rfl ((RdL.row 22 rfl) W2 hW2)) rfl) (oY rfl (ai (vB hp157) rfl) ?_)
                            obtain rfl:=sI h
                            refine nh 22 ?_
                            exact key _ _ (kp4 (kp (kp (kp rfl))))
                           ·refine oSk (sF rfl rfl rfl rfl hp157) (oSk (sF rfl rfl rfl rfl hp157) (oSk (sF rfl rfl rfl rfl hp157) (oY rfl (aj (vB hp157) rfl) ?_)))
                            obtain rfl:=sI h
                            exact key _ _ (kp4 (kp (kp (kp rfl))))
                         ·rcases ar b154 with hp156 | hp156
                          ·refine oY (sT rfl rfl rfl rfl hp156) (yMI rfl) (oY (sT rfl rfl rfl rfl hp156) (dC rfl rfl) (oY rfl (ai (vB hp156) rfl) ?_))
                           exact key _ _ (keep (keep (keep (keep (keep (keep (keep (keep rfl rfl) rfl) rfl) rfl) rfl) rfl) rfl) (vB (ii hp156)))
                          ·refine oSk (sF rfl rfl rfl rfl hp156) (oSk (sF rfl rfl rfl rfl hp156) (oY rfl (aj (vB hp156) rfl) ?_))
                           exact key _ _ (keep (keep (keep (keep (keep (keep (keep (keep rfl rfl) rfl) rfl) rfl) rfl) rfl) rfl) (vB (ik hp156)))
                        ·clear h; rcases iOs hb155 with ⟨hp153,h⟩ | ⟨hp153,h⟩
                         ·refine oY (sT rfl rfl rfl rfl hp153) (yMS rfl) ?_
                          refine aF 2 (aq cI [7,8]) _ sK bJ gO iJ (by decide) (by decide) (by kernel_rfl) (eL ax rfl) (sT rfl rfl rfl rfl hp153) (fun b173 => ?_)
                          try dsimp only [lna,lca,lsz,lss]
                          obtain ⟨y174,hy175,h⟩:=bOs h
                          refine oY (sT rfl rfl rfl rfl hp153) (yC [.slice A129 y127.1.length c130,.slice (some ⟨b173,0,none⟩) 2 2] pF rfl (fun W2 hW2 => bU y127.1 [7,8] y174 hy175 W2 A129 y127.1.length c130 rfl ((RdL.row 18 rfl) W2 hW2) (some ⟨b173,0,none⟩) 2 2 rfl ((RdL.row 22 rfl) W2 hW2)) rfl) (oY rfl (ai (vB hp153) rfl) ?_)
                          obtain rfl:=sI h
                          refine nh 22 ?_
                          exact key _ _ (kp4 (kp4 (kp rfl)))
                         ·refine oSk (sF rfl rfl rfl rfl hp153) (oSk (sF rfl rfl rfl rfl hp153) (oSk (sF rfl rfl rfl rfl hp153) (oY rfl (aj (vB hp153) rfl) ?_)))
                          obtain rfl:=sI h
                          exact key _ _ (kp4 (kp4 (kp rfl)))
                       ·rcases ar b150 with hp152 | hp152
                        ·refine oY (sT rfl rfl rfl rfl hp152) (yMI rfl) (oY (sT rfl rfl rfl rfl hp152) (dC rfl rfl) (oY rfl (ai (vB hp152) rfl) ?_))
                         exact key _ _ (keep (keep (keep (keep (keep (keep (keep (keep (keep (keep rfl rfl) rfl) rfl) rfl) rfl) rfl) rfl) rfl) rfl) (vB (ii hp152)))
                        ·refine oSk (sF rfl rfl rfl rfl hp152) (oSk (sF rfl rfl rfl rfl hp152) (oY rfl (aj (vB hp152) rfl) ?_))
                         exact key _ _ (keep (keep (keep (keep (keep (keep (keep (keep (keep (keep rfl rfl) rfl) rfl) rfl) rfl) rfl) rfl) rfl) rfl) (vB (ik hp152)))
                      ·clear h; rcases iOs hb151 with ⟨hp149,h⟩ | ⟨hp149,h⟩
                       ·refine oY (sT rfl rfl rfl rfl hp149) (yN 5 [.slice A16 y14.fB.length c17,.slice A18 y14.fR.length c19] bt rfl rfl rfl) (oY (sT rfl rfl rfl rfl hp149) (yN 17 [.slice A118 y116.1.fG.length c119,vI y116.1.fW,.slice A120 y116.1.fPrices.length c121] sR rfl rfl rfl) ?_)
                        obtain ⟨y176,hy177,h⟩:=bOs h
                        refine oY (sT rfl rfl rfl rfl hp149) (yC [.agg #[.slice A16 y14.fB.length c17,.slice A18 y14.fR.length c19],.agg #[.slice A118 y116.1.fG.length c119,vI y116.1.fW,.slice A120 y116.1.fPrices.length c121]] go_44 rfl (fun W2 hW2 => kW y14 y116.1 y176 hy177 W2 A16 y14.fB.length c17 rfl ((RdL.row 3 rfl) W2 hW2) A18 y14.fR.length c19 rfl ((RdL.row 4 rfl) W2 hW2) A118 y116.1.fG.length c119 rfl ((RdL.row 15 rfl) W2 hW2) A120 y116.1.fPrices.length c121 rfl ((RdL.row 16 rfl) W2 hW2)) rfl) (oY (sT rfl rfl rfl rfl hp149) (dC rfl rfl) (oY rfl (ai (vB hp149) rfl) ?_))
                        obtain rfl:=sI h
                        exact key _ _ (kp4 (kp4 (kp (kp (kp rfl)))))
                       ·refine oSk (sF rfl rfl rfl rfl hp149) (oSk (sF rfl rfl rfl rfl hp149) (oSk (sF rfl rfl rfl rfl hp149) (oSk (sF rfl rfl rfl rfl hp149) (oY rfl (aj (vB hp149) rfl) ?_))))
                        obtain rfl:=sI h
                        exact key _ _ (kp4 (kp4 (kp (kp (kp rfl)))))
                     ·rcases ar (y116.2 == 0) with hp148 | hp148
                      ·refine oY (sT rfl rfl rfl rfl hp148) (yFA pr rfl) (oY (sT rfl rfl rfl rfl hp148) (yL 17 bg rfl rfl rfl) (oY (sT rfl rfl rfl rfl hp148) (dC rfl rfl) (oY rfl (ai (vB hp148) rfl) ?_)))
                       exact key _ _ (keep (keep (keep (keep (keep (keep (keep (keep (keep (keep (keep (keep (keep rfl rfl) rfl) rfl) rfl) rfl) rfl) rfl) rfl) rfl) rfl) rfl) rfl) (vB (ii hp148)))
                      ·refine oSk (sF rfl rfl rfl rfl hp148) (oSk (sF rfl rfl rfl rfl hp148) (oSk (sF rfl rfl rfl rfl hp148) (oY rfl (aj (vB hp148) rfl) ?_)))
                       exact key _ _ (keep (keep (keep (keep (keep (keep (keep (keep (keep (keep (keep (keep (keep rfl rfl) rfl) rfl) rfl) rfl) rfl) rfl) rfl) rfl) rfl) rfl) rfl) (vB (ik hp148)))
                    ·clear h; rcases iOs hb115 with ⟨hp113,h⟩ | ⟨hp113,h⟩
                     ·refine oY (sT rfl rfl rfl rfl hp113) (yMS rfl) ?_
                      refine aF 1 (aq cI [3]) _ iz bJ gO iJ (by decide) (by decide) (by kernel_rfl) (eL ax rfl) (sT rfl rfl rfl rfl hp113) (fun b178 => ?_)
                      try dsimp only [lna,lca,lsz,lss]
                      obtain ⟨y179,hy180,h⟩:=bOs h
                      refine oY (sT rfl rfl rfl rfl hp113) (yC [.slice A74 y72.1.length c75,.slice (some ⟨b178,0,none⟩) 1 1] pF rfl (fun W2 hW2 => bU y72.1 [3] y179 hy180 W2 A74 y72.1.length c75 rfl ((RdL.row 14 rfl) W2 hW2) (some ⟨b178,0,none⟩) 1 1 rfl ((RdL.row 15 rfl) W2 hW2)) rfl) (oY rfl (ai (vB hp113) rfl) ?_)
                      obtain rfl:=sI h
                      refine nh 15 ?_
                      exact key _ _ (kp (kp (kp rfl)))
                     ·refine oSk (sF rfl rfl rfl rfl hp113) (oSk (sF rfl rfl rfl rfl hp113) (oSk (sF rfl rfl rfl rfl hp113) (oY rfl (aj (vB hp113) rfl) ?_)))
                      obtain rfl:=sI h
                      exact key _ _ (kp (kp (kp rfl)))
                   ·clear h; rcases iOs hb112 with ⟨hp110,h⟩ | ⟨hp110,h⟩
                    ·refine oY (sT rfl rfl rfl rfl hp110) (yMS rfl) ?_
                     refine aF 2 (aq cI [1,2]) _ sK bJ gO iJ (by decide) (by decide) (by kernel_rfl) (eL ax rfl) (sT rfl rfl rfl rfl hp110) (fun b181 => ?_)
                     try dsimp only [lna,lca,lsz,lss]
                     obtain ⟨y182,hy183,h⟩:=bOs h
                     refine oY (sT rfl rfl rfl rfl hp110) (yC [.slice A68 y66.1.length c69,.slice (some ⟨b181,0,none⟩) 2 2] pF rfl (fun W2 hW2 => bU y66.1 [1,2] y182 hy183 W2 A68 y66.1.length c69 rfl ((RdL.row 13 rfl) W2 hW2) (some ⟨b181,0,none⟩) 2 2 rfl ((RdL.row 15 rfl) W2 hW2)) rfl) (oY rfl (ai (vB hp110) rfl) ?_)
                     obtain rfl:=sI h
                     refine nh 15 ?_
                     exact key _ _ (kp4 rfl)
                    ·refine oSk (sF rfl rfl rfl rfl hp110) (oSk (sF rfl rfl rfl rfl hp110) (oSk (sF rfl rfl rfl rfl hp110) (oY rfl (aj (vB hp110) rfl) ?_)))
                     obtain rfl:=sI h
                     exact key _ _ (kp4 rfl)
                  ·rcases ar (b106 && (y53.1.fA == 17)) with hp109 | hp109
                   ·refine oY (sT rfl rfl rfl rfl hp109) (yMI rfl) (oY (sT rfl rfl rfl rfl hp109) (dC rfl rfl) (oY rfl (ai (vB hp109) rfl) ?_))
                    exact key _ _ (keep (keep (keep (keep (keep rfl rfl) rfl) rfl) rfl) (vB (ii hp109)))
                   ·refine oSk (sF rfl rfl rfl rfl hp109) (oSk (sF rfl rfl rfl rfl hp109) (oY rfl (aj (vB hp109) rfl) ?_))
                    exact key _ _ (keep (keep (keep (keep (keep rfl rfl) rfl) rfl) rfl) (vB (ik hp109)))
                 ·rcases ar b106 with hp108 | hp108
                  ·refine oY (sT rfl rfl rfl rfl hp108) (yFA m7 rfl) (oY (sT rfl rfl rfl rfl hp108) (yL 12 bg rfl rfl rfl) (oY (sT rfl rfl rfl rfl hp108) (dC rfl rfl) (oY rfl (ai (vB hp108) rfl) ?_)))
                   exact key _ _ (keep (keep (keep (keep (keep (keep rfl rfl) rfl) rfl) rfl) rfl) (vB (ii hp108)))
                  ·refine oSk (sF rfl rfl rfl rfl hp108) (oSk (sF rfl rfl rfl rfl hp108) (oSk (sF rfl rfl rfl rfl hp108) (oY rfl (aj (vB hp108) rfl) ?_)))
                   exact key _ _ (keep (keep (keep (keep (keep (keep rfl rfl) rfl) rfl) rfl) rfl) (vB (ik hp108)))
                ·clear h; rcases iOs hb107 with ⟨hp105,h⟩ | ⟨hp105,h⟩
                 ·refine oY (sT rfl rfl rfl rfl hp105) (yMS rfl) ?_
                  obtain ⟨hg184,h⟩:=gOs h
                  refine oY (sT rfl rfl rfl rfl hp105) (yI rj (by decide) hg184.1 hg184.2 (RdL.row 9 rfl) (eL be (NestP.hn hP49 rfl)) rfl rfl) ?_
                  refine oY (sT rfl rfl rfl rfl hp105) (yFR (A:=A45) (j:=(Int.toNat 2 * 3)) qK rfl) (oY (sT rfl rfl rfl rfl hp105) (yR (A:=A45) (j:=((Int.toNat 2 * 3) + 2)) (v:=vI ((rdL y41.1 2).fToll)) bg (RdL.row 9 rfl) rfl (eG be hg184.1 (aA hg184.2 (NestP.hn hP49 rfl)) (congrArg (fun z : TJ => some (Value.int .i64 z.fToll)) (NestP.snd hP49 2)))) (oY (sT rfl rfl rfl rfl hp105) (dC rfl rfl) (oY rfl (ai (vB hp105) rfl) ?_)))
                  obtain rfl:=sI h
                  exact key _ _ (kp4 (kp (kp (kp rfl))))
                 ·refine oSk (sF rfl rfl rfl rfl hp105) (oSk (sF rfl rfl rfl rfl hp105) (oSk (sF rfl rfl rfl rfl hp105) (oSk (sF rfl rfl rfl rfl hp105) (oSk (sF rfl rfl rfl rfl hp105) (oY rfl (aj (vB hp105) rfl) ?_)))))
                  obtain rfl:=sI h
                  exact key _ _ (kp4 (kp (kp (kp rfl))))
               ·clear h; rcases iOs hb104 with ⟨hp102,h⟩ | ⟨hp102,h⟩
                ·refine oY (sT rfl rfl rfl rfl hp102) (yMS rfl) ?_
                 obtain ⟨hg185,h⟩:=gOs h
                 refine oY (sT rfl rfl rfl rfl hp102) (yI rj (by decide) hg185.1 hg185.2 (RdL.row 9 rfl) (eL be (NestP.hn hP49 rfl)) rfl rfl) ?_
                 refine oY (sT rfl rfl rfl rfl hp102) (yFR (A:=A45) (j:=(Int.toNat 1 * 3)) m7 rfl) (oY (sT rfl rfl rfl rfl hp102) (yR (A:=A45) (j:=((Int.toNat 1 * 3) + 1)) (v:=vI ((rdL y41.1 1).fA)) bg (RdL.row 9 rfl) rfl (eG be hg185.1 (aA hg185.2 (NestP.hn hP49 rfl)) (congrArg (fun z : TJ => some (Value.int .i64 z.fA)) (NestP.snd hP49 1)))) (oY (sT rfl rfl rfl rfl hp102) (dC rfl rfl) (oY rfl (ai (vB hp102) rfl) ?_)))
                 obtain rfl:=sI h
                 exact key _ _ (kp4 (kp4 rfl))
                ·refine oSk (sF rfl rfl rfl rfl hp102) (oSk (sF rfl rfl rfl rfl hp102) (oSk (sF rfl rfl rfl rfl hp102) (oSk (sF rfl rfl rfl rfl hp102) (oSk (sF rfl rfl rfl rfl hp102) (oY rfl (aj (vB hp102) rfl) ?_)))))
                 obtain rfl:=sI h
                 exact key _ _ (kp4 (kp4 rfl))
              ·clear h; rcases iOs hb101 with ⟨hp99,h⟩ | ⟨hp99,h⟩
               ·refine oY (sT rfl rfl rfl rfl hp99) (yMS rfl) ?_
                obtain ⟨hg186,h⟩:=gOs h
                refine oY (sT rfl rfl rfl rfl hp99) (yI rj (by decide) hg186.1 hg186.2 (RdL.row 9 rfl) (eL be (NestP.hn hP49 rfl)) rfl rfl) ?_
                refine oY (sT rfl rfl rfl rfl hp99) (yFR (A:=A45) (j:=(Int.toNat 0 * 3)) qK rfl) (oY (sT rfl rfl rfl rfl hp99) (yR (A:=A45) (j:=((Int.toNat 0 * 3) + 2)) (v:=vI ((rdL y41.1 0).fToll)) bg (RdL.row 9 rfl) rfl (eG be hg186.1 (aA hg186.2 (NestP.hn hP49 rfl)) (congrArg (fun z : TJ => some (Value.int .i64 z.fToll)) (NestP.snd hP49 0)))) (oY (sT rfl rfl rfl rfl hp99) (dC rfl rfl) (oY rfl (ai (vB hp99) rfl) ?_)))
                obtain rfl:=sI h
                exact key _ _ (kp4 (kp4 rfl))
               ·refine oSk (sF rfl rfl rfl rfl hp99) (oSk (sF rfl rfl rfl rfl hp99) (oSk (sF rfl rfl rfl rfl hp99) (oSk (sF rfl rfl rfl rfl hp99) (oSk (sF rfl rfl rfl rfl hp99) (oY rfl (aj (vB hp99) rfl) ?_)))))
                obtain rfl:=sI h
                exact key _ _ (kp4 (kp4 rfl))
             ·clear h; rcases iOs hb98 with ⟨hp96,h⟩ | ⟨hp96,h⟩
              ·refine oY (sT rfl rfl rfl rfl hp96) (yFA kQ rfl) (oY (sT rfl rfl rfl rfl hp96) (yL 8 rR rfl rfl rfl) ?_)
               obtain ⟨hg187,h⟩:=gOs h
               refine oY (sT rfl rfl rfl rfl hp96) (yI sl_85 (by decide) hg187.1 hg187.2 (RdL.row 6 rfl) (eL bG (NestP.hn hP36 rfl)) rfl rfl) ?_
               refine oY (sT rfl rfl rfl rfl hp96) (yR (A:=A32) (j:=(Int.toNat 2 * 1)) (v:=.slice ((rdL ys37 2).1.1) ((rdL y28.1.fH 2).length) ((rdL ys37 2).1.2.2)) nA (RdL.row 6 rfl) rfl (aL bG hg187.1 (aA hg187.2 (NestP.hn hP36 rfl)) (congrArg (fun n : Nat => some (Value.slice (rdL ys37 2).1.1 n (rdL ys37 2).1.2.2)) (NestP.len hP36 hg187.1 (aA hg187.2 rfl))))) ?_
               obtain ⟨hg188,h⟩:=gOs h
               refine oY (sT rfl rfl rfl rfl hp96) (yI cO (by decide) hg188.1 hg188.2 (NestL.rd (PvL.nestL hP36 hV39 (fun W2 hW2 => ⟨hW2.below,trivial,hW2.mem (i:=7) rfl⟩)) hg187.1 (aA hg187.2 rfl)) (eL ax rfl) rfl rfl) ?_
               refine oY (sT rfl rfl rfl rfl hp96) (yR (A:=((rdL ys37 2).1.1)) (j:=(Int.toNat 6 * 1)) (v:=vI (rdL (rdL y28.1.fH 2) 6)) bg (NestL.rd (PvL.nestL hP36 hV39 (fun W2 hW2 => ⟨hW2.below,trivial,hW2.mem (i:=7) rfl⟩)) hg187.1 (aA hg187.2 rfl)) rfl (aL ax hg188.1 (aA hg188.2 rfl) rfl)) (oY (sT rfl rfl rfl rfl hp96) (dC rfl rfl) (oY rfl (ai (vB hp96) rfl) ?_))
               obtain rfl:=sI h
               exact key _ _ (kp4 (kp4 rfl))
              ·refine oSk (sF rfl rfl rfl rfl hp96) (oSk (sF rfl rfl rfl rfl hp96) (oSk (sF rfl rfl rfl rfl hp96) (oSk (sF rfl rfl rfl rfl hp96) (oSk (sF rfl rfl rfl rfl hp96) (oSk (sF rfl rfl rfl rfl hp96) (oSk (sF rfl rfl rfl rfl hp96) (oY rfl (aj (vB hp96) rfl) ?_)))))))
               obtain rfl:=sI h
               exact key _ _ (kp4 (kp4 rfl))
            ·clear h; rcases iOs hb95 with ⟨hp93,h⟩ | ⟨hp93,h⟩
             ·refine oY (sT rfl rfl rfl rfl hp93) (yFA kQ rfl) (oY (sT rfl rfl rfl rfl hp93) (yL 8 rR rfl rfl rfl) ?_)
              obtain ⟨hg189,h⟩:=gOs h
              refine oY (sT rfl rfl rfl rfl hp93) (yI sl_85 (by decide) hg189.1 hg189.2 (RdL.row 6 rfl) (eL bG (NestP.hn hP36 rfl)) rfl rfl) ?_
              refine oY (sT rfl rfl rfl rfl hp93) (yR (A:=A32) (j:=(Int.toNat 2 * 1)) (v:=.slice ((rdL ys37 2).1.1) ((rdL y28.1.fH 2).length) ((rdL ys37 2).1.2.2)) nA (RdL.row 6 rfl) rfl (aL bG hg189.1 (aA hg189.2 (NestP.hn hP36 rfl)) (congrArg (fun n : Nat => some (Value.slice (rdL ys37 2).1.1 n (rdL ys37 2).1.2.2)) (NestP.len hP36 hg189.1 (aA hg189.2 rfl))))) ?_
              obtain ⟨hg190,h⟩:=gOs h
              refine oY (sT rfl rfl rfl rfl hp93) (yI cO (by decide) hg190.1 hg190.2 (NestL.rd (PvL.nestL hP36 hV39 (fun W2 hW2 => ⟨hW2.below,trivial,hW2.mem (i:=7) rfl⟩)) hg189.1 (aA hg189.2 rfl)) (eL ax rfl) rfl rfl) ?_
              refine oY (sT rfl rfl rfl rfl hp93) (yR (A:=((rdL ys37 2).1.1)) (j:=(Int.toNat 2 * 1)) (v:=vI (rdL (rdL y28.1.fH 2) 2)) bg (NestL.rd (PvL.nestL hP36 hV39 (fun W2 hW2 => ⟨hW2.below,trivial,hW2.mem (i:=7) rfl⟩)) hg189.1 (aA hg189.2 rfl)) rfl (aL ax hg190.1 (aA hg190.2 rfl) rfl)) (oY (sT rfl rfl rfl rfl hp93) (dC rfl rfl) (oY rfl (ai (vB hp93) rfl) ?_))
              obtain rfl:=sI h
              exact key _ _ (kp4 (kp4 (kp rfl)))
             ·refine oSk (sF rfl rfl rfl rfl hp93) (oSk (sF rfl rfl rfl rfl hp93) (oSk (sF rfl rfl rfl rfl hp93) (oSk (sF rfl rfl rfl rfl hp93) (oSk (sF rfl rfl rfl rfl hp93) (oSk (sF rfl rfl rfl rfl hp93) (oSk (sF rfl rfl rfl rfl hp93) (oY rfl (aj (vB hp93) rfl) ?_)))))))
              obtain rfl:=sI h
              exact key _ _ (kp4 (kp4 (kp rfl)))
          ·rcases ar b87 with hp89 | hp89
           ·refine oSk (sF rfl rfl rfl rfl hp89) (oSk (sF rfl rfl rfl rfl hp89) (oSk (sF rfl rfl rfl rfl hp89) (oY rfl (ai (vB hp89) rfl) ?_)))
            exact key _ _ (keep (keep (keep (keep (keep (keep (keep (keep (keep rfl rfl) rfl) rfl) rfl) rfl) rfl) rfl) rfl) (vB (jG hp89)))
           ·refine oY (sT rfl rfl rfl rfl hp89) (yMS rfl) (oY (sT rfl rfl rfl rfl hp89) (bo (us:=[]) qT rfl) (oY (sT rfl rfl rfl rfl hp89) (em rfl rfl) (oY rfl (aj (vB hp89) rfl) ?_)))
            exact key _ _ (keep (keep (keep (keep (keep (keep (keep (keep (keep rfl rfl) rfl) rfl) rfl) rfl) rfl) rfl) rfl) (vB (jD hp89)))
         ·clear h; rcases iOs hb88 with ⟨hp86,h⟩ | ⟨hp86,h⟩
          ·refine oSk (sF rfl rfl rfl rfl hp86) (oSk (sF rfl rfl rfl rfl hp86) (oSk (sF rfl rfl rfl rfl hp86) (oSk (sF rfl rfl rfl rfl hp86) (oSk (sF rfl rfl rfl rfl hp86) (oSk (sF rfl rfl rfl rfl hp86) (oY rfl (ai (vB hp86) rfl) ?_))))))
           obtain rfl:=sI h
           exact key _ _ (kp4 (kp4 (kp rfl)))
          ·refine oY (sT rfl rfl rfl rfl hp86) (yFA kQ rfl) (oY (sT rfl rfl rfl rfl hp86) (yL 8 rR rfl rfl rfl) ?_)
           obtain ⟨hg191,h⟩:=gOs h
           refine oY (sT rfl rfl rfl rfl hp86) (yI sl_85 (by decide) hg191.1 hg191.2 (RdL.row 6 rfl) (eL bG (NestP.hn hP36 rfl)) rfl rfl) ?_
           refine oY (sT rfl rfl rfl rfl hp86) (yR (A:=A32) (j:=(Int.toNat 2 * 1)) (v:=.slice ((rdL ys37 2).1.1) ((rdL y28.1.fH 2).length) ((rdL ys37 2).1.2.2)) nA (RdL.row 6 rfl) rfl (aL bG hg191.1 (aA hg191.2 (NestP.hn hP36 rfl)) (congrArg (fun n : Nat => some (Value.slice (rdL ys37 2).1.1 n (rdL ys37 2).1.2.2)) (NestP.len hP36 hg191.1 (aA hg191.2 rfl))))) (oY (sT rfl rfl rfl rfl hp86) (bo (us:=[]) bJ rfl) (oY (sT rfl rfl rfl rfl hp86) (em rfl rfl) (oY rfl (aj (vB hp86) rfl) ?_)))
           obtain rfl:=sI h
           exact key _ _ (kp4 (kp4 (kp rfl)))
        ·rcases ar ((((((((y26.2 != 0) || (y28.2 != 0)) || (y41.2 != 0)) || (y53.2 != 0)) || (y64.2 != 0)) || (y66.2 != 0)) || (y72.2 != 0)) || (y26.1 != 21)) with hp85 | hp85
         ·refine oSk (sF rfl rfl rfl rfl hp85) (oSk (sF rfl rfl rfl rfl hp85) (oSk (sF rfl rfl rfl rfl hp85) (oSk (sF rfl rfl rfl rfl hp85) (oY rfl (ai (vB hp85) rfl) ?_))))
          exact key _ _ (keep (keep (keep (keep (keep (keep (keep (keep (keep rfl rfl) rfl) rfl) rfl) rfl) rfl) rfl) rfl) (vB (jG hp85)))
         ·refine oY (sT rfl rfl rfl rfl hp85) (yFA kQ rfl) (oY (sT rfl rfl rfl rfl hp85) (yL 8 rR rfl rfl rfl) (oY (sT rfl rfl rfl rfl hp85) (bo (us:=[]) us_85 rfl) (oY (sT rfl rfl rfl rfl hp85) (em rfl rfl) (oY rfl (aj (vB hp85) rfl) ?_))))
          exact key _ _ (keep (keep (keep (keep (keep (keep (keep (keep (keep rfl rfl) rfl) rfl) rfl) rfl) rfl) rfl) rfl) (vB (jD hp85)))
       ·rcases ar (((((((y26.2 != 0) || (y28.2 != 0)) || (y41.2 != 0)) || (y53.2 != 0)) || (y64.2 != 0)) || (y66.2 != 0)) || (y72.2 != 0)) with hp84 | hp84
        ·refine oSk (sF rfl rfl rfl rfl hp84) (oSk (sF rfl rfl rfl rfl hp84) (oY rfl (ai (vB hp84) rfl) ?_))
         exact key _ _ (keep (keep (keep (keep (keep (keep (keep (keep (keep rfl rfl) rfl) rfl) rfl) rfl) rfl) rfl) rfl) (vB (jG hp84)))
        ·refine oY (sT rfl rfl rfl rfl hp84) (yMI rfl) (oY (sT rfl rfl rfl rfl hp84) (em rfl rfl) (oY rfl (aj (vB hp84) rfl) ?_))
         exact key _ _ (keep (keep (keep (keep (keep (keep (keep (keep (keep rfl rfl) rfl) rfl) rfl) rfl) rfl) rfl) rfl) (vB (jD hp84)))
      ·rcases ar ((((((y26.2 != 0) || (y28.2 != 0)) || (y41.2 != 0)) || (y53.2 != 0)) || (y64.2 != 0)) || (y66.2 != 0)) with hp83 | hp83
       ·refine oSk (sF rfl rfl rfl rfl hp83) (oSk (sF rfl rfl rfl rfl hp83) (oY rfl (ai (vB hp83) rfl) ?_))
        exact key _ _ (keep (keep (keep (keep (keep (keep (keep (keep (keep (keep rfl rfl) rfl) rfl) rfl) rfl) rfl) rfl) rfl) rfl) (vB (jG hp83)))
       ·refine oY (sT rfl rfl rfl rfl hp83) (yMI rfl) (oY (sT rfl rfl rfl rfl hp83) (em rfl rfl) (oY rfl (aj (vB hp83) rfl) ?_))
        exact key _ _ (keep (keep (keep (keep (keep (keep (keep (keep (keep (keep rfl rfl) rfl) rfl) rfl) rfl) rfl) rfl) rfl) rfl) (vB (jD hp83)))
     ·rcases ar (((((y26.2 != 0) || (y28.2 != 0)) || (y41.2 != 0)) || (y53.2 != 0)) || (y64.2 != 0)) with hp82 | hp82
      ·refine oSk (sF rfl rfl rfl rfl hp82) (oSk (sF rfl rfl rfl rfl hp82) (oY rfl (ai (vB hp82) rfl) ?_))
       exact key _ _ (keep (keep (keep (keep (keep (keep (keep (keep (keep (keep (keep rfl rfl) rfl) rfl) rfl) rfl) rfl) rfl) rfl) rfl) rfl) (vB (jG hp82)))
      ·refine oY (sT rfl rfl rfl rfl hp82) (yMI rfl) (oY (sT rfl rfl rfl rfl hp82) (em rfl rfl) (oY rfl (aj (vB hp82) rfl) ?_))
       exact key _ _ (keep (keep (keep (keep (keep (keep (keep (keep (keep (keep (keep rfl rfl) rfl) rfl) rfl) rfl) rfl) rfl) rfl) rfl) rfl) (vB (jD hp82)))
    ·rcases ar ((((y26.2 != 0) || (y28.2 != 0)) || (y41.2 != 0)) || (y53.2 != 0)) with hp81 | hp81
     ·refine oSk (sF rfl rfl rfl rfl hp81) (oSk (sF rfl rfl rfl rfl hp81) (oY rfl (ai (vB hp81) rfl) ?_))
      exact key _ _ (keep (keep (keep (keep (keep (keep (keep (keep (keep (keep (keep (keep rfl rfl) rfl) rfl) rfl) rfl) rfl) rfl) rfl) rfl) rfl) rfl) (vB (jG hp81)))
     ·refine oY (sT rfl rfl rfl rfl hp81) (yMI rfl) (oY (sT rfl rfl rfl rfl hp81) (em rfl rfl) (oY rfl (aj (vB hp81) rfl) ?_))
      exact key _ _ (keep (keep (keep (keep (keep (keep (keep (keep (keep (keep (keep (keep rfl rfl) rfl) rfl) rfl) rfl) rfl) rfl) rfl) rfl) rfl) rfl) (vB (jD hp81)))
   ·rcases ar (((y26.2 != 0) || (y28.2 != 0)) || (y41.2 != 0)) with hp80 | hp80
    ·refine oSk (sF rfl rfl rfl rfl hp80) (oSk (sF rfl rfl rfl rfl hp80) (oY rfl (ai (vB hp80) rfl) ?_))
     exact key _ _ (keep (keep (keep (keep (keep (keep (keep (keep (keep (keep (keep (keep (keep rfl rfl) rfl) rfl) rfl) rfl) rfl) rfl) rfl) rfl) rfl) rfl) rfl) (vB (jG hp80)))
    ·refine oY (sT rfl rfl rfl rfl hp80) (yMI rfl) (oY (sT rfl rfl rfl rfl hp80) (em rfl rfl) (oY rfl (aj (vB hp80) rfl) ?_))
     exact key _ _ (keep (keep (keep (keep (keep (keep (keep (keep (keep (keep (keep (keep (keep rfl rfl) rfl) rfl) rfl) rfl) rfl) rfl) rfl) rfl) rfl) rfl) rfl) (vB (jD hp80)))
  ·rcases ar ((y26.2 != 0) || (y28.2 != 0)) with hp79 | hp79
   ·refine oSk (sF rfl rfl rfl rfl hp79) (oSk (sF rfl rfl rfl rfl hp79) (oY rfl (ai (vB hp79) rfl) ?_))
    exact key _ _ (keep (keep (keep (keep (keep (keep (keep (keep (keep (keep (keep (keep (keep (keep rfl rfl) rfl) rfl) rfl) rfl) rfl) rfl) rfl) rfl) rfl) rfl) rfl) rfl) (vB (jG hp79)))
   ·refine oY (sT rfl rfl rfl rfl hp79) (yMI rfl) (oY (sT rfl rfl rfl rfl hp79) (em rfl rfl) (oY rfl (aj (vB hp79) rfl) ?_))
    exact key _ _ (keep (keep (keep (keep (keep (keep (keep (keep (keep (keep (keep (keep (keep (keep rfl rfl) rfl) rfl) rfl) rfl) rfl) rfl) rfl) rfl) rfl) rfl) rfl) rfl) (vB (jD hp79)))
 ·rcases ar (y26.2 != 0) with hp78 | hp78
  ·refine oSk (sF rfl rfl rfl rfl hp78) (oSk (sF rfl rfl rfl rfl hp78) (oY rfl (ai (vB hp78) rfl) ?_))
   exact key _ _ (keep (keep (keep (keep (keep (keep (keep (keep (keep (keep (keep (keep (keep (keep (keep rfl rfl) rfl) rfl) rfl) rfl) rfl) rfl) rfl) rfl) rfl) rfl) rfl) rfl) rfl) (vB (jG hp78)))
  ·refine oY (sT rfl rfl rfl rfl hp78) (yMI rfl) (oY (sT rfl rfl rfl rfl hp78) (em rfl rfl) (oY rfl (aj (vB hp78) rfl) ?_))
   exact key _ _ (keep (keep (keep (keep (keep (keep (keep (keep (keep (keep (keep (keep (keep (keep (keep rfl rfl) rfl) rfl) rfl) rfl) rfl) rfl) rfl) rfl) rfl) rfl) rfl) rfl) rfl) (vB (jD hp78)))
end Go.Proofs.YthndghnkebboaaaGreat
set_option maxHeartbeats 4000000
set_option maxRecDepth 100000
namespace Go.Proofs.YthndghnkebboaaaGreat
open Go.RowKit (Below)
attribute [local irreducible] OX QX CX EX OpY Calls CallsIn
theorem l9 (p0:TY) (res:Bool) (h:fb p0 = some res) (W:World) (Aa:Option Addr) (n0_0 ca : Nat) (hn0_0:n0_0 = p0.fB.length) (hr0_0:Rd W Aa n0_0 ca (aq TBay_cells p0.fB)) (Ab:Option Addr) (n0_1 cb : Nat) (hn0_1:n0_1 = p0.fR.length) (hr0_1:Rd W Ab n0_1 cb (aq TOrder_cells p0.fR)) :
  Calls Tryz.prog 26 [.agg #[.slice Aa n0_0 ca,.slice Ab n0_1 cb]].toArray W fun e W2 => e = .returned (.bool res) ∧ Ext W W2 []:=by
 subst hn0_0
 subst hn0_1
 unfold fb at h
 refine ac (m:=41) Tryz.func26 rfl rfl (nB rfl) (cS (cR ?_))
 refine aX [.slice Aa p0.fB.length ca,.slice Ab p0.fR.length cb] rfl rfl rfl (fun b1 => ?_)
 refine oY rfl (yAB rfl) (oN (eT (cS (cR (oY rfl (yFA cP rfl) (oY rfl (yL 0 gH rfl rfl rfl) (oY rfl (bo (us:=[]) gh rfl) (oY rfl (km rfl rfl) (oY rfl (yMB rfl) ?_)))))))))
 refine oJ 11 (fun tm0 => (upd (upd (upd tm0 1 (.pointer (some ⟨b1,0,none⟩))) 2 (.bool false)) 20 (.bool ((decide ((p0.fB.length:Int) ≤ 9)) || ((decide (24 < (p0.fB.length:Int))) && (decide ((p0.fB.length:Int) ≤ 40))))))) (fun tm0 => ?_) (fun key => ?_)
 ·refine oY rfl (yAB rfl) (oN (eT (cS (cR (oY rfl (yFA bf rfl) (oY rfl (yL 0 dE rfl rfl rfl) (oY rfl (bo (us:=[]) g6 rfl) (oY rfl (km rfl rfl) (oY rfl (yMB rfl) ?_)))))))))
  refine oJ 11 (fun tm0 => (upd (upd (upd tm0 2 (.bool false)) 3 (.bool ((decide ((p0.fB.length:Int) ≤ 9)) || ((decide (24 < (p0.fB.length:Int))) && (decide ((p0.fB.length:Int) ≤ 40)))))) 36 (.bool ((decide ((p0.fR.length:Int) ≤ 9)) || ((decide (24 < (p0.fR.length:Int))) && (decide ((p0.fR.length:Int) ≤ 40))))))) (fun tm0 => ?_) (fun key => ?_)
  ·refine oY rfl (yAB rfl) (oN (eT (cS (cR (oY rfl (yMB rfl) (oY rfl (yMB rfl) ?_))))))
   refine oJ 2 (fun tm0 => (upd (upd tm0 2 (.bool false)) 40 (.bool (((decide ((p0.fB.length:Int) ≤ 9)) || ((decide (24 < (p0.fB.length:Int))) && (decide ((p0.fB.length:Int) ≤ 40)))) && ((decide ((p0.fR.length:Int) ≤ 9)) || ((decide (24 < (p0.fR.length:Int))) && (decide ((p0.fR.length:Int) ≤ 40)))))))) (fun tm0 => ?_) (fun key => ?_)
   ·refine oY rfl (yAB rfl) (oN (eT (ao ?_)))
    obtain rfl:=sI h
    exact ap (.inl rfl) rfl (rVt (v:=.bool (((decide ((p0.fB.length:Int) ≤ 9)) || ((decide (24 < (p0.fB.length:Int))) && (decide ((p0.fB.length:Int) ≤ 40)))) && ((decide ((p0.fR.length:Int) ≤ 9)) || ((decide (24 < (p0.fR.length:Int))) && (decide ((p0.fR.length:Int) ≤ 40)))))) rfl) (fun W2 hW2 => ⟨rfl,hW2.none⟩)
   ·rcases ar ((decide ((p0.fB.length:Int) ≤ 9)) || ((decide (24 < (p0.fB.length:Int))) && (decide ((p0.fB.length:Int) ≤ 40)))) with hp4 | hp4
    ·refine oY (sT rfl rfl rfl rfl hp4) (yMB rfl) (oY rfl (ai (vB hp4) rfl) ?_)
     exact key _ _ (keep (keep rfl rfl) (vB (ii hp4)))
    ·refine oSk (sF rfl rfl rfl rfl hp4) (oY rfl (aj (vB hp4) rfl) ?_)
     exact key _ _ (keep (keep rfl rfl) (vB (ik hp4)))
  ·rcases ar (decide ((p0.fR.length:Int) ≤ 9)) with hp3 | hp3
   ·refine oSk (sF rfl rfl rfl rfl hp3) (oSk (sF rfl rfl rfl rfl hp3) (oSk (sF rfl rfl rfl rfl hp3) (oSk (sF rfl rfl rfl rfl hp3) (oSk (sF rfl rfl rfl rfl hp3) (oSk rfl (oSk rfl (oSk rfl (oSk rfl (oSk (sF rfl rfl rfl rfl hp3) (oY rfl (ai (vB hp3) rfl) ?_))))))))))
    exact key _ _ (keep (keep (keep rfl rfl) rfl) (vB (jG hp3)))
   ·refine oY (sT rfl rfl rfl rfl hp3) (yFA bf rfl) (oY (sT rfl rfl rfl rfl hp3) (yL 0 dE rfl rfl rfl) (oY (sT rfl rfl rfl rfl hp3) (bo (us:=[]) g6 rfl) (oY (sT rfl rfl rfl rfl hp3) (iN rfl rfl) (oY (sT rfl rfl rfl rfl hp3) (yMB rfl) ?_))))
    refine oJ 5 (fun tm0 => (upd (upd (upd (upd tm0 2 (.bool false)) 3 (.bool ((decide ((p0.fB.length:Int) ≤ 9)) || ((decide (24 < (p0.fB.length:Int))) && (decide ((p0.fB.length:Int) ≤ 40)))))) 25 (.bool (decide ((p0.fR.length:Int) ≤ 9)))) 35 (.bool ((decide (24 < (p0.fR.length:Int))) && (decide ((p0.fR.length:Int) ≤ 40)))))) (fun tm0 => ?_) (fun key => ?_)
    ·refine oY rfl (aj (vB hp3) rfl) ?_
     exact key _ _ (keep (keep (keep rfl rfl) rfl) (vB (jD hp3)))
    ·rcases ar (decide (24 < (p0.fR.length:Int))) with hp5 | hp5
     ·refine oY (sT rfl rfl rfl rfl hp5) (yFA bf rfl) (oY (sT rfl rfl rfl rfl hp5) (yL 0 dE rfl rfl rfl) (oY (sT rfl rfl rfl rfl hp5) (bo (us:=[]) g6 rfl) (oY (sT rfl rfl rfl rfl hp5) (km rfl rfl) (oY (sT rfl rfl rfl rfl hp3) (ai (vB hp5) rfl) ?_))))
      exact key _ _ (keep (keep (keep (keep rfl rfl) rfl) rfl) (vB (ii hp5)))
     ·refine oSk (sF rfl rfl rfl rfl hp5) (oSk (sF rfl rfl rfl rfl hp5) (oSk (sF rfl rfl rfl rfl hp5) (oSk (sF rfl rfl rfl rfl hp5) (oY (sT rfl rfl rfl rfl hp3) (aj (vB hp5) rfl) ?_))))
      exact key _ _ (keep (keep (keep (keep rfl rfl) rfl) rfl) (vB (ik hp5)))
 ·rcases ar (decide ((p0.fB.length:Int) ≤ 9)) with hp2 | hp2
  ·refine oSk (sF rfl rfl rfl rfl hp2) (oSk (sF rfl rfl rfl rfl hp2) (oSk (sF rfl rfl rfl rfl hp2) (oSk (sF rfl rfl rfl rfl hp2) (oSk (sF rfl rfl rfl rfl hp2) (oSk rfl (oSk rfl (oSk rfl (oSk rfl (oSk (sF rfl rfl rfl rfl hp2) (oY rfl (ai (vB hp2) rfl) ?_))))))))))
   exact key _ _ (keep (keep (keep rfl rfl) rfl) (vB (jG hp2)))
  ·refine oY (sT rfl rfl rfl rfl hp2) (yFA cP rfl) (oY (sT rfl rfl rfl rfl hp2) (yL 0 gH rfl rfl rfl) (oY (sT rfl rfl rfl rfl hp2) (bo (us:=[]) gh rfl) (oY (sT rfl rfl rfl rfl hp2) (iN rfl rfl) (oY (sT rfl rfl rfl rfl hp2) (yMB rfl) ?_))))
   refine oJ 5 (fun tm0 => (upd (upd (upd (upd tm0 1 (.pointer (some ⟨b1,0,none⟩))) 2 (.bool false)) 9 (.bool (decide ((p0.fB.length:Int) ≤ 9)))) 19 (.bool ((decide (24 < (p0.fB.length:Int))) && (decide ((p0.fB.length:Int) ≤ 40)))))) (fun tm0 => ?_) (fun key => ?_)
   ·refine oY rfl (aj (vB hp2) rfl) ?_
    exact key _ _ (keep (keep (keep rfl rfl) rfl) (vB (jD hp2)))
   ·rcases ar (decide (24 < (p0.fB.length:Int))) with hp6 | hp6
    ·refine oY (sT rfl rfl rfl rfl hp6) (yFA cP rfl) (oY (sT rfl rfl rfl rfl hp6) (yL 0 gH rfl rfl rfl) (oY (sT rfl rfl rfl rfl hp6) (bo (us:=[]) gh rfl) (oY (sT rfl rfl rfl rfl hp6) (km rfl rfl) (oY (sT rfl rfl rfl rfl hp2) (ai (vB hp6) rfl) ?_))))
     exact key _ _ (keep (keep (keep (keep rfl rfl) rfl) rfl) (vB (ii hp6)))
    ·refine oSk (sF rfl rfl rfl rfl hp6) (oSk (sF rfl rfl rfl rfl hp6) (oSk (sF rfl rfl rfl rfl hp6) (oSk (sF rfl rfl rfl rfl hp6) (oY (sT rfl rfl rfl rfl hp2) (aj (vB hp6) rfl) ?_))))
     exact key _ _ (keep (keep (keep (keep rfl rfl) rfl) rfl) (vB (ik hp6)))
end Go.Proofs.YthndghnkebboaaaGreat
set_option maxHeartbeats 4000000
set_option maxRecDepth 100000
namespace Go.Proofs.YthndghnkebboaaaGreat
open Go.RowKit (Below)
attribute [local irreducible] OX QX CX EX OpY Calls CallsIn
theorem ee (p0:TY) (p1:(List Int)) (res:Int) (h:cl p0 p1 = some res) (W:World) (Aa:Option Addr) (n0_0 ca : Nat) (hn0_0:n0_0 = p0.fB.length) (hr0_0:Rd W Aa n0_0 ca (aq TBay_cells p0.fB)) (Ab:Option Addr) (n0_1 cb : Nat) (hn0_1:n0_1 = p0.fR.length) (hr0_1:Rd W Ab n0_1 cb (aq TOrder_cells p0.fR)) (Ac:Option Addr) (n1_0 cc : Nat) (hn1_0:n1_0 = p1.length) (hr1_0:Rd W Ac n1_0 cc (aq cI p1)) :
  Calls Tryz.prog 86 [.agg #[.slice Aa n0_0 ca,.slice Ab n0_1 cb],.slice Ac n1_0 cc].toArray W fun e W2 => e = .returned (vI res) ∧ Ext W W2 []:=by
 subst hn0_0
 subst hn0_1
 subst hn1_0
 unfold cl at h
 refine ac (m:=25) Tryz.func86 rfl rfl (nB rfl) (cS (cR ?_))
 refine aX [.slice Aa p0.fB.length ca,.slice Ab p0.fR.length cb] rfl rfl rfl (fun b1 => ?_)
 refine oY rfl (yAI rfl) (oN (eT (cS (cR (oY rfl (yAI rfl) (oN (eT (cS (cS (cR (oY rfl (yAI rfl) (oN (eT (ah ?_))))))))))))))
 obtain ⟨u4,hl8,h⟩:=bOs h
 refine a6 (fun (s:(Int × Int)) L tm => ∃ (tm0:Nat → Value),L = [ak b1 53 [.slice Aa p0.fB.length ca,.slice Ab p0.fR.length cb]] ∧ tm = (upd (upd (upd (upd (upd tm0 1 (.slice Ac p1.length cc)) 2 (.pointer (some ⟨b1,0,none⟩))) 4 (vI 0)) 5 (vI s.1)) 6 (vI s.2))) 0 hl8 ⟨_,rfl,(kp4 (kp rfl))⟩ ?_ ?_
 ·rintro s3 L tm st ⟨tm0_s3,rfl,rfl⟩ h
  unfold eg at h
  refine cS (cS (cR (oY rfl (yMI rfl) (oY rfl (yMS rfl) (oY rfl (bo (us:=[]) bJ rfl) (oY rfl (bq rfl rfl) (oN (eT ?_))))))))
  rcases iOs h with ⟨hp5,h⟩ | ⟨hp5,h⟩
  ·refine cT (vB hp5) (cK (eT (cS (ah ?_))))
   refine bN 12 cQ (by kernel_rfl) (by kernel_rfl) ?_
   refine qY rfl (yMI rfl) (qY rfl (yFA bf rfl) (qY rfl (yL 0 dE rfl rfl rfl) (qY rfl (yMS rfl) (qY rfl (yMI rfl) ?_))))
   obtain ⟨hg6,h⟩:=gOs h
   refine qY rfl (yI cO (by decide) hg6.1 hg6.2 (RdL.arg hr1_0) (eL ax rfl) rfl rfl) ?_
   refine qY rfl (yR (A:=Ac) (j:=(Int.toNat s3.2 * 1)) (v:=vI (rdL p1 s3.2)) bg (RdL.arg hr1_0) rfl (aL ax hg6.1 (aA hg6.2 rfl) rfl)) ?_
   obtain ⟨hg7,h⟩:=gOs h
   refine qY rfl (yI gE (by decide) hg7.1 hg7.2 (RdL.arg hr0_1) (eL ad rfl) rfl rfl) ?_
   refine qY rfl (yFR (A:=Ab) (j:=(Int.toNat (rdL p1 s3.2) * 5)) f7 rfl) (qY rfl (yR (A:=Ab) (j:=((Int.toNat (rdL p1 s3.2) * 5) + 4)) (v:=vI ((rdL p0.fR (rdL p1 s3.2)).fW)) bg (RdL.arg hr0_1) rfl (eG ad hg7.1 (aA hg7.2 rfl) rfl)) (qY rfl (aY rfl rfl) (qY rfl (yAI rfl) (dr (oN (au (eT (cR (oY rfl (yMI rfl) (oY rfl (aY rfl rfl) (oY rfl (yAI rfl) (oN ?_))))))))))))
   obtain rfl:=sI h
   exact eN ⟨_,rfl,(kp4 (kp rfl))⟩
  ·refine cF (vB hp5) (aG (ag ?_))
   obtain rfl:=sI h
   exact ay ⟨rfl,_,rfl,(kp4 (kp rfl))⟩
 ·intro e L tm hJ
  obtain ⟨rfl,tm0_u4,rfl,rfl⟩:=hJ
  refine ⟨(by intro hc; cases hc),?_⟩
  refine ab (eT (cS (cR (oY rfl (yMI rfl) (oY rfl (yAI rfl) (oN (eT (ao ?_))))))))
  obtain rfl:=sI h
  exact ap (.inl rfl) rfl (rVt (v:=vI u4.1) rfl) (fun W2 hW2 => ⟨rfl,hW2.none⟩)
theorem pf (p0:Int) (res:(List Int)) (h:iT p0 = some res) (W:World)  :
  Calls Tryz.prog 132 [vI p0].toArray W fun e W2 => ∃ x : Option Addr × Nat × Nat,x.2.1 = res.length ∧ e = .returned (.slice x.1 x.2.1 x.2.2) ∧ Ext W W2 [aJ x.1 x.2.2 3 1 x.2.1 (aq cI res)]:=by
 unfold iT at h
 refine ac (m:=16) Tryz.func132 rfl rfl (nB rfl) (cS (cR (oY rfl (yAS rfl) (oN (eT (cS (cR (oY rfl (yMI rfl) ?_))))))))
 obtain ⟨hg2,h⟩:=gOs h
 refine qd (aq cI (List.replicate (Int.toNat p0) 0)) bJ gO iJ hg2.1 hg2.2 rfl (ou _ _ _ rfl rfl) rfl (fun b1 => ?_)
 refine oY rfl (yAS rfl) (oN (eT (cS (cS (cR (oY rfl (yAI rfl) (oN (eT (ah ?_)))))))))
 obtain ⟨u6,hl9,h⟩:=bOs h
 refine a6 (fun (s:(Int × (List Int))) L tm => ∃ (tm0:Nat → Value),Int.toNat p0 = s.2.length ∧ L = [aJ (some ⟨b1,0,none⟩) (Int.toNat p0) 3 1 (Int.toNat p0) (aq cI s.2)] ∧ tm = (upd (upd (upd (upd tm0 0 (vI p0)) 2 (.slice none 0 0)) 3 (.slice (some ⟨b1,0,none⟩) (Int.toNat p0) (Int.toNat p0))) 4 (vI s.1))) 0 hl9 ⟨_,(List.length_replicate).symm,rfl,(kp4 rfl)⟩ ?_ ?_
 ·rintro s5 L tm st ⟨tm0_s5,hn0_s5,rfl,rfl⟩ h
  unfold eW at h
  refine cS (cS (cR (oY rfl (yMI rfl) (oY rfl (yMI rfl) (oY rfl (bq rfl rfl) (oN (eT ?_)))))))
  rcases iOs h with ⟨hp7,h⟩ | ⟨hp7,h⟩
  ·refine cT (vB hp7) (cK (eT (cS (ah (cR (oY rfl (yMS rfl) (oY rfl (yMI rfl) ?_)))))))
   obtain ⟨hg8,h⟩:=gOs h
   refine oY rfl (yI cO (by decide) hg8.1 hg8.2 (RdL.row 0 rfl) (eL ax hn0_s5) rfl rfl) ?_
   refine cH rfl (ff 0 (xs:=s5.2) ax (-1) py rfl hg8.1 (aA hg8.2 hn0_s5) rfl rfl rfl rfl) (oN (au (eT (cR (oY rfl (yMI rfl) (oY rfl (aY rfl rfl) (oY rfl (yAI rfl) (oN ?_))))))))
   obtain rfl:=sI h
   exact eN ⟨_,(ec hn0_s5),rfl,(kp4 rfl)⟩
  ·refine cF (vB hp7) (aG (ag ?_))
   obtain rfl:=sI h
   exact ay ⟨rfl,_,hn0_s5,rfl,(kp4 rfl)⟩
 ·intro e L tm hJ
  obtain ⟨rfl,tm0_u6,hn0_u6,rfl,rfl⟩:=hJ
  refine ⟨(by intro hc; cases hc),?_⟩
  refine ab (eT (cS (cR (oY rfl (yMS rfl) (oY rfl (yAS rfl) (oN (eT (ao ?_))))))))
  obtain rfl:=sI h
  exact ap (.inl rfl) rfl (rVt (v:=.slice (some ⟨b1,0,none⟩) (Int.toNat p0) (Int.toNat p0)) rfl) (fun W2 hW2 => ⟨((some ⟨b1,0,none⟩),Int.toNat p0,Int.toNat p0),hn0_u6,rfl,(hW2.pick 0 rfl)⟩)
theorem nt : ∀ (fuel:Nat) (p0:TY) (p1:Int) (p2:(List Int)) (p3:(List Bool)) (res:(Bool × (List Int) × (List Bool))) (h:cY fuel p0 p1 p2 p3 = some res) (W:World) (w0:World) (R:Res) (A2_0:Option Addr) (n2_0 c2_0 : Nat) (hn2_0:n2_0 = p2.length) (A3_0:Option Addr) (n3_0 c3_0 : Nat) (hn3_0:n3_0 = p3.length) (Aa:Option Addr) (n0_0 ca : Nat) (hn0_0:n0_0 = p0.fB.length) (hr0_0:∀ W2,Below w0.heap.size w0 W2 → R.holds W2 → Rd W2 Aa n0_0 ca (aq TBay_cells p0.fB)) (Ab:Option Addr) (n0_1 cb : Nat) (hn0_1:n0_1 = p0.fR.length) (hr0_1:∀ W2,Below w0.heap.size w0 W2 → R.holds W2 → Rd W2 Ab n0_1 cb (aq TOrder_cells p0.fR)) (hW:Ext w0 W [R,aJ A2_0 c2_0 3 1 n2_0 (aq cI p2),aJ A3_0 c3_0 4 1 n3_0 (aq cB p3)]),
  Calls Tryz.prog 133 [.agg #[.slice Aa n0_0 ca,.slice Ab n0_1 cb],vI p1,.slice A2_0 n2_0 c2_0,.slice A3_0 n3_0 c3_0].toArray W fun e W2 => ∃ x : Unit,(n2_0 = res.2.1.length ∧ n3_0 = res.2.2.length) ∧ e = .returned (.bool res.1) ∧ Ext w0 W2 [R,aJ A2_0 c2_0 3 1 n2_0 (aq cI res.2.1),aJ A3_0 c3_0 4 1 n3_0 (aq cB res.2.2)]:=by
 intro fuel
 induction fuel with
 | zero => intro p0 p1 p2 p3 res h W w0 R A2_0 n2_0 c2_0 hn2_0 A3_0 n3_0 c3_0 hn3_0 Aa n0_0 ca hn0_0 hr0_0 Ab n0_1 cb hn0_1 hr0_1 hW; exact absurd h (by unfold cY; exact fun h => by cases h)
 | succ fuel ih =>
  intro p0 p1 p2 p3 res h W w0 R A2_0 n2_0 c2_0 hn2_0 A3_0 n3_0 c3_0 hn3_0 Aa n0_0 ca hn0_0 hr0_0 Ab n0_1 cb hn0_1 hr0_1 hW
  subst hn2_0
  subst hn3_0
  subst hn0_0
  subst hn0_1
  change go (cY fuel) p0 p1 p2 p3 = some res at h
  unfold go at h
  refine aU (m:=54) Tryz.func133 rfl rfl (nB rfl) hW (cS (cR ?_))
  refine aX [.slice Aa p0.fB.length ca,.slice Ab p0.fR.length cb] rfl rfl rfl (fun b1 => ?_)
  refine oY rfl (yAB rfl) (oN (eT (cS (cS (cR (oY rfl (yAI rfl) (oN (eT (ah ?_)))))))))
  obtain ⟨u5,hl26,h⟩:=bOs h
  refine bV (fun (s:(Bool × Int × (List Int) × (List Bool))) L tm => ∃ (tm0:Nat → Value),p2.length = s.2.2.1.length ∧ p3.length = s.2.2.2.length ∧ L = [R,aJ A2_0 c2_0 3 1 p2.length (aq cI s.2.2.1),aJ A3_0 c3_0 4 1 p3.length (aq cB s.2.2.2),ak b1 53 [.slice Aa p0.fB.length ca,.slice Ab p0.fR.length cb]] ∧ tm = (upd (upd (upd (upd (upd (upd tm0 1 (vI p1)) 2 (.slice A2_0 p2.length c2_0)) 3 (.slice A3_0 p3.length c3_0)) 4 (.pointer (some ⟨b1,0,none⟩))) 8 (.bool s.1)) 9 (vI s.2.1))) 0 hl26 ⟨_,rfl,rfl,rfl,(kp4 (kp (kp rfl)))⟩ ?_ ?_
  ·rintro s4 L tm st ⟨tm0_s4,hn1_s4,hn2_s4,rfl,rfl⟩ h
   unfold dO at h
   refine cS (cS (cR (oY rfl (yMI rfl) (oY rfl (yFA cP rfl) (oY rfl (yL 3 gH rfl rfl rfl) (oY rfl (bo (us:=[]) gh rfl) (oY rfl (bq rfl rfl) (oN (eT ?_)))))))))
   rcases iOs h with ⟨hp6,h⟩ | ⟨hp6,h⟩
   ·refine cT (vB hp6) (cK (eT (cS (ah (cS (cR (oY rfl (yN 3 [.slice Aa p0.fB.length ca,.slice Ab p0.fR.length cb] bt rfl rfl rfl) (oY rfl (yMI rfl) (oY rfl (yMI rfl) ?_)))))))))
    obtain ⟨y7,hy8,h⟩:=bOs h
    refine oY rfl (yC [.agg #[.slice Aa p0.fB.length ca,.slice Ab p0.fR.length cb],vI p1,vI s4.2.1] rM rfl (fun W2 hW2 => gr p0 p1 s4.2.1 y7 hy8 W2 Aa p0.fB.length ca rfl ((RdL.under hr0_0) W2 hW2) Ab p0.fR.length cb rfl ((RdL.under hr0_1) W2 hW2)) rfl) (oY rfl (yAB rfl) (oN (eT (cS (cS (cR (oY rfl (yMB rfl) (oY rfl (cq rfl) (oY rfl (yMB rfl) ?_)))))))))
    obtain ⟨b10,hb11,h⟩:=bOs h
    refine oJ 5 (fun tm0 => (upd (upd (upd (upd (upd (upd (upd (upd (upd tm0 1 (vI p1)) 2 (.slice A2_0 p2.length c2_0)) 3 (.slice A3_0 p3.length c3_0)) 4 (.pointer (some ⟨b1,0,none⟩))) 8 (.bool s4.1)) 9 (vI s4.2.1)) 16 (.bool (decide (s4.2.1 < (p0.fB.length:Int))))) 10 (.bool y7)) 30 (.bool b10))) (fun tm0 => ?_) (fun key => ?_)
    ·refine oN (eT ?_)
     rcases iOs h with ⟨hp12,h⟩ | ⟨hp12,h⟩
     ·refine cT (vB hp12) (aG (ag (ab (eT (cR (oY rfl (yMI rfl) (oY rfl (aY rfl rfl) (oY rfl (yAI rfl) (oN ?_)))))))))
      obtain rfl:=sI h
      exact eN ⟨_,hn1_s4,hn2_s4,rfl,(kp4 (kp (kp rfl)))⟩
     ·refine cF (vB hp12) (cK (eT (cS (cR (oY rfl (yMS rfl) (oY rfl (yMI rfl) ?_))))))
      obtain ⟨hg13,h⟩:=gOs h
      refine oY rfl (yI sl_179 (by decide) hg13.1 hg13.2 (RdL.row 2 rfl) (eL q5 hn2_s4) rfl rfl) ?_
      refine cH rfl (ff 2 (xs:=s4.2.2.2) q5 true sz_4 rfl hg13.1 (aA hg13.2 hn2_s4) rfl rfl rfl rfl) (oN (eT (cS (cR (oY rfl (yMS rfl) (oY rfl (yMI rfl) ?_))))))
      obtain ⟨hg14,h⟩:=gOs h
      refine oY rfl (yI cO (by decide) hg14.1 hg14.2 (RdL.row 1 rfl) (eL ax hn1_s4) rfl rfl) ?_
      refine oY rfl (yR (A:=A2_0) (j:=(Int.toNat s4.2.1 * 1)) (v:=vI (rdL s4.2.2.1 s4.2.1)) bg (RdL.row 1 rfl) rfl (aL ax hg14.1 (aA hg14.2 hn1_s4) rfl)) (oY rfl (bq rfl rfl) (oY rfl (yAB rfl) (oN (eT (cS (cS (cR (oY rfl (yMB rfl) (oY rfl (cq rfl) (oN (eT ?_)))))))))))
      rcases iOs h with ⟨hp15,h⟩ | ⟨hp15,h⟩
      ·refine cT (vB hp15) ?_
       refine bN 7 cQ (by kernel_rfl) (by kernel_rfl) ?_
       refine qY rfl (yN 3 [.slice Aa p0.fB.length ca,.slice Ab p0.fR.length cb] bt rfl rfl rfl) (qY rfl (yMS rfl) (qY rfl (yMI rfl) ?_))
       obtain ⟨hg16,h⟩:=gOs h
       refine qY rfl (yI cO (by decide) hg16.1 hg16.2 (RdL.row 1 rfl) (eL ax hn1_s4) rfl rfl) ?_
       refine qY rfl (yR (A:=A2_0) (j:=(Int.toNat s4.2.1 * 1)) (v:=vI (rdL s4.2.2.1 s4.2.1)) bg (RdL.row 1 rfl) rfl (aL ax hg16.1 (aA hg16.2 hn1_s4) rfl)) (qY rfl (yMS rfl) (qY rfl (yMS rfl) (dr ?_)))
       obtain ⟨y17,hy18,h⟩:=bOs h
       refine eO [1,2] [] [.agg #[.slice Aa p0.fB.length ca,.slice Ab p0.fR.length cb],vI (rdL s4.2.2.1 s4.2.1),.slice A2_0 p2.length c2_0,.slice A3_0 p3.length c3_0] [] (fun (_:Unit) => (p2.length = y17.2.1.length ∧ p3.length = y17.2.2.length)) (fun _ => .bool y17.1) (fun _ => [aJ A2_0 c2_0 3 1 p2.length (aq cI y17.2.1),aJ A3_0 c3_0 4 1 p3.length (aq cB y17.2.2)]) (fun _ => []) (Foc.c2 rfl rfl) (by decide) rfl go_133 rfl rfl (fun _ => rfl) (fun W2 hW2 => ih p0 (rdL s4.2.2.1 s4.2.1) s4.2.2.1 (s4.2.2.2.set (Int.toNat s4.2.1) true) y17 hy18 W2 _ (c8 [R,aJ A2_0 c2_0 3 1 p2.length (aq cI s4.2.2.1),aJ A3_0 c3_0 4 1 p3.length (aq cB (s4.2.2.2.set (Int.toNat s4.2.1) true)),ak b1 53 [.slice Aa p0.fB.length ca,.slice Ab p0.fR.length cb]] [1,2]) A2_0 p2.length c2_0 (hn1_s4) A3_0 p3.length c3_0 (ec hn2_s4) Aa p0.fB.length ca rfl (fun W3 hb hR => (RdL.under hr0_0) W3 (hW2.restL hb hR)) Ab p0.fR.length cb rfl (fun W3 hb hR => (RdL.under hr0_1) W3 (hW2.restL hb hR)) hW2) ?_
       rintro - ⟨hn19,hn20⟩
       try dsimp only [kq,lsz,lss,List.append_nil]
       refine oY rfl (yAB rfl) (oN (eT (cS (cR (oY rfl (yMB rfl) (oN (eT ?_)))))))
       rcases iOs h with ⟨hp21,h⟩ | ⟨hp21,h⟩
       ·refine cT (vB hp21) (cS (cR (oY rfl (yMS rfl) (oY rfl (yMI rfl) (oY rfl (yMI rfl) ?_)))))
        obtain ⟨hg22,h⟩:=gOs h
        refine oY rfl (yI cO (by decide) hg22.1 hg22.2 (RdL.row 1 rfl) (eL ax hn19) rfl rfl) ?_
        refine cH rfl (ff 1 (xs:=y17.2.1) ax p1 py rfl hg22.1 (aA hg22.2 hn19) rfl rfl rfl rfl) (oN (eT (cS (cR (oY rfl (yAB rfl) (oN (eT (ao (am (aa ?_))))))))))
        obtain rfl:=sI h
        exact ay ⟨rfl,_,(ec hn19),hn20,rfl,(kp4 (kp (kp rfl)))⟩
       ·refine cF (vB hp21) (cK (au (eT (cR (oY rfl (yMI rfl) (oY rfl (aY rfl rfl) (oY rfl (yAI rfl) (oN ?_))))))))
        obtain rfl:=sI h
        exact eN ⟨_,hn19,hn20,rfl,(kp4 (kp (kp rfl)))⟩
      ·refine cF (vB hp15) (cK (eT (cS (cR (oY rfl (yMB rfl) (oN (eT ?_)))))))
       rcases iOs h with ⟨hp23,h⟩ | ⟨hp23,h⟩
       ·refine cT (vB hp23) (cS (cR (oY rfl (yMS rfl) (oY rfl (yMI rfl) (oY rfl (yMI rfl) ?_)))))
        obtain ⟨hg24,h⟩:=gOs h
        refine oY rfl (yI cO (by decide) hg24.1 hg24.2 (RdL.row 1 rfl) (eL ax hn1_s4) rfl rfl) ?_
        refine cH rfl (ff 1 (xs:=s4.2.2.1) ax p1 py rfl hg24.1 (aA hg24.2 hn1_s4) rfl rfl rfl rfl) (oN (eT (cS (cR (oY rfl (yAB rfl) (oN (eT (ao (am (aa ?_))))))))))
        obtain rfl:=sI h
        exact ay ⟨rfl,_,(ec hn1_s4),(ec hn2_s4),rfl,(kp4 (kp (kp rfl)))⟩
       ·refine cF (vB hp23) (cK (au (eT (cR (oY rfl (yMI rfl) (oY rfl (aY rfl rfl) (oY rfl (yAI rfl) (oN ?_))))))))
        obtain rfl:=sI h
        exact eN ⟨_,hn1_s4,(ec hn2_s4),rfl,(kp4 (kp (kp rfl)))⟩
    ·clear h; rcases iOs hb11 with ⟨hp9,h⟩ | ⟨hp9,h⟩
     ·refine oSk (sF rfl rfl rfl rfl hp9) (oSk (sF rfl rfl rfl rfl hp9) (oSk (sF rfl rfl rfl rfl hp9) (oSk (sF rfl rfl rfl rfl hp9) (oY rfl (ai (vB hp9) rfl) ?_))))
      obtain rfl:=sI h
      exact key _ _ (kp4 (kp4 (kp rfl)))
     ·refine oY (sT rfl rfl rfl rfl hp9) (yMS rfl) (oY (sT rfl rfl rfl rfl hp9) (yMI rfl) ?_)
      obtain ⟨hg25,h⟩:=gOs h
      refine oY (sT rfl rfl rfl rfl hp9) (yI sl_179 (by decide) hg25.1 hg25.2 (RdL.row 2 rfl) (eL q5 hn2_s4) rfl rfl) ?_
      refine oY (sT rfl rfl rfl rfl hp9) (yR (A:=A3_0) (j:=(Int.toNat s4.2.1 * 1)) (v:=.bool (rdL s4.2.2.2 s4.2.1)) sc_4 (RdL.row 2 rfl) rfl (aL q5 hg25.1 (aA hg25.2 hn2_s4) rfl)) (oY rfl (aj (vB hp9) rfl) ?_)
      obtain rfl:=sI h
      exact key _ _ (kp4 (kp4 (kp rfl)))
   ·refine cF (vB hp6) (aG (ag ?_))
    obtain rfl:=sI h
    exact ay ⟨rfl,_,hn1_s4,hn2_s4,rfl,(kp4 (kp (kp rfl)))⟩
  ·intro e L tm hJ
   rcases u5 with u27 | u28
   ·dsimp only at h hJ
    obtain ⟨rfl,tm0_u27,hn1_u27,hn2_u27,rfl,rfl⟩:=hJ
    refine ⟨(by intro hc; cases hc),?_⟩
    refine am (aa ?_)
    obtain rfl:=sI h
    exact ap (.inl rfl) rfl (rVt (v:=.bool u27.1) rfl) (fun W2 hW2 => ⟨(),⟨hn1_u27,hn2_u27⟩,rfl,hW2.take 3⟩)
   ·dsimp only at h hJ
    obtain ⟨rfl,tm0_u28,hn1_u28,hn2_u28,rfl,rfl⟩:=hJ
    refine ⟨(by intro hc; cases hc),?_⟩
    refine ab (eT (cS (cR (oY rfl (yAB rfl) (oN (eT (ao ?_)))))))
    obtain rfl:=sI h
    exact ap (.inl rfl) rfl (rVt (v:=.bool false) rfl) (fun W2 hW2 => ⟨(),⟨hn1_u28,hn2_u28⟩,rfl,hW2.take 3⟩)
theorem fz (p0:TY) (p1:(List Int)) (res:Bool) (h:d8 p0 p1 = some res) (W:World) (Aa:Option Addr) (n0_0 ca : Nat) (hn0_0:n0_0 = p0.fB.length) (hr0_0:Rd W Aa n0_0 ca (aq TBay_cells p0.fB)) (Ab:Option Addr) (n0_1 cb : Nat) (hn0_1:n0_1 = p0.fR.length) (hr0_1:Rd W Ab n0_1 cb (aq TOrder_cells p0.fR)) (Ac:Option Addr) (n1_0 cc : Nat) (hn1_0:n1_0 = p1.length) (hr1_0:Rd W Ac n1_0 cc (aq cI p1)) :
  Calls Tryz.prog 89 [.agg #[.slice Aa n0_0 ca,.slice Ab n0_1 cb],.slice Ac n1_0 cc].toArray W fun e W2 => e = .returned (.bool res) ∧ Ext W W2 []:=by
 subst hn0_0
 subst hn0_1
 subst hn1_0
 unfold d8 at h
 refine ac (m:=31) Tryz.func89 rfl rfl (nB rfl) (cS (cR ?_))
 refine aX [.slice Aa p0.fB.length ca,.slice Ab p0.fR.length cb] rfl rfl rfl (fun b1 => ?_)
 refine oY rfl (yAB rfl) (oN (eT (cS (cR (oY rfl (yFA cP rfl) (oY rfl (yL 0 gH rfl rfl rfl) (oY rfl (bo (us:=[]) gh rfl) ?_)))))))
 obtain ⟨y2,hy3,h⟩:=bOs h
 refine oC [vI (p0.fB.length:Int)] _ _ _ rfl go_132 rfl (fun W2 hW2 => pf (p0.fB.length:Int) y2 hy3 W2 ) ?_
 rintro ⟨A4,n6,c5⟩ hn7
 replace hn7 : n6 = y2.length:=hn7; subst hn7
 refine oY rfl (yAS rfl) (oN (eT (cS (cS (cR (oY rfl (yAI rfl) (oN (eT (ah ?_)))))))))
 obtain ⟨u11,hl22,h⟩:=bOs h
 refine bV (fun (s:(Bool × Int × (List Int))) L tm => ∃ (tm0:Nat → Value),y2.length = s.2.2.length ∧ L = [ak b1 53 [.slice Aa p0.fB.length ca,.slice Ab p0.fR.length cb],aJ A4 c5 3 1 y2.length (aq cI s.2.2)] ∧ tm = (upd (upd (upd (upd (upd tm0 1 (.slice Ac p1.length cc)) 2 (.pointer (some ⟨b1,0,none⟩))) 4 (.bool s.1)) 5 (.slice A4 y2.length c5)) 6 (vI s.2.1))) 0 hl22 ⟨_,rfl,rfl,(kp4 (kp rfl))⟩ ?_ ?_
 ·rintro s10 L tm st ⟨tm0_s10,hn1_s10,rfl,rfl⟩ h
  unfold fw at h
  refine cS (cS (cR (oY rfl (yMI rfl) (oY rfl (yMS rfl) (oY rfl (bo (us:=[]) bJ rfl) (oY rfl (bq rfl rfl) (oN (eT ?_))))))))
  rcases iOs h with ⟨hp12,h⟩ | ⟨hp12,h⟩
  ·refine cT (vB hp12) (cK (eT (cS (ah (cS ?_)))))
   obtain ⟨hg13,h⟩:=gOs h
   obtain ⟨hg14,h⟩:=gOs h
   refine lw 9 10 (fun v L1 => ∃ x : Nat,v = .slice (some ⟨x,0,none⟩) (Int.toNat (p0.fB.length:Int)) (Int.toNat (p0.fB.length:Int)) ∧ L1 = [aJ (some ⟨x,0,none⟩) (Int.toNat (p0.fB.length:Int)) 4 1 (Int.toNat (p0.fB.length:Int)) (aq cB (List.replicate (Int.toNat (p0.fB.length:Int)) false))]) cQ (by kernel_rfl) (by kernel_rfl) (by kernel_rfl) ?_
   refine qz rfl (fun _ => yN 0 [.slice Aa p0.fB.length ca,.slice Ab p0.fR.length cb] bt rfl rfl rfl) (qz rfl (fun _ => yMS rfl) (qz rfl (fun _ => yMI rfl) ?_))
   refine qz rfl (fun _ => yI cO (by decide) hg13.1 hg13.2 (RdL.arg hr1_0) (eL ax rfl) rfl rfl) ?_
   refine qz rfl (fun _ => yR (A:=Ac) (j:=(Int.toNat s10.2.1 * 1)) (v:=vI (rdL p1 s10.2.1)) bg (RdL.arg hr1_0) rfl (aL ax hg13.1 (aA hg13.2 rfl) rfl)) (qz rfl (fun _ => yMS rfl) (qz rfl (fun _ => yFA cP rfl) (qz rfl (fun _ => yL 0 (v:=.slice Aa p0.fB.length ca) gH rfl rfl rfl) (qz rfl (fun _ => bo (us:=[]) gh rfl) (bx_q rfl (qd (aq cB (List.replicate (Int.toNat (p0.fB.length:Int)) false)) us_179 ze_4 by_4 hg14.1 hg14.2 rfl (ou _ _ _ rfl rfl) rfl (fun b15 => oN (p5 ⟨b15,rfl,rfl⟩))) (rc rfl ?_))))))
   rintro v L1 ⟨b16,rfl,rfl⟩
   obtain ⟨y17,hy18,h⟩:=bOs h
   refine eO [1,2] [] [.agg #[.slice Aa p0.fB.length ca,.slice Ab p0.fR.length cb],vI (rdL p1 s10.2.1),.slice A4 y2.length c5,.slice (some ⟨b16,0,none⟩) (Int.toNat (p0.fB.length:Int)) (Int.toNat (p0.fB.length:Int))] [] (fun (_:Unit) => (y2.length = y17.2.1.length ∧ Int.toNat (p0.fB.length:Int) = y17.2.2.length)) (fun _ => .bool y17.1) (fun _ => [aJ A4 c5 3 1 y2.length (aq cI y17.2.1),aJ (some ⟨b16,0,none⟩) (Int.toNat (p0.fB.length:Int)) 4 1 (Int.toNat (p0.fB.length:Int)) (aq cB y17.2.2)]) (fun _ => []) (Foc.c2 rfl rfl) (by decide) rfl go_133 rfl rfl (fun _ => rfl) (fun W2 hW2 => nt (p0.fB.length + 2) p0 (rdL p1 s10.2.1) s10.2.2 (List.replicate (Int.toNat (p0.fB.length:Int)) false) y17 hy18 W2 _ (c8 [ak b1 53 [.slice Aa p0.fB.length ca,.slice Ab p0.fR.length cb],aJ A4 c5 3 1 y2.length (aq cI s10.2.2),aJ (some ⟨b16,0,none⟩) (Int.toNat (p0.fB.length:Int)) 4 1 (Int.toNat (p0.fB.length:Int)) (aq cB (List.replicate (Int.toNat (p0.fB.length:Int)) false))] [1,2]) A4 y2.length c5 (hn1_s10) (some ⟨b16,0,none⟩) (Int.toNat (p0.fB.length:Int)) (Int.toNat (p0.fB.length:Int)) (List.length_replicate).symm Aa p0.fB.length ca rfl (fun W3 hb hR => (RdL.arg hr0_0) W3 (hW2.restL hb hR)) Ab p0.fR.length cb rfl (fun W3 hb hR => (RdL.arg hr0_1) W3 (hW2.restL hb hR)) hW2) ?_
   rintro - ⟨hn19,hn20⟩
   try dsimp only [kq,lsz,lss,List.append_nil]
   refine oY rfl (yAB rfl) (oN (jl (eT (cS (cR (oY rfl (yMB rfl) (oY rfl (cq rfl) (oN (eT ?_)))))))))
   rcases iOs h with ⟨hp21,h⟩ | ⟨hp21,h⟩
   ·refine cT (vB hp21) (cS (cR (oY rfl (yAB rfl) (oN (eT (ao (am (aa (aN 2 ?_)))))))))
    obtain rfl:=sI h
    exact ay ⟨rfl,_,hn19,rfl,(kp4 (kp rfl))⟩
   ·refine cF (vB hp21) (cK (au (eT (cR (oY rfl (yMI rfl) (oY rfl (aY rfl rfl) (oY rfl (yAI rfl) (oN (aN 2 ?_)))))))))
    obtain rfl:=sI h
    exact eN ⟨_,hn19,rfl,(kp4 (kp rfl))⟩
  ·refine cF (vB hp12) (aG (ag ?_))
   obtain rfl:=sI h
   exact ay ⟨rfl,_,hn1_s10,rfl,(kp4 (kp rfl))⟩
 ·intro e L tm hJ
  rcases u11 with u23 | u24
  ·dsimp only at h hJ
   obtain ⟨rfl,tm0_u23,hn1_u23,rfl,rfl⟩:=hJ
   refine ⟨(by intro hc; cases hc),?_⟩
   refine am (aa ?_)
   obtain rfl:=sI h
   exact ap (.inl rfl) rfl (rVt (v:=.bool u23.1) rfl) (fun W2 hW2 => ⟨rfl,hW2.none⟩)
  ·dsimp only at h hJ
   obtain ⟨rfl,tm0_u24,hn1_u24,rfl,rfl⟩:=hJ
   refine ⟨(by intro hc; cases hc),?_⟩
   refine ab (eT (cS (cR (oY rfl (yAB rfl) (oN (eT (ao ?_)))))))
   obtain rfl:=sI h
   exact ap (.inl rfl) rfl (rVt (v:=.bool true) rfl) (fun W2 hW2 => ⟨rfl,hW2.none⟩)
theorem eV (p0:TY) (p1:Int) (p2:Int) (res:(List Int)) (h:db p0 p1 p2 = some res) (W:World) (Aa:Option Addr) (n0_0 ca : Nat) (hn0_0:n0_0 = p0.fB.length) (hr0_0:Rd W Aa n0_0 ca (aq TBay_cells p0.fB)) (Ab:Option Addr) (n0_1 cb : Nat) (hn0_1:n0_1 = p0.fR.length) (hr0_1:Rd W Ab n0_1 cb (aq TOrder_cells p0.fR)) :
  Calls Tryz.prog 87 [.agg #[.slice Aa n0_0 ca,.slice Ab n0_1 cb],vI p1,vI p2].toArray W fun e W2 => ∃ x : Option Addr × Nat × Nat,x.2.1 = res.length ∧ e = .returned (.slice x.1 x.2.1 x.2.2) ∧ Ext W W2 [aJ x.1 x.2.2 3 1 x.2.1 (aq cI res)]:=by
 subst hn0_0
 subst hn0_1
 unfold db at h
 refine ac (m:=63) Tryz.func87 rfl rfl (nB rfl) (cS (cR ?_))
 refine aX [.slice Aa p0.fB.length ca,.slice Ab p0.fR.length cb] rfl rfl rfl (fun b1 => ?_)
 refine oY rfl (yAS rfl) (oN (eT (cS (cR (oY rfl (yAS rfl) (oN (eT (cS (cS (cR (oY rfl (yMI rfl) (oY rfl (nK rfl rfl) (oN (eT ?_))))))))))))))
 rcases iOs h with ⟨hp2,h⟩ | ⟨hp2,h⟩
 ·refine cT (vB hp2) (cS (cR (oY rfl (yMI rfl) ?_)))
  refine aF 1 (aq cI [p1]) _ iz bJ gO iJ (by decide) (by decide) (by kernel_rfl) (eL ax rfl) rfl (fun b3 => ?_)
  refine oY rfl (yAS rfl) (oN (eT (cS (cR (oY rfl (yN 0 [.slice Aa p0.fB.length ca,.slice Ab p0.fR.length cb] bt rfl rfl rfl) (oY rfl (yMS rfl) ?_))))))
  obtain ⟨y4,hy5,h⟩:=bOs h
  refine oY rfl (yC [.agg #[.slice Aa p0.fB.length ca,.slice Ab p0.fR.length cb],.slice (some ⟨b3,0,none⟩) 1 1] r9 rfl (fun W2 hW2 => fz p0 [p1] y4 hy5 W2 Aa p0.fB.length ca rfl ((RdL.arg hr0_0) W2 hW2) Ab p0.fR.length cb rfl ((RdL.arg hr0_1) W2 hW2) (some ⟨b3,0,none⟩) 1 1 rfl ((RdL.row 1 rfl) W2 hW2)) rfl) (oY rfl (yAB rfl) (oN (eT (cS (cR (oY rfl (yMB rfl) (oY rfl (cq rfl) (oN (eT ?_)))))))))
  rcases iOs h with ⟨hp6,h⟩ | ⟨hp6,h⟩
  ·refine cT (vB hp6) (cS (cR (oY rfl (yAS rfl) (oN (eT (ao (aa ?_)))))))
   obtain rfl:=sI h
   exact ap (.inl rfl) rfl (rVt (v:=.slice none 0 0) rfl) (fun W2 hW2 => ⟨(none,0,0),rfl,rfl,((hW2.nilrow 3 1).pick 2 rfl)⟩)
  ·refine cF (vB hp6) (cK (eT (cS (cS (cR (oY rfl (yAI rfl) (oN (eT (ah ?_)))))))))
   obtain ⟨u10,hl33,h⟩:=bOs h
   refine a6 (fun (s:(Int × (List Int))) L tm => ∃ (tm0:Nat → Value) (A1_s:Option Addr) (c1_s:Nat) (n1_s:Nat),n1_s = s.2.length ∧ L = [ak b1 53 [.slice Aa p0.fB.length ca,.slice Ab p0.fR.length cb],aJ A1_s c1_s 3 1 n1_s (aq cI s.2)] ∧ tm = (upd (upd (upd (upd (upd (upd tm0 1 (vI p1)) 2 (vI p2)) 3 (.pointer (some ⟨b1,0,none⟩))) 6 (.slice none 0 0)) 7 (.slice A1_s n1_s c1_s)) 9 (vI s.1))) 0 hl33 ⟨_,(some ⟨b3,0,none⟩),1,1,rfl,rfl,(kp4 (kp (kp rfl)))⟩ ?_ ?_
   ·rintro s9 L tm st ⟨tm0_s9,A1_s9,c1_s9,n1_s9,rfl,rfl,rfl⟩ h
    unfold dX at h
    refine cS (cS (cR (oY rfl (yMI rfl) (oY rfl (nK rfl rfl) (oN (eT ?_))))))
    rcases iOs h with ⟨hp11,h⟩ | ⟨hp11,h⟩
    ·refine cT (vB hp11) (cK (eT (cS (ah (cS (cR (oY rfl (yAI rfl) (oN (eT (ah ?_))))))))))
     obtain ⟨u15,hl32,h⟩:=bOs h
     refine a6 (fun (s:(Int × (List Int))) L tm => ∃ (tm0:Nat → Value) (A1_s:Option Addr) (c1_s:Nat) (n1_s:Nat),n1_s = s.2.length ∧ L = [ak b1 53 [.slice Aa p0.fB.length ca,.slice Ab p0.fR.length cb],aJ A1_s c1_s 3 1 n1_s (aq cI s.2)] ∧ tm = (upd (upd (upd (upd (upd (upd (upd (upd tm0 1 (vI p1)) 2 (vI p2)) 3 (.pointer (some ⟨b1,0,none⟩))) 6 (.slice none 0 0)) 7 (.slice A1_s n1_s c1_s)) 9 (vI s9.1)) 23 (.bool (decide (1 ≤ s9.1)))) 10 (vI s.1))) 2 hl32 ⟨_,A1_s9,c1_s9,s9.2.length,rfl,rfl,(kp4 (kp4 rfl))⟩ ?_ ?_
     ·rintro s14 L tm st ⟨tm0_s14,A1_s14,c1_s14,n1_s14,rfl,rfl,rfl⟩ h
      unfold d5 at h
      refine cS (cS (cR (oY rfl (yMI rfl) (oY rfl (yFA bf rfl) (oY rfl (yL 0 dE rfl rfl rfl) (oY rfl (bo (us:=[]) g6 rfl) (oY rfl (bq rfl rfl) (oN (eT ?_)))))))))
      rcases iOs h with ⟨hp16,h⟩ | ⟨hp16,h⟩
      ·refine cT (vB hp16) (cK (eT (cS (ah (cS (cS (cR (oY rfl (yFA bf rfl) (oY rfl (yL 0 dE rfl rfl rfl) (oY rfl (yMI rfl) ?_))))))))))
       obtain ⟨hg17,h⟩:=gOs h
       refine oY rfl (yI gE (by decide) hg17.1 hg17.2 (RdL.arg hr0_1) (eL ad rfl) rfl rfl) ?_
       refine oY rfl (yFR (A:=Ab) (j:=(Int.toNat s14.1 * 5)) f7 rfl) (oY rfl (yR (A:=Ab) (j:=((Int.toNat s14.1 * 5) + 4)) (v:=vI ((rdL p0.fR s14.1).fW)) bg (RdL.arg hr0_1) rfl (eG ad hg17.1 (aA hg17.2 rfl) rfl)) (oY rfl (yMI rfl) (oY rfl (em rfl rfl) (oY rfl (yMB rfl) ?_))))
       refine oJ 4 (fun tm0 => (upd (upd (upd (upd (upd (upd (upd (upd (upd (upd tm0 1 (vI p1)) 2 (vI p2)) 3 (.pointer (some ⟨b1,0,none⟩))) 6 (.slice none 0 0)) 7 (.slice A1_s14 s14.2.length c1_s14)) 9 (vI s9.1)) 23 (.bool (decide (1 ≤ s9.1)))) 10 (vI s14.1)) 30 (.bool (decide (s14.1 < (p0.fR.length:Int))))) 45 (.bool ((((rdL p0.fR s14.1).fW) != s9.1) || (s14.1 == p1))))) (fun tm0 => ?_) (fun key => ?_)
       ·refine oY rfl (yMB rfl) ?_
        refine oJ 4 (fun tm0 => (upd (upd (upd (upd (upd (upd (upd (upd (upd (upd tm0 1 (vI p1)) 2 (vI p2)) 3 (.pointer (some ⟨b1,0,none⟩))) 6 (.slice none 0 0)) 7 (.slice A1_s14 s14.2.length c1_s14)) 9 (vI s9.1)) 23 (.bool (decide (1 ≤ s9.1)))) 10 (vI s14.1)) 30 (.bool (decide (s14.1 < (p0.fR.length:Int))))) 50 (.bool (((((rdL p0.fR s14.1).fW) != s9.1) || (s14.1 == p1)) || (s14.1 == p2))))) (fun tm0 => ?_) (fun key => ?_)
        ·refine oN (eT ?_)
         rcases iOs h with ⟨hp20,h⟩ | ⟨hp20,h⟩
         ·refine cT (vB hp20) (aG (ag (ab (eT (cR (oY rfl (yMI rfl) (oY rfl (aY rfl rfl) (oY rfl (yAI rfl) (oN ?_)))))))))
          obtain rfl:=sI h
          exact eN ⟨_,A1_s14,c1_s14,s14.2.length,rfl,rfl,(kp4 (kp4 rfl))⟩
         ·refine cF (vB hp20) (cK (eT (cS (cR ?_))))
          refine cy cI bJ gO iJ rfl (fun b21 => ?_)
          refine oY rfl (yMS rfl) ?_
          obtain ⟨hg24,h⟩:=gOs h
          refine ba 2 bJ gO iJ rfl rfl rfl (RdL.row 1 rfl) (eL ax rfl) (bK gB _) (bO hg24 (by decide)) rfl (fun A22 c23 => ?_)
          refine oY rfl (yMI rfl) ?_
          refine aF 1 (aq cI [s14.1]) _ iz bJ gO iJ (by decide) (by decide) (by kernel_rfl) (eL ax rfl) rfl (fun b25 => ?_)
          obtain ⟨hg28,h⟩:=gOs h
          refine ba 2 bJ gO iJ rfl rfl rfl (RdL.row 3 rfl) (eL ax rfl) (bK gB _) (bO hg28 (by decide)) rfl (fun A26 c27 => ?_)
          refine oY rfl (yAS rfl) (oN (eT (cS (cR (oY rfl (yN 0 [.slice Aa p0.fB.length ca,.slice Ab p0.fR.length cb] bt rfl rfl rfl) (oY rfl (yMS rfl) ?_))))))
          obtain ⟨y29,hy30,h⟩:=bOs h
          refine oY rfl (yC [.agg #[.slice Aa p0.fB.length ca,.slice Ab p0.fR.length cb],.slice A26 ((0 + s14.2.length) + 1) c27] r9 rfl (fun W2 hW2 => fz p0 ((([]:List Int) ++ s14.2) ++ [s14.1]) y29 hy30 W2 Aa p0.fB.length ca rfl ((RdL.arg hr0_0) W2 hW2) Ab p0.fR.length cb rfl ((RdL.arg hr0_1) W2 hW2) A26 ((0 + s14.2.length) + 1) c27 (cJ (cJ rfl rfl) rfl) ((RdL.row 2 rfl) W2 hW2)) rfl) (oY rfl (yAB rfl) (oN (eT (cS (cR (oY rfl (yMB rfl) (oN (eT ?_))))))))
          rcases iOs h with ⟨hp31,h⟩ | ⟨hp31,h⟩
          ·refine cT (vB hp31) (cR (oY rfl (yMS rfl) (oY rfl (yAS rfl) (oN (au (eT (cR (oY rfl (yMI rfl) (oY rfl (aY rfl rfl) (oY rfl (yAI rfl) (oN ?_)))))))))))
           refine pC 1 2 (by decide) rfl ?_
           try dsimp only [lsz,lss]
           refine aN 2 ?_
           obtain rfl:=sI h
           exact eN ⟨_,A26,c27,((0 + s14.2.length) + 1),(cJ (cJ rfl rfl) rfl),rfl,(kp4 (kp4 rfl))⟩
          ·refine cF (vB hp31) (cK (au (eT (cR (oY rfl (yMI rfl) (oY rfl (aY rfl rfl) (oY rfl (yAI rfl) (oN (aN 2 ?_)))))))))
           obtain rfl:=sI h
           exact eN ⟨_,A1_s14,c1_s14,s14.2.length,rfl,rfl,(kp4 (kp4 rfl))⟩
        ·rcases ar ((((rdL p0.fR s14.1).fW) != s9.1) || (s14.1 == p1)) with hp19 | hp19
         ·refine oSk (sF rfl rfl rfl rfl hp19) (oSk (sF rfl rfl rfl rfl hp19) (oSk (sF rfl rfl rfl rfl hp19) (oY rfl (ai (vB hp19) rfl) ?_)))
          exact key _ _ (keep (keep (keep (keep (keep (keep (keep (keep (keep (keep rfl rfl) rfl) rfl) rfl) rfl) rfl) rfl) rfl) rfl) (vB (jG hp19)))
         ·refine oY (sT rfl rfl rfl rfl hp19) (yMI rfl) (oY (sT rfl rfl rfl rfl hp19) (yMI rfl) (oY (sT rfl rfl rfl rfl hp19) (dC rfl rfl) (oY rfl (aj (vB hp19) rfl) ?_)))
          exact key _ _ (keep (keep (keep (keep (keep (keep (keep (keep (keep (keep rfl rfl) rfl) rfl) rfl) rfl) rfl) rfl) rfl) rfl) (vB (jD hp19)))
       ·rcases ar (((rdL p0.fR s14.1).fW) != s9.1) with hp18 | hp18
        ·refine oSk (sF rfl rfl rfl rfl hp18) (oSk (sF rfl rfl rfl rfl hp18) (oSk (sF rfl rfl rfl rfl hp18) (oY rfl (ai (vB hp18) rfl) ?_)))
         exact key _ _ (keep (keep (keep (keep (keep (keep (keep (keep (keep (keep rfl rfl) rfl) rfl) rfl) rfl) rfl) rfl) rfl) rfl) (vB (jG hp18)))
        ·refine oY (sT rfl rfl rfl rfl hp18) (yMI rfl) (oY (sT rfl rfl rfl rfl hp18) (yMI rfl) (oY (sT rfl rfl rfl rfl hp18) (dC rfl rfl) (oY rfl (aj (vB hp18) rfl) ?_)))
         exact key _ _ (keep (keep (keep (keep (keep (keep (keep (keep (keep (keep rfl rfl) rfl) rfl) rfl) rfl) rfl) rfl) rfl) rfl) (vB (jD hp18)))
      ·refine cF (vB hp16) (aG (ag ?_))
       obtain rfl:=sI h
       exact ay ⟨rfl,_,A1_s14,c1_s14,s14.2.length,rfl,rfl,(kp4 (kp4 rfl))⟩
     ·intro e L tm hJ
      obtain ⟨rfl,tm0_u15,A1_u15,c1_u15,n1_u15,rfl,rfl,rfl⟩:=hJ
      refine ⟨(by intro hc; cases hc),?_⟩
      refine ab (au (eT (cR (oY rfl (yMI rfl) (oY rfl (f4 rfl rfl) (oY rfl (yAI rfl) (oN ?_)))))))
      obtain rfl:=sI h
      exact eN ⟨_,A1_u15,c1_u15,u15.2.length,rfl,rfl,(kp4 (kp (kp rfl)))⟩
    ·refine cF (vB hp11) (aG (ag ?_))
     obtain rfl:=sI h
     exact ay ⟨rfl,_,A1_s9,c1_s9,s9.2.length,rfl,rfl,(kp4 (kp (kp rfl)))⟩
   ·intro e L tm hJ
    obtain ⟨rfl,tm0_u10,A1_u10,c1_u10,n1_u10,rfl,rfl,rfl⟩:=hJ
    refine ⟨(by intro hc; cases hc),?_⟩
    refine ab (eT (cS (cR (oY rfl (yMS rfl) (oY rfl (yAS rfl) (oN (eT (ao ?_))))))))
    obtain rfl:=sI h
    exact ap (.inl rfl) rfl (rVt (v:=.slice A1_u10 u10.2.length c1_u10) rfl) (fun W2 hW2 => ⟨(A1_u10,u10.2.length,c1_u10),rfl,rfl,(hW2.pick 1 rfl)⟩)
 ·refine cF (vB hp2) (cK (eT (cS (cS (cR (oY rfl (yAI rfl) (oN (eT (ah ?_)))))))))
  obtain ⟨u37,hl60,h⟩:=bOs h
  refine ck 3 1 ?_
  refine a6 (fun (s:(Int × (List Int))) L tm => ∃ (tm0:Nat → Value) (A1_s:Option Addr) (c1_s:Nat) (n1_s:Nat),n1_s = s.2.length ∧ L = [ak b1 53 [.slice Aa p0.fB.length ca,.slice Ab p0.fR.length cb],aJ A1_s c1_s 3 1 n1_s (aq cI s.2)] ∧ tm = (upd (upd (upd (upd (upd (upd tm0 1 (vI p1)) 2 (vI p2)) 3 (.pointer (some ⟨b1,0,none⟩))) 6 (.slice none 0 0)) 7 (.slice A1_s n1_s c1_s)) 9 (vI s.1))) 0 hl60 ⟨_,none,0,0,rfl,rfl,(kp4 (kp (kp rfl)))⟩ ?_ ?_
  ·rintro s36 L tm st ⟨tm0_s36,A1_s36,c1_s36,n1_s36,rfl,rfl,rfl⟩ h
   unfold i8 at h
   refine cS (cS (cR (oY rfl (yMI rfl) (oY rfl (nK rfl rfl) (oN (eT ?_))))))
   rcases iOs h with ⟨hp38,h⟩ | ⟨hp38,h⟩
   ·refine cT (vB hp38) (cK (eT (cS (ah (cS (cR (oY rfl (yAI rfl) (oN (eT (ah ?_))))))))))
    obtain ⟨u42,hl59,h⟩:=bOs h
    refine a6 (fun (s:(Int × (List Int))) L tm => ∃ (tm0:Nat → Value) (A1_s:Option Addr) (c1_s:Nat) (n1_s:Nat),n1_s = s.2.length ∧ L = [ak b1 53 [.slice Aa p0.fB.length ca,.slice Ab p0.fR.length cb],aJ A1_s c1_s 3 1 n1_s (aq cI s.2)] ∧ tm = (upd (upd (upd (upd (upd (upd (upd (upd tm0 1 (vI p1)) 2 (vI p2)) 3 (.pointer (some ⟨b1,0,none⟩))) 6 (.slice none 0 0)) 7 (.slice A1_s n1_s c1_s)) 9 (vI s36.1)) 23 (.bool (decide (1 ≤ s36.1)))) 10 (vI s.1))) 2 hl59 ⟨_,A1_s36,c1_s36,s36.2.length,rfl,rfl,(kp4 (kp4 rfl))⟩ ?_ ?_
    ·rintro s41 L tm st ⟨tm0_s41,A1_s41,c1_s41,n1_s41,rfl,rfl,rfl⟩ h
     unfold lB at h
     refine cS (cS (cR (oY rfl (yMI rfl) (oY rfl (yFA bf rfl) (oY rfl (yL 0 dE rfl rfl rfl) (oY rfl (bo (us:=[]) g6 rfl) (oY rfl (bq rfl rfl) (oN (eT ?_)))))))))
     rcases iOs h with ⟨hp43,h⟩ | ⟨hp43,h⟩
     ·refine cT (vB hp43) (cK (eT (cS (ah (cS (cS (cR (oY rfl (yFA bf rfl) (oY rfl (yL 0 dE rfl rfl rfl) (oY rfl (yMI rfl) ?_))))))))))
      obtain ⟨hg44,h⟩:=gOs h
      refine oY rfl (yI gE (by decide) hg44.1 hg44.2 (RdL.arg hr0_1) (eL ad rfl) rfl rfl) ?_
      refine oY rfl (yFR (A:=Ab) (j:=(Int.toNat s41.1 * 5)) f7 rfl) (oY rfl (yR (A:=Ab) (j:=((Int.toNat s41.1 * 5) + 4)) (v:=vI ((rdL p0.fR s41.1).fW)) bg (RdL.arg hr0_1) rfl (eG ad hg44.1 (aA hg44.2 rfl) rfl)) (oY rfl (yMI rfl) (oY rfl (em rfl rfl) (oY rfl (yMB rfl) ?_))))
      refine oJ 4 (fun tm0 => (upd (upd (upd (upd (upd (upd (upd (upd (upd (upd tm0 1 (vI p1)) 2 (vI p2)) 3 (.pointer (some ⟨b1,0,none⟩))) 6 (.slice none 0 0)) 7 (.slice A1_s41 s41.2.length c1_s41)) 9 (vI s36.1)) 23 (.bool (decide (1 ≤ s36.1)))) 10 (vI s41.1)) 30 (.bool (decide (s41.1 < (p0.fR.length:Int))))) 45 (.bool ((((rdL p0.fR s41.1).fW) != s36.1) || (s41.1 == p1))))) (fun tm0 => ?_) (fun key => ?_)
      ·refine oY rfl (yMB rfl) ?_
       refine oJ 4 (fun tm0 => (upd (upd (upd (upd (upd (upd (upd (upd (upd (upd tm0 1 (vI p1)) 2 (vI p2)) 3 (.pointer (some ⟨b1,0,none⟩))) 6 (.slice none 0 0)) 7 (.slice A1_s41 s41.2.length c1_s41)) 9 (vI s36.1)) 23 (.bool (decide (1 ≤ s36.1)))) 10 (vI s41.1)) 30 (.bool (decide (s41.1 < (p0.fR.length:Int))))) 50 (.bool (((((rdL p0.fR s41.1).fW) != s36.1) || (s41.1 == p1)) || (s41.1 == p2))))) (fun tm0 => ?_) (fun key => ?_)
       ·refine oN (eT ?_)
        rcases iOs h with ⟨hp47,h⟩ | ⟨hp47,h⟩
        ·refine cT (vB hp47) (aG (ag (ab (eT (cR (oY rfl (yMI rfl) (oY rfl (aY rfl rfl) (oY rfl (yAI rfl) (oN ?_)))))))))
         obtain rfl:=sI h
         exact eN ⟨_,A1_s41,c1_s41,s41.2.length,rfl,rfl,(kp4 (kp4 rfl))⟩
        ·refine cF (vB hp47) (cK (eT (cS (cR ?_))))
         refine cy cI bJ gO iJ rfl (fun b48 => ?_)
         refine oY rfl (yMS rfl) ?_
         obtain ⟨hg51,h⟩:=gOs h
         refine ba 2 bJ gO iJ rfl rfl rfl (RdL.row 1 rfl) (eL ax rfl) (bK gB _) (bO hg51 (by decide)) rfl (fun A49 c50 => ?_)
         refine oY rfl (yMI rfl) ?_
         refine aF 1 (aq cI [s41.1]) _ iz bJ gO iJ (by decide) (by decide) (by kernel_rfl) (eL ax rfl) rfl (fun b52 => ?_)
         obtain ⟨hg55,h⟩:=gOs h
         refine ba 2 bJ gO iJ rfl rfl rfl (RdL.row 3 rfl) (eL ax rfl) (bK gB _) (bO hg55 (by decide)) rfl (fun A53 c54 => ?_)
         refine oY rfl (yAS rfl) (oN (eT (cS (cR (oY rfl (yN 0 [.slice Aa p0.fB.length ca,.slice Ab p0.fR.length cb] bt rfl rfl rfl) (oY rfl (yMS rfl) ?_))))))
         obtain ⟨y56,hy57,h⟩:=bOs h
         refine oY rfl (yC [.agg #[.slice Aa p0.fB.length ca,.slice Ab p0.fR.length cb],.slice A53 ((0 + s41.2.length) + 1) c54] r9 rfl (fun W2 hW2 => fz p0 ((([]:List Int) ++ s41.2) ++ [s41.1]) y56 hy57 W2 Aa p0.fB.length ca rfl ((RdL.arg hr0_0) W2 hW2) Ab p0.fR.length cb rfl ((RdL.arg hr0_1) W2 hW2) A53 ((0 + s41.2.length) + 1) c54 (cJ (cJ rfl rfl) rfl) ((RdL.row 2 rfl) W2 hW2)) rfl) (oY rfl (yAB rfl) (oN (eT (cS (cR (oY rfl (yMB rfl) (oN (eT ?_))))))))
         rcases iOs h with ⟨hp58,h⟩ | ⟨hp58,h⟩
         ·refine cT (vB hp58) (cR (oY rfl (yMS rfl) (oY rfl (yAS rfl) (oN (au (eT (cR (oY rfl (yMI rfl) (oY rfl (aY rfl rfl) (oY rfl (yAI rfl) (oN ?_)))))))))))
          refine pC 1 2 (by decide) rfl ?_
          try dsimp only [lsz,lss]
          refine aN 2 ?_
          obtain rfl:=sI h
          exact eN ⟨_,A53,c54,((0 + s41.2.length) + 1),(cJ (cJ rfl rfl) rfl),rfl,(kp4 (kp4 rfl))⟩
         ·refine cF (vB hp58) (cK (au (eT (cR (oY rfl (yMI rfl) (oY rfl (aY rfl rfl) (oY rfl (yAI rfl) (oN (aN 2 ?_)))))))))
          obtain rfl:=sI h
          exact eN ⟨_,A1_s41,c1_s41,s41.2.length,rfl,rfl,(kp4 (kp4 rfl))⟩
       ·rcases ar ((((rdL p0.fR s41.1).fW) != s36.1) || (s41.1 == p1)) with hp46 | hp46
        ·refine oSk (sF rfl rfl rfl rfl hp46) (oSk (sF rfl rfl rfl rfl hp46) (oSk (sF rfl rfl rfl rfl hp46) (oY rfl (ai (vB hp46) rfl) ?_)))
         exact key _ _ (keep (keep (keep (keep (keep (keep (keep (keep (keep (keep rfl rfl) rfl) rfl) rfl) rfl) rfl) rfl) rfl) rfl) (vB (jG hp46)))
        ·refine oY (sT rfl rfl rfl rfl hp46) (yMI rfl) (oY (sT rfl rfl rfl rfl hp46) (yMI rfl) (oY (sT rfl rfl rfl rfl hp46) (dC rfl rfl) (oY rfl (aj (vB hp46) rfl) ?_)))
         exact key _ _ (keep (keep (keep (keep (keep (keep (keep (keep (keep (keep rfl rfl) rfl) rfl) rfl) rfl) rfl) rfl) rfl) rfl) (vB (jD hp46)))
      ·rcases ar (((rdL p0.fR s41.1).fW) != s36.1) with hp45 | hp45
       ·refine oSk (sF rfl rfl rfl rfl hp45) (oSk (sF rfl rfl rfl rfl hp45) (oSk (sF rfl rfl rfl rfl hp45) (oY rfl (ai (vB hp45) rfl) ?_)))
        exact key _ _ (keep (keep (keep (keep (keep (keep (keep (keep (keep (keep rfl rfl) rfl) rfl) rfl) rfl) rfl) rfl) rfl) rfl) (vB (jG hp45)))
       ·refine oY (sT rfl rfl rfl rfl hp45) (yMI rfl) (oY (sT rfl rfl rfl rfl hp45) (yMI rfl) (oY (sT rfl rfl rfl rfl hp45) (dC rfl rfl) (oY rfl (aj (vB hp45) rfl) ?_)))
        exact key _ _ (keep (keep (keep (keep (keep (keep (keep (keep (keep (keep rfl rfl) rfl) rfl) rfl) rfl) rfl) rfl) rfl) rfl) (vB (jD hp45)))
     ·refine cF (vB hp43) (aG (ag ?_))
      obtain rfl:=sI h
      exact ay ⟨rfl,_,A1_s41,c1_s41,s41.2.length,rfl,rfl,(kp4 (kp4 rfl))⟩
    ·intro e L tm hJ
     obtain ⟨rfl,tm0_u42,A1_u42,c1_u42,n1_u42,rfl,rfl,rfl⟩:=hJ
     refine ⟨(by intro hc; cases hc),?_⟩
     refine ab (au (eT (cR (oY rfl (yMI rfl) (oY rfl (f4 rfl rfl) (oY rfl (yAI rfl) (oN ?_)))))))
     obtain rfl:=sI h
     exact eN ⟨_,A1_u42,c1_u42,u42.2.length,rfl,rfl,(kp4 (kp (kp rfl)))⟩
   ·refine cF (vB hp38) (aG (ag ?_))
    obtain rfl:=sI h
    exact ay ⟨rfl,_,A1_s36,c1_s36,s36.2.length,rfl,rfl,(kp4 (kp (kp rfl)))⟩
  ·intro e L tm hJ
   obtain ⟨rfl,tm0_u37,A1_u37,c1_u37,n1_u37,rfl,rfl,rfl⟩:=hJ
   refine ⟨(by intro hc; cases hc),?_⟩
   refine ab (eT (cS (cR (oY rfl (yMS rfl) (oY rfl (yAS rfl) (oN (eT (ao ?_))))))))
   obtain rfl:=sI h
   exact ap (.inl rfl) rfl (rVt (v:=.slice A1_u37 u37.2.length c1_u37) rfl) (fun W2 hW2 => ⟨(A1_u37,u37.2.length,c1_u37),rfl,rfl,(hW2.pick 1 rfl)⟩)
theorem nP (p0:TY) (p1:Int) (res:Int) (h:il p0 p1 = some res) (W:World) (Aa:Option Addr) (n0_0 ca : Nat) (hn0_0:n0_0 = p0.fB.length) (hr0_0:Rd W Aa n0_0 ca (aq TBay_cells p0.fB)) (Ab:Option Addr) (n0_1 cb : Nat) (hn0_1:n0_1 = p0.fR.length) (hr0_1:Rd W Ab n0_1 cb (aq TOrder_cells p0.fR)) :
  Calls Tryz.prog 103 [.agg #[.slice Aa n0_0 ca,.slice Ab n0_1 cb],vI p1].toArray W fun e W2 => e = .returned (vI res) ∧ Ext W W2 []:=by
 subst hn0_0
 subst hn0_1
 unfold il at h
 refine ac (m:=22) Tryz.func103 rfl rfl (nB rfl) (cS (cR ?_))
 refine aX [.slice Aa p0.fB.length ca,.slice Ab p0.fR.length cb] rfl rfl rfl (fun b1 => ?_)
 refine oY rfl (yAI rfl) (oN (eT (cS (cS (cR (oY rfl (yAI rfl) (oN (eT (ah ?_)))))))))
 obtain ⟨u4,hl8,h⟩:=bOs h
 refine bV (fun (s:(Int × Int)) L tm => ∃ (tm0:Nat → Value),L = [ak b1 53 [.slice Aa p0.fB.length ca,.slice Ab p0.fR.length cb]] ∧ tm = (upd (upd (upd (upd tm0 1 (vI p1)) 2 (.pointer (some ⟨b1,0,none⟩))) 4 (vI s.1)) 5 (vI s.2))) 0 hl8 ⟨_,rfl,(kp4 rfl)⟩ ?_ ?_
 ·rintro s3 L tm st ⟨tm0_s3,rfl,rfl⟩ h
  unfold ed at h
  refine cS (cS (cR (oY rfl (yMI rfl) (oY rfl (yFA bf rfl) (oY rfl (yL 0 dE rfl rfl rfl) (oY rfl (bo (us:=[]) g6 rfl) (oY rfl (bq rfl rfl) (oN (eT ?_)))))))))
  rcases iOs h with ⟨hp5,h⟩ | ⟨hp5,h⟩
  ·refine cT (vB hp5) (cK (eT (cS (ah (cS (cR (oY rfl (yFA bf rfl) (oY rfl (yL 0 dE rfl rfl rfl) (oY rfl (yMI rfl) ?_)))))))))
   obtain ⟨hg6,h⟩:=gOs h
   refine oY rfl (yI gE (by decide) hg6.1 hg6.2 (RdL.arg hr0_1) (eL ad rfl) rfl rfl) ?_
   refine oY rfl (yFR (A:=Ab) (j:=(Int.toNat s3.2 * 5)) gm rfl) (oY rfl (yR (A:=Ab) (j:=((Int.toNat s3.2 * 5) + 0)) (v:=vI ((rdL p0.fR s3.2).fID)) bg (RdL.arg hr0_1) rfl (eG ad hg6.1 (aA hg6.2 rfl) rfl)) (oY rfl (yMI rfl) (oY rfl (dC rfl rfl) (oN (eT ?_)))))
   rcases iOs h with ⟨hp7,h⟩ | ⟨hp7,h⟩
   ·refine cT (vB hp7) (cS (cR (oY rfl (yMI rfl) (oY rfl (yAI rfl) (oN (eT (ao (am (aa ?_)))))))))
    obtain rfl:=sI h
    exact ay ⟨rfl,_,rfl,(kp4 rfl)⟩
   ·refine cF (vB hp7) (cK (au (eT (cR (oY rfl (yMI rfl) (oY rfl (aY rfl rfl) (oY rfl (yAI rfl) (oN ?_))))))))
    obtain rfl:=sI h
    exact eN ⟨_,rfl,(kp4 rfl)⟩
  ·refine cF (vB hp5) (aG (ag ?_))
   obtain rfl:=sI h
   exact ay ⟨rfl,_,rfl,(kp4 rfl)⟩
 ·intro e L tm hJ
  rcases u4 with u9 | u10
  ·dsimp only at h hJ
   obtain ⟨rfl,tm0_u9,rfl,rfl⟩:=hJ
   refine ⟨(by intro hc; cases hc),?_⟩
   refine am (aa ?_)
   obtain rfl:=sI h
   exact ap (.inl rfl) rfl (rVt (v:=vI u9.1) rfl) (fun W2 hW2 => ⟨rfl,hW2.none⟩)
  ·dsimp only at h hJ
   obtain ⟨rfl,tm0_u10,rfl,rfl⟩:=hJ
   refine ⟨(by intro hc; cases hc),?_⟩
   refine ab (eT (cS (cR (oY rfl (yAI rfl) (oN (eT (ao ?_)))))))
   obtain rfl:=sI h
   exact ap (.inl rfl) rfl (rVt (v:=vI (-1)) rfl) (fun W2 hW2 => ⟨rfl,hW2.none⟩)
end Go.Proofs.YthndghnkebboaaaGreat
