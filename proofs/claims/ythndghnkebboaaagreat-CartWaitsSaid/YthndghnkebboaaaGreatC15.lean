import Derived.Test.YthndghnkebboaaaGreatF
import Derived.Test.YthndghnkebboaaaGreatGD
import Derived.Test.YthndghnkebboaaaGreatC2
import Derived.Test.YthndghnkebboaaaGreatC4
import Derived.Test.YthndghnkebboaaaGreatC6
set_option maxHeartbeats 4000000
set_option maxRecDepth 100000
set_option linter.unusedVariables false
namespace Go.Proofs.YthndghnkebboaaaGreat
open Go.RowKit (Below)
attribute [local irreducible] OX QX CX EX OpY Calls CallsIn
theorem dq  (res:Bool) (h:bV = some res) (W:World)  :
  Calls Tryz.prog 17 [].toArray W fun e W2 => e = .returned (.bool res) ∧ Ext W W2 []:=by
 unfold bV at h
 refine ab (m:=261) Tryz.func17 rfl rfl (nB rfl) (cS (cR (oY rfl (yAB rfl) (oN (eT (cS (cR ?_)))))))
 obtain ⟨y1,hy2,h⟩:=bOs h
 refine oC [] _ _ _ rfl go_67 rfl (fun W2 hW2 => jW  y1 hy2 W2 W (fun _ => True) (fun W3 hb => ⟨eI hW2.below hb,trivial⟩) ) ?_
 rintro ⟨⟨A5,n7,c6⟩,ys10,F11⟩ ⟨hn8,hP9,hV12⟩
 replace hn8 : n7 = y1.fTracks.length:=hn8; subst hn8
 refine aw rA rfl (fun b13 => ?_)
 refine cw rfl (yS 2 [vI y1.fPlaces,.slice A5 y1.fTracks.length c6] sz_24 rfl (nB rfl) rfl rfl rfl) (oN (eT (cS (cR ?_))))
 obtain ⟨y14,hy15,h⟩:=bOs h
 refine oC [] _ _ _ rfl go_68 rfl (fun W2 hW2 => kH  y14 hy15 W2 ) ?_
 rintro ⟨⟨A16,n20,c17⟩,⟨A18,n22,c19⟩⟩ ⟨hn21,hn23⟩
 replace hn21 : n20 = y14.fB.length:=hn21; subst hn21
 replace hn23 : n22 = y14.fR.length:=hn23; subst hn23
 refine aw oT rfl (fun b24 => ?_)
 try dsimp only [lna,lca,lsz,lss]
 refine cw rfl (yS 5 [.slice A16 y14.fB.length c17,.slice A18 y14.fR.length c19] sz_53 rfl (nB rfl) rfl rfl rfl) (oN (eT (cS (cR (oY rfl (yFA f4 rfl) (oY rfl (yL 2 lr rfl rfl rfl) ?_))))))
 obtain ⟨hg25,h⟩:=gOs h
 refine oY rfl (yI mT (by decide) hg25.1 hg25.2 (RdL.row 0 rfl) (eL aG (NestP.hn hP9 rfl)) rfl rfl) ?_
 refine oY rfl (yM (A:=A5) (j:=(Int.toNat 1 * 6)) [vI ((rdL y1.fTracks 1).fID),vI ((rdL y1.fTracks 1).fFrom),vI ((rdL y1.fTracks 1).fTo),vI ((rdL y1.fTracks 1).fLong),vI ((rdL y1.fTracks 1).fToll),.slice ((rdL ys10 1).1.1) ((rdL y1.fTracks 1).fK.length) ((rdL ys10 1).1.2.2)] lh (Nat.succ_pos _) (RdL.row 0 rfl) rfl (mC (ee (NestP.snd hP9 1) (NestP.len hP9 hg25.1 (az hg25.2 rfl))).symm (bj aG hg25.1 (az hg25.2 (NestP.hn hP9 rfl))))) ?_
 obtain ⟨y26,hy27,h⟩:=bOs h
 refine oY rfl (yC [.agg #[vI ((rdL y1.fTracks 1).fID),vI ((rdL y1.fTracks 1).fFrom),vI ((rdL y1.fTracks 1).fTo),vI ((rdL y1.fTracks 1).fLong),vI ((rdL y1.fTracks 1).fToll),.slice ((rdL ys10 1).1.1) ((rdL y1.fTracks 1).fK.length) ((rdL ys10 1).1.2.2)],vI 8] go_69 rfl (fun W2 hW2 => nN (TT.mk ((rdL y1.fTracks 1).fID) ((rdL y1.fTracks 1).fFrom) ((rdL y1.fTracks 1).fTo) ((rdL y1.fTracks 1).fLong) ((rdL y1.fTracks 1).fToll) ((rdL y1.fTracks 1).fK)) 8 y26 hy27 W2 ((rdL ys10 1).1.1) ((rdL y1.fTracks 1).fK.length) ((rdL ys10 1).1.2.2) rfl ((NestL.rd (PvL.nestL hP9 hV12 (fun W2 hW2 => ⟨hW2.below,trivial,hW2.mem (i:=1) rfl⟩)) hg25.1 (az hg25.2 rfl)) W2 hW2)) rfl) (oY rfl (aC rfl) (oY rfl (yE rfl rfl) (oY rfl (yE rfl rfl) (oY rfl (yAI rfl) (oY rfl (yAI rfl) (oN (eT (cS (cR (oY rfl (yN 2 [vI y1.fPlaces,.slice A5 y1.fTracks.length c6] eK rfl rfl rfl) ?_))))))))))
 obtain ⟨y28,hy29,h⟩:=bOs h
 refine oC [.agg #[vI y1.fPlaces,.slice A5 y1.fTracks.length c6],vI 0,vI 4] _ _ _ rfl go_49 rfl (fun W2 hW2 => lq y1 0 4 y28 hy29 W2 A5 y1.fTracks.length c6 ys10 rfl ((RdL.row 0 rfl) W2 hW2) (NestL.at (PvL.nestL hP9 hV12 (fun W2 hW2 => ⟨hW2.below,trivial,hW2.mem (i:=1) rfl⟩)) W2 hW2) W (fun _ => True) (fun W3 hb => ⟨eI hW2.below hb,trivial⟩) ) ?_
 rintro ⟨⟨A32,n34,c33⟩,ys37,F38⟩ ⟨hn35,hP36,hV39⟩
 replace hn35 : n34 = y28.1.fH.length:=hn35; subst hn35
 try dsimp only [lna,lca,lsz,lss]
 refine oY rfl (aC rfl) (oY rfl (yE rfl rfl) (oY rfl (yE rfl rfl) ?_))
 refine aw ze_87 rfl (fun b40 => ?_)
 try dsimp only [lna,lca,lsz,lss]
 refine cw rfl (yS 8 [.slice A32 y28.1.fH.length c33] sz_87 rfl (nB rfl) rfl rfl rfl) (oY rfl (yAI rfl) (oN (eT (cS (cR (oY rfl (yN 2 [vI y1.fPlaces,.slice A5 y1.fTracks.length c6] eK rfl rfl rfl) ?_))))))
 obtain ⟨y41,hy42,h⟩:=bOs h
 refine oC [.agg #[vI y1.fPlaces,.slice A5 y1.fTracks.length c6],vI 0,vI 2,vI 4] _ _ _ rfl go_61 rfl (fun W2 hW2 => nl y1 0 2 4 y41 hy42 W2 A5 y1.fTracks.length c6 ys10 rfl ((RdL.row 0 rfl) W2 hW2) (NestL.at (PvL.nestL hP9 hV12 (fun W2 hW2 => ⟨hW2.below,trivial,hW2.mem (i:=1) rfl⟩)) W2 hW2) W (fun _ => True) (fun W3 hb => ⟨eI hW2.below hb,trivial⟩) ) ?_
 rintro ⟨⟨A45,n47,c46⟩,ys50,F51⟩ ⟨hn48,hP49,hV52⟩
 replace hn48 : n47 = y41.1.length:=hn48; subst hn48
 try dsimp only [lna,lca,lsz,lss]
 refine oY rfl (aC rfl) (oY rfl (yE rfl rfl) (oY rfl (yE rfl rfl) (oY rfl (yAS rfl) (oY rfl (yAI rfl) (oN (eT (cS (cR (oY rfl (yN 2 [vI y1.fPlaces,.slice A5 y1.fTracks.length c6] eK rfl rfl rfl) ?_)))))))))
 obtain ⟨y53,hy54,h⟩:=bOs h
 refine oC [.agg #[vI y1.fPlaces,.slice A5 y1.fTracks.length c6],vI 0,vI 2,vI 4,vI 5] _ _ _ rfl oM rfl (fun W2 hW2 => dh y1 0 2 4 5 y53 hy54 W2 A5 y1.fTracks.length c6 ys10 rfl ((RdL.row 0 rfl) W2 hW2) (NestL.at (PvL.nestL hP9 hV12 (fun W2 hW2 => ⟨hW2.below,trivial,hW2.mem (i:=1) rfl⟩)) W2 hW2) W (fun _ => True) (fun W3 hb => ⟨eI hW2.below hb,trivial⟩) ) ?_
 rintro ⟨⟨A57,n59,c58⟩,F61⟩ ⟨hn60,hV62⟩
 replace hn60 : n59 = y53.1.fLegs.length:=hn60; subst hn60
 try dsimp only [lna,lca,lsz,lss]
 refine oY rfl (aC rfl) (oY rfl (yE rfl rfl) (oY rfl (yE rfl rfl) ?_))
 refine aw gO rfl (fun b63 => ?_)
 try dsimp only [lna,lca,lsz,lss]
 refine cw rfl (yS 12 [.slice A57 y53.1.fLegs.length c58,vI y53.1.fA,vI y53.1.fToll] iD rfl (nB rfl) rfl rfl rfl) (oY rfl (yAI rfl) (oN (eT (cS (cR (oY rfl (yN 2 [vI y1.fPlaces,.slice A5 y1.fTracks.length c6] eK rfl rfl rfl) ?_))))))
 obtain ⟨y64,hy65,h⟩:=bOs h
 refine oY rfl (yC [.agg #[vI y1.fPlaces,.slice A5 y1.fTracks.length c6],vI 0,vI 2,vI 26,vI 0] go_19 rfl (fun W2 hW2 => jG y1 0 2 26 0 y64 hy65 W2 A5 y1.fTracks.length c6 ys10 rfl ((RdL.row 0 rfl) W2 hW2) (NestL.at (PvL.nestL hP9 hV12 (fun W2 hW2 => ⟨hW2.below,trivial,hW2.mem (i:=1) rfl⟩)) W2 hW2)) rfl) (oY rfl (aC rfl) (oY rfl (yE rfl rfl) (oY rfl (yE rfl rfl) (oY rfl (yAI rfl) (oY rfl (yAI rfl) (oN (eT (cS (cR (oY rfl (yN 2 [vI y1.fPlaces,.slice A5 y1.fTracks.length c6] eK rfl rfl rfl) ?_))))))))))
 obtain ⟨y66,hy67,h⟩:=bOs h
 refine oC [.agg #[vI y1.fPlaces,.slice A5 y1.fTracks.length c6],vI 0,vI 2,vI 4,vI 0] _ _ _ rfl go_23 rfl (fun W2 hW2 => jK y1 0 2 4 0 y66 hy67 W2 A5 y1.fTracks.length c6 ys10 rfl ((RdL.row 0 rfl) W2 hW2) (NestL.at (PvL.nestL hP9 hV12 (fun W2 hW2 => ⟨hW2.below,trivial,hW2.mem (i:=1) rfl⟩)) W2 hW2)) ?_
 rintro ⟨A68,n70,c69⟩ hn71
 replace hn71 : n70 = y66.1.length:=hn71; subst hn71
 try dsimp only [lna,lca,lsz,lss]
 refine oY rfl (aC rfl) (oY rfl (yE rfl rfl) (oY rfl (yE rfl rfl) (oY rfl (yAS rfl) (oY rfl (yAI rfl) (oN (eT (cS (cR (oY rfl (yN 2 [vI y1.fPlaces,.slice A5 y1.fTracks.length c6] eK rfl rfl rfl) ?_)))))))))
 obtain ⟨y72,hy73,h⟩:=bOs h
 refine oC [.agg #[vI y1.fPlaces,.slice A5 y1.fTracks.length c6],vI 0,vI 2,vI 4,vI 60] _ _ _ rfl go_23 rfl (fun W2 hW2 => jK y1 0 2 4 60 y72 hy73 W2 A5 y1.fTracks.length c6 ys10 rfl ((RdL.row 0 rfl) W2 hW2) (NestL.at (PvL.nestL hP9 hV12 (fun W2 hW2 => ⟨hW2.below,trivial,hW2.mem (i:=1) rfl⟩)) W2 hW2)) ?_
 rintro ⟨A74,n76,c75⟩ hn77
 replace hn77 : n76 = y72.1.length:=hn77; subst hn77
 try dsimp only [lna,lca,lsz,lss]
 refine oY rfl (aC rfl) (oY rfl (yE rfl rfl) (oY rfl (yE rfl rfl) (oY rfl (yAS rfl) (oY rfl (yAI rfl) (oN (eT (cS (cS (cR (oY rfl (yMI rfl) (oY rfl (dE rfl rfl) (oY rfl (yMB rfl) ?_))))))))))))
 refine oJ 3 (fun tm0 => (upd (upd (upd (upd (upd (upd (upd (upd (upd (upd (upd (upd (upd (upd (upd tm0 0 (.bool false)) 2 (.pointer (some ⟨b24,0,none⟩))) 3 (vI y26.1)) 5 (.pointer (some ⟨b40,0,none⟩))) 7 (.slice A45 y41.1.length c46)) 8 (vI y41.2)) 9 (.pointer (some ⟨b63,0,none⟩))) 10 (vI y53.2)) 11 (vI y64.1)) 12 (vI y64.2)) 13 (.slice A68 y66.1.length c69)) 14 (vI y66.2)) 15 (.slice A74 y72.1.length c75)) 16 (vI y72.2)) 74 (.bool ((y26.2 != 0) || (y28.2 != 0))))) (fun tm0 => ?_) (fun key => ?_)
 ·refine oY rfl (yMB rfl) ?_
  refine oJ 3 (fun tm0 => (upd (upd (upd (upd (upd (upd (upd (upd (upd (upd (upd (upd (upd (upd tm0 0 (.bool false)) 2 (.pointer (some ⟨b24,0,none⟩))) 3 (vI y26.1)) 5 (.pointer (some ⟨b40,0,none⟩))) 7 (.slice A45 y41.1.length c46)) 9 (.pointer (some ⟨b63,0,none⟩))) 10 (vI y53.2)) 11 (vI y64.1)) 12 (vI y64.2)) 13 (.slice A68 y66.1.length c69)) 14 (vI y66.2)) 15 (.slice A74 y72.1.length c75)) 16 (vI y72.2)) 78 (.bool (((y26.2 != 0) || (y28.2 != 0)) || (y41.2 != 0))))) (fun tm0 => ?_) (fun key => ?_)
  ·refine oY rfl (yMB rfl) ?_
   refine oJ 3 (fun tm0 => (upd (upd (upd (upd (upd (upd (upd (upd (upd (upd (upd (upd (upd tm0 0 (.bool false)) 2 (.pointer (some ⟨b24,0,none⟩))) 3 (vI y26.1)) 5 (.pointer (some ⟨b40,0,none⟩))) 7 (.slice A45 y41.1.length c46)) 9 (.pointer (some ⟨b63,0,none⟩))) 11 (vI y64.1)) 12 (vI y64.2)) 13 (.slice A68 y66.1.length c69)) 14 (vI y66.2)) 15 (.slice A74 y72.1.length c75)) 16 (vI y72.2)) 82 (.bool ((((y26.2 != 0) || (y28.2 != 0)) || (y41.2 != 0)) || (y53.2 != 0))))) (fun tm0 => ?_) (fun key => ?_)
   ·refine oY rfl (yMB rfl) ?_
    refine oJ 3 (fun tm0 => (upd (upd (upd (upd (upd (upd (upd (upd (upd (upd (upd (upd tm0 0 (.bool false)) 2 (.pointer (some ⟨b24,0,none⟩))) 3 (vI y26.1)) 5 (.pointer (some ⟨b40,0,none⟩))) 7 (.slice A45 y41.1.length c46)) 9 (.pointer (some ⟨b63,0,none⟩))) 11 (vI y64.1)) 13 (.slice A68 y66.1.length c69)) 14 (vI y66.2)) 15 (.slice A74 y72.1.length c75)) 16 (vI y72.2)) 86 (.bool (((((y26.2 != 0) || (y28.2 != 0)) || (y41.2 != 0)) || (y53.2 != 0)) || (y64.2 != 0))))) (fun tm0 => ?_) (fun key => ?_)
    ·refine oY rfl (yMB rfl) ?_
     refine oJ 3 (fun tm0 => (upd (upd (upd (upd (upd (upd (upd (upd (upd (upd (upd tm0 0 (.bool false)) 2 (.pointer (some ⟨b24,0,none⟩))) 3 (vI y26.1)) 5 (.pointer (some ⟨b40,0,none⟩))) 7 (.slice A45 y41.1.length c46)) 9 (.pointer (some ⟨b63,0,none⟩))) 11 (vI y64.1)) 13 (.slice A68 y66.1.length c69)) 15 (.slice A74 y72.1.length c75)) 16 (vI y72.2)) 90 (.bool ((((((y26.2 != 0) || (y28.2 != 0)) || (y41.2 != 0)) || (y53.2 != 0)) || (y64.2 != 0)) || (y66.2 != 0))))) (fun tm0 => ?_) (fun key => ?_)
     ·refine oY rfl (yMB rfl) ?_
      refine oJ 3 (fun tm0 => (upd (upd (upd (upd (upd (upd (upd (upd (upd (upd tm0 0 (.bool false)) 2 (.pointer (some ⟨b24,0,none⟩))) 3 (vI y26.1)) 5 (.pointer (some ⟨b40,0,none⟩))) 7 (.slice A45 y41.1.length c46)) 9 (.pointer (some ⟨b63,0,none⟩))) 11 (vI y64.1)) 13 (.slice A68 y66.1.length c69)) 15 (.slice A74 y72.1.length c75)) 94 (.bool (((((((y26.2 != 0) || (y28.2 != 0)) || (y41.2 != 0)) || (y53.2 != 0)) || (y64.2 != 0)) || (y66.2 != 0)) || (y72.2 != 0))))) (fun tm0 => ?_) (fun key => ?_)
      ·refine oY rfl (yMB rfl) ?_
       refine oJ 3 (fun tm0 => (upd (upd (upd (upd (upd (upd (upd (upd (upd tm0 0 (.bool false)) 2 (.pointer (some ⟨b24,0,none⟩))) 5 (.pointer (some ⟨b40,0,none⟩))) 7 (.slice A45 y41.1.length c46)) 9 (.pointer (some ⟨b63,0,none⟩))) 11 (vI y64.1)) 13 (.slice A68 y66.1.length c69)) 15 (.slice A74 y72.1.length c75)) 98 (.bool ((((((((y26.2 != 0) || (y28.2 != 0)) || (y41.2 != 0)) || (y53.2 != 0)) || (y64.2 != 0)) || (y66.2 != 0)) || (y72.2 != 0)) || (y26.1 != 21))))) (fun tm0 => ?_) (fun key => ?_)
       ·refine oY rfl (yMB rfl) ?_
        refine oJ 5 (fun tm0 => (upd (upd (upd (upd (upd (upd (upd (upd (upd tm0 0 (.bool false)) 2 (.pointer (some ⟨b24,0,none⟩))) 5 (.pointer (some ⟨b40,0,none⟩))) 7 (.slice A45 y41.1.length c46)) 9 (.pointer (some ⟨b63,0,none⟩))) 11 (vI y64.1)) 13 (.slice A68 y66.1.length c69)) 15 (.slice A74 y72.1.length c75)) 104 (.bool (((((((((y26.2 != 0) || (y28.2 != 0)) || (y41.2 != 0)) || (y53.2 != 0)) || (y64.2 != 0)) || (y66.2 != 0)) || (y72.2 != 0)) || (y26.1 != 21)) || ((y28.1.fH.length:Int) != 3))))) (fun tm0 => ?_) (fun key => ?_)
        ·refine oY rfl (yMB rfl) ?_
         obtain ⟨b87,hb88,h⟩:=bOs h
         refine oJ 7 (fun tm0 => (upd (upd (upd (upd (upd (upd (upd (upd (upd tm0 0 (.bool false)) 2 (.pointer (some ⟨b24,0,none⟩))) 5 (.pointer (some ⟨b40,0,none⟩))) 7 (.slice A45 y41.1.length c46)) 9 (.pointer (some ⟨b63,0,none⟩))) 11 (vI y64.1)) 13 (.slice A68 y66.1.length c69)) 15 (.slice A74 y72.1.length c75)) 112 (.bool b87))) (fun tm0 => ?_) (fun key => ?_)
         ·refine oY rfl (yMB rfl) ?_
          refine oJ 4 (fun tm0 => (upd (upd (upd (upd (upd (upd (upd (upd (upd tm0 0 (.bool false)) 2 (.pointer (some ⟨b24,0,none⟩))) 5 (.pointer (some ⟨b40,0,none⟩))) 7 (.slice A45 y41.1.length c46)) 9 (.pointer (some ⟨b63,0,none⟩))) 11 (vI y64.1)) 13 (.slice A68 y66.1.length c69)) 15 (.slice A74 y72.1.length c75)) 117 (.bool (b87 || ((y41.1.length:Int) != 3))))) (fun tm0 => ?_) (fun key => ?_)
          ·refine oN (eT ?_)
           rcases iOs h with ⟨hp90,h⟩ | ⟨hp90,h⟩
           ·refine cT (vB hp90) (cS (cR (oY rfl (yAB rfl) (oN (eT (al (aa ?_)))))))
            obtain rfl:=sI h
            exact ak (.inl rfl) rfl (rVt (v:=.bool false) rfl) (fun W2 hW2 => ⟨rfl,hW2.none⟩)
           ·refine cF (vB hp90) (cK (eT (cS (cR (oY rfl (yFA jS rfl) (oY rfl (yL 8 qD rfl rfl rfl) ?_))))))
            obtain ⟨hg91,h⟩:=gOs h
            refine oY rfl (yI sl_85 (by decide) hg91.1 hg91.2 (RdL.row 6 rfl) (eL bk (NestP.hn hP36 rfl)) rfl rfl) ?_
            refine oY rfl (yR (A:=A32) (j:=(Int.toNat 2 * 1)) (v:=.slice ((rdL ys37 2).1.1) ((rdL y28.1.fH 2).length) ((rdL ys37 2).1.2.2)) oI (RdL.row 6 rfl) rfl (aR bk hg91.1 (az hg91.2 (NestP.hn hP36 rfl)) (congrArg (fun n : Nat => some (Value.slice (rdL ys37 2).1.1 n (rdL ys37 2).1.2.2)) (NestP.len hP36 hg91.1 (az hg91.2 rfl))))) ?_
            obtain ⟨hg92,h⟩:=gOs h
            refine oY rfl (yI dI (by decide) hg92.1 hg92.2 (NestL.rd (PvL.nestL hP36 hV39 (fun W2 hW2 => ⟨hW2.below,trivial,hW2.mem (i:=7) rfl⟩)) hg91.1 (az hg91.2 rfl)) (eL aD rfl) rfl rfl) ?_
            refine oY rfl (yR (A:=((rdL ys37 2).1.1)) (j:=(Int.toNat 0 * 1)) (v:=vI (rdL (rdL y28.1.fH 2) 0)) bd (NestL.rd (PvL.nestL hP36 hV39 (fun W2 hW2 => ⟨hW2.below,trivial,hW2.mem (i:=7) rfl⟩)) hg91.1 (az hg91.2 rfl)) rfl (aR aD hg92.1 (az hg92.2 rfl) rfl)) (oY rfl (dk rfl rfl) (oY rfl (yMB rfl) ?_))
            obtain ⟨b94,hb95,h⟩:=bOs h
            refine oJ 8 (fun tm0 => (upd (upd (upd (upd (upd (upd (upd (upd (upd tm0 0 (.bool false)) 2 (.pointer (some ⟨b24,0,none⟩))) 5 (.pointer (some ⟨b40,0,none⟩))) 7 (.slice A45 y41.1.length c46)) 9 (.pointer (some ⟨b63,0,none⟩))) 11 (vI y64.1)) 13 (.slice A68 y66.1.length c69)) 15 (.slice A74 y72.1.length c75)) 133 (.bool b94))) (fun tm0 => ?_) (fun key => ?_)
            ·refine oY rfl (yMB rfl) ?_
             obtain ⟨b97,hb98,h⟩:=bOs h
             refine oJ 8 (fun tm0 => (upd (upd (upd (upd (upd (upd (upd (upd tm0 0 (.bool false)) 2 (.pointer (some ⟨b24,0,none⟩))) 7 (.slice A45 y41.1.length c46)) 9 (.pointer (some ⟨b63,0,none⟩))) 11 (vI y64.1)) 13 (.slice A68 y66.1.length c69)) 15 (.slice A74 y72.1.length c75)) 142 (.bool b97))) (fun tm0 => ?_) (fun key => ?_)
             ·refine oY rfl (yMB rfl) ?_
              obtain ⟨b100,hb101,h⟩:=bOs h
              refine oJ 6 (fun tm0 => (upd (upd (upd (upd (upd (upd (upd (upd tm0 0 (.bool false)) 2 (.pointer (some ⟨b24,0,none⟩))) 7 (.slice A45 y41.1.length c46)) 9 (.pointer (some ⟨b63,0,none⟩))) 11 (vI y64.1)) 13 (.slice A68 y66.1.length c69)) 15 (.slice A74 y72.1.length c75)) 149 (.bool b100))) (fun tm0 => ?_) (fun key => ?_)
              ·refine oY rfl (yMB rfl) ?_
               obtain ⟨b103,hb104,h⟩:=bOs h
               refine oJ 6 (fun tm0 => (upd (upd (upd (upd (upd (upd (upd (upd tm0 0 (.bool false)) 2 (.pointer (some ⟨b24,0,none⟩))) 7 (.slice A45 y41.1.length c46)) 9 (.pointer (some ⟨b63,0,none⟩))) 11 (vI y64.1)) 13 (.slice A68 y66.1.length c69)) 15 (.slice A74 y72.1.length c75)) 156 (.bool b103))) (fun tm0 => ?_) (fun key => ?_)
               ·refine oY rfl (yMB rfl) ?_
                obtain ⟨b106,hb107,h⟩:=bOs h
                refine oJ 6 (fun tm0 => (upd (upd (upd (upd (upd (upd (upd tm0 0 (.bool false)) 2 (.pointer (some ⟨b24,0,none⟩))) 9 (.pointer (some ⟨b63,0,none⟩))) 11 (vI y64.1)) 13 (.slice A68 y66.1.length c69)) 15 (.slice A74 y72.1.length c75)) 163 (.bool b106))) (fun tm0 => ?_) (fun key => ?_)
                ·refine oY rfl (yMB rfl) ?_
                 refine oJ 4 (fun tm0 => (upd (upd (upd (upd (upd (upd tm0 0 (.bool false)) 2 (.pointer (some ⟨b24,0,none⟩))) 11 (vI y64.1)) 13 (.slice A68 y66.1.length c69)) 15 (.slice A74 y72.1.length c75)) 168 (.bool (b106 && (y53.1.fA == 17))))) (fun tm0 => ?_) (fun key => ?_)
                 ·refine oY rfl (yMB rfl) ?_
                  refine oJ 3 (fun tm0 => (upd (upd (upd (upd (upd tm0 0 (.bool false)) 2 (.pointer (some ⟨b24,0,none⟩))) 13 (.slice A68 y66.1.length c69)) 15 (.slice A74 y72.1.length c75)) 172 (.bool ((b106 && (y53.1.fA == 17)) && (y64.1 == 16))))) (fun tm0 => ?_) (fun key => ?_)
                  ·refine oY rfl (yMB rfl) ?_
                   obtain ⟨b111,hb112,h⟩:=bOs h
                   refine oJ 4 (fun tm0 => (upd (upd (upd (upd tm0 0 (.bool false)) 2 (.pointer (some ⟨b24,0,none⟩))) 15 (.slice A74 y72.1.length c75)) 177 (.bool b111))) (fun tm0 => ?_) (fun key => ?_)
                   ·refine oY rfl (yMB rfl) ?_
                    obtain ⟨b114,hb115,h⟩:=bOs h
                    refine oJ 4 (fun tm0 => (upd (upd (upd tm0 0 (.bool false)) 2 (.pointer (some ⟨b24,0,none⟩))) 182 (.bool b114))) (fun tm0 => ?_) (fun key => ?_)
                    ·refine oY rfl (yAB rfl) (oN (eT (cS (cR (oY rfl (yN 5 [.slice A16 y14.fB.length c17,.slice A18 y14.fR.length c19] cQ rfl rfl rfl) ?_)))))
                     obtain ⟨y116,hy117,h⟩:=bOs h
                     refine oC [.agg #[.slice A16 y14.fB.length c17,.slice A18 y14.fR.length c19]] _ _ _ rfl go_37 rfl (fun W2 hW2 => nw y14 y116 hy117 W2 A16 y14.fB.length c17 rfl ((RdL.row 3 rfl) W2 hW2) A18 y14.fR.length c19 rfl ((RdL.row 4 rfl) W2 hW2)) ?_
                     rintro ⟨⟨A118,n122,c119⟩,⟨A120,n124,c121⟩⟩ ⟨hn123,hn125⟩
                     replace hn123 : n122 = y116.1.fG.length:=hn123; subst hn123
                     replace hn125 : n124 = y116.1.fPrices.length:=hn125; subst hn125
                     try dsimp only [lna,lca,lsz,lss]
                     refine oY rfl (aC rfl) (oY rfl (yE rfl rfl) (oY rfl (yE rfl rfl) ?_))
                     refine aw qd rfl (fun b126 => ?_)
                     try dsimp only [lna,lca,lsz,lss]
                     refine cw rfl (yS 17 [.slice A118 y116.1.fG.length c119,vI y116.1.fW,.slice A120 y116.1.fPrices.length c121] si rfl (nB rfl) rfl rfl rfl) (oY rfl (yAI rfl) (oN (eT (cS (cR (oY rfl (yN 5 [.slice A16 y14.fB.length c17,.slice A18 y14.fR.length c19] cQ rfl rfl rfl) ?_))))))
                     obtain ⟨y127,hy128,h⟩:=bOs h
                     refine oC [.agg #[.slice A16 y14.fB.length c17,.slice A18 y14.fR.length c19]] _ _ _ rfl go_27 rfl (fun W2 hW2 => mO y14 y127 hy128 W2 A16 y14.fB.length c17 rfl ((RdL.row 3 rfl) W2 hW2) A18 y14.fR.length c19 rfl ((RdL.row 4 rfl) W2 hW2)) ?_
                     rintro ⟨A129,n131,c130⟩ hn132
                     replace hn132 : n131 = y127.1.length:=hn132; subst hn132
                     try dsimp only [lna,lca,lsz,lss]
                     refine oY rfl (aC rfl) (oY rfl (yE rfl rfl) (oY rfl (yE rfl rfl) (oY rfl (yAS rfl) (oY rfl (yAI rfl) (oN (eT (cS (cR (oY rfl (yN 5 [.slice A16 y14.fB.length c17,.slice A18 y14.fR.length c19] cQ rfl rfl rfl) ?_)))))))))
                     obtain ⟨y133,hy134,h⟩:=bOs h
                     refine oC [.agg #[.slice A16 y14.fB.length c17,.slice A18 y14.fR.length c19]] _ _ _ rfl go_29 rfl (fun W2 hW2 => nj y14 y133 hy134 W2 A16 y14.fB.length c17 rfl ((RdL.row 3 rfl) W2 hW2) A18 y14.fR.length c19 rfl ((RdL.row 4 rfl) W2 hW2)) ?_
                     rintro ⟨A135,n137,c136⟩ hn138
                     replace hn138 : n137 = y133.1.length:=hn138; subst hn138
                     try dsimp only [lna,lca,lsz,lss]
                     refine oY rfl (aC rfl) (oY rfl (yE rfl rfl) (oY rfl (yE rfl rfl) (oY rfl (yAS rfl) (oY rfl (yAI rfl) (oN (eT (cS (cR (oY rfl (yN 5 [.slice A16 y14.fB.length c17,.slice A18 y14.fR.length c19] cQ rfl rfl rfl) ?_)))))))))
                     refine aI 3 (encL cI [7,8,9]) _ mc_3_3 dp li np (by decide) (by decide) (by kernel_rfl) (eL aD rfl) rfl (fun b139 => ?_)
                     try dsimp only [lna,lca,lsz,lss]
                     obtain ⟨y140,hy141,h⟩:=bOs h
                     refine oC [.agg #[.slice A16 y14.fB.length c17,.slice A18 y14.fR.length c19],.slice (some ⟨b139,0,none⟩) 3 3] _ _ _ rfl go_31 rfl (fun W2 hW2 => lX y14 [7,8,9] y140 hy141 W2 A16 y14.fB.length c17 rfl ((RdL.row 3 rfl) W2 hW2) A18 y14.fR.length c19 rfl ((RdL.row 4 rfl) W2 hW2) (some ⟨b139,0,none⟩) 3 3 rfl ((RdL.row 20 rfl) W2 hW2)) ?_
                     rintro ⟨A142,n144,c143⟩ hn145
                     replace hn145 : n144 = y140.1.length:=hn145; subst hn145
                     try dsimp only [lna,lca,lsz,lss]
                     refine oY rfl (aC rfl) (oY rfl (yE rfl rfl) (oY rfl (yE rfl rfl) (oY rfl (yAS rfl) (oY rfl (yAI rfl) (oN (eT (cS (cR (oY rfl (yN 5 [.slice A16 y14.fB.length c17,.slice A18 y14.fR.length c19] cQ rfl rfl rfl) ?_)))))))))
                     obtain ⟨y146,hy147,h⟩:=bOs h
                     refine oY rfl (yC [.agg #[.slice A16 y14.fB.length c17,.slice A18 y14.fR.length c19],vI 1] go_33 rfl (fun W2 hW2 => oR y14 1 y146 hy147 W2 A16 y14.fB.length c17 rfl ((RdL.row 3 rfl) W2 hW2) A18 y14.fR.length c19 rfl ((RdL.row 4 rfl) W2 hW2)) rfl) (oY rfl (aC rfl) (oY rfl (yE rfl rfl) (oY rfl (yE rfl rfl) (oY rfl (yAI rfl) (oY rfl (yAI rfl) (oN (eT (cS (cR (oY rfl (yMI rfl) (oY rfl (dk rfl rfl) (oY rfl (yMB rfl) ?_))))))))))))
                     refine oJ 4 (fun tm0 => (upd (upd (upd (upd (upd (upd (upd (upd (upd (upd (upd (upd (upd tm0 0 (.bool false)) 2 (.pointer (some ⟨b24,0,none⟩))) 17 (.bool b114)) 18 (.pointer (some ⟨b126,0,none⟩))) 20 (.slice A129 y127.1.length c130)) 21 (vI y127.2)) 22 (.slice A135 y133.1.length c136)) 23 (vI y133.2)) 24 (.slice A142 y140.1.length c143)) 25 (vI y140.2)) 26 (vI y146.1)) 27 (vI y146.2)) 215 (.bool ((y116.2 == 0) && (y116.1.fW == 14))))) (fun tm0 => ?_) (fun key => ?_)
                     ·refine oY rfl (yMB rfl) ?_
                      obtain ⟨b150,hb151,h⟩:=bOs h
                      refine oJ 5 (fun tm0 => (upd (upd (upd (upd (upd (upd (upd (upd (upd (upd (upd tm0 0 (.bool false)) 17 (.bool b114)) 20 (.slice A129 y127.1.length c130)) 21 (vI y127.2)) 22 (.slice A135 y133.1.length c136)) 23 (vI y133.2)) 24 (.slice A142 y140.1.length c143)) 25 (vI y140.2)) 26 (vI y146.1)) 27 (vI y146.2)) 221 (.bool b150))) (fun tm0 => ?_) (fun key => ?_)
                      ·refine oY rfl (yMB rfl) ?_
                       refine oJ 3 (fun tm0 => (upd (upd (upd (upd (upd (upd (upd (upd (upd (upd tm0 0 (.bool false)) 17 (.bool b114)) 20 (.slice A129 y127.1.length c130)) 22 (.slice A135 y133.1.length c136)) 23 (vI y133.2)) 24 (.slice A142 y140.1.length c143)) 25 (vI y140.2)) 26 (vI y146.1)) 27 (vI y146.2)) 225 (.bool (b150 && (y127.2 == 0))))) (fun tm0 => ?_) (fun key => ?_)
                       ·refine oY rfl (yMB rfl) ?_
                        obtain ⟨b154,hb155,h⟩:=bOs h
                        refine oJ 4 (fun tm0 => (upd (upd (upd (upd (upd (upd (upd (upd (upd tm0 0 (.bool false)) 17 (.bool b114)) 22 (.slice A135 y133.1.length c136)) 23 (vI y133.2)) 24 (.slice A142 y140.1.length c143)) 25 (vI y140.2)) 26 (vI y146.1)) 27 (vI y146.2)) 230 (.bool b154))) (fun tm0 => ?_) (fun key => ?_)
                        ·refine oY rfl (yMB rfl) ?_
                         refine oJ 3 (fun tm0 => (upd (upd (upd (upd (upd (upd (upd (upd tm0 0 (.bool false)) 17 (.bool b114)) 22 (.slice A135 y133.1.length c136)) 24 (.slice A142 y140.1.length c143)) 25 (vI y140.2)) 26 (vI y146.1)) 27 (vI y146.2)) 234 (.bool (b154 && (y133.2 == 0))))) (fun tm0 => ?_) (fun key => ?_)
                         ·refine oY rfl (yMB rfl) ?_
                          obtain ⟨b158,hb159,h⟩:=bOs h
                          refine oJ 4 (fun tm0 => (upd (upd (upd (upd (upd (upd (upd tm0 0 (.bool false)) 17 (.bool b114)) 24 (.slice A142 y140.1.length c143)) 25 (vI y140.2)) 26 (vI y146.1)) 27 (vI y146.2)) 239 (.bool b158))) (fun tm0 => ?_) (fun key => ?_)
                          ·refine oY rfl (yAB rfl) (oN (eT (cS (cR (oY rfl (yMB rfl) (oY rfl (yMB rfl) ?_))))))
                           refine oJ 2 (fun tm0 => (upd (upd (upd (upd (upd (upd tm0 0 (.bool false)) 24 (.slice A142 y140.1.length c143)) 25 (vI y140.2)) 26 (vI y146.1)) 27 (vI y146.2)) 243 (.bool (b114 && b158)))) (fun tm0 => ?_) (fun key => ?_)
                           ·refine oY rfl (yMB rfl) ?_
                            refine oJ 3 (fun tm0 => (upd (upd (upd (upd (upd tm0 0 (.bool false)) 24 (.slice A142 y140.1.length c143)) 26 (vI y146.1)) 27 (vI y146.2)) 247 (.bool ((b114 && b158) && (y140.2 == 0))))) (fun tm0 => ?_) (fun key => ?_)
                            ·refine oY rfl (yMB rfl) ?_
                             obtain ⟨b163,hb164,h⟩:=bOs h
                             refine oJ 4 (fun tm0 => (upd (upd (upd (upd tm0 0 (.bool false)) 26 (vI y146.1)) 27 (vI y146.2)) 252 (.bool b163))) (fun tm0 => ?_) (fun key => ?_)
                             ·refine oY rfl (yMB rfl) ?_
                              refine oJ 3 (fun tm0 => (upd (upd (upd tm0 0 (.bool false)) 26 (vI y146.1)) 256 (.bool (b163 && (y146.2 == 0))))) (fun tm0 => ?_) (fun key => ?_)
                              ·refine oY rfl (yMB rfl) ?_
                               refine oJ 3 (fun tm0 => (upd (upd tm0 0 (.bool false)) 260 (.bool ((b163 && (y146.2 == 0)) && (y146.1 == 5))))) (fun tm0 => ?_) (fun key => ?_)
                               ·refine oY rfl (yAB rfl) (oN (eT (al ?_)))
                                obtain rfl:=sI h
                                exact ak (.inl rfl) rfl (rVt (v:=.bool ((b163 && (y146.2 == 0)) && (y146.1 == 5))) rfl) (fun W2 hW2 => ⟨rfl,hW2.none⟩)
                               ·rcases am (b163 && (y146.2 == 0)) with hp166 | hp166
                                ·refine oY (sT rfl rfl rfl rfl hp166) (yMI rfl) (oY (sT rfl rfl rfl rfl hp166) (dk rfl rfl) (oY rfl (ac (vB hp166) rfl) ?_))
                                 exact key _ _ (keep (keep rfl rfl) (vB (fZ hp166)))
                                ·refine oSk (sF rfl rfl rfl rfl hp166) (oSk (sF rfl rfl rfl rfl hp166) (oY rfl (ad (vB hp166) rfl) ?_))
                                 exact key _ _ (keep (keep rfl rfl) (vB (fU hp166)))
                              ·rcases am b163 with hp165 | hp165
                               ·refine oY (sT rfl rfl rfl rfl hp165) (yMI rfl) (oY (sT rfl rfl rfl rfl hp165) (dk rfl rfl) (oY rfl (ac (vB hp165) rfl) ?_))
                                exact key _ _ (keep (keep (keep rfl rfl) rfl) (vB (fZ hp165)))
                               ·refine oSk (sF rfl rfl rfl rfl hp165) (oSk (sF rfl rfl rfl rfl hp165) (oY rfl (ad (vB hp165) rfl) ?_))
                                exact key _ _ (keep (keep (keep rfl rfl) rfl) (vB (fU hp165)))
                             ·clear h; rcases iOs hb164 with ⟨hp162,h⟩ | ⟨hp162,h⟩
                              ·refine oY (sT rfl rfl rfl rfl hp162) (yMS rfl) ?_
                               refine aI 2 (encL cI [8,9]) _ rT dp li np (by decide) (by decide) (by kernel_rfl) (eL aD rfl) (sT rfl rfl rfl rfl hp162) (fun b167 => ?_)
                               try dsimp only [lna,lca,lsz,lss]
                               obtain ⟨y168,hy169,h⟩:=bOs h
                               refine oY (sT rfl rfl rfl rfl hp162) (yC [.slice A142 y140.1.length c143,.slice (some ⟨b167,0,none⟩) 2 2] se rfl (fun W2 hW2 => de y140.1 [8,9] y168 hy169 W2 A142 y140.1.length c143 rfl ((RdL.row 21 rfl) W2 hW2) (some ⟨b167,0,none⟩) 2 2 rfl ((RdL.row 22 rfl) W2 hW2)) rfl) (oY rfl (ac (vB hp162) rfl) ?_)
                               obtain rfl:=sI h
                               refine mi 22 ?_
                               exact key _ _ (kp4 rfl)
                              ·refine oSk (sF rfl rfl rfl rfl hp162) (oSk (sF rfl rfl rfl rfl hp162) (oSk (sF rfl rfl rfl rfl hp162) (oY rfl (ad (vB hp162) rfl) ?_)))
                               obtain rfl:=sI h
                               exact key _ _ (kp4 rfl)
                            ·rcases am (b114 && b158) with hp161 | hp161
                             ·refine oY (sT rfl rfl rfl rfl hp161) (yMI rfl) (oY (sT rfl rfl rfl rfl hp161) (dk rfl rfl) (oY rfl (ac (vB hp161) rfl) ?_))
                              exact key _ _ (keep (keep (keep (keep (keep rfl rfl) rfl) rfl) rfl) (vB (fZ hp161)))
                             ·refine oSk (sF rfl rfl rfl rfl hp161) (oSk (sF rfl rfl rfl rfl hp161) (oY rfl (ad (vB hp161) rfl) ?_))
                              exact key _ _ (keep (keep (keep (keep (keep rfl rfl) rfl) rfl) rfl) (vB (fU hp161)))
                           ·rcases am b114 with hp160 | hp160
                            ·refine oY (sT rfl rfl rfl rfl hp160) (yMB rfl) (oY rfl (ac (vB hp160) rfl) ?_)
                             exact key _ _ (keep (keep (keep (keep (keep (keep rfl rfl) rfl) rfl) rfl) rfl) (vB (fZ hp160)))
                            ·refine oSk (sF rfl rfl rfl rfl hp160) (oY rfl (ad (vB hp160) rfl) ?_)
                             exact key _ _ (keep (keep (keep (keep (keep (keep rfl rfl) rfl) rfl) rfl) rfl) (vB (fU hp160)))
                          ·clear h; rcases iOs hb159 with ⟨hp157,h⟩ | ⟨hp157,h⟩
                           ·refine oY (sT rfl rfl rfl rfl hp157) (yMS rfl) ?_
                            refine aI 1 (encL cI [9]) _ mp dp li np (by decide) (by decide) (by kernel_rfl) (eL aD rfl) (sT rfl rfl rfl rfl hp157) (fun b170 => ?_)
                            try dsimp only [lna,lca,lsz,lss]
                            obtain ⟨y171,hy172,h⟩:=bOs h
                            refine oY (sT rfl rfl rfl rfl hp157) (yC [.slice A135 y133.1.length c136,.slice (some ⟨b170,0,none⟩) 1 1] se rfl (fun W2 hW2 => de y133.1 [9] y171 hy172 W2 A135 y133.1.length c136 rfl ((RdL.row 19 rfl) W2 hW2) (some ⟨b170,0,none⟩) 1 1 rfl ((RdL.row 22 rfl) W2 hW2)) rfl) (oY rfl (ac (vB hp157) rfl) ?_)
                            obtain rfl:=sI h
                            refine mi 22 ?_
                            exact key _ _ (kp4 (kp (kp (kp rfl))))
                           ·refine oSk (sF rfl rfl rfl rfl hp157) (oSk (sF rfl rfl rfl rfl hp157) (oSk (sF rfl rfl rfl rfl hp157) (oY rfl (ad (vB hp157) rfl) ?_)))
                            obtain rfl:=sI h
                            exact key _ _ (kp4 (kp (kp (kp rfl))))
                         ·rcases am b154 with hp156 | hp156
                          ·refine oY (sT rfl rfl rfl rfl hp156) (yMI rfl) (oY (sT rfl rfl rfl rfl hp156) (dk rfl rfl) (oY rfl (ac (vB hp156) rfl) ?_))
                           exact key _ _ (keep (keep (keep (keep (keep (keep (keep (keep rfl rfl) rfl) rfl) rfl) rfl) rfl) rfl) (vB (fZ hp156)))
                          ·refine oSk (sF rfl rfl rfl rfl hp156) (oSk (sF rfl rfl rfl rfl hp156) (oY rfl (ad (vB hp156) rfl) ?_))
                           exact key _ _ (keep (keep (keep (keep (keep (keep (keep (keep rfl rfl) rfl) rfl) rfl) rfl) rfl) rfl) (vB (fU hp156)))
                        ·clear h; rcases iOs hb155 with ⟨hp153,h⟩ | ⟨hp153,h⟩
                         ·refine oY (sT rfl rfl rfl rfl hp153) (yMS rfl) ?_
                          refine aI 2 (encL cI [7,8]) _ rT dp li np (by decide) (by decide) (by kernel_rfl) (eL aD rfl) (sT rfl rfl rfl rfl hp153) (fun b173 => ?_)
                          try dsimp only [lna,lca,lsz,lss]
                          obtain ⟨y174,hy175,h⟩:=bOs h
                          refine oY (sT rfl rfl rfl rfl hp153) (yC [.slice A129 y127.1.length c130,.slice (some ⟨b173,0,none⟩) 2 2] se rfl (fun W2 hW2 => de y127.1 [7,8] y174 hy175 W2 A129 y127.1.length c130 rfl ((RdL.row 18 rfl) W2 hW2) (some ⟨b173,0,none⟩) 2 2 rfl ((RdL.row 22 rfl) W2 hW2)) rfl) (oY rfl (ac (vB hp153) rfl) ?_)
                          obtain rfl:=sI h
                          refine mi 22 ?_
                          exact key _ _ (kp4 (kp4 (kp rfl)))
                         ·refine oSk (sF rfl rfl rfl rfl hp153) (oSk (sF rfl rfl rfl rfl hp153) (oSk (sF rfl rfl rfl rfl hp153) (oY rfl (ad (vB hp153) rfl) ?_)))
                          obtain rfl:=sI h
                          exact key _ _ (kp4 (kp4 (kp rfl)))
                       ·rcases am b150 with hp152 | hp152
                        ·refine oY (sT rfl rfl rfl rfl hp152) (yMI rfl) (oY (sT rfl rfl rfl rfl hp152) (dk rfl rfl) (oY rfl (ac (vB hp152) rfl) ?_))
                         exact key _ _ (keep (keep (keep (keep (keep (keep (keep (keep (keep (keep rfl rfl) rfl) rfl) rfl) rfl) rfl) rfl) rfl) rfl) (vB (fZ hp152)))
                        ·refine oSk (sF rfl rfl rfl rfl hp152) (oSk (sF rfl rfl rfl rfl hp152) (oY rfl (ad (vB hp152) rfl) ?_))
                         exact key _ _ (keep (keep (keep (keep (keep (keep (keep (keep (keep (keep rfl rfl) rfl) rfl) rfl) rfl) rfl) rfl) rfl) rfl) (vB (fU hp152)))
                      ·clear h; rcases iOs hb151 with ⟨hp149,h⟩ | ⟨hp149,h⟩
                       ·refine oY (sT rfl rfl rfl rfl hp149) (yN 5 [.slice A16 y14.fB.length c17,.slice A18 y14.fR.length c19] cQ rfl rfl rfl) (oY (sT rfl rfl rfl rfl hp149) (yN 17 [.slice A118 y116.1.fG.length c119,vI y116.1.fW,.slice A120 y116.1.fPrices.length c121] rc rfl rfl rfl) ?_)
                        obtain ⟨y176,hy177,h⟩:=bOs h
                        refine oY (sT rfl rfl rfl rfl hp149) (yC [.agg #[.slice A16 y14.fB.length c17,.slice A18 y14.fR.length c19],.agg #[.slice A118 y116.1.fG.length c119,vI y116.1.fW,.slice A120 y116.1.fPrices.length c121]] go_44 rfl (fun W2 hW2 => kv y14 y116.1 y176 hy177 W2 A16 y14.fB.length c17 rfl ((RdL.row 3 rfl) W2 hW2) A18 y14.fR.length c19 rfl ((RdL.row 4 rfl) W2 hW2) A118 y116.1.fG.length c119 rfl ((RdL.row 15 rfl) W2 hW2) A120 y116.1.fPrices.length c121 rfl ((RdL.row 16 rfl) W2 hW2)) rfl) (oY (sT rfl rfl rfl rfl hp149) (dk rfl rfl) (oY rfl (ac (vB hp149) rfl) ?_))
                        obtain rfl:=sI h
                        exact key _ _ (kp4 (kp4 (kp (kp (kp rfl)))))
                       ·refine oSk (sF rfl rfl rfl rfl hp149) (oSk (sF rfl rfl rfl rfl hp149) (oSk (sF rfl rfl rfl rfl hp149) (oSk (sF rfl rfl rfl rfl hp149) (oY rfl (ad (vB hp149) rfl) ?_))))
                        obtain rfl:=sI h
                        exact key _ _ (kp4 (kp4 (kp (kp (kp rfl)))))
                     ·rcases am (y116.2 == 0) with hp148 | hp148
                      ·refine oY (sT rfl rfl rfl rfl hp148) (yFA nC rfl) (oY (sT rfl rfl rfl rfl hp148) (yL 17 bd rfl rfl rfl) (oY (sT rfl rfl rfl rfl hp148) (dk rfl rfl) (oY rfl (ac (vB hp148) rfl) ?_)))
                       exact key _ _ (keep (keep (keep (keep (keep (keep (keep (keep (keep (keep (keep (keep (keep rfl rfl) rfl) rfl) rfl) rfl) rfl) rfl) rfl) rfl) rfl) rfl) rfl) (vB (fZ hp148)))
                      ·refine oSk (sF rfl rfl rfl rfl hp148) (oSk (sF rfl rfl rfl rfl hp148) (oSk (sF rfl rfl rfl rfl hp148) (oY rfl (ad (vB hp148) rfl) ?_)))
                       exact key _ _ (keep (keep (keep (keep (keep (keep (keep (keep (keep (keep (keep (keep (keep rfl rfl) rfl) rfl) rfl) rfl) rfl) rfl) rfl) rfl) rfl) rfl) rfl) (vB (fU hp148)))
                    ·clear h; rcases iOs hb115 with ⟨hp113,h⟩ | ⟨hp113,h⟩
                     ·refine oY (sT rfl rfl rfl rfl hp113) (yMS rfl) ?_
                      refine aI 1 (encL cI [3]) _ mp dp li np (by decide) (by decide) (by kernel_rfl) (eL aD rfl) (sT rfl rfl rfl rfl hp113) (fun b178 => ?_)
                      try dsimp only [lna,lca,lsz,lss]
                      obtain ⟨y179,hy180,h⟩:=bOs h
                      refine oY (sT rfl rfl rfl rfl hp113) (yC [.slice A74 y72.1.length c75,.slice (some ⟨b178,0,none⟩) 1 1] se rfl (fun W2 hW2 => de y72.1 [3] y179 hy180 W2 A74 y72.1.length c75 rfl ((RdL.row 14 rfl) W2 hW2) (some ⟨b178,0,none⟩) 1 1 rfl ((RdL.row 15 rfl) W2 hW2)) rfl) (oY rfl (ac (vB hp113) rfl) ?_)
                      obtain rfl:=sI h
                      refine mi 15 ?_
                      exact key _ _ (kp (kp (kp rfl)))
                     ·refine oSk (sF rfl rfl rfl rfl hp113) (oSk (sF rfl rfl rfl rfl hp113) (oSk (sF rfl rfl rfl rfl hp113) (oY rfl (ad (vB hp113) rfl) ?_)))
                      obtain rfl:=sI h
                      exact key _ _ (kp (kp (kp rfl)))
                   ·clear h; rcases iOs hb112 with ⟨hp110,h⟩ | ⟨hp110,h⟩
                    ·refine oY (sT rfl rfl rfl rfl hp110) (yMS rfl) ?_
                     refine aI 2 (encL cI [1,2]) _ rT dp li np (by decide) (by decide) (by kernel_rfl) (eL aD rfl) (sT rfl rfl rfl rfl hp110) (fun b181 => ?_)
                     try dsimp only [lna,lca,lsz,lss]
                     obtain ⟨y182,hy183,h⟩:=bOs h
                     refine oY (sT rfl rfl rfl rfl hp110) (yC [.slice A68 y66.1.length c69,.slice (some ⟨b181,0,none⟩) 2 2] se rfl (fun W2 hW2 => de y66.1 [1,2] y182 hy183 W2 A68 y66.1.length c69 rfl ((RdL.row 13 rfl) W2 hW2) (some ⟨b181,0,none⟩) 2 2 rfl ((RdL.row 15 rfl) W2 hW2)) rfl) (oY rfl (ac (vB hp110) rfl) ?_)
                     obtain rfl:=sI h
                     refine mi 15 ?_
                     exact key _ _ (kp4 rfl)
                    ·refine oSk (sF rfl rfl rfl rfl hp110) (oSk (sF rfl rfl rfl rfl hp110) (oSk (sF rfl rfl rfl rfl hp110) (oY rfl (ad (vB hp110) rfl) ?_)))
                     obtain rfl:=sI h
                     exact key _ _ (kp4 rfl)
                  ·rcases am (b106 && (y53.1.fA == 17)) with hp109 | hp109
                   ·refine oY (sT rfl rfl rfl rfl hp109) (yMI rfl) (oY (sT rfl rfl rfl rfl hp109) (dk rfl rfl) (oY rfl (ac (vB hp109) rfl) ?_))
                    exact key _ _ (keep (keep (keep (keep (keep rfl rfl) rfl) rfl) rfl) (vB (fZ hp109)))
                   ·refine oSk (sF rfl rfl rfl rfl hp109) (oSk (sF rfl rfl rfl rfl hp109) (oY rfl (ad (vB hp109) rfl) ?_))
                    exact key _ _ (keep (keep (keep (keep (keep rfl rfl) rfl) rfl) rfl) (vB (fU hp109)))
                 ·rcases am b106 with hp108 | hp108
                  ·refine oY (sT rfl rfl rfl rfl hp108) (yFA ei rfl) (oY (sT rfl rfl rfl rfl hp108) (yL 12 bd rfl rfl rfl) (oY (sT rfl rfl rfl rfl hp108) (dk rfl rfl) (oY rfl (ac (vB hp108) rfl) ?_)))
                   exact key _ _ (keep (keep (keep (keep (keep (keep rfl rfl) rfl) rfl) rfl) rfl) (vB (fZ hp108)))
                  ·refine oSk (sF rfl rfl rfl rfl hp108) (oSk (sF rfl rfl rfl rfl hp108) (oSk (sF rfl rfl rfl rfl hp108) (oY rfl (ad (vB hp108) rfl) ?_)))
                   exact key _ _ (keep (keep (keep (keep (keep (keep rfl rfl) rfl) rfl) rfl) rfl) (vB (fU hp108)))
                ·clear h; rcases iOs hb107 with ⟨hp105,h⟩ | ⟨hp105,h⟩
                 ·refine oY (sT rfl rfl rfl rfl hp105) (yMS rfl) ?_
                  obtain ⟨hg184,h⟩:=gOs h
                  refine oY (sT rfl rfl rfl rfl hp105) (yI pX (by decide) hg184.1 hg184.2 (RdL.row 9 rfl) (eL aY (NestP.hn hP49 rfl)) rfl rfl) ?_
                  refine oY (sT rfl rfl rfl rfl hp105) (yFR (A:=A45) (j:=(Int.toNat 2 * 3)) oX rfl) (oY (sT rfl rfl rfl rfl hp105) (yR (A:=A45) (j:=((Int.toNat 2 * 3) + 2)) (v:=vI ((rdL y41.1 2).fToll)) bd (RdL.row 9 rfl) rfl (eG aY hg184.1 (az hg184.2 (NestP.hn hP49 rfl)) (congrArg (fun z : TJ => some (Value.int .i64 z.fToll)) (NestP.snd hP49 2)))) (oY (sT rfl rfl rfl rfl hp105) (dk rfl rfl) (oY rfl (ac (vB hp105) rfl) ?_)))
                  obtain rfl:=sI h
                  exact key _ _ (kp4 (kp (kp (kp rfl))))
                 ·refine oSk (sF rfl rfl rfl rfl hp105) (oSk (sF rfl rfl rfl rfl hp105) (oSk (sF rfl rfl rfl rfl hp105) (oSk (sF rfl rfl rfl rfl hp105) (oSk (sF rfl rfl rfl rfl hp105) (oY rfl (ad (vB hp105) rfl) ?_)))))
                  obtain rfl:=sI h
                  exact key _ _ (kp4 (kp (kp (kp rfl))))
               ·clear h; rcases iOs hb104 with ⟨hp102,h⟩ | ⟨hp102,h⟩
                ·refine oY (sT rfl rfl rfl rfl hp102) (yMS rfl) ?_
                 obtain ⟨hg185,h⟩:=gOs h
                 refine oY (sT rfl rfl rfl rfl hp102) (yI pX (by decide) hg185.1 hg185.2 (RdL.row 9 rfl) (eL aY (NestP.hn hP49 rfl)) rfl rfl) ?_
                 refine oY (sT rfl rfl rfl rfl hp102) (yFR (A:=A45) (j:=(Int.toNat 1 * 3)) ei rfl) (oY (sT rfl rfl rfl rfl hp102) (yR (A:=A45) (j:=((Int.toNat 1 * 3) + 1)) (v:=vI ((rdL y41.1 1).fA)) bd (RdL.row 9 rfl) rfl (eG aY hg185.1 (az hg185.2 (NestP.hn hP49 rfl)) (congrArg (fun z : TJ => some (Value.int .i64 z.fA)) (NestP.snd hP49 1)))) (oY (sT rfl rfl rfl rfl hp102) (dk rfl rfl) (oY rfl (ac (vB hp102) rfl) ?_)))
                 obtain rfl:=sI h
                 exact key _ _ (kp4 (kp4 rfl))
                ·refine oSk (sF rfl rfl rfl rfl hp102) (oSk (sF rfl rfl rfl rfl hp102) (oSk (sF rfl rfl rfl rfl hp102) (oSk (sF rfl rfl rfl rfl hp102) (oSk (sF rfl rfl rfl rfl hp102) (oY rfl (ad (vB hp102) rfl) ?_)))))
                 obtain rfl:=sI h
                 exact key _ _ (kp4 (kp4 rfl))
              ·clear h; rcases iOs hb101 with ⟨hp99,h⟩ | ⟨hp99,h⟩
               ·refine oY (sT rfl rfl rfl rfl hp99) (yMS rfl) ?_
                obtain ⟨hg186,h⟩:=gOs h
                refine oY (sT rfl rfl rfl rfl hp99) (yI pX (by decide) hg186.1 hg186.2 (RdL.row 9 rfl) (eL aY (NestP.hn hP49 rfl)) rfl rfl) ?_
                refine oY (sT rfl rfl rfl rfl hp99) (yFR (A:=A45) (j:=(Int.toNat 0 * 3)) oX rfl) (oY (sT rfl rfl rfl rfl hp99) (yR (A:=A45) (j:=((Int.toNat 0 * 3) + 2)) (v:=vI ((rdL y41.1 0).fToll)) bd (RdL.row 9 rfl) rfl (eG aY hg186.1 (az hg186.2 (NestP.hn hP49 rfl)) (congrArg (fun z : TJ => some (Value.int .i64 z.fToll)) (NestP.snd hP49 0)))) (oY (sT rfl rfl rfl rfl hp99) (dk rfl rfl) (oY rfl (ac (vB hp99) rfl) ?_)))
                obtain rfl:=sI h
                exact key _ _ (kp4 (kp4 rfl))
               ·refine oSk (sF rfl rfl rfl rfl hp99) (oSk (sF rfl rfl rfl rfl hp99) (oSk (sF rfl rfl rfl rfl hp99) (oSk (sF rfl rfl rfl rfl hp99) (oSk (sF rfl rfl rfl rfl hp99) (oY rfl (ad (vB hp99) rfl) ?_)))))
                obtain rfl:=sI h
                exact key _ _ (kp4 (kp4 rfl))
             ·clear h; rcases iOs hb98 with ⟨hp96,h⟩ | ⟨hp96,h⟩
              ·refine oY (sT rfl rfl rfl rfl hp96) (yFA jS rfl) (oY (sT rfl rfl rfl rfl hp96) (yL 8 qD rfl rfl rfl) ?_)
               obtain ⟨hg187,h⟩:=gOs h
               refine oY (sT rfl rfl rfl rfl hp96) (yI sl_85 (by decide) hg187.1 hg187.2 (RdL.row 6 rfl) (eL bk (NestP.hn hP36 rfl)) rfl rfl) ?_
               refine oY (sT rfl rfl rfl rfl hp96) (yR (A:=A32) (j:=(Int.toNat 2 * 1)) (v:=.slice ((rdL ys37 2).1.1) ((rdL y28.1.fH 2).length) ((rdL ys37 2).1.2.2)) oI (RdL.row 6 rfl) rfl (aR bk hg187.1 (az hg187.2 (NestP.hn hP36 rfl)) (congrArg (fun n : Nat => some (Value.slice (rdL ys37 2).1.1 n (rdL ys37 2).1.2.2)) (NestP.len hP36 hg187.1 (az hg187.2 rfl))))) ?_
               obtain ⟨hg188,h⟩:=gOs h
               refine oY (sT rfl rfl rfl rfl hp96) (yI dI (by decide) hg188.1 hg188.2 (NestL.rd (PvL.nestL hP36 hV39 (fun W2 hW2 => ⟨hW2.below,trivial,hW2.mem (i:=7) rfl⟩)) hg187.1 (az hg187.2 rfl)) (eL aD rfl) rfl rfl) ?_
               refine oY (sT rfl rfl rfl rfl hp96) (yR (A:=((rdL ys37 2).1.1)) (j:=(Int.toNat 6 * 1)) (v:=vI (rdL (rdL y28.1.fH 2) 6)) bd (NestL.rd (PvL.nestL hP36 hV39 (fun W2 hW2 => ⟨hW2.below,trivial,hW2.mem (i:=7) rfl⟩)) hg187.1 (az hg187.2 rfl)) rfl (aR aD hg188.1 (az hg188.2 rfl) rfl)) (oY (sT rfl rfl rfl rfl hp96) (dk rfl rfl) (oY rfl (ac (vB hp96) rfl) ?_))
               obtain rfl:=sI h
               exact key _ _ (kp4 (kp4 rfl))
              ·refine oSk (sF rfl rfl rfl rfl hp96) (oSk (sF rfl rfl rfl rfl hp96) (oSk (sF rfl rfl rfl rfl hp96) (oSk (sF rfl rfl rfl rfl hp96) (oSk (sF rfl rfl rfl rfl hp96) (oSk (sF rfl rfl rfl rfl hp96) (oSk (sF rfl rfl rfl rfl hp96) (oY rfl (ad (vB hp96) rfl) ?_)))))))
               obtain rfl:=sI h
               exact key _ _ (kp4 (kp4 rfl))
            ·clear h; rcases iOs hb95 with ⟨hp93,h⟩ | ⟨hp93,h⟩
             ·refine oY (sT rfl rfl rfl rfl hp93) (yFA jS rfl) (oY (sT rfl rfl rfl rfl hp93) (yL 8 qD rfl rfl rfl) ?_)
              obtain ⟨hg189,h⟩:=gOs h
              refine oY (sT rfl rfl rfl rfl hp93) (yI sl_85 (by decide) hg189.1 hg189.2 (RdL.row 6 rfl) (eL bk (NestP.hn hP36 rfl)) rfl rfl) ?_
              refine oY (sT rfl rfl rfl rfl hp93) (yR (A:=A32) (j:=(Int.toNat 2 * 1)) (v:=.slice ((rdL ys37 2).1.1) ((rdL y28.1.fH 2).length) ((rdL ys37 2).1.2.2)) oI (RdL.row 6 rfl) rfl (aR bk hg189.1 (az hg189.2 (NestP.hn hP36 rfl)) (congrArg (fun n : Nat => some (Value.slice (rdL ys37 2).1.1 n (rdL ys37 2).1.2.2)) (NestP.len hP36 hg189.1 (az hg189.2 rfl))))) ?_
              obtain ⟨hg190,h⟩:=gOs h
              refine oY (sT rfl rfl rfl rfl hp93) (yI dI (by decide) hg190.1 hg190.2 (NestL.rd (PvL.nestL hP36 hV39 (fun W2 hW2 => ⟨hW2.below,trivial,hW2.mem (i:=7) rfl⟩)) hg189.1 (az hg189.2 rfl)) (eL aD rfl) rfl rfl) ?_
              refine oY (sT rfl rfl rfl rfl hp93) (yR (A:=((rdL ys37 2).1.1)) (j:=(Int.toNat 2 * 1)) (v:=vI (rdL (rdL y28.1.fH 2) 2)) bd (NestL.rd (PvL.nestL hP36 hV39 (fun W2 hW2 => ⟨hW2.below,trivial,hW2.mem (i:=7) rfl⟩)) hg189.1 (az hg189.2 rfl)) rfl (aR aD hg190.1 (az hg190.2 rfl) rfl)) (oY (sT rfl rfl rfl rfl hp93) (dk rfl rfl) (oY rfl (ac (vB hp93) rfl) ?_))
              obtain rfl:=sI h
              exact key _ _ (kp4 (kp4 (kp rfl)))
             ·refine oSk (sF rfl rfl rfl rfl hp93) (oSk (sF rfl rfl rfl rfl hp93) (oSk (sF rfl rfl rfl rfl hp93) (oSk (sF rfl rfl rfl rfl hp93) (oSk (sF rfl rfl rfl rfl hp93) (oSk (sF rfl rfl rfl rfl hp93) (oSk (sF rfl rfl rfl rfl hp93) (oY rfl (ad (vB hp93) rfl) ?_)))))))
              obtain rfl:=sI h
              exact key _ _ (kp4 (kp4 (kp rfl)))
          ·rcases am b87 with hp89 | hp89
           ·refine oSk (sF rfl rfl rfl rfl hp89) (oSk (sF rfl rfl rfl rfl hp89) (oSk (sF rfl rfl rfl rfl hp89) (oY rfl (ac (vB hp89) rfl) ?_)))
            exact key _ _ (keep (keep (keep (keep (keep (keep (keep (keep (keep rfl rfl) rfl) rfl) rfl) rfl) rfl) rfl) rfl) (vB (jv hp89)))
           ·refine oY (sT rfl rfl rfl rfl hp89) (yMS rfl) (oY (sT rfl rfl rfl rfl hp89) (bp (us:=[]) qb rfl) (oY (sT rfl rfl rfl rfl hp89) (dE rfl rfl) (oY rfl (ad (vB hp89) rfl) ?_)))
            exact key _ _ (keep (keep (keep (keep (keep (keep (keep (keep (keep rfl rfl) rfl) rfl) rfl) rfl) rfl) rfl) rfl) (vB (jz hp89)))
         ·clear h; rcases iOs hb88 with ⟨hp86,h⟩ | ⟨hp86,h⟩
          ·refine oSk (sF rfl rfl rfl rfl hp86) (oSk (sF rfl rfl rfl rfl hp86) (oSk (sF rfl rfl rfl rfl hp86) (oSk (sF rfl rfl rfl rfl hp86) (oSk (sF rfl rfl rfl rfl hp86) (oSk (sF rfl rfl rfl rfl hp86) (oY rfl (ac (vB hp86) rfl) ?_))))))
           obtain rfl:=sI h
           exact key _ _ (kp4 (kp4 (kp rfl)))
          ·refine oY (sT rfl rfl rfl rfl hp86) (yFA jS rfl) (oY (sT rfl rfl rfl rfl hp86) (yL 8 qD rfl rfl rfl) ?_)
           obtain ⟨hg191,h⟩:=gOs h
           refine oY (sT rfl rfl rfl rfl hp86) (yI sl_85 (by decide) hg191.1 hg191.2 (RdL.row 6 rfl) (eL bk (NestP.hn hP36 rfl)) rfl rfl) ?_
           refine oY (sT rfl rfl rfl rfl hp86) (yR (A:=A32) (j:=(Int.toNat 2 * 1)) (v:=.slice ((rdL ys37 2).1.1) ((rdL y28.1.fH 2).length) ((rdL ys37 2).1.2.2)) oI (RdL.row 6 rfl) rfl (aR bk hg191.1 (az hg191.2 (NestP.hn hP36 rfl)) (congrArg (fun n : Nat => some (Value.slice (rdL ys37 2).1.1 n (rdL ys37 2).1.2.2)) (NestP.len hP36 hg191.1 (az hg191.2 rfl))))) (oY (sT rfl rfl rfl rfl hp86) (bp (us:=[]) dp rfl) (oY (sT rfl rfl rfl rfl hp86) (dE rfl rfl) (oY rfl (ad (vB hp86) rfl) ?_)))
           obtain rfl:=sI h
           exact key _ _ (kp4 (kp4 (kp rfl)))
        ·rcases am ((((((((y26.2 != 0) || (y28.2 != 0)) || (y41.2 != 0)) || (y53.2 != 0)) || (y64.2 != 0)) || (y66.2 != 0)) || (y72.2 != 0)) || (y26.1 != 21)) with hp85 | hp85
         ·refine oSk (sF rfl rfl rfl rfl hp85) (oSk (sF rfl rfl rfl rfl hp85) (oSk (sF rfl rfl rfl rfl hp85) (oSk (sF rfl rfl rfl rfl hp85) (oY rfl (ac (vB hp85) rfl) ?_))))
          exact key _ _ (keep (keep (keep (keep (keep (keep (keep (keep (keep rfl rfl) rfl) rfl) rfl) rfl) rfl) rfl) rfl) (vB (jv hp85)))
         ·refine oY (sT rfl rfl rfl rfl hp85) (yFA jS rfl) (oY (sT rfl rfl rfl rfl hp85) (yL 8 qD rfl rfl rfl) (oY (sT rfl rfl rfl rfl hp85) (bp (us:=[]) us_85 rfl) (oY (sT rfl rfl rfl rfl hp85) (dE rfl rfl) (oY rfl (ad (vB hp85) rfl) ?_))))
          exact key _ _ (keep (keep (keep (keep (keep (keep (keep (keep (keep rfl rfl) rfl) rfl) rfl) rfl) rfl) rfl) rfl) (vB (jz hp85)))
       ·rcases am (((((((y26.2 != 0) || (y28.2 != 0)) || (y41.2 != 0)) || (y53.2 != 0)) || (y64.2 != 0)) || (y66.2 != 0)) || (y72.2 != 0)) with hp84 | hp84
        ·refine oSk (sF rfl rfl rfl rfl hp84) (oSk (sF rfl rfl rfl rfl hp84) (oY rfl (ac (vB hp84) rfl) ?_))
         exact key _ _ (keep (keep (keep (keep (keep (keep (keep (keep (keep rfl rfl) rfl) rfl) rfl) rfl) rfl) rfl) rfl) (vB (jv hp84)))
        ·refine oY (sT rfl rfl rfl rfl hp84) (yMI rfl) (oY (sT rfl rfl rfl rfl hp84) (dE rfl rfl) (oY rfl (ad (vB hp84) rfl) ?_))
         exact key _ _ (keep (keep (keep (keep (keep (keep (keep (keep (keep rfl rfl) rfl) rfl) rfl) rfl) rfl) rfl) rfl) (vB (jz hp84)))
      ·rcases am ((((((y26.2 != 0) || (y28.2 != 0)) || (y41.2 != 0)) || (y53.2 != 0)) || (y64.2 != 0)) || (y66.2 != 0)) with hp83 | hp83
       ·refine oSk (sF rfl rfl rfl rfl hp83) (oSk (sF rfl rfl rfl rfl hp83) (oY rfl (ac (vB hp83) rfl) ?_))
        exact key _ _ (keep (keep (keep (keep (keep (keep (keep (keep (keep (keep rfl rfl) rfl) rfl) rfl) rfl) rfl) rfl) rfl) rfl) (vB (jv hp83)))
       ·refine oY (sT rfl rfl rfl rfl hp83) (yMI rfl) (oY (sT rfl rfl rfl rfl hp83) (dE rfl rfl) (oY rfl (ad (vB hp83) rfl) ?_))
        exact key _ _ (keep (keep (keep (keep (keep (keep (keep (keep (keep (keep rfl rfl) rfl) rfl) rfl) rfl) rfl) rfl) rfl) rfl) (vB (jz hp83)))
     ·rcases am (((((y26.2 != 0) || (y28.2 != 0)) || (y41.2 != 0)) || (y53.2 != 0)) || (y64.2 != 0)) with hp82 | hp82
      ·refine oSk (sF rfl rfl rfl rfl hp82) (oSk (sF rfl rfl rfl rfl hp82) (oY rfl (ac (vB hp82) rfl) ?_))
       exact key _ _ (keep (keep (keep (keep (keep (keep (keep (keep (keep (keep (keep rfl rfl) rfl) rfl) rfl) rfl) rfl) rfl) rfl) rfl) rfl) (vB (jv hp82)))
      ·refine oY (sT rfl rfl rfl rfl hp82) (yMI rfl) (oY (sT rfl rfl rfl rfl hp82) (dE rfl rfl) (oY rfl (ad (vB hp82) rfl) ?_))
       exact key _ _ (keep (keep (keep (keep (keep (keep (keep (keep (keep (keep (keep rfl rfl) rfl) rfl) rfl) rfl) rfl) rfl) rfl) rfl) rfl) (vB (jz hp82)))
    ·rcases am ((((y26.2 != 0) || (y28.2 != 0)) || (y41.2 != 0)) || (y53.2 != 0)) with hp81 | hp81
     ·refine oSk (sF rfl rfl rfl rfl hp81) (oSk (sF rfl rfl rfl rfl hp81) (oY rfl (ac (vB hp81) rfl) ?_))
      exact key _ _ (keep (keep (keep (keep (keep (keep (keep (keep (keep (keep (keep (keep rfl rfl) rfl) rfl) rfl) rfl) rfl) rfl) rfl) rfl) rfl) rfl) (vB (jv hp81)))
     ·refine oY (sT rfl rfl rfl rfl hp81) (yMI rfl) (oY (sT rfl rfl rfl rfl hp81) (dE rfl rfl) (oY rfl (ad (vB hp81) rfl) ?_))
      exact key _ _ (keep (keep (keep (keep (keep (keep (keep (keep (keep (keep (keep (keep rfl rfl) rfl) rfl) rfl) rfl) rfl) rfl) rfl) rfl) rfl) rfl) (vB (jz hp81)))
   ·rcases am (((y26.2 != 0) || (y28.2 != 0)) || (y41.2 != 0)) with hp80 | hp80
    ·refine oSk (sF rfl rfl rfl rfl hp80) (oSk (sF rfl rfl rfl rfl hp80) (oY rfl (ac (vB hp80) rfl) ?_))
     exact key _ _ (keep (keep (keep (keep (keep (keep (keep (keep (keep (keep (keep (keep (keep rfl rfl) rfl) rfl) rfl) rfl) rfl) rfl) rfl) rfl) rfl) rfl) rfl) (vB (jv hp80)))
    ·refine oY (sT rfl rfl rfl rfl hp80) (yMI rfl) (oY (sT rfl rfl rfl rfl hp80) (dE rfl rfl) (oY rfl (ad (vB hp80) rfl) ?_))
     exact key _ _ (keep (keep (keep (keep (keep (keep (keep (keep (keep (keep (keep (keep (keep rfl rfl) rfl) rfl) rfl) rfl) rfl) rfl) rfl) rfl) rfl) rfl) rfl) (vB (jz hp80)))
  ·rcases am ((y26.2 != 0) || (y28.2 != 0)) with hp79 | hp79
   ·refine oSk (sF rfl rfl rfl rfl hp79) (oSk (sF rfl rfl rfl rfl hp79) (oY rfl (ac (vB hp79) rfl) ?_))
    exact key _ _ (keep (keep (keep (keep (keep (keep (keep (keep (keep (keep (keep (keep (keep (keep rfl rfl) rfl) rfl) rfl) rfl) rfl) rfl) rfl) rfl) rfl) rfl) rfl) rfl) (vB (jv hp79)))
   ·refine oY (sT rfl rfl rfl rfl hp79) (yMI rfl) (oY (sT rfl rfl rfl rfl hp79) (dE rfl rfl) (oY rfl (ad (vB hp79) rfl) ?_))
    exact key _ _ (keep (keep (keep (keep (keep (keep (keep (keep (keep (keep (keep (keep (keep (keep rfl rfl) rfl) rfl) rfl) rfl) rfl) rfl) rfl) rfl) rfl) rfl) rfl) rfl) (vB (jz hp79)))
 ·rcases am (y26.2 != 0) with hp78 | hp78
  ·refine oSk (sF rfl rfl rfl rfl hp78) (oSk (sF rfl rfl rfl rfl hp78) (oY rfl (ac (vB hp78) rfl) ?_))
   exact key _ _ (keep (keep (keep (keep (keep (keep (keep (keep (keep (keep (keep (keep (keep (keep (keep rfl rfl) rfl) rfl) rfl) rfl) rfl) rfl) rfl) rfl) rfl) rfl) rfl) rfl) rfl) (vB (jv hp78)))
  ·refine oY (sT rfl rfl rfl rfl hp78) (yMI rfl) (oY (sT rfl rfl rfl rfl hp78) (dE rfl rfl) (oY rfl (ad (vB hp78) rfl) ?_))
   exact key _ _ (keep (keep (keep (keep (keep (keep (keep (keep (keep (keep (keep (keep (keep (keep (keep rfl rfl) rfl) rfl) rfl) rfl) rfl) rfl) rfl) rfl) rfl) rfl) rfl) rfl) rfl) (vB (jz hp78)))
end Go.Proofs.YthndghnkebboaaaGreat
set_option maxHeartbeats 4000000
set_option maxRecDepth 100000
namespace Go.Proofs.YthndghnkebboaaaGreat
open Go.RowKit (Below)
attribute [local irreducible] OX QX CX EX OpY Calls CallsIn
theorem ll (p0:TR) (res:Bool) (h:eS p0 = some res) (W:World) (Ab:Option Addr) (n0_1 cb : Nat) (ys0_1:List (Hd × TT)) (hn0_1:n0_1 = p0.fTracks.length) (hr0_1:Rd W Ab n0_1 cb (encL TTrack_cells2 ys0_1)) (hN0_1:NestW W (fun z : TT => z.fK) TSpan_cells ys0_1 p0.fTracks) :
  Calls Tryz.prog 16 [.agg #[vI p0.fPlaces,.slice Ab n0_1 cb]].toArray W fun e W2 => e = .returned (.bool res) ∧ Ext W W2 []:=by
 subst hn0_1
 unfold eS at h
 refine ab (m:=49) Tryz.func16 rfl rfl (nB rfl) (cS (cR ?_))
 refine aX [vI p0.fPlaces,.slice Ab p0.fTracks.length cb] rfl rfl rfl (fun b1 => ?_)
 refine oY rfl (yAB rfl) (oN (eT (cS (cS (cR (oY rfl (yAI rfl) (oN (eT (cB ?_)))))))))
 obtain ⟨u4,hl8,h⟩:=bOs h
 refine bL (fun (s:(Bool × Int)) L tm => ∃ (tm0:Nat → Value),L = [ag b1 24 [vI p0.fPlaces,.slice Ab p0.fTracks.length cb]] ∧ tm = (upd (upd (upd tm0 1 (.pointer (some ⟨b1,0,none⟩))) 2 (.bool s.1)) 3 (vI s.2))) 0 hl8 ⟨_,rfl,(kp (kp (kp rfl)))⟩ ?_ ?_
 ·rintro s3 L tm st ⟨tm0_s3,rfl,rfl⟩ h
  unfold ef at h
  refine cS (cS (cR (oY rfl (yMI rfl) (oY rfl (yFA f4 rfl) (oY rfl (yL 0 lr rfl rfl rfl) (oY rfl (bp (us:=[]) iT rfl) (oY rfl (bu rfl rfl) (oN (eT ?_)))))))))
  rcases iOs h with ⟨hp5,h⟩ | ⟨hp5,h⟩
  ·refine cT (vB hp5) (cK (eT (cS (cB (cS (cR (oY rfl (yFA f4 rfl) (oY rfl (yL 0 lr rfl rfl rfl) (oY rfl (yMI rfl) ?_)))))))))
   obtain ⟨hg6,h⟩:=gOs h
   refine oY rfl (yI mT (by decide) hg6.1 hg6.2 (RdL.arg hr0_1) (eL aG (NestP.hn hN0_1.p rfl)) rfl rfl) ?_
   refine oY rfl (yFR (A:=Ab) (j:=(Int.toNat s3.2 * 6)) lI rfl) (oY rfl (yR (A:=Ab) (j:=((Int.toNat s3.2 * 6) + 5)) (v:=.slice ((rdL ys0_1 s3.2).1.1) ((rdL p0.fTracks s3.2).fK.length) ((rdL ys0_1 s3.2).1.2.2)) pL (RdL.arg hr0_1) rfl (eG aG hg6.1 (az hg6.2 (NestP.hn hN0_1.p rfl)) (congrArg (fun n : Nat => some (Value.slice (rdL ys0_1 s3.2).1.1 n (rdL ys0_1 s3.2).1.2.2)) (NestP.len hN0_1.p hg6.1 (az hg6.2 rfl))))) (oY rfl (bp (us:=[]) oo rfl) (oY rfl (g6 rfl rfl) (oN (eT ?_)))))
   rcases iOs h with ⟨hp7,h⟩ | ⟨hp7,h⟩
   ·refine cT (vB hp7) (cS (cR (oY rfl (yAB rfl) (oN (eT (al (ai (aa ?_))))))))
    obtain rfl:=sI h
    exact ax ⟨rfl,_,rfl,(kp (kp (kp rfl)))⟩
   ·refine cF (vB hp7) (cK (av (eT (cR (oY rfl (yMI rfl) (oY rfl (bc rfl rfl) (oY rfl (yAI rfl) (oN ?_))))))))
    obtain rfl:=sI h
    exact eN ⟨_,rfl,(kp (kp (kp rfl)))⟩
  ·refine cF (vB hp5) (aF (ah ?_))
   obtain rfl:=sI h
   exact ax ⟨rfl,_,rfl,(kp (kp (kp rfl)))⟩
 ·intro e L tm hJ
  rcases u4 with u9 | u10
  ·dsimp only at h hJ
   obtain ⟨rfl,tm0_u9,rfl,rfl⟩:=hJ
   refine ⟨(by intro hc; cases hc),?_⟩
   refine ai (aa ?_)
   obtain rfl:=sI h
   exact ak (.inl rfl) rfl (rVt (v:=.bool u9.1) rfl) (fun W2 hW2 => ⟨rfl,hW2.none⟩)
  ·dsimp only at h hJ
   obtain ⟨rfl,tm0_u10,rfl,rfl⟩:=hJ
   refine ⟨(by intro hc; cases hc),?_⟩
   refine ae (eT (cS (cR (oY rfl (yFA jh rfl) (oY rfl (yL 0 bd rfl rfl rfl) (oY rfl (jV rfl rfl) (oY rfl (yMB rfl) ?_)))))))
   refine oJ 4 (fun tm0 => (upd (upd (upd tm0 1 (.pointer (some ⟨b1,0,none⟩))) 2 (.bool u10.1)) 28 (.bool ((decide (p0.fPlaces ≤ 8)) || (decide (16 < p0.fPlaces)))))) (fun tm0 => ?_) (fun key => ?_)
   ·refine oY rfl (yAB rfl) (oN (eT (cS (cR (oY rfl (yFA f4 rfl) (oY rfl (yL 0 lr rfl rfl rfl) (oY rfl (bp (us:=[]) iT rfl) (oY rfl (jV rfl rfl) (oY rfl (yMB rfl) ?_)))))))))
    refine oJ 11 (fun tm0 => (upd (upd (upd tm0 2 (.bool u10.1)) 4 (.bool ((decide (p0.fPlaces ≤ 8)) || (decide (16 < p0.fPlaces))))) 44 (.bool ((decide ((p0.fTracks.length:Int) ≤ 16)) || ((decide (48 < (p0.fTracks.length:Int))) && (decide ((p0.fTracks.length:Int) ≤ 60))))))) (fun tm0 => ?_) (fun key => ?_)
    ·refine oY rfl (yAB rfl) (oN (eT (cS (cR (oY rfl (yMB rfl) (oY rfl (yMB rfl) ?_))))))
     refine oJ 2 (fun tm0 => (upd (upd tm0 2 (.bool u10.1)) 48 (.bool (((decide (p0.fPlaces ≤ 8)) || (decide (16 < p0.fPlaces))) && ((decide ((p0.fTracks.length:Int) ≤ 16)) || ((decide (48 < (p0.fTracks.length:Int))) && (decide ((p0.fTracks.length:Int) ≤ 60)))))))) (fun tm0 => ?_) (fun key => ?_)
     ·refine oY rfl (yAB rfl) (oN (eT (al ?_)))
      obtain rfl:=sI h
      exact ak (.inl rfl) rfl (rVt (v:=.bool (((decide (p0.fPlaces ≤ 8)) || (decide (16 < p0.fPlaces))) && ((decide ((p0.fTracks.length:Int) ≤ 16)) || ((decide (48 < (p0.fTracks.length:Int))) && (decide ((p0.fTracks.length:Int) ≤ 60)))))) rfl) (fun W2 hW2 => ⟨rfl,hW2.none⟩)
     ·rcases am ((decide (p0.fPlaces ≤ 8)) || (decide (16 < p0.fPlaces))) with hp13 | hp13
      ·refine oY (sT rfl rfl rfl rfl hp13) (yMB rfl) (oY rfl (ac (vB hp13) rfl) ?_)
       exact key _ _ (keep (keep rfl rfl) (vB (fZ hp13)))
      ·refine oSk (sF rfl rfl rfl rfl hp13) (oY rfl (ad (vB hp13) rfl) ?_)
       exact key _ _ (keep (keep rfl rfl) (vB (fU hp13)))
    ·rcases am (decide ((p0.fTracks.length:Int) ≤ 16)) with hp12 | hp12
     ·refine oSk (sF rfl rfl rfl rfl hp12) (oSk (sF rfl rfl rfl rfl hp12) (oSk (sF rfl rfl rfl rfl hp12) (oSk (sF rfl rfl rfl rfl hp12) (oSk (sF rfl rfl rfl rfl hp12) (oSk rfl (oSk rfl (oSk rfl (oSk rfl (oSk (sF rfl rfl rfl rfl hp12) (oY rfl (ac (vB hp12) rfl) ?_))))))))))
      exact key _ _ (keep (keep (keep rfl rfl) rfl) (vB (jv hp12)))
     ·refine oY (sT rfl rfl rfl rfl hp12) (yFA f4 rfl) (oY (sT rfl rfl rfl rfl hp12) (yL 0 lr rfl rfl rfl) (oY (sT rfl rfl rfl rfl hp12) (bp (us:=[]) iT rfl) (oY (sT rfl rfl rfl rfl hp12) (g6 rfl rfl) (oY (sT rfl rfl rfl rfl hp12) (yMB rfl) ?_))))
      refine oJ 5 (fun tm0 => (upd (upd (upd (upd tm0 2 (.bool u10.1)) 4 (.bool ((decide (p0.fPlaces ≤ 8)) || (decide (16 < p0.fPlaces))))) 33 (.bool (decide ((p0.fTracks.length:Int) ≤ 16)))) 43 (.bool ((decide (48 < (p0.fTracks.length:Int))) && (decide ((p0.fTracks.length:Int) ≤ 60)))))) (fun tm0 => ?_) (fun key => ?_)
      ·refine oY rfl (ad (vB hp12) rfl) ?_
       exact key _ _ (keep (keep (keep rfl rfl) rfl) (vB (jz hp12)))
      ·rcases am (decide (48 < (p0.fTracks.length:Int))) with hp14 | hp14
       ·refine oY (sT rfl rfl rfl rfl hp14) (yFA f4 rfl) (oY (sT rfl rfl rfl rfl hp14) (yL 0 lr rfl rfl rfl) (oY (sT rfl rfl rfl rfl hp14) (bp (us:=[]) iT rfl) (oY (sT rfl rfl rfl rfl hp14) (jV rfl rfl) (oY (sT rfl rfl rfl rfl hp12) (ac (vB hp14) rfl) ?_))))
        exact key _ _ (keep (keep (keep (keep rfl rfl) rfl) rfl) (vB (fZ hp14)))
       ·refine oSk (sF rfl rfl rfl rfl hp14) (oSk (sF rfl rfl rfl rfl hp14) (oSk (sF rfl rfl rfl rfl hp14) (oSk (sF rfl rfl rfl rfl hp14) (oY (sT rfl rfl rfl rfl hp12) (ad (vB hp14) rfl) ?_))))
        exact key _ _ (keep (keep (keep (keep rfl rfl) rfl) rfl) (vB (fU hp14)))
   ·rcases am (decide (p0.fPlaces ≤ 8)) with hp11 | hp11
    ·refine oSk (sF rfl rfl rfl rfl hp11) (oSk (sF rfl rfl rfl rfl hp11) (oSk (sF rfl rfl rfl rfl hp11) (oY rfl (ac (vB hp11) rfl) ?_)))
     exact key _ _ (keep (keep (keep rfl rfl) rfl) (vB (jv hp11)))
    ·refine oY (sT rfl rfl rfl rfl hp11) (yFA jh rfl) (oY (sT rfl rfl rfl rfl hp11) (yL 0 bd rfl rfl rfl) (oY (sT rfl rfl rfl rfl hp11) (g6 rfl rfl) (oY rfl (ad (vB hp11) rfl) ?_)))
     exact key _ _ (keep (keep (keep rfl rfl) rfl) (vB (jz hp11)))
end Go.Proofs.YthndghnkebboaaaGreat
set_option maxHeartbeats 4000000
set_option maxRecDepth 100000
namespace Go.Proofs.YthndghnkebboaaaGreat
open Go.RowKit (Below)
attribute [local irreducible] OX QX CX EX OpY Calls CallsIn
theorem calxlaw05_CartWaits_ok (p0:TR) (p1:Int) (p2:Int) (p3:Int) (p4:Int) (p5:Int) (p6:Int) (res:Bool) (h:dj p0 p1 p2 p3 p4 p5 p6 = some res) (W:World) (Ab:Option Addr) (n0_1 cb : Nat) (ys0_1:List (Hd × TT)) (hn0_1:n0_1 = p0.fTracks.length) (hr0_1:Rd W Ab n0_1 cb (encL TTrack_cells2 ys0_1)) (hN0_1:NestW W (fun z : TT => z.fK) TSpan_cells ys0_1 p0.fTracks) :
  Calls Tryz.prog 3 [.agg #[vI p0.fPlaces,.slice Ab n0_1 cb],vI p1,vI p2,vI p3,vI p4,.int .u8 p5,.int .u8 p6].toArray W fun e W2 => e = .returned (.bool res) ∧ Ext W W2 []:=by
 subst hn0_1
 unfold dj at h
 refine ab (m:=185) Tryz.func3 rfl rfl (nB rfl) (cS (cR ?_))
 refine aX [vI p0.fPlaces,.slice Ab p0.fTracks.length cb] rfl rfl rfl (fun b1 => ?_)
 refine oY rfl (yAB rfl) (oN (eT (cS (cS (cR (oY rfl (yN 0 [vI p0.fPlaces,.slice Ab p0.fTracks.length cb] eK rfl rfl rfl) ?_))))))
 obtain ⟨y2,hy3,h⟩:=bOs h
 refine oY rfl (yC [.agg #[vI p0.fPlaces,.slice Ab p0.fTracks.length cb]] go_16 rfl (fun W2 hW2 => ll p0 y2 hy3 W2 Ab p0.fTracks.length cb ys0_1 rfl ((RdL.arg hr0_1) W2 hW2) (NestL.at (NestL.arg hN0_1) W2 hW2)) rfl) (oY rfl (bY rfl) (oN (eT ?_)))
 rcases iOs h with ⟨hp4,h⟩ | ⟨hp4,h⟩
 ·refine cT (vB hp4) (cS (cR ?_))
  obtain ⟨y5,hy6,h⟩:=bOs h
  refine oY rfl (yC [] go_17 rfl (fun W2 hW2 => dq  y5 hy6 W2 ) rfl) (oY rfl (yAB rfl) (oN (eT (al (aa ?_)))))
  obtain rfl:=sI h
  exact ak (.inl rfl) rfl (rVt (v:=.bool y5) rfl) (fun W2 hW2 => ⟨rfl,hW2.none⟩)
 ·refine cF (vB hp4) (cK (eT (cS (cR (oY rfl (yN 0 [vI p0.fPlaces,.slice Ab p0.fTracks.length cb] eK rfl rfl rfl) (oY rfl (yMI rfl) (oY rfl (yMI rfl) (oY rfl (yMI rfl) (oY rfl (yMI rfl) ?_)))))))))
  obtain ⟨y7,hy8,h⟩:=bOs h
  refine oC [.agg #[vI p0.fPlaces,.slice Ab p0.fTracks.length cb],vI p1,vI p2,vI p3,vI p4] _ _ _ rfl oM rfl (fun W2 hW2 => dh p0 p1 p2 p3 p4 y7 hy8 W2 Ab p0.fTracks.length cb ys0_1 rfl ((RdL.arg hr0_1) W2 hW2) (NestL.at (NestL.arg hN0_1) W2 hW2) W (fun _ => True) (fun W3 hb => ⟨eI hW2.below hb,trivial⟩) ) ?_
  rintro ⟨⟨A11,n13,c12⟩,F15⟩ ⟨hn14,hV16⟩
  replace hn14 : n13 = y7.1.fLegs.length:=hn14; subst hn14
  refine oY rfl (aC rfl) (oY rfl (yE rfl rfl) (oY rfl (yE rfl rfl) ?_))
  refine aw gO rfl (fun b17 => ?_)
  refine cw rfl (yS 2 [.slice A11 y7.1.fLegs.length c12,vI y7.1.fA,vI y7.1.fToll] iD rfl (nB rfl) rfl rfl rfl) (oY rfl (yAI rfl) (oN (eT (cS (cS (cR (oY rfl (yMI rfl) (oY rfl (dk rfl rfl) (oN (eT ?_))))))))))
  rcases iOs h with ⟨hp18,h⟩ | ⟨hp18,h⟩
  ·refine cT (vB hp18) (cS (cR (oY rfl (yN 0 [vI p0.fPlaces,.slice Ab p0.fTracks.length cb] eK rfl rfl rfl) (oY rfl (yMI rfl) (oY rfl (yMI rfl) (oY rfl (yMI rfl) (oY rfl (yMI rfl) (oY rfl (mq ui_5 ui_3 rfl) (oY rfl (bc rfl rfl) (oY rfl (y_min rfl rfl) (oY rfl (yMI rfl) ?_)))))))))))
   obtain ⟨y19,hy20,h⟩:=bOs h
   refine oC [.agg #[vI p0.fPlaces,.slice Ab p0.fTracks.length cb],vI p1,vI p2,vI (min 16384 (w64 (p3 + (w64 p5)))),vI p4] _ _ _ rfl oM rfl (fun W2 hW2 => dh p0 p1 p2 (min 16384 (w64 (p3 + (w64 p5)))) p4 y19 hy20 W2 Ab p0.fTracks.length cb ys0_1 rfl ((RdL.arg hr0_1) W2 hW2) (NestL.at (NestL.arg hN0_1) W2 hW2) W (fun _ => True) (fun W3 hb => ⟨eI hW2.below hb,trivial⟩) ) ?_
   rintro ⟨⟨A23,n25,c24⟩,F27⟩ ⟨hn26,hV28⟩
   replace hn26 : n25 = y19.1.fLegs.length:=hn26; subst hn26
   refine oY rfl (aC rfl) (oY rfl (yE rfl rfl) (oY rfl (yE rfl rfl) ?_))
   refine aw gO rfl (fun b29 => ?_)
   refine cw rfl (yS 4 [.slice A23 y19.1.fLegs.length c24,vI y19.1.fA,vI y19.1.fToll] iD rfl (nB rfl) rfl rfl rfl) (oY rfl (yAI rfl) (oN (eT (cS (cR ?_)))))
   obtain ⟨y30,hy31,h⟩:=bOs h
   refine oY rfl (yC [] go_17 rfl (fun W2 hW2 => dq  y30 hy31 W2 ) rfl) (oY rfl (yMB rfl) ?_)
   refine oJ 3 (fun tm0 => (upd (upd (upd (upd (upd (upd (upd (upd (upd (upd (upd (upd tm0 1 (vI p1)) 2 (vI p2)) 3 (vI p3)) 4 (vI p4)) 5 (.int .u8 p5)) 6 (.int .u8 p6)) 7 (.pointer (some ⟨b1,0,none⟩))) 14 (.bool false)) 15 (.pointer (some ⟨b17,0,none⟩))) 16 (vI y7.2)) 17 (.pointer (some ⟨b29,0,none⟩))) 61 (.bool (y30 && (y19.2 == 5))))) (fun tm0 => ?_) (fun key => ?_)
   ·refine oY rfl (yMB rfl) ?_
    refine oJ 4 (fun tm0 => (upd (upd (upd (upd (upd (upd (upd (upd (upd (upd (upd tm0 1 (vI p1)) 2 (vI p2)) 3 (vI p3)) 4 (vI p4)) 5 (.int .u8 p5)) 6 (.int .u8 p6)) 7 (.pointer (some ⟨b1,0,none⟩))) 14 (.bool false)) 15 (.pointer (some ⟨b17,0,none⟩))) 16 (vI y7.2)) 66 (.bool ((y30 && (y19.2 == 5)) && (y19.1.fA == 0))))) (fun tm0 => ?_) (fun key => ?_)
    ·refine oY rfl (yAB rfl) (oN (eT (al (aa ?_))))
     obtain rfl:=sI h
     exact ak (.inl rfl) rfl (rVt (v:=.bool ((y30 && (y19.2 == 5)) && (y19.1.fA == 0))) rfl) (fun W2 hW2 => ⟨rfl,hW2.none⟩)
    ·rcases am (y30 && (y19.2 == 5)) with hp33 | hp33
     ·refine oY (sT rfl rfl rfl rfl hp33) (yFA ei rfl) (oY (sT rfl rfl rfl rfl hp33) (yL 4 bd rfl rfl rfl) (oY (sT rfl rfl rfl rfl hp33) (dk rfl rfl) (oY rfl (ac (vB hp33) rfl) ?_)))
      exact key _ _ (keep (keep (keep (keep (keep (keep (keep (keep (keep (keep (keep rfl rfl) rfl) rfl) rfl) rfl) rfl) rfl) rfl) rfl) rfl) (vB (fZ hp33)))
     ·refine oSk (sF rfl rfl rfl rfl hp33) (oSk (sF rfl rfl rfl rfl hp33) (oSk (sF rfl rfl rfl rfl hp33) (oY rfl (ad (vB hp33) rfl) ?_)))
      exact key _ _ (keep (keep (keep (keep (keep (keep (keep (keep (keep (keep (keep rfl rfl) rfl) rfl) rfl) rfl) rfl) rfl) rfl) rfl) rfl) (vB (fU hp33)))
   ·rcases am y30 with hp32 | hp32
    ·refine oY (sT rfl rfl rfl rfl hp32) (yMI rfl) (oY (sT rfl rfl rfl rfl hp32) (dk rfl rfl) (oY rfl (ac (vB hp32) rfl) ?_))
     exact key _ _ (keep (keep (keep (keep (keep (keep (keep (keep (keep (keep (keep (keep rfl rfl) rfl) rfl) rfl) rfl) rfl) rfl) rfl) rfl) rfl) rfl) (vB (fZ hp32)))
    ·refine oSk (sF rfl rfl rfl rfl hp32) (oSk (sF rfl rfl rfl rfl hp32) (oY rfl (ad (vB hp32) rfl) ?_))
     exact key _ _ (keep (keep (keep (keep (keep (keep (keep (keep (keep (keep (keep (keep rfl rfl) rfl) rfl) rfl) rfl) rfl) rfl) rfl) rfl) rfl) rfl) (vB (fU hp32)))
  ·refine cF (vB hp18) (cK (eT (cS (cS (cR (oY rfl (yMI rfl) (oY rfl (dE rfl rfl) (oN (eT ?_)))))))))
   rcases iOs h with ⟨hp34,h⟩ | ⟨hp34,h⟩
   ·refine cT (vB hp34) (cS (cR ?_))
    obtain ⟨y35,hy36,h⟩:=bOs h
    refine oY rfl (yC [] go_17 rfl (fun W2 hW2 => dq  y35 hy36 W2 ) rfl) (oY rfl (yAB rfl) (oN (eT (al (aa ?_)))))
    obtain rfl:=sI h
    exact ak (.inl rfl) rfl (rVt (v:=.bool y35) rfl) (fun W2 hW2 => ⟨rfl,hW2.none⟩)
   ·refine cF (vB hp34) (cK (eT (cS (cR (oY rfl (yN 0 [vI p0.fPlaces,.slice Ab p0.fTracks.length cb] eK rfl rfl rfl) (oY rfl (yMI rfl) (oY rfl (yMI rfl) (oY rfl (yMI rfl) (oY rfl (yMI rfl) (oY rfl (mq ui_5 ui_3 rfl) (oY rfl (bc rfl rfl) (oY rfl (y_min rfl rfl) (oY rfl (yMI rfl) ?_)))))))))))))
    obtain ⟨y37,hy38,h⟩:=bOs h
    refine oC [.agg #[vI p0.fPlaces,.slice Ab p0.fTracks.length cb],vI p1,vI p2,vI (min 16384 (w64 (p3 + (w64 p5)))),vI p4] _ _ _ rfl oM rfl (fun W2 hW2 => dh p0 p1 p2 (min 16384 (w64 (p3 + (w64 p5)))) p4 y37 hy38 W2 Ab p0.fTracks.length cb ys0_1 rfl ((RdL.arg hr0_1) W2 hW2) (NestL.at (NestL.arg hN0_1) W2 hW2) W (fun _ => True) (fun W3 hb => ⟨eI hW2.below hb,trivial⟩) ) ?_
    rintro ⟨⟨A41,n43,c42⟩,F45⟩ ⟨hn44,hV46⟩
    replace hn44 : n43 = y37.1.fLegs.length:=hn44; subst hn44
    refine oY rfl (aC rfl) (oY rfl (yE rfl rfl) (oY rfl (yE rfl rfl) ?_))
    refine aw gO rfl (fun b47 => ?_)
    refine cw rfl (yS 4 [.slice A41 y37.1.fLegs.length c42,vI y37.1.fA,vI y37.1.fToll] iD rfl (nB rfl) rfl rfl rfl) (oY rfl (yAI rfl) (oN (eT (cS (cR (oY rfl (yN 0 [vI p0.fPlaces,.slice Ab p0.fTracks.length cb] eK rfl rfl rfl) (oY rfl (yMI rfl) (oY rfl (yMI rfl) (oY rfl (yMI rfl) (oY rfl (yMI rfl) (oY rfl (yMI rfl) (oY rfl (mq ui_5 ui_3 rfl) (oY rfl (bc rfl rfl) (oY rfl (y_min rfl rfl) ?_))))))))))))))
    obtain ⟨y48,hy49,h⟩:=bOs h
    refine oC [.agg #[vI p0.fPlaces,.slice Ab p0.fTracks.length cb],vI p1,vI p2,vI p3,vI (min 60 (w64 (p4 + (w64 p6))))] _ _ _ rfl oM rfl (fun W2 hW2 => dh p0 p1 p2 p3 (min 60 (w64 (p4 + (w64 p6)))) y48 hy49 W2 Ab p0.fTracks.length cb ys0_1 rfl ((RdL.arg hr0_1) W2 hW2) (NestL.at (NestL.arg hN0_1) W2 hW2) W (fun _ => True) (fun W3 hb => ⟨eI hW2.below hb,trivial⟩) ) ?_
    rintro ⟨⟨A52,n54,c53⟩,F56⟩ ⟨hn55,hV57⟩
    replace hn55 : n54 = y48.1.fLegs.length:=hn55; subst hn55
    try dsimp only [lna,lca,lsz,lss]
    refine oY rfl (aC rfl) (oY rfl (yE rfl rfl) (oY rfl (yE rfl rfl) ?_))
    refine aw gO rfl (fun b58 => ?_)
    try dsimp only [lna,lca,lsz,lss]
    refine cw rfl (yS 6 [.slice A52 y48.1.fLegs.length c53,vI y48.1.fA,vI y48.1.fToll] iD rfl (nB rfl) rfl rfl rfl) (oY rfl (yAI rfl) (oN (eT (cS (cS (cR (oY rfl (yMI rfl) (oY rfl (dE rfl rfl) (oY rfl (yMB rfl) ?_)))))))))
    refine oJ 3 (fun tm0 => (upd (upd (upd (upd (upd (upd (upd (upd (upd (upd (upd (upd tm0 1 (vI p1)) 2 (vI p2)) 3 (vI p3)) 4 (vI p4)) 7 (.pointer (some ⟨b1,0,none⟩))) 14 (.bool false)) 15 (.pointer (some ⟨b17,0,none⟩))) 19 (.pointer (some ⟨b47,0,none⟩))) 20 (vI y37.2)) 21 (.pointer (some ⟨b58,0,none⟩))) 22 (vI y48.2)) 101 (.bool ((y37.2 != 0) && (y37.2 != 5))))) (fun tm0 => ?_) (fun key => ?_)
    ·refine oY rfl (yMB rfl) ?_
     refine oJ 10 (fun tm0 => (upd (upd (upd (upd (upd (upd (upd (upd (upd (upd tm0 1 (vI p1)) 2 (vI p2)) 3 (vI p3)) 4 (vI p4)) 7 (.pointer (some ⟨b1,0,none⟩))) 14 (.bool false)) 15 (.pointer (some ⟨b17,0,none⟩))) 21 (.pointer (some ⟨b58,0,none⟩))) 22 (vI y48.2)) 112 (.bool (((y37.2 != 0) && (y37.2 != 5)) || ((y37.2 == 0) && (decide (y37.1.fA < y7.1.fA))))))) (fun tm0 => ?_) (fun key => ?_)
     ·refine oY rfl (yMB rfl) ?_
      refine oJ 3 (fun tm0 => (upd (upd (upd (upd (upd (upd (upd (upd (upd tm0 1 (vI p1)) 2 (vI p2)) 3 (vI p3)) 4 (vI p4)) 7 (.pointer (some ⟨b1,0,none⟩))) 14 (.bool false)) 15 (.pointer (some ⟨b17,0,none⟩))) 21 (.pointer (some ⟨b58,0,none⟩))) 116 (.bool ((((y37.2 != 0) && (y37.2 != 5)) || ((y37.2 == 0) && (decide (y37.1.fA < y7.1.fA)))) || (y48.2 != 0))))) (fun tm0 => ?_) (fun key => ?_)
      ·refine oY rfl (yMB rfl) ?_
       refine oJ 6 (fun tm0 => (upd (upd (upd (upd (upd (upd (upd (upd tm0 1 (vI p1)) 2 (vI p2)) 3 (vI p3)) 4 (vI p4)) 7 (.pointer (some ⟨b1,0,none⟩))) 14 (.bool false)) 15 (.pointer (some ⟨b17,0,none⟩))) 123 (.bool (((((y37.2 != 0) && (y37.2 != 5)) || ((y37.2 == 0) && (decide (y37.1.fA < y7.1.fA)))) || (y48.2 != 0)) || (decide (y7.1.fA < y48.1.fA)))))) (fun tm0 => ?_) (fun key => ?_)
       ·refine oN (eT ?_)
        rcases iOs h with ⟨hp63,h⟩ | ⟨hp63,h⟩
        ·refine cT (vB hp63) (cS (cR (oY rfl (yAB rfl) (oN (eT (al (aa ?_)))))))
         obtain rfl:=sI h
         exact ak (.inl rfl) rfl (rVt (v:=.bool false) rfl) (fun W2 hW2 => ⟨rfl,hW2.none⟩)
        ·refine cF (vB hp63) (cK (eT (cS (cR (oY rfl (yN 0 [vI p0.fPlaces,.slice Ab p0.fTracks.length cb] eK rfl rfl rfl) (oY rfl (yMI rfl) (oY rfl (yMI rfl) (oY rfl (yFA ei rfl) (oY rfl (yL 2 bd rfl rfl rfl) (oY rfl (yMI rfl) ?_))))))))))
         obtain ⟨y64,hy65,h⟩:=bOs h
         refine oY rfl (yC [.agg #[vI p0.fPlaces,.slice Ab p0.fTracks.length cb],vI p1,vI p2,vI y7.1.fA,vI p4] go_19 rfl (fun W2 hW2 => jG p0 p1 p2 y7.1.fA p4 y64 hy65 W2 Ab p0.fTracks.length cb ys0_1 rfl ((RdL.arg hr0_1) W2 hW2) (NestL.at (NestL.arg hN0_1) W2 hW2)) rfl) (oY rfl (aC rfl) (oY rfl (yE rfl rfl) (oY rfl (yE rfl rfl) (oY rfl (yAI rfl) (oY rfl (yAI rfl) (oN (eT (cS (cR (oY rfl (yN 0 [vI p0.fPlaces,.slice Ab p0.fTracks.length cb] eK rfl rfl rfl) (oY rfl (yMI rfl) (oY rfl (yMI rfl) (oY rfl (yMI rfl) (oY rfl (yMI rfl) ?_))))))))))))))
         obtain ⟨y66,hy67,h⟩:=bOs h
         refine oC [.agg #[vI p0.fPlaces,.slice Ab p0.fTracks.length cb],vI p1,vI p2,vI y64.1,vI p4] _ _ _ rfl oM rfl (fun W2 hW2 => dh p0 p1 p2 y64.1 p4 y66 hy67 W2 Ab p0.fTracks.length cb ys0_1 rfl ((RdL.arg hr0_1) W2 hW2) (NestL.at (NestL.arg hN0_1) W2 hW2) W (fun _ => True) (fun W3 hb => ⟨eI hW2.below hb,trivial⟩) ) ?_
         rintro ⟨⟨A70,n72,c71⟩,F74⟩ ⟨hn73,hV75⟩
         replace hn73 : n72 = y66.1.fLegs.length:=hn73; subst hn73
         try dsimp only [lna,lca,lsz,lss]
         refine oY rfl (aC rfl) (oY rfl (yE rfl rfl) (oY rfl (yE rfl rfl) ?_))
         refine aw gO rfl (fun b76 => ?_)
         try dsimp only [lna,lca,lsz,lss]
         refine cw rfl (yS 8 [.slice A70 y66.1.fLegs.length c71,vI y66.1.fA,vI y66.1.fToll] iD rfl (nB rfl) rfl rfl rfl) (oY rfl (yAI rfl) (oN (eT (cS (cR (oY rfl (yN 0 [vI p0.fPlaces,.slice Ab p0.fTracks.length cb] eK rfl rfl rfl) (oY rfl (yMI rfl) (oY rfl (yMI rfl) (oY rfl (yMI rfl) (oY rfl (bc rfl rfl) (oY rfl (yMI rfl) ?_)))))))))))
         obtain ⟨y77,hy78,h⟩:=bOs h
         refine oC [.agg #[vI p0.fPlaces,.slice Ab p0.fTracks.length cb],vI p1,vI p2,vI (w64 (y64.1 + 1)),vI p4] _ _ _ rfl oM rfl (fun W2 hW2 => dh p0 p1 p2 (w64 (y64.1 + 1)) p4 y77 hy78 W2 Ab p0.fTracks.length cb ys0_1 rfl ((RdL.arg hr0_1) W2 hW2) (NestL.at (NestL.arg hN0_1) W2 hW2) W (fun _ => True) (fun W3 hb => ⟨eI hW2.below hb,trivial⟩) ) ?_
         rintro ⟨⟨A81,n83,c82⟩,F85⟩ ⟨hn84,hV86⟩
         replace hn84 : n83 = y77.1.fLegs.length:=hn84; subst hn84
         try dsimp only [lna,lca,lsz,lss]
         refine oY rfl (aC rfl) (oY rfl (yE rfl rfl) (oY rfl (yE rfl rfl) ?_))
         refine aw gO rfl (fun b87 => ?_)
         try dsimp only [lna,lca,lsz,lss]
         refine cw rfl (yS 10 [.slice A81 y77.1.fLegs.length c82,vI y77.1.fA,vI y77.1.fToll] iD rfl (nB rfl) rfl rfl rfl) (oY rfl (yAI rfl) (oN (eT (cS (cR ?_)))))
         obtain ⟨y88,hy89,h⟩:=bOs h
         refine oY rfl (yC [] go_17 rfl (fun W2 hW2 => dq  y88 hy89 W2 ) rfl) (oY rfl (yMB rfl) ?_)
         refine oJ 3 (fun tm0 => (upd (upd (upd (upd (upd (upd (upd (upd (upd tm0 3 (vI p3)) 14 (.bool false)) 15 (.pointer (some ⟨b17,0,none⟩))) 23 (vI y64.1)) 25 (.pointer (some ⟨b76,0,none⟩))) 26 (vI y66.2)) 27 (.pointer (some ⟨b87,0,none⟩))) 28 (vI y77.2)) 157 (.bool (y88 && (y64.2 == 0))))) (fun tm0 => ?_) (fun key => ?_)
         ·refine oY rfl (yMB rfl) ?_
          refine oJ 4 (fun tm0 => (upd (upd (upd (upd (upd (upd (upd tm0 14 (.bool false)) 15 (.pointer (some ⟨b17,0,none⟩))) 25 (.pointer (some ⟨b76,0,none⟩))) 26 (vI y66.2)) 27 (.pointer (some ⟨b87,0,none⟩))) 28 (vI y77.2)) 162 (.bool ((y88 && (y64.2 == 0)) && (decide (p3 ≤ y64.1)))))) (fun tm0 => ?_) (fun key => ?_)
          ·refine oY rfl (yMB rfl) ?_
           refine oJ 3 (fun tm0 => (upd (upd (upd (upd (upd (upd tm0 14 (.bool false)) 15 (.pointer (some ⟨b17,0,none⟩))) 25 (.pointer (some ⟨b76,0,none⟩))) 27 (.pointer (some ⟨b87,0,none⟩))) 28 (vI y77.2)) 166 (.bool (((y88 && (y64.2 == 0)) && (decide (p3 ≤ y64.1))) && (y66.2 == 0))))) (fun tm0 => ?_) (fun key => ?_)
           ·refine oY rfl (yMB rfl) ?_
            refine oJ 6 (fun tm0 => (upd (upd (upd (upd (upd tm0 14 (.bool false)) 15 (.pointer (some ⟨b17,0,none⟩))) 27 (.pointer (some ⟨b87,0,none⟩))) 28 (vI y77.2)) 173 (.bool ((((y88 && (y64.2 == 0)) && (decide (p3 ≤ y64.1))) && (y66.2 == 0)) && (decide (y66.1.fA ≤ y7.1.fA)))))) (fun tm0 => ?_) (fun key => ?_)
            ·refine oY rfl (yMB rfl) ?_
             refine oJ 10 (fun tm0 => (upd (upd tm0 14 (.bool false)) 184 (.bool (((((y88 && (y64.2 == 0)) && (decide (p3 ≤ y64.1))) && (y66.2 == 0)) && (decide (y66.1.fA ≤ y7.1.fA))) && ((y77.2 != 0) || (decide (y7.1.fA < y77.1.fA))))))) (fun tm0 => ?_) (fun key => ?_)
             ·refine oY rfl (yAB rfl) (oN (eT (al ?_)))
              obtain rfl:=sI h
              exact ak (.inl rfl) rfl (rVt (v:=.bool (((((y88 && (y64.2 == 0)) && (decide (p3 ≤ y64.1))) && (y66.2 == 0)) && (decide (y66.1.fA ≤ y7.1.fA))) && ((y77.2 != 0) || (decide (y7.1.fA < y77.1.fA))))) rfl) (fun W2 hW2 => ⟨rfl,hW2.none⟩)
             ·rcases am ((((y88 && (y64.2 == 0)) && (decide (p3 ≤ y64.1))) && (y66.2 == 0)) && (decide (y66.1.fA ≤ y7.1.fA))) with hp94 | hp94
              ·refine oY (sT rfl rfl rfl rfl hp94) (yMI rfl) (oY (sT rfl rfl rfl rfl hp94) (dE rfl rfl) (oY (sT rfl rfl rfl rfl hp94) (yMB rfl) ?_))
               refine oJ 6 (fun tm0 => (upd (upd (upd tm0 14 (.bool false)) 174 (.bool ((((y88 && (y64.2 == 0)) && (decide (p3 ≤ y64.1))) && (y66.2 == 0)) && (decide (y66.1.fA ≤ y7.1.fA))))) 183 (.bool ((y77.2 != 0) || (decide (y7.1.fA < y77.1.fA)))))) (fun tm0 => ?_) (fun key => ?_)
               ·refine oY rfl (ac (vB hp94) rfl) ?_
                exact key _ _ (keep (keep rfl rfl) (vB (fZ hp94)))
               ·rcases am (y77.2 != 0) with hp95 | hp95
                ·refine oSk (sF rfl rfl rfl rfl hp95) (oSk (sF rfl rfl rfl rfl hp95) (oSk (sF rfl rfl rfl rfl hp95) (oSk (sF rfl rfl rfl rfl hp95) (oSk (sF rfl rfl rfl rfl hp95) (oY (sT rfl rfl rfl rfl hp94) (ac (vB hp95) rfl) ?_)))))
                 exact key _ _ (keep (keep (keep rfl rfl) rfl) (vB (jv hp95)))
                ·refine oY (sT rfl rfl rfl rfl hp95) (yFA ei rfl) (oY (sT rfl rfl rfl rfl hp95) (yL 10 bd rfl rfl rfl) (oY (sT rfl rfl rfl rfl hp95) (yFA ei rfl) (oY (sT rfl rfl rfl rfl hp95) (yL 2 bd rfl rfl rfl) (oY (sT rfl rfl rfl rfl hp95) (g6 rfl rfl) (oY (sT rfl rfl rfl rfl hp94) (ad (vB hp95) rfl) ?_)))))
                 exact key _ _ (keep (keep (keep rfl rfl) rfl) (vB (jz hp95)))
              ·refine oSk (sF rfl rfl rfl rfl hp94) (oSk (sF rfl rfl rfl rfl hp94) (oSk (sF rfl rfl rfl rfl hp94) (oSk rfl (oSk rfl (oSk rfl (oSk rfl (oSk rfl (oSk (sF rfl rfl rfl rfl hp94) (oY rfl (ad (vB hp94) rfl) ?_)))))))))
               exact key _ _ (keep (keep rfl rfl) (vB (fU hp94)))
            ·rcases am (((y88 && (y64.2 == 0)) && (decide (p3 ≤ y64.1))) && (y66.2 == 0)) with hp93 | hp93
             ·refine oY (sT rfl rfl rfl rfl hp93) (yFA ei rfl) (oY (sT rfl rfl rfl rfl hp93) (yL 8 bd rfl rfl rfl) (oY (sT rfl rfl rfl rfl hp93) (yFA ei rfl) (oY (sT rfl rfl rfl rfl hp93) (yL 2 bd rfl rfl rfl) (oY (sT rfl rfl rfl rfl hp93) (jV rfl rfl) (oY rfl (ac (vB hp93) rfl) ?_)))))
              exact key _ _ (keep (keep (keep (keep (keep rfl rfl) rfl) rfl) rfl) (vB (fZ hp93)))
             ·refine oSk (sF rfl rfl rfl rfl hp93) (oSk (sF rfl rfl rfl rfl hp93) (oSk (sF rfl rfl rfl rfl hp93) (oSk (sF rfl rfl rfl rfl hp93) (oSk (sF rfl rfl rfl rfl hp93) (oY rfl (ad (vB hp93) rfl) ?_)))))
              exact key _ _ (keep (keep (keep (keep (keep rfl rfl) rfl) rfl) rfl) (vB (fU hp93)))
           ·rcases am ((y88 && (y64.2 == 0)) && (decide (p3 ≤ y64.1))) with hp92 | hp92
            ·refine oY (sT rfl rfl rfl rfl hp92) (yMI rfl) (oY (sT rfl rfl rfl rfl hp92) (dk rfl rfl) (oY rfl (ac (vB hp92) rfl) ?_))
             exact key _ _ (keep (keep (keep (keep (keep (keep rfl rfl) rfl) rfl) rfl) rfl) (vB (fZ hp92)))
            ·refine oSk (sF rfl rfl rfl rfl hp92) (oSk (sF rfl rfl rfl rfl hp92) (oY rfl (ad (vB hp92) rfl) ?_))
             exact key _ _ (keep (keep (keep (keep (keep (keep rfl rfl) rfl) rfl) rfl) rfl) (vB (fU hp92)))
          ·rcases am (y88 && (y64.2 == 0)) with hp91 | hp91
           ·refine oY (sT rfl rfl rfl rfl hp91) (yMI rfl) (oY (sT rfl rfl rfl rfl hp91) (yMI rfl) (oY (sT rfl rfl rfl rfl hp91) (oK rfl rfl) (oY rfl (ac (vB hp91) rfl) ?_)))
            exact key _ _ (keep (keep (keep (keep (keep (keep (keep rfl rfl) rfl) rfl) rfl) rfl) rfl) (vB (fZ hp91)))
           ·refine oSk (sF rfl rfl rfl rfl hp91) (oSk (sF rfl rfl rfl rfl hp91) (oSk (sF rfl rfl rfl rfl hp91) (oY rfl (ad (vB hp91) rfl) ?_)))
            exact key _ _ (keep (keep (keep (keep (keep (keep (keep rfl rfl) rfl) rfl) rfl) rfl) rfl) (vB (fU hp91)))
         ·rcases am y88 with hp90 | hp90
          ·refine oY (sT rfl rfl rfl rfl hp90) (yMI rfl) (oY (sT rfl rfl rfl rfl hp90) (dk rfl rfl) (oY rfl (ac (vB hp90) rfl) ?_))
           exact key _ _ (keep (keep (keep (keep (keep (keep (keep (keep (keep rfl rfl) rfl) rfl) rfl) rfl) rfl) rfl) rfl) (vB (fZ hp90)))
          ·refine oSk (sF rfl rfl rfl rfl hp90) (oSk (sF rfl rfl rfl rfl hp90) (oY rfl (ad (vB hp90) rfl) ?_))
           exact key _ _ (keep (keep (keep (keep (keep (keep (keep (keep (keep rfl rfl) rfl) rfl) rfl) rfl) rfl) rfl) rfl) (vB (fU hp90)))
       ·rcases am ((((y37.2 != 0) && (y37.2 != 5)) || ((y37.2 == 0) && (decide (y37.1.fA < y7.1.fA)))) || (y48.2 != 0)) with hp62 | hp62
        ·refine oSk (sF rfl rfl rfl rfl hp62) (oSk (sF rfl rfl rfl rfl hp62) (oSk (sF rfl rfl rfl rfl hp62) (oSk (sF rfl rfl rfl rfl hp62) (oSk (sF rfl rfl rfl rfl hp62) (oY rfl (ac (vB hp62) rfl) ?_)))))
         exact key _ _ (keep (keep (keep (keep (keep (keep (keep (keep rfl rfl) rfl) rfl) rfl) rfl) rfl) rfl) (vB (jv hp62)))
        ·refine oY (sT rfl rfl rfl rfl hp62) (yFA ei rfl) (oY (sT rfl rfl rfl rfl hp62) (yL 6 bd rfl rfl rfl) (oY (sT rfl rfl rfl rfl hp62) (yFA ei rfl) (oY (sT rfl rfl rfl rfl hp62) (yL 2 bd rfl rfl rfl) (oY (sT rfl rfl rfl rfl hp62) (g6 rfl rfl) (oY rfl (ad (vB hp62) rfl) ?_)))))
         exact key _ _ (keep (keep (keep (keep (keep (keep (keep (keep rfl rfl) rfl) rfl) rfl) rfl) rfl) rfl) (vB (jz hp62)))
      ·rcases am (((y37.2 != 0) && (y37.2 != 5)) || ((y37.2 == 0) && (decide (y37.1.fA < y7.1.fA)))) with hp61 | hp61
       ·refine oSk (sF rfl rfl rfl rfl hp61) (oSk (sF rfl rfl rfl rfl hp61) (oY rfl (ac (vB hp61) rfl) ?_))
        exact key _ _ (keep (keep (keep (keep (keep (keep (keep (keep (keep rfl rfl) rfl) rfl) rfl) rfl) rfl) rfl) rfl) (vB (jv hp61)))
       ·refine oY (sT rfl rfl rfl rfl hp61) (yMI rfl) (oY (sT rfl rfl rfl rfl hp61) (dE rfl rfl) (oY rfl (ad (vB hp61) rfl) ?_))
        exact key _ _ (keep (keep (keep (keep (keep (keep (keep (keep (keep rfl rfl) rfl) rfl) rfl) rfl) rfl) rfl) rfl) (vB (jz hp61)))
     ·rcases am ((y37.2 != 0) && (y37.2 != 5)) with hp60 | hp60
      ·refine oSk (sF rfl rfl rfl rfl hp60) (oSk (sF rfl rfl rfl rfl hp60) (oSk (sF rfl rfl rfl rfl hp60) (oSk rfl (oSk rfl (oSk rfl (oSk rfl (oSk rfl (oSk (sF rfl rfl rfl rfl hp60) (oY rfl (ac (vB hp60) rfl) ?_)))))))))
       exact key _ _ (keep (keep (keep (keep (keep (keep (keep (keep (keep (keep rfl rfl) rfl) rfl) rfl) rfl) rfl) rfl) rfl) rfl) (vB (jv hp60)))
      ·refine oY (sT rfl rfl rfl rfl hp60) (yMI rfl) (oY (sT rfl rfl rfl rfl hp60) (dk rfl rfl) (oY (sT rfl rfl rfl rfl hp60) (yMB rfl) ?_))
       refine oJ 6 (fun tm0 => (upd (upd (upd (upd (upd (upd (upd (upd (upd (upd (upd tm0 1 (vI p1)) 2 (vI p2)) 3 (vI p3)) 4 (vI p4)) 7 (.pointer (some ⟨b1,0,none⟩))) 14 (.bool false)) 15 (.pointer (some ⟨b17,0,none⟩))) 21 (.pointer (some ⟨b58,0,none⟩))) 22 (vI y48.2)) 102 (.bool ((y37.2 != 0) && (y37.2 != 5)))) 111 (.bool ((y37.2 == 0) && (decide (y37.1.fA < y7.1.fA)))))) (fun tm0 => ?_) (fun key => ?_)
       ·refine oY rfl (ad (vB hp60) rfl) ?_
        exact key _ _ (keep (keep (keep (keep (keep (keep (keep (keep (keep (keep rfl rfl) rfl) rfl) rfl) rfl) rfl) rfl) rfl) rfl) (vB (jz hp60)))
       ·rcases am (y37.2 == 0) with hp96 | hp96
        ·refine oY (sT rfl rfl rfl rfl hp96) (yFA ei rfl) (oY (sT rfl rfl rfl rfl hp96) (yL 4 bd rfl rfl rfl) (oY (sT rfl rfl rfl rfl hp96) (yFA ei rfl) (oY (sT rfl rfl rfl rfl hp96) (yL 2 bd rfl rfl rfl) (oY (sT rfl rfl rfl rfl hp96) (bu rfl rfl) (oY (sT rfl rfl rfl rfl hp60) (ac (vB hp96) rfl) ?_)))))
         exact key _ _ (keep (keep (keep (keep (keep (keep (keep (keep (keep (keep (keep rfl rfl) rfl) rfl) rfl) rfl) rfl) rfl) rfl) rfl) rfl) (vB (fZ hp96)))
        ·refine oSk (sF rfl rfl rfl rfl hp96) (oSk (sF rfl rfl rfl rfl hp96) (oSk (sF rfl rfl rfl rfl hp96) (oSk (sF rfl rfl rfl rfl hp96) (oSk (sF rfl rfl rfl rfl hp96) (oY (sT rfl rfl rfl rfl hp60) (ad (vB hp96) rfl) ?_)))))
         exact key _ _ (keep (keep (keep (keep (keep (keep (keep (keep (keep (keep (keep rfl rfl) rfl) rfl) rfl) rfl) rfl) rfl) rfl) rfl) rfl) (vB (fU hp96)))
    ·rcases am (y37.2 != 0) with hp59 | hp59
     ·refine oY (sT rfl rfl rfl rfl hp59) (yMI rfl) (oY (sT rfl rfl rfl rfl hp59) (dE rfl rfl) (oY rfl (ac (vB hp59) rfl) ?_))
      exact key _ _ (keep (keep (keep (keep (keep (keep (keep (keep (keep (keep (keep (keep rfl rfl) rfl) rfl) rfl) rfl) rfl) rfl) rfl) rfl) rfl) rfl) (vB (fZ hp59)))
     ·refine oSk (sF rfl rfl rfl rfl hp59) (oSk (sF rfl rfl rfl rfl hp59) (oY rfl (ad (vB hp59) rfl) ?_))
      exact key _ _ (keep (keep (keep (keep (keep (keep (keep (keep (keep (keep (keep (keep rfl rfl) rfl) rfl) rfl) rfl) rfl) rfl) rfl) rfl) rfl) rfl) (vB (fU hp59)))
end Go.Proofs.YthndghnkebboaaaGreat
