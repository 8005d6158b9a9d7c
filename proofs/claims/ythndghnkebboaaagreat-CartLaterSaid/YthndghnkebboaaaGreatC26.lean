import Derived.Test.YthndghnkebboaaaGreatF
import Derived.Test.YthndghnkebboaaaGreatGk
import Derived.Test.YthndghnkebboaaaGreatC2
import Derived.Test.YthndghnkebboaaaGreatC4
import Derived.Test.YthndghnkebboaaaGreatC6
import Derived.Test.YthndghnkebboaaaGreatC0
import Derived.Test.YthndghnkebboaaaGreatGC
set_option maxHeartbeats 4000000
set_option maxRecDepth 100000
set_option linter.unusedVariables false
namespace Go.Proofs.YthndghnkebboaaaGreat
open Go.RowKit (Below)
attribute [local irreducible] OX QX CX EX OpY Calls CallsIn
theorem ig  (res:Bool) (h:dM = some res) (W:World)  :
  Calls Tryz.prog 17 [].toArray W fun e W2 => e = .returned (.bool res) ∧ Ext W W2 []:=by
 unfold dM at h
 refine ab (m:=261) Tryz.func17 rfl rfl (nB rfl) (cS (cR (oY rfl (yAB rfl) (oN (eT (cS (cR ?_)))))))
 obtain ⟨y1,hy2,h⟩:=bOs h
 refine oC [] _ _ _ rfl go_67 rfl (fun W2 hW2 => lv  y1 hy2 W2 W (fun _ => True) (fun W3 hb => ⟨gx hW2.below hb,trivial⟩) ) ?_
 rintro ⟨⟨A5,n7,c6⟩,ys10,F11⟩ ⟨hn8,hP9,hV12⟩
 replace hn8 : n7 = y1.fTracks.length:=hn8; subst hn8
 refine ay sq rfl (fun b13 => ?_)
 refine cv rfl (yS 2 [vI y1.fPlaces,.slice A5 y1.fTracks.length c6] sz_24 rfl (nB rfl) rfl rfl rfl) (oN (eT (cS (cR ?_))))
 obtain ⟨y14,hy15,h⟩:=bOs h
 refine oC [] _ _ _ rfl go_68 rfl (fun W2 hW2 => kP  y14 hy15 W2 ) ?_
 rintro ⟨⟨A16,n20,c17⟩,⟨A18,n22,c19⟩⟩ ⟨hn21,hn23⟩
 replace hn21 : n20 = y14.fB.length:=hn21; subst hn21
 replace hn23 : n22 = y14.fR.length:=hn23; subst hn23
 refine ay nA rfl (fun b24 => ?_)
 try dsimp only [lna,lca,lsz,lss]
 refine cv rfl (yS 5 [.slice A16 y14.fB.length c17,.slice A18 y14.fR.length c19] rk rfl (nB rfl) rfl rfl rfl) (oN (eT (cS (cR (oY rfl (yFA kH rfl) (oY rfl (yL 2 qg rfl rfl rfl) ?_))))))
 obtain ⟨hg25,h⟩:=gOs h
 refine oY rfl (yI o9 (by decide) hg25.1 hg25.2 (RdL.row 0 rfl) (eL aT (NestP.hn hP9 rfl)) rfl rfl) ?_
 refine oY rfl (yM (A:=A5) (j:=(Int.toNat 1 * 6)) [vI ((rdL y1.fTracks 1).fID),vI ((rdL y1.fTracks 1).fFrom),vI ((rdL y1.fTracks 1).fTo),vI ((rdL y1.fTracks 1).fLong),vI ((rdL y1.fTracks 1).fToll),.slice ((rdL ys10 1).1.1) ((rdL y1.fTracks 1).fK.length) ((rdL ys10 1).1.2.2)] lZ (Nat.succ_pos _) (RdL.row 0 rfl) rfl (ni (eK (NestP.snd hP9 1) (NestP.len hP9 hg25.1 (aw hg25.2 rfl))).symm (bg aT hg25.1 (aw hg25.2 (NestP.hn hP9 rfl))))) ?_
 obtain ⟨y26,hy27,h⟩:=bOs h
 refine oY rfl (yC [.agg #[vI ((rdL y1.fTracks 1).fID),vI ((rdL y1.fTracks 1).fFrom),vI ((rdL y1.fTracks 1).fTo),vI ((rdL y1.fTracks 1).fLong),vI ((rdL y1.fTracks 1).fToll),.slice ((rdL ys10 1).1.1) ((rdL y1.fTracks 1).fK.length) ((rdL ys10 1).1.2.2)],vI 8] go_69 rfl (fun W2 hW2 => pc (TT.mk ((rdL y1.fTracks 1).fID) ((rdL y1.fTracks 1).fFrom) ((rdL y1.fTracks 1).fTo) ((rdL y1.fTracks 1).fLong) ((rdL y1.fTracks 1).fToll) ((rdL y1.fTracks 1).fK)) 8 y26 hy27 W2 ((rdL ys10 1).1.1) ((rdL y1.fTracks 1).fK.length) ((rdL ys10 1).1.2.2) rfl ((NestL.rd (PvL.nestL hP9 hV12 (fun W2 hW2 => ⟨hW2.below,trivial,hW2.mem (i:=1) rfl⟩)) hg25.1 (aw hg25.2 rfl)) W2 hW2)) rfl) (oY rfl (aS rfl) (oY rfl (yE rfl rfl) (oY rfl (yE rfl rfl) (oY rfl (yAI rfl) (oY rfl (yAI rfl) (oN (eT (cS (cR (oY rfl (yN 2 [vI y1.fPlaces,.slice A5 y1.fTracks.length c6] ip rfl rfl rfl) ?_))))))))))
 obtain ⟨y28,hy29,h⟩:=bOs h
 refine oC [.agg #[vI y1.fPlaces,.slice A5 y1.fTracks.length c6],vI 0,vI 4] _ _ _ rfl go_49 rfl (fun W2 hW2 => ml y1 0 4 y28 hy29 W2 A5 y1.fTracks.length c6 ys10 rfl ((RdL.row 0 rfl) W2 hW2) (NestL.at (PvL.nestL hP9 hV12 (fun W2 hW2 => ⟨hW2.below,trivial,hW2.mem (i:=1) rfl⟩)) W2 hW2) W (fun _ => True) (fun W3 hb => ⟨gx hW2.below hb,trivial⟩) ) ?_
 rintro ⟨⟨A32,n34,c33⟩,ys37,F38⟩ ⟨hn35,hP36,hV39⟩
 replace hn35 : n34 = y28.1.fH.length:=hn35; subst hn35
 try dsimp only [lna,lca,lsz,lss]
 refine oY rfl (aS rfl) (oY rfl (yE rfl rfl) (oY rfl (yE rfl rfl) ?_))
 refine ay ze_87 rfl (fun b40 => ?_)
 try dsimp only [lna,lca,lsz,lss]
 refine cv rfl (yS 8 [.slice A32 y28.1.fH.length c33] sz_87 rfl (nB rfl) rfl rfl rfl) (oY rfl (yAI rfl) (oN (eT (cS (cR (oY rfl (yN 2 [vI y1.fPlaces,.slice A5 y1.fTracks.length c6] ip rfl rfl rfl) ?_))))))
 obtain ⟨y41,hy42,h⟩:=bOs h
 refine oC [.agg #[vI y1.fPlaces,.slice A5 y1.fTracks.length c6],vI 0,vI 2,vI 4] _ _ _ rfl go_61 rfl (fun W2 hW2 => oI y1 0 2 4 y41 hy42 W2 A5 y1.fTracks.length c6 ys10 rfl ((RdL.row 0 rfl) W2 hW2) (NestL.at (PvL.nestL hP9 hV12 (fun W2 hW2 => ⟨hW2.below,trivial,hW2.mem (i:=1) rfl⟩)) W2 hW2) W (fun _ => True) (fun W3 hb => ⟨gx hW2.below hb,trivial⟩) ) ?_
 rintro ⟨⟨A45,n47,c46⟩,ys50,F51⟩ ⟨hn48,hP49,hV52⟩
 replace hn48 : n47 = y41.1.length:=hn48; subst hn48
 try dsimp only [lna,lca,lsz,lss]
 refine oY rfl (aS rfl) (oY rfl (yE rfl rfl) (oY rfl (yE rfl rfl) (oY rfl (yAS rfl) (oY rfl (yAI rfl) (oN (eT (cS (cR (oY rfl (yN 2 [vI y1.fPlaces,.slice A5 y1.fTracks.length c6] ip rfl rfl rfl) ?_)))))))))
 obtain ⟨y53,hy54,h⟩:=bOs h
 refine oC [.agg #[vI y1.fPlaces,.slice A5 y1.fTracks.length c6],vI 0,vI 2,vI 4,vI 5] _ _ _ rfl go_18 rfl (fun W2 hW2 => lW y1 0 2 4 5 y53 hy54 W2 A5 y1.fTracks.length c6 ys10 rfl ((RdL.row 0 rfl) W2 hW2) (NestL.at (PvL.nestL hP9 hV12 (fun W2 hW2 => ⟨hW2.below,trivial,hW2.mem (i:=1) rfl⟩)) W2 hW2) W (fun _ => True) (fun W3 hb => ⟨gx hW2.below hb,trivial⟩) ) ?_
 rintro ⟨⟨A57,n59,c58⟩,F61⟩ ⟨hn60,hV62⟩
 replace hn60 : n59 = y53.1.fLegs.length:=hn60; subst hn60
 try dsimp only [lna,lca,lsz,lss]
 refine oY rfl (aS rfl) (oY rfl (yE rfl rfl) (oY rfl (yE rfl rfl) ?_))
 refine ay kf rfl (fun b63 => ?_)
 try dsimp only [lna,lca,lsz,lss]
 refine cv rfl (yS 12 [.slice A57 y53.1.fLegs.length c58,vI y53.1.fA,vI y53.1.fToll] lU rfl (nB rfl) rfl rfl rfl) (oY rfl (yAI rfl) (oN (eT (cS (cR (oY rfl (yN 2 [vI y1.fPlaces,.slice A5 y1.fTracks.length c6] ip rfl rfl rfl) ?_))))))
 obtain ⟨y64,hy65,h⟩:=bOs h
 refine oY rfl (yC [.agg #[vI y1.fPlaces,.slice A5 y1.fTracks.length c6],vI 0,vI 2,vI 26,vI 0] go_19 rfl (fun W2 hW2 => nI y1 0 2 26 0 y64 hy65 W2 A5 y1.fTracks.length c6 ys10 rfl ((RdL.row 0 rfl) W2 hW2) (NestL.at (PvL.nestL hP9 hV12 (fun W2 hW2 => ⟨hW2.below,trivial,hW2.mem (i:=1) rfl⟩)) W2 hW2)) rfl) (oY rfl (aS rfl) (oY rfl (yE rfl rfl) (oY rfl (yE rfl rfl) (oY rfl (yAI rfl) (oY rfl (yAI rfl) (oN (eT (cS (cR (oY rfl (yN 2 [vI y1.fPlaces,.slice A5 y1.fTracks.length c6] ip rfl rfl rfl) ?_))))))))))
 obtain ⟨y66,hy67,h⟩:=bOs h
 refine oC [.agg #[vI y1.fPlaces,.slice A5 y1.fTracks.length c6],vI 0,vI 2,vI 4,vI 0] _ _ _ rfl go_23 rfl (fun W2 hW2 => ko y1 0 2 4 0 y66 hy67 W2 A5 y1.fTracks.length c6 ys10 rfl ((RdL.row 0 rfl) W2 hW2) (NestL.at (PvL.nestL hP9 hV12 (fun W2 hW2 => ⟨hW2.below,trivial,hW2.mem (i:=1) rfl⟩)) W2 hW2)) ?_
 rintro ⟨A68,n70,c69⟩ hn71
 replace hn71 : n70 = y66.1.length:=hn71; subst hn71
 try dsimp only [lna,lca,lsz,lss]
 refine oY rfl (aS rfl) (oY rfl (yE rfl rfl) (oY rfl (yE rfl rfl) (oY rfl (yAS rfl) (oY rfl (yAI rfl) (oN (eT (cS (cR (oY rfl (yN 2 [vI y1.fPlaces,.slice A5 y1.fTracks.length c6] ip rfl rfl rfl) ?_)))))))))
 obtain ⟨y72,hy73,h⟩:=bOs h
 refine oC [.agg #[vI y1.fPlaces,.slice A5 y1.fTracks.length c6],vI 0,vI 2,vI 4,vI 60] _ _ _ rfl go_23 rfl (fun W2 hW2 => ko y1 0 2 4 60 y72 hy73 W2 A5 y1.fTracks.length c6 ys10 rfl ((RdL.row 0 rfl) W2 hW2) (NestL.at (PvL.nestL hP9 hV12 (fun W2 hW2 => ⟨hW2.below,trivial,hW2.mem (i:=1) rfl⟩)) W2 hW2)) ?_
 rintro ⟨A74,n76,c75⟩ hn77
 replace hn77 : n76 = y72.1.length:=hn77; subst hn77
 try dsimp only [lna,lca,lsz,lss]
 refine oY rfl (aS rfl) (oY rfl (yE rfl rfl) (oY rfl (yE rfl rfl) (oY rfl (yAS rfl) (oY rfl (yAI rfl) (oN (eT (cS (cS (cR (oY rfl (yMI rfl) (oY rfl (cQ rfl rfl) (oY rfl (yMB rfl) ?_))))))))))))
 refine oJ 3 (fun tm0 => (upd (upd (upd (upd (upd (upd (upd (upd (upd (upd (upd (upd (upd (upd (upd tm0 0 (.bool false)) 2 (.pointer (some ⟨b24,0,none⟩))) 3 (vI y26.1)) 5 (.pointer (some ⟨b40,0,none⟩))) 7 (.slice A45 y41.1.length c46)) 8 (vI y41.2)) 9 (.pointer (some ⟨b63,0,none⟩))) 10 (vI y53.2)) 11 (vI y64.1)) 12 (vI y64.2)) 13 (.slice A68 y66.1.length c69)) 14 (vI y66.2)) 15 (.slice A74 y72.1.length c75)) 16 (vI y72.2)) 74 (.bool ((y26.2 != 0) || (y28.2 != 0))))) (fun tm0 => ?_) (fun key => ?_)
 ·refine oY rfl (yMB rfl) ?_
  refine oJ 3 (fun tm0 => (upd (upd (upd (upd (upd (upd (upd (upd (upd (upd (upd (upd (upd (upd tm0 0 (.bool false)) 2 (.pointer (some ⟨b24,0,none⟩))) 3 (vI y26.1)) 5 (.pointer (some ⟨b40,0,none⟩))) 7 (.slice A45 y41.1.length c46)) 9 (.pointer (some ⟨b63,0,none⟩))) 10 (vI y53.2)) 11 (vI y64.1)) 12 (vI y64.2)) 13 (.slice A68 y66.1.length c69)) 14 (vI y66.2)) 15 (.slice A74 y72.1.length c75)) 16 (vI y72.2)) 78 (.bool (((y26.2 != 0) || (y28.2 != 0)) || (y41.2 != 0))))) (fun tm0 => ?_) (fun key => ?_)
  ·refine oY rfl (yMB rfl) ?_
   refine oJ 3 (fun tm0 => (upd (upd (upd (upd (upd (upd (upd (upd (upd (upd (upd (upd (upd tm0 0 (.bool false)) 2 (.pointer (some ⟨b24,0,none⟩))) 3 (vI y26.1)) 5 (.pointer (some ⟨b40,0,none⟩))) 7 (.slice A45 y41.1.length c46)) 9 (.pointer (some ⟨b63,0,none⟩))) 11 (vI y64.1)) 12 (vI y64.2)) 13 (.slice A68 y66.1.length c69)) 14 (vI y66.2)) 15 (.slice A74 y72.1.length c75)) 16 (vI y72.2)) 82 (.bool ((((y26.2 != 0) || (y28.2 != 0)) || (y41.2 != 0)) || (y53.2 != 0))))) (fun tm0 => ?_) (fun key => ?_)
   ·refine oY rfl (yMB rfl) ?_
    refine oJ 3 (fun tm0 => (upd (upd (upd (upd (upd (upd (upd (upd (upd (upd (upd (upd tm0 0 (.bool false)) 2 (.pointer (some ⟨b24,0,none⟩))) 3 (vI y26.1)) 5 (.pointer (some ⟨b40,0,none⟩))) 7 (.slice A45 y41.1.length c46)) 9 (.pointer (some ⟨b63,0,none⟩))) 11 (vI y64.1)) 13 (.slice A68 y66.1.length c69)) 14 (vI y66.2)) 15 (.slice A74 y72.1.length c75)) 16 (vI y72.2)) 86 (.bool (((((y26.2 != 0) || (y28.2 != 0)) || (y41.2 != 0)) || (y53.2 != 0)) || (y64.2 != 0))))) (fun tm0 => ?_) (fun key => ?_)
    ·refine oY rfl (yMB rfl) ?_
     refine oJ 3 (fun tm0 => (upd (upd (upd (upd (upd (upd (upd (upd (upd (upd (upd tm0 0 (.bool false)) 2 (.pointer (some ⟨b24,0,none⟩))) 3 (vI y26.1)) 5 (.pointer (some ⟨b40,0,none⟩))) 7 (.slice A45 y41.1.length c46)) 9 (.pointer (some ⟨b63,0,none⟩))) 11 (vI y64.1)) 13 (.slice A68 y66.1.length c69)) 15 (.slice A74 y72.1.length c75)) 16 (vI y72.2)) 90 (.bool ((((((y26.2 != 0) || (y28.2 != 0)) || (y41.2 != 0)) || (y53.2 != 0)) || (y64.2 != 0)) || (y66.2 != 0))))) (fun tm0 => ?_) (fun key => ?_)
     ·refine oY rfl (yMB rfl) ?_
      refine oJ 3 (fun tm0 => (upd (upd (upd (upd (upd (upd (upd (upd (upd (upd tm0 0 (.bool false)) 2 (.pointer (some ⟨b24,0,none⟩))) 3 (vI y26.1)) 5 (.pointer (some ⟨b40,0,none⟩))) 7 (.slice A45 y41.1.length c46)) 9 (.pointer (some ⟨b63,0,none⟩))) 11 (vI y64.1)) 13 (.slice A68 y66.1.length c69)) 15 (.slice A74 y72.1.length c75)) 94 (.bool (((((((y26.2 != 0) || (y28.2 != 0)) || (y41.2 != 0)) || (y53.2 != 0)) || (y64.2 != 0)) || (y66.2 != 0)) || (y72.2 != 0))))) (fun tm0 => ?_) (fun key => ?_)
      ·refine oY rfl (yMB rfl) ?_
       refine oJ 3 (fun tm0 => (upd (upd (upd (upd (upd (upd (upd (upd (upd tm0 0 (.bool false)) 2 (.pointer (some ⟨b24,0,none⟩))) 5 (.pointer (some ⟨b40,0,none⟩))) 7 (.slice A45 y41.1.length c46)) 9 (.pointer (some ⟨b63,0,none⟩))) 11 (vI y64.1)) 13 (.slice A68 y66.1.length c69)) 15 (.slice A74 y72.1.length c75)) 98 (.bool ((((((((y26.2 != 0) || (y28.2 != 0)) || (y41.2 != 0)) || (y53.2 != 0)) || (y64.2 != 0)) || (y66.2 != 0)) || (y72.2 != 0)) || (y26.1 != 21))))) (fun tm0 => ?_) (fun key => ?_)
       ·refine oY rfl (yMB rfl) ?_
        refine oJ 5 (fun tm0 => (upd (upd (upd (upd (upd (upd (upd (upd (upd tm0 0 (.bool false)) 2 (.pointer (some ⟨b24,0,none⟩))) 5 (.pointer (some ⟨b40,0,none⟩))) 7 (.slice A45 y41.1.length c46)) 9 (.pointer (some ⟨b63,0,none⟩))) 11 (vI y64.1)) 13 (.slice A68 y66.1.length c69)) 15 (.slice A74 y72.1.length c75)) 104 (.bool (((((((((y26.2 != 0) || (y28.2 != 0)) || (y41.2 != 0)) || (y53.2 != 0)) || (y64.2 != 0)) || (y66.2 != 0)) || (y72.2 != 0)) || (y26.1 != 21)) || ((y28.1.fH.length:Int) != 3))))) (fun tm0 => ?_) (fun key => ?_)
        ·refine oY rfl (yMB rfl) ?_
         obtain ⟨b87,hb88,h⟩:=bOs h
         refine oJ 7 (fun tm0 => (upd (upd (upd (upd (upd (upd (upd (upd (upd tm0 0 (.bool false)) 2 (.pointer (some ⟨b24,0,none⟩))) 5 (.pointer (some ⟨b40,0,none⟩))) 7 (.slice A45 y41.1.length c46)) 9 (.pointer (some ⟨b63,0,none⟩))) 11 (vI y64.1)) 13 (.slice A68 y66.1.length c69)) 15 (.slice A74 y72.1.length c75)) 112 (.bool b87))) (fun tm0 => ?_) (fun key => ?_)
         ·refine oY rfl (yMB rfl) ?_
          refine oJ 4 (fun tm0 => (upd (upd (upd (upd (upd (upd (upd (upd (upd tm0 0 (.bool false)) 2 (.pointer (some ⟨b24,0,none⟩))) 5 (.pointer (some ⟨b40,0,none⟩))) 7 (.slice A45 y41.1.length c46)) 9 (.pointer (some ⟨b63,0,none⟩))) 11 (vI y64.1)) 13 (.slice A68 y66.1.length c69)) 15 (.slice A74 y72.1.length c75)) 117 (.bool (b87 || ((y41.1.length:Int) != 3))))) (fun tm0 => ?_) (fun key => ?_)
          ·refine oN (eT ?_)
           rcases iOs h with ⟨hp90,h⟩ | ⟨hp90,h⟩
           ·refine cT (vB hp90) (cS (cR (oY rfl (yAB rfl) (oN (eT (ak (aa ?_)))))))
            obtain rfl:=sI h
            exact al (.inl rfl) rfl (rVt (v:=.bool false) rfl) (fun W2 hW2 => ⟨rfl,hW2.none⟩)
           ·refine cF (vB hp90) (cK (eT (cS (cR (oY rfl (yFA kG rfl) (oY rfl (yL 8 rO rfl rfl rfl) ?_))))))
            obtain ⟨hg91,h⟩:=gOs h
            refine oY rfl (yI sl_85 (by decide) hg91.1 hg91.2 (RdL.row 6 rfl) (eL bA (NestP.hn hP36 rfl)) rfl rfl) ?_
            refine oY rfl (yR (A:=A32) (j:=(Int.toNat 2 * 1)) (v:=.slice ((rdL ys37 2).1.1) ((rdL y28.1.fH 2).length) ((rdL ys37 2).1.2.2)) gA (RdL.row 6 rfl) rfl (aG bA hg91.1 (aw hg91.2 (NestP.hn hP36 rfl)) (congrArg (fun n : Nat => some (Value.slice (rdL ys37 2).1.1 n (rdL ys37 2).1.2.2)) (NestP.len hP36 hg91.1 (aw hg91.2 rfl))))) ?_
            obtain ⟨hg92,h⟩:=gOs h
            refine oY rfl (yI cN (by decide) hg92.1 hg92.2 (NestL.rd (PvL.nestL hP36 hV39 (fun W2 hW2 => ⟨hW2.below,trivial,hW2.mem (i:=7) rfl⟩)) hg91.1 (aw hg91.2 rfl)) (eL az rfl) rfl rfl) ?_
            refine oY rfl (yR (A:=((rdL ys37 2).1.1)) (j:=(Int.toNat 0 * 1)) (v:=vI (rdL (rdL y28.1.fH 2) 0)) ba (NestL.rd (PvL.nestL hP36 hV39 (fun W2 hW2 => ⟨hW2.below,trivial,hW2.mem (i:=7) rfl⟩)) hg91.1 (aw hg91.2 rfl)) rfl (aG az hg92.1 (aw hg92.2 rfl) rfl)) (oY rfl (du rfl rfl) (oY rfl (yMB rfl) ?_))
            obtain ⟨b94,hb95,h⟩:=bOs h
            refine oJ 8 (fun tm0 => (upd (upd (upd (upd (upd (upd (upd (upd (upd tm0 0 (.bool false)) 2 (.pointer (some ⟨b24,0,none⟩))) 5 (.pointer (some ⟨b40,0,none⟩))) 7 (.slice A45 y41.1.length c46)) 9 (.pointer (some ⟨b63,0,none⟩))) 11 (vI y64.1)) 13 (.slice A68 y66.1.length c69)) 15 (.slice A74 y72.1.length c75)) 133 (.bool b94))) (fun tm0 => ?_) (fun key => ?_)
            ·refine oY rfl (yMB rfl) ?_
             obtain ⟨b97,hb98,h⟩:=bOs h
             refine oJ 8 (fun tm0 => (upd (upd (upd (upd (upd (upd (upd (upd tm0 0 (.bool false)) 2 (.pointer (some ⟨b24,0,none⟩))) 7 (.slice A45 y41.1.length c46)) 9 (.pointer (some ⟨b63,0,none⟩))) 11 (vI y64.1)) 13 (.slice A68 y66.1.length c69)) 15 (.slice A74 y72.1.length c75)) 142 (.bool b97))) (fun tm0 => ?_) (fun key => ?_)
             ·refine oY rfl (yMB rfl) ?_
              obtain ⟨b100,hb101,h⟩:=bOs h
              refine oJ 6 (fun tm0 => (upd (upd (upd (upd (upd (upd (upd (upd tm0 0 (.bool false)) 2 (.pointer (some ⟨b24,0,none⟩))) 7 (.slice A45 y41.1.length c46)) 9 (.pointer (some ⟨b63,0,none⟩))) 11 (vI y64.1)) 13 (.slice A68 y66.1.length c69)) 15 (.slice A74 y72.1.length c75)) 149 (.bool b100))) (fun tm0 => ?_) (fun key => ?_)
              ·refine oY rfl (yMB rfl) ?_
               obtain ⟨b103,hb104,h⟩:=bOs h
               refine oJ 6 (fun tm0 => (upd (upd (upd (upd (upd (upd (upd (upd tm0 0 (.bool false)) 2 (.pointer (some ⟨b24,0,none⟩))) 7 (.slice A45 y41.1.length c46)) 9 (.pointer (some ⟨b63,0,none⟩))) 11 (vI y64.1)) 13 (.slice A68 y66.1.length c69)) 15 (.slice A74 y72.1.length c75)) 156 (.bool b103))) (fun tm0 => ?_) (fun key => ?_)
               ·refine oY rfl (yMB rfl) ?_
                obtain ⟨b106,hb107,h⟩:=bOs h
                refine oJ 6 (fun tm0 => (upd (upd (upd (upd (upd (upd (upd tm0 0 (.bool false)) 2 (.pointer (some ⟨b24,0,none⟩))) 9 (.pointer (some ⟨b63,0,none⟩))) 11 (vI y64.1)) 13 (.slice A68 y66.1.length c69)) 15 (.slice A74 y72.1.length c75)) 163 (.bool b106))) (fun tm0 => ?_) (fun key => ?_)
                ·refine oY rfl (yMB rfl) ?_
                 refine oJ 4 (fun tm0 => (upd (upd (upd (upd (upd (upd tm0 0 (.bool false)) 2 (.pointer (some ⟨b24,0,none⟩))) 11 (vI y64.1)) 13 (.slice A68 y66.1.length c69)) 15 (.slice A74 y72.1.length c75)) 168 (.bool (b106 && (y53.1.fA == 17))))) (fun tm0 => ?_) (fun key => ?_)
                 ·refine oY rfl (yMB rfl) ?_
                  refine oJ 3 (fun tm0 => (upd (upd (upd (upd (upd tm0 0 (.bool false)) 2 (.pointer (some ⟨b24,0,none⟩))) 13 (.slice A68 y66.1.length c69)) 15 (.slice A74 y72.1.length c75)) 172 (.bool ((b106 && (y53.1.fA == 17)) && (y64.1 == 16))))) (fun tm0 => ?_) (fun key => ?_)
                  ·refine oY rfl (yMB rfl) ?_
                   obtain ⟨b111,hb112,h⟩:=bOs h
                   refine oJ 4 (fun tm0 => (upd (upd (upd (upd tm0 0 (.bool false)) 2 (.pointer (some ⟨b24,0,none⟩))) 15 (.slice A74 y72.1.length c75)) 177 (.bool b111))) (fun tm0 => ?_) (fun key => ?_)
                   ·refine oY rfl (yMB rfl) ?_
                    obtain ⟨b114,hb115,h⟩:=bOs h
                    refine oJ 4 (fun tm0 => (upd (upd (upd tm0 0 (.bool false)) 2 (.pointer (some ⟨b24,0,none⟩))) 182 (.bool b114))) (fun tm0 => ?_) (fun key => ?_)
                    ·refine oY rfl (yAB rfl) (oN (eT (cS (cR (oY rfl (yN 5 [.slice A16 y14.fB.length c17,.slice A18 y14.fR.length c19] bO rfl rfl rfl) ?_)))))
                     obtain ⟨y116,hy117,h⟩:=bOs h
                     refine oC [.agg #[.slice A16 y14.fB.length c17,.slice A18 y14.fR.length c19]] _ _ _ rfl go_37 rfl (fun W2 hW2 => k8 y14 y116 hy117 W2 A16 y14.fB.length c17 rfl ((RdL.row 3 rfl) W2 hW2) A18 y14.fR.length c19 rfl ((RdL.row 4 rfl) W2 hW2) W (fun _ => True) (fun W3 hb => ⟨gx hW2.below hb,trivial⟩) ) ?_
                     rintro ⟨⟨⟨A122,n124,c123⟩,F126⟩,⟨⟨A128,n130,c129⟩,F132⟩⟩ ⟨hn125,hV127,hn131,hV133⟩
                     replace hn125 : n124 = y116.1.fG.length:=hn125; subst hn125
                     replace hn131 : n130 = y116.1.fPrices.length:=hn131; subst hn131
                     try dsimp only [lna,lca,lsz,lss]
                     refine oY rfl (aS rfl) (oY rfl (yE rfl rfl) (oY rfl (yE rfl rfl) ?_))
                     refine ay mf rfl (fun b134 => ?_)
                     try dsimp only [lna,lca,lsz,lss]
                     refine cv rfl (yS 17 [.slice A122 y116.1.fG.length c123,vI y116.1.fW,.slice A128 y116.1.fPrices.length c129] lC rfl (nB rfl) rfl rfl rfl) (oY rfl (yAI rfl) (oN (eT (cS (cR (oY rfl (yN 5 [.slice A16 y14.fB.length c17,.slice A18 y14.fR.length c19] bO rfl rfl rfl) ?_))))))
                     obtain ⟨y135,hy136,h⟩:=bOs h
                     refine oC [.agg #[.slice A16 y14.fB.length c17,.slice A18 y14.fR.length c19]] _ _ _ rfl go_27 rfl (fun W2 hW2 => nC y14 y135 hy136 W2 A16 y14.fB.length c17 rfl ((RdL.row 3 rfl) W2 hW2) A18 y14.fR.length c19 rfl ((RdL.row 4 rfl) W2 hW2)) ?_
                     rintro ⟨A137,n139,c138⟩ hn140
                     replace hn140 : n139 = y135.1.length:=hn140; subst hn140
                     try dsimp only [lna,lca,lsz,lss]
                     refine oY rfl (aS rfl) (oY rfl (yE rfl rfl) (oY rfl (yE rfl rfl) (oY rfl (yAS rfl) (oY rfl (yAI rfl) (oN (eT (cS (cR (oY rfl (yN 5 [.slice A16 y14.fB.length c17,.slice A18 y14.fR.length c19] bO rfl rfl rfl) ?_)))))))))
                     obtain ⟨y141,hy142,h⟩:=bOs h
                     refine oC [.agg #[.slice A16 y14.fB.length c17,.slice A18 y14.fR.length c19]] _ _ _ rfl go_29 rfl (fun W2 hW2 => oA y14 y141 hy142 W2 A16 y14.fB.length c17 rfl ((RdL.row 3 rfl) W2 hW2) A18 y14.fR.length c19 rfl ((RdL.row 4 rfl) W2 hW2)) ?_
                     rintro ⟨A143,n145,c144⟩ hn146
                     replace hn146 : n145 = y141.1.length:=hn146; subst hn146
                     try dsimp only [lna,lca,lsz,lss]
                     refine oY rfl (aS rfl) (oY rfl (yE rfl rfl) (oY rfl (yE rfl rfl) (oY rfl (yAS rfl) (oY rfl (yAI rfl) (oN (eT (cS (cR (oY rfl (yN 5 [.slice A16 y14.fB.length c17,.slice A18 y14.fR.length c19] bO rfl rfl rfl) ?_)))))))))
                     refine aH 3 (ap cI [7,8,9]) _ mc_3_3 cH l0 oe (by decide) (by decide) (by kernel_rfl) (eL az rfl) rfl (fun b147 => ?_)
                     try dsimp only [lna,lca,lsz,lss]
                     obtain ⟨y148,hy149,h⟩:=bOs h
                     refine oC [.agg #[.slice A16 y14.fB.length c17,.slice A18 y14.fR.length c19],.slice (some ⟨b147,0,none⟩) 3 3] _ _ _ rfl go_31 rfl (fun W2 hW2 => nj y14 [7,8,9] y148 hy149 W2 A16 y14.fB.length c17 rfl ((RdL.row 3 rfl) W2 hW2) A18 y14.fR.length c19 rfl ((RdL.row 4 rfl) W2 hW2) (some ⟨b147,0,none⟩) 3 3 rfl ((RdL.row 20 rfl) W2 hW2)) ?_
                     rintro ⟨A150,n152,c151⟩ hn153
                     replace hn153 : n152 = y148.1.length:=hn153; subst hn153
                     try dsimp only [lna,lca,lsz,lss]
                     refine oY rfl (aS rfl) (oY rfl (yE rfl rfl) (oY rfl (yE rfl rfl) (oY rfl (yAS rfl) (oY rfl (yAI rfl) (oN (eT (cS (cR (oY rfl (yN 5 [.slice A16 y14.fB.length c17,.slice A18 y14.fR.length c19] bO rfl rfl rfl) ?_)))))))))
                     obtain ⟨y154,hy155,h⟩:=bOs h
                     refine oY rfl (yC [.agg #[.slice A16 y14.fB.length c17,.slice A18 y14.fR.length c19],vI 1] go_33 rfl (fun W2 hW2 => pA y14 1 y154 hy155 W2 A16 y14.fB.length c17 rfl ((RdL.row 3 rfl) W2 hW2) A18 y14.fR.length c19 rfl ((RdL.row 4 rfl) W2 hW2)) rfl) (oY rfl (aS rfl) (oY rfl (yE rfl rfl) (oY rfl (yE rfl rfl) (oY rfl (yAI rfl) (oY rfl (yAI rfl) (oN (eT (cS (cR (oY rfl (yMI rfl) (oY rfl (du rfl rfl) (oY rfl (yMB rfl) ?_))))))))))))
                     refine oJ 4 (fun tm0 => (upd (upd (upd (upd (upd (upd (upd (upd (upd (upd (upd (upd (upd tm0 0 (.bool false)) 2 (.pointer (some ⟨b24,0,none⟩))) 17 (.bool b114)) 18 (.pointer (some ⟨b134,0,none⟩))) 20 (.slice A137 y135.1.length c138)) 21 (vI y135.2)) 22 (.slice A143 y141.1.length c144)) 23 (vI y141.2)) 24 (.slice A150 y148.1.length c151)) 25 (vI y148.2)) 26 (vI y154.1)) 27 (vI y154.2)) 215 (.bool ((y116.2 == 0) && (y116.1.fW == 14))))) (fun tm0 => ?_) (fun key => ?_)
                     ·refine oY rfl (yMB rfl) ?_
                      obtain ⟨b158,hb159,h⟩:=bOs h
                      refine oJ 5 (fun tm0 => (upd (upd (upd (upd (upd (upd (upd (upd (upd (upd (upd tm0 0 (.bool false)) 17 (.bool b114)) 20 (.slice A137 y135.1.length c138)) 21 (vI y135.2)) 22 (.slice A143 y141.1.length c144)) 23 (vI y141.2)) 24 (.slice A150 y148.1.length c151)) 25 (vI y148.2)) 26 (vI y154.1)) 27 (vI y154.2)) 221 (.bool b158))) (fun tm0 => ?_) (fun key => ?_)
                      ·refine oY rfl (yMB rfl) ?_
                       refine oJ 3 (fun tm0 => (upd (upd (upd (upd (upd (upd (upd (upd (upd (upd tm0 0 (.bool false)) 17 (.bool b114)) 20 (.slice A137 y135.1.length c138)) 22 (.slice A143 y141.1.length c144)) 23 (vI y141.2)) 24 (.slice A150 y148.1.length c151)) 25 (vI y148.2)) 26 (vI y154.1)) 27 (vI y154.2)) 225 (.bool (b158 && (y135.2 == 0))))) (fun tm0 => ?_) (fun key => ?_)
                       ·refine oY rfl (yMB rfl) ?_
                        obtain ⟨b162,hb163,h⟩:=bOs h
                        refine oJ 4 (fun tm0 => (upd (upd (upd (upd (upd (upd (upd (upd (upd tm0 0 (.bool false)) 17 (.bool b114)) 22 (.slice A143 y141.1.length c144)) 23 (vI y141.2)) 24 (.slice A150 y148.1.length c151)) 25 (vI y148.2)) 26 (vI y154.1)) 27 (vI y154.2)) 230 (.bool b162))) (fun tm0 => ?_) (fun key => ?_)
                        ·refine oY rfl (yMB rfl) ?_
                         refine oJ 3 (fun tm0 => (upd (upd (upd (upd (upd (upd (upd (upd tm0 0 (.bool false)) 17 (.bool b114)) 22 (.slice A143 y141.1.length c144)) 24 (.slice A150 y148.1.length c151)) 25 (vI y148.2)) 26 (vI y154.1)) 27 (vI y154.2)) 234 (.bool (b162 && (y141.2 == 0))))) (fun tm0 => ?_) (fun key => ?_)
                         ·refine oY rfl (yMB rfl) ?_
                          obtain ⟨b166,hb167,h⟩:=bOs h
                          refine oJ 4 (fun tm0 => (upd (upd (upd (upd (upd (upd (upd tm0 0 (.bool false)) 17 (.bool b114)) 24 (.slice A150 y148.1.length c151)) 25 (vI y148.2)) 26 (vI y154.1)) 27 (vI y154.2)) 239 (.bool b166))) (fun tm0 => ?_) (fun key => ?_)
                          ·refine oY rfl (yAB rfl) (oN (eT (cS (cR (oY rfl (yMB rfl) (oY rfl (yMB rfl) ?_))))))
                           refine oJ 2 (fun tm0 => (upd (upd (upd (upd (upd (upd tm0 0 (.bool false)) 24 (.slice A150 y148.1.length c151)) 25 (vI y148.2)) 26 (vI y154.1)) 27 (vI y154.2)) 243 (.bool (b114 && b166)))) (fun tm0 => ?_) (fun key => ?_)
                           ·refine oY rfl (yMB rfl) ?_
                            refine oJ 3 (fun tm0 => (upd (upd (upd (upd (upd tm0 0 (.bool false)) 24 (.slice A150 y148.1.length c151)) 26 (vI y154.1)) 27 (vI y154.2)) 247 (.bool ((b114 && b166) && (y148.2 == 0))))) (fun tm0 => ?_) (fun key => ?_)
                            ·refine oY rfl (yMB rfl) ?_
                             obtain ⟨b171,hb172,h⟩:=bOs h
                             refine oJ 4 (fun tm0 => (upd (upd (upd (upd tm0 0 (.bool false)) 26 (vI y154.1)) 27 (vI y154.2)) 252 (.bool b171))) (fun tm0 => ?_) (fun key => ?_)
                             ·refine oY rfl (yMB rfl) ?_
                              refine oJ 3 (fun tm0 => (upd (upd (upd tm0 0 (.bool false)) 26 (vI y154.1)) 256 (.bool (b171 && (y154.2 == 0))))) (fun tm0 => ?_) (fun key => ?_)
                              ·refine oY rfl (yMB rfl) ?_
                               refine oJ 3 (fun tm0 => (upd (upd tm0 0 (.bool false)) 260 (.bool ((b171 && (y154.2 == 0)) && (y154.1 == 5))))) (fun tm0 => ?_) (fun key => ?_)
                               ·refine oY rfl (yAB rfl) (oN (eT (ak ?_)))
                                obtain rfl:=sI h
                                exact al (.inl rfl) rfl (rVt (v:=.bool ((b171 && (y154.2 == 0)) && (y154.1 == 5))) rfl) (fun W2 hW2 => ⟨rfl,hW2.none⟩)
                               ·rcases aq (b171 && (y154.2 == 0)) with hp174 | hp174
                                ·refine oY (sT rfl rfl rfl rfl hp174) (yMI rfl) (oY (sT rfl rfl rfl rfl hp174) (du rfl rfl) (oY rfl (ag (vB hp174) rfl) ?_))
                                 exact key _ _ (keep (keep rfl rfl) (vB (iC hp174)))
                                ·refine oSk (sF rfl rfl rfl rfl hp174) (oSk (sF rfl rfl rfl rfl hp174) (oY rfl (ah (vB hp174) rfl) ?_))
                                 exact key _ _ (keep (keep rfl rfl) (vB (iA hp174)))
                              ·rcases aq b171 with hp173 | hp173
                               ·refine oY (sT rfl rfl rfl rfl hp173) (yMI rfl) (oY (sT rfl rfl rfl rfl hp173) (du rfl rfl) (oY rfl (ag (vB hp173) rfl) ?_))
                                exact key _ _ (keep (keep (keep rfl rfl) rfl) (vB (iC hp173)))
                               ·refine oSk (sF rfl rfl rfl rfl hp173) (oSk (sF rfl rfl rfl rfl hp173) (oY rfl (ah (vB hp173) rfl) ?_))
                                exact key _ _ (keep (keep (keep rfl rfl) rfl) (vB (iA hp173)))
                             ·clear h; rcases iOs hb172 with ⟨hp170,h⟩ | ⟨hp170,h⟩
                              ·refine oY (sT rfl rfl rfl rfl hp170) (yMS rfl) ?_
                               refine aH 2 (ap cI [8,9]) _ sX cH l0 oe (by decide) (by decide) (by kernel_rfl) (eL az rfl) (sT rfl rfl rfl rfl hp170) (fun b175 => ?_)
                               try dsimp only [lna,lca,lsz,lss]
                               obtain ⟨y176,hy177,h⟩:=bOs h
                               refine oY (sT rfl rfl rfl rfl hp170) (yC [.slice A150 y148.1.length c151,.slice (some ⟨b175,0,none⟩) 2 2] sK rfl (fun W2 hW2 => dx y148.1 [8,9] y176 hy177 W2 A150 y148.1.length c151 rfl ((RdL.row 21 rfl) W2 hW2) (some ⟨b175,0,none⟩) 2 2 rfl ((RdL.row 22 rfl) W2 hW2)) rfl) (oY rfl (ag (vB hp170) rfl) ?_)
                               obtain rfl:=sI h
                               refine m7 22 ?_
                               exact key _ _ (kp4 rfl)
                              ·refine oSk (sF rfl rfl rfl rfl hp170) (oSk (sF rfl rfl rfl rfl hp170) (oSk (sF rfl rfl rfl rfl hp170) (oY rfl (ah (vB hp170) rfl) ?_)))
                               obtain rfl:=sI h
                               exact key _ _ (kp4 rfl)
                            ·rcases aq (b114 && b166) with hp169 | hp169
                             ·refine oY (sT rfl rfl rfl rfl hp169) (yMI rfl) (oY (sT rfl rfl rfl rfl hp169) (du rfl rfl) (oY rfl (ag (vB hp169) rfl) ?_))
                              exact key _ _ (keep (keep (keep (keep (keep rfl rfl) rfl) rfl) rfl) (vB (iC hp169)))
                             ·refine oSk (sF rfl rfl rfl rfl hp169) (oSk (sF rfl rfl rfl rfl hp169) (oY rfl (ah (vB hp169) rfl) ?_))
                              exact key _ _ (keep (keep (keep (keep (keep rfl rfl) rfl) rfl) rfl) (vB (iA hp169)))
                           ·rcases aq b114 with hp168 | hp168
                            ·refine oY (sT rfl rfl rfl rfl hp168) (yMB rfl) (oY rfl (ag (vB hp168) rfl) ?_)
                             exact key _ _ (keep (keep (keep (keep (keep (keep rfl rfl) rfl) rfl) rfl) rfl) (vB (iC hp168)))
                            ·refine oSk (sF rfl rfl rfl rfl hp168) (oY rfl (ah (vB hp168) rfl) ?_)
                             exact key _ _ (keep (keep (keep (keep (keep (keep rfl rfl) rfl) rfl) rfl) rfl) (vB (iA hp168)))
                          ·clear h; rcases iOs hb167 with ⟨hp165,h⟩ | ⟨hp165,h⟩
                           ·refine oY (sT rfl rfl rfl rfl hp165) (yMS rfl) ?_
                            refine aH 1 (ap cI [9]) _ ng cH l0 oe (by decide) (by decide) (by kernel_rfl) (eL az rfl) (sT rfl rfl rfl rfl hp165) (fun b178 => ?_)
                            try dsimp only [lna,lca,lsz,lss]
                            obtain ⟨y179,hy180,h⟩:=bOs h
                            refine oY (sT rfl rfl rfl rfl hp165) (yC [.slice A143 y141.1.length c144,.slice (some ⟨b178,0,none⟩) 1 1] sK rfl (fun W2 hW2 => dx y141.1 [9] y179 hy180 W2 A143 y141.1.length c144 rfl ((RdL.row 19 rfl) W2 hW2) (some ⟨b178,0,none⟩) 1 1 rfl ((RdL.row 22 rfl) W2 hW2)) rfl) (oY rfl (ag (vB hp165) rfl) ?_)
                            obtain rfl:=sI h
                            refine m7 22 ?_
                            exact key _ _ (kp4 (kp (kp (kp rfl))))
                           ·refine oSk (sF rfl rfl rfl rfl hp165) (oSk (sF rfl rfl rfl rfl hp165) (oSk (sF rfl rfl rfl rfl hp165) (oY rfl (ah (vB hp165) rfl) ?_)))
                            obtain rfl:=sI h
                            exact key _ _ (kp4 (kp (kp (kp rfl))))
                         ·rcases aq b162 with hp164 | hp164
                          ·refine oY (sT rfl rfl rfl rfl hp164) (yMI rfl) (oY (sT rfl rfl rfl rfl hp164) (du rfl rfl) (oY rfl (ag (vB hp164) rfl) ?_))
                           exact key _ _ (keep (keep (keep (keep (keep (keep (keep (keep rfl rfl) rfl) rfl) rfl) rfl) rfl) rfl) (vB (iC hp164)))
                          ·refine oSk (sF rfl rfl rfl rfl hp164) (oSk (sF rfl rfl rfl rfl hp164) (oY rfl (ah (vB hp164) rfl) ?_))
                           exact key _ _ (keep (keep (keep (keep (keep (keep (keep (keep rfl rfl) rfl) rfl) rfl) rfl) rfl) rfl) (vB (iA hp164)))
                        ·clear h; rcases iOs hb163 with ⟨hp161,h⟩ | ⟨hp161,h⟩
                         ·refine oY (sT rfl rfl rfl rfl hp161) (yMS rfl) ?_
                          refine aH 2 (ap cI [7,8]) _ sX cH l0 oe (by decide) (by decide) (by kernel_rfl) (eL az rfl) (sT rfl rfl rfl rfl hp161) (fun b181 => ?_)
                          try dsimp only [lna,lca,lsz,lss]
                          obtain ⟨y182,hy183,h⟩:=bOs h
                          refine oY (sT rfl rfl rfl rfl hp161) (yC [.slice A137 y135.1.length c138,.slice (some ⟨b181,0,none⟩) 2 2] sK rfl (fun W2 hW2 => dx y135.1 [7,8] y182 hy183 W2 A137 y135.1.length c138 rfl ((RdL.row 18 rfl) W2 hW2) (some ⟨b181,0,none⟩) 2 2 rfl ((RdL.row 22 rfl) W2 hW2)) rfl) (oY rfl (ag (vB hp161) rfl) ?_)
                          obtain rfl:=sI h
                          refine m7 22 ?_
                          exact key _ _ (kp4 (kp4 (kp rfl)))
                         ·refine oSk (sF rfl rfl rfl rfl hp161) (oSk (sF rfl rfl rfl rfl hp161) (oSk (sF rfl rfl rfl rfl hp161) (oY rfl (ah (vB hp161) rfl) ?_)))
                          obtain rfl:=sI h
                          exact key _ _ (kp4 (kp4 (kp rfl)))
                       ·rcases aq b158 with hp160 | hp160
                        ·refine oY (sT rfl rfl rfl rfl hp160) (yMI rfl) (oY (sT rfl rfl rfl rfl hp160) (du rfl rfl) (oY rfl (ag (vB hp160) rfl) ?_))
                         exact key _ _ (keep (keep (keep (keep (keep (keep (keep (keep (keep (keep rfl rfl) rfl) rfl) rfl) rfl) rfl) rfl) rfl) rfl) (vB (iC hp160)))
                        ·refine oSk (sF rfl rfl rfl rfl hp160) (oSk (sF rfl rfl rfl rfl hp160) (oY rfl (ah (vB hp160) rfl) ?_))
                         exact key _ _ (keep (keep (keep (keep (keep (keep (keep (keep (keep (keep rfl rfl) rfl) rfl) rfl) rfl) rfl) rfl) rfl) rfl) (vB (iA hp160)))
                      ·clear h; rcases iOs hb159 with ⟨hp157,h⟩ | ⟨hp157,h⟩
                       ·refine oY (sT rfl rfl rfl rfl hp157) (yN 5 [.slice A16 y14.fB.length c17,.slice A18 y14.fR.length c19] bO rfl rfl rfl) (oY (sT rfl rfl rfl rfl hp157) (yN 17 [.slice A122 y116.1.fG.length c123,vI y116.1.fW,.slice A128 y116.1.fPrices.length c129] jp rfl rfl rfl) ?_)
                        obtain ⟨y184,hy185,h⟩:=bOs h
                        refine oY (sT rfl rfl rfl rfl hp157) (yC [.agg #[.slice A16 y14.fB.length c17,.slice A18 y14.fR.length c19],.agg #[.slice A122 y116.1.fG.length c123,vI y116.1.fW,.slice A128 y116.1.fPrices.length c129]] go_44 rfl (fun W2 hW2 => fp y14 y116.1 y184 hy185 W2 A16 y14.fB.length c17 rfl ((RdL.row 3 rfl) W2 hW2) A18 y14.fR.length c19 rfl ((RdL.row 4 rfl) W2 hW2) A122 y116.1.fG.length c123 rfl ((Pv.rdl hV127 (fun W2 hW2 => ⟨hW2.below,trivial,hW2.mem (i:=15) rfl⟩)) W2 hW2) A128 y116.1.fPrices.length c129 rfl ((Pv.rdl hV133 (fun W2 hW2 => ⟨hW2.below,trivial,hW2.mem (i:=16) rfl⟩)) W2 hW2)) rfl) (oY (sT rfl rfl rfl rfl hp157) (du rfl rfl) (oY rfl (ag (vB hp157) rfl) ?_))
                        obtain rfl:=sI h
                        exact key _ _ (kp4 (kp4 (kp (kp (kp rfl)))))
                       ·refine oSk (sF rfl rfl rfl rfl hp157) (oSk (sF rfl rfl rfl rfl hp157) (oSk (sF rfl rfl rfl rfl hp157) (oSk (sF rfl rfl rfl rfl hp157) (oY rfl (ah (vB hp157) rfl) ?_))))
                        obtain rfl:=sI h
                        exact key _ _ (kp4 (kp4 (kp (kp (kp rfl)))))
                     ·rcases aq (y116.2 == 0) with hp156 | hp156
                      ·refine oY (sT rfl rfl rfl rfl hp156) (yFA ns rfl) (oY (sT rfl rfl rfl rfl hp156) (yL 17 ba rfl rfl rfl) (oY (sT rfl rfl rfl rfl hp156) (du rfl rfl) (oY rfl (ag (vB hp156) rfl) ?_)))
                       exact key _ _ (keep (keep (keep (keep (keep (keep (keep (keep (keep (keep (keep (keep (keep rfl rfl) rfl) rfl) rfl) rfl) rfl) rfl) rfl) rfl) rfl) rfl) rfl) (vB (iC hp156)))
                      ·refine oSk (sF rfl rfl rfl rfl hp156) (oSk (sF rfl rfl rfl rfl hp156) (oSk (sF rfl rfl rfl rfl hp156) (oY rfl (ah (vB hp156) rfl) ?_)))
                       exact key _ _ (keep (keep (keep (keep (keep (keep (keep (keep (keep (keep (keep (keep (keep rfl rfl) rfl) rfl) rfl) rfl) rfl) rfl) rfl) rfl) rfl) rfl) rfl) (vB (iA hp156)))
                    ·clear h; rcases iOs hb115 with ⟨hp113,h⟩ | ⟨hp113,h⟩
                     ·refine oY (sT rfl rfl rfl rfl hp113) (yMS rfl) ?_
                      refine aH 1 (ap cI [3]) _ ng cH l0 oe (by decide) (by decide) (by kernel_rfl) (eL az rfl) (sT rfl rfl rfl rfl hp113) (fun b186 => ?_)
                      try dsimp only [lna,lca,lsz,lss]
                      obtain ⟨y187,hy188,h⟩:=bOs h
                      refine oY (sT rfl rfl rfl rfl hp113) (yC [.slice A74 y72.1.length c75,.slice (some ⟨b186,0,none⟩) 1 1] sK rfl (fun W2 hW2 => dx y72.1 [3] y187 hy188 W2 A74 y72.1.length c75 rfl ((RdL.row 14 rfl) W2 hW2) (some ⟨b186,0,none⟩) 1 1 rfl ((RdL.row 15 rfl) W2 hW2)) rfl) (oY rfl (ag (vB hp113) rfl) ?_)
                      obtain rfl:=sI h
                      refine m7 15 ?_
                      exact key _ _ (kp (kp (kp rfl)))
                     ·refine oSk (sF rfl rfl rfl rfl hp113) (oSk (sF rfl rfl rfl rfl hp113) (oSk (sF rfl rfl rfl rfl hp113) (oY rfl (ah (vB hp113) rfl) ?_)))
                      obtain rfl:=sI h
                      exact key _ _ (kp (kp (kp rfl)))
                   ·clear h; rcases iOs hb112 with ⟨hp110,h⟩ | ⟨hp110,h⟩
                    ·refine oY (sT rfl rfl rfl rfl hp110) (yMS rfl) ?_
                     refine aH 2 (ap cI [1,2]) _ sX cH l0 oe (by decide) (by decide) (by kernel_rfl) (eL az rfl) (sT rfl rfl rfl rfl hp110) (fun b189 => ?_)
                     try dsimp only [lna,lca,lsz,lss]
                     obtain ⟨y190,hy191,h⟩:=bOs h
                     refine oY (sT rfl rfl rfl rfl hp110) (yC [.slice A68 y66.1.length c69,.slice (some ⟨b189,0,none⟩) 2 2] sK rfl (fun W2 hW2 => dx y66.1 [1,2] y190 hy191 W2 A68 y66.1.length c69 rfl ((RdL.row 13 rfl) W2 hW2) (some ⟨b189,0,none⟩) 2 2 rfl ((RdL.row 15 rfl) W2 hW2)) rfl) (oY rfl (ag (vB hp110) rfl) ?_)
                     obtain rfl:=sI h
                     refine m7 15 ?_
                     exact key _ _ (kp4 rfl)
                    ·refine oSk (sF rfl rfl rfl rfl hp110) (oSk (sF rfl rfl rfl rfl hp110) (oSk (sF rfl rfl rfl rfl hp110) (oY rfl (ah (vB hp110) rfl) ?_)))
                     obtain rfl:=sI h
                     exact key _ _ (kp4 rfl)
                  ·rcases aq (b106 && (y53.1.fA == 17)) with hp109 | hp109
                   ·refine oY (sT rfl rfl rfl rfl hp109) (yMI rfl) (oY (sT rfl rfl rfl rfl hp109) (du rfl rfl) (oY rfl (ag (vB hp109) rfl) ?_))
                    exact key _ _ (keep (keep (keep (keep (keep rfl rfl) rfl) rfl) rfl) (vB (iC hp109)))
                   ·refine oSk (sF rfl rfl rfl rfl hp109) (oSk (sF rfl rfl rfl rfl hp109) (oY rfl (ah (vB hp109) rfl) ?_))
                    exact key _ _ (keep (keep (keep (keep (keep rfl rfl) rfl) rfl) rfl) (vB (iA hp109)))
                 ·rcases aq b106 with hp108 | hp108
                  ·refine oY (sT rfl rfl rfl rfl hp108) (yFA nq rfl) (oY (sT rfl rfl rfl rfl hp108) (yL 12 ba rfl rfl rfl) (oY (sT rfl rfl rfl rfl hp108) (du rfl rfl) (oY rfl (ag (vB hp108) rfl) ?_)))
                   exact key _ _ (keep (keep (keep (keep (keep (keep rfl rfl) rfl) rfl) rfl) rfl) (vB (iC hp108)))
                  ·refine oSk (sF rfl rfl rfl rfl hp108) (oSk (sF rfl rfl rfl rfl hp108) (oSk (sF rfl rfl rfl rfl hp108) (oY rfl (ah (vB hp108) rfl) ?_)))
                   exact key _ _ (keep (keep (keep (keep (keep (keep rfl rfl) rfl) rfl) rfl) rfl) (vB (iA hp108)))
                ·clear h; rcases iOs hb107 with ⟨hp105,h⟩ | ⟨hp105,h⟩
                 ·refine oY (sT rfl rfl rfl rfl hp105) (yMS rfl) ?_
                  obtain ⟨hg192,h⟩:=gOs h
                  refine oY (sT rfl rfl rfl rfl hp105) (yI qC (by decide) hg192.1 hg192.2 (RdL.row 9 rfl) (eL a6 (NestP.hn hP49 rfl)) rfl rfl) ?_
                  refine oY (sT rfl rfl rfl rfl hp105) (yFR (A:=A45) (j:=(Int.toNat 2 * 3)) qj rfl) (oY (sT rfl rfl rfl rfl hp105) (yR (A:=A45) (j:=((Int.toNat 2 * 3) + 2)) (v:=vI ((rdL y41.1 2).fToll)) ba (RdL.row 9 rfl) rfl (eG a6 hg192.1 (aw hg192.2 (NestP.hn hP49 rfl)) (congrArg (fun z : TJ => some (Value.int .i64 z.fToll)) (NestP.snd hP49 2)))) (oY (sT rfl rfl rfl rfl hp105) (du rfl rfl) (oY rfl (ag (vB hp105) rfl) ?_)))
                  obtain rfl:=sI h
                  exact key _ _ (kp4 (kp (kp (kp rfl))))
                 ·refine oSk (sF rfl rfl rfl rfl hp105) (oSk (sF rfl rfl rfl rfl hp105) (oSk (sF rfl rfl rfl rfl hp105) (oSk (sF rfl rfl rfl rfl hp105) (oSk (sF rfl rfl rfl rfl hp105) (oY rfl (ah (vB hp105) rfl) ?_)))))
                  obtain rfl:=sI h
                  exact key _ _ (kp4 (kp (kp (kp rfl))))
               ·clear h; rcases iOs hb104 with ⟨hp102,h⟩ | ⟨hp102,h⟩
                ·refine oY (sT rfl rfl rfl rfl hp102) (yMS rfl) ?_
                 obtain ⟨hg193,h⟩:=gOs h
                 refine oY (sT rfl rfl rfl rfl hp102) (yI qC (by decide) hg193.1 hg193.2 (RdL.row 9 rfl) (eL a6 (NestP.hn hP49 rfl)) rfl rfl) ?_
                 refine oY (sT rfl rfl rfl rfl hp102) (yFR (A:=A45) (j:=(Int.toNat 1 * 3)) nq rfl) (oY (sT rfl rfl rfl rfl hp102) (yR (A:=A45) (j:=((Int.toNat 1 * 3) + 1)) (v:=vI ((rdL y41.1 1).fA)) ba (RdL.row 9 rfl) rfl (eG a6 hg193.1 (aw hg193.2 (NestP.hn hP49 rfl)) (congrArg (fun z : TJ => some (Value.int .i64 z.fA)) (NestP.snd hP49 1)))) (oY (sT rfl rfl rfl rfl hp102) (du rfl rfl) (oY rfl (ag (vB hp102) rfl) ?_)))
                 obtain rfl:=sI h
                 exact key _ _ (kp4 (kp4 rfl))
                ·refine oSk (sF rfl rfl rfl rfl hp102) (oSk (sF rfl rfl rfl rfl hp102) (oSk (sF rfl rfl rfl rfl hp102) (oSk (sF rfl rfl rfl rfl hp102) (oSk (sF rfl rfl rfl rfl hp102) (oY rfl (ah (vB hp102) rfl) ?_)))))
                 obtain rfl:=sI h
                 exact key _ _ (kp4 (kp4 rfl))
              ·clear h; rcases iOs hb101 with ⟨hp99,h⟩ | ⟨hp99,h⟩
               ·refine oY (sT rfl rfl rfl rfl hp99) (yMS rfl) ?_
                obtain ⟨hg194,h⟩:=gOs h
                refine oY (sT rfl rfl rfl rfl hp99) (yI qC (by decide) hg194.1 hg194.2 (RdL.row 9 rfl) (eL a6 (NestP.hn hP49 rfl)) rfl rfl) ?_
                refine oY (sT rfl rfl rfl rfl hp99) (yFR (A:=A45) (j:=(Int.toNat 0 * 3)) qj rfl) (oY (sT rfl rfl rfl rfl hp99) (yR (A:=A45) (j:=((Int.toNat 0 * 3) + 2)) (v:=vI ((rdL y41.1 0).fToll)) ba (RdL.row 9 rfl) rfl (eG a6 hg194.1 (aw hg194.2 (NestP.hn hP49 rfl)) (congrArg (fun z : TJ => some (Value.int .i64 z.fToll)) (NestP.snd hP49 0)))) (oY (sT rfl rfl rfl rfl hp99) (du rfl rfl) (oY rfl (ag (vB hp99) rfl) ?_)))
                obtain rfl:=sI h
                exact key _ _ (kp4 (kp4 rfl))
               ·refine oSk (sF rfl rfl rfl rfl hp99) (oSk (sF rfl rfl rfl rfl hp99) (oSk (sF rfl rfl rfl rfl hp99) (oSk (sF rfl rfl rfl rfl hp99) (oSk (sF rfl rfl rfl rfl hp99) (oY rfl (ah (vB hp99) rfl) ?_)))))
                obtain rfl:=sI h
                exact key _ _ (kp4 (kp4 rfl))
             ·clear h; rcases iOs hb98 with ⟨hp96,h⟩ | ⟨hp96,h⟩
              ·refine oY (sT rfl rfl rfl rfl hp96) (yFA kG rfl) (oY (sT rfl rfl rfl rfl hp96) (yL 8 rO rfl rfl rfl) ?_)
               obtain ⟨hg195,h⟩:=gOs h
               refine oY (sT rfl rfl rfl rfl hp96) (yI sl_85 (by decide) hg195.1 hg195.2 (RdL.row 6 rfl) (eL bA (NestP.hn hP36 rfl)) rfl rfl) ?_
               refine oY (sT rfl rfl rfl rfl hp96) (yR (A:=A32) (j:=(Int.toNat 2 * 1)) (v:=.slice ((rdL ys37 2).1.1) ((rdL y28.1.fH 2).length) ((rdL ys37 2).1.2.2)) gA (RdL.row 6 rfl) rfl (aG bA hg195.1 (aw hg195.2 (NestP.hn hP36 rfl)) (congrArg (fun n : Nat => some (Value.slice (rdL ys37 2).1.1 n (rdL ys37 2).1.2.2)) (NestP.len hP36 hg195.1 (aw hg195.2 rfl))))) ?_
               obtain ⟨hg196,h⟩:=gOs h
               refine oY (sT rfl rfl rfl rfl hp96) (yI cN (by decide) hg196.1 hg196.2 (NestL.rd (PvL.nestL hP36 hV39 (fun W2 hW2 => ⟨hW2.below,trivial,hW2.mem (i:=7) rfl⟩)) hg195.1 (aw hg195.2 rfl)) (eL az rfl) rfl rfl) ?_
               refine oY (sT rfl rfl rfl rfl hp96) (yR (A:=((rdL ys37 2).1.1)) (j:=(Int.toNat 6 * 1)) (v:=vI (rdL (rdL y28.1.fH 2) 6)) ba (NestL.rd (PvL.nestL hP36 hV39 (fun W2 hW2 => ⟨hW2.below,trivial,hW2.mem (i:=7) rfl⟩)) hg195.1 (aw hg195.2 rfl)) rfl (aG az hg196.1 (aw hg196.2 rfl) rfl)) (oY (sT rfl rfl rfl rfl hp96) (du rfl rfl) (oY rfl (ag (vB hp96) rfl) ?_))
               obtain rfl:=sI h
               exact key _ _ (kp4 (kp4 rfl))
              ·refine oSk (sF rfl rfl rfl rfl hp96) (oSk (sF rfl rfl rfl rfl hp96) (oSk (sF rfl rfl rfl rfl hp96) (oSk (sF rfl rfl rfl rfl hp96) (oSk (sF rfl rfl rfl rfl hp96) (oSk (sF rfl rfl rfl rfl hp96) (oSk (sF rfl rfl rfl rfl hp96) (oY rfl (ah (vB hp96) rfl) ?_)))))))
               obtain rfl:=sI h
               exact key _ _ (kp4 (kp4 rfl))
            ·clear h; rcases iOs hb95 with ⟨hp93,h⟩ | ⟨hp93,h⟩
             ·refine oY (sT rfl rfl rfl rfl hp93) (yFA kG rfl) (oY (sT rfl rfl rfl rfl hp93) (yL 8 rO rfl rfl rfl) ?_)
              obtain ⟨hg197,h⟩:=gOs h
              refine oY (sT rfl rfl rfl rfl hp93) (yI sl_85 (by decide) hg197.1 hg197.2 (RdL.row 6 rfl) (eL bA (NestP.hn hP36 rfl)) rfl rfl) ?_
              refine oY (sT rfl rfl rfl rfl hp93) (yR (A:=A32) (j:=(Int.toNat 2 * 1)) (v:=.slice ((rdL ys37 2).1.1) ((rdL y28.1.fH 2).length) ((rdL ys37 2).1.2.2)) gA (RdL.row 6 rfl) rfl (aG bA hg197.1 (aw hg197.2 (NestP.hn hP36 rfl)) (congrArg (fun n : Nat => some (Value.slice (rdL ys37 2).1.1 n (rdL ys37 2).1.2.2)) (NestP.len hP36 hg197.1 (aw hg197.2 rfl))))) ?_
              obtain ⟨hg198,h⟩:=gOs h
              refine oY (sT rfl rfl rfl rfl hp93) (yI cN (by decide) hg198.1 hg198.2 (NestL.rd (PvL.nestL hP36 hV39 (fun W2 hW2 => ⟨hW2.below,trivial,hW2.mem (i:=7) rfl⟩)) hg197.1 (aw hg197.2 rfl)) (eL az rfl) rfl rfl) ?_
              refine oY (sT rfl rfl rfl rfl hp93) (yR (A:=((rdL ys37 2).1.1)) (j:=(Int.toNat 2 * 1)) (v:=vI (rdL (rdL y28.1.fH 2) 2)) ba (NestL.rd (PvL.nestL hP36 hV39 (fun W2 hW2 => ⟨hW2.below,trivial,hW2.mem (i:=7) rfl⟩)) hg197.1 (aw hg197.2 rfl)) rfl (aG az hg198.1 (aw hg198.2 rfl) rfl)) (oY (sT rfl rfl rfl rfl hp93) (du rfl rfl) (oY rfl (ag (vB hp93) rfl) ?_))
              obtain rfl:=sI h
              exact key _ _ (kp4 (kp4 (kp rfl)))
             ·refine oSk (sF rfl rfl rfl rfl hp93) (oSk (sF rfl rfl rfl rfl hp93) (oSk (sF rfl rfl rfl rfl hp93) (oSk (sF rfl rfl rfl rfl hp93) (oSk (sF rfl rfl rfl rfl hp93) (oSk (sF rfl rfl rfl rfl hp93) (oSk (sF rfl rfl rfl rfl hp93) (oY rfl (ah (vB hp93) rfl) ?_)))))))
              obtain rfl:=sI h
              exact key _ _ (kp4 (kp4 (kp rfl)))
          ·rcases aq b87 with hp89 | hp89
           ·refine oSk (sF rfl rfl rfl rfl hp89) (oSk (sF rfl rfl rfl rfl hp89) (oSk (sF rfl rfl rfl rfl hp89) (oY rfl (ag (vB hp89) rfl) ?_)))
            exact key _ _ (keep (keep (keep (keep (keep (keep (keep (keep (keep rfl rfl) rfl) rfl) rfl) rfl) rfl) rfl) rfl) (vB (j6 hp89)))
           ·refine oY (sT rfl rfl rfl rfl hp89) (yMS rfl) (oY (sT rfl rfl rfl rfl hp89) (bi (us:=[]) qD rfl) (oY (sT rfl rfl rfl rfl hp89) (cQ rfl rfl) (oY rfl (ah (vB hp89) rfl) ?_)))
            exact key _ _ (keep (keep (keep (keep (keep (keep (keep (keep (keep rfl rfl) rfl) rfl) rfl) rfl) rfl) rfl) rfl) (vB (jV hp89)))
         ·clear h; rcases iOs hb88 with ⟨hp86,h⟩ | ⟨hp86,h⟩
          ·refine oSk (sF rfl rfl rfl rfl hp86) (oSk (sF rfl rfl rfl rfl hp86) (oSk (sF rfl rfl rfl rfl hp86) (oSk (sF rfl rfl rfl rfl hp86) (oSk (sF rfl rfl rfl rfl hp86) (oSk (sF rfl rfl rfl rfl hp86) (oY rfl (ag (vB hp86) rfl) ?_))))))
           obtain rfl:=sI h
           exact key _ _ (kp4 (kp4 (kp rfl)))
          ·refine oY (sT rfl rfl rfl rfl hp86) (yFA kG rfl) (oY (sT rfl rfl rfl rfl hp86) (yL 8 rO rfl rfl rfl) ?_)
           obtain ⟨hg199,h⟩:=gOs h
           refine oY (sT rfl rfl rfl rfl hp86) (yI sl_85 (by decide) hg199.1 hg199.2 (RdL.row 6 rfl) (eL bA (NestP.hn hP36 rfl)) rfl rfl) ?_
           refine oY (sT rfl rfl rfl rfl hp86) (yR (A:=A32) (j:=(Int.toNat 2 * 1)) (v:=.slice ((rdL ys37 2).1.1) ((rdL y28.1.fH 2).length) ((rdL ys37 2).1.2.2)) gA (RdL.row 6 rfl) rfl (aG bA hg199.1 (aw hg199.2 (NestP.hn hP36 rfl)) (congrArg (fun n : Nat => some (Value.slice (rdL ys37 2).1.1 n (rdL ys37 2).1.2.2)) (NestP.len hP36 hg199.1 (aw hg199.2 rfl))))) (oY (sT rfl rfl rfl rfl hp86) (bi (us:=[]) cH rfl) (oY (sT rfl rfl rfl rfl hp86) (cQ rfl rfl) (oY rfl (ah (vB hp86) rfl) ?_)))
           obtain rfl:=sI h
           exact key _ _ (kp4 (kp4 (kp rfl)))
        ·rcases aq ((((((((y26.2 != 0) || (y28.2 != 0)) || (y41.2 != 0)) || (y53.2 != 0)) || (y64.2 != 0)) || (y66.2 != 0)) || (y72.2 != 0)) || (y26.1 != 21)) with hp85 | hp85
         ·refine oSk (sF rfl rfl rfl rfl hp85) (oSk (sF rfl rfl rfl rfl hp85) (oSk (sF rfl rfl rfl rfl hp85) (oSk (sF rfl rfl rfl rfl hp85) (oY rfl (ag (vB hp85) rfl) ?_))))
          exact key _ _ (keep (keep (keep (keep (keep (keep (keep (keep (keep rfl rfl) rfl) rfl) rfl) rfl) rfl) rfl) rfl) (vB (j6 hp85)))
         ·refine oY (sT rfl rfl rfl rfl hp85) (yFA kG rfl) (oY (sT rfl rfl rfl rfl hp85) (yL 8 rO rfl rfl rfl) (oY (sT rfl rfl rfl rfl hp85) (bi (us:=[]) us_85 rfl) (oY (sT rfl rfl rfl rfl hp85) (cQ rfl rfl) (oY rfl (ah (vB hp85) rfl) ?_))))
          exact key _ _ (keep (keep (keep (keep (keep (keep (keep (keep (keep rfl rfl) rfl) rfl) rfl) rfl) rfl) rfl) rfl) (vB (jV hp85)))
       ·rcases aq (((((((y26.2 != 0) || (y28.2 != 0)) || (y41.2 != 0)) || (y53.2 != 0)) || (y64.2 != 0)) || (y66.2 != 0)) || (y72.2 != 0)) with hp84 | hp84
        ·refine oSk (sF rfl rfl rfl rfl hp84) (oSk (sF rfl rfl rfl rfl hp84) (oY rfl (ag (vB hp84) rfl) ?_))
         exact key _ _ (keep (keep (keep (keep (keep (keep (keep (keep (keep rfl rfl) rfl) rfl) rfl) rfl) rfl) rfl) rfl) (vB (j6 hp84)))
        ·refine oY (sT rfl rfl rfl rfl hp84) (yMI rfl) (oY (sT rfl rfl rfl rfl hp84) (cQ rfl rfl) (oY rfl (ah (vB hp84) rfl) ?_))
         exact key _ _ (keep (keep (keep (keep (keep (keep (keep (keep (keep rfl rfl) rfl) rfl) rfl) rfl) rfl) rfl) rfl) (vB (jV hp84)))
      ·rcases aq ((((((y26.2 != 0) || (y28.2 != 0)) || (y41.2 != 0)) || (y53.2 != 0)) || (y64.2 != 0)) || (y66.2 != 0)) with hp83 | hp83
       ·refine oSk (sF rfl rfl rfl rfl hp83) (oSk (sF rfl rfl rfl rfl hp83) (oY rfl (ag (vB hp83) rfl) ?_))
        exact key _ _ (keep (keep (keep (keep (keep (keep (keep (keep (keep (keep rfl rfl) rfl) rfl) rfl) rfl) rfl) rfl) rfl) rfl) (vB (j6 hp83)))
       ·refine oY (sT rfl rfl rfl rfl hp83) (yMI rfl) (oY (sT rfl rfl rfl rfl hp83) (cQ rfl rfl) (oY rfl (ah (vB hp83) rfl) ?_))
        exact key _ _ (keep (keep (keep (keep (keep (keep (keep (keep (keep (keep rfl rfl) rfl) rfl) rfl) rfl) rfl) rfl) rfl) rfl) (vB (jV hp83)))
     ·rcases aq (((((y26.2 != 0) || (y28.2 != 0)) || (y41.2 != 0)) || (y53.2 != 0)) || (y64.2 != 0)) with hp82 | hp82
      ·refine oSk (sF rfl rfl rfl rfl hp82) (oSk (sF rfl rfl rfl rfl hp82) (oY rfl (ag (vB hp82) rfl) ?_))
       exact key _ _ (keep (keep (keep (keep (keep (keep (keep (keep (keep (keep (keep rfl rfl) rfl) rfl) rfl) rfl) rfl) rfl) rfl) rfl) rfl) (vB (j6 hp82)))
      ·refine oY (sT rfl rfl rfl rfl hp82) (yMI rfl) (oY (sT rfl rfl rfl rfl hp82) (cQ rfl rfl) (oY rfl (ah (vB hp82) rfl) ?_))
       exact key _ _ (keep (keep (keep (keep (keep (keep (keep (keep (keep (keep (keep rfl rfl) rfl) rfl) rfl) rfl) rfl) rfl) rfl) rfl) rfl) (vB (jV hp82)))
    ·rcases aq ((((y26.2 != 0) || (y28.2 != 0)) || (y41.2 != 0)) || (y53.2 != 0)) with hp81 | hp81
     ·refine oSk (sF rfl rfl rfl rfl hp81) (oSk (sF rfl rfl rfl rfl hp81) (oY rfl (ag (vB hp81) rfl) ?_))
      exact key _ _ (keep (keep (keep (keep (keep (keep (keep (keep (keep (keep (keep (keep rfl rfl) rfl) rfl) rfl) rfl) rfl) rfl) rfl) rfl) rfl) rfl) (vB (j6 hp81)))
     ·refine oY (sT rfl rfl rfl rfl hp81) (yMI rfl) (oY (sT rfl rfl rfl rfl hp81) (cQ rfl rfl) (oY rfl (ah (vB hp81) rfl) ?_))
      exact key _ _ (keep (keep (keep (keep (keep (keep (keep (keep (keep (keep (keep (keep rfl rfl) rfl) rfl) rfl) rfl) rfl) rfl) rfl) rfl) rfl) rfl) (vB (jV hp81)))
   ·rcases aq (((y26.2 != 0) || (y28.2 != 0)) || (y41.2 != 0)) with hp80 | hp80
    ·refine oSk (sF rfl rfl rfl rfl hp80) (oSk (sF rfl rfl rfl rfl hp80) (oY rfl (ag (vB hp80) rfl) ?_))
     exact key _ _ (keep (keep (keep (keep (keep (keep (keep (keep (keep (keep (keep (keep (keep rfl rfl) rfl) rfl) rfl) rfl) rfl) rfl) rfl) rfl) rfl) rfl) rfl) (vB (j6 hp80)))
    ·refine oY (sT rfl rfl rfl rfl hp80) (yMI rfl) (oY (sT rfl rfl rfl rfl hp80) (cQ rfl rfl) (oY rfl (ah (vB hp80) rfl) ?_))
     exact key _ _ (keep (keep (keep (keep (keep (keep (keep (keep (keep (keep (keep (keep (keep rfl rfl) rfl) rfl) rfl) rfl) rfl) rfl) rfl) rfl) rfl) rfl) rfl) (vB (jV hp80)))
  ·rcases aq ((y26.2 != 0) || (y28.2 != 0)) with hp79 | hp79
   ·refine oSk (sF rfl rfl rfl rfl hp79) (oSk (sF rfl rfl rfl rfl hp79) (oY rfl (ag (vB hp79) rfl) ?_))
    exact key _ _ (keep (keep (keep (keep (keep (keep (keep (keep (keep (keep (keep (keep (keep (keep rfl rfl) rfl) rfl) rfl) rfl) rfl) rfl) rfl) rfl) rfl) rfl) rfl) rfl) (vB (j6 hp79)))
   ·refine oY (sT rfl rfl rfl rfl hp79) (yMI rfl) (oY (sT rfl rfl rfl rfl hp79) (cQ rfl rfl) (oY rfl (ah (vB hp79) rfl) ?_))
    exact key _ _ (keep (keep (keep (keep (keep (keep (keep (keep (keep (keep (keep (keep (keep (keep rfl rfl) rfl) rfl) rfl) rfl) rfl) rfl) rfl) rfl) rfl) rfl) rfl) rfl) (vB (jV hp79)))
 ·rcases aq (y26.2 != 0) with hp78 | hp78
  ·refine oSk (sF rfl rfl rfl rfl hp78) (oSk (sF rfl rfl rfl rfl hp78) (oY rfl (ag (vB hp78) rfl) ?_))
   exact key _ _ (keep (keep (keep (keep (keep (keep (keep (keep (keep (keep (keep (keep (keep (keep (keep rfl rfl) rfl) rfl) rfl) rfl) rfl) rfl) rfl) rfl) rfl) rfl) rfl) rfl) rfl) (vB (j6 hp78)))
  ·refine oY (sT rfl rfl rfl rfl hp78) (yMI rfl) (oY (sT rfl rfl rfl rfl hp78) (cQ rfl rfl) (oY rfl (ah (vB hp78) rfl) ?_))
   exact key _ _ (keep (keep (keep (keep (keep (keep (keep (keep (keep (keep (keep (keep (keep (keep (keep rfl rfl) rfl) rfl) rfl) rfl) rfl) rfl) rfl) rfl) rfl) rfl) rfl) rfl) rfl) (vB (jV hp78)))
end Go.Proofs.YthndghnkebboaaaGreat
set_option maxHeartbeats 4000000
set_option maxRecDepth 100000
namespace Go.Proofs.YthndghnkebboaaaGreat
open Go.RowKit (Below)
attribute [local irreducible] OX QX CX EX OpY Calls CallsIn
theorem lE (p0:TY) (res:Bool) (h:eD p0 = some res) (W:World) (Aa:Option Addr) (n0_0 ca : Nat) (hn0_0:n0_0 = p0.fB.length) (hr0_0:Rd W Aa n0_0 ca (ap TBay_cells p0.fB)) (Ab:Option Addr) (n0_1 cb : Nat) (hn0_1:n0_1 = p0.fR.length) (hr0_1:Rd W Ab n0_1 cb (ap TOrder_cells p0.fR)) :
  Calls Tryz.prog 26 [.agg #[.slice Aa n0_0 ca,.slice Ab n0_1 cb]].toArray W fun e W2 => e = .returned (.bool res) ∧ Ext W W2 []:=by
 subst hn0_0
 subst hn0_1
 unfold eD at h
 refine ab (m:=41) Tryz.func26 rfl rfl (nB rfl) (cS (cR ?_))
 refine aO [.slice Aa p0.fB.length ca,.slice Ab p0.fR.length cb] rfl rfl rfl (fun b1 => ?_)
 refine oY rfl (yAB rfl) (oN (eT (cS (cR (oY rfl (yFA cq rfl) (oY rfl (yL 0 gz rfl rfl rfl) (oY rfl (bi (us:=[]) ib rfl) (oY rfl (kd rfl rfl) (oY rfl (yMB rfl) ?_)))))))))
 refine oJ 11 (fun tm0 => (upd (upd (upd tm0 1 (.pointer (some ⟨b1,0,none⟩))) 2 (.bool false)) 20 (.bool ((decide ((p0.fB.length:Int) ≤ 9)) || ((decide (24 < (p0.fB.length:Int))) && (decide ((p0.fB.length:Int) ≤ 40))))))) (fun tm0 => ?_) (fun key => ?_)
 ·refine oY rfl (yAB rfl) (oN (eT (cS (cR (oY rfl (yFA bq rfl) (oY rfl (yL 0 dT rfl rfl rfl) (oY rfl (bi (us:=[]) fI rfl) (oY rfl (kd rfl rfl) (oY rfl (yMB rfl) ?_)))))))))
  refine oJ 11 (fun tm0 => (upd (upd (upd tm0 2 (.bool false)) 3 (.bool ((decide ((p0.fB.length:Int) ≤ 9)) || ((decide (24 < (p0.fB.length:Int))) && (decide ((p0.fB.length:Int) ≤ 40)))))) 36 (.bool ((decide ((p0.fR.length:Int) ≤ 9)) || ((decide (24 < (p0.fR.length:Int))) && (decide ((p0.fR.length:Int) ≤ 40))))))) (fun tm0 => ?_) (fun key => ?_)
  ·refine oY rfl (yAB rfl) (oN (eT (cS (cR (oY rfl (yMB rfl) (oY rfl (yMB rfl) ?_))))))
   refine oJ 2 (fun tm0 => (upd (upd tm0 2 (.bool false)) 40 (.bool (((decide ((p0.fB.length:Int) ≤ 9)) || ((decide (24 < (p0.fB.length:Int))) && (decide ((p0.fB.length:Int) ≤ 40)))) && ((decide ((p0.fR.length:Int) ≤ 9)) || ((decide (24 < (p0.fR.length:Int))) && (decide ((p0.fR.length:Int) ≤ 40)))))))) (fun tm0 => ?_) (fun key => ?_)
   ·refine oY rfl (yAB rfl) (oN (eT (ak ?_)))
    obtain rfl:=sI h
    exact al (.inl rfl) rfl (rVt (v:=.bool (((decide ((p0.fB.length:Int) ≤ 9)) || ((decide (24 < (p0.fB.length:Int))) && (decide ((p0.fB.length:Int) ≤ 40)))) && ((decide ((p0.fR.length:Int) ≤ 9)) || ((decide (24 < (p0.fR.length:Int))) && (decide ((p0.fR.length:Int) ≤ 40)))))) rfl) (fun W2 hW2 => ⟨rfl,hW2.none⟩)
   ·rcases aq ((decide ((p0.fB.length:Int) ≤ 9)) || ((decide (24 < (p0.fB.length:Int))) && (decide ((p0.fB.length:Int) ≤ 40)))) with hp4 | hp4
    ·refine oY (sT rfl rfl rfl rfl hp4) (yMB rfl) (oY rfl (ag (vB hp4) rfl) ?_)
     exact key _ _ (keep (keep rfl rfl) (vB (iC hp4)))
    ·refine oSk (sF rfl rfl rfl rfl hp4) (oY rfl (ah (vB hp4) rfl) ?_)
     exact key _ _ (keep (keep rfl rfl) (vB (iA hp4)))
  ·rcases aq (decide ((p0.fR.length:Int) ≤ 9)) with hp3 | hp3
   ·refine oSk (sF rfl rfl rfl rfl hp3) (oSk (sF rfl rfl rfl rfl hp3) (oSk (sF rfl rfl rfl rfl hp3) (oSk (sF rfl rfl rfl rfl hp3) (oSk (sF rfl rfl rfl rfl hp3) (oSk rfl (oSk rfl (oSk rfl (oSk rfl (oSk (sF rfl rfl rfl rfl hp3) (oY rfl (ag (vB hp3) rfl) ?_))))))))))
    exact key _ _ (keep (keep (keep rfl rfl) rfl) (vB (j6 hp3)))
   ·refine oY (sT rfl rfl rfl rfl hp3) (yFA bq rfl) (oY (sT rfl rfl rfl rfl hp3) (yL 0 dT rfl rfl rfl) (oY (sT rfl rfl rfl rfl hp3) (bi (us:=[]) fI rfl) (oY (sT rfl rfl rfl rfl hp3) (iB rfl rfl) (oY (sT rfl rfl rfl rfl hp3) (yMB rfl) ?_))))
    refine oJ 5 (fun tm0 => (upd (upd (upd (upd tm0 2 (.bool false)) 3 (.bool ((decide ((p0.fB.length:Int) ≤ 9)) || ((decide (24 < (p0.fB.length:Int))) && (decide ((p0.fB.length:Int) ≤ 40)))))) 25 (.bool (decide ((p0.fR.length:Int) ≤ 9)))) 35 (.bool ((decide (24 < (p0.fR.length:Int))) && (decide ((p0.fR.length:Int) ≤ 40)))))) (fun tm0 => ?_) (fun key => ?_)
    ·refine oY rfl (ah (vB hp3) rfl) ?_
     exact key _ _ (keep (keep (keep rfl rfl) rfl) (vB (jV hp3)))
    ·rcases aq (decide (24 < (p0.fR.length:Int))) with hp5 | hp5
     ·refine oY (sT rfl rfl rfl rfl hp5) (yFA bq rfl) (oY (sT rfl rfl rfl rfl hp5) (yL 0 dT rfl rfl rfl) (oY (sT rfl rfl rfl rfl hp5) (bi (us:=[]) fI rfl) (oY (sT rfl rfl rfl rfl hp5) (kd rfl rfl) (oY (sT rfl rfl rfl rfl hp3) (ag (vB hp5) rfl) ?_))))
      exact key _ _ (keep (keep (keep (keep rfl rfl) rfl) rfl) (vB (iC hp5)))
     ·refine oSk (sF rfl rfl rfl rfl hp5) (oSk (sF rfl rfl rfl rfl hp5) (oSk (sF rfl rfl rfl rfl hp5) (oSk (sF rfl rfl rfl rfl hp5) (oY (sT rfl rfl rfl rfl hp3) (ah (vB hp5) rfl) ?_))))
      exact key _ _ (keep (keep (keep (keep rfl rfl) rfl) rfl) (vB (iA hp5)))
 ·rcases aq (decide ((p0.fB.length:Int) ≤ 9)) with hp2 | hp2
  ·refine oSk (sF rfl rfl rfl rfl hp2) (oSk (sF rfl rfl rfl rfl hp2) (oSk (sF rfl rfl rfl rfl hp2) (oSk (sF rfl rfl rfl rfl hp2) (oSk (sF rfl rfl rfl rfl hp2) (oSk rfl (oSk rfl (oSk rfl (oSk rfl (oSk (sF rfl rfl rfl rfl hp2) (oY rfl (ag (vB hp2) rfl) ?_))))))))))
   exact key _ _ (keep (keep (keep rfl rfl) rfl) (vB (j6 hp2)))
  ·refine oY (sT rfl rfl rfl rfl hp2) (yFA cq rfl) (oY (sT rfl rfl rfl rfl hp2) (yL 0 gz rfl rfl rfl) (oY (sT rfl rfl rfl rfl hp2) (bi (us:=[]) ib rfl) (oY (sT rfl rfl rfl rfl hp2) (iB rfl rfl) (oY (sT rfl rfl rfl rfl hp2) (yMB rfl) ?_))))
   refine oJ 5 (fun tm0 => (upd (upd (upd (upd tm0 1 (.pointer (some ⟨b1,0,none⟩))) 2 (.bool false)) 9 (.bool (decide ((p0.fB.length:Int) ≤ 9)))) 19 (.bool ((decide (24 < (p0.fB.length:Int))) && (decide ((p0.fB.length:Int) ≤ 40)))))) (fun tm0 => ?_) (fun key => ?_)
   ·refine oY rfl (ah (vB hp2) rfl) ?_
    exact key _ _ (keep (keep (keep rfl rfl) rfl) (vB (jV hp2)))
   ·rcases aq (decide (24 < (p0.fB.length:Int))) with hp6 | hp6
    ·refine oY (sT rfl rfl rfl rfl hp6) (yFA cq rfl) (oY (sT rfl rfl rfl rfl hp6) (yL 0 gz rfl rfl rfl) (oY (sT rfl rfl rfl rfl hp6) (bi (us:=[]) ib rfl) (oY (sT rfl rfl rfl rfl hp6) (kd rfl rfl) (oY (sT rfl rfl rfl rfl hp2) (ag (vB hp6) rfl) ?_))))
     exact key _ _ (keep (keep (keep (keep rfl rfl) rfl) rfl) (vB (iC hp6)))
    ·refine oSk (sF rfl rfl rfl rfl hp6) (oSk (sF rfl rfl rfl rfl hp6) (oSk (sF rfl rfl rfl rfl hp6) (oSk (sF rfl rfl rfl rfl hp6) (oY (sT rfl rfl rfl rfl hp2) (ah (vB hp6) rfl) ?_))))
     exact key _ _ (keep (keep (keep (keep rfl rfl) rfl) rfl) (vB (iA hp6)))
end Go.Proofs.YthndghnkebboaaaGreat
set_option maxHeartbeats 4000000
set_option maxRecDepth 100000
namespace Go.Proofs.YthndghnkebboaaaGreat
open Go.RowKit (Below)
attribute [local irreducible] OX QX CX EX OpY Calls CallsIn
theorem me (p0:Int) (res:Bool) (h:eh p0 = some res) (W:World)  :
  Calls Tryz.prog 146 [vI p0].toArray W fun e W2 => e = .returned (.bool res) ∧ Ext W W2 []:=by
 unfold eh at h
 refine ab (m:=6) Tryz.func146 rfl rfl (nB rfl) (cS (cR (oY rfl (yAB rfl) (oN (eT (cS (cR (oY rfl (yMI rfl) ?_))))))))
 obtain ⟨y1,hy2,h⟩:=bOs h
 refine oY rfl (yC [vI p0,vI 0,vI 1000] gv rfl (fun W2 hW2 => aW p0 0 1000 y1 hy2 W2 ) rfl) (oY rfl (cj rfl) (oY rfl (yAB rfl) (oN (eT (ak ?_)))))
 obtain rfl:=sI h
 exact al (.inl rfl) rfl (rVt (v:=.bool (!y1)) rfl) (fun W2 hW2 => ⟨rfl,hW2.none⟩)
theorem nG (p0:TY) (p1:TPlan) (res:Bool) (h:hZ p0 p1 = some res) (W:World) (Aa:Option Addr) (n0_0 ca : Nat) (hn0_0:n0_0 = p0.fB.length) (hr0_0:Rd W Aa n0_0 ca (ap TBay_cells p0.fB)) (Ab:Option Addr) (n0_1 cb : Nat) (hn0_1:n0_1 = p0.fR.length) (hr0_1:Rd W Ab n0_1 cb (ap TOrder_cells p0.fR)) (Ac:Option Addr) (n1_0 cc : Nat) (hn1_0:n1_0 = p1.fG.length) (hr1_0:Rd W Ac n1_0 cc (ap cI p1.fG)) (A1_2:Option Addr) (n1_2 c1_2 : Nat) (hn1_2:n1_2 = p1.fPrices.length) (hr1_2:Rd W A1_2 n1_2 c1_2 (ap cI p1.fPrices)) :
  Calls Tryz.prog 102 [.agg #[.slice Aa n0_0 ca,.slice Ab n0_1 cb],.agg #[.slice Ac n1_0 cc,vI p1.fW,.slice A1_2 n1_2 c1_2]].toArray W fun e W2 => e = .returned (.bool res) ∧ Ext W W2 []:=by
 subst hn0_0
 subst hn0_1
 subst hn1_0
 subst hn1_2
 unfold hZ at h
 refine ab (m:=128) Tryz.func102 rfl rfl (nB rfl) (cS (cR ?_))
 refine aO [.slice Aa p0.fB.length ca,.slice Ab p0.fR.length cb] rfl rfl rfl (fun b1 => ?_)
 refine aO [.slice Ac p1.fG.length cc,vI p1.fW,.slice A1_2 p1.fPrices.length c1_2] rfl rfl rfl (fun b2 => ?_)
 refine oY rfl (yAB rfl) (oN (eT (cS (cS (cR (oY rfl (yFA fm rfl) (oY rfl (yL 1 gA rfl rfl rfl) (oY rfl (bi (us:=[]) cH rfl) (oY rfl (yFA bq rfl) (oY rfl (yL 0 dT rfl rfl rfl) (oY rfl (bi (us:=[]) fI rfl) (oY rfl (cQ rfl rfl) (oY rfl (yMB rfl) ?_)))))))))))))
 refine oJ 8 (fun tm0 => (upd (upd (upd (upd tm0 2 (.pointer (some ⟨b1,0,none⟩))) 3 (.pointer (some ⟨b2,0,none⟩))) 4 (.bool false)) 32 (.bool (((p1.fG.length:Int) != (p0.fR.length:Int)) || ((p1.fPrices.length:Int) != (p0.fB.length:Int)))))) (fun tm0 => ?_) (fun key => ?_)
 ·refine oY rfl (yMB rfl) ?_
  obtain ⟨b5,hb6,h⟩:=bOs h
  refine oJ 5 (fun tm0 => (upd (upd (upd (upd tm0 2 (.pointer (some ⟨b1,0,none⟩))) 3 (.pointer (some ⟨b2,0,none⟩))) 4 (.bool false)) 38 (.bool b5))) (fun tm0 => ?_) (fun key => ?_)
  ·refine oN (eT ?_)
   rcases iOs h with ⟨hp7,h⟩ | ⟨hp7,h⟩
   ·refine cT (vB hp7) (cS (cR (oY rfl (yAB rfl) (oN (eT (ak (aa ?_)))))))
    obtain rfl:=sI h
    exact al (.inl rfl) rfl (rVt (v:=.bool false) rfl) (fun W2 hW2 => ⟨rfl,hW2.none⟩)
   ·refine cF (vB hp7) (cK (eT (cS (cR ?_))))
    refine f7 3 kI cO kB false rfl (fun b8 => ?_)
    refine oY rfl (bx rfl) (oN (eT (cS (cR (oY rfl (yAI rfl) (oY rfl (yAI rfl) (oN (eT (cS (cS (cR (oY rfl (yFA bq rfl) (oY rfl (yL 0 dT rfl rfl rfl) (oY rfl (bi (us:=[]) fI rfl) (oY rfl (yMI rfl) (oN (eT (cB ?_))))))))))))))))))
    obtain ⟨u12,hl43,h⟩:=bOs h
    refine bS (fun (s:(Bool × Int × Int × Int × (List (Int × Bool)))) L tm => ∃ (tm0:Nat → Value),L = [ac b1 53 [.slice Aa p0.fB.length ca,.slice Ab p0.fR.length cb],ac b2 71 [.slice Ac p1.fG.length cc,vI p1.fW,.slice A1_2 p1.fPrices.length c1_2],mapV Tryz.prog 3 kI cO kB false b8 s.2.2.2.2] ∧ tm = (upd (upd (upd (upd (upd (upd (upd (upd (upd tm0 2 (.pointer (some ⟨b1,0,none⟩))) 3 (.pointer (some ⟨b2,0,none⟩))) 4 (.bool s.1)) 5 (.map (some b8))) 6 (vI s.2.1)) 7 (vI s.2.2.1)) 41 (.slice Ab p0.fR.length cb)) 42 (vI (p0.fR.length:Int))) 43 (vI s.2.2.2.1))) 0 hl43 ⟨_,rfl,(kp4 (kp4 (kp rfl)))⟩ ?_ ?_
    ·rintro s11 L tm st ⟨tm0_s11,rfl,rfl⟩ h
     unfold dQ at h
     refine cS (cR (oY rfl (bC rfl rfl) (oN (eT (cS ?_)))))
     rcases iOs h with ⟨hp13,h⟩ | ⟨hp13,h⟩
     ·refine cT (vB hp13) (cK (eT (cS (cB (cS (cR (oY rfl (yMI rfl) ?_)))))))
      obtain ⟨hg14,h⟩:=gOs h
      refine oY rfl (yI iK (by decide) hg14.1 hg14.2 (RdL.arg hr0_1) (eL ae rfl) rfl rfl) ?_
      refine oY rfl (yM (A:=Ab) (j:=(Int.toNat s11.2.2.2.1 * 5)) [vI ((rdL p0.fR s11.2.2.2.1).fID),vI ((rdL p0.fR s11.2.2.2.1).fH.fLo),vI ((rdL p0.fR s11.2.2.2.1).fH.fHi),vI ((rdL p0.fR s11.2.2.2.1).fD),vI ((rdL p0.fR s11.2.2.2.1).fW)] jl (Nat.succ_pos _) (RdL.arg hr0_1) rfl (bg ae hg14.1 (aw hg14.2 rfl))) ?_
      refine ay jN rfl (fun b15 => ?_)
      refine oY rfl (yAI rfl) (cv rfl (yS 3 [vI ((rdL p0.fR s11.2.2.2.1).fID),vI ((rdL p0.fR s11.2.2.2.1).fH.fLo),vI ((rdL p0.fR s11.2.2.2.1).fH.fHi),vI ((rdL p0.fR s11.2.2.2.1).fD),vI ((rdL p0.fR s11.2.2.2.1).fW)] r3 rfl (nB rfl) rfl rfl rfl) (oN (eT (cS (cR (oY rfl (yAI rfl) (oN (eT (cS (cS (cR (oY rfl (yFA cq rfl) (oY rfl (yL 0 gz rfl rfl rfl) (oY rfl (bi (us:=[]) ib rfl) (oY rfl (yMI rfl) (oN (eT (cB ?_))))))))))))))))))
      obtain ⟨u18,hl26,h⟩:=bOs h
      refine bj (fun (s:(Int × Int)) L tm => ∃ (tm0:Nat → Value),L = [ac b1 53 [.slice Aa p0.fB.length ca,.slice Ab p0.fR.length cb],ac b2 71 [.slice Ac p1.fG.length cc,vI p1.fW,.slice A1_2 p1.fPrices.length c1_2],mapV Tryz.prog 3 kI cO kB false b8 s11.2.2.2.2,ac b15 65 [vI ((rdL p0.fR s11.2.2.2.1).fID),vI ((rdL p0.fR s11.2.2.2.1).fH.fLo),vI ((rdL p0.fR s11.2.2.2.1).fH.fHi),vI ((rdL p0.fR s11.2.2.2.1).fD),vI ((rdL p0.fR s11.2.2.2.1).fW)]] ∧ tm = (upd (upd (upd (upd (upd (upd (upd (upd (upd (upd (upd (upd (upd (upd (upd (upd tm0 2 (.pointer (some ⟨b1,0,none⟩))) 3 (.pointer (some ⟨b2,0,none⟩))) 4 (.bool s11.1)) 5 (.map (some b8))) 6 (vI s11.2.1)) 7 (vI s11.2.2.1)) 41 (.slice Ab p0.fR.length cb)) 42 (vI (p0.fR.length:Int))) 43 (vI s11.2.2.2.1)) 44 (.bool (decide (s11.2.2.2.1 < (p0.fR.length:Int))))) 9 (.pointer (some ⟨b15,0,none⟩))) 8 (vI s11.2.2.2.1)) 10 (vI s.1)) 49 (.slice Aa p0.fB.length ca)) 50 (vI (p0.fB.length:Int))) 51 (vI s.2))) 2 hl26 ⟨_,rfl,(kp4 (kp4 (kp4 (kp4 rfl))))⟩ ?_ ?_
      ·rintro s17 L tm st ⟨tm0_s17,rfl,rfl⟩ h
       unfold dR at h
       refine cS (cR (oY rfl (bC rfl rfl) (oN (eT (cS ?_)))))
       rcases iOs h with ⟨hp19,h⟩ | ⟨hp19,h⟩
       ·refine cT (vB hp19) (cK (eT (cS (cB (cS (cR (oY rfl (yMI rfl) ?_)))))))
        obtain ⟨hg20,h⟩:=gOs h
        refine oY rfl (yI kw (by decide) hg20.1 hg20.2 (RdL.arg hr0_0) (eL aE rfl) rfl rfl) ?_
        refine oY rfl (yM (A:=Aa) (j:=(Int.toNat s17.2 * 3)) [vI ((rdL p0.fB s17.2).fID),vI ((rdL p0.fB s17.2).fHour),vI ((rdL p0.fB s17.2).fD)] pk (Nat.succ_pos _) (RdL.arg hr0_0) rfl (bg aE hg20.1 (aw hg20.2 rfl))) ?_
        refine ay nu rfl (fun b21 => ?_)
        refine oY rfl (yAI rfl) (cv rfl (yS 4 [vI ((rdL p0.fB s17.2).fID),vI ((rdL p0.fB s17.2).fHour),vI ((rdL p0.fB s17.2).fD)] sz_69 rfl (nB rfl) rfl rfl rfl) (oN (eT (cS (cR (oY rfl (yN 3 [vI ((rdL p0.fR s11.2.2.2.1).fID),vI ((rdL p0.fR s11.2.2.2.1).fH.fLo),vI ((rdL p0.fR s11.2.2.2.1).fH.fHi),vI ((rdL p0.fR s11.2.2.2.1).fD),vI ((rdL p0.fR s11.2.2.2.1).fW)] jl rfl rfl rfl) (oY rfl (yN 4 [vI ((rdL p0.fB s17.2).fID),vI ((rdL p0.fB s17.2).fHour),vI ((rdL p0.fB s17.2).fD)] pk rfl rfl rfl) ?_)))))))
        obtain ⟨y22,hy23,h⟩:=bOs h
        refine oY rfl (yC [.agg #[vI ((rdL p0.fR s11.2.2.2.1).fID),vI ((rdL p0.fR s11.2.2.2.1).fH.fLo),vI ((rdL p0.fR s11.2.2.2.1).fH.fHi),vI ((rdL p0.fR s11.2.2.2.1).fD),vI ((rdL p0.fR s11.2.2.2.1).fW)],.agg #[vI ((rdL p0.fB s17.2).fID),vI ((rdL p0.fB s17.2).fHour),vI ((rdL p0.fB s17.2).fD)]] go_101 rfl (fun W2 hW2 => iW (TO.mk ((rdL p0.fR s11.2.2.2.1).fID) (TSpan.mk ((rdL p0.fR s11.2.2.2.1).fH.fLo) ((rdL p0.fR s11.2.2.2.1).fH.fHi)) ((rdL p0.fR s11.2.2.2.1).fD) ((rdL p0.fR s11.2.2.2.1).fW)) (TBay.mk ((rdL p0.fB s17.2).fID) ((rdL p0.fB s17.2).fHour) ((rdL p0.fB s17.2).fD)) y22 hy23 W2 ) rfl) (oN (eT ?_))
        rcases iOs h with ⟨hp24,h⟩ | ⟨hp24,h⟩
        ·refine cT (vB hp24) (cR (oY rfl (yMI rfl) (oY rfl (yFA jF rfl) (oY rfl (yL 1 gA rfl rfl rfl) (oY rfl (yMI rfl) ?_)))))
         obtain ⟨hg25,h⟩:=gOs h
         refine oY rfl (yI cN (by decide) hg25.1 hg25.2 (RdL.arg hr1_2) (eL az rfl) rfl rfl) ?_
         refine oY rfl (yR (A:=A1_2) (j:=(Int.toNat s17.2 * 1)) (v:=vI (rdL p1.fPrices s17.2)) ba (RdL.arg hr1_2) rfl (aG az hg25.1 (aw hg25.2 rfl) rfl)) (oY rfl (y_min rfl rfl) (oY rfl (yAI rfl) (oN (av (eT (cR (oY rfl (a4 rfl rfl) (oY rfl (yMI rfl) (oN (aP 4 ?_))))))))))
         obtain rfl:=sI h
         exact eN ⟨_,rfl,(kp4 (kp4 (kp4 (kp4 rfl))))⟩
        ·refine cF (vB hp24) (cK (av (eT (cR (oY rfl (a4 rfl rfl) (oY rfl (yMI rfl) (oN (aP 4 ?_))))))))
         obtain rfl:=sI h
         exact eN ⟨_,rfl,(kp4 (kp4 (kp4 (kp4 rfl))))⟩
       ·refine cF (vB hp19) (aF (ai ?_))
        obtain rfl:=sI h
        exact ax ⟨rfl,_,rfl,(kp4 (kp4 (kp4 (kp4 rfl))))⟩
      ·intro e L tm hJ
       obtain ⟨rfl,tm0_u18,rfl,rfl⟩:=hJ
       refine ⟨(by intro hc; cases hc),?_⟩
       refine ad (eT (cS (cR (oY rfl (yMI rfl) (oY rfl (yFA eX rfl) (oY rfl (yL 3 ba rfl rfl rfl) (oY rfl (yMI rfl) (oY rfl (gB rfl rfl) (oY rfl (y_max rfl rfl) (oY rfl (a4 rfl rfl) (oY rfl (yAI rfl) (oN (eT (cS (cR (oY rfl (yFA fm rfl) (oY rfl (yL 1 gA rfl rfl rfl) (oY rfl (yMI rfl) ?_))))))))))))))))))
       obtain ⟨hg27,h⟩:=gOs h
       refine oY rfl (yI cN (by decide) hg27.1 hg27.2 (RdL.arg hr1_0) (eL az rfl) rfl rfl) ?_
       refine oY rfl (yR (A:=Ac) (j:=(Int.toNat s11.2.2.2.1 * 1)) (v:=vI (rdL p1.fG s11.2.2.2.1)) ba (RdL.arg hr1_0) rfl (aG az hg27.1 (aw hg27.2 rfl) rfl)) (oY rfl (yAI rfl) (oN (eT (cS (cS (cR (oY rfl (yMI rfl) (oY rfl (du rfl rfl) (oN (eT ?_))))))))))
       rcases iOs h with ⟨hp28,h⟩ | ⟨hp28,h⟩
       ·refine cT (vB hp28) (aF (ai (ad (eT (cR (oY rfl (a4 rfl rfl) (oY rfl (yMI rfl) (oN (aP 3 ?_)))))))))
        obtain rfl:=sI h
        exact eN ⟨_,rfl,(kp4 (kp4 (kp rfl)))⟩
       ·refine cF (vB hp28) (cK (eT (cS (cR (oY rfl (yN 0 [.slice Aa p0.fB.length ca,.slice Ab p0.fR.length cb] bO rfl rfl rfl) (oY rfl (yMI rfl) ?_))))))
        obtain ⟨y29,hy30,h⟩:=bOs h
        refine oY rfl (yC [.agg #[.slice Aa p0.fB.length ca,.slice Ab p0.fR.length cb],vI (rdL p1.fG s11.2.2.2.1)] go_96 rfl (fun W2 hW2 => jd p0 (rdL p1.fG s11.2.2.2.1) y29 hy30 W2 Aa p0.fB.length ca rfl ((RdL.arg hr0_0) W2 hW2) Ab p0.fR.length cb rfl ((RdL.arg hr0_1) W2 hW2)) rfl) (oY rfl (yAI rfl) (oN (eT (cS (cS ?_)))))
        refine bM 17 dD (by kernel_rfl) (by kernel_rfl) ?_
        refine qY rfl (yMI rfl) (qY rfl (bC rfl rfl) (qY rfl (yMB rfl) ?_))
        obtain ⟨b32,hb33,h⟩:=bOs h
        refine qJ 4 (fun tm0 => (upd (upd (upd (upd (upd (upd (upd (upd (upd (upd (upd (upd (upd (upd (upd (upd (upd (upd (upd (upd tm0 2 (.pointer (some ⟨b1,0,none⟩))) 3 (.pointer (some ⟨b2,0,none⟩))) 4 (.bool s11.1)) 5 (.map (some b8))) 6 (vI s11.2.1)) 7 (vI (w64 (s11.2.2.1 + (max 0 (w64 (((rdL p0.fR s11.2.2.2.1).fW) - u18.1))))))) 41 (.slice Ab p0.fR.length cb)) 42 (vI (p0.fR.length:Int))) 43 (vI s11.2.2.2.1)) 44 (.bool (decide (s11.2.2.2.1 < (p0.fR.length:Int))))) 9 (.pointer (some ⟨b15,0,none⟩))) 8 (vI s11.2.2.2.1)) 10 (vI u18.1)) 49 (.slice Aa p0.fB.length ca)) 50 (vI (p0.fB.length:Int))) 51 (vI u18.2)) 13 (vI (rdL p1.fG s11.2.2.2.1))) 80 (.bool ((rdL p1.fG s11.2.2.2.1) == 0))) 14 (vI y29)) 90 (.bool b32))) (fun tm0 => ?_) (fun key => ?_)
        ·refine qY rfl (yMB rfl) ?_
         obtain ⟨b35,hb36,h⟩:=bOs h
         refine qJ 9 (fun tm0 => (upd (upd (upd (upd (upd (upd (upd (upd (upd (upd (upd (upd (upd (upd (upd (upd (upd (upd (upd (upd tm0 2 (.pointer (some ⟨b1,0,none⟩))) 3 (.pointer (some ⟨b2,0,none⟩))) 4 (.bool s11.1)) 5 (.map (some b8))) 6 (vI s11.2.1)) 7 (vI (w64 (s11.2.2.1 + (max 0 (w64 (((rdL p0.fR s11.2.2.2.1).fW) - u18.1))))))) 41 (.slice Ab p0.fR.length cb)) 42 (vI (p0.fR.length:Int))) 43 (vI s11.2.2.2.1)) 44 (.bool (decide (s11.2.2.2.1 < (p0.fR.length:Int))))) 9 (.pointer (some ⟨b15,0,none⟩))) 8 (vI s11.2.2.2.1)) 10 (vI u18.1)) 49 (.slice Aa p0.fB.length ca)) 50 (vI (p0.fB.length:Int))) 51 (vI u18.2)) 13 (vI (rdL p1.fG s11.2.2.2.1))) 80 (.bool ((rdL p1.fG s11.2.2.2.1) == 0))) 14 (vI y29)) 100 (.bool b35))) (fun tm0 => ?_) (fun key => ?_)
         ·refine dF (oN (eT ?_))
          rcases iOs h with ⟨hp37,h⟩ | ⟨hp37,h⟩
          ·refine cT (vB hp37) (cS (cR (oY rfl (yAB rfl) (oN (eT (ak (aa (aj (aa (aP 3 ?_))))))))))
           obtain rfl:=sI h
           exact ax ⟨rfl,_,rfl,(kp4 (kp4 (kp rfl)))⟩
          ·refine cF (vB hp37) (cK (eT (cS (cR (oY rfl (bh rfl) (oY rfl (yMI rfl) ?_))))))
           obtain ⟨hg38,h⟩:=gOs h
           refine cv rfl (ik 2 (k:=(rdL p1.fG s11.2.2.2.1)) (v:=true) rfl rP q7 rfl rfl rfl hg38) (oN (eT (cR (oY rfl (yMI rfl) (oY rfl (yFA eX rfl) (oY rfl (yL 3 ba rfl rfl rfl) (oY rfl (a4 rfl rfl) (oY rfl (yAI rfl) (oN (av (eT (cR (oY rfl (a4 rfl rfl) (oY rfl (yMI rfl) (oN (aP 3 ?_))))))))))))))))
           obtain rfl:=sI h
           exact eN ⟨_,rfl,(kp4 (kp4 (kp rfl)))⟩
         ·clear h; rcases iOs hb36 with ⟨hp34,h⟩ | ⟨hp34,h⟩
          ·refine aI (sF rfl rfl rfl rfl hp34) (aI (sF rfl rfl rfl rfl hp34) (aI (sF rfl rfl rfl rfl hp34) (aI (sF rfl rfl rfl rfl hp34) (aI (sF rfl rfl rfl rfl hp34) (aI (sF rfl rfl rfl rfl hp34) (aI (sF rfl rfl rfl rfl hp34) (aI (sF rfl rfl rfl rfl hp34) (qY rfl (ag (vB hp34) rfl) ?_))))))))
           obtain rfl:=sI h
           exact key _ _ (kp4 (kp4 (kp4 (kp4 (kp4 rfl)))))
          ·refine qY (sT rfl rfl rfl rfl hp34) (yN 3 [vI ((rdL p0.fR s11.2.2.2.1).fID),vI ((rdL p0.fR s11.2.2.2.1).fH.fLo),vI ((rdL p0.fR s11.2.2.2.1).fH.fHi),vI ((rdL p0.fR s11.2.2.2.1).fD),vI ((rdL p0.fR s11.2.2.2.1).fW)] jl rfl rfl rfl) (qY (sT rfl rfl rfl rfl hp34) (yFA cq rfl) (qY (sT rfl rfl rfl rfl hp34) (yL 0 gz rfl rfl rfl) (qY (sT rfl rfl rfl rfl hp34) (yMI rfl) ?_)))
           obtain ⟨hg39,h⟩:=gOs h
           refine qY (sT rfl rfl rfl rfl hp34) (yI kw (by decide) hg39.1 hg39.2 (RdL.arg hr0_0) (eL aE rfl) rfl rfl) ?_
           refine qY (sT rfl rfl rfl rfl hp34) (yM (A:=Aa) (j:=(Int.toNat y29 * 3)) [vI ((rdL p0.fB y29).fID),vI ((rdL p0.fB y29).fHour),vI ((rdL p0.fB y29).fD)] pk (Nat.succ_pos _) (RdL.arg hr0_0) rfl (bg aE hg39.1 (aw hg39.2 rfl))) ?_
           obtain ⟨y40,hy41,h⟩:=bOs h
           refine qY (sT rfl rfl rfl rfl hp34) (yC [.agg #[vI ((rdL p0.fR s11.2.2.2.1).fID),vI ((rdL p0.fR s11.2.2.2.1).fH.fLo),vI ((rdL p0.fR s11.2.2.2.1).fH.fHi),vI ((rdL p0.fR s11.2.2.2.1).fD),vI ((rdL p0.fR s11.2.2.2.1).fW)],.agg #[vI ((rdL p0.fB y29).fID),vI ((rdL p0.fB y29).fHour),vI ((rdL p0.fB y29).fD)]] go_101 rfl (fun W2 hW2 => iW (TO.mk ((rdL p0.fR s11.2.2.2.1).fID) (TSpan.mk ((rdL p0.fR s11.2.2.2.1).fH.fLo) ((rdL p0.fR s11.2.2.2.1).fH.fHi)) ((rdL p0.fR s11.2.2.2.1).fD) ((rdL p0.fR s11.2.2.2.1).fW)) (TBay.mk ((rdL p0.fB y29).fID) ((rdL p0.fB y29).fHour) ((rdL p0.fB y29).fD)) y40 hy41 W2 ) rfl) (qY (sT rfl rfl rfl rfl hp34) (cj rfl) (qY rfl (ah (vB hp34) rfl) ?_))
           obtain rfl:=sI h
           exact key _ _ (kp4 (kp4 (kp4 (kp4 (kp4 rfl)))))
        ·clear h; rcases iOs hb33 with ⟨hp31,h⟩ | ⟨hp31,h⟩
         ·refine aI (sF rfl rfl rfl rfl hp31) (aI (sF rfl rfl rfl rfl hp31) (aI (sF rfl rfl rfl rfl hp31) (qY rfl (ag (vB hp31) rfl) ?_)))
          obtain rfl:=sI h
          exact key _ _ (kp4 (kp4 (kp4 (kp4 (kp4 rfl)))))
         ·refine qY (sT rfl rfl rfl rfl hp31) (bh rfl) (qY (sT rfl rfl rfl rfl hp31) (yMI rfl) ?_)
          obtain ⟨hg42,h⟩:=gOs h
          refine qY (sT rfl rfl rfl rfl hp31) (iO (k:=(rdL p1.fG s11.2.2.2.1)) (MpL.own 2 rfl) rP q7 ze_4 rfl rfl hg42) (qY rfl (ah (vB hp31) rfl) ?_)
          obtain rfl:=sI h
          exact key _ _ (kp4 (kp4 (kp4 (kp4 (kp4 rfl)))))
     ·refine cF (vB hp13) (aF (ai ?_))
      obtain rfl:=sI h
      exact ax ⟨rfl,_,rfl,(kp4 (kp4 (kp rfl)))⟩
    ·intro e L tm hJ
     rcases u12 with u44 | u45
     ·dsimp only at h hJ
      obtain ⟨rfl,tm0_u44,rfl,rfl⟩:=hJ
      refine ⟨(by intro hc; cases hc),?_⟩
      refine aj (aa ?_)
      obtain rfl:=sI h
      exact al (.inl rfl) rfl (rVt (v:=.bool u44.1) rfl) (fun W2 hW2 => ⟨rfl,hW2.none⟩)
     ·dsimp only at h hJ
      obtain ⟨rfl,tm0_u45,rfl,rfl⟩:=hJ
      refine ⟨(by intro hc; cases hc),?_⟩
      refine ad (eT (cS (cS (cR (oY rfl (yFA jF rfl) (oY rfl (yL 1 gA rfl rfl rfl) (oY rfl (bi (us:=[]) cH rfl) (oY rfl (yMI rfl) (oN (eT (cB ?_)))))))))))
      obtain ⟨u48,hl51,h⟩:=bOs h
      refine bj (fun (s:(Int × Int)) L tm => ∃ (tm0:Nat → Value),L = [ac b1 53 [.slice Aa p0.fB.length ca,.slice Ab p0.fR.length cb],ac b2 71 [.slice Ac p1.fG.length cc,vI p1.fW,.slice A1_2 p1.fPrices.length c1_2],mapV Tryz.prog 3 kI cO kB false b8 u45.2.2.2.2] ∧ tm = (upd (upd (upd (upd (upd (upd (upd tm0 3 (.pointer (some ⟨b2,0,none⟩))) 4 (.bool u45.1)) 6 (vI u45.2.1)) 7 (vI s.1)) 109 (.slice A1_2 p1.fPrices.length c1_2)) 110 (vI (p1.fPrices.length:Int))) 111 (vI s.2))) 4 hl51 ⟨_,rfl,(kp4 (kp (kp (kp rfl))))⟩ ?_ ?_
      ·rintro s47 L tm st ⟨tm0_s47,rfl,rfl⟩ h
       unfold dS at h
       refine cS (cR (oY rfl (bC rfl rfl) (oN (eT (cS ?_)))))
       rcases iOs h with ⟨hp49,h⟩ | ⟨hp49,h⟩
       ·refine cT (vB hp49) (cK (eT (cS (cB (cS (cR ?_))))))
        obtain ⟨hg50,h⟩:=gOs h
        refine oY rfl (yI cN (by decide) hg50.1 hg50.2 (RdL.arg hr1_2) (eL az rfl) rfl rfl) ?_
        refine oY rfl (yR (A:=A1_2) (j:=(Int.toNat s47.2 * 1)) (v:=vI (rdL p1.fPrices s47.2)) ba (RdL.arg hr1_2) rfl (aG az hg50.1 (aw hg50.2 rfl) rfl)) (oY rfl (yAI rfl) (oN (eT (cR (oY rfl (yMI rfl) (oY rfl (yMI rfl) (oY rfl (a4 rfl rfl) (oY rfl (yAI rfl) (oN (av (eT (cR (oY rfl (a4 rfl rfl) (oY rfl (yMI rfl) (oN ?_)))))))))))))))
        obtain rfl:=sI h
        exact eN ⟨_,rfl,(kp4 (kp (kp (kp rfl))))⟩
       ·refine cF (vB hp49) (aF (ai ?_))
        obtain rfl:=sI h
        exact ax ⟨rfl,_,rfl,(kp4 (kp (kp (kp rfl))))⟩
      ·intro e L tm hJ
       obtain ⟨rfl,tm0_u48,rfl,rfl⟩:=hJ
       refine ⟨(by intro hc; cases hc),?_⟩
       refine ad (eT (cS (cR (oY rfl (yMI rfl) (oY rfl (yFA ns rfl) (oY rfl (yL 1 ba rfl rfl rfl) (oY rfl (du rfl rfl) (oY rfl (yMB rfl) ?_))))))))
       refine oJ 4 (fun tm0 => (upd (upd tm0 4 (.bool u45.1)) 127 (.bool ((u45.2.1 == p1.fW) && (u45.2.1 == u48.1))))) (fun tm0 => ?_) (fun key => ?_)
       ·refine oY rfl (yAB rfl) (oN (eT (ak ?_)))
        obtain rfl:=sI h
        exact al (.inl rfl) rfl (rVt (v:=.bool ((u45.2.1 == p1.fW) && (u45.2.1 == u48.1))) rfl) (fun W2 hW2 => ⟨rfl,hW2.none⟩)
       ·rcases aq (u45.2.1 == p1.fW) with hp52 | hp52
        ·refine oY (sT rfl rfl rfl rfl hp52) (yMI rfl) (oY (sT rfl rfl rfl rfl hp52) (yMI rfl) (oY (sT rfl rfl rfl rfl hp52) (du rfl rfl) (oY rfl (ag (vB hp52) rfl) ?_)))
         exact key _ _ (keep (keep rfl rfl) (vB (iC hp52)))
        ·refine oSk (sF rfl rfl rfl rfl hp52) (oSk (sF rfl rfl rfl rfl hp52) (oSk (sF rfl rfl rfl rfl hp52) (oY rfl (ah (vB hp52) rfl) ?_)))
         exact key _ _ (keep (keep rfl rfl) (vB (iA hp52)))
  ·clear h; rcases iOs hb6 with ⟨hp4,h⟩ | ⟨hp4,h⟩
   ·refine oSk (sF rfl rfl rfl rfl hp4) (oSk (sF rfl rfl rfl rfl hp4) (oSk (sF rfl rfl rfl rfl hp4) (oSk (sF rfl rfl rfl rfl hp4) (oY rfl (ag (vB hp4) rfl) ?_))))
    obtain rfl:=sI h
    exact key _ _ (kp4 rfl)
   ·refine oY (sT rfl rfl rfl rfl hp4) (yFA jF rfl) (oY (sT rfl rfl rfl rfl hp4) (yL 1 gA rfl rfl rfl) ?_)
    obtain ⟨y54,hy55,h⟩:=bOs h
    refine oY (sT rfl rfl rfl rfl hp4) (yC [.slice A1_2 p1.fPrices.length c1_2,.func (.func 146) #[] #[]] go_136 rfl (fun W2 hW2 => lV p1.fPrices (fun x53 => eh x53) y54 hy55 W2 A1_2 p1.fPrices.length c1_2 rfl ((RdL.arg hr1_2) W2 hW2) 146 [] [] go_146 (fun W3 hb x y hxy => me  x  y hxy W3 )) rfl) (oY (sT rfl rfl rfl rfl hp4) (od rfl rfl) (oY rfl (ah (vB hp4) rfl) ?_))
    obtain rfl:=sI h
    exact key _ _ (kp4 rfl)
 ·rcases aq ((p1.fG.length:Int) != (p0.fR.length:Int)) with hp3 | hp3
  ·refine oSk (sF rfl rfl rfl rfl hp3) (oSk (sF rfl rfl rfl rfl hp3) (oSk (sF rfl rfl rfl rfl hp3) (oSk (sF rfl rfl rfl rfl hp3) (oSk (sF rfl rfl rfl rfl hp3) (oSk (sF rfl rfl rfl rfl hp3) (oSk (sF rfl rfl rfl rfl hp3) (oY rfl (ag (vB hp3) rfl) ?_)))))))
   exact key _ _ (keep (keep (keep (keep rfl rfl) rfl) rfl) (vB (j6 hp3)))
  ·refine oY (sT rfl rfl rfl rfl hp3) (yFA jF rfl) (oY (sT rfl rfl rfl rfl hp3) (yL 1 gA rfl rfl rfl) (oY (sT rfl rfl rfl rfl hp3) (bi (us:=[]) cH rfl) (oY (sT rfl rfl rfl rfl hp3) (yFA cq rfl) (oY (sT rfl rfl rfl rfl hp3) (yL 0 gz rfl rfl rfl) (oY (sT rfl rfl rfl rfl hp3) (bi (us:=[]) ib rfl) (oY (sT rfl rfl rfl rfl hp3) (cQ rfl rfl) (oY rfl (ah (vB hp3) rfl) ?_)))))))
   exact key _ _ (keep (keep (keep (keep rfl rfl) rfl) rfl) (vB (jV hp3)))
end Go.Proofs.YthndghnkebboaaaGreat
set_option maxHeartbeats 4000000
set_option maxRecDepth 100000
namespace Go.Proofs.YthndghnkebboaaaGreat
open Go.RowKit (Below)
attribute [local irreducible] OX QX CX EX OpY Calls CallsIn
theorem hU (p0:Int) (cap0:TPlan) (cap1:TY) (res:(List (Int × Int))) (h:ed p0 cap0 cap1 = some res) (W:World) (bc0:Nat) (A100_0:Option Addr) (n100_0 c100_0 : Nat) (hn100_0:n100_0 = cap0.fG.length) (hr100_0:Rd W A100_0 n100_0 c100_0 (ap cI cap0.fG)) (A100_2:Option Addr) (n100_2 c100_2 : Nat) (hn100_2:n100_2 = cap0.fPrices.length) (hr100_2:Rd W A100_2 n100_2 c100_2 (ap cI cap0.fPrices)) (hcap0:Rd W (some ⟨bc0,0,none⟩) 1 1 [.slice A100_0 n100_0 c100_0,vI cap0.fW,.slice A100_2 n100_2 c100_2]) (bc1:Nat) (A101_0:Option Addr) (n101_0 c101_0 : Nat) (hn101_0:n101_0 = cap1.fB.length) (hr101_0:Rd W A101_0 n101_0 c101_0 (ap TBay_cells cap1.fB)) (A101_1:Option Addr) (n101_1 c101_1 : Nat) (hn101_1:n101_1 = cap1.fR.length) (hr101_1:Rd W A101_1 n101_1 c101_1 (ap TOrder_cells cap1.fR)) (hcap1:Rd W (some ⟨bc1,0,none⟩) 1 1 [.slice A101_0 n101_0 c101_0,.slice A101_1 n101_1 c101_1]) :
  Calls Tryz.prog 116 [vI p0,.pointer (some ⟨bc0,0,none⟩),.pointer (some ⟨bc1,0,none⟩)].toArray W fun e W2 => ∃ x : Nat,e = .returned (.map (some x)) ∧ Ext W W2 [mapV Tryz.prog 3 kI cO kI 0 x res]:=by
 subst hn100_0
 subst hn100_2
 subst hn101_0
 subst hn101_1
 unfold ed at h
 refine ab (m:=31) Tryz.func116 rfl rfl (nB rfl) (cS (cR (oY rfl (bx rfl) (oN (eT (cS (cR ?_)))))))
 refine f7 3 kI cO kI 0 rfl (fun b1 => ?_)
 refine oY rfl (bx rfl) (oN (eT (cS (cS (cR (oY rfl (yFR (A:=(some ⟨bc0,0,none⟩)) (j:=0) fm rfl) (oY rfl (yR (A:=(some ⟨bc0,0,none⟩)) (j:=(0 + 0)) (v:=.slice A100_0 cap0.fG.length c100_0) gA (RdL.arg hcap0) rfl rfl) (oY rfl (bi (us:=[]) cH rfl) (oY rfl (yMI rfl) (oN (eT (cB ?_))))))))))))
 obtain ⟨u5,hl13,h⟩:=bOs h
 refine bj (fun (s:(Int × (List (Int × Int)))) L tm => ∃ (tm0:Nat → Value),L = [mapV Tryz.prog 3 kI cO kI 0 b1 s.2] ∧ tm = (upd (upd (upd (upd (upd (upd (upd tm0 0 (vI p0)) 2 (slA (some ⟨bc1,0,none⟩) 0)) 4 (.map none)) 5 (.map (some b1))) 10 (.slice A100_0 cap0.fG.length c100_0)) 11 (vI (cap0.fG.length:Int))) 12 (vI s.1))) 0 hl13 ⟨_,rfl,(kp4 (kp (kp (kp rfl))))⟩ ?_ ?_
 ·rintro s4 L tm st ⟨tm0_s4,rfl,rfl⟩ h
  unfold fo at h
  refine cS (cR (oY rfl (bC rfl rfl) (oN (eT (cS ?_)))))
  rcases iOs h with ⟨hp6,h⟩ | ⟨hp6,h⟩
  ·refine cT (vB hp6) (cK (eT (cS (cB (cS (cR (oY rfl (yMI rfl) ?_)))))))
   obtain ⟨hg7,h⟩:=gOs h
   refine oY rfl (yI cN (by decide) hg7.1 hg7.2 (RdL.arg hr100_0) (eL az rfl) rfl rfl) ?_
   refine oY rfl (yR (A:=A100_0) (j:=(Int.toNat s4.1 * 1)) (v:=vI (rdL cap0.fG s4.1)) ba (RdL.arg hr100_0) rfl (aG az hg7.1 (aw hg7.2 rfl) rfl)) (oY rfl (yAI rfl) (oY rfl (yAI rfl) (oN (eT (cS (cR (oY rfl (yMI rfl) (oY rfl (cQ rfl rfl) (oY rfl (yMB rfl) ?_)))))))))
   refine oJ 4 (fun tm0 => (upd (upd (upd (upd (upd (upd (upd (upd (upd (upd (upd tm0 0 (vI p0)) 2 (slA (some ⟨bc1,0,none⟩) 0)) 4 (.map none)) 5 (.map (some b1))) 10 (.slice A100_0 cap0.fG.length c100_0)) 11 (vI (cap0.fG.length:Int))) 12 (vI s4.1)) 13 (.bool (decide (s4.1 < (cap0.fG.length:Int))))) 6 (vI s4.1)) 7 (vI (rdL cap0.fG s4.1))) 23 (.bool (((rdL cap0.fG s4.1) != 0) && (s4.1 != p0))))) (fun tm0 => ?_) (fun key => ?_)
   ·refine oN (eT ?_)
    rcases iOs h with ⟨hp9,h⟩ | ⟨hp9,h⟩
    ·refine cT (vB hp9) (cR (oY rfl (bh rfl) (oY rfl (yM (A:=(some ⟨bc1,0,none⟩)) (j:=0) [.slice A101_0 cap1.fB.length c101_0,.slice A101_1 cap1.fR.length c101_1] bO (Nat.succ_pos _) (RdL.arg hcap1) rfl (mp rfl)) (oY rfl (yMI rfl) ?_))))
     obtain ⟨y10,hy11,h⟩:=bOs h
     refine oY rfl (yC [.agg #[.slice A101_0 cap1.fB.length c101_0,.slice A101_1 cap1.fR.length c101_1],vI (rdL cap0.fG s4.1)] go_96 rfl (fun W2 hW2 => jd cap1 (rdL cap0.fG s4.1) y10 hy11 W2 A101_0 cap1.fB.length c101_0 rfl ((RdL.arg hr101_0) W2 hW2) A101_1 cap1.fR.length c101_1 rfl ((RdL.arg hr101_1) W2 hW2)) rfl) (oY rfl (yMI rfl) ?_)
     obtain ⟨hg12,h⟩:=gOs h
     refine cv rfl (ik 0 (k:=y10) (v:=s4.1) rfl rP nL rfl rfl rfl hg12) (oN (av (eT (cR (oY rfl (a4 rfl rfl) (oY rfl (yMI rfl) (oN ?_)))))))
     obtain rfl:=sI h
     exact eN ⟨_,rfl,(kp4 (kp (kp (kp rfl))))⟩
    ·refine cF (vB hp9) (cK (av (eT (cR (oY rfl (a4 rfl rfl) (oY rfl (yMI rfl) (oN ?_)))))))
     obtain rfl:=sI h
     exact eN ⟨_,rfl,(kp4 (kp (kp (kp rfl))))⟩
   ·rcases aq ((rdL cap0.fG s4.1) != 0) with hp8 | hp8
    ·refine oY (sT rfl rfl rfl rfl hp8) (yMI rfl) (oY (sT rfl rfl rfl rfl hp8) (yMI rfl) (oY (sT rfl rfl rfl rfl hp8) (cQ rfl rfl) (oY rfl (ag (vB hp8) rfl) ?_)))
     exact key _ _ (keep (keep (keep (keep (keep (keep (keep (keep (keep (keep (keep rfl rfl) rfl) rfl) rfl) rfl) rfl) rfl) rfl) rfl) rfl) (vB (iC hp8)))
    ·refine oSk (sF rfl rfl rfl rfl hp8) (oSk (sF rfl rfl rfl rfl hp8) (oSk (sF rfl rfl rfl rfl hp8) (oY rfl (ah (vB hp8) rfl) ?_)))
     exact key _ _ (keep (keep (keep (keep (keep (keep (keep (keep (keep (keep (keep rfl rfl) rfl) rfl) rfl) rfl) rfl) rfl) rfl) rfl) rfl) (vB (iA hp8)))
  ·refine cF (vB hp6) (aF (ai ?_))
   obtain rfl:=sI h
   exact ax ⟨rfl,_,rfl,(kp4 (kp (kp (kp rfl))))⟩
 ·intro e L tm hJ
  obtain ⟨rfl,tm0_u5,rfl,rfl⟩:=hJ
  refine ⟨(by intro hc; cases hc),?_⟩
  refine ad (eT (cS (cR (oY rfl (bh rfl) (oY rfl (bx rfl) (oN (eT (ak ?_))))))))
  obtain rfl:=sI h
  exact al (.inl rfl) rfl (rVt (v:=.map (some b1)) rfl) (fun W2 hW2 => ⟨b1,rfl,(hW2.pick 0 rfl)⟩)
theorem oz (p0:TY) (p1:TPlan) (p2:TO) (res:(TPlan × Int)) (h:gd p0 p1 p2 = some res) (W:World) (Aa:Option Addr) (n0_0 ca : Nat) (hn0_0:n0_0 = p0.fB.length) (hr0_0:Rd W Aa n0_0 ca (ap TBay_cells p0.fB)) (Ab:Option Addr) (n0_1 cb : Nat) (hn0_1:n0_1 = p0.fR.length) (hr0_1:Rd W Ab n0_1 cb (ap TOrder_cells p0.fR)) (Ac:Option Addr) (n1_0 cc : Nat) (hn1_0:n1_0 = p1.fG.length) (hr1_0:Rd W Ac n1_0 cc (ap cI p1.fG)) (A1_2:Option Addr) (n1_2 c1_2 : Nat) (hn1_2:n1_2 = p1.fPrices.length) (hr1_2:Rd W A1_2 n1_2 c1_2 (ap cI p1.fPrices)) :
  Calls Tryz.prog 58 [.agg #[.slice Aa n0_0 ca,.slice Ab n0_1 cb],.agg #[.slice Ac n1_0 cc,vI p1.fW,.slice A1_2 n1_2 c1_2],.agg #[vI p2.fID,vI p2.fH.fLo,vI p2.fH.fHi,vI p2.fD,vI p2.fW]].toArray W fun e W2 => ∃ x : ((Option Addr × Nat × Nat) × (Option Addr × Nat × Nat)),(x.1.2.1 = res.1.fG.length ∧ x.2.2.1 = res.1.fPrices.length) ∧ e = .returned (.tuple #[.agg #[.slice x.1.1 x.1.2.1 x.1.2.2,vI res.1.fW,.slice x.2.1 x.2.2.1 x.2.2.2],vI res.2]) ∧ Ext W W2 [aJ x.1.1 x.1.2.2 3 1 x.1.2.1 (ap cI res.1.fG),aJ x.2.1 x.2.2.2 3 1 x.2.2.1 (ap cI res.1.fPrices)]:=by
 subst hn0_0
 subst hn0_1
 subst hn1_0
 subst hn1_2
 unfold gd at h
 refine ab (m:=100) Tryz.func58 rfl rfl (nB rfl) (cS (cR ?_))
 refine aO [.slice Aa p0.fB.length ca,.slice Ab p0.fR.length cb] rfl rfl rfl (fun b1 => ?_)
 refine aO [.slice Ac p1.fG.length cc,vI p1.fW,.slice A1_2 p1.fPrices.length c1_2] rfl rfl rfl (fun b2 => ?_)
 refine aO [vI p2.fID,vI p2.fH.fLo,vI p2.fH.fHi,vI p2.fD,vI p2.fW] rfl rfl rfl (fun b3 => ?_)
 refine ay mf rfl (fun b4 => ?_)
 refine oY rfl (yAI rfl) (oN (eT (cS (cS (cR (oY rfl (yN 0 [.slice Aa p0.fB.length ca,.slice Ab p0.fR.length cb] bO rfl rfl rfl) ?_))))))
 obtain ⟨y5,hy6,h⟩:=bOs h
 refine oY rfl (yC [.agg #[.slice Aa p0.fB.length ca,.slice Ab p0.fR.length cb]] qk rfl (fun W2 hW2 => cd p0 y5 hy6 W2 Aa p0.fB.length ca rfl ((RdL.arg hr0_0) W2 hW2) Ab p0.fR.length cb rfl ((RdL.arg hr0_1) W2 hW2)) rfl) (oY rfl (yAI rfl) (oN (eT (cS (cR (oY rfl (yMI rfl) (oY rfl (cQ rfl rfl) (oN (eT ?_)))))))))
 rcases iOs h with ⟨hp7,h⟩ | ⟨hp7,h⟩
 ·refine cT (vB hp7) (cS (cR ?_))
  refine oY rfl (aV [.slice none 0 0,vI 0,.slice none 0 0] [(0,1),(1,1),(2,1)] pj mf (by kernel_rfl)) ?_
  refine oY rfl (yMI rfl) (cv rfl (yS 3 [.slice none 0 0,vI 0,.slice none 0 0] lC rfl (nB rfl) rfl rfl rfl) (oY rfl (yAI rfl) (oN (eT (ak (aa ?_))))))
  obtain rfl:=sI h
  exact bz (.inl rfl) rfl (bv 3 [.slice none 0 0,vI 0,.slice none 0 0] jp rfl rfl rfl) (rVt (v:=vI y5) rfl) (fun W2 hW2 => ⟨((none,0,0),(none,0,0)),⟨rfl,rfl⟩,rfl,((hW2.nilrow 3 1).nilrow 3 1).pickL [4,5] (by decide) rfl⟩)
 ·refine cF (vB hp7) (cK (eT (cS (cS (cR (oY rfl (yN 0 [.slice Aa p0.fB.length ca,.slice Ab p0.fR.length cb] bO rfl rfl rfl) (oY rfl (yN 1 [.slice Ac p1.fG.length cc,vI p1.fW,.slice A1_2 p1.fPrices.length c1_2] jp rfl rfl rfl) ?_)))))))
  obtain ⟨y8,hy9,h⟩:=bOs h
  refine oY rfl (yC [.agg #[.slice Aa p0.fB.length ca,.slice Ab p0.fR.length cb],.agg #[.slice Ac p1.fG.length cc,vI p1.fW,.slice A1_2 p1.fPrices.length c1_2]] go_102 rfl (fun W2 hW2 => nG p0 p1 y8 hy9 W2 Aa p0.fB.length ca rfl ((RdL.arg hr0_0) W2 hW2) Ab p0.fR.length cb rfl ((RdL.arg hr0_1) W2 hW2) Ac p1.fG.length cc rfl ((RdL.arg hr1_0) W2 hW2) A1_2 p1.fPrices.length c1_2 rfl ((RdL.arg hr1_2) W2 hW2)) rfl) (oY rfl (cj rfl) (oN (eT ?_)))
  rcases iOs h with ⟨hp10,h⟩ | ⟨hp10,h⟩
  ·refine cT (vB hp10) (cS (cR ?_))
   refine oY rfl (aV [.slice none 0 0,vI 0,.slice none 0 0] [(0,1),(1,1),(2,1)] pj mf (by kernel_rfl)) ?_
   refine cv rfl (yS 3 [.slice none 0 0,vI 0,.slice none 0 0] lC rfl (nB rfl) rfl rfl rfl) (oY rfl (yAI rfl) (oN (eT (ak (aa ?_)))))
   obtain rfl:=sI h
   exact bz (.inl rfl) rfl (bv 3 [.slice none 0 0,vI 0,.slice none 0 0] jp rfl rfl rfl) (rVt (v:=vI 4) rfl) (fun W2 hW2 => ⟨((none,0,0),(none,0,0)),⟨rfl,rfl⟩,rfl,((hW2.nilrow 3 1).nilrow 3 1).pickL [4,5] (by decide) rfl⟩)
  ·refine cF (vB hp10) (cK (eT (cS ?_)))
   obtain ⟨y12,hy13,h⟩:=bOs h
   obtain ⟨hg21,h⟩:=gOs h
   refine d6 [[],[0],[],[2],[2,3],[],[5],[2,3,4,5,6],[0,1,2,3,4,5,6,7],[],[0,1,2,3,4,5,6,7,8,9]] [(none,0,[true,true,true,true]),(none,0,[true,true,true,true]),(none,0,[true,true,true,true]),(none,0,[true,true,true,true]),(none,1,[true,true,true,true]),(none,0,[true,true,true,true,false]),(none,1,[true,true,true,true,false]),(some 4,0,[true,true,true,true,true,true]),(none,0,[true,true,true,true,true,true]),(none,1,[true,true,true,true,false,false]),(some 6,0,[true,true,true,true,true,true,true])] [⟨fun _ => .pointer (some ⟨b1,0 + 0,none⟩),fun _ => noR,fun _ => []⟩,⟨fun _ => .slice Aa p0.fB.length ca,fun _ => noR,fun _ => []⟩,⟨fun _ => .pointer (some ⟨b1,0 + 1,none⟩),fun _ => noR,fun _ => []⟩,⟨fun _ => .slice Ab p0.fR.length cb,fun _ => noR,fun _ => []⟩,⟨fun ξ11 => .slice (ξ11 4 0).1 y12.length (ξ11 4 0).2.2.1,fun _ => noR,fun ξ11 => [aJ (ξ11 4 0).1 (ξ11 4 0).2.2.1 65 5 y12.length (ap TOrder_cells y12)]⟩,⟨fun _ => .agg #[vI p2.fID,vI p2.fH.fLo,vI p2.fH.fHi,vI p2.fD,vI p2.fW],fun _ => noR,fun _ => []⟩,⟨fun ξ11 => .slice (some ⟨(ξ11 6 0).2.1,0,none⟩) 1 1,fun _ => noR,fun ξ11 => [aJ (some ⟨(ξ11 6 0).2.1,0,none⟩) 1 65 5 1 (ap TOrder_cells [p2])]⟩,⟨fun ξ11 => .slice (ξ11 7 0).1 (y12.length + 1) (ξ11 7 0).2.2.1,fun ξ11 => aJ (ξ11 7 0).1 (ξ11 7 0).2.2.1 65 5 (y12.length + 1) (ap TOrder_cells (y12 ++ [p2])),fun _ => []⟩,⟨fun ξ11 => .agg #[.slice Aa p0.fB.length ca,.slice (ξ11 7 0).1 (y12.length + 1) (ξ11 7 0).2.2.1],fun _ => noR,fun _ => []⟩,⟨fun ξ11 => .pointer (some ⟨(ξ11 9 0).2.1,0,none⟩),fun _ => noR,fun ξ11 => [ac (ξ11 9 0).2.1 53 [.slice none 0 0,.slice none 0 0]]⟩,⟨fun _ => undef,fun ξ11 => ac (ξ11 9 0).2.1 53 [.slice Aa p0.fB.length ca,.slice (ξ11 7 0).1 (y12.length + 1) (ξ11 7 0).2.2.1],fun _ => []⟩] 4 dD (by kernel_rfl) (by kernel_rfl) ⟨⟨fun ξ11 ξ11' h => ⟨rfl,rfl,rfl⟩,fun _ => rfl⟩,⟨fun ξ11 ξ11' h => ⟨rfl,rfl,rfl⟩,fun _ => rfl⟩,⟨fun ξ11 ξ11' h => ⟨rfl,rfl,rfl⟩,fun _ => rfl⟩,⟨fun ξ11 ξ11' h => ⟨rfl,rfl,rfl⟩,fun _ => rfl⟩,⟨fun ξ11 ξ11' h => ⟨by simp only [h 4 (.inl rfl)],rfl,by simp only [h 4 (.inl rfl)]⟩,fun _ => rfl⟩,⟨fun ξ11 ξ11' h => ⟨rfl,rfl,rfl⟩,fun _ => rfl⟩,⟨fun ξ11 ξ11' h => ⟨by simp only [h 6 (.inl rfl)],rfl,by simp only [h 6 (.inl rfl)]⟩,fun _ => rfl⟩,⟨fun ξ11 ξ11' h => ⟨by simp only [h 7 (.inl rfl)],by simp only [h 7 (.inl rfl)],rfl⟩,fun _ => rfl⟩,⟨fun ξ11 ξ11' h => ⟨by simp only [h 7 (.inr rfl)],rfl,rfl⟩,fun _ => rfl⟩,⟨fun ξ11 ξ11' h => ⟨by simp only [h 9 (.inl rfl)],rfl,by simp only [h 9 (.inl rfl)]⟩,fun _ => rfl⟩,⟨fun ξ11 ξ11' h => ⟨rfl,by simp only [h 7 (.inr rfl),h 9 (.inr rfl)],rfl⟩,fun _ => rfl⟩,trivial⟩ rfl (fun ξ11 => ?_)
   refine bX rfl (fun L2 => ?_) ?_
   ·dsimp only [aA,lca,lna]
    refine oY rfl (yFA cq rfl) (oN ?_)
    exact ao (fun _ => (none,0,0,[],noR)) rfl (List.append_nil _)
   dsimp only [bB,lsz,lss,lna,lca,List.append_nil]
   refine bX rfl (fun L2 => ?_) ?_
   ·dsimp only [aA,lca,lna]
    refine oY rfl (yL 0 gz rfl rfl rfl) (oN ?_)
    exact ao (fun _ => (none,0,0,[],noR)) rfl (List.append_nil _)
   dsimp only [bB,lsz,lss,lna,lca,List.append_nil]
   refine bX rfl (fun L2 => ?_) ?_
   ·dsimp only [aA,lca,lna]
    refine oY rfl (yFA bq rfl) (oN ?_)
    exact ao (fun _ => (none,0,0,[],noR)) rfl (List.append_nil _)
   dsimp only [bB,lsz,lss,lna,lca,List.append_nil]
   refine bX rfl (fun L2 => ?_) ?_
   ·dsimp only [aA,lca,lna]
    refine oY rfl (yL 0 dT rfl rfl rfl) (oN ?_)
    exact ao (fun _ => (none,0,0,[],noR)) rfl (List.append_nil _)
   dsimp only [bB,lsz,lss,lna,lca,List.append_nil]
   refine bX rfl (fun L2 => ?_) ?_
   ·dsimp only [aA,lca,lna]
    refine oC [.slice Ab p0.fR.length cb] _ _ _ rfl go_115 rfl (fun W2 hW2 => d7 p0.fR y12 hy13 W2 Ab p0.fR.length cb rfl ((RdL.arg hr0_1) W2 hW2)) ?_
    rintro ⟨A14,n16,c15⟩ hn17
    replace hn17 : n16 = y12.length:=hn17; subst hn17
    refine oN ?_
    exact ao (fun _ => (A14,0,c15,[],noR)) rfl rfl
   dsimp only [bB,lsz,lss,lna,lca,List.append_nil]
   refine bX rfl (fun L2 => ?_) ?_
   ·dsimp only [aA,lca,lna]
    refine oY rfl (yN 2 [vI p2.fID,vI p2.fH.fLo,vI p2.fH.fHi,vI p2.fD,vI p2.fW] jl rfl rfl rfl) (oN ?_)
    exact ao (fun _ => (none,0,0,[],noR)) rfl (List.append_nil _)
   dsimp only [bB,lsz,lss,lna,lca,List.append_nil]
   refine bX rfl (fun L2 => ?_) ?_
   ·dsimp only [aA,lca,lna]
    refine aH 1 (ap TOrder_cells [p2]) _ mc_65_1 fI jN oo (by decide) (by decide) (by kernel_rfl) (eL ae rfl) rfl (fun b18 => ?_)
    refine oN ?_
    exact ao (fun _ => (none,b18,0,[],noR)) rfl rfl
   dsimp only [bB,lsz,lss,lna,lca,List.append_nil]
   refine bX rfl (fun L2 => ?_) ?_
   ·dsimp only [aA,lca,lna]
    refine bU 4 fI jN oo rfl rfl rfl (RdL.row 5 rfl) (eL ae rfl) (cW eO _) (dk hg21 (by decide)) rfl (fun A19 c20 => ?_)
    refine oN ?_
    first | exact ao (fun _ => (A19,0,c20,[],noR)) rfl rfl | exact ao (fun _ => (A19,0,c20,[],noR)) rfl (List.append_nil _)
   dsimp only [bB,lsz,lss,lna,lca,List.append_nil]
   refine bX rfl (fun L2 => ?_) ?_
   ·dsimp only [aA,lca,lna]
    refine oY rfl (aV [.slice Aa p0.fB.length ca,.slice (ξ11 7 0).1 (y12.length + 1) (ξ11 7 0).2.2.1] [(0,1),(1,1)] pr nA (by kernel_rfl)) ?_
    refine oN ?_
    exact ao (fun _ => (none,0,0,[],noR)) rfl (List.append_nil _)
   dsimp only [bB,lsz,lss,lna,lca,List.append_nil]
   refine bX rfl (fun L2 => ?_) ?_
   ·dsimp only [aA,lca,lna]
    refine ay nA rfl (fun b22 => ?_)
    refine oN ?_
    exact ao (fun _ => (none,b22,0,[],noR)) rfl rfl
   dsimp only [bB,lsz,lss,lna,lca,List.append_nil]
   refine rm rfl (fun L2 => ?_) ?_
   ·dsimp only [aA,lca,lna]
    refine cv rfl (yS 6 [.slice Aa p0.fB.length ca,.slice (ξ11 7 0).1 (y12.length + 1) (ξ11 7 0).2.2.1] rk rfl (nB rfl) rfl rfl rfl) (oN ?_)
    first | exact bE (fun _ => (none,0,0,[],noR)) rfl | exact bE (fun _ => (none,0,0,[],noR)) (List.append_nil _)
   dsimp only [bB,lsz,lss,lna,lca,List.append_nil]
   refine jO (eT (cS (cS (cR ?_))))
   try dsimp only [lna,lca,lsz,lss]
   refine oY rfl (yN 6 [.slice Aa p0.fB.length ca,.slice (ξ11 7 0).1 (y12.length + 1) (ξ11 7 0).2.2.1] bO rfl rfl rfl) ?_
   obtain ⟨y23,hy24,h⟩:=bOs h
   refine oY rfl (yC [.agg #[.slice Aa p0.fB.length ca,.slice (ξ11 7 0).1 (y12.length + 1) (ξ11 7 0).2.2.1]] qk rfl (fun W2 hW2 => cd (TY.mk p0.fB (y12 ++ [p2])) y23 hy24 W2 Aa p0.fB.length ca rfl ((RdL.arg hr0_0) W2 hW2) (ξ11 7 0).1 (y12.length + 1) (ξ11 7 0).2.2.1 (eZ rfl rfl) ((RdL.row 4 rfl) W2 hW2)) rfl) (oY rfl (yAI rfl) (oN (eT (cS (cR (oY rfl (yMI rfl) (oY rfl (cQ rfl rfl) (oN (eT ?_)))))))))
   rcases iOs h with ⟨hp25,h⟩ | ⟨hp25,h⟩
   ·refine cT (vB hp25) (cS (cR ?_))
    refine oY rfl (aV [.slice none 0 0,vI 0,.slice none 0 0] [(0,1),(1,1),(2,1)] pj mf (by kernel_rfl)) ?_
    refine oY rfl (yMI rfl) (cv rfl (yS 3 [.slice none 0 0,vI 0,.slice none 0 0] lC rfl (nB rfl) rfl rfl rfl) (oY rfl (yAI rfl) (oN (eT (ak (aa ?_))))))
    obtain rfl:=sI h
    exact bz (.inl rfl) rfl (bv 3 [.slice none 0 0,vI 0,.slice none 0 0] jp rfl rfl rfl) (rVt (v:=vI y23) rfl) (fun W2 hW2 => ⟨((none,0,0),(none,0,0)),⟨rfl,rfl⟩,rfl,((hW2.nilrow 3 1).nilrow 3 1).pickL [7,8] (by decide) rfl⟩)
   ·refine cF (vB hp25) (cK (eT (cS (cR (oY rfl (yFA bq rfl) (oY rfl (yL 0 dT rfl rfl rfl) (oY rfl (bi (us:=[]) fI rfl) (oY rfl (yAI rfl) (oN (eT (cS (cR (oY rfl (cg [.pointer (some ⟨b2,0,none⟩),.pointer (some ⟨b1,0,none⟩)] rfl rfl) (oY rfl (dI rfl) (oN (eT (cS (cS (cR (oY rfl (bZ rfl) ?_))))))))))))))))))))
    obtain ⟨y26,hy27,h⟩:=bOs h
    refine m9 (caps:=[.pointer (some ⟨b2,0,none⟩),.pointer (some ⟨b1,0,none⟩)]) [vI (-1)] _ _ rfl rU rfl rfl (fun W2 hW2 => hU (-1) p1 p0 y26 hy27 W2 b2 Ac p1.fG.length cc rfl ((RdL.arg hr1_0) W2 hW2) A1_2 p1.fPrices.length c1_2 rfl ((RdL.arg hr1_2) W2 hW2) ((RdL.cells 1 rfl) W2 hW2) b1 Aa p0.fB.length ca rfl ((RdL.arg hr0_0) W2 hW2) Ab p0.fR.length cb rfl ((RdL.arg hr0_1) W2 hW2) ((RdL.cells 0 rfl) W2 hW2)) ?_
    rintro b28
    try dsimp only [lna,lca,lsz,lss]
    refine oY rfl (bx rfl) (oN (eT (cS (cR (oY rfl (bh rfl) (oY rfl (yN 6 [.slice Aa p0.fB.length ca,.slice (ξ11 7 0).1 (y12.length + 1) (ξ11 7 0).2.2.1] bO rfl rfl rfl) (oY rfl (yMI rfl) ?_)))))))
    obtain ⟨y29,hy30,h⟩:=bOs h
    refine ei [7] [] [.map (some b28),.agg #[.slice Aa p0.fB.length ca,.slice (ξ11 7 0).1 (y12.length + 1) (ξ11 7 0).2.2.1],vI (p0.fR.length:Int)] [] (fun (_:Unit) => True) (fun _ => .bool y29.1) (fun _ => [mapV Tryz.prog 3 kI cO kI 0 b28 y29.2]) (fun _ => []) (Foc.c1 rfl) (by decide) rfl qv rfl rfl (fun _ => rfl) (fun W2 hW2 => dX y26 (TY.mk p0.fB (y12 ++ [p2])) (p0.fR.length:Int) y29 hy30 W2 _ (cA [ac b1 53 [.slice Aa p0.fB.length ca,.slice Ab p0.fR.length cb],ac b2 71 [.slice Ac p1.fG.length cc,vI p1.fW,.slice A1_2 p1.fPrices.length c1_2],ac b3 65 [vI p2.fID,vI p2.fH.fLo,vI p2.fH.fHi,vI p2.fD,vI p2.fW],ac b4 71 [.slice none 0 0,vI 0,.slice none 0 0],aJ (ξ11 7 0).1 (ξ11 7 0).2.2.1 65 5 (y12.length + 1) (ap TOrder_cells (y12 ++ [p2])),aJ (some ⟨(ξ11 6 0).2.1,0,none⟩) 1 65 5 1 (ap TOrder_cells [p2]),ac (ξ11 9 0).2.1 53 [.slice Aa p0.fB.length ca,.slice (ξ11 7 0).1 (y12.length + 1) (ξ11 7 0).2.2.1],mapV Tryz.prog 3 kI cO kI 0 b28 y26] [7]) b28 Aa p0.fB.length ca rfl (fun W3 hb hR => (RdL.arg hr0_0) W3 (hW2.restL hb hR)) (ξ11 7 0).1 (y12.length + 1) (ξ11 7 0).2.2.1 (eZ rfl rfl) (fun W3 hb hR => (RdL.row 4 rfl) W3 (hW2.restL hb hR)) hW2) ?_
    rintro - -
    try dsimp only [ke,lsz,lss,List.append_nil]
    refine oN (eT ?_)
    rcases iOs h with ⟨hp31,h⟩ | ⟨hp31,h⟩
    ·refine cT (vB hp31) (cS (cR (oY rfl (yN 6 [.slice Aa p0.fB.length ca,.slice (ξ11 7 0).1 (y12.length + 1) (ξ11 7 0).2.2.1] bO rfl rfl rfl) (oY rfl (bh rfl) ?_))))
     obtain ⟨y32,hy33,h⟩:=bOs h
     refine oC [.agg #[.slice Aa p0.fB.length ca,.slice (ξ11 7 0).1 (y12.length + 1) (ξ11 7 0).2.2.1],.map (some b28)] _ _ _ rfl go_99 rfl (fun W2 hW2 => jK (TY.mk p0.fB (y12 ++ [p2])) y29.2 y32 hy33 W2 Aa p0.fB.length ca rfl ((RdL.arg hr0_0) W2 hW2) (ξ11 7 0).1 (y12.length + 1) (ξ11 7 0).2.2.1 (eZ rfl rfl) ((RdL.row 4 rfl) W2 hW2) b28 ((MpL.own 7 rfl) W2 hW2)) ?_
     rintro ⟨⟨A34,n38,c35⟩,⟨A36,n40,c37⟩⟩ ⟨hn39,hn41⟩
     replace hn39 : n38 = y32.fG.length:=hn39; subst hn39
     replace hn41 : n40 = y32.fPrices.length:=hn41; subst hn41
     try dsimp only [lna,lca,lsz,lss]
     refine cv rfl (yS 3 [.slice A34 y32.fG.length c35,vI y32.fW,.slice A36 y32.fPrices.length c37] lC rfl (nB rfl) rfl rfl rfl) (oY rfl (yAI rfl) (oN (eT (ak (aa ?_)))))
     obtain rfl:=sI h
     exact bz (.inl rfl) rfl (bv 3 [.slice A34 y32.fG.length c35,vI y32.fW,.slice A36 y32.fPrices.length c37] jp rfl rfl rfl) (rVt (v:=vI 0) rfl) (fun W2 hW2 => ⟨((A34,y32.fG.length,c35),(A36,y32.fPrices.length,c37)),⟨rfl,rfl⟩,rfl,hW2.pickL [8,9] (by decide) rfl⟩)
    ·refine cF (vB hp31) (cK (eT (cS (cR (oY rfl (bZ rfl) ?_)))))
     obtain ⟨y42,hy43,h⟩:=bOs h
     refine m9 (caps:=[.pointer (some ⟨b2,0,none⟩),.pointer (some ⟨b1,0,none⟩)]) [vI (-1)] _ _ rfl rU rfl rfl (fun W2 hW2 => hU (-1) p1 p0 y42 hy43 W2 b2 Ac p1.fG.length cc rfl ((RdL.arg hr1_0) W2 hW2) A1_2 p1.fPrices.length c1_2 rfl ((RdL.arg hr1_2) W2 hW2) ((RdL.cells 1 rfl) W2 hW2) b1 Aa p0.fB.length ca rfl ((RdL.arg hr0_0) W2 hW2) Ab p0.fR.length cb rfl ((RdL.arg hr0_1) W2 hW2) ((RdL.cells 0 rfl) W2 hW2)) ?_
     rintro b44
     try dsimp only [lna,lca,lsz,lss]
     refine oY rfl (bx rfl) (oN (eT (cS (cR (oY rfl (yFA eX rfl) (oY rfl (yL 2 ba rfl rfl rfl) (oY rfl (yAI rfl) (oN (eT (cS (cS (cR (oY rfl (yFA fm rfl) (oY rfl (yL 1 gA rfl rfl rfl) (oY rfl (bi (us:=[]) cH rfl) (oY rfl (yMI rfl) (oN (eT (cB ?_)))))))))))))))))))
     obtain ⟨u47,hl62,h⟩:=bOs h
     refine bj (fun (s:(Int × Int × (List (Int × Int)))) L tm => ∃ (tm0:Nat → Value) (b8_s:Nat),L = [ac b1 53 [.slice Aa p0.fB.length ca,.slice Ab p0.fR.length cb],ac b2 71 [.slice Ac p1.fG.length cc,vI p1.fW,.slice A1_2 p1.fPrices.length c1_2],ac b3 65 [vI p2.fID,vI p2.fH.fLo,vI p2.fH.fHi,vI p2.fD,vI p2.fW],ac b4 71 [.slice none 0 0,vI 0,.slice none 0 0],aJ (ξ11 7 0).1 (ξ11 7 0).2.2.1 65 5 (y12.length + 1) (ap TOrder_cells (y12 ++ [p2])),aJ (some ⟨(ξ11 6 0).2.1,0,none⟩) 1 65 5 1 (ap TOrder_cells [p2]),ac (ξ11 9 0).2.1 53 [.slice Aa p0.fB.length ca,.slice (ξ11 7 0).1 (y12.length + 1) (ξ11 7 0).2.2.1],mapV Tryz.prog 3 kI cO kI 0 b28 y29.2,mapV Tryz.prog 3 kI cO kI 0 b8_s s.2.2] ∧ tm = (upd (upd (upd (upd (upd (upd (upd (upd (upd (upd (upd tm0 3 (.pointer (some ⟨b1,0,none⟩))) 6 (.pointer (some ⟨b4,0,none⟩))) 7 (vI 0)) 9 (.pointer (some ⟨(ξ11 9 0).2.1,0,none⟩))) 11 (vI (p0.fR.length:Int))) 12 (.func (.func 116) #[] #[.pointer (some ⟨b2,0,none⟩),.pointer (some ⟨b1,0,none⟩)])) 14 (.map (some b8_s))) 15 (vI s.1)) 63 (.slice Ac p1.fG.length cc)) 64 (vI (p1.fG.length:Int))) 65 (vI s.2.1))) 0 hl62 ⟨_,b44,rfl,(kp4 (kp4 (kp (kp (kp rfl)))))⟩ ?_ ?_
     ·rintro s46 L tm st ⟨tm0_s46,b8_s46,rfl,rfl⟩ h
      unfold gN at h
      refine cS (cR (oY rfl (bC rfl rfl) (oN (eT (cS ?_)))))
      rcases iOs h with ⟨hp48,h⟩ | ⟨hp48,h⟩
      ·refine cT (vB hp48) (cK (eT (cS (cB (cS (cR (oY rfl (yMI rfl) ?_)))))))
       obtain ⟨hg49,h⟩:=gOs h
       refine oY rfl (yI cN (by decide) hg49.1 hg49.2 (RdL.arg hr1_0) (eL az rfl) rfl rfl) ?_
       refine oY rfl (yR (A:=Ac) (j:=(Int.toNat s46.2.1 * 1)) (v:=vI (rdL p1.fG s46.2.1)) ba (RdL.arg hr1_0) rfl (aG az hg49.1 (aw hg49.2 rfl) rfl)) (oY rfl (yAI rfl) (oY rfl (yAI rfl) (oN (eT (cS (cS (cR (oY rfl (yMI rfl) (oY rfl (du rfl rfl) (oY rfl (yMB rfl) ?_))))))))))
       obtain ⟨b51,hb52,h⟩:=bOs h
       refine oJ 9 (fun tm0 => (upd (upd (upd (upd (upd (upd (upd (upd (upd (upd (upd (upd (upd (upd (upd tm0 3 (.pointer (some ⟨b1,0,none⟩))) 6 (.pointer (some ⟨b4,0,none⟩))) 7 (vI 0)) 9 (.pointer (some ⟨(ξ11 9 0).2.1,0,none⟩))) 11 (vI (p0.fR.length:Int))) 12 (.func (.func 116) #[] #[.pointer (some ⟨b2,0,none⟩),.pointer (some ⟨b1,0,none⟩)])) 14 (.map (some b8_s46))) 15 (vI s46.1)) 63 (.slice Ac p1.fG.length cc)) 64 (vI (p1.fG.length:Int))) 65 (vI s46.2.1)) 66 (.bool (decide (s46.2.1 < (p1.fG.length:Int))))) 16 (vI s46.2.1)) 17 (vI (rdL p1.fG s46.2.1))) 81 (.bool b51))) (fun tm0 => ?_) (fun key => ?_)
       ·refine oN (eT ?_)
        rcases iOs h with ⟨hp53,h⟩ | ⟨hp53,h⟩
        ·refine cT (vB hp53) (aF (ai (ad (eT (cR (oY rfl (a4 rfl rfl) (oY rfl (yMI rfl) (oN ?_))))))))
         obtain rfl:=sI h
         exact eN ⟨_,b8_s46,rfl,(kp4 (kp4 (kp (kp (kp rfl)))))⟩
        ·refine cF (vB hp53) (cK (eT (cS (cR (oY rfl (bZ rfl) (oY rfl (yMI rfl) ?_))))))
         obtain ⟨y54,hy55,h⟩:=bOs h
         refine m9 (caps:=[.pointer (some ⟨b2,0,none⟩),.pointer (some ⟨b1,0,none⟩)]) [vI s46.2.1] _ _ rfl rU rfl rfl (fun W2 hW2 => hU s46.2.1 p1 p0 y54 hy55 W2 b2 Ac p1.fG.length cc rfl ((RdL.arg hr1_0) W2 hW2) A1_2 p1.fPrices.length c1_2 rfl ((RdL.arg hr1_2) W2 hW2) ((RdL.cells 1 rfl) W2 hW2) b1 Aa p0.fB.length ca rfl ((RdL.arg hr0_0) W2 hW2) Ab p0.fR.length cb rfl ((RdL.arg hr0_1) W2 hW2) ((RdL.cells 0 rfl) W2 hW2)) ?_
         rintro b56
         try dsimp only [lna,lca,lsz,lss]
         refine oY rfl (bx rfl) (oN (eT (cS (cR (oY rfl (bh rfl) (oY rfl (yN 6 [.slice Aa p0.fB.length ca,.slice (ξ11 7 0).1 (y12.length + 1) (ξ11 7 0).2.2.1] bO rfl rfl rfl) (oY rfl (yMI rfl) ?_)))))))
         obtain ⟨y57,hy58,h⟩:=bOs h
         refine ei [9] [] [.map (some b56),.agg #[.slice Aa p0.fB.length ca,.slice (ξ11 7 0).1 (y12.length + 1) (ξ11 7 0).2.2.1],vI (p0.fR.length:Int)] [] (fun (_:Unit) => True) (fun _ => .bool y57.1) (fun _ => [mapV Tryz.prog 3 kI cO kI 0 b56 y57.2]) (fun _ => []) (Foc.c1 rfl) (by decide) rfl qv rfl rfl (fun _ => rfl) (fun W2 hW2 => dX y54 (TY.mk p0.fB (y12 ++ [p2])) (p0.fR.length:Int) y57 hy58 W2 _ (cA [ac b1 53 [.slice Aa p0.fB.length ca,.slice Ab p0.fR.length cb],ac b2 71 [.slice Ac p1.fG.length cc,vI p1.fW,.slice A1_2 p1.fPrices.length c1_2],ac b3 65 [vI p2.fID,vI p2.fH.fLo,vI p2.fH.fHi,vI p2.fD,vI p2.fW],ac b4 71 [.slice none 0 0,vI 0,.slice none 0 0],aJ (ξ11 7 0).1 (ξ11 7 0).2.2.1 65 5 (y12.length + 1) (ap TOrder_cells (y12 ++ [p2])),aJ (some ⟨(ξ11 6 0).2.1,0,none⟩) 1 65 5 1 (ap TOrder_cells [p2]),ac (ξ11 9 0).2.1 53 [.slice Aa p0.fB.length ca,.slice (ξ11 7 0).1 (y12.length + 1) (ξ11 7 0).2.2.1],mapV Tryz.prog 3 kI cO kI 0 b28 y29.2,mapV Tryz.prog 3 kI cO kI 0 b8_s46 s46.2.2,mapV Tryz.prog 3 kI cO kI 0 b56 y54] [9]) b56 Aa p0.fB.length ca rfl (fun W3 hb hR => (RdL.arg hr0_0) W3 (hW2.restL hb hR)) (ξ11 7 0).1 (y12.length + 1) (ξ11 7 0).2.2.1 (eZ rfl rfl) (fun W3 hb hR => (RdL.row 4 rfl) W3 (hW2.restL hb hR)) hW2) ?_
         rintro - -
         try dsimp only [ke,lsz,lss,List.append_nil]
         refine oN (eT ?_)
         rcases iOs h with ⟨hp59,h⟩ | ⟨hp59,h⟩
         ·refine cT (vB hp59) ?_
          refine bM 9 dD (by kernel_rfl) (by kernel_rfl) ?_
          refine qY rfl (bh rfl) (qY rfl (yFA bq rfl) (qY rfl (yL 0 dT rfl rfl rfl) (qY rfl (yMI rfl) ?_)))
          obtain ⟨hg60,h⟩:=gOs h
          refine qY rfl (yI iK (by decide) hg60.1 hg60.2 (RdL.arg hr0_1) (eL ae rfl) rfl rfl) ?_
          refine qY rfl (yFR (A:=Ab) (j:=(Int.toNat s46.2.1 * 5)) eX rfl) (qY rfl (yR (A:=Ab) (j:=((Int.toNat s46.2.1 * 5) + 4)) (v:=vI ((rdL p0.fR s46.2.1).fW)) ba (RdL.arg hr0_1) rfl (eG ae hg60.1 (aw hg60.2 rfl) rfl)) (qY rfl (bx rfl) (qY rfl (yAI rfl) (dF (oN (av (eT (cR (oY rfl (a4 rfl rfl) (oY rfl (yMI rfl) (oN ?_)))))))))))
          refine ex_mv 8 9 (by decide) rfl ?_
          try dsimp only [lsz,lss]
          refine aP 9 ?_
          obtain rfl:=sI h
          exact eN ⟨_,b56,rfl,(kp4 (kp4 (kp (kp (kp rfl)))))⟩
         ·refine cF (vB hp59) (cK (av (eT (cR (oY rfl (a4 rfl rfl) (oY rfl (yMI rfl) (oN (aP 9 ?_))))))))
          obtain rfl:=sI h
          exact eN ⟨_,b8_s46,rfl,(kp4 (kp4 (kp (kp (kp rfl)))))⟩
       ·clear h; rcases iOs hb52 with ⟨hp50,h⟩ | ⟨hp50,h⟩
        ·refine oSk (sF rfl rfl rfl rfl hp50) (oSk (sF rfl rfl rfl rfl hp50) (oSk (sF rfl rfl rfl rfl hp50) (oSk (sF rfl rfl rfl rfl hp50) (oSk (sF rfl rfl rfl rfl hp50) (oSk (sF rfl rfl rfl rfl hp50) (oSk (sF rfl rfl rfl rfl hp50) (oSk (sF rfl rfl rfl rfl hp50) (oY rfl (ag (vB hp50) rfl) ?_))))))))
         obtain rfl:=sI h
         exact key _ _ (kp4 (kp4 (kp4 (kp (kp (kp rfl))))))
        ·refine oY (sT rfl rfl rfl rfl hp50) (yFA bq rfl) (oY (sT rfl rfl rfl rfl hp50) (yL 0 dT rfl rfl rfl) (oY (sT rfl rfl rfl rfl hp50) (yMI rfl) ?_))
         obtain ⟨hg61,h⟩:=gOs h
         refine oY (sT rfl rfl rfl rfl hp50) (yI iK (by decide) hg61.1 hg61.2 (RdL.arg hr0_1) (eL ae rfl) rfl rfl) ?_
         refine oY (sT rfl rfl rfl rfl hp50) (yFR (A:=Ab) (j:=(Int.toNat s46.2.1 * 5)) eX rfl) (oY (sT rfl rfl rfl rfl hp50) (yR (A:=Ab) (j:=((Int.toNat s46.2.1 * 5) + 4)) (v:=vI ((rdL p0.fR s46.2.1).fW)) ba (RdL.arg hr0_1) rfl (eG ae hg61.1 (aw hg61.2 rfl) rfl)) (oY (sT rfl rfl rfl rfl hp50) (yMI rfl) (oY (sT rfl rfl rfl rfl hp50) (od rfl rfl) (oY rfl (ah (vB hp50) rfl) ?_))))
         obtain rfl:=sI h
         exact key _ _ (kp4 (kp4 (kp4 (kp (kp (kp rfl))))))
      ·refine cF (vB hp48) (aF (ai ?_))
       obtain rfl:=sI h
       exact ax ⟨rfl,_,b8_s46,rfl,(kp4 (kp4 (kp (kp (kp rfl)))))⟩
     ·intro e L tm hJ
      obtain ⟨rfl,tm0_u47,b8_u47,rfl,rfl⟩:=hJ
      refine ⟨(by intro hc; cases hc),?_⟩
      refine ad (eT (cS (cR (oY rfl (yN 6 [.slice Aa p0.fB.length ca,.slice (ξ11 7 0).1 (y12.length + 1) (ξ11 7 0).2.2.1] bO rfl rfl rfl) (oY rfl (bh rfl) ?_)))))
      obtain ⟨y63,hy64,h⟩:=bOs h
      refine oC [.agg #[.slice Aa p0.fB.length ca,.slice (ξ11 7 0).1 (y12.length + 1) (ξ11 7 0).2.2.1],.map (some b8_u47)] _ _ _ rfl go_99 rfl (fun W2 hW2 => jK (TY.mk p0.fB (y12 ++ [p2])) u47.2.2 y63 hy64 W2 Aa p0.fB.length ca rfl ((RdL.arg hr0_0) W2 hW2) (ξ11 7 0).1 (y12.length + 1) (ξ11 7 0).2.2.1 (eZ rfl rfl) ((RdL.row 4 rfl) W2 hW2) b8_u47 ((MpL.own 8 rfl) W2 hW2)) ?_
      rintro ⟨⟨A65,n69,c66⟩,⟨A67,n71,c68⟩⟩ ⟨hn70,hn72⟩
      replace hn70 : n69 = y63.fG.length:=hn70; subst hn70
      replace hn72 : n71 = y63.fPrices.length:=hn72; subst hn72
      try dsimp only [lna,lca,lsz,lss]
      refine cv rfl (yS 3 [.slice A65 y63.fG.length c66,vI y63.fW,.slice A67 y63.fPrices.length c68] lC rfl (nB rfl) rfl rfl rfl) (oY rfl (yAI rfl) (oN (eT (ak ?_))))
      obtain rfl:=sI h
      exact bz (.inl rfl) rfl (bv 3 [.slice A65 y63.fG.length c66,vI y63.fW,.slice A67 y63.fPrices.length c68] jp rfl rfl rfl) (rVt (v:=vI 0) rfl) (fun W2 hW2 => ⟨((A65,y63.fG.length,c66),(A67,y63.fPrices.length,c68)),⟨rfl,rfl⟩,rfl,hW2.pickL [9,10] (by decide) rfl⟩)
theorem kV (p0:TY) (p1:TO) (res:TY) (h:gX p0 p1 = some res) (W:World) (Aa:Option Addr) (n0_0 ca : Nat) (hn0_0:n0_0 = p0.fB.length) (hr0_0:Rd W Aa n0_0 ca (ap TBay_cells p0.fB)) (Ab:Option Addr) (n0_1 cb : Nat) (hn0_1:n0_1 = p0.fR.length) (hr0_1:Rd W Ab n0_1 cb (ap TOrder_cells p0.fR)) :
  Calls Tryz.prog 118 [.agg #[.slice Aa n0_0 ca,.slice Ab n0_1 cb],.agg #[vI p1.fID,vI p1.fH.fLo,vI p1.fH.fHi,vI p1.fD,vI p1.fW]].toArray W fun e W2 => ∃ x : (Option Addr × Nat × Nat),x.2.1 = res.fR.length ∧ e = .returned (.agg #[.slice Aa n0_0 ca,.slice x.1 x.2.1 x.2.2]) ∧ Ext W W2 [aJ x.1 x.2.2 65 5 x.2.1 (ap TOrder_cells res.fR)]:=by
 subst hn0_0
 subst hn0_1
 unfold gX at h
 refine ab (m:=15) Tryz.func118 rfl rfl (nB rfl) (cS (cR ?_))
 refine aO [.slice Aa p0.fB.length ca,.slice Ab p0.fR.length cb] rfl rfl rfl (fun b1 => ?_)
 refine aO [vI p1.fID,vI p1.fH.fLo,vI p1.fH.fHi,vI p1.fD,vI p1.fW] rfl rfl rfl (fun b2 => ?_)
 refine ay nA rfl (fun b3 => ?_)
 refine oN (eT (cS ?_))
 obtain ⟨hg8,h⟩:=gOs h
 obtain ⟨hg12,h⟩:=gOs h
 refine d6 [[],[0],[],[],[3],[2,3,4],[],[6],[2,3,4,5,6,7],[0,1,2,3,4,5,6,7,8],[0,1,2,3,4,5,6,7,8,9]] [(none,0,[true,true,true]),(none,0,[true,true,true]),(none,1,[true,true,true]),(none,0,[true,true,true,false]),(none,0,[true,true,true,false]),(some 3,0,[true,true,true,true]),(none,0,[true,true,true,false]),(none,1,[true,true,true,false]),(some 3,0,[true,true,true,true,true]),(none,0,[true,true,true,true,true]),(some 2,0,[true,true,true,true,true])] [⟨fun _ => .pointer (some ⟨b1,0 + 0,none⟩),fun _ => noR,fun _ => []⟩,⟨fun _ => .slice Aa p0.fB.length ca,fun _ => noR,fun _ => []⟩,⟨fun ξ4 => .slice (some ⟨(ξ4 2 0).2.1,0,none⟩) 0 0,fun _ => noR,fun ξ4 => [aJ (some ⟨(ξ4 2 0).2.1,0,none⟩) 0 65 5 0 (ap TOrder_cells ([]:List TO))]⟩,⟨fun _ => .pointer (some ⟨b1,0 + 1,none⟩),fun _ => noR,fun _ => []⟩,⟨fun _ => .slice Ab p0.fR.length cb,fun _ => noR,fun _ => []⟩,⟨fun ξ4 => .slice (ξ4 5 0).1 (0 + p0.fR.length) (ξ4 5 0).2.2.1,fun ξ4 => aJ (ξ4 5 0).1 (ξ4 5 0).2.2.1 65 5 (0 + p0.fR.length) (ap TOrder_cells (([]:List TO) ++ p0.fR)),fun _ => []⟩,⟨fun _ => .agg #[vI p1.fID,vI p1.fH.fLo,vI p1.fH.fHi,vI p1.fD,vI p1.fW],fun _ => noR,fun _ => []⟩,⟨fun ξ4 => .slice (some ⟨(ξ4 7 0).2.1,0,none⟩) 1 1,fun _ => noR,fun ξ4 => [aJ (some ⟨(ξ4 7 0).2.1,0,none⟩) 1 65 5 1 (ap TOrder_cells [p1])]⟩,⟨fun ξ4 => .slice (ξ4 8 0).1 ((0 + p0.fR.length) + 1) (ξ4 8 0).2.2.1,fun ξ4 => aJ (ξ4 8 0).1 (ξ4 8 0).2.2.1 65 5 ((0 + p0.fR.length) + 1) (ap TOrder_cells ((([]:List TO) ++ p0.fR) ++ [p1])),fun _ => []⟩,⟨fun ξ4 => .agg #[.slice Aa p0.fB.length ca,.slice (ξ4 8 0).1 ((0 + p0.fR.length) + 1) (ξ4 8 0).2.2.1],fun _ => noR,fun _ => []⟩,⟨fun _ => undef,fun ξ4 => ac b3 53 [.slice Aa p0.fB.length ca,.slice (ξ4 8 0).1 ((0 + p0.fR.length) + 1) (ξ4 8 0).2.2.1],fun _ => []⟩] 3 dD (by kernel_rfl) (by kernel_rfl) ⟨⟨fun ξ4 ξ4' h => ⟨rfl,rfl,rfl⟩,fun _ => rfl⟩,⟨fun ξ4 ξ4' h => ⟨rfl,rfl,rfl⟩,fun _ => rfl⟩,⟨fun ξ4 ξ4' h => ⟨by simp only [h 2 (.inl rfl)],rfl,by simp only [h 2 (.inl rfl)]⟩,fun _ => rfl⟩,⟨fun ξ4 ξ4' h => ⟨rfl,rfl,rfl⟩,fun _ => rfl⟩,⟨fun ξ4 ξ4' h => ⟨rfl,rfl,rfl⟩,fun _ => rfl⟩,⟨fun ξ4 ξ4' h => ⟨by simp only [h 5 (.inl rfl)],by simp only [h 5 (.inl rfl)],rfl⟩,fun _ => rfl⟩,⟨fun ξ4 ξ4' h => ⟨rfl,rfl,rfl⟩,fun _ => rfl⟩,⟨fun ξ4 ξ4' h => ⟨by simp only [h 7 (.inl rfl)],rfl,by simp only [h 7 (.inl rfl)]⟩,fun _ => rfl⟩,⟨fun ξ4 ξ4' h => ⟨by simp only [h 8 (.inl rfl)],by simp only [h 8 (.inl rfl)],rfl⟩,fun _ => rfl⟩,⟨fun ξ4 ξ4' h => ⟨by simp only [h 8 (.inr rfl)],rfl,rfl⟩,fun _ => rfl⟩,⟨fun ξ4 ξ4' h => ⟨rfl,by simp only [h 8 (.inr rfl)],rfl⟩,fun _ => rfl⟩,trivial⟩ rfl (fun ξ4 => ?_)
 refine bX rfl (fun L2 => ?_) ?_
 ·dsimp only [aA,lca,lna]
  refine oY rfl (yFA cq rfl) (oN ?_)
  exact ao (fun _ => (none,0,0,[],noR)) rfl (List.append_nil _)
 dsimp only [bB,lsz,lss,lna,lca,List.append_nil]
 refine bX rfl (fun L2 => ?_) ?_
 ·dsimp only [aA,lca,lna]
  refine oY rfl (yL 0 gz rfl rfl rfl) (oN ?_)
  exact ao (fun _ => (none,0,0,[],noR)) rfl (List.append_nil _)
 dsimp only [bB,lsz,lss,lna,lca,List.append_nil]
 refine bX rfl (fun L2 => ?_) ?_
 ·dsimp only [aA,lca,lna]
  refine eB TOrder_cells fI jN oo rfl (fun b5 => ?_)
  refine oN ?_
  exact ao (fun _ => (none,b5,0,[],noR)) rfl rfl
 dsimp only [bB,lsz,lss,lna,lca,List.append_nil]
 refine bX rfl (fun L2 => ?_) ?_
 ·dsimp only [aA,lca,lna]
  refine oY rfl (yFA bq rfl) (oN ?_)
  exact ao (fun _ => (none,0,0,[],noR)) rfl (List.append_nil _)
 dsimp only [bB,lsz,lss,lna,lca,List.append_nil]
 refine bX rfl (fun L2 => ?_) ?_
 ·dsimp only [aA,lca,lna]
  refine oY rfl (yL 0 dT rfl rfl rfl) (oN ?_)
  exact ao (fun _ => (none,0,0,[],noR)) rfl (List.append_nil _)
 dsimp only [bB,lsz,lss,lna,lca,List.append_nil]
 refine bX rfl (fun L2 => ?_) ?_
 ·dsimp only [aA,lca,lna]
  refine bU 3 fI jN oo rfl rfl rfl (RdL.arg hr0_1) (eL ae rfl) (cW eO _) (dk hg8 (by decide)) rfl (fun A6 c7 => ?_)
  refine oN ?_
  first | exact ao (fun _ => (A6,0,c7,[],noR)) rfl rfl | exact ao (fun _ => (A6,0,c7,[],noR)) rfl (List.append_nil _)
 dsimp only [bB,lsz,lss,lna,lca,List.append_nil]
 refine bX rfl (fun L2 => ?_) ?_
 ·dsimp only [aA,lca,lna]
  refine oY rfl (yN 1 [vI p1.fID,vI p1.fH.fLo,vI p1.fH.fHi,vI p1.fD,vI p1.fW] jl rfl rfl rfl) (oN ?_)
  exact ao (fun _ => (none,0,0,[],noR)) rfl (List.append_nil _)
 dsimp only [bB,lsz,lss,lna,lca,List.append_nil]
 refine bX rfl (fun L2 => ?_) ?_
 ·dsimp only [aA,lca,lna]
  refine aH 1 (ap TOrder_cells [p1]) _ mc_65_1 fI jN oo (by decide) (by decide) (by kernel_rfl) (eL ae rfl) rfl (fun b9 => ?_)
  refine oN ?_
  exact ao (fun _ => (none,b9,0,[],noR)) rfl rfl
 dsimp only [bB,lsz,lss,lna,lca,List.append_nil]
 refine bX rfl (fun L2 => ?_) ?_
 ·dsimp only [aA,lca,lna]
  refine bU 3 fI jN oo rfl rfl rfl (RdL.row 4 rfl) (eL ae rfl) (cW eO _) (dk hg12 (by decide)) rfl (fun A10 c11 => ?_)
  refine oN ?_
  first | exact ao (fun _ => (A10,0,c11,[],noR)) rfl rfl | exact ao (fun _ => (A10,0,c11,[],noR)) rfl (List.append_nil _)
 dsimp only [bB,lsz,lss,lna,lca,List.append_nil]
 refine bX rfl (fun L2 => ?_) ?_
 ·dsimp only [aA,lca,lna]
  refine oY rfl (aV [.slice Aa p0.fB.length ca,.slice (ξ4 8 0).1 ((0 + p0.fR.length) + 1) (ξ4 8 0).2.2.1] [(0,1),(1,1)] pr nA (by kernel_rfl)) ?_
  refine oN ?_
  exact ao (fun _ => (none,0,0,[],noR)) rfl (List.append_nil _)
 dsimp only [bB,lsz,lss,lna,lca,List.append_nil]
 refine rm rfl (fun L2 => ?_) ?_
 ·dsimp only [aA,lca,lna]
  refine cv rfl (yS 2 [.slice Aa p0.fB.length ca,.slice (ξ4 8 0).1 ((0 + p0.fR.length) + 1) (ξ4 8 0).2.2.1] rk rfl (nB rfl) rfl rfl rfl) (oN ?_)
  first | exact bE (fun _ => (none,0,0,[],noR)) rfl | exact bE (fun _ => (none,0,0,[],noR)) (List.append_nil _)
 dsimp only [bB,lsz,lss,lna,lca,List.append_nil]
 refine jO (eT (ak ?_))
 obtain rfl:=sI h
 exact al (.inl rfl) rfl (bv 2 [.slice Aa p0.fB.length ca,.slice (ξ4 8 0).1 ((0 + p0.fR.length) + 1) (ξ4 8 0).2.2.1] bO rfl rfl rfl) (fun W2 hW2 => ⟨((ξ4 8 0).1,((0 + p0.fR.length) + 1),(ξ4 8 0).2.2.1),(eZ (eZ rfl rfl) rfl),rfl,hW2.pickL [3] (by decide) rfl⟩)
theorem ky (p0:TY) (p1:TPlan) (p2:TO) (res:Int) (h:cr p0 p1 p2 = some res) (W:World) (Aa:Option Addr) (n0_0 ca : Nat) (hn0_0:n0_0 = p0.fB.length) (hr0_0:Rd W Aa n0_0 ca (ap TBay_cells p0.fB)) (Ab:Option Addr) (n0_1 cb : Nat) (hn0_1:n0_1 = p0.fR.length) (hr0_1:Rd W Ab n0_1 cb (ap TOrder_cells p0.fR)) (Ac:Option Addr) (n1_0 cc : Nat) (hn1_0:n1_0 = p1.fG.length) (hr1_0:Rd W Ac n1_0 cc (ap cI p1.fG)) (A1_2:Option Addr) (n1_2 c1_2 : Nat) (hn1_2:n1_2 = p1.fPrices.length) (hr1_2:Rd W A1_2 n1_2 c1_2 (ap cI p1.fPrices)) :
  Calls Tryz.prog 59 [.agg #[.slice Aa n0_0 ca,.slice Ab n0_1 cb],.agg #[.slice Ac n1_0 cc,vI p1.fW,.slice A1_2 n1_2 c1_2],.agg #[vI p2.fID,vI p2.fH.fLo,vI p2.fH.fHi,vI p2.fD,vI p2.fW]].toArray W fun e W2 => e = .returned (vI res) ∧ Ext W W2 []:=by
 subst hn0_0
 subst hn0_1
 subst hn1_0
 subst hn1_2
 unfold cr at h
 refine ab (m:=21) Tryz.func59 rfl rfl (nB rfl) (cS (cR ?_))
 refine aO [.slice Aa p0.fB.length ca,.slice Ab p0.fR.length cb] rfl rfl rfl (fun b1 => ?_)
 refine aO [.slice Ac p1.fG.length cc,vI p1.fW,.slice A1_2 p1.fPrices.length c1_2] rfl rfl rfl (fun b2 => ?_)
 refine aO [vI p2.fID,vI p2.fH.fLo,vI p2.fH.fHi,vI p2.fD,vI p2.fW] rfl rfl rfl (fun b3 => ?_)
 refine oY rfl (yAI rfl) (oN (eT (cS (cR (oY rfl (yN 0 [.slice Aa p0.fB.length ca,.slice Ab p0.fR.length cb] bO rfl rfl rfl) ?_)))))
 obtain ⟨y4,hy5,h⟩:=bOs h
 refine oY rfl (yC [.agg #[.slice Aa p0.fB.length ca,.slice Ab p0.fR.length cb]] go_46 rfl (fun W2 hW2 => fy p0 y4 hy5 W2 Aa p0.fB.length ca rfl ((RdL.arg hr0_0) W2 hW2) Ab p0.fR.length cb rfl ((RdL.arg hr0_1) W2 hW2)) rfl) (oY rfl (yAI rfl) (oN (eT (cS (cS (cR (oY rfl (yMI rfl) (oY rfl (cQ rfl rfl) (oN (eT ?_))))))))))
 rcases iOs h with ⟨hp6,h⟩ | ⟨hp6,h⟩
 ·refine cT (vB hp6) (cS (cR (oY rfl (yMI rfl) (oY rfl (yAI rfl) (oN (eT (ak (aa ?_))))))))
  obtain rfl:=sI h
  exact al (.inl rfl) rfl (rVt (v:=vI y4) rfl) (fun W2 hW2 => ⟨rfl,hW2.none⟩)
 ·refine cF (vB hp6) (cK (eT (cS (cS (cR (oY rfl (yN 0 [.slice Aa p0.fB.length ca,.slice Ab p0.fR.length cb] bO rfl rfl rfl) (oY rfl (yN 1 [.slice Ac p1.fG.length cc,vI p1.fW,.slice A1_2 p1.fPrices.length c1_2] jp rfl rfl rfl) ?_)))))))
  obtain ⟨y7,hy8,h⟩:=bOs h
  refine oY rfl (yC [.agg #[.slice Aa p0.fB.length ca,.slice Ab p0.fR.length cb],.agg #[.slice Ac p1.fG.length cc,vI p1.fW,.slice A1_2 p1.fPrices.length c1_2]] go_44 rfl (fun W2 hW2 => fp p0 p1 y7 hy8 W2 Aa p0.fB.length ca rfl ((RdL.arg hr0_0) W2 hW2) Ab p0.fR.length cb rfl ((RdL.arg hr0_1) W2 hW2) Ac p1.fG.length cc rfl ((RdL.arg hr1_0) W2 hW2) A1_2 p1.fPrices.length c1_2 rfl ((RdL.arg hr1_2) W2 hW2)) rfl) (oY rfl (cQ rfl rfl) (oN (eT ?_)))
  rcases iOs h with ⟨hp9,h⟩ | ⟨hp9,h⟩
  ·refine cT (vB hp9) (cS (cR (oY rfl (yAI rfl) (oN (eT (ak (aa ?_)))))))
   obtain rfl:=sI h
   exact al (.inl rfl) rfl (rVt (v:=vI 4) rfl) (fun W2 hW2 => ⟨rfl,hW2.none⟩)
  ·refine cF (vB hp9) (cK (eT (cS (cR (oY rfl (yN 0 [.slice Aa p0.fB.length ca,.slice Ab p0.fR.length cb] bO rfl rfl rfl) (oY rfl (yN 2 [vI p2.fID,vI p2.fH.fLo,vI p2.fH.fHi,vI p2.fD,vI p2.fW] jl rfl rfl rfl) ?_))))))
   obtain ⟨y10,hy11,h⟩:=bOs h
   refine oC [.agg #[.slice Aa p0.fB.length ca,.slice Ab p0.fR.length cb],.agg #[vI p2.fID,vI p2.fH.fLo,vI p2.fH.fHi,vI p2.fD,vI p2.fW]] _ _ _ rfl go_118 rfl (fun W2 hW2 => kV p0 p2 y10 hy11 W2 Aa p0.fB.length ca rfl ((RdL.arg hr0_0) W2 hW2) Ab p0.fR.length cb rfl ((RdL.arg hr0_1) W2 hW2)) ?_
   rintro ⟨A16,n18,c17⟩ hn19
   replace hn19 : n18 = y10.fR.length:=hn19; subst hn19
   obtain ⟨y20,hy21,h⟩:=bOs h
   refine oY rfl (yC [.agg #[.slice Aa p0.fB.length ca,.slice A16 y10.fR.length c17]] go_46 rfl (fun W2 hW2 => fy (TY.mk p0.fB y10.fR) y20 hy21 W2 Aa p0.fB.length ca rfl ((RdL.arg hr0_0) W2 hW2) A16 y10.fR.length c17 rfl ((RdL.row 3 rfl) W2 hW2)) rfl) (oY rfl (yAI rfl) (oN (eT (ak ?_))))
   obtain rfl:=sI h
   exact al (.inl rfl) rfl (rVt (v:=vI y20) rfl) (fun W2 hW2 => ⟨rfl,hW2.none⟩)
theorem mb (p0:TY) (p1:TPlan) (p2:TO) (p3:TPlan) (res:Bool) (h:dG p0 p1 p2 p3 = some res) (W:World) (Aa:Option Addr) (n0_0 ca : Nat) (hn0_0:n0_0 = p0.fB.length) (hr0_0:Rd W Aa n0_0 ca (ap TBay_cells p0.fB)) (Ab:Option Addr) (n0_1 cb : Nat) (hn0_1:n0_1 = p0.fR.length) (hr0_1:Rd W Ab n0_1 cb (ap TOrder_cells p0.fR)) (Ac:Option Addr) (n1_0 cc : Nat) (hn1_0:n1_0 = p1.fG.length) (hr1_0:Rd W Ac n1_0 cc (ap cI p1.fG)) (A1_2:Option Addr) (n1_2 c1_2 : Nat) (hn1_2:n1_2 = p1.fPrices.length) (hr1_2:Rd W A1_2 n1_2 c1_2 (ap cI p1.fPrices)) (A3_0:Option Addr) (n3_0 c3_0 : Nat) (hn3_0:n3_0 = p3.fG.length) (hr3_0:Rd W A3_0 n3_0 c3_0 (ap cI p3.fG)) (A3_2:Option Addr) (n3_2 c3_2 : Nat) (hn3_2:n3_2 = p3.fPrices.length) (hr3_2:Rd W A3_2 n3_2 c3_2 (ap cI p3.fPrices)) :
  Calls Tryz.prog 60 [.agg #[.slice Aa n0_0 ca,.slice Ab n0_1 cb],.agg #[.slice Ac n1_0 cc,vI p1.fW,.slice A1_2 n1_2 c1_2],.agg #[vI p2.fID,vI p2.fH.fLo,vI p2.fH.fHi,vI p2.fD,vI p2.fW],.agg #[.slice A3_0 n3_0 c3_0,vI p3.fW,.slice A3_2 n3_2 c3_2]].toArray W fun e W2 => e = .returned (.bool res) ∧ Ext W W2 []:=by
 subst hn0_0
 subst hn0_1
 subst hn1_0
 subst hn1_2
 subst hn3_0
 subst hn3_2
 unfold dG at h
 refine ab (m:=56) Tryz.func60 rfl rfl (nB rfl) (cS (cR ?_))
 refine aO [.slice Aa p0.fB.length ca,.slice Ab p0.fR.length cb] rfl rfl rfl (fun b1 => ?_)
 refine aO [.slice Ac p1.fG.length cc,vI p1.fW,.slice A1_2 p1.fPrices.length c1_2] rfl rfl rfl (fun b2 => ?_)
 refine aO [vI p2.fID,vI p2.fH.fLo,vI p2.fH.fHi,vI p2.fD,vI p2.fW] rfl rfl rfl (fun b3 => ?_)
 refine aO [.slice A3_0 p3.fG.length c3_0,vI p3.fW,.slice A3_2 p3.fPrices.length c3_2] rfl rfl rfl (fun b4 => ?_)
 refine oY rfl (yAB rfl) (oN (eT (cS (cS ?_))))
 obtain ⟨y5,hy6,h⟩:=bOs h
 refine pn 2 4 (fun v L1 => ∃ x : (Option Addr × Nat × Nat),x.2.1 = y5.fR.length ∧ v = .agg #[.slice Aa p0.fB.length ca,.slice x.1 x.2.1 x.2.2] ∧ L1 = [aJ x.1 x.2.2 65 5 x.2.1 (ap TOrder_cells y5.fR)]) dD (by kernel_rfl) (by kernel_rfl) (by kernel_rfl) ?_
 refine bx_y rfl (fun _ => yN 0 [.slice Aa p0.fB.length ca,.slice Ab p0.fR.length cb] bO rfl rfl rfl) (bx_y rfl (fun _ => yN 2 [vI p2.fID,vI p2.fH.fLo,vI p2.fH.fHi,vI p2.fD,vI p2.fW] jl rfl rfl rfl) (bx_q rfl (oC [.agg #[.slice Aa p0.fB.length ca,.slice Ab p0.fR.length cb],.agg #[vI p2.fID,vI p2.fH.fLo,vI p2.fH.fHi,vI p2.fD,vI p2.fW]] _ _ _ rfl go_118 rfl (fun W2 hW2 => kV p0 p2 y5 hy6 W2 Aa p0.fB.length ca rfl ((RdL.arg hr0_0) W2 hW2) Ab p0.fR.length cb rfl ((RdL.arg hr0_1) W2 hW2)) (fun x hx => oN (ex_cap ⟨x,hx,rfl,rfl⟩))) (kx_y rfl (fun _ => yN 3 [.slice A3_0 p3.fG.length c3_0,vI p3.fW,.slice A3_2 p3.fPrices.length c3_2] jp rfl rfl rfl) (kx_nil rfl ?_))))
 rintro v L1 ⟨⟨A7,n9,c8⟩,hn10,rfl,rfl⟩
 replace hn10 : n9 = y5.fR.length:=hn10; subst hn10
 obtain ⟨y11,hy12,h⟩:=bOs h
 refine oY rfl (yC [.agg #[.slice Aa p0.fB.length ca,.slice A7 y5.fR.length c8],.agg #[.slice A3_0 p3.fG.length c3_0,vI p3.fW,.slice A3_2 p3.fPrices.length c3_2]] go_44 rfl (fun W2 hW2 => fp (TY.mk p0.fB y5.fR) p3 y11 hy12 W2 Aa p0.fB.length ca rfl ((RdL.arg hr0_0) W2 hW2) A7 y5.fR.length c8 rfl ((RdL.row 4 rfl) W2 hW2) A3_0 p3.fG.length c3_0 rfl ((RdL.arg hr3_0) W2 hW2) A3_2 p3.fPrices.length c3_2 rfl ((RdL.arg hr3_2) W2 hW2)) rfl) (oY rfl (cQ rfl rfl) (oN (mW (eT ?_))))
 rcases iOs h with ⟨hp13,h⟩ | ⟨hp13,h⟩
 ·refine cT (vB hp13) (cS (cR (oY rfl (yAB rfl) (oN (eT (ak (aa ?_)))))))
  obtain rfl:=sI h
  exact al (.inl rfl) rfl (rVt (v:=.bool false) rfl) (fun W2 hW2 => ⟨rfl,hW2.none⟩)
 ·refine cF (vB hp13) (cK (eT (cS (cR (oY rfl (yAI rfl) (oN (eT (cS (cS (cR (oY rfl (yAI rfl) (oN (eT (cB ?_))))))))))))))
  obtain ⟨u16,hl36,h⟩:=bOs h
  refine bS (fun (s:(Bool × Int × Int)) L tm => ∃ (tm0:Nat → Value),L = [ac b1 53 [.slice Aa p0.fB.length ca,.slice Ab p0.fR.length cb],ac b2 71 [.slice Ac p1.fG.length cc,vI p1.fW,.slice A1_2 p1.fPrices.length c1_2],ac b3 65 [vI p2.fID,vI p2.fH.fLo,vI p2.fH.fHi,vI p2.fD,vI p2.fW],ac b4 71 [.slice A3_0 p3.fG.length c3_0,vI p3.fW,.slice A3_2 p3.fPrices.length c3_2],aJ A7 c8 65 5 y5.fR.length (ap TOrder_cells y5.fR)] ∧ tm = (upd (upd (upd (upd (upd (upd tm0 4 (.pointer (some ⟨b1,0,none⟩))) 5 (.pointer (some ⟨b2,0,none⟩))) 7 (.pointer (some ⟨b4,0,none⟩))) 8 (.bool s.1)) 9 (vI s.2.1)) 10 (vI s.2.2))) 0 hl36 ⟨_,rfl,(kp4 (kp (kp rfl)))⟩ ?_ ?_
  ·rintro s15 L tm st ⟨tm0_s15,rfl,rfl⟩ h
   unfold dP at h
   refine cS (cS (cR (oY rfl (yMI rfl) (oY rfl (yFA bq rfl) (oY rfl (yL 0 dT rfl rfl rfl) (oY rfl (bi (us:=[]) fI rfl) (oY rfl (bC rfl rfl) (oN (eT ?_)))))))))
   rcases iOs h with ⟨hp17,h⟩ | ⟨hp17,h⟩
   ·refine cT (vB hp17) (cK (eT (cS (cB (cS (cS (cR (oY rfl (yFA fm rfl) (oY rfl (yL 1 gA rfl rfl rfl) (oY rfl (yMI rfl) ?_))))))))))
    obtain ⟨hg18,h⟩:=gOs h
    refine oY rfl (yI cN (by decide) hg18.1 hg18.2 (RdL.arg hr1_0) (eL az rfl) rfl rfl) ?_
    refine oY rfl (yR (A:=Ac) (j:=(Int.toNat s15.2.2 * 1)) (v:=vI (rdL p1.fG s15.2.2)) ba (RdL.arg hr1_0) rfl (aG az hg18.1 (aw hg18.2 rfl) rfl)) (oY rfl (cQ rfl rfl) (oY rfl (yMB rfl) ?_))
    obtain ⟨b20,hb21,h⟩:=bOs h
    refine oJ 7 (fun tm0 => (upd (upd (upd (upd (upd (upd (upd (upd tm0 4 (.pointer (some ⟨b1,0,none⟩))) 5 (.pointer (some ⟨b2,0,none⟩))) 7 (.pointer (some ⟨b4,0,none⟩))) 8 (.bool s15.1)) 9 (vI s15.2.1)) 10 (vI s15.2.2)) 21 (.bool (decide (s15.2.2 < (p0.fR.length:Int))))) 37 (.bool b20))) (fun tm0 => ?_) (fun key => ?_)
    ·refine oN (eT ?_)
     rcases iOs h with ⟨hp22,h⟩ | ⟨hp22,h⟩
     ·refine cT (vB hp22) (cR (oY rfl (yMI rfl) (oY rfl (a4 rfl rfl) (oY rfl (yAI rfl) (oN (eT (cS (cR (oY rfl (yFA fm rfl) (oY rfl (yL 1 gA rfl rfl rfl) (oY rfl (yMI rfl) ?_)))))))))))
      obtain ⟨hg23,h⟩:=gOs h
      refine oY rfl (yI cN (by decide) hg23.1 hg23.2 (RdL.arg hr1_0) (eL az rfl) rfl rfl) ?_
      refine oY rfl (yR (A:=Ac) (j:=(Int.toNat s15.2.2 * 1)) (v:=vI (rdL p1.fG s15.2.2)) ba (RdL.arg hr1_0) rfl (aG az hg23.1 (aw hg23.2 rfl) rfl)) (oY rfl (du rfl rfl) (oY rfl (yMB rfl) ?_))
      obtain ⟨b25,hb26,h⟩:=bOs h
      refine oJ 7 (fun tm0 => (upd (upd (upd (upd (upd (upd (upd (upd (upd tm0 4 (.pointer (some ⟨b1,0,none⟩))) 5 (.pointer (some ⟨b2,0,none⟩))) 7 (.pointer (some ⟨b4,0,none⟩))) 8 (.bool s15.1)) 9 (vI (w64 (s15.2.1 + 1)))) 10 (vI s15.2.2)) 21 (.bool (decide (s15.2.2 < (p0.fR.length:Int))))) 37 (.bool b20)) 53 (.bool b25))) (fun tm0 => ?_) (fun key => ?_)
      ·refine oN (eT ?_)
       rcases iOs h with ⟨hp27,h⟩ | ⟨hp27,h⟩
       ·refine cT (vB hp27) (cS (cR (oY rfl (yAB rfl) (oN (eT (ak (aj (aa ?_))))))))
        obtain rfl:=sI h
        exact ax ⟨rfl,_,rfl,(kp4 (kp (kp rfl)))⟩
       ·refine cF (vB hp27) (cK (av (eT (cR (oY rfl (yMI rfl) (oY rfl (a4 rfl rfl) (oY rfl (yAI rfl) (oN ?_))))))))
        obtain rfl:=sI h
        exact eN ⟨_,rfl,(kp4 (kp (kp rfl)))⟩
      ·clear h; rcases iOs hb26 with ⟨hp24,h⟩ | ⟨hp24,h⟩
       ·refine oY (sT rfl rfl rfl rfl hp24) (yFA fm rfl) (oY (sT rfl rfl rfl rfl hp24) (yL 3 gA rfl rfl rfl) (oY (sT rfl rfl rfl rfl hp24) (yMI rfl) ?_))
        obtain ⟨hg28,h⟩:=gOs h
        refine oY (sT rfl rfl rfl rfl hp24) (yI cN (by decide) hg28.1 hg28.2 (RdL.arg hr3_0) (eL az rfl) rfl rfl) ?_
        refine oY (sT rfl rfl rfl rfl hp24) (yR (A:=A3_0) (j:=(Int.toNat s15.2.2 * 1)) (v:=vI (rdL p3.fG s15.2.2)) ba (RdL.arg hr3_0) rfl (aG az hg28.1 (aw hg28.2 rfl) rfl)) (oY (sT rfl rfl rfl rfl hp24) (cQ rfl rfl) (oY rfl (ag (vB hp24) rfl) ?_))
        obtain rfl:=sI h
        exact key _ _ (kp4 (kp4 (kp rfl)))
       ·refine oSk (sF rfl rfl rfl rfl hp24) (oSk (sF rfl rfl rfl rfl hp24) (oSk (sF rfl rfl rfl rfl hp24) (oSk (sF rfl rfl rfl rfl hp24) (oSk (sF rfl rfl rfl rfl hp24) (oSk (sF rfl rfl rfl rfl hp24) (oY rfl (ah (vB hp24) rfl) ?_))))))
        obtain rfl:=sI h
        exact key _ _ (kp4 (kp4 (kp rfl)))
     ·refine cF (vB hp22) (cK (eT (cS (cR (oY rfl (yFA fm rfl) (oY rfl (yL 1 gA rfl rfl rfl) (oY rfl (yMI rfl) ?_)))))))
      obtain ⟨hg29,h⟩:=gOs h
      refine oY rfl (yI cN (by decide) hg29.1 hg29.2 (RdL.arg hr1_0) (eL az rfl) rfl rfl) ?_
      refine oY rfl (yR (A:=Ac) (j:=(Int.toNat s15.2.2 * 1)) (v:=vI (rdL p1.fG s15.2.2)) ba (RdL.arg hr1_0) rfl (aG az hg29.1 (aw hg29.2 rfl) rfl)) (oY rfl (du rfl rfl) (oY rfl (yMB rfl) ?_))
      obtain ⟨b31,hb32,h⟩:=bOs h
      refine oJ 7 (fun tm0 => (upd (upd (upd (upd (upd (upd (upd (upd (upd tm0 4 (.pointer (some ⟨b1,0,none⟩))) 5 (.pointer (some ⟨b2,0,none⟩))) 7 (.pointer (some ⟨b4,0,none⟩))) 8 (.bool s15.1)) 9 (vI s15.2.1)) 10 (vI s15.2.2)) 21 (.bool (decide (s15.2.2 < (p0.fR.length:Int))))) 37 (.bool b20)) 53 (.bool b31))) (fun tm0 => ?_) (fun key => ?_)
      ·refine oN (eT ?_)
       rcases iOs h with ⟨hp33,h⟩ | ⟨hp33,h⟩
       ·refine cT (vB hp33) (cS (cR (oY rfl (yAB rfl) (oN (eT (ak (aj (aa ?_))))))))
        obtain rfl:=sI h
        exact ax ⟨rfl,_,rfl,(kp4 (kp (kp rfl)))⟩
       ·refine cF (vB hp33) (cK (av (eT (cR (oY rfl (yMI rfl) (oY rfl (a4 rfl rfl) (oY rfl (yAI rfl) (oN ?_))))))))
        obtain rfl:=sI h
        exact eN ⟨_,rfl,(kp4 (kp (kp rfl)))⟩
      ·clear h; rcases iOs hb32 with ⟨hp30,h⟩ | ⟨hp30,h⟩
       ·refine oY (sT rfl rfl rfl rfl hp30) (yFA fm rfl) (oY (sT rfl rfl rfl rfl hp30) (yL 3 gA rfl rfl rfl) (oY (sT rfl rfl rfl rfl hp30) (yMI rfl) ?_))
        obtain ⟨hg34,h⟩:=gOs h
        refine oY (sT rfl rfl rfl rfl hp30) (yI cN (by decide) hg34.1 hg34.2 (RdL.arg hr3_0) (eL az rfl) rfl rfl) ?_
        refine oY (sT rfl rfl rfl rfl hp30) (yR (A:=A3_0) (j:=(Int.toNat s15.2.2 * 1)) (v:=vI (rdL p3.fG s15.2.2)) ba (RdL.arg hr3_0) rfl (aG az hg34.1 (aw hg34.2 rfl) rfl)) (oY (sT rfl rfl rfl rfl hp30) (cQ rfl rfl) (oY rfl (ag (vB hp30) rfl) ?_))
        obtain rfl:=sI h
        exact key _ _ (kp4 (kp4 (kp rfl)))
       ·refine oSk (sF rfl rfl rfl rfl hp30) (oSk (sF rfl rfl rfl rfl hp30) (oSk (sF rfl rfl rfl rfl hp30) (oSk (sF rfl rfl rfl rfl hp30) (oSk (sF rfl rfl rfl rfl hp30) (oSk (sF rfl rfl rfl rfl hp30) (oY rfl (ah (vB hp30) rfl) ?_))))))
        obtain rfl:=sI h
        exact key _ _ (kp4 (kp4 (kp rfl)))
    ·clear h; rcases iOs hb21 with ⟨hp19,h⟩ | ⟨hp19,h⟩
     ·refine oY (sT rfl rfl rfl rfl hp19) (yFA fm rfl) (oY (sT rfl rfl rfl rfl hp19) (yL 3 gA rfl rfl rfl) (oY (sT rfl rfl rfl rfl hp19) (yMI rfl) ?_))
      obtain ⟨hg35,h⟩:=gOs h
      refine oY (sT rfl rfl rfl rfl hp19) (yI cN (by decide) hg35.1 hg35.2 (RdL.arg hr3_0) (eL az rfl) rfl rfl) ?_
      refine oY (sT rfl rfl rfl rfl hp19) (yR (A:=A3_0) (j:=(Int.toNat s15.2.2 * 1)) (v:=vI (rdL p3.fG s15.2.2)) ba (RdL.arg hr3_0) rfl (aG az hg35.1 (aw hg35.2 rfl) rfl)) (oY (sT rfl rfl rfl rfl hp19) (du rfl rfl) (oY rfl (ag (vB hp19) rfl) ?_))
      obtain rfl:=sI h
      exact key _ _ (kp4 (kp4 rfl))
     ·refine oSk (sF rfl rfl rfl rfl hp19) (oSk (sF rfl rfl rfl rfl hp19) (oSk (sF rfl rfl rfl rfl hp19) (oSk (sF rfl rfl rfl rfl hp19) (oSk (sF rfl rfl rfl rfl hp19) (oSk (sF rfl rfl rfl rfl hp19) (oY rfl (ah (vB hp19) rfl) ?_))))))
      obtain rfl:=sI h
      exact key _ _ (kp4 (kp4 rfl))
   ·refine cF (vB hp17) (aF (ai ?_))
    obtain rfl:=sI h
    exact ax ⟨rfl,_,rfl,(kp4 (kp (kp rfl)))⟩
  ·intro e L tm hJ
   rcases u16 with u37 | u38
   ·dsimp only at h hJ
    obtain ⟨rfl,tm0_u37,rfl,rfl⟩:=hJ
    refine ⟨(by intro hc; cases hc),?_⟩
    refine aj (aa ?_)
    obtain rfl:=sI h
    exact al (.inl rfl) rfl (rVt (v:=.bool u37.1) rfl) (fun W2 hW2 => ⟨rfl,hW2.none⟩)
   ·dsimp only at h hJ
    obtain ⟨rfl,tm0_u38,rfl,rfl⟩:=hJ
    refine ⟨(by intro hc; cases hc),?_⟩
    refine ad (eT (cS (cR (oY rfl (yMI rfl) (oY rfl (kd rfl rfl) (oY rfl (yAB rfl) (oN (eT (ak ?_)))))))))
    obtain rfl:=sI h
    exact al (.inl rfl) rfl (rVt (v:=.bool (decide (u38.2.1 ≤ 1))) rfl) (fun W2 hW2 => ⟨rfl,hW2.none⟩)
theorem calxlaw05_CartLater_ok (p0:TY) (p1:TPlan) (p2:TO) (res:Bool) (h:dH p0 p1 p2 = some res) (W:World) (Aa:Option Addr) (n0_0 ca : Nat) (hn0_0:n0_0 = p0.fB.length) (hr0_0:Rd W Aa n0_0 ca (ap TBay_cells p0.fB)) (Ab:Option Addr) (n0_1 cb : Nat) (hn0_1:n0_1 = p0.fR.length) (hr0_1:Rd W Ab n0_1 cb (ap TOrder_cells p0.fR)) (Ac:Option Addr) (n1_0 cc : Nat) (hn1_0:n1_0 = p1.fG.length) (hr1_0:Rd W Ac n1_0 cc (ap cI p1.fG)) (A1_2:Option Addr) (n1_2 c1_2 : Nat) (hn1_2:n1_2 = p1.fPrices.length) (hr1_2:Rd W A1_2 n1_2 c1_2 (ap cI p1.fPrices)) :
  Calls Tryz.prog 13 [.agg #[.slice Aa n0_0 ca,.slice Ab n0_1 cb],.agg #[.slice Ac n1_0 cc,vI p1.fW,.slice A1_2 n1_2 c1_2],.agg #[vI p2.fID,vI p2.fH.fLo,vI p2.fH.fHi,vI p2.fD,vI p2.fW]].toArray W fun e W2 => e = .returned (.bool res) ∧ Ext W W2 []:=by
 subst hn0_0
 subst hn0_1
 subst hn1_0
 subst hn1_2
 unfold dH at h
 refine ab (m:=74) Tryz.func13 rfl rfl (nB rfl) (cS (cR ?_))
 refine aO [.slice Aa p0.fB.length ca,.slice Ab p0.fR.length cb] rfl rfl rfl (fun b1 => ?_)
 refine aO [.slice Ac p1.fG.length cc,vI p1.fW,.slice A1_2 p1.fPrices.length c1_2] rfl rfl rfl (fun b2 => ?_)
 refine aO [vI p2.fID,vI p2.fH.fLo,vI p2.fH.fHi,vI p2.fD,vI p2.fW] rfl rfl rfl (fun b3 => ?_)
 refine oY rfl (yAB rfl) (oN (eT (cS (cS (cR (oY rfl (yN 0 [.slice Aa p0.fB.length ca,.slice Ab p0.fR.length cb] bO rfl rfl rfl) ?_))))))
 obtain ⟨y4,hy5,h⟩:=bOs h
 refine oY rfl (yC [.agg #[.slice Aa p0.fB.length ca,.slice Ab p0.fR.length cb]] go_26 rfl (fun W2 hW2 => lE p0 y4 hy5 W2 Aa p0.fB.length ca rfl ((RdL.arg hr0_0) W2 hW2) Ab p0.fR.length cb rfl ((RdL.arg hr0_1) W2 hW2)) rfl) (oY rfl (cj rfl) (oY rfl (yMB rfl) ?_))
 refine oJ 5 (fun tm0 => (upd (upd (upd (upd (upd tm0 3 (.pointer (some ⟨b1,0,none⟩))) 4 (.pointer (some ⟨b2,0,none⟩))) 5 (.pointer (some ⟨b3,0,none⟩))) 6 (.bool false)) 20 (.bool ((!y4) || (decide (60 < (p1.fG.length:Int))))))) (fun tm0 => ?_) (fun key => ?_)
 ·refine oY rfl (yMB rfl) ?_
  refine oJ 5 (fun tm0 => (upd (upd (upd (upd (upd tm0 3 (.pointer (some ⟨b1,0,none⟩))) 4 (.pointer (some ⟨b2,0,none⟩))) 5 (.pointer (some ⟨b3,0,none⟩))) 6 (.bool false)) 26 (.bool (((!y4) || (decide (60 < (p1.fG.length:Int)))) || (decide (60 < (p1.fPrices.length:Int))))))) (fun tm0 => ?_) (fun key => ?_)
  ·refine oN (eT ?_)
   rcases iOs h with ⟨hp8,h⟩ | ⟨hp8,h⟩
   ·refine cT (vB hp8) (cS (cR ?_))
    obtain ⟨y9,hy10,h⟩:=bOs h
    refine oY rfl (yC [] go_17 rfl (fun W2 hW2 => ig  y9 hy10 W2 ) rfl) (oY rfl (yAB rfl) (oN (eT (ak (aa ?_)))))
    obtain rfl:=sI h
    exact al (.inl rfl) rfl (rVt (v:=.bool y9) rfl) (fun W2 hW2 => ⟨rfl,hW2.none⟩)
   ·refine cF (vB hp8) (cK (eT (cS (cR (oY rfl (yN 0 [.slice Aa p0.fB.length ca,.slice Ab p0.fR.length cb] bO rfl rfl rfl) ?_)))))
    obtain ⟨y11,hy12,h⟩:=bOs h
    refine oC [.agg #[.slice Aa p0.fB.length ca,.slice Ab p0.fR.length cb]] _ _ _ rfl go_37 rfl (fun W2 hW2 => k8 p0 y11 hy12 W2 Aa p0.fB.length ca rfl ((RdL.arg hr0_0) W2 hW2) Ab p0.fR.length cb rfl ((RdL.arg hr0_1) W2 hW2) W (fun _ => True) (fun W3 hb => ⟨gx hW2.below hb,trivial⟩) ) ?_
    rintro ⟨⟨⟨A17,n19,c18⟩,F21⟩,⟨⟨A23,n25,c24⟩,F27⟩⟩ ⟨hn20,hV22,hn26,hV28⟩
    replace hn20 : n19 = y11.1.fG.length:=hn20; subst hn20
    replace hn26 : n25 = y11.1.fPrices.length:=hn26; subst hn26
    refine oY rfl (aS rfl) (oY rfl (yE rfl rfl) (oY rfl (yE rfl rfl) ?_))
    refine ay mf rfl (fun b29 => ?_)
    try dsimp only [lna,lca,lsz,lss]
    refine cv rfl (yS 5 [.slice A17 y11.1.fG.length c18,vI y11.1.fW,.slice A23 y11.1.fPrices.length c24] lC rfl (nB rfl) rfl rfl rfl) (oY rfl (yAI rfl) (oN (eT (cS (cS (cR (oY rfl (yAI rfl) (oN (eT (cB ?_))))))))))
    obtain ⟨u33,hl59,h⟩:=bOs h
    refine bS (fun (s:(Bool × Int × (List Int) × Int × (List Int))) L tm => ∃ (tm0:Nat → Value) (A1_0_s:Option Addr) (c1_0_s:Nat) (A1_2_s:Option Addr) (c1_2_s:Nat),Pv cI W (fun W4 => (fun _ => True) W4 ∧ Res.holds F21 W4) (A1_0_s,s.2.2.1.length,c1_0_s) s.2.2.1 ∧ Pv cI W (fun W4 => (fun _ => True) W4 ∧ Res.holds F27 W4) (A1_2_s,s.2.2.2.2.length,c1_2_s) s.2.2.2.2 ∧ L = [ac b1 53 [.slice Aa p0.fB.length ca,.slice Ab p0.fR.length cb],ac b2 71 [.slice A1_0_s s.2.2.1.length c1_0_s,vI s.2.2.2.1,.slice A1_2_s s.2.2.2.2.length c1_2_s],ac b3 65 [vI p2.fID,vI p2.fH.fLo,vI p2.fH.fHi,vI p2.fD,vI p2.fW],F21,F27,ac b29 71 [.slice A17 y11.1.fG.length c18,vI y11.1.fW,.slice A23 y11.1.fPrices.length c24]] ∧ tm = (upd (upd (upd (upd (upd (upd tm0 3 (.pointer (some ⟨b1,0,none⟩))) 4 (.pointer (some ⟨b2,0,none⟩))) 5 (.pointer (some ⟨b3,0,none⟩))) 6 (.bool s.1)) 7 (.pointer (some ⟨b29,0,none⟩))) 9 (vI s.2.1))) 0 hl59 ⟨_,Ac,cc,A1_2,c1_2,(Pv.mono (Hb:=(fun _ => True)) (Pv.of_rd hr1_0) (fun _ _ h => h.1)),(Pv.mono (Hb:=(fun _ => True)) (Pv.of_rd hr1_2) (fun _ _ h => h.1)),rfl,(kp4 (kp (kp rfl)))⟩ ?_ ?_
    ·rintro s32 L tm st ⟨tm0_s32,A1_0_s32,c1_0_s32,A1_2_s32,c1_2_s32,hR1_0_s32,hR1_2_s32,rfl,rfl⟩ h
     unfold a8 at h
     refine cS (cS (cR (oY rfl (yMI rfl) (oY rfl (bC rfl rfl) (oN (eT ?_))))))
     rcases iOs h with ⟨hp34,h⟩ | ⟨hp34,h⟩
     ·refine cT (vB hp34) (cK (eT (cS (cB (cS (cR (oY rfl (yN 0 [.slice Aa p0.fB.length ca,.slice Ab p0.fR.length cb] bO rfl rfl rfl) (oY rfl (yN 1 [.slice A1_0_s32 s32.2.2.1.length c1_0_s32,vI s32.2.2.2.1,.slice A1_2_s32 s32.2.2.2.2.length c1_2_s32] jp rfl rfl rfl) (oY rfl (yN 2 [vI p2.fID,vI p2.fH.fLo,vI p2.fH.fHi,vI p2.fD,vI p2.fW] jl rfl rfl rfl) ?_)))))))))
      obtain ⟨y35,hy36,h⟩:=bOs h
      refine oC [.agg #[.slice Aa p0.fB.length ca,.slice Ab p0.fR.length cb],.agg #[.slice A1_0_s32 s32.2.2.1.length c1_0_s32,vI s32.2.2.2.1,.slice A1_2_s32 s32.2.2.2.2.length c1_2_s32],.agg #[vI p2.fID,vI p2.fH.fLo,vI p2.fH.fHi,vI p2.fD,vI p2.fW]] _ _ _ rfl go_58 rfl (fun W2 hW2 => oz p0 (TPlan.mk s32.2.2.1 s32.2.2.2.1 s32.2.2.2.2) p2 y35 hy36 W2 Aa p0.fB.length ca rfl ((RdL.arg hr0_0) W2 hW2) Ab p0.fR.length cb rfl ((RdL.arg hr0_1) W2 hW2) A1_0_s32 s32.2.2.1.length c1_0_s32 rfl ((Pv.rdl hR1_0_s32 (fun W2 hW2 => ⟨hW2.below,trivial,hW2.mem (i:=3) rfl⟩)) W2 hW2) A1_2_s32 s32.2.2.2.2.length c1_2_s32 rfl ((Pv.rdl hR1_2_s32 (fun W2 hW2 => ⟨hW2.below,trivial,hW2.mem (i:=4) rfl⟩)) W2 hW2)) ?_
      rintro ⟨⟨A37,n41,c38⟩,⟨A39,n43,c40⟩⟩ ⟨hn42,hn44⟩
      replace hn42 : n41 = y35.1.fG.length:=hn42; subst hn42
      replace hn44 : n43 = y35.1.fPrices.length:=hn44; subst hn44
      try dsimp only [lna,lca,lsz,lss]
      refine oY rfl (aS rfl) (oY rfl (yE rfl rfl) (oY rfl (yE rfl rfl) ?_))
      refine ay mf rfl (fun b45 => ?_)
      try dsimp only [lna,lca,lsz,lss]
      refine cv rfl (yS 8 [.slice A37 y35.1.fG.length c38,vI y35.1.fW,.slice A39 y35.1.fPrices.length c40] lC rfl (nB rfl) rfl rfl rfl) (oY rfl (yAI rfl) (oN (eT (cS (cS (cR (oY rfl (yMI rfl) (oY rfl (yN 0 [.slice Aa p0.fB.length ca,.slice Ab p0.fR.length cb] bO rfl rfl rfl) (oY rfl (yN 1 [.slice A1_0_s32 s32.2.2.1.length c1_0_s32,vI s32.2.2.2.1,.slice A1_2_s32 s32.2.2.2.2.length c1_2_s32] jp rfl rfl rfl) (oY rfl (yN 2 [vI p2.fID,vI p2.fH.fLo,vI p2.fH.fHi,vI p2.fD,vI p2.fW] jl rfl rfl rfl) ?_))))))))))
      obtain ⟨y46,hy47,h⟩:=bOs h
      refine oY rfl (yC [.agg #[.slice Aa p0.fB.length ca,.slice Ab p0.fR.length cb],.agg #[.slice A1_0_s32 s32.2.2.1.length c1_0_s32,vI s32.2.2.2.1,.slice A1_2_s32 s32.2.2.2.2.length c1_2_s32],.agg #[vI p2.fID,vI p2.fH.fLo,vI p2.fH.fHi,vI p2.fD,vI p2.fW]] go_59 rfl (fun W2 hW2 => ky p0 (TPlan.mk s32.2.2.1 s32.2.2.2.1 s32.2.2.2.2) p2 y46 hy47 W2 Aa p0.fB.length ca rfl ((RdL.arg hr0_0) W2 hW2) Ab p0.fR.length cb rfl ((RdL.arg hr0_1) W2 hW2) A1_0_s32 s32.2.2.1.length c1_0_s32 rfl ((Pv.rdl hR1_0_s32 (fun W2 hW2 => ⟨hW2.below,trivial,hW2.mem (i:=3) rfl⟩)) W2 hW2) A1_2_s32 s32.2.2.2.2.length c1_2_s32 rfl ((Pv.rdl hR1_2_s32 (fun W2 hW2 => ⟨hW2.below,trivial,hW2.mem (i:=4) rfl⟩)) W2 hW2)) rfl) (oY rfl (cQ rfl rfl) (oY rfl (yMB rfl) ?_))
      obtain ⟨b49,hb50,h⟩:=bOs h
      refine oJ 11 (fun tm0 => (upd (upd (upd (upd (upd (upd (upd (upd (upd (upd tm0 3 (.pointer (some ⟨b1,0,none⟩))) 4 (.pointer (some ⟨b2,0,none⟩))) 5 (.pointer (some ⟨b3,0,none⟩))) 6 (.bool s32.1)) 7 (.pointer (some ⟨b29,0,none⟩))) 9 (vI s32.2.1)) 34 (.bool (decide (s32.2.1 < 2)))) 10 (.pointer (some ⟨b45,0,none⟩))) 11 (vI y35.2)) 61 (.bool b49))) (fun tm0 => ?_) (fun key => ?_)
      ·refine oY rfl (yMB rfl) ?_
       refine oJ 9 (fun tm0 => (upd (upd (upd (upd (upd (upd (upd (upd (upd (upd tm0 3 (.pointer (some ⟨b1,0,none⟩))) 4 (.pointer (some ⟨b2,0,none⟩))) 5 (.pointer (some ⟨b3,0,none⟩))) 6 (.bool s32.1)) 7 (.pointer (some ⟨b29,0,none⟩))) 9 (vI s32.2.1)) 34 (.bool (decide (s32.2.1 < 2)))) 10 (.pointer (some ⟨b45,0,none⟩))) 11 (vI y35.2)) 71 (.bool (b49 || ((y35.2 != 0) && (decide (0 < (y35.1.fG.length:Int)))))))) (fun tm0 => ?_) (fun key => ?_)
       ·refine oN (eT ?_)
        rcases iOs h with ⟨hp52,h⟩ | ⟨hp52,h⟩
        ·refine cT (vB hp52) (cS (cR (oY rfl (yAB rfl) (oN (eT (ak (aa (aj (aa (aP 6 ?_))))))))))
         obtain rfl:=sI h
         exact ax ⟨rfl,_,A1_0_s32,c1_0_s32,A1_2_s32,c1_2_s32,hR1_0_s32,hR1_2_s32,rfl,(kp4 (kp (kp rfl)))⟩
        ·refine cF (vB hp52) (cK (eT (cR (oY rfl (yN 5 [.slice A17 y11.1.fG.length c18,vI y11.1.fW,.slice A23 y11.1.fPrices.length c24] jp rfl rfl rfl) (cv rfl (yS 1 [.slice A17 y11.1.fG.length c18,vI y11.1.fW,.slice A23 y11.1.fPrices.length c24] lC rfl (nB rfl) rfl rfl rfl) (oN (av (eT (cR (oY rfl (yMI rfl) (oY rfl (a4 rfl rfl) (oY rfl (yAI rfl) (oN (aP 6 ?_))))))))))))))
         obtain rfl:=sI h
         exact eN ⟨_,A17,c18,A23,c24,hV22,hV28,rfl,(kp4 (kp (kp rfl)))⟩
       ·rcases aq b49 with hp51 | hp51
        ·refine oSk (sF rfl rfl rfl rfl hp51) (oSk (sF rfl rfl rfl rfl hp51) (oSk (sF rfl rfl rfl rfl hp51) (oSk rfl (oSk rfl (oSk rfl (oSk rfl (oSk (sF rfl rfl rfl rfl hp51) (oY rfl (ag (vB hp51) rfl) ?_))))))))
         exact key _ _ (keep (keep (keep (keep (keep (keep (keep (keep (keep (keep rfl rfl) rfl) rfl) rfl) rfl) rfl) rfl) rfl) rfl) (vB (j6 hp51)))
        ·refine oY (sT rfl rfl rfl rfl hp51) (yMI rfl) (oY (sT rfl rfl rfl rfl hp51) (cQ rfl rfl) (oY (sT rfl rfl rfl rfl hp51) (yMB rfl) ?_))
         refine oJ 5 (fun tm0 => (upd (upd (upd (upd (upd (upd (upd (upd (upd (upd (upd tm0 3 (.pointer (some ⟨b1,0,none⟩))) 4 (.pointer (some ⟨b2,0,none⟩))) 5 (.pointer (some ⟨b3,0,none⟩))) 6 (.bool s32.1)) 7 (.pointer (some ⟨b29,0,none⟩))) 9 (vI s32.2.1)) 34 (.bool (decide (s32.2.1 < 2)))) 10 (.pointer (some ⟨b45,0,none⟩))) 11 (vI y35.2)) 62 (.bool b49)) 70 (.bool ((y35.2 != 0) && (decide (0 < (y35.1.fG.length:Int))))))) (fun tm0 => ?_) (fun key => ?_)
         ·refine oY rfl (ah (vB hp51) rfl) ?_
          exact key _ _ (keep (keep (keep (keep (keep (keep (keep (keep (keep (keep rfl rfl) rfl) rfl) rfl) rfl) rfl) rfl) rfl) rfl) (vB (jV hp51)))
         ·rcases aq (y35.2 != 0) with hp53 | hp53
          ·refine oY (sT rfl rfl rfl rfl hp53) (yFA fm rfl) (oY (sT rfl rfl rfl rfl hp53) (yL 8 gA rfl rfl rfl) (oY (sT rfl rfl rfl rfl hp53) (bi (us:=[]) cH rfl) (oY (sT rfl rfl rfl rfl hp53) (iB rfl rfl) (oY (sT rfl rfl rfl rfl hp51) (ag (vB hp53) rfl) ?_))))
           exact key _ _ (keep (keep (keep (keep (keep (keep (keep (keep (keep (keep (keep rfl rfl) rfl) rfl) rfl) rfl) rfl) rfl) rfl) rfl) rfl) (vB (iC hp53)))
          ·refine oSk (sF rfl rfl rfl rfl hp53) (oSk (sF rfl rfl rfl rfl hp53) (oSk (sF rfl rfl rfl rfl hp53) (oSk (sF rfl rfl rfl rfl hp53) (oY (sT rfl rfl rfl rfl hp51) (ah (vB hp53) rfl) ?_))))
           exact key _ _ (keep (keep (keep (keep (keep (keep (keep (keep (keep (keep (keep rfl rfl) rfl) rfl) rfl) rfl) rfl) rfl) rfl) rfl) rfl) (vB (iA hp53)))
      ·clear h; rcases iOs hb50 with ⟨hp48,h⟩ | ⟨hp48,h⟩
       ·refine oSk (sF rfl rfl rfl rfl hp48) (oSk (sF rfl rfl rfl rfl hp48) (oSk (sF rfl rfl rfl rfl hp48) (oSk rfl (oSk rfl (oSk rfl (oSk rfl (oSk rfl (oSk rfl (oSk (sF rfl rfl rfl rfl hp48) (oY rfl (ag (vB hp48) rfl) ?_))))))))))
        obtain rfl:=sI h
        exact key _ _ (kp4 (kp4 (kp (kp rfl))))
       ·refine oY (sT rfl rfl rfl rfl hp48) (yMI rfl) (oY (sT rfl rfl rfl rfl hp48) (du rfl rfl) (oY (sT rfl rfl rfl rfl hp48) (yMB rfl) ?_))
        obtain ⟨b55,hb56,h⟩:=bOs h
        refine oJ 7 (fun tm0 => (upd (upd (upd (upd (upd (upd (upd (upd (upd (upd (upd tm0 3 (.pointer (some ⟨b1,0,none⟩))) 4 (.pointer (some ⟨b2,0,none⟩))) 5 (.pointer (some ⟨b3,0,none⟩))) 6 (.bool s32.1)) 7 (.pointer (some ⟨b29,0,none⟩))) 9 (vI s32.2.1)) 34 (.bool (decide (s32.2.1 < 2)))) 10 (.pointer (some ⟨b45,0,none⟩))) 11 (vI y35.2)) 50 (.bool (y35.2 != y46))) 60 (.bool b55))) (fun tm0 => ?_) (fun key => ?_)
        ·refine oY rfl (ah (vB hp48) rfl) ?_
         obtain rfl:=sI h
         exact key _ _ (kp4 (kp4 (kp (kp rfl))))
        ·clear h; rcases iOs hb56 with ⟨hp54,h⟩ | ⟨hp54,h⟩
         ·refine oY (sT rfl rfl rfl rfl hp54) (yN 0 [.slice Aa p0.fB.length ca,.slice Ab p0.fR.length cb] bO rfl rfl rfl) (oY (sT rfl rfl rfl rfl hp54) (yN 1 [.slice A1_0_s32 s32.2.2.1.length c1_0_s32,vI s32.2.2.2.1,.slice A1_2_s32 s32.2.2.2.2.length c1_2_s32] jp rfl rfl rfl) (oY (sT rfl rfl rfl rfl hp54) (yN 2 [vI p2.fID,vI p2.fH.fLo,vI p2.fH.fHi,vI p2.fD,vI p2.fW] jl rfl rfl rfl) (oY (sT rfl rfl rfl rfl hp54) (yN 8 [.slice A37 y35.1.fG.length c38,vI y35.1.fW,.slice A39 y35.1.fPrices.length c40] jp rfl rfl rfl) ?_)))
          obtain ⟨y57,hy58,h⟩:=bOs h
          refine oY (sT rfl rfl rfl rfl hp54) (yC [.agg #[.slice Aa p0.fB.length ca,.slice Ab p0.fR.length cb],.agg #[.slice A1_0_s32 s32.2.2.1.length c1_0_s32,vI s32.2.2.2.1,.slice A1_2_s32 s32.2.2.2.2.length c1_2_s32],.agg #[vI p2.fID,vI p2.fH.fLo,vI p2.fH.fHi,vI p2.fD,vI p2.fW],.agg #[.slice A37 y35.1.fG.length c38,vI y35.1.fW,.slice A39 y35.1.fPrices.length c40]] go_60 rfl (fun W2 hW2 => mb p0 (TPlan.mk s32.2.2.1 s32.2.2.2.1 s32.2.2.2.2) p2 y35.1 y57 hy58 W2 Aa p0.fB.length ca rfl ((RdL.arg hr0_0) W2 hW2) Ab p0.fR.length cb rfl ((RdL.arg hr0_1) W2 hW2) A1_0_s32 s32.2.2.1.length c1_0_s32 rfl ((Pv.rdl hR1_0_s32 (fun W2 hW2 => ⟨hW2.below,trivial,hW2.mem (i:=3) rfl⟩)) W2 hW2) A1_2_s32 s32.2.2.2.2.length c1_2_s32 rfl ((Pv.rdl hR1_2_s32 (fun W2 hW2 => ⟨hW2.below,trivial,hW2.mem (i:=4) rfl⟩)) W2 hW2) A37 y35.1.fG.length c38 rfl ((RdL.row 6 rfl) W2 hW2) A39 y35.1.fPrices.length c40 rfl ((RdL.row 7 rfl) W2 hW2)) rfl) (oY (sT rfl rfl rfl rfl hp54) (cj rfl) (oY (sT rfl rfl rfl rfl hp48) (ag (vB hp54) rfl) ?_))
          obtain rfl:=sI h
          exact key _ _ (kp4 (kp4 (kp (kp (kp rfl)))))
         ·refine oSk (sF rfl rfl rfl rfl hp54) (oSk (sF rfl rfl rfl rfl hp54) (oSk (sF rfl rfl rfl rfl hp54) (oSk (sF rfl rfl rfl rfl hp54) (oSk (sF rfl rfl rfl rfl hp54) (oSk (sF rfl rfl rfl rfl hp54) (oY (sT rfl rfl rfl rfl hp48) (ah (vB hp54) rfl) ?_))))))
          obtain rfl:=sI h
          exact key _ _ (kp4 (kp4 (kp (kp (kp rfl)))))
     ·refine cF (vB hp34) (aF (ai ?_))
      obtain rfl:=sI h
      exact ax ⟨rfl,_,A1_0_s32,c1_0_s32,A1_2_s32,c1_2_s32,hR1_0_s32,hR1_2_s32,rfl,(kp4 (kp (kp rfl)))⟩
    ·intro e L tm hJ
     rcases u33 with u60 | u61
     ·dsimp only at h hJ
      obtain ⟨rfl,tm0_u60,A1_0_u60,c1_0_u60,A1_2_u60,c1_2_u60,hR1_0_u60,hR1_2_u60,rfl,rfl⟩:=hJ
      refine ⟨(by intro hc; cases hc),?_⟩
      refine aj (aa ?_)
      obtain rfl:=sI h
      exact al (.inl rfl) rfl (rVt (v:=.bool u60.1) rfl) (fun W2 hW2 => ⟨rfl,hW2.none⟩)
     ·dsimp only at h hJ
      obtain ⟨rfl,tm0_u61,A1_0_u61,c1_0_u61,A1_2_u61,c1_2_u61,hR1_0_u61,hR1_2_u61,rfl,rfl⟩:=hJ
      refine ⟨(by intro hc; cases hc),?_⟩
      refine ad (eT (cS (cR ?_)))
      obtain ⟨y62,hy63,h⟩:=bOs h
      refine oY rfl (yC [] go_17 rfl (fun W2 hW2 => ig  y62 hy63 W2 ) rfl) (oY rfl (yAB rfl) (oN (eT (ak ?_))))
      obtain rfl:=sI h
      exact al (.inl rfl) rfl (rVt (v:=.bool y62) rfl) (fun W2 hW2 => ⟨rfl,hW2.none⟩)
  ·rcases aq ((!y4) || (decide (60 < (p1.fG.length:Int)))) with hp7 | hp7
   ·refine oSk (sF rfl rfl rfl rfl hp7) (oSk (sF rfl rfl rfl rfl hp7) (oSk (sF rfl rfl rfl rfl hp7) (oSk (sF rfl rfl rfl rfl hp7) (oY rfl (ag (vB hp7) rfl) ?_))))
    exact key _ _ (keep (keep (keep (keep (keep rfl rfl) rfl) rfl) rfl) (vB (j6 hp7)))
   ·refine oY (sT rfl rfl rfl rfl hp7) (yFA jF rfl) (oY (sT rfl rfl rfl rfl hp7) (yL 1 gA rfl rfl rfl) (oY (sT rfl rfl rfl rfl hp7) (bi (us:=[]) cH rfl) (oY (sT rfl rfl rfl rfl hp7) (iB rfl rfl) (oY rfl (ah (vB hp7) rfl) ?_))))
    exact key _ _ (keep (keep (keep (keep (keep rfl rfl) rfl) rfl) rfl) (vB (jV hp7)))
 ·rcases aq (!y4) with hp6 | hp6
  ·refine oSk (sF rfl rfl rfl rfl hp6) (oSk (sF rfl rfl rfl rfl hp6) (oSk (sF rfl rfl rfl rfl hp6) (oSk (sF rfl rfl rfl rfl hp6) (oY rfl (ag (vB hp6) rfl) ?_))))
   exact key _ _ (keep (keep (keep (keep (keep rfl rfl) rfl) rfl) rfl) (vB (j6 hp6)))
  ·refine oY (sT rfl rfl rfl rfl hp6) (yFA fm rfl) (oY (sT rfl rfl rfl rfl hp6) (yL 1 gA rfl rfl rfl) (oY (sT rfl rfl rfl rfl hp6) (bi (us:=[]) cH rfl) (oY (sT rfl rfl rfl rfl hp6) (iB rfl rfl) (oY rfl (ah (vB hp6) rfl) ?_))))
   exact key _ _ (keep (keep (keep (keep (keep rfl rfl) rfl) rfl) rfl) (vB (jV hp6)))
end Go.Proofs.YthndghnkebboaaaGreat
