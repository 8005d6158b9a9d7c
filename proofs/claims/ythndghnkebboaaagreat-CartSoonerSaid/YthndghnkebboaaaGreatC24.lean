import Derived.Test.YthndghnkebboaaaGreatF
import Derived.Test.YthndghnkebboaaaGreatGD
import Derived.Test.YthndghnkebboaaaGreatC2
import Derived.Test.YthndghnkebboaaaGreatC4
import Derived.Test.YthndghnkebboaaaGreatC6
import Derived.Test.YthndghnkebboaaaGreatC0
set_option maxHeartbeats 4000000
set_option maxRecDepth 100000
set_option linter.unusedVariables false
namespace Go.Proofs.YthndghnkebboaaaGreat
open Go.RowKit (Below)
attribute [local irreducible] OX QX CX EX OpY Calls CallsIn
theorem cy  (res:Bool) (h:bK = some res) (W:World)  :
  Calls Tryz.prog 17 [].toArray W fun e W2 => e = .returned (.bool res) ∧ Ext W W2 []:=by
 unfold bK at h
 refine ab (m:=261) Tryz.func17 rfl rfl (nB rfl) (cS (cR (oY rfl (yAB rfl) (oN (eT (cS (cR ?_)))))))
 obtain ⟨y1,hy2,h⟩:=bOs h
 refine oC [] _ _ _ rfl go_67 rfl (fun W2 hW2 => kT  y1 hy2 W2 W (fun _ => True) (fun W3 hb => ⟨fI hW2.below hb,trivial⟩) ) ?_
 rintro ⟨⟨A5,n7,c6⟩,ys10,F11⟩ ⟨hn8,hP9,hV12⟩
 replace hn8 : n7 = y1.fTracks.length:=hn8; subst hn8
 refine aB sa rfl (fun b13 => ?_)
 refine cJ rfl (yS 2 [vI y1.fPlaces,.slice A5 y1.fTracks.length c6] sz_24 rfl (nB rfl) rfl rfl rfl) (oN (eT (cS (cR ?_))))
 obtain ⟨y14,hy15,h⟩:=bOs h
 refine oC [] _ _ _ rfl go_68 rfl (fun W2 hW2 => lF  y14 hy15 W2 ) ?_
 rintro ⟨⟨A16,n20,c17⟩,⟨A18,n22,c19⟩⟩ ⟨hn21,hn23⟩
 replace hn21 : n20 = y14.fB.length:=hn21; subst hn21
 replace hn23 : n22 = y14.fR.length:=hn23; subst hn23
 refine aB pZ rfl (fun b24 => ?_)
 try dsimp only [lna,lca,lsz,lss]
 refine cJ rfl (yS 5 [.slice A16 y14.fB.length c17,.slice A18 y14.fR.length c19] sz_53 rfl (nB rfl) rfl rfl rfl) (oN (eT (cS (cR (oY rfl (yFA dL rfl) (oY rfl (yL 2 jx rfl rfl rfl) ?_))))))
 obtain ⟨hg25,h⟩:=gOs h
 refine oY rfl (yI kn (by decide) hg25.1 hg25.2 (RdL.row 0 rfl) (eL au (NestP.hn hP9 rfl)) rfl rfl) ?_
 refine oY rfl (yM (A:=A5) (j:=(Int.toNat 1 * 6)) [vI ((rdL y1.fTracks 1).fID),vI ((rdL y1.fTracks 1).fFrom),vI ((rdL y1.fTracks 1).fTo),vI ((rdL y1.fTracks 1).fLong),vI ((rdL y1.fTracks 1).fToll),.slice ((rdL ys10 1).1.1) ((rdL y1.fTracks 1).fK.length) ((rdL ys10 1).1.2.2)] jI (Nat.succ_pos _) (RdL.row 0 rfl) rfl (kC (cN (NestP.snd hP9 1) (NestP.len hP9 hg25.1 (ap hg25.2 rfl))).symm (bh au hg25.1 (ap hg25.2 (NestP.hn hP9 rfl))))) ?_
 obtain ⟨y26,hy27,h⟩:=bOs h
 refine oY rfl (yC [.agg #[vI ((rdL y1.fTracks 1).fID),vI ((rdL y1.fTracks 1).fFrom),vI ((rdL y1.fTracks 1).fTo),vI ((rdL y1.fTracks 1).fLong),vI ((rdL y1.fTracks 1).fToll),.slice ((rdL ys10 1).1.1) ((rdL y1.fTracks 1).fK.length) ((rdL ys10 1).1.2.2)],vI 8] go_69 rfl (fun W2 hW2 => oT (TT.mk ((rdL y1.fTracks 1).fID) ((rdL y1.fTracks 1).fFrom) ((rdL y1.fTracks 1).fTo) ((rdL y1.fTracks 1).fLong) ((rdL y1.fTracks 1).fToll) ((rdL y1.fTracks 1).fK)) 8 y26 hy27 W2 ((rdL ys10 1).1.1) ((rdL y1.fTracks 1).fK.length) ((rdL ys10 1).1.2.2) rfl ((NestL.rd (PvL.nestL hP9 hV12 (fun W2 hW2 => ⟨hW2.below,trivial,hW2.mem (i:=1) rfl⟩)) hg25.1 (ap hg25.2 rfl)) W2 hW2)) rfl) (oY rfl (aI rfl) (oY rfl (yE rfl rfl) (oY rfl (yE rfl rfl) (oY rfl (yAI rfl) (oY rfl (yAI rfl) (oN (eT (cS (cR (oY rfl (yN 2 [vI y1.fPlaces,.slice A5 y1.fTracks.length c6] ei rfl rfl rfl) ?_))))))))))
 obtain ⟨y28,hy29,h⟩:=bOs h
 refine oC [.agg #[vI y1.fPlaces,.slice A5 y1.fTracks.length c6],vI 0,vI 4] _ _ _ rfl go_49 rfl (fun W2 hW2 => jp y1 0 4 y28 hy29 W2 A5 y1.fTracks.length c6 ys10 rfl ((RdL.row 0 rfl) W2 hW2) (NestL.at (PvL.nestL hP9 hV12 (fun W2 hW2 => ⟨hW2.below,trivial,hW2.mem (i:=1) rfl⟩)) W2 hW2) W (fun _ => True) (fun W3 hb => ⟨fI hW2.below hb,trivial⟩) ) ?_
 rintro ⟨⟨A32,n34,c33⟩,ys37,F38⟩ ⟨hn35,hP36,hV39⟩
 replace hn35 : n34 = y28.1.fH.length:=hn35; subst hn35
 try dsimp only [lna,lca,lsz,lss]
 refine oY rfl (aI rfl) (oY rfl (yE rfl rfl) (oY rfl (yE rfl rfl) ?_))
 refine aB sH rfl (fun b40 => ?_)
 try dsimp only [lna,lca,lsz,lss]
 refine cJ rfl (yS 8 [.slice A32 y28.1.fH.length c33] sz_87 rfl (nB rfl) rfl rfl rfl) (oY rfl (yAI rfl) (oN (eT (cS (cR (oY rfl (yN 2 [vI y1.fPlaces,.slice A5 y1.fTracks.length c6] ei rfl rfl rfl) ?_))))))
 obtain ⟨y41,hy42,h⟩:=bOs h
 refine oC [.agg #[vI y1.fPlaces,.slice A5 y1.fTracks.length c6],vI 0,vI 2,vI 4] _ _ _ rfl go_61 rfl (fun W2 hW2 => oK y1 0 2 4 y41 hy42 W2 A5 y1.fTracks.length c6 ys10 rfl ((RdL.row 0 rfl) W2 hW2) (NestL.at (PvL.nestL hP9 hV12 (fun W2 hW2 => ⟨hW2.below,trivial,hW2.mem (i:=1) rfl⟩)) W2 hW2) W (fun _ => True) (fun W3 hb => ⟨fI hW2.below hb,trivial⟩) ) ?_
 rintro ⟨⟨A45,n47,c46⟩,ys50,F51⟩ ⟨hn48,hP49,hV52⟩
 replace hn48 : n47 = y41.1.length:=hn48; subst hn48
 try dsimp only [lna,lca,lsz,lss]
 refine oY rfl (aI rfl) (oY rfl (yE rfl rfl) (oY rfl (yE rfl rfl) (oY rfl (yAS rfl) (oY rfl (yAI rfl) (oN (eT (cS (cR (oY rfl (yN 2 [vI y1.fPlaces,.slice A5 y1.fTracks.length c6] ei rfl rfl rfl) ?_)))))))))
 obtain ⟨y53,hy54,h⟩:=bOs h
 refine oC [.agg #[vI y1.fPlaces,.slice A5 y1.fTracks.length c6],vI 0,vI 2,vI 4,vI 5] _ _ _ rfl go_18 rfl (fun W2 hW2 => jV y1 0 2 4 5 y53 hy54 W2 A5 y1.fTracks.length c6 ys10 rfl ((RdL.row 0 rfl) W2 hW2) (NestL.at (PvL.nestL hP9 hV12 (fun W2 hW2 => ⟨hW2.below,trivial,hW2.mem (i:=1) rfl⟩)) W2 hW2) W (fun _ => True) (fun W3 hb => ⟨fI hW2.below hb,trivial⟩) ) ?_
 rintro ⟨⟨A57,n59,c58⟩,F61⟩ ⟨hn60,hV62⟩
 replace hn60 : n59 = y53.1.fLegs.length:=hn60; subst hn60
 try dsimp only [lna,lca,lsz,lss]
 refine oY rfl (aI rfl) (oY rfl (yE rfl rfl) (oY rfl (yE rfl rfl) ?_))
 refine aB jT rfl (fun b63 => ?_)
 try dsimp only [lna,lca,lsz,lss]
 refine cJ rfl (yS 12 [.slice A57 y53.1.fLegs.length c58,vI y53.1.fA,vI y53.1.fToll] lw rfl (nB rfl) rfl rfl rfl) (oY rfl (yAI rfl) (oN (eT (cS (cR (oY rfl (yN 2 [vI y1.fPlaces,.slice A5 y1.fTracks.length c6] ei rfl rfl rfl) ?_))))))
 obtain ⟨y64,hy65,h⟩:=bOs h
 refine oY rfl (yC [.agg #[vI y1.fPlaces,.slice A5 y1.fTracks.length c6],vI 0,vI 2,vI 26,vI 0] go_19 rfl (fun W2 hW2 => nJ y1 0 2 26 0 y64 hy65 W2 A5 y1.fTracks.length c6 ys10 rfl ((RdL.row 0 rfl) W2 hW2) (NestL.at (PvL.nestL hP9 hV12 (fun W2 hW2 => ⟨hW2.below,trivial,hW2.mem (i:=1) rfl⟩)) W2 hW2)) rfl) (oY rfl (aI rfl) (oY rfl (yE rfl rfl) (oY rfl (yE rfl rfl) (oY rfl (yAI rfl) (oY rfl (yAI rfl) (oN (eT (cS (cR (oY rfl (yN 2 [vI y1.fPlaces,.slice A5 y1.fTracks.length c6] ei rfl rfl rfl) ?_))))))))))
 obtain ⟨y66,hy67,h⟩:=bOs h
 refine oC [.agg #[vI y1.fPlaces,.slice A5 y1.fTracks.length c6],vI 0,vI 2,vI 4,vI 0] _ _ _ rfl go_23 rfl (fun W2 hW2 => kr y1 0 2 4 0 y66 hy67 W2 A5 y1.fTracks.length c6 ys10 rfl ((RdL.row 0 rfl) W2 hW2) (NestL.at (PvL.nestL hP9 hV12 (fun W2 hW2 => ⟨hW2.below,trivial,hW2.mem (i:=1) rfl⟩)) W2 hW2)) ?_
 rintro ⟨A68,n70,c69⟩ hn71
 replace hn71 : n70 = y66.1.length:=hn71; subst hn71
 try dsimp only [lna,lca,lsz,lss]
 refine oY rfl (aI rfl) (oY rfl (yE rfl rfl) (oY rfl (yE rfl rfl) (oY rfl (yAS rfl) (oY rfl (yAI rfl) (oN (eT (cS (cR (oY rfl (yN 2 [vI y1.fPlaces,.slice A5 y1.fTracks.length c6] ei rfl rfl rfl) ?_)))))))))
 obtain ⟨y72,hy73,h⟩:=bOs h
 refine oC [.agg #[vI y1.fPlaces,.slice A5 y1.fTracks.length c6],vI 0,vI 2,vI 4,vI 60] _ _ _ rfl go_23 rfl (fun W2 hW2 => kr y1 0 2 4 60 y72 hy73 W2 A5 y1.fTracks.length c6 ys10 rfl ((RdL.row 0 rfl) W2 hW2) (NestL.at (PvL.nestL hP9 hV12 (fun W2 hW2 => ⟨hW2.below,trivial,hW2.mem (i:=1) rfl⟩)) W2 hW2)) ?_
 rintro ⟨A74,n76,c75⟩ hn77
 replace hn77 : n76 = y72.1.length:=hn77; subst hn77
 try dsimp only [lna,lca,lsz,lss]
 refine oY rfl (aI rfl) (oY rfl (yE rfl rfl) (oY rfl (yE rfl rfl) (oY rfl (yAS rfl) (oY rfl (yAI rfl) (oN (eT (cS (cS (cR (oY rfl (yMI rfl) (oY rfl (dD rfl rfl) (oY rfl (yMB rfl) ?_))))))))))))
 refine oJ 3 (fun tm0 => (upd (upd (upd (upd (upd (upd (upd (upd (upd (upd (upd (upd (upd (upd (upd tm0 0 (.bool false)) 2 (.pointer (some ⟨b24,0,none⟩))) 3 (vI y26.1)) 5 (.pointer (some ⟨b40,0,none⟩))) 7 (.slice A45 y41.1.length c46)) 8 (vI y41.2)) 9 (.pointer (some ⟨b63,0,none⟩))) 10 (vI y53.2)) 11 (vI y64.1)) 12 (vI y64.2)) 13 (.slice A68 y66.1.length c69)) 14 (vI y66.2)) 15 (.slice A74 y72.1.length c75)) 16 (vI y72.2)) 74 (.bool ((y26.2 != 0) || (y28.2 != 0))))) (fun tm0 => ?_) (fun key => ?_)
 ·refine oY rfl (yMB rfl) ?_
  refine oJ 3 (fun tm0 => (upd (upd (upd (upd (upd (upd (upd (upd (upd (upd (upd (upd (upd (upd tm0 0 (.bool false)) 2 (.pointer (some ⟨b24,0,none⟩))) 3 (vI y26.1)) 5 (.pointer (some ⟨b40,0,none⟩))) 7 (.slice A45 y41.1.length c46)) 9 (.pointer (some ⟨b63,0,none⟩))) 10 (vI y53.2)) 11 (vI y64.1)) 12 (vI y64.2)) 13 (.slice A68 y66.1.length c69)) 14 (vI y66.2)) 15 (.slice A74 y72.1.length c75)) 16 (vI y72.2)) 78 (.bool (((y26.2 != 0) || (y28.2 != 0)) || (y41.2 != 0))))) (fun tm0 => ?_) (fun key => ?_)
  ·refine oY rfl (yMB rfl) ?_
   refine oJ 3 (fun tm0 => (upd (upd (upd (upd (upd (upd (upd (upd (upd (upd (upd (upd (upd tm0 0 (.bool false)) 2 (.pointer (some ⟨b24,0,none⟩))) 3 (vI y26.1)) 5 (.pointer (some ⟨b40,0,none⟩))) 7 (.slice A45 y41.1.length c46)) 9 (.pointer (some ⟨b63,0,none⟩))) 11 (vI y64.1)) 12 (vI y64.2)) 13 (.slice A68 y66.1.length c69)) 14 (vI y66.2)) 15 (.slice A74 y72.1.length c75)) 16 (vI y72.2)) 82 (.bool ((((y26.2 != 0) || (y28.2 != 0)) || (y41.2 != 0)) || (y53.2 != 0))))) (fun tm0 => ?_) (fun key => ?_)
   ·refine oY rfl (yMB rfl) ?_
    refine oJ 3 (fun tm0 => (upd (upd (upd (upd (upd (upd (upd (upd (upd (upd (upd (upd tm0 0 (.bool false)) 2 (.pointer (some ⟨b24,0,none⟩))) 3 (vI y26.1)) 5 (.pointer (some ⟨b40,0,none⟩))) 7 (.slice A45 y41.1.length c46)) 9 (.pointer (some ⟨b63,0,none⟩))) 11 (vI y64.1)) 13 (.slice A68 y66.1.length c69)) 14 (vI y66.2)) 15 (.slice A74 y72.1.length c75)) 16 (vI y72.2)) 86 (.bool (((((y26.2 != 0) || (y28.2 != 0)) || (y41.2 != 0)) || (y53.2 != 0)) || (y64.2 != 0))))) (fun tm0 => ?_) (fun key => ?_)
    ·refine oY rfl (yMB rfl) ?_
     refine oJ 3 (fun tm0 => (upd (upd (upd (upd (upd (upd (upd (upd (upd (upd (upd tm0 0 (.bool false)) 2 (.pointer (some ⟨b24,0,none⟩))) 3 (vI y26.1)) 5 (.pointer (some ⟨b40,0,none⟩))) 7 (.slice A45 y41.1.length c46)) 9 (.pointer (some ⟨b63,0,none⟩))) 11 (vI y64.1)) 13 (.slice A68 y66.1.length c69)) 15 (.slice A74 y72.1.length c75)) 16 (vI y72.2)) 90 (.bool ((((((y26.2 != 0) || (y28.2 != 0)) || (y41.2 != 0)) || (y53.2 != 0)) || (y64.2 != 0)) || (y66.2 != 0))))) (fun tm0 => ?_) (fun key => ?_)
     ·refine oY rfl (yMB rfl) ?_
      refine oJ 3 (fun tm0 => (upd (upd (upd (upd (upd (upd (upd (upd (upd (upd tm0 0 (.bool false)) 2 (.pointer (some ⟨b24,0,none⟩))) 3 (vI y26.1)) 5 (.pointer (some ⟨b40,0,none⟩))) 7 (.slice A45 y41.1.length c46)) 9 (.pointer (some ⟨b63,0,none⟩))) 11 (vI y64.1)) 13 (.slice A68 y66.1.length c69)) 15 (.slice A74 y72.1.length c75)) 94 (.bool (((((((y26.2 != 0) || (y28.2 != 0)) || (y41.2 != 0)) || (y53.2 != 0)) || (y64.2 != 0)) || (y66.2 != 0)) || (y72.2 != 0))))) (fun tm0 => ?_) (fun key => ?_)
      ·refine oY rfl (yMB rfl) ?_
       refine oJ 3 (fun tm0 => (upd (upd (upd (upd (upd (upd (upd (upd (upd tm0 0 (.bool false)) 2 (.pointer (some ⟨b24,0,none⟩))) 5 (.pointer (some ⟨b40,0,none⟩))) 7 (.slice A45 y41.1.length c46)) 9 (.pointer (some ⟨b63,0,none⟩))) 11 (vI y64.1)) 13 (.slice A68 y66.1.length c69)) 15 (.slice A74 y72.1.length c75)) 98 (.bool ((((((((y26.2 != 0) || (y28.2 != 0)) || (y41.2 != 0)) || (y53.2 != 0)) || (y64.2 != 0)) || (y66.2 != 0)) || (y72.2 != 0)) || (y26.1 != 21))))) (fun tm0 => ?_) (fun key => ?_)
       ·refine oY rfl (yMB rfl) ?_
        refine oJ 5 (fun tm0 => (upd (upd (upd (upd (upd (upd (upd (upd (upd tm0 0 (.bool false)) 2 (.pointer (some ⟨b24,0,none⟩))) 5 (.pointer (some ⟨b40,0,none⟩))) 7 (.slice A45 y41.1.length c46)) 9 (.pointer (some ⟨b63,0,none⟩))) 11 (vI y64.1)) 13 (.slice A68 y66.1.length c69)) 15 (.slice A74 y72.1.length c75)) 104 (.bool (((((((((y26.2 != 0) || (y28.2 != 0)) || (y41.2 != 0)) || (y53.2 != 0)) || (y64.2 != 0)) || (y66.2 != 0)) || (y72.2 != 0)) || (y26.1 != 21)) || ((y28.1.fH.length:Int) != 3))))) (fun tm0 => ?_) (fun key => ?_)
        ·refine oY rfl (yMB rfl) ?_
         obtain ⟨b87,hb88,h⟩:=bOs h
         refine oJ 7 (fun tm0 => (upd (upd (upd (upd (upd (upd (upd (upd (upd tm0 0 (.bool false)) 2 (.pointer (some ⟨b24,0,none⟩))) 5 (.pointer (some ⟨b40,0,none⟩))) 7 (.slice A45 y41.1.length c46)) 9 (.pointer (some ⟨b63,0,none⟩))) 11 (vI y64.1)) 13 (.slice A68 y66.1.length c69)) 15 (.slice A74 y72.1.length c75)) 112 (.bool b87))) (fun tm0 => ?_) (fun key => ?_)
         ·refine oY rfl (yMB rfl) ?_
          refine oJ 4 (fun tm0 => (upd (upd (upd (upd (upd (upd (upd (upd (upd tm0 0 (.bool false)) 2 (.pointer (some ⟨b24,0,none⟩))) 5 (.pointer (some ⟨b40,0,none⟩))) 7 (.slice A45 y41.1.length c46)) 9 (.pointer (some ⟨b63,0,none⟩))) 11 (vI y64.1)) 13 (.slice A68 y66.1.length c69)) 15 (.slice A74 y72.1.length c75)) 117 (.bool (b87 || ((y41.1.length:Int) != 3))))) (fun tm0 => ?_) (fun key => ?_)
          ·refine oN (eT ?_)
           rcases iOs h with ⟨hp90,h⟩ | ⟨hp90,h⟩
           ·refine cT (vB hp90) (cS (cR (oY rfl (yAB rfl) (oN (eT (ak (aa ?_)))))))
            obtain rfl:=sI h
            exact aj (.inl rfl) rfl (rVt (v:=.bool false) rfl) (fun W2 hW2 => ⟨rfl,hW2.none⟩)
           ·refine cF (vB hp90) (cK (eT (cS (cR (oY rfl (yFA dM rfl) (oY rfl (yL 8 jC rfl rfl rfl) ?_))))))
            obtain ⟨hg91,h⟩:=gOs h
            refine oY rfl (yI m9 (by decide) hg91.1 hg91.2 (RdL.row 6 rfl) (eL az (NestP.hn hP36 rfl)) rfl rfl) ?_
            refine oY rfl (yR (A:=A32) (j:=(Int.toNat 2 * 1)) (v:=.slice ((rdL ys37 2).1.1) ((rdL y28.1.fH 2).length) ((rdL ys37 2).1.2.2)) kz (RdL.row 6 rfl) rfl (aG az hg91.1 (ap hg91.2 (NestP.hn hP36 rfl)) (congrArg (fun n : Nat => some (Value.slice (rdL ys37 2).1.1 n (rdL ys37 2).1.2.2)) (NestP.len hP36 hg91.1 (ap hg91.2 rfl))))) ?_
            obtain ⟨hg92,h⟩:=gOs h
            refine oY rfl (yI dz (by decide) hg92.1 hg92.2 (NestL.rd (PvL.nestL hP36 hV39 (fun W2 hW2 => ⟨hW2.below,trivial,hW2.mem (i:=7) rfl⟩)) hg91.1 (ap hg91.2 rfl)) (eL aD rfl) rfl rfl) ?_
            refine oY rfl (yR (A:=((rdL ys37 2).1.1)) (j:=(Int.toNat 0 * 1)) (v:=vI (rdL (rdL y28.1.fH 2) 0)) a8 (NestL.rd (PvL.nestL hP36 hV39 (fun W2 hW2 => ⟨hW2.below,trivial,hW2.mem (i:=7) rfl⟩)) hg91.1 (ap hg91.2 rfl)) rfl (aG aD hg92.1 (ap hg92.2 rfl) rfl)) (oY rfl (cL rfl rfl) (oY rfl (yMB rfl) ?_))
            obtain ⟨b94,hb95,h⟩:=bOs h
            refine oJ 8 (fun tm0 => (upd (upd (upd (upd (upd (upd (upd (upd (upd tm0 0 (.bool false)) 2 (.pointer (some ⟨b24,0,none⟩))) 5 (.pointer (some ⟨b40,0,none⟩))) 7 (.slice A45 y41.1.length c46)) 9 (.pointer (some ⟨b63,0,none⟩))) 11 (vI y64.1)) 13 (.slice A68 y66.1.length c69)) 15 (.slice A74 y72.1.length c75)) 133 (.bool b94))) (fun tm0 => ?_) (fun key => ?_)
            ·refine oY rfl (yMB rfl) ?_
             obtain ⟨b97,hb98,h⟩:=bOs h
             refine oJ 8 (fun tm0 => (upd (upd (upd (upd (upd (upd (upd (upd tm0 0 (.bool false)) 2 (.pointer (some ⟨b24,0,none⟩))) 7 (.slice A45 y41.1.length c46)) 9 (.pointer (some ⟨b63,0,none⟩))) 11 (vI y64.1)) 13 (.slice A68 y66.1.length c69)) 15 (.slice A74 y72.1.length c75)) 142 (.bool b97))) (fun tm0 => ?_) (fun key => ?_)
             ·refine oY rfl (yMB rfl) ?_
              obtain ⟨b100,hb101,h⟩:=bOs h
              refine oJ 6 (fun tm0 => (upd (upd (upd (upd (upd (upd (upd (upd tm0 0 (.bool false)) 2 (.pointer (some ⟨b24,0,none⟩))) 7 (.slice A45 y41.1.length c46)) 9 (.pointer (some ⟨b63,0,none⟩))) 11 (vI y64.1)) 13 (.slice A68 y66.1.length c69)) 15 (.slice A74 y72.1.length c75)) 149 (.bool b100))) (fun tm0 => ?_) (fun key => ?_)
              ·refine oY rfl (yMB rfl) ?_
               obtain ⟨b103,hb104,h⟩:=bOs h
               refine oJ 6 (fun tm0 => (upd (upd (upd (upd (upd (upd (upd (upd tm0 0 (.bool false)) 2 (.pointer (some ⟨b24,0,none⟩))) 7 (.slice A45 y41.1.length c46)) 9 (.pointer (some ⟨b63,0,none⟩))) 11 (vI y64.1)) 13 (.slice A68 y66.1.length c69)) 15 (.slice A74 y72.1.length c75)) 156 (.bool b103))) (fun tm0 => ?_) (fun key => ?_)
               ·refine oY rfl (yMB rfl) ?_
                obtain ⟨b106,hb107,h⟩:=bOs h
                refine oJ 6 (fun tm0 => (upd (upd (upd (upd (upd (upd (upd tm0 0 (.bool false)) 2 (.pointer (some ⟨b24,0,none⟩))) 9 (.pointer (some ⟨b63,0,none⟩))) 11 (vI y64.1)) 13 (.slice A68 y66.1.length c69)) 15 (.slice A74 y72.1.length c75)) 163 (.bool b106))) (fun tm0 => ?_) (fun key => ?_)
                ·refine oY rfl (yMB rfl) ?_
                 refine oJ 4 (fun tm0 => (upd (upd (upd (upd (upd (upd tm0 0 (.bool false)) 2 (.pointer (some ⟨b24,0,none⟩))) 11 (vI y64.1)) 13 (.slice A68 y66.1.length c69)) 15 (.slice A74 y72.1.length c75)) 168 (.bool (b106 && (y53.1.fA == 17))))) (fun tm0 => ?_) (fun key => ?_)
                 ·refine oY rfl (yMB rfl) ?_
                  refine oJ 3 (fun tm0 => (upd (upd (upd (upd (upd tm0 0 (.bool false)) 2 (.pointer (some ⟨b24,0,none⟩))) 13 (.slice A68 y66.1.length c69)) 15 (.slice A74 y72.1.length c75)) 172 (.bool ((b106 && (y53.1.fA == 17)) && (y64.1 == 16))))) (fun tm0 => ?_) (fun key => ?_)
                  ·refine oY rfl (yMB rfl) ?_
                   obtain ⟨b111,hb112,h⟩:=bOs h
                   refine oJ 4 (fun tm0 => (upd (upd (upd (upd tm0 0 (.bool false)) 2 (.pointer (some ⟨b24,0,none⟩))) 15 (.slice A74 y72.1.length c75)) 177 (.bool b111))) (fun tm0 => ?_) (fun key => ?_)
                   ·refine oY rfl (yMB rfl) ?_
                    obtain ⟨b114,hb115,h⟩:=bOs h
                    refine oJ 4 (fun tm0 => (upd (upd (upd tm0 0 (.bool false)) 2 (.pointer (some ⟨b24,0,none⟩))) 182 (.bool b114))) (fun tm0 => ?_) (fun key => ?_)
                    ·refine oY rfl (yAB rfl) (oN (eT (cS (cR (oY rfl (yN 5 [.slice A16 y14.fB.length c17,.slice A18 y14.fR.length c19] dc rfl rfl rfl) ?_)))))
                     obtain ⟨y116,hy117,h⟩:=bOs h
                     refine oC [.agg #[.slice A16 y14.fB.length c17,.slice A18 y14.fR.length c19]] _ _ _ rfl go_37 rfl (fun W2 hW2 => oc y14 y116 hy117 W2 A16 y14.fB.length c17 rfl ((RdL.row 3 rfl) W2 hW2) A18 y14.fR.length c19 rfl ((RdL.row 4 rfl) W2 hW2)) ?_
                     rintro ⟨⟨A118,n122,c119⟩,⟨A120,n124,c121⟩⟩ ⟨hn123,hn125⟩
                     replace hn123 : n122 = y116.1.fG.length:=hn123; subst hn123
                     replace hn125 : n124 = y116.1.fPrices.length:=hn125; subst hn125
                     try dsimp only [lna,lca,lsz,lss]
                     refine oY rfl (aI rfl) (oY rfl (yE rfl rfl) (oY rfl (yE rfl rfl) ?_))
                     refine aB rt rfl (fun b126 => ?_)
                     try dsimp only [lna,lca,lsz,lss]
                     refine cJ rfl (yS 17 [.slice A118 y116.1.fG.length c119,vI y116.1.fW,.slice A120 y116.1.fPrices.length c121] rU rfl (nB rfl) rfl rfl rfl) (oY rfl (yAI rfl) (oN (eT (cS (cR (oY rfl (yN 5 [.slice A16 y14.fB.length c17,.slice A18 y14.fR.length c19] dc rfl rfl rfl) ?_))))))
                     obtain ⟨y127,hy128,h⟩:=bOs h
                     refine oC [.agg #[.slice A16 y14.fB.length c17,.slice A18 y14.fR.length c19]] _ _ _ rfl go_27 rfl (fun W2 hW2 => nI y14 y127 hy128 W2 A16 y14.fB.length c17 rfl ((RdL.row 3 rfl) W2 hW2) A18 y14.fR.length c19 rfl ((RdL.row 4 rfl) W2 hW2)) ?_
                     rintro ⟨A129,n131,c130⟩ hn132
                     replace hn132 : n131 = y127.1.length:=hn132; subst hn132
                     try dsimp only [lna,lca,lsz,lss]
                     refine oY rfl (aI rfl) (oY rfl (yE rfl rfl) (oY rfl (yE rfl rfl) (oY rfl (yAS rfl) (oY rfl (yAI rfl) (oN (eT (cS (cR (oY rfl (yN 5 [.slice A16 y14.fB.length c17,.slice A18 y14.fR.length c19] dc rfl rfl rfl) ?_)))))))))
                     obtain ⟨y133,hy134,h⟩:=bOs h
                     refine oC [.agg #[.slice A16 y14.fB.length c17,.slice A18 y14.fR.length c19]] _ _ _ rfl go_29 rfl (fun W2 hW2 => oQ y14 y133 hy134 W2 A16 y14.fB.length c17 rfl ((RdL.row 3 rfl) W2 hW2) A18 y14.fR.length c19 rfl ((RdL.row 4 rfl) W2 hW2)) ?_
                     rintro ⟨A135,n137,c136⟩ hn138
                     replace hn138 : n137 = y133.1.length:=hn138; subst hn138
                     try dsimp only [lna,lca,lsz,lss]
                     refine oY rfl (aI rfl) (oY rfl (yE rfl rfl) (oY rfl (yE rfl rfl) (oY rfl (yAS rfl) (oY rfl (yAI rfl) (oN (eT (cS (cR (oY rfl (yN 5 [.slice A16 y14.fB.length c17,.slice A18 y14.fR.length c19] dc rfl rfl rfl) ?_)))))))))
                     refine aK 3 (encL cI [7,8,9]) _ mc_3_3 cU mh oW (by decide) (by decide) (by kernel_rfl) (eL aD rfl) rfl (fun b139 => ?_)
                     try dsimp only [lna,lca,lsz,lss]
                     obtain ⟨y140,hy141,h⟩:=bOs h
                     refine oC [.agg #[.slice A16 y14.fB.length c17,.slice A18 y14.fR.length c19],.slice (some ⟨b139,0,none⟩) 3 3] _ _ _ rfl go_31 rfl (fun W2 hW2 => mZ y14 [7,8,9] y140 hy141 W2 A16 y14.fB.length c17 rfl ((RdL.row 3 rfl) W2 hW2) A18 y14.fR.length c19 rfl ((RdL.row 4 rfl) W2 hW2) (some ⟨b139,0,none⟩) 3 3 rfl ((RdL.row 20 rfl) W2 hW2)) ?_
                     rintro ⟨A142,n144,c143⟩ hn145
                     replace hn145 : n144 = y140.1.length:=hn145; subst hn145
                     try dsimp only [lna,lca,lsz,lss]
                     refine oY rfl (aI rfl) (oY rfl (yE rfl rfl) (oY rfl (yE rfl rfl) (oY rfl (yAS rfl) (oY rfl (yAI rfl) (oN (eT (cS (cR (oY rfl (yN 5 [.slice A16 y14.fB.length c17,.slice A18 y14.fR.length c19] dc rfl rfl rfl) ?_)))))))))
                     obtain ⟨y146,hy147,h⟩:=bOs h
                     refine oY rfl (yC [.agg #[.slice A16 y14.fB.length c17,.slice A18 y14.fR.length c19],vI 1] go_33 rfl (fun W2 hW2 => ph y14 1 y146 hy147 W2 A16 y14.fB.length c17 rfl ((RdL.row 3 rfl) W2 hW2) A18 y14.fR.length c19 rfl ((RdL.row 4 rfl) W2 hW2)) rfl) (oY rfl (aI rfl) (oY rfl (yE rfl rfl) (oY rfl (yE rfl rfl) (oY rfl (yAI rfl) (oY rfl (yAI rfl) (oN (eT (cS (cR (oY rfl (yMI rfl) (oY rfl (cL rfl rfl) (oY rfl (yMB rfl) ?_))))))))))))
                     refine oJ 4 (fun tm0 => (upd (upd (upd (upd (upd (upd (upd (upd (upd (upd (upd (upd (upd tm0 0 (.bool false)) 2 (.pointer (some ⟨b24,0,none⟩))) 17 (.bool b114)) 18 (.pointer (some ⟨b126,0,none⟩))) 20 (.slice A129 y127.1.length c130)) 21 (vI y127.2)) 22 (.slice A135 y133.1.length c136)) 23 (vI y133.2)) 24 (.slice A142 y140.1.length c143)) 25 (vI y140.2)) 26 (vI y146.1)) 27 (vI y146.2)) 215 (.bool ((y116.2 == 0) && (y116.1.fW == 14))))) (fun tm0 => ?_) (fun key => ?_)
                     ·refine oY rfl (yMB rfl) ?_
                      obtain ⟨b150,hb151,h⟩:=bOs h
                      refine oJ 5 (fun tm0 => (upd (upd (upd (upd (upd (upd (upd (upd (upd (upd (upd tm0 0 (.bool false)) 17 (.bool b114)) 20 (.slice A129 y127.1.length c130)) 21 (vI y127.2)) 22 (.slice A135 y133.1.length c136)) 23 (vI y133.2)) 24 (.slice A142 y140.1.length c143)) 25 (vI y140.2)) 26 (vI y146.1)) 27 (vI y146.2)) 221 (.bool b150))) (fun tm0 => ?_) (fun key => ?_)
                      ·refine oY rfl (yMB rfl) ?_
                       refine oJ 3 (fun tm0 => (upd (upd (upd (upd (upd (upd (upd (upd (upd (upd tm0 0 (.bool false)) 17 (.bool b114)) 20 (.slice A129 y127.1.length c130)) 22 (.slice A135 y133.1.length c136)) 23 (vI y133.2)) 24 (.slice A142 y140.1.length c143)) 25 (vI y140.2)) 26 (vI y146.1)) 27 (vI y146.2)) 225 (.bool (b150 && (y127.2 == 0))))) (fun tm0 => ?_) (fun key => ?_)
                       ·refine oY rfl (yMB rfl) ?_
                        obtain ⟨b154,hb155,h⟩:=bOs h
                        refine oJ 4 (fun tm0 => (upd (upd (upd (upd (upd (upd (upd (upd (upd tm0 0 (.bool false)) 17 (.bool b114)) 22 (.slice A135 y133.1.length c136)) 23 (vI y133.2)) 24 (.slice A142 y140.1.length c143)) 25 (vI y140.2)) 26 (vI y146.1)) 27 (vI y146.2)) 230 (.bool b154))) (fun tm0 => ?_) (fun key => ?_)
                        ·refine oY rfl (yMB rfl) ?_
                         refine oJ 3 (fun tm0 => (upd (upd (upd (upd (upd (upd (upd (upd tm0 0 (.bool false)) 17 (.bool b114)) 22 (.slice A135 y133.1.length c136)) 24 (.slice A142 y140.1.length c143)) 25 (vI y140.2)) 26 (vI y146.1)) 27 (vI y146.2)) 234 (.bool (b154 && (y133.2 == 0))))) (fun tm0 => ?_) (fun key => ?_)
                         ·refine oY rfl (yMB rfl) ?_
                          obtain ⟨b158,hb159,h⟩:=bOs h
                          refine oJ 4 (fun tm0 => (upd (upd (upd (upd (upd (upd (upd tm0 0 (.bool false)) 17 (.bool b114)) 24 (.slice A142 y140.1.length c143)) 25 (vI y140.2)) 26 (vI y146.1)) 27 (vI y146.2)) 239 (.bool b158))) (fun tm0 => ?_) (fun key => ?_)
                          ·refine oY rfl (yAB rfl) (oN (eT (cS (cR (oY rfl (yMB rfl) (oY rfl (yMB rfl) ?_))))))
                           refine oJ 2 (fun tm0 => (upd (upd (upd (upd (upd (upd tm0 0 (.bool false)) 24 (.slice A142 y140.1.length c143)) 25 (vI y140.2)) 26 (vI y146.1)) 27 (vI y146.2)) 243 (.bool (b114 && b158)))) (fun tm0 => ?_) (fun key => ?_)
                           ·refine oY rfl (yMB rfl) ?_
                            refine oJ 3 (fun tm0 => (upd (upd (upd (upd (upd tm0 0 (.bool false)) 24 (.slice A142 y140.1.length c143)) 26 (vI y146.1)) 27 (vI y146.2)) 247 (.bool ((b114 && b158) && (y140.2 == 0))))) (fun tm0 => ?_) (fun key => ?_)
                            ·refine oY rfl (yMB rfl) ?_
                             obtain ⟨b163,hb164,h⟩:=bOs h
                             refine oJ 4 (fun tm0 => (upd (upd (upd (upd tm0 0 (.bool false)) 26 (vI y146.1)) 27 (vI y146.2)) 252 (.bool b163))) (fun tm0 => ?_) (fun key => ?_)
                             ·refine oY rfl (yMB rfl) ?_
                              refine oJ 3 (fun tm0 => (upd (upd (upd tm0 0 (.bool false)) 26 (vI y146.1)) 256 (.bool (b163 && (y146.2 == 0))))) (fun tm0 => ?_) (fun key => ?_)
                              ·refine oY rfl (yMB rfl) ?_
                               refine oJ 3 (fun tm0 => (upd (upd tm0 0 (.bool false)) 260 (.bool ((b163 && (y146.2 == 0)) && (y146.1 == 5))))) (fun tm0 => ?_) (fun key => ?_)
                               ·refine oY rfl (yAB rfl) (oN (eT (ak ?_)))
                                obtain rfl:=sI h
                                exact aj (.inl rfl) rfl (rVt (v:=.bool ((b163 && (y146.2 == 0)) && (y146.1 == 5))) rfl) (fun W2 hW2 => ⟨rfl,hW2.none⟩)
                               ·rcases al (b163 && (y146.2 == 0)) with hp166 | hp166
                                ·refine oY (sT rfl rfl rfl rfl hp166) (yMI rfl) (oY (sT rfl rfl rfl rfl hp166) (cL rfl rfl) (oY rfl (ac (vB hp166) rfl) ?_))
                                 exact key _ _ (keep (keep rfl rfl) (vB (gn hp166)))
                                ·refine oSk (sF rfl rfl rfl rfl hp166) (oSk (sF rfl rfl rfl rfl hp166) (oY rfl (ad (vB hp166) rfl) ?_))
                                 exact key _ _ (keep (keep rfl rfl) (vB (gr hp166)))
                              ·rcases al b163 with hp165 | hp165
                               ·refine oY (sT rfl rfl rfl rfl hp165) (yMI rfl) (oY (sT rfl rfl rfl rfl hp165) (cL rfl rfl) (oY rfl (ac (vB hp165) rfl) ?_))
                                exact key _ _ (keep (keep (keep rfl rfl) rfl) (vB (gn hp165)))
                               ·refine oSk (sF rfl rfl rfl rfl hp165) (oSk (sF rfl rfl rfl rfl hp165) (oY rfl (ad (vB hp165) rfl) ?_))
                                exact key _ _ (keep (keep (keep rfl rfl) rfl) (vB (gr hp165)))
                             ·clear h; rcases iOs hb164 with ⟨hp162,h⟩ | ⟨hp162,h⟩
                              ·refine oY (sT rfl rfl rfl rfl hp162) (yMS rfl) ?_
                               refine aK 2 (encL cI [8,9]) _ rQ cU mh oW (by decide) (by decide) (by kernel_rfl) (eL aD rfl) (sT rfl rfl rfl rfl hp162) (fun b167 => ?_)
                               try dsimp only [lna,lca,lsz,lss]
                               obtain ⟨y168,hy169,h⟩:=bOs h
                               refine oY (sT rfl rfl rfl rfl hp162) (yC [.slice A142 y140.1.length c143,.slice (some ⟨b167,0,none⟩) 2 2] tA rfl (fun W2 hW2 => dj y140.1 [8,9] y168 hy169 W2 A142 y140.1.length c143 rfl ((RdL.row 21 rfl) W2 hW2) (some ⟨b167,0,none⟩) 2 2 rfl ((RdL.row 22 rfl) W2 hW2)) rfl) (oY rfl (ac (vB hp162) rfl) ?_)
                               obtain rfl:=sI h
                               refine mM 22 ?_
                               exact key _ _ (kp4 rfl)
                              ·refine oSk (sF rfl rfl rfl rfl hp162) (oSk (sF rfl rfl rfl rfl hp162) (oSk (sF rfl rfl rfl rfl hp162) (oY rfl (ad (vB hp162) rfl) ?_)))
                               obtain rfl:=sI h
                               exact key _ _ (kp4 rfl)
                            ·rcases al (b114 && b158) with hp161 | hp161
                             ·refine oY (sT rfl rfl rfl rfl hp161) (yMI rfl) (oY (sT rfl rfl rfl rfl hp161) (cL rfl rfl) (oY rfl (ac (vB hp161) rfl) ?_))
                              exact key _ _ (keep (keep (keep (keep (keep rfl rfl) rfl) rfl) rfl) (vB (gn hp161)))
                             ·refine oSk (sF rfl rfl rfl rfl hp161) (oSk (sF rfl rfl rfl rfl hp161) (oY rfl (ad (vB hp161) rfl) ?_))
                              exact key _ _ (keep (keep (keep (keep (keep rfl rfl) rfl) rfl) rfl) (vB (gr hp161)))
                           ·rcases al b114 with hp160 | hp160
                            ·refine oY (sT rfl rfl rfl rfl hp160) (yMB rfl) (oY rfl (ac (vB hp160) rfl) ?_)
                             exact key _ _ (keep (keep (keep (keep (keep (keep rfl rfl) rfl) rfl) rfl) rfl) (vB (gn hp160)))
                            ·refine oSk (sF rfl rfl rfl rfl hp160) (oY rfl (ad (vB hp160) rfl) ?_)
                             exact key _ _ (keep (keep (keep (keep (keep (keep rfl rfl) rfl) rfl) rfl) rfl) (vB (gr hp160)))
                          ·clear h; rcases iOs hb159 with ⟨hp157,h⟩ | ⟨hp157,h⟩
                           ·refine oY (sT rfl rfl rfl rfl hp157) (yMS rfl) ?_
                            refine aK 1 (encL cI [9]) _ na cU mh oW (by decide) (by decide) (by kernel_rfl) (eL aD rfl) (sT rfl rfl rfl rfl hp157) (fun b170 => ?_)
                            try dsimp only [lna,lca,lsz,lss]
                            obtain ⟨y171,hy172,h⟩:=bOs h
                            refine oY (sT rfl rfl rfl rfl hp157) (yC [.slice A135 y133.1.length c136,.slice (some ⟨b170,0,none⟩) 1 1] tA rfl (fun W2 hW2 => dj y133.1 [9] y171 hy172 W2 A135 y133.1.length c136 rfl ((RdL.row 19 rfl) W2 hW2) (some ⟨b170,0,none⟩) 1 1 rfl ((RdL.row 22 rfl) W2 hW2)) rfl) (oY rfl (ac (vB hp157) rfl) ?_)
                            obtain rfl:=sI h
                            refine mM 22 ?_
                            exact key _ _ (kp4 (kp (kp (kp rfl))))
                           ·refine oSk (sF rfl rfl rfl rfl hp157) (oSk (sF rfl rfl rfl rfl hp157) (oSk (sF rfl rfl rfl rfl hp157) (oY rfl (ad (vB hp157) rfl) ?_)))
                            obtain rfl:=sI h
                            exact key _ _ (kp4 (kp (kp (kp rfl))))
                         ·rcases al b154 with hp156 | hp156
                          ·refine oY (sT rfl rfl rfl rfl hp156) (yMI rfl) (oY (sT rfl rfl rfl rfl hp156) (cL rfl rfl) (oY rfl (ac (vB hp156) rfl) ?_))
                           exact key _ _ (keep (keep (keep (keep (keep (keep (keep (keep rfl rfl) rfl) rfl) rfl) rfl) rfl) rfl) (vB (gn hp156)))
                          ·refine oSk (sF rfl rfl rfl rfl hp156) (oSk (sF rfl rfl rfl rfl hp156) (oY rfl (ad (vB hp156) rfl) ?_))
                           exact key _ _ (keep (keep (keep (keep (keep (keep (keep (keep rfl rfl) rfl) rfl) rfl) rfl) rfl) rfl) (vB (gr hp156)))
                        ·clear h; rcases iOs hb155 with ⟨hp153,h⟩ | ⟨hp153,h⟩
                         ·refine oY (sT rfl rfl rfl rfl hp153) (yMS rfl) ?_
                          refine aK 2 (encL cI [7,8]) _ rQ cU mh oW (by decide) (by decide) (by kernel_rfl) (eL aD rfl) (sT rfl rfl rfl rfl hp153) (fun b173 => ?_)
                          try dsimp only [lna,lca,lsz,lss]
                          obtain ⟨y174,hy175,h⟩:=bOs h
                          refine oY (sT rfl rfl rfl rfl hp153) (yC [.slice A129 y127.1.length c130,.slice (some ⟨b173,0,none⟩) 2 2] tA rfl (fun W2 hW2 => dj y127.1 [7,8] y174 hy175 W2 A129 y127.1.length c130 rfl ((RdL.row 18 rfl) W2 hW2) (some ⟨b173,0,none⟩) 2 2 rfl ((RdL.row 22 rfl) W2 hW2)) rfl) (oY rfl (ac (vB hp153) rfl) ?_)
                          obtain rfl:=sI h
                          refine mM 22 ?_
                          exact key _ _ (kp4 (kp4 (kp rfl)))
                         ·refine oSk (sF rfl rfl rfl rfl hp153) (oSk (sF rfl rfl rfl rfl hp153) (oSk (sF rfl rfl rfl rfl hp153) (oY rfl (ad (vB hp153) rfl) ?_)))
                          obtain rfl:=sI h
                          exact key _ _ (kp4 (kp4 (kp rfl)))
                       ·rcases al b150 with hp152 | hp152
                        ·refine oY (sT rfl rfl rfl rfl hp152) (yMI rfl) (oY (sT rfl rfl rfl rfl hp152) (cL rfl rfl) (oY rfl (ac (vB hp152) rfl) ?_))
                         exact key _ _ (keep (keep (keep (keep (keep (keep (keep (keep (keep (keep rfl rfl) rfl) rfl) rfl) rfl) rfl) rfl) rfl) rfl) (vB (gn hp152)))
                        ·refine oSk (sF rfl rfl rfl rfl hp152) (oSk (sF rfl rfl rfl rfl hp152) (oY rfl (ad (vB hp152) rfl) ?_))
                         exact key _ _ (keep (keep (keep (keep (keep (keep (keep (keep (keep (keep rfl rfl) rfl) rfl) rfl) rfl) rfl) rfl) rfl) rfl) (vB (gr hp152)))
                      ·clear h; rcases iOs hb151 with ⟨hp149,h⟩ | ⟨hp149,h⟩
                       ·refine oY (sT rfl rfl rfl rfl hp149) (yN 5 [.slice A16 y14.fB.length c17,.slice A18 y14.fR.length c19] dc rfl rfl rfl) (oY (sT rfl rfl rfl rfl hp149) (yN 17 [.slice A118 y116.1.fG.length c119,vI y116.1.fW,.slice A120 y116.1.fPrices.length c121] tc rfl rfl rfl) ?_)
                        obtain ⟨y176,hy177,h⟩:=bOs h
                        refine oY (sT rfl rfl rfl rfl hp149) (yC [.agg #[.slice A16 y14.fB.length c17,.slice A18 y14.fR.length c19],.agg #[.slice A118 y116.1.fG.length c119,vI y116.1.fW,.slice A120 y116.1.fPrices.length c121]] go_44 rfl (fun W2 hW2 => lr y14 y116.1 y176 hy177 W2 A16 y14.fB.length c17 rfl ((RdL.row 3 rfl) W2 hW2) A18 y14.fR.length c19 rfl ((RdL.row 4 rfl) W2 hW2) A118 y116.1.fG.length c119 rfl ((RdL.row 15 rfl) W2 hW2) A120 y116.1.fPrices.length c121 rfl ((RdL.row 16 rfl) W2 hW2)) rfl) (oY (sT rfl rfl rfl rfl hp149) (cL rfl rfl) (oY rfl (ac (vB hp149) rfl) ?_))
                        obtain rfl:=sI h
                        exact key _ _ (kp4 (kp4 (kp (kp (kp rfl)))))
                       ·refine oSk (sF rfl rfl rfl rfl hp149) (oSk (sF rfl rfl rfl rfl hp149) (oSk (sF rfl rfl rfl rfl hp149) (oSk (sF rfl rfl rfl rfl hp149) (oY rfl (ad (vB hp149) rfl) ?_))))
                        obtain rfl:=sI h
                        exact key _ _ (kp4 (kp4 (kp (kp (kp rfl)))))
                     ·rcases al (y116.2 == 0) with hp148 | hp148
                      ·refine oY (sT rfl rfl rfl rfl hp148) (yFA oS rfl) (oY (sT rfl rfl rfl rfl hp148) (yL 17 a8 rfl rfl rfl) (oY (sT rfl rfl rfl rfl hp148) (cL rfl rfl) (oY rfl (ac (vB hp148) rfl) ?_)))
                       exact key _ _ (keep (keep (keep (keep (keep (keep (keep (keep (keep (keep (keep (keep (keep rfl rfl) rfl) rfl) rfl) rfl) rfl) rfl) rfl) rfl) rfl) rfl) rfl) (vB (gn hp148)))
                      ·refine oSk (sF rfl rfl rfl rfl hp148) (oSk (sF rfl rfl rfl rfl hp148) (oSk (sF rfl rfl rfl rfl hp148) (oY rfl (ad (vB hp148) rfl) ?_)))
                       exact key _ _ (keep (keep (keep (keep (keep (keep (keep (keep (keep (keep (keep (keep (keep rfl rfl) rfl) rfl) rfl) rfl) rfl) rfl) rfl) rfl) rfl) rfl) rfl) (vB (gr hp148)))
                    ·clear h; rcases iOs hb115 with ⟨hp113,h⟩ | ⟨hp113,h⟩
                     ·refine oY (sT rfl rfl rfl rfl hp113) (yMS rfl) ?_
                      refine aK 1 (encL cI [3]) _ na cU mh oW (by decide) (by decide) (by kernel_rfl) (eL aD rfl) (sT rfl rfl rfl rfl hp113) (fun b178 => ?_)
                      try dsimp only [lna,lca,lsz,lss]
                      obtain ⟨y179,hy180,h⟩:=bOs h
                      refine oY (sT rfl rfl rfl rfl hp113) (yC [.slice A74 y72.1.length c75,.slice (some ⟨b178,0,none⟩) 1 1] tA rfl (fun W2 hW2 => dj y72.1 [3] y179 hy180 W2 A74 y72.1.length c75 rfl ((RdL.row 14 rfl) W2 hW2) (some ⟨b178,0,none⟩) 1 1 rfl ((RdL.row 15 rfl) W2 hW2)) rfl) (oY rfl (ac (vB hp113) rfl) ?_)
                      obtain rfl:=sI h
                      refine mM 15 ?_
                      exact key _ _ (kp (kp (kp rfl)))
                     ·refine oSk (sF rfl rfl rfl rfl hp113) (oSk (sF rfl rfl rfl rfl hp113) (oSk (sF rfl rfl rfl rfl hp113) (oY rfl (ad (vB hp113) rfl) ?_)))
                      obtain rfl:=sI h
                      exact key _ _ (kp (kp (kp rfl)))
                   ·clear h; rcases iOs hb112 with ⟨hp110,h⟩ | ⟨hp110,h⟩
                    ·refine oY (sT rfl rfl rfl rfl hp110) (yMS rfl) ?_
                     refine aK 2 (encL cI [1,2]) _ rQ cU mh oW (by decide) (by decide) (by kernel_rfl) (eL aD rfl) (sT rfl rfl rfl rfl hp110) (fun b181 => ?_)
                     try dsimp only [lna,lca,lsz,lss]
                     obtain ⟨y182,hy183,h⟩:=bOs h
                     refine oY (sT rfl rfl rfl rfl hp110) (yC [.slice A68 y66.1.length c69,.slice (some ⟨b181,0,none⟩) 2 2] tA rfl (fun W2 hW2 => dj y66.1 [1,2] y182 hy183 W2 A68 y66.1.length c69 rfl ((RdL.row 13 rfl) W2 hW2) (some ⟨b181,0,none⟩) 2 2 rfl ((RdL.row 15 rfl) W2 hW2)) rfl) (oY rfl (ac (vB hp110) rfl) ?_)
                     obtain rfl:=sI h
                     refine mM 15 ?_
                     exact key _ _ (kp4 rfl)
                    ·refine oSk (sF rfl rfl rfl rfl hp110) (oSk (sF rfl rfl rfl rfl hp110) (oSk (sF rfl rfl rfl rfl hp110) (oY rfl (ad (vB hp110) rfl) ?_)))
                     obtain rfl:=sI h
                     exact key _ _ (kp4 rfl)
                  ·rcases al (b106 && (y53.1.fA == 17)) with hp109 | hp109
                   ·refine oY (sT rfl rfl rfl rfl hp109) (yMI rfl) (oY (sT rfl rfl rfl rfl hp109) (cL rfl rfl) (oY rfl (ac (vB hp109) rfl) ?_))
                    exact key _ _ (keep (keep (keep (keep (keep rfl rfl) rfl) rfl) rfl) (vB (gn hp109)))
                   ·refine oSk (sF rfl rfl rfl rfl hp109) (oSk (sF rfl rfl rfl rfl hp109) (oY rfl (ad (vB hp109) rfl) ?_))
                    exact key _ _ (keep (keep (keep (keep (keep rfl rfl) rfl) rfl) rfl) (vB (gr hp109)))
                 ·rcases al b106 with hp108 | hp108
                  ·refine oY (sT rfl rfl rfl rfl hp108) (yFA j6 rfl) (oY (sT rfl rfl rfl rfl hp108) (yL 12 a8 rfl rfl rfl) (oY (sT rfl rfl rfl rfl hp108) (cL rfl rfl) (oY rfl (ac (vB hp108) rfl) ?_)))
                   exact key _ _ (keep (keep (keep (keep (keep (keep rfl rfl) rfl) rfl) rfl) rfl) (vB (gn hp108)))
                  ·refine oSk (sF rfl rfl rfl rfl hp108) (oSk (sF rfl rfl rfl rfl hp108) (oSk (sF rfl rfl rfl rfl hp108) (oY rfl (ad (vB hp108) rfl) ?_)))
                   exact key _ _ (keep (keep (keep (keep (keep (keep rfl rfl) rfl) rfl) rfl) rfl) (vB (gr hp108)))
                ·clear h; rcases iOs hb107 with ⟨hp105,h⟩ | ⟨hp105,h⟩
                 ·refine oY (sT rfl rfl rfl rfl hp105) (yMS rfl) ?_
                  obtain ⟨hg184,h⟩:=gOs h
                  refine oY (sT rfl rfl rfl rfl hp105) (yI qp (by decide) hg184.1 hg184.2 (RdL.row 9 rfl) (eL ba (NestP.hn hP49 rfl)) rfl rfl) ?_
                  refine oY (sT rfl rfl rfl rfl hp105) (yFR (A:=A45) (j:=(Int.toNat 2 * 3)) lO rfl) (oY (sT rfl rfl rfl rfl hp105) (yR (A:=A45) (j:=((Int.toNat 2 * 3) + 2)) (v:=vI ((rdL y41.1 2).fToll)) a8 (RdL.row 9 rfl) rfl (eG ba hg184.1 (ap hg184.2 (NestP.hn hP49 rfl)) (congrArg (fun z : TJ => some (Value.int .i64 z.fToll)) (NestP.snd hP49 2)))) (oY (sT rfl rfl rfl rfl hp105) (cL rfl rfl) (oY rfl (ac (vB hp105) rfl) ?_)))
                  obtain rfl:=sI h
                  exact key _ _ (kp4 (kp (kp (kp rfl))))
                 ·refine oSk (sF rfl rfl rfl rfl hp105) (oSk (sF rfl rfl rfl rfl hp105) (oSk (sF rfl rfl rfl rfl hp105) (oSk (sF rfl rfl rfl rfl hp105) (oSk (sF rfl rfl rfl rfl hp105) (oY rfl (ad (vB hp105) rfl) ?_)))))
                  obtain rfl:=sI h
                  exact key _ _ (kp4 (kp (kp (kp rfl))))
               ·clear h; rcases iOs hb104 with ⟨hp102,h⟩ | ⟨hp102,h⟩
                ·refine oY (sT rfl rfl rfl rfl hp102) (yMS rfl) ?_
                 obtain ⟨hg185,h⟩:=gOs h
                 refine oY (sT rfl rfl rfl rfl hp102) (yI qp (by decide) hg185.1 hg185.2 (RdL.row 9 rfl) (eL ba (NestP.hn hP49 rfl)) rfl rfl) ?_
                 refine oY (sT rfl rfl rfl rfl hp102) (yFR (A:=A45) (j:=(Int.toNat 1 * 3)) j6 rfl) (oY (sT rfl rfl rfl rfl hp102) (yR (A:=A45) (j:=((Int.toNat 1 * 3) + 1)) (v:=vI ((rdL y41.1 1).fA)) a8 (RdL.row 9 rfl) rfl (eG ba hg185.1 (ap hg185.2 (NestP.hn hP49 rfl)) (congrArg (fun z : TJ => some (Value.int .i64 z.fA)) (NestP.snd hP49 1)))) (oY (sT rfl rfl rfl rfl hp102) (cL rfl rfl) (oY rfl (ac (vB hp102) rfl) ?_)))
                 obtain rfl:=sI h
                 exact key _ _ (kp4 (kp4 rfl))
                ·refine oSk (sF rfl rfl rfl rfl hp102) (oSk (sF rfl rfl rfl rfl hp102) (oSk (sF rfl rfl rfl rfl hp102) (oSk (sF rfl rfl rfl rfl hp102) (oSk (sF rfl rfl rfl rfl hp102) (oY rfl (ad (vB hp102) rfl) ?_)))))
                 obtain rfl:=sI h
                 exact key _ _ (kp4 (kp4 rfl))
              ·clear h; rcases iOs hb101 with ⟨hp99,h⟩ | ⟨hp99,h⟩
               ·refine oY (sT rfl rfl rfl rfl hp99) (yMS rfl) ?_
                obtain ⟨hg186,h⟩:=gOs h
                refine oY (sT rfl rfl rfl rfl hp99) (yI qp (by decide) hg186.1 hg186.2 (RdL.row 9 rfl) (eL ba (NestP.hn hP49 rfl)) rfl rfl) ?_
                refine oY (sT rfl rfl rfl rfl hp99) (yFR (A:=A45) (j:=(Int.toNat 0 * 3)) lO rfl) (oY (sT rfl rfl rfl rfl hp99) (yR (A:=A45) (j:=((Int.toNat 0 * 3) + 2)) (v:=vI ((rdL y41.1 0).fToll)) a8 (RdL.row 9 rfl) rfl (eG ba hg186.1 (ap hg186.2 (NestP.hn hP49 rfl)) (congrArg (fun z : TJ => some (Value.int .i64 z.fToll)) (NestP.snd hP49 0)))) (oY (sT rfl rfl rfl rfl hp99) (cL rfl rfl) (oY rfl (ac (vB hp99) rfl) ?_)))
                obtain rfl:=sI h
                exact key _ _ (kp4 (kp4 rfl))
               ·refine oSk (sF rfl rfl rfl rfl hp99) (oSk (sF rfl rfl rfl rfl hp99) (oSk (sF rfl rfl rfl rfl hp99) (oSk (sF rfl rfl rfl rfl hp99) (oSk (sF rfl rfl rfl rfl hp99) (oY rfl (ad (vB hp99) rfl) ?_)))))
                obtain rfl:=sI h
                exact key _ _ (kp4 (kp4 rfl))
             ·clear h; rcases iOs hb98 with ⟨hp96,h⟩ | ⟨hp96,h⟩
              ·refine oY (sT rfl rfl rfl rfl hp96) (yFA dM rfl) (oY (sT rfl rfl rfl rfl hp96) (yL 8 jC rfl rfl rfl) ?_)
               obtain ⟨hg187,h⟩:=gOs h
               refine oY (sT rfl rfl rfl rfl hp96) (yI m9 (by decide) hg187.1 hg187.2 (RdL.row 6 rfl) (eL az (NestP.hn hP36 rfl)) rfl rfl) ?_
               refine oY (sT rfl rfl rfl rfl hp96) (yR (A:=A32) (j:=(Int.toNat 2 * 1)) (v:=.slice ((rdL ys37 2).1.1) ((rdL y28.1.fH 2).length) ((rdL ys37 2).1.2.2)) kz (RdL.row 6 rfl) rfl (aG az hg187.1 (ap hg187.2 (NestP.hn hP36 rfl)) (congrArg (fun n : Nat => some (Value.slice (rdL ys37 2).1.1 n (rdL ys37 2).1.2.2)) (NestP.len hP36 hg187.1 (ap hg187.2 rfl))))) ?_
               obtain ⟨hg188,h⟩:=gOs h
               refine oY (sT rfl rfl rfl rfl hp96) (yI dz (by decide) hg188.1 hg188.2 (NestL.rd (PvL.nestL hP36 hV39 (fun W2 hW2 => ⟨hW2.below,trivial,hW2.mem (i:=7) rfl⟩)) hg187.1 (ap hg187.2 rfl)) (eL aD rfl) rfl rfl) ?_
               refine oY (sT rfl rfl rfl rfl hp96) (yR (A:=((rdL ys37 2).1.1)) (j:=(Int.toNat 6 * 1)) (v:=vI (rdL (rdL y28.1.fH 2) 6)) a8 (NestL.rd (PvL.nestL hP36 hV39 (fun W2 hW2 => ⟨hW2.below,trivial,hW2.mem (i:=7) rfl⟩)) hg187.1 (ap hg187.2 rfl)) rfl (aG aD hg188.1 (ap hg188.2 rfl) rfl)) (oY (sT rfl rfl rfl rfl hp96) (cL rfl rfl) (oY rfl (ac (vB hp96) rfl) ?_))
               obtain rfl:=sI h
               exact key _ _ (kp4 (kp4 rfl))
              ·refine oSk (sF rfl rfl rfl rfl hp96) (oSk (sF rfl rfl rfl rfl hp96) (oSk (sF rfl rfl rfl rfl hp96) (oSk (sF rfl rfl rfl rfl hp96) (oSk (sF rfl rfl rfl rfl hp96) (oSk (sF rfl rfl rfl rfl hp96) (oSk (sF rfl rfl rfl rfl hp96) (oY rfl (ad (vB hp96) rfl) ?_)))))))
               obtain rfl:=sI h
               exact key _ _ (kp4 (kp4 rfl))
            ·clear h; rcases iOs hb95 with ⟨hp93,h⟩ | ⟨hp93,h⟩
             ·refine oY (sT rfl rfl rfl rfl hp93) (yFA dM rfl) (oY (sT rfl rfl rfl rfl hp93) (yL 8 jC rfl rfl rfl) ?_)
              obtain ⟨hg189,h⟩:=gOs h
              refine oY (sT rfl rfl rfl rfl hp93) (yI m9 (by decide) hg189.1 hg189.2 (RdL.row 6 rfl) (eL az (NestP.hn hP36 rfl)) rfl rfl) ?_
              refine oY (sT rfl rfl rfl rfl hp93) (yR (A:=A32) (j:=(Int.toNat 2 * 1)) (v:=.slice ((rdL ys37 2).1.1) ((rdL y28.1.fH 2).length) ((rdL ys37 2).1.2.2)) kz (RdL.row 6 rfl) rfl (aG az hg189.1 (ap hg189.2 (NestP.hn hP36 rfl)) (congrArg (fun n : Nat => some (Value.slice (rdL ys37 2).1.1 n (rdL ys37 2).1.2.2)) (NestP.len hP36 hg189.1 (ap hg189.2 rfl))))) ?_
              obtain ⟨hg190,h⟩:=gOs h
              refine oY (sT rfl rfl rfl rfl hp93) (yI dz (by decide) hg190.1 hg190.2 (NestL.rd (PvL.nestL hP36 hV39 (fun W2 hW2 => ⟨hW2.below,trivial,hW2.mem (i:=7) rfl⟩)) hg189.1 (ap hg189.2 rfl)) (eL aD rfl) rfl rfl) ?_
              refine oY (sT rfl rfl rfl rfl hp93) (yR (A:=((rdL ys37 2).1.1)) (j:=(Int.toNat 2 * 1)) (v:=vI (rdL (rdL y28.1.fH 2) 2)) a8 (NestL.rd (PvL.nestL hP36 hV39 (fun W2 hW2 => ⟨hW2.below,trivial,hW2.mem (i:=7) rfl⟩)) hg189.1 (ap hg189.2 rfl)) rfl (aG aD hg190.1 (ap hg190.2 rfl) rfl)) (oY (sT rfl rfl rfl rfl hp93) (cL rfl rfl) (oY rfl (ac (vB hp93) rfl) ?_))
              obtain rfl:=sI h
              exact key _ _ (kp4 (kp4 (kp rfl)))
             ·refine oSk (sF rfl rfl rfl rfl hp93) (oSk (sF rfl rfl rfl rfl hp93) (oSk (sF rfl rfl rfl rfl hp93) (oSk (sF rfl rfl rfl rfl hp93) (oSk (sF rfl rfl rfl rfl hp93) (oSk (sF rfl rfl rfl rfl hp93) (oSk (sF rfl rfl rfl rfl hp93) (oY rfl (ad (vB hp93) rfl) ?_)))))))
              obtain rfl:=sI h
              exact key _ _ (kp4 (kp4 (kp rfl)))
          ·rcases al b87 with hp89 | hp89
           ·refine oSk (sF rfl rfl rfl rfl hp89) (oSk (sF rfl rfl rfl rfl hp89) (oSk (sF rfl rfl rfl rfl hp89) (oY rfl (ac (vB hp89) rfl) ?_)))
            exact key _ _ (keep (keep (keep (keep (keep (keep (keep (keep (keep rfl rfl) rfl) rfl) rfl) rfl) rfl) rfl) rfl) (vB (iS hp89)))
           ·refine oY (sT rfl rfl rfl rfl hp89) (yMS rfl) (oY (sT rfl rfl rfl rfl hp89) (bk (us:=[]) qC rfl) (oY (sT rfl rfl rfl rfl hp89) (dD rfl rfl) (oY rfl (ad (vB hp89) rfl) ?_)))
            exact key _ _ (keep (keep (keep (keep (keep (keep (keep (keep (keep rfl rfl) rfl) rfl) rfl) rfl) rfl) rfl) rfl) (vB (iT hp89)))
         ·clear h; rcases iOs hb88 with ⟨hp86,h⟩ | ⟨hp86,h⟩
          ·refine oSk (sF rfl rfl rfl rfl hp86) (oSk (sF rfl rfl rfl rfl hp86) (oSk (sF rfl rfl rfl rfl hp86) (oSk (sF rfl rfl rfl rfl hp86) (oSk (sF rfl rfl rfl rfl hp86) (oSk (sF rfl rfl rfl rfl hp86) (oY rfl (ac (vB hp86) rfl) ?_))))))
           obtain rfl:=sI h
           exact key _ _ (kp4 (kp4 (kp rfl)))
          ·refine oY (sT rfl rfl rfl rfl hp86) (yFA dM rfl) (oY (sT rfl rfl rfl rfl hp86) (yL 8 jC rfl rfl rfl) ?_)
           obtain ⟨hg191,h⟩:=gOs h
           refine oY (sT rfl rfl rfl rfl hp86) (yI m9 (by decide) hg191.1 hg191.2 (RdL.row 6 rfl) (eL az (NestP.hn hP36 rfl)) rfl rfl) ?_
           refine oY (sT rfl rfl rfl rfl hp86) (yR (A:=A32) (j:=(Int.toNat 2 * 1)) (v:=.slice ((rdL ys37 2).1.1) ((rdL y28.1.fH 2).length) ((rdL ys37 2).1.2.2)) kz (RdL.row 6 rfl) rfl (aG az hg191.1 (ap hg191.2 (NestP.hn hP36 rfl)) (congrArg (fun n : Nat => some (Value.slice (rdL ys37 2).1.1 n (rdL ys37 2).1.2.2)) (NestP.len hP36 hg191.1 (ap hg191.2 rfl))))) (oY (sT rfl rfl rfl rfl hp86) (bk (us:=[]) cU rfl) (oY (sT rfl rfl rfl rfl hp86) (dD rfl rfl) (oY rfl (ad (vB hp86) rfl) ?_)))
           obtain rfl:=sI h
           exact key _ _ (kp4 (kp4 (kp rfl)))
        ·rcases al ((((((((y26.2 != 0) || (y28.2 != 0)) || (y41.2 != 0)) || (y53.2 != 0)) || (y64.2 != 0)) || (y66.2 != 0)) || (y72.2 != 0)) || (y26.1 != 21)) with hp85 | hp85
         ·refine oSk (sF rfl rfl rfl rfl hp85) (oSk (sF rfl rfl rfl rfl hp85) (oSk (sF rfl rfl rfl rfl hp85) (oSk (sF rfl rfl rfl rfl hp85) (oY rfl (ac (vB hp85) rfl) ?_))))
          exact key _ _ (keep (keep (keep (keep (keep (keep (keep (keep (keep rfl rfl) rfl) rfl) rfl) rfl) rfl) rfl) rfl) (vB (iS hp85)))
         ·refine oY (sT rfl rfl rfl rfl hp85) (yFA dM rfl) (oY (sT rfl rfl rfl rfl hp85) (yL 8 jC rfl rfl rfl) (oY (sT rfl rfl rfl rfl hp85) (bk (us:=[]) pC rfl) (oY (sT rfl rfl rfl rfl hp85) (dD rfl rfl) (oY rfl (ad (vB hp85) rfl) ?_))))
          exact key _ _ (keep (keep (keep (keep (keep (keep (keep (keep (keep rfl rfl) rfl) rfl) rfl) rfl) rfl) rfl) rfl) (vB (iT hp85)))
       ·rcases al (((((((y26.2 != 0) || (y28.2 != 0)) || (y41.2 != 0)) || (y53.2 != 0)) || (y64.2 != 0)) || (y66.2 != 0)) || (y72.2 != 0)) with hp84 | hp84
        ·refine oSk (sF rfl rfl rfl rfl hp84) (oSk (sF rfl rfl rfl rfl hp84) (oY rfl (ac (vB hp84) rfl) ?_))
         exact key _ _ (keep (keep (keep (keep (keep (keep (keep (keep (keep rfl rfl) rfl) rfl) rfl) rfl) rfl) rfl) rfl) (vB (iS hp84)))
        ·refine oY (sT rfl rfl rfl rfl hp84) (yMI rfl) (oY (sT rfl rfl rfl rfl hp84) (dD rfl rfl) (oY rfl (ad (vB hp84) rfl) ?_))
         exact key _ _ (keep (keep (keep (keep (keep (keep (keep (keep (keep rfl rfl) rfl) rfl) rfl) rfl) rfl) rfl) rfl) (vB (iT hp84)))
      ·rcases al ((((((y26.2 != 0) || (y28.2 != 0)) || (y41.2 != 0)) || (y53.2 != 0)) || (y64.2 != 0)) || (y66.2 != 0)) with hp83 | hp83
       ·refine oSk (sF rfl rfl rfl rfl hp83) (oSk (sF rfl rfl rfl rfl hp83) (oY rfl (ac (vB hp83) rfl) ?_))
        exact key _ _ (keep (keep (keep (keep (keep (keep (keep (keep (keep (keep rfl rfl) rfl) rfl) rfl) rfl) rfl) rfl) rfl) rfl) (vB (iS hp83)))
       ·refine oY (sT rfl rfl rfl rfl hp83) (yMI rfl) (oY (sT rfl rfl rfl rfl hp83) (dD rfl rfl) (oY rfl (ad (vB hp83) rfl) ?_))
        exact key _ _ (keep (keep (keep (keep (keep (keep (keep (keep (keep (keep rfl rfl) rfl) rfl) rfl) rfl) rfl) rfl) rfl) rfl) (vB (iT hp83)))
     ·rcases al (((((y26.2 != 0) || (y28.2 != 0)) || (y41.2 != 0)) || (y53.2 != 0)) || (y64.2 != 0)) with hp82 | hp82
      ·refine oSk (sF rfl rfl rfl rfl hp82) (oSk (sF rfl rfl rfl rfl hp82) (oY rfl (ac (vB hp82) rfl) ?_))
       exact key _ _ (keep (keep (keep (keep (keep (keep (keep (keep (keep (keep (keep rfl rfl) rfl) rfl) rfl) rfl) rfl) rfl) rfl) rfl) rfl) (vB (iS hp82)))
      ·refine oY (sT rfl rfl rfl rfl hp82) (yMI rfl) (oY (sT rfl rfl rfl rfl hp82) (dD rfl rfl) (oY rfl (ad (vB hp82) rfl) ?_))
       exact key _ _ (keep (keep (keep (keep (keep (keep (keep (keep (keep (keep (keep rfl rfl) rfl) rfl) rfl) rfl) rfl) rfl) rfl) rfl) rfl) (vB (iT hp82)))
    ·rcases al ((((y26.2 != 0) || (y28.2 != 0)) || (y41.2 != 0)) || (y53.2 != 0)) with hp81 | hp81
     ·refine oSk (sF rfl rfl rfl rfl hp81) (oSk (sF rfl rfl rfl rfl hp81) (oY rfl (ac (vB hp81) rfl) ?_))
      exact key _ _ (keep (keep (keep (keep (keep (keep (keep (keep (keep (keep (keep (keep rfl rfl) rfl) rfl) rfl) rfl) rfl) rfl) rfl) rfl) rfl) rfl) (vB (iS hp81)))
     ·refine oY (sT rfl rfl rfl rfl hp81) (yMI rfl) (oY (sT rfl rfl rfl rfl hp81) (dD rfl rfl) (oY rfl (ad (vB hp81) rfl) ?_))
      exact key _ _ (keep (keep (keep (keep (keep (keep (keep (keep (keep (keep (keep (keep rfl rfl) rfl) rfl) rfl) rfl) rfl) rfl) rfl) rfl) rfl) rfl) (vB (iT hp81)))
   ·rcases al (((y26.2 != 0) || (y28.2 != 0)) || (y41.2 != 0)) with hp80 | hp80
    ·refine oSk (sF rfl rfl rfl rfl hp80) (oSk (sF rfl rfl rfl rfl hp80) (oY rfl (ac (vB hp80) rfl) ?_))
     exact key _ _ (keep (keep (keep (keep (keep (keep (keep (keep (keep (keep (keep (keep (keep rfl rfl) rfl) rfl) rfl) rfl) rfl) rfl) rfl) rfl) rfl) rfl) rfl) (vB (iS hp80)))
    ·refine oY (sT rfl rfl rfl rfl hp80) (yMI rfl) (oY (sT rfl rfl rfl rfl hp80) (dD rfl rfl) (oY rfl (ad (vB hp80) rfl) ?_))
     exact key _ _ (keep (keep (keep (keep (keep (keep (keep (keep (keep (keep (keep (keep (keep rfl rfl) rfl) rfl) rfl) rfl) rfl) rfl) rfl) rfl) rfl) rfl) rfl) (vB (iT hp80)))
  ·rcases al ((y26.2 != 0) || (y28.2 != 0)) with hp79 | hp79
   ·refine oSk (sF rfl rfl rfl rfl hp79) (oSk (sF rfl rfl rfl rfl hp79) (oY rfl (ac (vB hp79) rfl) ?_))
    exact key _ _ (keep (keep (keep (keep (keep (keep (keep (keep (keep (keep (keep (keep (keep (keep rfl rfl) rfl) rfl) rfl) rfl) rfl) rfl) rfl) rfl) rfl) rfl) rfl) rfl) (vB (iS hp79)))
   ·refine oY (sT rfl rfl rfl rfl hp79) (yMI rfl) (oY (sT rfl rfl rfl rfl hp79) (dD rfl rfl) (oY rfl (ad (vB hp79) rfl) ?_))
    exact key _ _ (keep (keep (keep (keep (keep (keep (keep (keep (keep (keep (keep (keep (keep (keep rfl rfl) rfl) rfl) rfl) rfl) rfl) rfl) rfl) rfl) rfl) rfl) rfl) rfl) (vB (iT hp79)))
 ·rcases al (y26.2 != 0) with hp78 | hp78
  ·refine oSk (sF rfl rfl rfl rfl hp78) (oSk (sF rfl rfl rfl rfl hp78) (oY rfl (ac (vB hp78) rfl) ?_))
   exact key _ _ (keep (keep (keep (keep (keep (keep (keep (keep (keep (keep (keep (keep (keep (keep (keep rfl rfl) rfl) rfl) rfl) rfl) rfl) rfl) rfl) rfl) rfl) rfl) rfl) rfl) rfl) (vB (iS hp78)))
  ·refine oY (sT rfl rfl rfl rfl hp78) (yMI rfl) (oY (sT rfl rfl rfl rfl hp78) (dD rfl rfl) (oY rfl (ad (vB hp78) rfl) ?_))
   exact key _ _ (keep (keep (keep (keep (keep (keep (keep (keep (keep (keep (keep (keep (keep (keep (keep rfl rfl) rfl) rfl) rfl) rfl) rfl) rfl) rfl) rfl) rfl) rfl) rfl) rfl) rfl) (vB (iT hp78)))
end Go.Proofs.YthndghnkebboaaaGreat
set_option maxHeartbeats 4000000
set_option maxRecDepth 100000
namespace Go.Proofs.YthndghnkebboaaaGreat
open Go.RowKit (Below)
attribute [local irreducible] OX QX CX EX OpY Calls CallsIn
theorem mu (p0:TR) (res:Bool) (h:fq p0 = some res) (W:World) (Ab:Option Addr) (n0_1 cb : Nat) (ys0_1:List (Hd × TT)) (hn0_1:n0_1 = p0.fTracks.length) (hr0_1:Rd W Ab n0_1 cb (encL TTrack_cells2 ys0_1)) (hN0_1:NestW W (fun z : TT => z.fK) TSpan_cells ys0_1 p0.fTracks) :
  Calls Tryz.prog 16 [.agg #[vI p0.fPlaces,.slice Ab n0_1 cb]].toArray W fun e W2 => e = .returned (.bool res) ∧ Ext W W2 []:=by
 subst hn0_1
 unfold fq at h
 refine ab (m:=49) Tryz.func16 rfl rfl (nB rfl) (cS (cR ?_))
 refine aN [vI p0.fPlaces,.slice Ab p0.fTracks.length cb] rfl rfl rfl (fun b1 => ?_)
 refine oY rfl (yAB rfl) (oN (eT (cS (cS (cR (oY rfl (yAI rfl) (oN (eT (cB ?_)))))))))
 obtain ⟨u4,hl8,h⟩:=bOs h
 refine bt (fun (s:(Bool × Int)) L tm => ∃ (tm0:Nat → Value),L = [ai b1 24 [vI p0.fPlaces,.slice Ab p0.fTracks.length cb]] ∧ tm = (upd (upd (upd tm0 1 (.pointer (some ⟨b1,0,none⟩))) 2 (.bool s.1)) 3 (vI s.2))) 0 hl8 ⟨_,rfl,(kp (kp (kp rfl)))⟩ ?_ ?_
 ·rintro s3 L tm st ⟨tm0_s3,rfl,rfl⟩ h
  unfold eK at h
  refine cS (cS (cR (oY rfl (yMI rfl) (oY rfl (yFA dL rfl) (oY rfl (yL 0 jx rfl rfl rfl) (oY rfl (bk (us:=[]) iW rfl) (oY rfl (bl rfl rfl) (oN (eT ?_)))))))))
  rcases iOs h with ⟨hp5,h⟩ | ⟨hp5,h⟩
  ·refine cT (vB hp5) (cK (eT (cS (cB (cS (cR (oY rfl (yFA dL rfl) (oY rfl (yL 0 jx rfl rfl rfl) (oY rfl (yMI rfl) ?_)))))))))
   obtain ⟨hg6,h⟩:=gOs h
   refine oY rfl (yI kn (by decide) hg6.1 hg6.2 (RdL.arg hr0_1) (eL au (NestP.hn hN0_1.p rfl)) rfl rfl) ?_
   refine oY rfl (yFR (A:=Ab) (j:=(Int.toNat s3.2 * 6)) mF rfl) (oY rfl (yR (A:=Ab) (j:=((Int.toNat s3.2 * 6) + 5)) (v:=.slice ((rdL ys0_1 s3.2).1.1) ((rdL p0.fTracks s3.2).fK.length) ((rdL ys0_1 s3.2).1.2.2)) qU (RdL.arg hr0_1) rfl (eG au hg6.1 (ap hg6.2 (NestP.hn hN0_1.p rfl)) (congrArg (fun n : Nat => some (Value.slice (rdL ys0_1 s3.2).1.1 n (rdL ys0_1 s3.2).1.2.2)) (NestP.len hN0_1.p hg6.1 (ap hg6.2 rfl))))) (oY rfl (bk (us:=[]) pz rfl) (oY rfl (gq rfl rfl) (oN (eT ?_)))))
   rcases iOs h with ⟨hp7,h⟩ | ⟨hp7,h⟩
   ·refine cT (vB hp7) (cS (cR (oY rfl (yAB rfl) (oN (eT (ak (ah (aa ?_))))))))
    obtain rfl:=sI h
    exact aw ⟨rfl,_,rfl,(kp (kp (kp rfl)))⟩
   ·refine cF (vB hp7) (cK (ax (eT (cR (oY rfl (yMI rfl) (oY rfl (aZ rfl rfl) (oY rfl (yAI rfl) (oN ?_))))))))
    obtain rfl:=sI h
    exact eN ⟨_,rfl,(kp (kp (kp rfl)))⟩
  ·refine cF (vB hp5) (aE (ag ?_))
   obtain rfl:=sI h
   exact aw ⟨rfl,_,rfl,(kp (kp (kp rfl)))⟩
 ·intro e L tm hJ
  rcases u4 with u9 | u10
  ·dsimp only at h hJ
   obtain ⟨rfl,tm0_u9,rfl,rfl⟩:=hJ
   refine ⟨(by intro hc; cases hc),?_⟩
   refine ah (aa ?_)
   obtain rfl:=sI h
   exact aj (.inl rfl) rfl (rVt (v:=.bool u9.1) rfl) (fun W2 hW2 => ⟨rfl,hW2.none⟩)
  ·dsimp only at h hJ
   obtain ⟨rfl,tm0_u10,rfl,rfl⟩:=hJ
   refine ⟨(by intro hc; cases hc),?_⟩
   refine ae (eT (cS (cR (oY rfl (yFA iY rfl) (oY rfl (yL 0 a8 rfl rfl rfl) (oY rfl (ju rfl rfl) (oY rfl (yMB rfl) ?_)))))))
   refine oJ 4 (fun tm0 => (upd (upd (upd tm0 1 (.pointer (some ⟨b1,0,none⟩))) 2 (.bool u10.1)) 28 (.bool ((decide (p0.fPlaces ≤ 8)) || (decide (16 < p0.fPlaces)))))) (fun tm0 => ?_) (fun key => ?_)
   ·refine oY rfl (yAB rfl) (oN (eT (cS (cR (oY rfl (yFA dL rfl) (oY rfl (yL 0 jx rfl rfl rfl) (oY rfl (bk (us:=[]) iW rfl) (oY rfl (ju rfl rfl) (oY rfl (yMB rfl) ?_)))))))))
    refine oJ 11 (fun tm0 => (upd (upd (upd tm0 2 (.bool u10.1)) 4 (.bool ((decide (p0.fPlaces ≤ 8)) || (decide (16 < p0.fPlaces))))) 44 (.bool ((decide ((p0.fTracks.length:Int) ≤ 16)) || ((decide (48 < (p0.fTracks.length:Int))) && (decide ((p0.fTracks.length:Int) ≤ 60))))))) (fun tm0 => ?_) (fun key => ?_)
    ·refine oY rfl (yAB rfl) (oN (eT (cS (cR (oY rfl (yMB rfl) (oY rfl (yMB rfl) ?_))))))
     refine oJ 2 (fun tm0 => (upd (upd tm0 2 (.bool u10.1)) 48 (.bool (((decide (p0.fPlaces ≤ 8)) || (decide (16 < p0.fPlaces))) && ((decide ((p0.fTracks.length:Int) ≤ 16)) || ((decide (48 < (p0.fTracks.length:Int))) && (decide ((p0.fTracks.length:Int) ≤ 60)))))))) (fun tm0 => ?_) (fun key => ?_)
     ·refine oY rfl (yAB rfl) (oN (eT (ak ?_)))
      obtain rfl:=sI h
      exact aj (.inl rfl) rfl (rVt (v:=.bool (((decide (p0.fPlaces ≤ 8)) || (decide (16 < p0.fPlaces))) && ((decide ((p0.fTracks.length:Int) ≤ 16)) || ((decide (48 < (p0.fTracks.length:Int))) && (decide ((p0.fTracks.length:Int) ≤ 60)))))) rfl) (fun W2 hW2 => ⟨rfl,hW2.none⟩)
     ·rcases al ((decide (p0.fPlaces ≤ 8)) || (decide (16 < p0.fPlaces))) with hp13 | hp13
      ·refine oY (sT rfl rfl rfl rfl hp13) (yMB rfl) (oY rfl (ac (vB hp13) rfl) ?_)
       exact key _ _ (keep (keep rfl rfl) (vB (gn hp13)))
      ·refine oSk (sF rfl rfl rfl rfl hp13) (oY rfl (ad (vB hp13) rfl) ?_)
       exact key _ _ (keep (keep rfl rfl) (vB (gr hp13)))
    ·rcases al (decide ((p0.fTracks.length:Int) ≤ 16)) with hp12 | hp12
     ·refine oSk (sF rfl rfl rfl rfl hp12) (oSk (sF rfl rfl rfl rfl hp12) (oSk (sF rfl rfl rfl rfl hp12) (oSk (sF rfl rfl rfl rfl hp12) (oSk (sF rfl rfl rfl rfl hp12) (oSk rfl (oSk rfl (oSk rfl (oSk rfl (oSk (sF rfl rfl rfl rfl hp12) (oY rfl (ac (vB hp12) rfl) ?_))))))))))
      exact key _ _ (keep (keep (keep rfl rfl) rfl) (vB (iS hp12)))
     ·refine oY (sT rfl rfl rfl rfl hp12) (yFA dL rfl) (oY (sT rfl rfl rfl rfl hp12) (yL 0 jx rfl rfl rfl) (oY (sT rfl rfl rfl rfl hp12) (bk (us:=[]) iW rfl) (oY (sT rfl rfl rfl rfl hp12) (gq rfl rfl) (oY (sT rfl rfl rfl rfl hp12) (yMB rfl) ?_))))
      refine oJ 5 (fun tm0 => (upd (upd (upd (upd tm0 2 (.bool u10.1)) 4 (.bool ((decide (p0.fPlaces ≤ 8)) || (decide (16 < p0.fPlaces))))) 33 (.bool (decide ((p0.fTracks.length:Int) ≤ 16)))) 43 (.bool ((decide (48 < (p0.fTracks.length:Int))) && (decide ((p0.fTracks.length:Int) ≤ 60)))))) (fun tm0 => ?_) (fun key => ?_)
      ·refine oY rfl (ad (vB hp12) rfl) ?_
       exact key _ _ (keep (keep (keep rfl rfl) rfl) (vB (iT hp12)))
      ·rcases al (decide (48 < (p0.fTracks.length:Int))) with hp14 | hp14
       ·refine oY (sT rfl rfl rfl rfl hp14) (yFA dL rfl) (oY (sT rfl rfl rfl rfl hp14) (yL 0 jx rfl rfl rfl) (oY (sT rfl rfl rfl rfl hp14) (bk (us:=[]) iW rfl) (oY (sT rfl rfl rfl rfl hp14) (ju rfl rfl) (oY (sT rfl rfl rfl rfl hp12) (ac (vB hp14) rfl) ?_))))
        exact key _ _ (keep (keep (keep (keep rfl rfl) rfl) rfl) (vB (gn hp14)))
       ·refine oSk (sF rfl rfl rfl rfl hp14) (oSk (sF rfl rfl rfl rfl hp14) (oSk (sF rfl rfl rfl rfl hp14) (oSk (sF rfl rfl rfl rfl hp14) (oY (sT rfl rfl rfl rfl hp12) (ad (vB hp14) rfl) ?_))))
        exact key _ _ (keep (keep (keep (keep rfl rfl) rfl) rfl) (vB (gr hp14)))
   ·rcases al (decide (p0.fPlaces ≤ 8)) with hp11 | hp11
    ·refine oSk (sF rfl rfl rfl rfl hp11) (oSk (sF rfl rfl rfl rfl hp11) (oSk (sF rfl rfl rfl rfl hp11) (oY rfl (ac (vB hp11) rfl) ?_)))
     exact key _ _ (keep (keep (keep rfl rfl) rfl) (vB (iS hp11)))
    ·refine oY (sT rfl rfl rfl rfl hp11) (yFA iY rfl) (oY (sT rfl rfl rfl rfl hp11) (yL 0 a8 rfl rfl rfl) (oY (sT rfl rfl rfl rfl hp11) (gq rfl rfl) (oY rfl (ad (vB hp11) rfl) ?_)))
     exact key _ _ (keep (keep (keep rfl rfl) rfl) (vB (iT hp11)))
end Go.Proofs.YthndghnkebboaaaGreat
set_option maxHeartbeats 4000000
set_option maxRecDepth 100000
namespace Go.Proofs.YthndghnkebboaaaGreat
open Go.RowKit (Below)
attribute [local irreducible] OX QX CX EX OpY Calls CallsIn
theorem kS (p0:TJ) (res:Bool) (h:fe p0 = some res) (W:World) (Aa:Option Addr) (n0_0 ca : Nat) (hn0_0:n0_0 = p0.fLegs.length) (hr0_0:Rd W Aa n0_0 ca (encL TLeg_cells p0.fLegs)) :
  Calls Tryz.prog 47 [.agg #[.slice Aa n0_0 ca,vI p0.fA,vI p0.fToll]].toArray W fun e W2 => e = .returned (.bool res) ∧ Ext W W2 []:=by
 subst hn0_0
 unfold fe at h
 refine ab (m:=7) Tryz.func47 rfl rfl (nB rfl) (cS (cR ?_))
 refine aN [.slice Aa p0.fLegs.length ca,vI p0.fA,vI p0.fToll] rfl rfl rfl (fun b1 => ?_)
 refine oY rfl (yAB rfl) (oN (eT (cS (cR (oY rfl (yFA ng rfl) (oY rfl (yL 0 sc_27 rfl rfl rfl) (oY rfl (bk (us:=[]) sO rfl) (oY rfl (ju rfl rfl) (oY rfl (yAB rfl) (oN (eT (ak ?_))))))))))))
 obtain rfl:=sI h
 exact aj (.inl rfl) rfl (rVt (v:=.bool (decide ((p0.fLegs.length:Int) ≤ 40))) rfl) (fun W2 hW2 => ⟨rfl,hW2.none⟩)
theorem l4 (p0:TTimes) (res:Bool) (h:eC p0 = some res) (W:World) (Aa:Option Addr) (n0_0 ca : Nat) (ys0_0:List (Hd × (List Int))) (hn0_0:n0_0 = p0.fH.length) (hr0_0:Rd W Aa n0_0 ca (encL SlInt_cells2 ys0_0)) (hN0_0:NestW W (fun z : (List Int) => z) cI ys0_0 p0.fH) :
  Calls Tryz.prog 48 [.agg #[.slice Aa n0_0 ca]].toArray W fun e W2 => e = .returned (.bool res) ∧ Ext W W2 []:=by
 subst hn0_0
 unfold eC at h
 refine ab (m:=22) Tryz.func48 rfl rfl (nB rfl) (cS (cR ?_))
 refine aN [.slice Aa p0.fH.length ca] rfl rfl rfl (fun b1 => ?_)
 refine oY rfl (yAB rfl) (oN (eT (cS (cS (cR (oY rfl (yAI rfl) (oN (eT (cB ?_)))))))))
 obtain ⟨u4,hl8,h⟩:=bOs h
 refine bt (fun (s:(Bool × Int)) L tm => ∃ (tm0:Nat → Value),L = [ai b1 87 [.slice Aa p0.fH.length ca]] ∧ tm = (upd (upd (upd tm0 1 (.pointer (some ⟨b1,0,none⟩))) 2 (.bool s.1)) 3 (vI s.2))) 0 hl8 ⟨_,rfl,(kp (kp (kp rfl)))⟩ ?_ ?_
 ·rintro s3 L tm st ⟨tm0_s3,rfl,rfl⟩ h
  unfold em at h
  refine cS (cS (cR (oY rfl (yMI rfl) (oY rfl (yFA dM rfl) (oY rfl (yL 0 jC rfl rfl rfl) (oY rfl (bk (us:=[]) pC rfl) (oY rfl (bl rfl rfl) (oN (eT ?_)))))))))
  rcases iOs h with ⟨hp5,h⟩ | ⟨hp5,h⟩
  ·refine cT (vB hp5) (cK (eT (cS (cB (cS (cR (oY rfl (yFA dM rfl) (oY rfl (yL 0 jC rfl rfl rfl) (oY rfl (yMI rfl) ?_)))))))))
   obtain ⟨hg6,h⟩:=gOs h
   refine oY rfl (yI m9 (by decide) hg6.1 hg6.2 (RdL.arg hr0_0) (eL az (NestP.hn hN0_0.p rfl)) rfl rfl) ?_
   refine oY rfl (yR (A:=Aa) (j:=(Int.toNat s3.2 * 1)) (v:=.slice ((rdL ys0_0 s3.2).1.1) ((rdL p0.fH s3.2).length) ((rdL ys0_0 s3.2).1.2.2)) kz (RdL.arg hr0_0) rfl (aG az hg6.1 (ap hg6.2 (NestP.hn hN0_0.p rfl)) (congrArg (fun n : Nat => some (Value.slice (rdL ys0_0 s3.2).1.1 n (rdL ys0_0 s3.2).1.2.2)) (NestP.len hN0_0.p hg6.1 (ap hg6.2 rfl))))) (oY rfl (bk (us:=[]) cU rfl) (oY rfl (gq rfl rfl) (oN (eT ?_))))
   rcases iOs h with ⟨hp7,h⟩ | ⟨hp7,h⟩
   ·refine cT (vB hp7) (cS (cR (oY rfl (yAB rfl) (oN (eT (ak (ah (aa ?_))))))))
    obtain rfl:=sI h
    exact aw ⟨rfl,_,rfl,(kp (kp (kp rfl)))⟩
   ·refine cF (vB hp7) (cK (ax (eT (cR (oY rfl (yMI rfl) (oY rfl (aZ rfl rfl) (oY rfl (yAI rfl) (oN ?_))))))))
    obtain rfl:=sI h
    exact eN ⟨_,rfl,(kp (kp (kp rfl)))⟩
  ·refine cF (vB hp5) (aE (ag ?_))
   obtain rfl:=sI h
   exact aw ⟨rfl,_,rfl,(kp (kp (kp rfl)))⟩
 ·intro e L tm hJ
  rcases u4 with u9 | u10
  ·dsimp only at h hJ
   obtain ⟨rfl,tm0_u9,rfl,rfl⟩:=hJ
   refine ⟨(by intro hc; cases hc),?_⟩
   refine ah (aa ?_)
   obtain rfl:=sI h
   exact aj (.inl rfl) rfl (rVt (v:=.bool u9.1) rfl) (fun W2 hW2 => ⟨rfl,hW2.none⟩)
  ·dsimp only at h hJ
   obtain ⟨rfl,tm0_u10,rfl,rfl⟩:=hJ
   refine ⟨(by intro hc; cases hc),?_⟩
   refine ae (eT (cS (cR (oY rfl (yFA dM rfl) (oY rfl (yL 0 jC rfl rfl rfl) (oY rfl (bk (us:=[]) pC rfl) (oY rfl (ju rfl rfl) (oY rfl (yAB rfl) (oN (eT (ak ?_)))))))))))
   obtain rfl:=sI h
   exact aj (.inl rfl) rfl (rVt (v:=.bool (decide ((p0.fH.length:Int) ≤ 20))) rfl) (fun W2 hW2 => ⟨rfl,hW2.none⟩)
theorem fo (p0:(List (List Int))) (p1:(List Int) → Option Bool) (res:Int) (h:bg p0 p1 = some res) (W:World) (Aa:Option Addr) (n0_0 ca : Nat) (ys0_0:List (Hd × (List Int))) (hn0_0:n0_0 = p0.length) (hr0_0:Rd W Aa n0_0 ca (encL SlInt_cells2 ys0_0)) (hN0_0:NestW W (fun z : (List Int) => z) cI ys0_0 p0) (fid1:Nat) (fst1 caps1 : List Value) (hgo1:bp Tryz.prog fid1 = true) (hof1:∀ W2,Below W.heap.size W W2 → ∀ x,∀ (hx:Hd),Rd W2 hx.1 x.length hx.2.2 (encL cI x) → ∀ y,p1 x = some y → Calls Tryz.prog fid1 (fst1 ++ (([.slice hx.1 x.length hx.2.2] : List Value) ++ caps1)).toArray W2 fun e W3 => e = .returned (.bool y) ∧ Ext W2 W3 []) :
  Calls Tryz.prog 180 [.slice Aa n0_0 ca,.func (.func fid1) fst1.toArray caps1.toArray].toArray W fun e W2 => e = .returned (vI res) ∧ Ext W W2 []:=by
 subst hn0_0
 unfold bg at h
 refine ab (m:=19) Tryz.func180 rfl rfl (nB rfl) (cS (cR (oY rfl (yAI rfl) (oN (eT (cS (cS (cR (oY rfl (yMS rfl) (oY rfl (bk (us:=[]) pC rfl) (oY rfl (yMI rfl) (oN (eT (cB ?_))))))))))))))
 obtain ⟨u3,hl9,h⟩:=bOs h
 refine bt (fun (s:(Int × Int)) L tm => ∃ (tm0:Nat → Value),L = [] ∧ tm = (upd (upd (upd (upd (upd tm0 0 (.slice Aa p0.length ca)) 1 (.func (.func fid1) fst1.toArray caps1.toArray)) 4 (vI s.1)) 7 (vI (p0.length:Int))) 8 (vI s.2))) 0 hl9 ⟨_,rfl,(kp4 (kp rfl))⟩ ?_ ?_
 ·rintro s2 L tm st ⟨tm0_s2,rfl,rfl⟩ h
  unfold aQ at h
  refine cS (cR (oY rfl (bl rfl rfl) (oN (eT (cS ?_)))))
  rcases iOs h with ⟨hp4,h⟩ | ⟨hp4,h⟩
  ·refine cT (vB hp4) (cK (eT (cS (cB (cS (cR (oY rfl (yMI rfl) (oY rfl (yAI rfl) (oN (eT (cS (cR (oY rfl (bz (v:=.func (.func fid1) fst1.toArray caps1.toArray) rfl) (oY rfl (yMS rfl) (oY rfl (yMI rfl) ?_)))))))))))))))
   obtain ⟨hg5,h⟩:=gOs h
   refine oY rfl (yI m9 (by decide) hg5.1 hg5.2 (RdL.arg hr0_0) (eL az (NestP.hn hN0_0.p rfl)) rfl rfl) ?_
   refine oY rfl (yR (A:=Aa) (j:=(Int.toNat s2.2 * 1)) (v:=.slice ((rdL ys0_0 s2.2).1.1) ((rdL p0 s2.2).length) ((rdL ys0_0 s2.2).1.2.2)) kz (RdL.arg hr0_0) rfl (aG az hg5.1 (ap hg5.2 (NestP.hn hN0_0.p rfl)) (congrArg (fun n : Nat => some (Value.slice (rdL ys0_0 s2.2).1.1 n (rdL ys0_0 s2.2).1.2.2)) (NestP.len hN0_0.p hg5.1 (ap hg5.2 rfl))))) ?_
   obtain ⟨y6,hy7,h⟩:=bOs h
   refine oY rfl (f4 [.slice ((rdL ys0_0 s2.2).1.1) ((rdL p0 s2.2).length) ((rdL ys0_0 s2.2).1.2.2)] hgo1 rfl rfl (fun W2 hW2 => hof1 W2 hW2.below (rdL p0 s2.2) ((rdL ys0_0 s2.2).1.1,0,(rdL ys0_0 s2.2).1.2.2) ((NestL.rd (NestL.arg hN0_0) hg5.1 (ap hg5.2 rfl)) W2 hW2) y6 hy7)) (oN (eT ?_))
   rcases iOs h with ⟨hp8,h⟩ | ⟨hp8,h⟩
   ·refine cT (vB hp8) (cS (cR (oY rfl (yMI rfl) (oY rfl (yAI rfl) (oN (eT (ak (ah (aa ?_)))))))))
    obtain rfl:=sI h
    exact aw ⟨rfl,_,rfl,(kp4 (kp rfl))⟩
   ·refine cF (vB hp8) (cK (ax (eT (cR (oY rfl (aZ rfl rfl) (oY rfl (yMI rfl) (oN ?_)))))))
    obtain rfl:=sI h
    exact eN ⟨_,rfl,(kp4 (kp rfl))⟩
  ·refine cF (vB hp4) (aE (ag ?_))
   obtain rfl:=sI h
   exact aw ⟨rfl,_,rfl,(kp4 (kp rfl))⟩
 ·intro e L tm hJ
  rcases u3 with u10 | u11
  ·dsimp only at h hJ
   obtain ⟨rfl,tm0_u10,rfl,rfl⟩:=hJ
   refine ⟨(by intro hc; cases hc),?_⟩
   refine ah (aa ?_)
   obtain rfl:=sI h
   exact aj (.inl rfl) rfl (rVt (v:=vI u10.1) rfl) (fun W2 hW2 => ⟨rfl,hW2.none⟩)
  ·dsimp only at h hJ
   obtain ⟨rfl,tm0_u11,rfl,rfl⟩:=hJ
   refine ⟨(by intro hc; cases hc),?_⟩
   refine ae (eT (cS (cR (oY rfl (yAI rfl) (oN (eT (ak ?_)))))))
   obtain rfl:=sI h
   exact aj (.inl rfl) rfl (rVt (v:=vI (-1)) rfl) (fun W2 hW2 => ⟨rfl,hW2.none⟩)
theorem km (p0:(List (List Int))) (p1:(List Int) → Option Bool) (res:Int) (h:eg p0 p1 = some res) (W:World) (Aa:Option Addr) (n0_0 ca : Nat) (ys0_0:List (Hd × (List Int))) (hn0_0:n0_0 = p0.length) (hr0_0:Rd W Aa n0_0 ca (encL SlInt_cells2 ys0_0)) (hN0_0:NestW W (fun z : (List Int) => z) cI ys0_0 p0) (fid1:Nat) (fst1 caps1 : List Value) (hgo1:bp Tryz.prog fid1 = true) (hof1:∀ W2,Below W.heap.size W W2 → ∀ x,∀ (hx:Hd),Rd W2 hx.1 x.length hx.2.2 (encL cI x) → ∀ y,p1 x = some y → Calls Tryz.prog fid1 (fst1 ++ (([.slice hx.1 x.length hx.2.2] : List Value) ++ caps1)).toArray W2 fun e W3 => e = .returned (.bool y) ∧ Ext W2 W3 []) :
  Calls Tryz.prog 151 [.slice Aa n0_0 ca,.func (.func fid1) fst1.toArray caps1.toArray].toArray W fun e W2 => e = .returned (vI res) ∧ Ext W W2 []:=by
 subst hn0_0
 unfold eg at h
 refine ab (m:=8) Tryz.func151 rfl rfl (nB rfl) (cS (cR (oY rfl (yAI rfl) (oN (eT (cS (cR (oY rfl (yMS rfl) (oY rfl (bz (v:=.func (.func fid1) fst1.toArray caps1.toArray) rfl) ?_)))))))))
 obtain ⟨y1,hy2,h⟩:=bOs h
 refine oY rfl (yC [.slice Aa p0.length ca,.func (.func fid1) fst1.toArray caps1.toArray] go_180 rfl (fun W2 hW2 => fo p0 p1 y1 hy2 W2 Aa p0.length ca ys0_0 rfl ((RdL.arg hr0_0) W2 hW2) (NestL.at (NestL.arg hN0_0) W2 hW2) fid1 fst1 caps1 hgo1 (fun W3 hb => hof1 W3 (fI hW2.below hb))) rfl) (oY rfl (yAI rfl) (oN (eT (ak ?_))))
 obtain rfl:=sI h
 exact aj (.inl rfl) rfl (rVt (v:=vI y1) rfl) (fun W2 hW2 => ⟨rfl,hW2.none⟩)
theorem m3 (p0:(List Int)) (res:Bool) (h:f6 p0 = some res) (W:World) (Aa:Option Addr) (n0_0 ca : Nat) (hn0_0:n0_0 = p0.length) (hr0_0:Rd W Aa n0_0 ca (encL cI p0)) :
  Calls Tryz.prog 153 [.slice Aa n0_0 ca].toArray W fun e W2 => e = .returned (.bool res) ∧ Ext W W2 []:=by
 subst hn0_0
 unfold f6 at h
 refine ab (m:=33) Tryz.func153 rfl rfl (nB rfl) (cS (cR (oY rfl (yAB rfl) (oN (eT (cS (cR (oY rfl (yAI rfl) (oN (eT (cS (cS (cR (oY rfl (yMS rfl) (oY rfl (bk (us:=[]) cU rfl) (oY rfl (yMI rfl) (oN (eT (cB ?_)))))))))))))))))))
 obtain ⟨u3,hl12,h⟩:=bOs h
 refine bt (fun (s:(Bool × Int × Int)) L tm => ∃ (tm0:Nat → Value),L = [] ∧ tm = (upd (upd (upd (upd (upd (upd tm0 0 (.slice Aa p0.length ca)) 2 (.bool s.1)) 3 (vI s.2.1)) 6 (.slice Aa p0.length ca)) 7 (vI (p0.length:Int))) 8 (vI s.2.2))) 0 hl12 ⟨_,rfl,(kp4 (kp (kp rfl)))⟩ ?_ ?_
 ·rintro s2 L tm st ⟨tm0_s2,rfl,rfl⟩ h
  unfold fm at h
  refine cS (cR (oY rfl (bl rfl rfl) (oN (eT (cS ?_)))))
  rcases iOs h with ⟨hp4,h⟩ | ⟨hp4,h⟩
  ·refine cT (vB hp4) (cK (eT (cS (cB (cS (cR ?_))))))
   obtain ⟨hg5,h⟩:=gOs h
   refine oY rfl (yI dz (by decide) hg5.1 hg5.2 (RdL.arg hr0_0) (eL aD rfl) rfl rfl) ?_
   refine oY rfl (yR (A:=Aa) (j:=(Int.toNat s2.2.2 * 1)) (v:=vI (rdL p0 s2.2.2)) a8 (RdL.arg hr0_0) rfl (aG aD hg5.1 (ap hg5.2 rfl) rfl)) (oY rfl (yAI rfl) (oN (eT (cS (cS (cR (oY rfl (yMI rfl) ?_)))))))
   obtain ⟨y6,hy7,h⟩:=bOs h
   refine oY rfl (yC [vI (rdL p0 s2.2.2),vI (-1),vI 16384] gj rfl (fun W2 hW2 => aW (rdL p0 s2.2.2) (-1) 16384 y6 hy7 W2 ) rfl) (oY rfl (bE rfl) (oY rfl (yMB rfl) ?_))
   refine oJ 12 (fun tm0 => (upd (upd (upd (upd (upd (upd (upd (upd (upd tm0 0 (.slice Aa p0.length ca)) 2 (.bool s2.1)) 3 (vI s2.2.1)) 6 (.slice Aa p0.length ca)) 7 (vI (p0.length:Int))) 8 (vI s2.2.2)) 9 (.bool (decide (s2.2.2 < (p0.length:Int))))) 5 (vI (rdL p0 s2.2.2))) 27 (.bool ((!y6) || ((decide (0 ≤ s2.2.1)) && ((decide ((rdL p0 s2.2.2) < 0)) || (decide (s2.2.1 < (rdL p0 s2.2.2))))))))) (fun tm0 => ?_) (fun key => ?_)
   ·refine oN (eT ?_)
    rcases iOs h with ⟨hp9,h⟩ | ⟨hp9,h⟩
    ·refine cT (vB hp9) (cS (cR (oY rfl (yAB rfl) (oN (eT (ak (aa (ah (aa ?_)))))))))
     obtain rfl:=sI h
     exact aw ⟨rfl,_,rfl,(kp4 (kp (kp rfl)))⟩
    ·refine cF (vB hp9) (cK (eT (cR (oY rfl (yMI rfl) (oY rfl (yAI rfl) (oN (ax (eT (cR (oY rfl (aZ rfl rfl) (oY rfl (yMI rfl) (oN ?_))))))))))))
     obtain rfl:=sI h
     exact eN ⟨_,rfl,(kp4 (kp (kp rfl)))⟩
   ·rcases al (!y6) with hp8 | hp8
    ·refine oSk (sF rfl rfl rfl rfl hp8) (oSk (sF rfl rfl rfl rfl hp8) (oSk (sF rfl rfl rfl rfl hp8) (oSk rfl (oSk rfl (oSk rfl (oSk rfl (oSk rfl (oSk rfl (oSk rfl (oSk (sF rfl rfl rfl rfl hp8) (oY rfl (ac (vB hp8) rfl) ?_)))))))))))
     exact key _ _ (keep (keep (keep (keep (keep (keep (keep (keep (keep rfl rfl) rfl) rfl) rfl) rfl) rfl) rfl) rfl) (vB (iS hp8)))
    ·refine oY (sT rfl rfl rfl rfl hp8) (yMI rfl) (oY (sT rfl rfl rfl rfl hp8) (ms rfl rfl) (oY (sT rfl rfl rfl rfl hp8) (yMB rfl) ?_))
     refine oJ 8 (fun tm0 => (upd (upd (upd (upd (upd (upd (upd (upd (upd (upd tm0 0 (.slice Aa p0.length ca)) 2 (.bool s2.1)) 3 (vI s2.2.1)) 6 (.slice Aa p0.length ca)) 7 (vI (p0.length:Int))) 8 (vI s2.2.2)) 9 (.bool (decide (s2.2.2 < (p0.length:Int))))) 5 (vI (rdL p0 s2.2.2))) 15 (.bool (!y6))) 26 (.bool ((decide (0 ≤ s2.2.1)) && ((decide ((rdL p0 s2.2.2) < 0)) || (decide (s2.2.1 < (rdL p0 s2.2.2)))))))) (fun tm0 => ?_) (fun key => ?_)
     ·refine oY rfl (ad (vB hp8) rfl) ?_
      exact key _ _ (keep (keep (keep (keep (keep (keep (keep (keep (keep rfl rfl) rfl) rfl) rfl) rfl) rfl) rfl) rfl) (vB (iT hp8)))
     ·rcases al (decide (0 ≤ s2.2.1)) with hp10 | hp10
      ·refine oY (sT rfl rfl rfl rfl hp10) (yMI rfl) (oY (sT rfl rfl rfl rfl hp10) (bl rfl rfl) (oY (sT rfl rfl rfl rfl hp10) (yMB rfl) ?_))
       refine oJ 4 (fun tm0 => (upd (upd (upd (upd (upd (upd (upd (upd (upd (upd (upd tm0 0 (.slice Aa p0.length ca)) 2 (.bool s2.1)) 3 (vI s2.2.1)) 6 (.slice Aa p0.length ca)) 7 (vI (p0.length:Int))) 8 (vI s2.2.2)) 9 (.bool (decide (s2.2.2 < (p0.length:Int))))) 5 (vI (rdL p0 s2.2.2))) 15 (.bool (!y6))) 18 (.bool (decide (0 ≤ s2.2.1)))) 25 (.bool ((decide ((rdL p0 s2.2.2) < 0)) || (decide (s2.2.1 < (rdL p0 s2.2.2))))))) (fun tm0 => ?_) (fun key => ?_)
       ·refine oY (sT rfl rfl rfl rfl hp8) (ac (vB hp10) rfl) ?_
        exact key _ _ (keep (keep (keep (keep (keep (keep (keep (keep (keep (keep rfl rfl) rfl) rfl) rfl) rfl) rfl) rfl) rfl) rfl) (vB (gn hp10)))
       ·rcases al (decide ((rdL p0 s2.2.2) < 0)) with hp11 | hp11
        ·refine oSk (sF rfl rfl rfl rfl hp11) (oSk (sF rfl rfl rfl rfl hp11) (oSk (sF rfl rfl rfl rfl hp11) (oY (sT rfl rfl rfl rfl hp10) (ac (vB hp11) rfl) ?_)))
         exact key _ _ (keep (keep (keep (keep (keep (keep (keep (keep (keep (keep (keep rfl rfl) rfl) rfl) rfl) rfl) rfl) rfl) rfl) rfl) rfl) (vB (iS hp11)))
        ·refine oY (sT rfl rfl rfl rfl hp11) (yMI rfl) (oY (sT rfl rfl rfl rfl hp11) (yMI rfl) (oY (sT rfl rfl rfl rfl hp11) (gq rfl rfl) (oY (sT rfl rfl rfl rfl hp10) (ad (vB hp11) rfl) ?_)))
         exact key _ _ (keep (keep (keep (keep (keep (keep (keep (keep (keep (keep (keep rfl rfl) rfl) rfl) rfl) rfl) rfl) rfl) rfl) rfl) rfl) (vB (iT hp11)))
      ·refine oSk (sF rfl rfl rfl rfl hp10) (oSk (sF rfl rfl rfl rfl hp10) (oSk (sF rfl rfl rfl rfl hp10) (oSk rfl (oSk rfl (oSk rfl (oSk (sF rfl rfl rfl rfl hp10) (oY (sT rfl rfl rfl rfl hp8) (ad (vB hp10) rfl) ?_)))))))
       exact key _ _ (keep (keep (keep (keep (keep (keep (keep (keep (keep (keep rfl rfl) rfl) rfl) rfl) rfl) rfl) rfl) rfl) rfl) (vB (gr hp10)))
  ·refine cF (vB hp4) (aE (ag ?_))
   obtain rfl:=sI h
   exact aw ⟨rfl,_,rfl,(kp4 (kp (kp rfl)))⟩
 ·intro e L tm hJ
  rcases u3 with u13 | u14
  ·dsimp only at h hJ
   obtain ⟨rfl,tm0_u13,rfl,rfl⟩:=hJ
   refine ⟨(by intro hc; cases hc),?_⟩
   refine ah (aa ?_)
   obtain rfl:=sI h
   exact aj (.inl rfl) rfl (rVt (v:=.bool u13.1) rfl) (fun W2 hW2 => ⟨rfl,hW2.none⟩)
  ·dsimp only at h hJ
   obtain ⟨rfl,tm0_u14,rfl,rfl⟩:=hJ
   refine ⟨(by intro hc; cases hc),?_⟩
   refine ae (eT (cS (cR (oY rfl (yMS rfl) (oY rfl (bk (us:=[]) cU rfl) (oY rfl (cL rfl rfl) (oY rfl (yAB rfl) (oN (eT (ak ?_))))))))))
   obtain rfl:=sI h
   exact aj (.inl rfl) rfl (rVt (v:=.bool ((p0.length:Int) == 61)) rfl) (fun W2 hW2 => ⟨rfl,hW2.none⟩)
theorem lP (p0:(List Int)) (res:Bool) (h:dJ p0 = some res) (W:World) (Aa:Option Addr) (n0_0 ca : Nat) (hn0_0:n0_0 = p0.length) (hr0_0:Rd W Aa n0_0 ca (encL cI p0)) :
  Calls Tryz.prog 152 [.slice Aa n0_0 ca].toArray W fun e W2 => e = .returned (.bool res) ∧ Ext W W2 []:=by
 subst hn0_0
 unfold dJ at h
 refine ab (m:=6) Tryz.func152 rfl rfl (nB rfl) (cS (cR (oY rfl (yAB rfl) (oN (eT (cS (cR (oY rfl (yMS rfl) ?_))))))))
 obtain ⟨y1,hy2,h⟩:=bOs h
 refine oY rfl (yC [.slice Aa p0.length ca] go_153 rfl (fun W2 hW2 => m3 p0 y1 hy2 W2 Aa p0.length ca rfl ((RdL.arg hr0_0) W2 hW2)) rfl) (oY rfl (bE rfl) (oY rfl (yAB rfl) (oN (eT (ak ?_)))))
 obtain rfl:=sI h
 exact aj (.inl rfl) rfl (rVt (v:=.bool (!y1)) rfl) (fun W2 hW2 => ⟨rfl,hW2.none⟩)
theorem lT (p0:Int) (cap0:Int) (res:Bool) (h:eE p0 cap0 = some res) (W:World) (bc0:Nat) (hcap0:Rd W (some ⟨bc0,0,none⟩) 1 1 (cI cap0)) :
  Calls Tryz.prog 154 [vI p0,.pointer (some ⟨bc0,0,none⟩)].toArray W fun e W2 => e = .returned (.bool res) ∧ Ext W W2 []:=by
 unfold eE at h
 refine ab (m:=11) Tryz.func154 rfl rfl (nB rfl) (cS (cR (oY rfl (yAB rfl) (oN (eT (cS (cR (oY rfl (yMI rfl) (oY rfl (bl rfl rfl) (oY rfl (yMB rfl) ?_))))))))))
 refine oJ 4 (fun tm0 => (upd (upd tm0 3 (.bool false)) 10 (.bool ((decide (p0 < 0)) || (decide (cap0 < p0)))))) (fun tm0 => ?_) (fun key => ?_)
 ·refine oY rfl (yAB rfl) (oN (eT (ak ?_)))
  obtain rfl:=sI h
  exact aj (.inl rfl) rfl (rVt (v:=.bool ((decide (p0 < 0)) || (decide (cap0 < p0)))) rfl) (fun W2 hW2 => ⟨rfl,hW2.none⟩)
 ·rcases al (decide (p0 < 0)) with hp1 | hp1
  ·refine oSk (sF rfl rfl rfl rfl hp1) (oSk (sF rfl rfl rfl rfl hp1) (oSk (sF rfl rfl rfl rfl hp1) (oY rfl (ac (vB hp1) rfl) ?_)))
   exact key _ _ (keep (keep rfl rfl) (vB (iS hp1)))
  ·refine oY (sT rfl rfl rfl rfl hp1) (yMI rfl) (oY (sT rfl rfl rfl rfl hp1) (yR (A:=(some ⟨bc0,0,none⟩)) (j:=0) (v:=vI cap0) a8 (RdL.arg hcap0) rfl rfl) (oY (sT rfl rfl rfl rfl hp1) (gq rfl rfl) (oY rfl (ad (vB hp1) rfl) ?_)))
   exact key _ _ (keep (keep rfl rfl) (vB (iT hp1)))
theorem m7 (p0:TR) (p1:Int) (p2:Int) (p3:TTimes) (res:Bool) (h:ga p0 p1 p2 p3 = some res) (W:World) (Ab:Option Addr) (n0_1 cb : Nat) (ys0_1:List (Hd × TT)) (hn0_1:n0_1 = p0.fTracks.length) (hr0_1:Rd W Ab n0_1 cb (encL TTrack_cells2 ys0_1)) (hN0_1:NestW W (fun z : TT => z.fK) TSpan_cells ys0_1 p0.fTracks) (A3_0:Option Addr) (n3_0 c3_0 : Nat) (ys3_0:List (Hd × (List Int))) (hn3_0:n3_0 = p3.fH.length) (hr3_0:Rd W A3_0 n3_0 c3_0 (encL SlInt_cells2 ys3_0)) (hN3_0:NestW W (fun z : (List Int) => z) cI ys3_0 p3.fH) :
  Calls Tryz.prog 112 [.agg #[vI p0.fPlaces,.slice Ab n0_1 cb],vI p1,vI p2,.agg #[.slice A3_0 n3_0 c3_0]].toArray W fun e W2 => e = .returned (.bool res) ∧ Ext W W2 []:=by
 subst hn0_1
 subst hn3_0
 unfold ga at h
 refine ab (m:=104) Tryz.func112 rfl rfl (nB rfl) (cS (cR ?_))
 refine aN [vI p0.fPlaces,.slice Ab p0.fTracks.length cb] rfl rfl rfl (fun b1 => ?_)
 refine aN [vI p2] rfl rfl rfl (fun b2 => ?_)
 refine aN [.slice A3_0 p3.fH.length c3_0] rfl rfl rfl (fun b3 => ?_)
 refine oY rfl (yAB rfl) (oN (eT (cS (cS (cR (oY rfl (yFA dM rfl) (oY rfl (yL 2 jC rfl rfl rfl) (oY rfl (bk (us:=[]) pC rfl) (oY rfl (yFA iY rfl) (oY rfl (yL 0 a8 rfl rfl rfl) (oY rfl (dD rfl rfl) (oY rfl (yMB rfl) ?_))))))))))))
 obtain ⟨b5,hb6,h⟩:=bOs h
 refine oJ 5 (fun tm0 => (upd (upd (upd (upd (upd (upd tm0 1 (vI p1)) 4 (.pointer (some ⟨b1,0,none⟩))) 6 (.pointer (some ⟨b2,0,none⟩))) 7 (.pointer (some ⟨b3,0,none⟩))) 8 (.bool false)) 27 (.bool b5))) (fun tm0 => ?_) (fun key => ?_)
 ·refine oN (eT ?_)
  rcases iOs h with ⟨hp7,h⟩ | ⟨hp7,h⟩
  ·refine cT (vB hp7) (cS (cR (oY rfl (yAB rfl) (oN (eT (ak (aa ?_)))))))
   obtain rfl:=sI h
   exact aj (.inl rfl) rfl (rVt (v:=.bool false) rfl) (fun W2 hW2 => ⟨rfl,hW2.none⟩)
  ·refine cF (vB hp7) (cK (eT (cS (cS (cR (oY rfl (yFA dM rfl) (oY rfl (yL 2 jC rfl rfl rfl) (oY rfl (yMI rfl) ?_))))))))
   obtain ⟨hg8,h⟩:=gOs h
   refine oY rfl (yI m9 (by decide) hg8.1 hg8.2 (RdL.arg hr3_0) (eL az (NestP.hn hN3_0.p rfl)) rfl rfl) ?_
   refine oY rfl (yR (A:=A3_0) (j:=(Int.toNat p1 * 1)) (v:=.slice ((rdL ys3_0 p1).1.1) ((rdL p3.fH p1).length) ((rdL ys3_0 p1).1.2.2)) kz (RdL.arg hr3_0) rfl (aG az hg8.1 (ap hg8.2 (NestP.hn hN3_0.p rfl)) (congrArg (fun n : Nat => some (Value.slice (rdL ys3_0 p1).1.1 n (rdL ys3_0 p1).1.2.2)) (NestP.len hN3_0.p hg8.1 (ap hg8.2 rfl))))) (oY rfl (bP [.pointer (some ⟨b2,0,none⟩)] rfl rfl) ?_)
   obtain ⟨y10,hy11,h⟩:=bOs h
   refine oY rfl (yC [.slice ((rdL ys3_0 p1).1.1) ((rdL p3.fH p1).length) ((rdL ys3_0 p1).1.2.2),.func (.func 154) #[] #[.pointer (some ⟨b2,0,none⟩)]] go_136 rfl (fun W2 hW2 => lK (rdL p3.fH p1) (fun x9 => eE x9 p2) y10 hy11 W2 ((rdL ys3_0 p1).1.1) ((rdL p3.fH p1).length) ((rdL ys3_0 p1).1.2.2) rfl ((NestL.rd (NestL.arg hN3_0) hg8.1 (ap hg8.2 rfl)) W2 hW2) 154 [] [.pointer (some ⟨b2,0,none⟩)] go_154 (fun W3 hb x y hxy => lT  x p2 y hxy W3 b2 (((RdL.cells 1 rfl) W2 hW2).later hb))) rfl) (oY rfl (ms rfl rfl) (oN (eT ?_)))
   rcases iOs h with ⟨hp12,h⟩ | ⟨hp12,h⟩
   ·refine cT (vB hp12) (cS (cR (oY rfl (yAB rfl) (oN (eT (ak (aa ?_)))))))
    obtain rfl:=sI h
    exact aj (.inl rfl) rfl (rVt (v:=.bool false) rfl) (fun W2 hW2 => ⟨rfl,hW2.none⟩)
   ·refine cF (vB hp12) (cK (eT (cS (cS (cR (oY rfl (yFA dL rfl) (oY rfl (yL 0 jx rfl rfl rfl) (oY rfl (bk (us:=[]) iW rfl) (oY rfl (yMI rfl) (oN (eT (cB ?_))))))))))))
    obtain ⟨u15,hl42,h⟩:=bOs h
    refine bt (fun (s:(Bool × Int)) L tm => ∃ (tm0:Nat → Value),L = [ai b1 24 [vI p0.fPlaces,.slice Ab p0.fTracks.length cb],ai b2 3 [vI p2],ai b3 87 [.slice A3_0 p3.fH.length c3_0]] ∧ tm = (upd (upd (upd (upd (upd tm0 7 (.pointer (some ⟨b3,0,none⟩))) 8 (.bool s.1)) 37 (.slice Ab p0.fTracks.length cb)) 38 (vI (p0.fTracks.length:Int))) 39 (vI s.2))) 0 hl42 ⟨_,rfl,(kp4 (kp rfl))⟩ ?_ ?_
    ·rintro s14 L tm st ⟨tm0_s14,rfl,rfl⟩ h
     unfold fj at h
     refine cS (cR (oY rfl (bl rfl rfl) (oN (eT (cS ?_)))))
     rcases iOs h with ⟨hp16,h⟩ | ⟨hp16,h⟩
     ·refine cT (vB hp16) (cK (eT (cS (cB (cS (cR ?_))))))
      obtain ⟨hg17,h⟩:=gOs h
      refine oY rfl (yI kn (by decide) hg17.1 hg17.2 (RdL.arg hr0_1) (eL au (NestP.hn hN0_1.p rfl)) rfl rfl) ?_
      refine oY rfl (yM (A:=Ab) (j:=(Int.toNat s14.2 * 6)) [vI ((rdL p0.fTracks s14.2).fID),vI ((rdL p0.fTracks s14.2).fFrom),vI ((rdL p0.fTracks s14.2).fTo),vI ((rdL p0.fTracks s14.2).fLong),vI ((rdL p0.fTracks s14.2).fToll),.slice ((rdL ys0_1 s14.2).1.1) ((rdL p0.fTracks s14.2).fK.length) ((rdL ys0_1 s14.2).1.2.2)] jI (Nat.succ_pos _) (RdL.arg hr0_1) rfl (kC (cN (NestP.snd hN0_1.p s14.2) (NestP.len hN0_1.p hg17.1 (ap hg17.2 rfl))).symm (bh au hg17.1 (ap hg17.2 (NestP.hn hN0_1.p rfl))))) ?_
      refine aB ia rfl (fun b18 => ?_)
      refine cJ rfl (yS 3 [vI ((rdL p0.fTracks s14.2).fID),vI ((rdL p0.fTracks s14.2).fFrom),vI ((rdL p0.fTracks s14.2).fTo),vI ((rdL p0.fTracks s14.2).fLong),vI ((rdL p0.fTracks s14.2).fToll),.slice ((rdL ys0_1 s14.2).1.1) ((rdL p0.fTracks s14.2).fK.length) ((rdL ys0_1 s14.2).1.2.2)] pm rfl (nB rfl) rfl rfl rfl) (oN (eT (cS (cR (oY rfl (yFA dM rfl) (oY rfl (yL 2 jC rfl rfl rfl) (oY rfl (yFA kR rfl) (oY rfl (yL 3 a8 rfl rfl rfl) ?_))))))))
      obtain ⟨hg19,h⟩:=gOs h
      refine oY rfl (yI m9 (by decide) hg19.1 hg19.2 (RdL.arg hr3_0) (eL az (NestP.hn hN3_0.p rfl)) rfl rfl) ?_
      refine oY rfl (yR (A:=A3_0) (j:=(Int.toNat ((rdL p0.fTracks s14.2).fFrom) * 1)) (v:=.slice ((rdL ys3_0 ((rdL p0.fTracks s14.2).fFrom)).1.1) ((rdL p3.fH ((rdL p0.fTracks s14.2).fFrom)).length) ((rdL ys3_0 ((rdL p0.fTracks s14.2).fFrom)).1.2.2)) kz (RdL.arg hr3_0) rfl (aG az hg19.1 (ap hg19.2 (NestP.hn hN3_0.p rfl)) (congrArg (fun n : Nat => some (Value.slice (rdL ys3_0 ((rdL p0.fTracks s14.2).fFrom)).1.1 n (rdL ys3_0 ((rdL p0.fTracks s14.2).fFrom)).1.2.2)) (NestP.len hN3_0.p hg19.1 (ap hg19.2 rfl))))) (oY rfl (bk (us:=[]) cU rfl) (oY rfl (yMI rfl) (oN (eT (cB ?_)))))
      obtain ⟨u22,hl39,h⟩:=bOs h
      refine bt (fun (s:(Bool × Int)) L tm => ∃ (tm0:Nat → Value),L = [ai b1 24 [vI p0.fPlaces,.slice Ab p0.fTracks.length cb],ai b2 3 [vI p2],ai b3 87 [.slice A3_0 p3.fH.length c3_0],ai b18 120 [vI ((rdL p0.fTracks s14.2).fID),vI ((rdL p0.fTracks s14.2).fFrom),vI ((rdL p0.fTracks s14.2).fTo),vI ((rdL p0.fTracks s14.2).fLong),vI ((rdL p0.fTracks s14.2).fToll),.slice ((rdL ys0_1 s14.2).1.1) ((rdL p0.fTracks s14.2).fK.length) ((rdL ys0_1 s14.2).1.2.2)]] ∧ tm = (upd (upd (upd (upd (upd (upd (upd (upd (upd (upd tm0 7 (.pointer (some ⟨b3,0,none⟩))) 8 (.bool s.1)) 37 (.slice Ab p0.fTracks.length cb)) 38 (vI (p0.fTracks.length:Int))) 39 (vI s14.2)) 40 (.bool (decide (s14.2 < (p0.fTracks.length:Int))))) 10 (.pointer (some ⟨b18,0,none⟩))) 48 (.slice ((rdL ys3_0 ((rdL p0.fTracks s14.2).fFrom)).1.1) ((rdL p3.fH ((rdL p0.fTracks s14.2).fFrom)).length) ((rdL ys3_0 ((rdL p0.fTracks s14.2).fFrom)).1.2.2))) 49 (vI (((rdL p3.fH ((rdL p0.fTracks s14.2).fFrom)).length : Nat) : Int))) 50 (vI s.2))) 2 hl39 ⟨_,rfl,(kp4 (kp4 (kp (kp rfl))))⟩ ?_ ?_
      ·rintro s21 L tm st ⟨tm0_s21,rfl,rfl⟩ h
       unfold dX at h
       refine cS (cR (oY rfl (bl rfl rfl) (oN (eT (cS ?_)))))
       rcases iOs h with ⟨hp23,h⟩ | ⟨hp23,h⟩
       ·refine cT (vB hp23) (cK (eT (cS (cB (cS (cR (oY rfl (yMI rfl) ?_)))))))
        obtain ⟨hg24,h⟩:=gOs h
        refine oY rfl (yI dz (by decide) hg24.1 hg24.2 (NestL.rd (NestL.arg hN3_0) hg19.1 (ap hg19.2 rfl)) (eL aD rfl) rfl rfl) ?_
        refine oY rfl (yR (A:=((rdL ys3_0 ((rdL p0.fTracks s14.2).fFrom)).1.1)) (j:=(Int.toNat s21.2 * 1)) (v:=vI (rdL (rdL p3.fH ((rdL p0.fTracks s14.2).fFrom)) s21.2)) a8 (NestL.rd (NestL.arg hN3_0) hg19.1 (ap hg19.2 rfl)) rfl (aG aD hg24.1 (ap hg24.2 rfl) rfl)) (oY rfl (yAI rfl) (oY rfl (yAI rfl) (oN (eT (cS (cS (cR (oY rfl (yMI rfl) (oY rfl (bl rfl rfl) (oY rfl (yMB rfl) ?_))))))))))
        refine oJ 6 (fun tm0 => (upd (upd (upd (upd (upd (upd (upd (upd (upd (upd (upd (upd (upd (upd tm0 7 (.pointer (some ⟨b3,0,none⟩))) 8 (.bool s21.1)) 37 (.slice Ab p0.fTracks.length cb)) 38 (vI (p0.fTracks.length:Int))) 39 (vI s14.2)) 40 (.bool (decide (s14.2 < (p0.fTracks.length:Int))))) 10 (.pointer (some ⟨b18,0,none⟩))) 48 (.slice ((rdL ys3_0 ((rdL p0.fTracks s14.2).fFrom)).1.1) ((rdL p3.fH ((rdL p0.fTracks s14.2).fFrom)).length) ((rdL ys3_0 ((rdL p0.fTracks s14.2).fFrom)).1.2.2))) 49 (vI (((rdL p3.fH ((rdL p0.fTracks s14.2).fFrom)).length : Nat) : Int))) 50 (vI s21.2)) 51 (.bool (decide (s21.2 < (((rdL p3.fH ((rdL p0.fTracks s14.2).fFrom)).length : Nat) : Int))))) 11 (vI s21.2)) 12 (vI (rdL (rdL p3.fH ((rdL p0.fTracks s14.2).fFrom)) s21.2))) 63 (.bool ((decide ((rdL (rdL p3.fH ((rdL p0.fTracks s14.2).fFrom)) s21.2) < 0)) || (decide (60 < w64 (s21.2 + ((rdL p0.fTracks s14.2).fToll)))))))) (fun tm0 => ?_) (fun key => ?_)
        ·refine oN (eT ?_)
         rcases iOs h with ⟨hp26,h⟩ | ⟨hp26,h⟩
         ·refine cT (vB hp26) (aE (ag (ae (eT (cR (oY rfl (aZ rfl rfl) (oY rfl (yMI rfl) (oN ?_))))))))
          obtain rfl:=sI h
          exact eN ⟨_,rfl,(kp4 (kp4 (kp (kp rfl))))⟩
         ·refine cF (vB hp26) (cK (eT (cS (cR (oY rfl (yN 3 [vI ((rdL p0.fTracks s14.2).fID),vI ((rdL p0.fTracks s14.2).fFrom),vI ((rdL p0.fTracks s14.2).fTo),vI ((rdL p0.fTracks s14.2).fLong),vI ((rdL p0.fTracks s14.2).fToll),.slice ((rdL ys0_1 s14.2).1.1) ((rdL p0.fTracks s14.2).fK.length) ((rdL ys0_1 s14.2).1.2.2)] jI rfl rfl rfl) (oY rfl (yMI rfl) ?_))))))
          obtain ⟨y27,hy28,h⟩:=bOs h
          refine oY rfl (yC [.agg #[vI ((rdL p0.fTracks s14.2).fID),vI ((rdL p0.fTracks s14.2).fFrom),vI ((rdL p0.fTracks s14.2).fTo),vI ((rdL p0.fTracks s14.2).fLong),vI ((rdL p0.fTracks s14.2).fToll),.slice ((rdL ys0_1 s14.2).1.1) ((rdL p0.fTracks s14.2).fK.length) ((rdL ys0_1 s14.2).1.2.2)],vI (rdL (rdL p3.fH ((rdL p0.fTracks s14.2).fFrom)) s21.2)] qN rfl (fun W2 hW2 => gC (TT.mk ((rdL p0.fTracks s14.2).fID) ((rdL p0.fTracks s14.2).fFrom) ((rdL p0.fTracks s14.2).fTo) ((rdL p0.fTracks s14.2).fLong) ((rdL p0.fTracks s14.2).fToll) ((rdL p0.fTracks s14.2).fK)) (rdL (rdL p3.fH ((rdL p0.fTracks s14.2).fFrom)) s21.2) y27 hy28 W2 ((rdL ys0_1 s14.2).1.1) ((rdL p0.fTracks s14.2).fK.length) ((rdL ys0_1 s14.2).1.2.2) rfl ((NestL.rd (NestL.arg hN0_1) hg17.1 (ap hg17.2 rfl)) W2 hW2)) rfl) (oY rfl (aI rfl) (oY rfl (yE rfl rfl) (oY rfl (yE rfl rfl) (oY rfl (yAI rfl) (oY rfl (yAB rfl) (oN (eT (cS (cS (cR (oY rfl (yMB rfl) (oY rfl (bE rfl) (oY rfl (yMB rfl) ?_)))))))))))))
          obtain ⟨b30,hb31,h⟩:=bOs h
          refine oJ 7 (fun tm0 => (upd (upd (upd (upd (upd (upd (upd (upd (upd (upd (upd (upd (upd (upd (upd (upd (upd tm0 7 (.pointer (some ⟨b3,0,none⟩))) 8 (.bool s21.1)) 37 (.slice Ab p0.fTracks.length cb)) 38 (vI (p0.fTracks.length:Int))) 39 (vI s14.2)) 40 (.bool (decide (s14.2 < (p0.fTracks.length:Int))))) 10 (.pointer (some ⟨b18,0,none⟩))) 48 (.slice ((rdL ys3_0 ((rdL p0.fTracks s14.2).fFrom)).1.1) ((rdL p3.fH ((rdL p0.fTracks s14.2).fFrom)).length) ((rdL ys3_0 ((rdL p0.fTracks s14.2).fFrom)).1.2.2))) 49 (vI (((rdL p3.fH ((rdL p0.fTracks s14.2).fFrom)).length : Nat) : Int))) 50 (vI s21.2)) 51 (.bool (decide (s21.2 < (((rdL p3.fH ((rdL p0.fTracks s14.2).fFrom)).length : Nat) : Int))))) 11 (vI s21.2)) 12 (vI (rdL (rdL p3.fH ((rdL p0.fTracks s14.2).fFrom)) s21.2))) 63 (.bool ((decide ((rdL (rdL p3.fH ((rdL p0.fTracks s14.2).fFrom)) s21.2) < 0)) || (decide (60 < w64 (s21.2 + ((rdL p0.fTracks s14.2).fToll))))))) 13 (vI y27.1)) 14 (.bool y27.2)) 79 (.bool b30))) (fun tm0 => ?_) (fun key => ?_)
          ·refine oN (eT ?_)
           rcases iOs h with ⟨hp32,h⟩ | ⟨hp32,h⟩
           ·refine cT (vB hp32) (aE (ag (ae (eT (cR (oY rfl (aZ rfl rfl) (oY rfl (yMI rfl) (oN ?_))))))))
            obtain rfl:=sI h
            exact eN ⟨_,rfl,(kp4 (kp4 (kp (kp rfl))))⟩
           ·refine cF (vB hp32) (cK (eT (cS ?_)))
            refine bA 13 dE (by kernel_rfl) (by kernel_rfl) ?_
            refine qY rfl (yFA dM rfl) (qY rfl (yL 2 jC rfl rfl rfl) (qY rfl (yFA lq rfl) (qY rfl (yL 3 a8 rfl rfl rfl) ?_)))
            obtain ⟨hg33,h⟩:=gOs h
            refine qY rfl (yI m9 (by decide) hg33.1 hg33.2 (RdL.arg hr3_0) (eL az (NestP.hn hN3_0.p rfl)) rfl rfl) ?_
            refine qY rfl (yR (A:=A3_0) (j:=(Int.toNat ((rdL p0.fTracks s14.2).fTo) * 1)) (v:=.slice ((rdL ys3_0 ((rdL p0.fTracks s14.2).fTo)).1.1) ((rdL p3.fH ((rdL p0.fTracks s14.2).fTo)).length) ((rdL ys3_0 ((rdL p0.fTracks s14.2).fTo)).1.2.2)) kz (RdL.arg hr3_0) rfl (aG az hg33.1 (ap hg33.2 (NestP.hn hN3_0.p rfl)) (congrArg (fun n : Nat => some (Value.slice (rdL ys3_0 ((rdL p0.fTracks s14.2).fTo)).1.1 n (rdL ys3_0 ((rdL p0.fTracks s14.2).fTo)).1.2.2)) (NestP.len hN3_0.p hg33.1 (ap hg33.2 rfl))))) (qY rfl (yMI rfl) (qY rfl (yFA lE rfl) (qY rfl (yL 3 a8 rfl rfl rfl) (qY rfl (aZ rfl rfl) ?_))))
            obtain ⟨hg34,h⟩:=gOs h
            refine qY rfl (yI dz (by decide) hg34.1 hg34.2 (NestL.rd (NestL.arg hN3_0) hg33.1 (ap hg33.2 rfl)) (eL aD rfl) rfl rfl) ?_
            refine qY rfl (yR (A:=((rdL ys3_0 ((rdL p0.fTracks s14.2).fTo)).1.1)) (j:=(Int.toNat (w64 (s21.2 + ((rdL p0.fTracks s14.2).fToll))) * 1)) (v:=vI (rdL (rdL p3.fH ((rdL p0.fTracks s14.2).fTo)) (w64 (s21.2 + ((rdL p0.fTracks s14.2).fToll))))) a8 (NestL.rd (NestL.arg hN3_0) hg33.1 (ap hg33.2 rfl)) rfl (aG aD hg34.1 (ap hg34.2 rfl) rfl)) (qY rfl (yAI rfl) (dm (oN (eT (cS (cR (oY rfl (yMI rfl) (oY rfl (bl rfl rfl) (oY rfl (yMB rfl) ?_)))))))))
            refine oJ 7 (fun tm0 => (upd (upd (upd (upd (upd (upd (upd (upd (upd (upd (upd (upd (upd (upd (upd (upd (upd (upd (upd tm0 7 (.pointer (some ⟨b3,0,none⟩))) 8 (.bool s21.1)) 37 (.slice Ab p0.fTracks.length cb)) 38 (vI (p0.fTracks.length:Int))) 39 (vI s14.2)) 40 (.bool (decide (s14.2 < (p0.fTracks.length:Int))))) 10 (.pointer (some ⟨b18,0,none⟩))) 48 (.slice ((rdL ys3_0 ((rdL p0.fTracks s14.2).fFrom)).1.1) ((rdL p3.fH ((rdL p0.fTracks s14.2).fFrom)).length) ((rdL ys3_0 ((rdL p0.fTracks s14.2).fFrom)).1.2.2))) 49 (vI (((rdL p3.fH ((rdL p0.fTracks s14.2).fFrom)).length : Nat) : Int))) 50 (vI s21.2)) 51 (.bool (decide (s21.2 < (((rdL p3.fH ((rdL p0.fTracks s14.2).fFrom)).length : Nat) : Int))))) 11 (vI s21.2)) 12 (vI (rdL (rdL p3.fH ((rdL p0.fTracks s14.2).fFrom)) s21.2))) 63 (.bool ((decide ((rdL (rdL p3.fH ((rdL p0.fTracks s14.2).fFrom)) s21.2) < 0)) || (decide (60 < w64 (s21.2 + ((rdL p0.fTracks s14.2).fToll))))))) 13 (vI y27.1)) 14 (.bool y27.2)) 79 (.bool b30)) 15 (vI (rdL (rdL p3.fH ((rdL p0.fTracks s14.2).fTo)) (w64 (s21.2 + ((rdL p0.fTracks s14.2).fToll)))))) 101 (.bool ((decide ((rdL (rdL p3.fH ((rdL p0.fTracks s14.2).fTo)) (w64 (s21.2 + ((rdL p0.fTracks s14.2).fToll)))) < 0)) || (decide (w64 (y27.1 + ((rdL p0.fTracks s14.2).fLong)) < (rdL (rdL p3.fH ((rdL p0.fTracks s14.2).fTo)) (w64 (s21.2 + ((rdL p0.fTracks s14.2).fToll)))))))))) (fun tm0 => ?_) (fun key => ?_)
            ·refine oN (eT ?_)
             rcases iOs h with ⟨hp36,h⟩ | ⟨hp36,h⟩
             ·refine cT (vB hp36) (cS (cR (oY rfl (yAB rfl) (oN (eT (ak (ah (aa ?_))))))))
              obtain rfl:=sI h
              exact aw ⟨rfl,_,rfl,(kp4 (kp4 (kp (kp rfl))))⟩
             ·refine cF (vB hp36) (cK (ax (eT (cR (oY rfl (aZ rfl rfl) (oY rfl (yMI rfl) (oN ?_)))))))
              obtain rfl:=sI h
              exact eN ⟨_,rfl,(kp4 (kp4 (kp (kp rfl))))⟩
            ·rcases al (decide ((rdL (rdL p3.fH ((rdL p0.fTracks s14.2).fTo)) (w64 (s21.2 + ((rdL p0.fTracks s14.2).fToll)))) < 0)) with hp35 | hp35
             ·refine oSk (sF rfl rfl rfl rfl hp35) (oSk (sF rfl rfl rfl rfl hp35) (oSk (sF rfl rfl rfl rfl hp35) (oSk (sF rfl rfl rfl rfl hp35) (oSk (sF rfl rfl rfl rfl hp35) (oSk (sF rfl rfl rfl rfl hp35) (oY rfl (ac (vB hp35) rfl) ?_))))))
              exact key _ _ (keep (keep (keep (keep (keep (keep (keep (keep (keep (keep (keep (keep (keep (keep (keep (keep (keep (keep (keep rfl rfl) rfl) rfl) rfl) rfl) rfl) rfl) rfl) rfl) rfl) rfl) rfl) rfl) rfl) rfl) rfl) rfl) rfl) (vB (iS hp35)))
             ·refine oY (sT rfl rfl rfl rfl hp35) (yMI rfl) (oY (sT rfl rfl rfl rfl hp35) (yMI rfl) (oY (sT rfl rfl rfl rfl hp35) (yFA ik rfl) (oY (sT rfl rfl rfl rfl hp35) (yL 3 a8 rfl rfl rfl) (oY (sT rfl rfl rfl rfl hp35) (aZ rfl rfl) (oY (sT rfl rfl rfl rfl hp35) (gq rfl rfl) (oY rfl (ad (vB hp35) rfl) ?_))))))
              exact key _ _ (keep (keep (keep (keep (keep (keep (keep (keep (keep (keep (keep (keep (keep (keep (keep (keep (keep (keep (keep rfl rfl) rfl) rfl) rfl) rfl) rfl) rfl) rfl) rfl) rfl) rfl) rfl) rfl) rfl) rfl) rfl) rfl) rfl) (vB (iT hp35)))
          ·clear h; rcases iOs hb31 with ⟨hp29,h⟩ | ⟨hp29,h⟩
           ·refine oSk (sF rfl rfl rfl rfl hp29) (oSk (sF rfl rfl rfl rfl hp29) (oSk (sF rfl rfl rfl rfl hp29) (oSk (sF rfl rfl rfl rfl hp29) (oSk (sF rfl rfl rfl rfl hp29) (oSk (sF rfl rfl rfl rfl hp29) (oY rfl (ac (vB hp29) rfl) ?_))))))
            obtain rfl:=sI h
            exact key _ _ (kp4 (kp4 (kp4 (kp4 (kp rfl)))))
           ·refine oY (sT rfl rfl rfl rfl hp29) (yMI rfl) (oY (sT rfl rfl rfl rfl hp29) (yFA ik rfl) (oY (sT rfl rfl rfl rfl hp29) (yL 3 a8 rfl rfl rfl) (oY (sT rfl rfl rfl rfl hp29) (aZ rfl rfl) ?_)))
            obtain ⟨y37,hy38,h⟩:=bOs h
            refine oY (sT rfl rfl rfl rfl hp29) (yC [vI (w64 (y27.1 + ((rdL p0.fTracks s14.2).fLong)))] kw rfl (fun W2 hW2 => cm (w64 (y27.1 + ((rdL p0.fTracks s14.2).fLong))) y37 hy38 W2 ) rfl) (oY (sT rfl rfl rfl rfl hp29) (bE rfl) (oY rfl (ad (vB hp29) rfl) ?_))
            obtain rfl:=sI h
            exact key _ _ (kp4 (kp4 (kp4 (kp4 (kp rfl)))))
        ·rcases al (decide ((rdL (rdL p3.fH ((rdL p0.fTracks s14.2).fFrom)) s21.2) < 0)) with hp25 | hp25
         ·refine oSk (sF rfl rfl rfl rfl hp25) (oSk (sF rfl rfl rfl rfl hp25) (oSk (sF rfl rfl rfl rfl hp25) (oSk (sF rfl rfl rfl rfl hp25) (oSk (sF rfl rfl rfl rfl hp25) (oY rfl (ac (vB hp25) rfl) ?_)))))
          exact key _ _ (keep (keep (keep (keep (keep (keep (keep (keep (keep (keep (keep (keep (keep (keep rfl rfl) rfl) rfl) rfl) rfl) rfl) rfl) rfl) rfl) rfl) rfl) rfl) rfl) (vB (iS hp25)))
         ·refine oY (sT rfl rfl rfl rfl hp25) (yMI rfl) (oY (sT rfl rfl rfl rfl hp25) (yFA lE rfl) (oY (sT rfl rfl rfl rfl hp25) (yL 3 a8 rfl rfl rfl) (oY (sT rfl rfl rfl rfl hp25) (aZ rfl rfl) (oY (sT rfl rfl rfl rfl hp25) (gq rfl rfl) (oY rfl (ad (vB hp25) rfl) ?_)))))
          exact key _ _ (keep (keep (keep (keep (keep (keep (keep (keep (keep (keep (keep (keep (keep (keep rfl rfl) rfl) rfl) rfl) rfl) rfl) rfl) rfl) rfl) rfl) rfl) rfl) rfl) (vB (iT hp25)))
       ·refine cF (vB hp23) (aE (ag ?_))
        obtain rfl:=sI h
        exact aw ⟨rfl,_,rfl,(kp4 (kp4 (kp (kp rfl))))⟩
      ·intro e L tm hJ
       rcases u22 with u40 | u41
       ·dsimp only at h hJ
        obtain ⟨rfl,tm0_u40,rfl,rfl⟩:=hJ
        refine ⟨(by intro hc; cases hc),?_⟩
        refine ah (ah (aa (aT 3 ?_)))
        obtain rfl:=sI h
        exact aw ⟨rfl,_,rfl,(kp4 (kp rfl))⟩
       ·dsimp only at h hJ
        obtain ⟨rfl,tm0_u41,rfl,rfl⟩:=hJ
        refine ⟨(by intro hc; cases hc),?_⟩
        refine ae (ax (eT (cR (oY rfl (aZ rfl rfl) (oY rfl (yMI rfl) (oN (aT 3 ?_)))))))
        obtain rfl:=sI h
        exact eN ⟨_,rfl,(kp4 (kp rfl))⟩
     ·refine cF (vB hp16) (aE (ag ?_))
      obtain rfl:=sI h
      exact aw ⟨rfl,_,rfl,(kp4 (kp rfl))⟩
    ·intro e L tm hJ
     rcases u15 with u43 | u44
     ·dsimp only at h hJ
      obtain ⟨rfl,tm0_u43,rfl,rfl⟩:=hJ
      refine ⟨(by intro hc; cases hc),?_⟩
      refine ah (aa ?_)
      obtain rfl:=sI h
      exact aj (.inl rfl) rfl (rVt (v:=.bool u43.1) rfl) (fun W2 hW2 => ⟨rfl,hW2.none⟩)
     ·dsimp only at h hJ
      obtain ⟨rfl,tm0_u44,rfl,rfl⟩:=hJ
      refine ⟨(by intro hc; cases hc),?_⟩
      refine ae (eT (cS (cR (oY rfl (yAB rfl) (oN (eT (ak ?_)))))))
      obtain rfl:=sI h
      exact aj (.inl rfl) rfl (rVt (v:=.bool true) rfl) (fun W2 hW2 => ⟨rfl,hW2.none⟩)
 ·clear h; rcases iOs hb6 with ⟨hp4,h⟩ | ⟨hp4,h⟩
  ·refine oSk (sF rfl rfl rfl rfl hp4) (oSk (sF rfl rfl rfl rfl hp4) (oSk (sF rfl rfl rfl rfl hp4) (oSk (sF rfl rfl rfl rfl hp4) (oY rfl (ac (vB hp4) rfl) ?_))))
   obtain rfl:=sI h
   exact key _ _ (kp4 (kp (kp rfl)))
  ·refine oY (sT rfl rfl rfl rfl hp4) (yFA dM rfl) (oY (sT rfl rfl rfl rfl hp4) (yL 2 jC rfl rfl rfl) ?_)
   obtain ⟨y46,hy47,h⟩:=bOs h
   refine oY (sT rfl rfl rfl rfl hp4) (yC [.slice A3_0 p3.fH.length c3_0,.func (.func 152) #[] #[]] go_151 rfl (fun W2 hW2 => km p3.fH (fun x45 => dJ x45) y46 hy47 W2 A3_0 p3.fH.length c3_0 ys3_0 rfl ((RdL.arg hr3_0) W2 hW2) (NestL.at (NestL.arg hN3_0) W2 hW2) 152 [] [] go_152 (fun W3 hb x hx rx y hxy => lP  x  y hxy W3 hx.1 _ hx.2.2 rfl rx)) rfl) (oY (sT rfl rfl rfl rfl hp4) (ms rfl rfl) (oY rfl (ad (vB hp4) rfl) ?_))
   obtain rfl:=sI h
   exact key _ _ (kp4 (kp (kp rfl)))
theorem ip (p0:TR) (p1:Int) (p2:Int) (p3:TTimes) (res:Int) (h:di p0 p1 p2 p3 = some res) (W:World) (Ab:Option Addr) (n0_1 cb : Nat) (ys0_1:List (Hd × TT)) (hn0_1:n0_1 = p0.fTracks.length) (hr0_1:Rd W Ab n0_1 cb (encL TTrack_cells2 ys0_1)) (hN0_1:NestW W (fun z : TT => z.fK) TSpan_cells ys0_1 p0.fTracks) (A3_0:Option Addr) (n3_0 c3_0 : Nat) (ys3_0:List (Hd × (List Int))) (hn3_0:n3_0 = p3.fH.length) (hr3_0:Rd W A3_0 n3_0 c3_0 (encL SlInt_cells2 ys3_0)) (hN3_0:NestW W (fun z : (List Int) => z) cI ys3_0 p3.fH) :
  Calls Tryz.prog 50 [.agg #[vI p0.fPlaces,.slice Ab n0_1 cb],vI p1,vI p2,.agg #[.slice A3_0 n3_0 c3_0]].toArray W fun e W2 => e = .returned (vI res) ∧ Ext W W2 []:=by
 subst hn0_1
 subst hn3_0
 unfold di at h
 refine ab (m:=24) Tryz.func50 rfl rfl (nB rfl) (cS (cR ?_))
 refine aN [vI p0.fPlaces,.slice Ab p0.fTracks.length cb] rfl rfl rfl (fun b1 => ?_)
 refine aN [.slice A3_0 p3.fH.length c3_0] rfl rfl rfl (fun b2 => ?_)
 refine oY rfl (yAI rfl) (oN (eT (cS (cS (cR (oY rfl (yN 0 [vI p0.fPlaces,.slice Ab p0.fTracks.length cb] ei rfl rfl rfl) (oY rfl (yMI rfl) (oY rfl (yMI rfl) (oY rfl (yMI rfl) ?_)))))))))
 obtain ⟨y3,hy4,h⟩:=bOs h
 refine oY rfl (yC [.agg #[vI p0.fPlaces,.slice Ab p0.fTracks.length cb],vI p1,vI p1,vI p2,vI 0] rE rfl (fun W2 hW2 => eu p0 p1 p1 p2 0 y3 hy4 W2 Ab p0.fTracks.length cb ys0_1 rfl ((RdL.arg hr0_1) W2 hW2) (NestL.at (NestL.arg hN0_1) W2 hW2)) rfl) (oY rfl (yAI rfl) (oN (eT (cS (cR (oY rfl (yMI rfl) (oY rfl (dD rfl rfl) (oN (eT ?_)))))))))
 rcases iOs h with ⟨hp5,h⟩ | ⟨hp5,h⟩
 ·refine cT (vB hp5) (cS (cR (oY rfl (yMI rfl) (oY rfl (yAI rfl) (oN (eT (ak (aa ?_))))))))
  obtain rfl:=sI h
  exact aj (.inl rfl) rfl (rVt (v:=vI y3) rfl) (fun W2 hW2 => ⟨rfl,hW2.none⟩)
 ·refine cF (vB hp5) (cK (eT (cS (cS (cR (oY rfl (yN 0 [vI p0.fPlaces,.slice Ab p0.fTracks.length cb] ei rfl rfl rfl) (oY rfl (yMI rfl) (oY rfl (yMI rfl) (oY rfl (yN 1 [.slice A3_0 p3.fH.length c3_0] mV rfl rfl rfl) ?_)))))))))
  obtain ⟨y6,hy7,h⟩:=bOs h
  refine oY rfl (yC [.agg #[vI p0.fPlaces,.slice Ab p0.fTracks.length cb],vI p1,vI p2,.agg #[.slice A3_0 p3.fH.length c3_0]] go_112 rfl (fun W2 hW2 => m7 p0 p1 p2 p3 y6 hy7 W2 Ab p0.fTracks.length cb ys0_1 rfl ((RdL.arg hr0_1) W2 hW2) (NestL.at (NestL.arg hN0_1) W2 hW2) A3_0 p3.fH.length c3_0 ys3_0 rfl ((RdL.arg hr3_0) W2 hW2) (NestL.at (NestL.arg hN3_0) W2 hW2)) rfl) (oY rfl (bE rfl) (oN (eT ?_)))
  rcases iOs h with ⟨hp8,h⟩ | ⟨hp8,h⟩
  ·refine cT (vB hp8) (cS (cR (oY rfl (yAI rfl) (oN (eT (ak (aa ?_)))))))
   obtain rfl:=sI h
   exact aj (.inl rfl) rfl (rVt (v:=vI 8) rfl) (fun W2 hW2 => ⟨rfl,hW2.none⟩)
  ·refine cF (vB hp8) (cK (eT (cS (cR (oY rfl (yAI rfl) (oN (eT (ak ?_))))))))
   obtain rfl:=sI h
   exact aj (.inl rfl) rfl (rVt (v:=vI 0) rfl) (fun W2 hW2 => ⟨rfl,hW2.none⟩)
theorem nn (p0:TR) (p1:Int) (p2:Int) (p3:Int) (p4:TJ) (res:Bool) (h:gh p0 p1 p2 p3 p4 = some res) (W:World) (Ab:Option Addr) (n0_1 cb : Nat) (ys0_1:List (Hd × TT)) (hn0_1:n0_1 = p0.fTracks.length) (hr0_1:Rd W Ab n0_1 cb (encL TTrack_cells2 ys0_1)) (hN0_1:NestW W (fun z : TT => z.fK) TSpan_cells ys0_1 p0.fTracks) (A4_0:Option Addr) (n4_0 c4_0 : Nat) (hn4_0:n4_0 = p4.fLegs.length) (hr4_0:Rd W A4_0 n4_0 c4_0 (encL TLeg_cells p4.fLegs)) :
  Calls Tryz.prog 113 [.agg #[vI p0.fPlaces,.slice Ab n0_1 cb],vI p1,vI p2,vI p3,.agg #[.slice A4_0 n4_0 c4_0,vI p4.fA,vI p4.fToll]].toArray W fun e W2 => e = .returned (.bool res) ∧ Ext W W2 []:=by
 subst hn0_1
 subst hn4_0
 unfold gh at h
 refine ab (m:=118) Tryz.func113 rfl rfl (nB rfl) (cS (cR ?_))
 refine aN [vI p0.fPlaces,.slice Ab p0.fTracks.length cb] rfl rfl rfl (fun b1 => ?_)
 refine aN [.slice A4_0 p4.fLegs.length c4_0,vI p4.fA,vI p4.fToll] rfl rfl rfl (fun b2 => ?_)
 refine oY rfl (yAB rfl) (oN (eT (cS (cR (oY rfl (yAI rfl) (oN (eT (cS (cS (cR (oY rfl (yFA ng rfl) (oY rfl (yL 1 sc_27 rfl rfl rfl) (oY rfl (bk (us:=[]) sO rfl) (oY rfl (yMI rfl) (oN (eT (cB ?_)))))))))))))))))
 obtain ⟨u5,hl30,h⟩:=bOs h
 refine bt (fun (s:(Int × Int × Bool × Int × Int)) L tm => ∃ (tm0:Nat → Value),L = [ai b1 24 [vI p0.fPlaces,.slice Ab p0.fTracks.length cb],ai b2 29 [.slice A4_0 p4.fLegs.length c4_0,vI p4.fA,vI p4.fToll]] ∧ tm = (upd (upd (upd (upd (upd (upd (upd (upd (upd (upd tm0 1 (vI s.1)) 2 (vI p2)) 3 (vI s.2.1)) 5 (.pointer (some ⟨b1,0,none⟩))) 9 (.pointer (some ⟨b2,0,none⟩))) 10 (.bool s.2.2.1)) 11 (vI s.2.2.2.1)) 18 (.slice A4_0 p4.fLegs.length c4_0)) 19 (vI (p4.fLegs.length:Int))) 20 (vI s.2.2.2.2))) 0 hl30 ⟨_,rfl,(kp4 (kp4 (kp (kp rfl))))⟩ ?_ ?_
 ·rintro s4 L tm st ⟨tm0_s4,rfl,rfl⟩ h
  unfold ed at h
  refine cS (cR (oY rfl (bl rfl rfl) (oN (eT (cS ?_)))))
  rcases iOs h with ⟨hp6,h⟩ | ⟨hp6,h⟩
  ·refine cT (vB hp6) (cK (eT (cS (cB (cS (cR ?_))))))
   obtain ⟨hg7,h⟩:=gOs h
   refine oY rfl (yI tf (by decide) hg7.1 hg7.2 (RdL.arg hr4_0) (eL bq rfl) rfl rfl) ?_
   refine oY rfl (yM (A:=A4_0) (j:=(Int.toNat s4.2.2.2.2 * 2)) [vI ((rdL p4.fLegs s4.2.2.2.2).fTrack),vI ((rdL p4.fLegs s4.2.2.2.2).fHour)] qv (Nat.succ_pos _) (RdL.arg hr4_0) rfl (bh bq hg7.1 (ap hg7.2 rfl))) ?_
   refine aB qO rfl (fun b8 => ?_)
   refine cJ rfl (yS 2 [vI ((rdL p4.fLegs s4.2.2.2.2).fTrack),vI ((rdL p4.fLegs s4.2.2.2.2).fHour)] sw rfl (nB rfl) rfl rfl rfl) (oN (eT (cS (cR (oY rfl (yN 0 [vI p0.fPlaces,.slice Ab p0.fTracks.length cb] ei rfl rfl rfl) (oY rfl (yFA fo_132_0 rfl) (oY rfl (yL 2 a8 rfl rfl rfl) ?_)))))))
   obtain ⟨y9,hy10,h⟩:=bOs h
   refine oY rfl (yC [.agg #[vI p0.fPlaces,.slice Ab p0.fTracks.length cb],vI ((rdL p4.fLegs s4.2.2.2.2).fTrack)] go_155 rfl (fun W2 hW2 => ll p0 ((rdL p4.fLegs s4.2.2.2.2).fTrack) y9 hy10 W2 Ab p0.fTracks.length cb ys0_1 rfl ((RdL.arg hr0_1) W2 hW2) (NestL.at (NestL.arg hN0_1) W2 hW2)) rfl) (oY rfl (yAI rfl) (oN (eT (cS (cS (cR (oY rfl (yMI rfl) (oY rfl (bl rfl rfl) (oY rfl (yMB rfl) ?_)))))))))
   obtain ⟨b12,hb13,h⟩:=bOs h
   refine oJ 9 (fun tm0 => (upd (upd (upd (upd (upd (upd (upd (upd (upd (upd (upd (upd (upd (upd tm0 1 (vI s4.1)) 2 (vI p2)) 3 (vI s4.2.1)) 5 (.pointer (some ⟨b1,0,none⟩))) 9 (.pointer (some ⟨b2,0,none⟩))) 10 (.bool s4.2.2.1)) 11 (vI s4.2.2.2.1)) 18 (.slice A4_0 p4.fLegs.length c4_0)) 19 (vI (p4.fLegs.length:Int))) 20 (vI s4.2.2.2.2)) 21 (.bool (decide (s4.2.2.2.2 < (p4.fLegs.length:Int))))) 13 (.pointer (some ⟨b8,0,none⟩))) 14 (vI y9)) 39 (.bool b12))) (fun tm0 => ?_) (fun key => ?_)
   ·refine oY rfl (yMB rfl) ?_
    refine oJ 5 (fun tm0 => (upd (upd (upd (upd (upd (upd (upd (upd (upd (upd (upd (upd (upd (upd tm0 1 (vI s4.1)) 2 (vI p2)) 3 (vI s4.2.1)) 5 (.pointer (some ⟨b1,0,none⟩))) 9 (.pointer (some ⟨b2,0,none⟩))) 10 (.bool s4.2.2.1)) 11 (vI s4.2.2.2.1)) 18 (.slice A4_0 p4.fLegs.length c4_0)) 19 (vI (p4.fLegs.length:Int))) 20 (vI s4.2.2.2.2)) 21 (.bool (decide (s4.2.2.2.2 < (p4.fLegs.length:Int))))) 13 (.pointer (some ⟨b8,0,none⟩))) 14 (vI y9)) 45 (.bool (b12 || (decide ((rdL p4.fLegs s4.2.2.2.2).fHour < s4.2.1)))))) (fun tm0 => ?_) (fun key => ?_)
    ·refine oY rfl (yMB rfl) ?_
     obtain ⟨b16,hb17,h⟩:=bOs h
     refine oJ 5 (fun tm0 => (upd (upd (upd (upd (upd (upd (upd (upd (upd (upd (upd (upd (upd (upd tm0 1 (vI s4.1)) 2 (vI p2)) 3 (vI s4.2.1)) 5 (.pointer (some ⟨b1,0,none⟩))) 9 (.pointer (some ⟨b2,0,none⟩))) 10 (.bool s4.2.2.1)) 11 (vI s4.2.2.2.1)) 18 (.slice A4_0 p4.fLegs.length c4_0)) 19 (vI (p4.fLegs.length:Int))) 20 (vI s4.2.2.2.2)) 21 (.bool (decide (s4.2.2.2.2 < (p4.fLegs.length:Int))))) 13 (.pointer (some ⟨b8,0,none⟩))) 14 (vI y9)) 51 (.bool b16))) (fun tm0 => ?_) (fun key => ?_)
     ·refine oN (eT ?_)
      rcases iOs h with ⟨hp18,h⟩ | ⟨hp18,h⟩
      ·refine cT (vB hp18) (cS (cR (oY rfl (yAB rfl) (oN (eT (ak (aa (ah (aa (aT 2 ?_))))))))))
       obtain rfl:=sI h
       exact aw ⟨rfl,_,rfl,(kp4 (kp4 (kp (kp rfl))))⟩
      ·refine cF (vB hp18) (cK (eT (cS (cS ?_))))
       refine bA 13 dE (by kernel_rfl) (by kernel_rfl) ?_
       refine qY rfl (yFA dL rfl) (qY rfl (yL 0 jx rfl rfl rfl) (qY rfl (yMI rfl) ?_))
       obtain ⟨hg19,h⟩:=gOs h
       refine qY rfl (yI kn (by decide) hg19.1 hg19.2 (RdL.arg hr0_1) (eL au (NestP.hn hN0_1.p rfl)) rfl rfl) ?_
       refine qY rfl (yM (A:=Ab) (j:=(Int.toNat y9 * 6)) [vI ((rdL p0.fTracks y9).fID),vI ((rdL p0.fTracks y9).fFrom),vI ((rdL p0.fTracks y9).fTo),vI ((rdL p0.fTracks y9).fLong),vI ((rdL p0.fTracks y9).fToll),.slice ((rdL ys0_1 y9).1.1) ((rdL p0.fTracks y9).fK.length) ((rdL ys0_1 y9).1.2.2)] jI (Nat.succ_pos _) (RdL.arg hr0_1) rfl (kC (cN (NestP.snd hN0_1.p y9) (NestP.len hN0_1.p hg19.1 (ap hg19.2 rfl))).symm (bh au hg19.1 (ap hg19.2 (NestP.hn hN0_1.p rfl))))) (qY rfl (yFA kV rfl) (qY rfl (yL 2 a8 rfl rfl rfl) ?_))
       obtain ⟨y20,hy21,h⟩:=bOs h
       refine qY rfl (yC [.agg #[vI ((rdL p0.fTracks y9).fID),vI ((rdL p0.fTracks y9).fFrom),vI ((rdL p0.fTracks y9).fTo),vI ((rdL p0.fTracks y9).fLong),vI ((rdL p0.fTracks y9).fToll),.slice ((rdL ys0_1 y9).1.1) ((rdL p0.fTracks y9).fK.length) ((rdL ys0_1 y9).1.2.2)],vI ((rdL p4.fLegs s4.2.2.2.2).fHour)] qN rfl (fun W2 hW2 => gC (TT.mk ((rdL p0.fTracks y9).fID) ((rdL p0.fTracks y9).fFrom) ((rdL p0.fTracks y9).fTo) ((rdL p0.fTracks y9).fLong) ((rdL p0.fTracks y9).fToll) ((rdL p0.fTracks y9).fK)) ((rdL p4.fLegs s4.2.2.2.2).fHour) y20 hy21 W2 ((rdL ys0_1 y9).1.1) ((rdL p0.fTracks y9).fK.length) ((rdL ys0_1 y9).1.2.2) rfl ((NestL.rd (NestL.arg hN0_1) hg19.1 (ap hg19.2 rfl)) W2 hW2)) rfl) (qY rfl (aI rfl) (qY rfl (yE rfl rfl) (qY rfl (yE rfl rfl) (qY rfl (yAI rfl) (qY rfl (yAB rfl) (dm (oN (eT (cS (cR (oY rfl (yMB rfl) (oY rfl (bE rfl) (oY rfl (yMB rfl) ?_)))))))))))))
       refine oJ 5 (fun tm0 => (upd (upd (upd (upd (upd (upd (upd (upd (upd (upd (upd (upd (upd (upd (upd (upd (upd tm0 1 (vI s4.1)) 2 (vI p2)) 3 (vI s4.2.1)) 5 (.pointer (some ⟨b1,0,none⟩))) 9 (.pointer (some ⟨b2,0,none⟩))) 10 (.bool s4.2.2.1)) 11 (vI s4.2.2.2.1)) 18 (.slice A4_0 p4.fLegs.length c4_0)) 19 (vI (p4.fLegs.length:Int))) 20 (vI s4.2.2.2.2)) 21 (.bool (decide (s4.2.2.2.2 < (p4.fLegs.length:Int))))) 13 (.pointer (some ⟨b8,0,none⟩))) 14 (vI y9)) 51 (.bool b16)) 15 (vI y20.1)) 16 (.bool y20.2)) 70 (.bool ((!y20.2) || (y20.1 != ((rdL p4.fLegs s4.2.2.2.2).fHour)))))) (fun tm0 => ?_) (fun key => ?_)
       ·refine oN (eT ?_)
        rcases iOs h with ⟨hp23,h⟩ | ⟨hp23,h⟩
        ·refine cT (vB hp23) (cS (cR (oY rfl (yAB rfl) (oN (eT (ak (aa (ah (aa (aT 2 ?_))))))))))
         obtain rfl:=sI h
         exact aw ⟨rfl,_,rfl,(kp4 (kp4 (kp (kp rfl))))⟩
        ·refine cF (vB hp23) (cK (eT ?_))
         refine bA 26 dE (by kernel_rfl) (by kernel_rfl) ?_
         refine qY rfl (yFA dL rfl) (qY rfl (yL 0 jx rfl rfl rfl) (qY rfl (yMI rfl) ?_))
         obtain ⟨hg24,h⟩:=gOs h
         refine qY rfl (yI kn (by decide) hg24.1 hg24.2 (RdL.arg hr0_1) (eL au (NestP.hn hN0_1.p rfl)) rfl rfl) ?_
         refine qY rfl (yFR (A:=Ab) (j:=(Int.toNat y9 * 6)) lq rfl) (qY rfl (yR (A:=Ab) (j:=((Int.toNat y9 * 6) + 2)) (v:=vI ((rdL p0.fTracks y9).fTo)) a8 (RdL.arg hr0_1) rfl (eG au hg24.1 (ap hg24.2 (NestP.hn hN0_1.p rfl)) (congrArg (fun z : TT => some (Value.int .i64 z.fTo)) (NestP.snd hN0_1.p y9)))) (qY rfl (yFA kV rfl) (qY rfl (yL 2 a8 rfl rfl rfl) (qY rfl (yFA dL rfl) (qY rfl (yL 0 jx rfl rfl rfl) (qY rfl (yMI rfl) ?_))))))
         obtain ⟨hg25,h⟩:=gOs h
         refine qY rfl (yI kn (by decide) hg25.1 hg25.2 (RdL.arg hr0_1) (eL au (NestP.hn hN0_1.p rfl)) rfl rfl) ?_
         refine qY rfl (yFR (A:=Ab) (j:=(Int.toNat y9 * 6)) ik rfl) (qY rfl (yR (A:=Ab) (j:=((Int.toNat y9 * 6) + 3)) (v:=vI ((rdL p0.fTracks y9).fLong)) a8 (RdL.arg hr0_1) rfl (eG au hg25.1 (ap hg25.2 (NestP.hn hN0_1.p rfl)) (congrArg (fun z : TT => some (Value.int .i64 z.fLong)) (NestP.snd hN0_1.p y9)))) (qY rfl (aZ rfl rfl) (qY rfl (yMI rfl) (qY rfl (yFA dL rfl) (qY rfl (yL 0 jx rfl rfl rfl) (qY rfl (yMI rfl) ?_))))))
         obtain ⟨hg26,h⟩:=gOs h
         refine qY rfl (yI kn (by decide) hg26.1 hg26.2 (RdL.arg hr0_1) (eL au (NestP.hn hN0_1.p rfl)) rfl rfl) ?_
         refine qY rfl (yFR (A:=Ab) (j:=(Int.toNat y9 * 6)) lE rfl) (qY rfl (yR (A:=Ab) (j:=((Int.toNat y9 * 6) + 4)) (v:=vI ((rdL p0.fTracks y9).fToll)) a8 (RdL.arg hr0_1) rfl (eG au hg26.1 (ap hg26.2 (NestP.hn hN0_1.p rfl)) (congrArg (fun z : TT => some (Value.int .i64 z.fToll)) (NestP.snd hN0_1.p y9)))) (qY rfl (aZ rfl rfl) (qY rfl (yAI rfl) (qY rfl (yAI rfl) (qY rfl (yAI rfl) (dm (oN (ax (eT (cR (oY rfl (aZ rfl rfl) (oY rfl (yMI rfl) (oN (aT 2 ?_))))))))))))))
         obtain rfl:=sI h
         exact eN ⟨_,rfl,(kp4 (kp4 (kp (kp rfl))))⟩
       ·rcases al (!y20.2) with hp22 | hp22
        ·refine oSk (sF rfl rfl rfl rfl hp22) (oSk (sF rfl rfl rfl rfl hp22) (oSk (sF rfl rfl rfl rfl hp22) (oSk (sF rfl rfl rfl rfl hp22) (oY rfl (ac (vB hp22) rfl) ?_))))
         exact key _ _ (keep (keep (keep (keep (keep (keep (keep (keep (keep (keep (keep (keep (keep (keep (keep (keep (keep rfl rfl) rfl) rfl) rfl) rfl) rfl) rfl) rfl) rfl) rfl) rfl) rfl) rfl) rfl) rfl) rfl) (vB (iS hp22)))
        ·refine oY (sT rfl rfl rfl rfl hp22) (yMI rfl) (oY (sT rfl rfl rfl rfl hp22) (yFA kV rfl) (oY (sT rfl rfl rfl rfl hp22) (yL 2 a8 rfl rfl rfl) (oY (sT rfl rfl rfl rfl hp22) (dD rfl rfl) (oY rfl (ad (vB hp22) rfl) ?_))))
         exact key _ _ (keep (keep (keep (keep (keep (keep (keep (keep (keep (keep (keep (keep (keep (keep (keep (keep (keep rfl rfl) rfl) rfl) rfl) rfl) rfl) rfl) rfl) rfl) rfl) rfl) rfl) rfl) rfl) rfl) rfl) (vB (iT hp22)))
     ·clear h; rcases iOs hb17 with ⟨hp15,h⟩ | ⟨hp15,h⟩
      ·refine oSk (sF rfl rfl rfl rfl hp15) (oSk (sF rfl rfl rfl rfl hp15) (oSk (sF rfl rfl rfl rfl hp15) (oSk (sF rfl rfl rfl rfl hp15) (oY rfl (ac (vB hp15) rfl) ?_))))
       obtain rfl:=sI h
       exact key _ _ (kp4 (kp4 (kp4 (kp (kp rfl)))))
      ·refine oY (sT rfl rfl rfl rfl hp15) (yFA kV rfl) (oY (sT rfl rfl rfl rfl hp15) (yL 2 a8 rfl rfl rfl) ?_)
       obtain ⟨y27,hy28,h⟩:=bOs h
       refine oY (sT rfl rfl rfl rfl hp15) (yC [vI ((rdL p4.fLegs s4.2.2.2.2).fHour)] kw rfl (fun W2 hW2 => cm ((rdL p4.fLegs s4.2.2.2.2).fHour) y27 hy28 W2 ) rfl) (oY (sT rfl rfl rfl rfl hp15) (bE rfl) (oY rfl (ad (vB hp15) rfl) ?_))
       obtain rfl:=sI h
       exact key _ _ (kp4 (kp4 (kp4 (kp (kp rfl)))))
    ·rcases al b12 with hp14 | hp14
     ·refine oSk (sF rfl rfl rfl rfl hp14) (oSk (sF rfl rfl rfl rfl hp14) (oSk (sF rfl rfl rfl rfl hp14) (oSk (sF rfl rfl rfl rfl hp14) (oY rfl (ac (vB hp14) rfl) ?_))))
      exact key _ _ (keep (keep (keep (keep (keep (keep (keep (keep (keep (keep (keep (keep (keep (keep rfl rfl) rfl) rfl) rfl) rfl) rfl) rfl) rfl) rfl) rfl) rfl) rfl) rfl) (vB (iS hp14)))
     ·refine oY (sT rfl rfl rfl rfl hp14) (yFA kV rfl) (oY (sT rfl rfl rfl rfl hp14) (yL 2 a8 rfl rfl rfl) (oY (sT rfl rfl rfl rfl hp14) (yMI rfl) (oY (sT rfl rfl rfl rfl hp14) (bl rfl rfl) (oY rfl (ad (vB hp14) rfl) ?_))))
      exact key _ _ (keep (keep (keep (keep (keep (keep (keep (keep (keep (keep (keep (keep (keep (keep rfl rfl) rfl) rfl) rfl) rfl) rfl) rfl) rfl) rfl) rfl) rfl) rfl) rfl) (vB (iT hp14)))
   ·clear h; rcases iOs hb13 with ⟨hp11,h⟩ | ⟨hp11,h⟩
    ·refine oSk (sF rfl rfl rfl rfl hp11) (oSk (sF rfl rfl rfl rfl hp11) (oSk (sF rfl rfl rfl rfl hp11) (oSk (sF rfl rfl rfl rfl hp11) (oSk (sF rfl rfl rfl rfl hp11) (oSk (sF rfl rfl rfl rfl hp11) (oSk (sF rfl rfl rfl rfl hp11) (oSk (sF rfl rfl rfl rfl hp11) (oY rfl (ac (vB hp11) rfl) ?_))))))))
     obtain rfl:=sI h
     exact key _ _ (kp4 (kp4 (kp4 (kp (kp rfl)))))
    ·refine oY (sT rfl rfl rfl rfl hp11) (yFA dL rfl) (oY (sT rfl rfl rfl rfl hp11) (yL 0 jx rfl rfl rfl) (oY (sT rfl rfl rfl rfl hp11) (yMI rfl) ?_))
     obtain ⟨hg29,h⟩:=gOs h
     refine oY (sT rfl rfl rfl rfl hp11) (yI kn (by decide) hg29.1 hg29.2 (RdL.arg hr0_1) (eL au (NestP.hn hN0_1.p rfl)) rfl rfl) ?_
     refine oY (sT rfl rfl rfl rfl hp11) (yFR (A:=Ab) (j:=(Int.toNat y9 * 6)) kR rfl) (oY (sT rfl rfl rfl rfl hp11) (yR (A:=Ab) (j:=((Int.toNat y9 * 6) + 1)) (v:=vI ((rdL p0.fTracks y9).fFrom)) a8 (RdL.arg hr0_1) rfl (eG au hg29.1 (ap hg29.2 (NestP.hn hN0_1.p rfl)) (congrArg (fun z : TT => some (Value.int .i64 z.fFrom)) (NestP.snd hN0_1.p y9)))) (oY (sT rfl rfl rfl rfl hp11) (yMI rfl) (oY (sT rfl rfl rfl rfl hp11) (dD rfl rfl) (oY rfl (ad (vB hp11) rfl) ?_))))
     obtain rfl:=sI h
     exact key _ _ (kp4 (kp4 (kp4 (kp (kp rfl)))))
  ·refine cF (vB hp6) (aE (ag ?_))
   obtain rfl:=sI h
   exact aw ⟨rfl,_,rfl,(kp4 (kp4 (kp (kp rfl))))⟩
 ·intro e L tm hJ
  rcases u5 with u31 | u32
  ·dsimp only at h hJ
   obtain ⟨rfl,tm0_u31,rfl,rfl⟩:=hJ
   refine ⟨(by intro hc; cases hc),?_⟩
   refine ah (aa ?_)
   obtain rfl:=sI h
   exact aj (.inl rfl) rfl (rVt (v:=.bool u31.2.2.1) rfl) (fun W2 hW2 => ⟨rfl,hW2.none⟩)
  ·dsimp only at h hJ
   obtain ⟨rfl,tm0_u32,rfl,rfl⟩:=hJ
   refine ⟨(by intro hc; cases hc),?_⟩
   refine ae (eT (cS (cR (oY rfl (yMI rfl) (oY rfl (yMI rfl) (oY rfl (cL rfl rfl) (oY rfl (yMB rfl) ?_)))))))
   refine oJ 5 (fun tm0 => (upd (upd (upd (upd (upd tm0 3 (vI u32.2.1)) 9 (.pointer (some ⟨b2,0,none⟩))) 10 (.bool u32.2.2.1)) 11 (vI u32.2.2.2.1)) 103 (.bool ((u32.1 == p2) && (u32.2.1 == p4.fA))))) (fun tm0 => ?_) (fun key => ?_)
   ·refine oY rfl (yMB rfl) ?_
    refine oJ 5 (fun tm0 => (upd (upd (upd (upd tm0 3 (vI u32.2.1)) 10 (.bool u32.2.2.1)) 11 (vI u32.2.2.2.1)) 109 (.bool (((u32.1 == p2) && (u32.2.1 == p4.fA)) && (u32.2.2.2.1 == p4.fToll))))) (fun tm0 => ?_) (fun key => ?_)
    ·refine oY rfl (yMB rfl) ?_
     obtain ⟨b36,hb37,h⟩:=bOs h
     refine oJ 3 (fun tm0 => (upd (upd (upd tm0 10 (.bool u32.2.2.1)) 11 (vI u32.2.2.2.1)) 113 (.bool b36))) (fun tm0 => ?_) (fun key => ?_)
     ·refine oY rfl (yMB rfl) ?_
      refine oJ 3 (fun tm0 => (upd (upd tm0 10 (.bool u32.2.2.1)) 117 (.bool (b36 && (decide (u32.2.2.2.1 ≤ 60)))))) (fun tm0 => ?_) (fun key => ?_)
      ·refine oY rfl (yAB rfl) (oN (eT (ak ?_)))
       obtain rfl:=sI h
       exact aj (.inl rfl) rfl (rVt (v:=.bool (b36 && (decide (u32.2.2.2.1 ≤ 60)))) rfl) (fun W2 hW2 => ⟨rfl,hW2.none⟩)
      ·rcases al b36 with hp38 | hp38
       ·refine oY (sT rfl rfl rfl rfl hp38) (yMI rfl) (oY (sT rfl rfl rfl rfl hp38) (ju rfl rfl) (oY rfl (ac (vB hp38) rfl) ?_))
        exact key _ _ (keep (keep rfl rfl) (vB (gn hp38)))
       ·refine oSk (sF rfl rfl rfl rfl hp38) (oSk (sF rfl rfl rfl rfl hp38) (oY rfl (ad (vB hp38) rfl) ?_))
        exact key _ _ (keep (keep rfl rfl) (vB (gr hp38)))
     ·clear h; rcases iOs hb37 with ⟨hp35,h⟩ | ⟨hp35,h⟩
      ·refine oY (sT rfl rfl rfl rfl hp35) (yMI rfl) ?_
       obtain ⟨y39,hy40,h⟩:=bOs h
       refine oY (sT rfl rfl rfl rfl hp35) (yC [vI u32.2.1] kw rfl (fun W2 hW2 => cm u32.2.1 y39 hy40 W2 ) rfl) (oY rfl (ac (vB hp35) rfl) ?_)
       obtain rfl:=sI h
       exact key _ _ (kp (kp (kp rfl)))
      ·refine oSk (sF rfl rfl rfl rfl hp35) (oSk (sF rfl rfl rfl rfl hp35) (oY rfl (ad (vB hp35) rfl) ?_))
       obtain rfl:=sI h
       exact key _ _ (kp (kp (kp rfl)))
    ·rcases al ((u32.1 == p2) && (u32.2.1 == p4.fA)) with hp34 | hp34
     ·refine oY (sT rfl rfl rfl rfl hp34) (yMI rfl) (oY (sT rfl rfl rfl rfl hp34) (yFA lO rfl) (oY (sT rfl rfl rfl rfl hp34) (yL 1 a8 rfl rfl rfl) (oY (sT rfl rfl rfl rfl hp34) (cL rfl rfl) (oY rfl (ac (vB hp34) rfl) ?_))))
      exact key _ _ (keep (keep (keep (keep rfl rfl) rfl) rfl) (vB (gn hp34)))
     ·refine oSk (sF rfl rfl rfl rfl hp34) (oSk (sF rfl rfl rfl rfl hp34) (oSk (sF rfl rfl rfl rfl hp34) (oSk (sF rfl rfl rfl rfl hp34) (oY rfl (ad (vB hp34) rfl) ?_))))
      exact key _ _ (keep (keep (keep (keep rfl rfl) rfl) rfl) (vB (gr hp34)))
   ·rcases al (u32.1 == p2) with hp33 | hp33
    ·refine oY (sT rfl rfl rfl rfl hp33) (yMI rfl) (oY (sT rfl rfl rfl rfl hp33) (yFA j6 rfl) (oY (sT rfl rfl rfl rfl hp33) (yL 1 a8 rfl rfl rfl) (oY (sT rfl rfl rfl rfl hp33) (cL rfl rfl) (oY rfl (ac (vB hp33) rfl) ?_))))
     exact key _ _ (keep (keep (keep (keep (keep rfl rfl) rfl) rfl) rfl) (vB (gn hp33)))
    ·refine oSk (sF rfl rfl rfl rfl hp33) (oSk (sF rfl rfl rfl rfl hp33) (oSk (sF rfl rfl rfl rfl hp33) (oSk (sF rfl rfl rfl rfl hp33) (oY rfl (ad (vB hp33) rfl) ?_))))
     exact key _ _ (keep (keep (keep (keep (keep rfl rfl) rfl) rfl) rfl) (vB (gr hp33)))
theorem gt (p0:TR) (p1:Int) (p2:Int) (p3:Int) (p4:TJ) (res:Int) (h:ct p0 p1 p2 p3 p4 = some res) (W:World) (Ab:Option Addr) (n0_1 cb : Nat) (ys0_1:List (Hd × TT)) (hn0_1:n0_1 = p0.fTracks.length) (hr0_1:Rd W Ab n0_1 cb (encL TTrack_cells2 ys0_1)) (hN0_1:NestW W (fun z : TT => z.fK) TSpan_cells ys0_1 p0.fTracks) (A4_0:Option Addr) (n4_0 c4_0 : Nat) (hn4_0:n4_0 = p4.fLegs.length) (hr4_0:Rd W A4_0 n4_0 c4_0 (encL TLeg_cells p4.fLegs)) :
  Calls Tryz.prog 51 [.agg #[vI p0.fPlaces,.slice Ab n0_1 cb],vI p1,vI p2,vI p3,.agg #[.slice A4_0 n4_0 c4_0,vI p4.fA,vI p4.fToll]].toArray W fun e W2 => e = .returned (vI res) ∧ Ext W W2 []:=by
 subst hn0_1
 subst hn4_0
 unfold ct at h
 refine ab (m:=27) Tryz.func51 rfl rfl (nB rfl) (cS (cR ?_))
 refine aN [vI p0.fPlaces,.slice Ab p0.fTracks.length cb] rfl rfl rfl (fun b1 => ?_)
 refine aN [.slice A4_0 p4.fLegs.length c4_0,vI p4.fA,vI p4.fToll] rfl rfl rfl (fun b2 => ?_)
 refine oY rfl (yAI rfl) (oN (eT (cS (cS (cR (oY rfl (yN 0 [vI p0.fPlaces,.slice Ab p0.fTracks.length cb] ei rfl rfl rfl) (oY rfl (yMI rfl) (oY rfl (yMI rfl) (oY rfl (yMI rfl) ?_)))))))))
 obtain ⟨y3,hy4,h⟩:=bOs h
 refine oY rfl (yC [.agg #[vI p0.fPlaces,.slice Ab p0.fTracks.length cb],vI p1,vI p2,vI p3,vI 0] rE rfl (fun W2 hW2 => eu p0 p1 p2 p3 0 y3 hy4 W2 Ab p0.fTracks.length cb ys0_1 rfl ((RdL.arg hr0_1) W2 hW2) (NestL.at (NestL.arg hN0_1) W2 hW2)) rfl) (oY rfl (yAI rfl) (oN (eT (cS (cR (oY rfl (yMI rfl) (oY rfl (dD rfl rfl) (oN (eT ?_)))))))))
 rcases iOs h with ⟨hp5,h⟩ | ⟨hp5,h⟩
 ·refine cT (vB hp5) (cS (cR (oY rfl (yMI rfl) (oY rfl (yAI rfl) (oN (eT (ak (aa ?_))))))))
  obtain rfl:=sI h
  exact aj (.inl rfl) rfl (rVt (v:=vI y3) rfl) (fun W2 hW2 => ⟨rfl,hW2.none⟩)
 ·refine cF (vB hp5) (cK (eT (cS (cS (cR (oY rfl (yN 0 [vI p0.fPlaces,.slice Ab p0.fTracks.length cb] ei rfl rfl rfl) (oY rfl (yMI rfl) (oY rfl (yMI rfl) (oY rfl (yMI rfl) (oY rfl (yN 1 [.slice A4_0 p4.fLegs.length c4_0,vI p4.fA,vI p4.fToll] kk rfl rfl rfl) ?_))))))))))
  obtain ⟨y6,hy7,h⟩:=bOs h
  refine oY rfl (yC [.agg #[vI p0.fPlaces,.slice Ab p0.fTracks.length cb],vI p1,vI p2,vI p3,.agg #[.slice A4_0 p4.fLegs.length c4_0,vI p4.fA,vI p4.fToll]] go_113 rfl (fun W2 hW2 => nn p0 p1 p2 p3 p4 y6 hy7 W2 Ab p0.fTracks.length cb ys0_1 rfl ((RdL.arg hr0_1) W2 hW2) (NestL.at (NestL.arg hN0_1) W2 hW2) A4_0 p4.fLegs.length c4_0 rfl ((RdL.arg hr4_0) W2 hW2)) rfl) (oY rfl (bE rfl) (oN (eT ?_)))
  rcases iOs h with ⟨hp8,h⟩ | ⟨hp8,h⟩
  ·refine cT (vB hp8) (cS (cR (oY rfl (yAI rfl) (oN (eT (ak (aa ?_)))))))
   obtain rfl:=sI h
   exact aj (.inl rfl) rfl (rVt (v:=vI 8) rfl) (fun W2 hW2 => ⟨rfl,hW2.none⟩)
  ·refine cF (vB hp8) (cK (eT (cS (cR (oY rfl (yAI rfl) (oN (eT (ak ?_))))))))
   obtain rfl:=sI h
   exact aj (.inl rfl) rfl (rVt (v:=vI 0) rfl) (fun W2 hW2 => ⟨rfl,hW2.none⟩)
theorem gX (p0:TTimes) (p1:Int) (p2:Int) (res:Int) (h:cf p0 p1 p2 = some res) (W:World) (Aa:Option Addr) (n0_0 ca : Nat) (ys0_0:List (Hd × (List Int))) (hn0_0:n0_0 = p0.fH.length) (hr0_0:Rd W Aa n0_0 ca (encL SlInt_cells2 ys0_0)) (hN0_0:NestW W (fun z : (List Int) => z) cI ys0_0 p0.fH) :
  Calls Tryz.prog 53 [.agg #[.slice Aa n0_0 ca],vI p1,vI p2].toArray W fun e W2 => e = .returned (vI res) ∧ Ext W W2 []:=by
 subst hn0_0
 unfold cf at h
 refine ab (m:=38) Tryz.func53 rfl rfl (nB rfl) (cS (cR ?_))
 refine aN [.slice Aa p0.fH.length ca] rfl rfl rfl (fun b1 => ?_)
 refine oY rfl (yAI rfl) (oN (eT (cS (cS (cR (oY rfl (yMI rfl) (oY rfl (bl rfl rfl) (oY rfl (yMB rfl) ?_))))))))
 refine oJ 6 (fun tm0 => (upd (upd (upd (upd (upd tm0 1 (vI p1)) 2 (vI p2)) 3 (.pointer (some ⟨b1,0,none⟩))) 6 (vI 0)) 15 (.bool ((decide (p1 < 0)) || (decide ((p0.fH.length:Int) ≤ p1)))))) (fun tm0 => ?_) (fun key => ?_)
 ·refine oY rfl (yMB rfl) ?_
  refine oJ 3 (fun tm0 => (upd (upd (upd (upd (upd tm0 1 (vI p1)) 2 (vI p2)) 3 (.pointer (some ⟨b1,0,none⟩))) 6 (vI 0)) 19 (.bool (((decide (p1 < 0)) || (decide ((p0.fH.length:Int) ≤ p1))) || (decide (p2 < 0)))))) (fun tm0 => ?_) (fun key => ?_)
  ·refine oY rfl (yMB rfl) ?_
   obtain ⟨b5,hb6,h⟩:=bOs h
   refine oJ 9 (fun tm0 => (upd (upd (upd (upd (upd tm0 1 (vI p1)) 2 (vI p2)) 3 (.pointer (some ⟨b1,0,none⟩))) 6 (vI 0)) 29 (.bool b5))) (fun tm0 => ?_) (fun key => ?_)
   ·refine oN (eT ?_)
    rcases iOs h with ⟨hp7,h⟩ | ⟨hp7,h⟩
    ·refine cT (vB hp7) (cS (cR (oY rfl (yAI rfl) (oN (eT (ak (aa ?_)))))))
     obtain rfl:=sI h
     exact aj (.inl rfl) rfl (rVt (v:=vI (-2)) rfl) (fun W2 hW2 => ⟨rfl,hW2.none⟩)
    ·refine cF (vB hp7) (cK (eT (cS (cR (oY rfl (yFA dM rfl) (oY rfl (yL 0 jC rfl rfl rfl) (oY rfl (yMI rfl) ?_)))))))
     obtain ⟨hg8,h⟩:=gOs h
     refine oY rfl (yI m9 (by decide) hg8.1 hg8.2 (RdL.arg hr0_0) (eL az (NestP.hn hN0_0.p rfl)) rfl rfl) ?_
     refine oY rfl (yR (A:=Aa) (j:=(Int.toNat p1 * 1)) (v:=.slice ((rdL ys0_0 p1).1.1) ((rdL p0.fH p1).length) ((rdL ys0_0 p1).1.2.2)) kz (RdL.arg hr0_0) rfl (aG az hg8.1 (ap hg8.2 (NestP.hn hN0_0.p rfl)) (congrArg (fun n : Nat => some (Value.slice (rdL ys0_0 p1).1.1 n (rdL ys0_0 p1).1.2.2)) (NestP.len hN0_0.p hg8.1 (ap hg8.2 rfl))))) (oY rfl (yMI rfl) ?_)
     obtain ⟨hg9,h⟩:=gOs h
     refine oY rfl (yI dz (by decide) hg9.1 hg9.2 (NestL.rd (NestL.arg hN0_0) hg8.1 (ap hg8.2 rfl)) (eL aD rfl) rfl rfl) ?_
     refine oY rfl (yR (A:=((rdL ys0_0 p1).1.1)) (j:=(Int.toNat p2 * 1)) (v:=vI (rdL (rdL p0.fH p1) p2)) a8 (NestL.rd (NestL.arg hN0_0) hg8.1 (ap hg8.2 rfl)) rfl (aG aD hg9.1 (ap hg9.2 rfl) rfl)) (oY rfl (yAI rfl) (oN (eT (ak ?_))))
     obtain rfl:=sI h
     exact aj (.inl rfl) rfl (rVt (v:=vI (rdL (rdL p0.fH p1) p2)) rfl) (fun W2 hW2 => ⟨rfl,hW2.none⟩)
   ·clear h; rcases iOs hb6 with ⟨hp4,h⟩ | ⟨hp4,h⟩
    ·refine oSk (sF rfl rfl rfl rfl hp4) (oSk (sF rfl rfl rfl rfl hp4) (oSk (sF rfl rfl rfl rfl hp4) (oSk (sF rfl rfl rfl rfl hp4) (oSk (sF rfl rfl rfl rfl hp4) (oSk (sF rfl rfl rfl rfl hp4) (oSk (sF rfl rfl rfl rfl hp4) (oSk (sF rfl rfl rfl rfl hp4) (oY rfl (ac (vB hp4) rfl) ?_))))))))
     obtain rfl:=sI h
     exact key _ _ (kp4 (kp rfl))
    ·refine oY (sT rfl rfl rfl rfl hp4) (yMI rfl) (oY (sT rfl rfl rfl rfl hp4) (yFA dM rfl) (oY (sT rfl rfl rfl rfl hp4) (yL 0 jC rfl rfl rfl) (oY (sT rfl rfl rfl rfl hp4) (yMI rfl) ?_)))
     obtain ⟨hg10,h⟩:=gOs h
     refine oY (sT rfl rfl rfl rfl hp4) (yI m9 (by decide) hg10.1 hg10.2 (RdL.arg hr0_0) (eL az (NestP.hn hN0_0.p rfl)) rfl rfl) ?_
     refine oY (sT rfl rfl rfl rfl hp4) (yR (A:=Aa) (j:=(Int.toNat p1 * 1)) (v:=.slice ((rdL ys0_0 p1).1.1) ((rdL p0.fH p1).length) ((rdL ys0_0 p1).1.2.2)) kz (RdL.arg hr0_0) rfl (aG az hg10.1 (ap hg10.2 (NestP.hn hN0_0.p rfl)) (congrArg (fun n : Nat => some (Value.slice (rdL ys0_0 p1).1.1 n (rdL ys0_0 p1).1.2.2)) (NestP.len hN0_0.p hg10.1 (ap hg10.2 rfl))))) (oY (sT rfl rfl rfl rfl hp4) (bk (us:=[]) cU rfl) (oY (sT rfl rfl rfl rfl hp4) (ms rfl rfl) (oY rfl (ad (vB hp4) rfl) ?_)))
     obtain rfl:=sI h
     exact key _ _ (kp4 (kp rfl))
  ·rcases al ((decide (p1 < 0)) || (decide ((p0.fH.length:Int) ≤ p1))) with hp3 | hp3
   ·refine oSk (sF rfl rfl rfl rfl hp3) (oSk (sF rfl rfl rfl rfl hp3) (oY rfl (ac (vB hp3) rfl) ?_))
    exact key _ _ (keep (keep (keep (keep (keep rfl rfl) rfl) rfl) rfl) (vB (iS hp3)))
   ·refine oY (sT rfl rfl rfl rfl hp3) (yMI rfl) (oY (sT rfl rfl rfl rfl hp3) (bl rfl rfl) (oY rfl (ad (vB hp3) rfl) ?_))
    exact key _ _ (keep (keep (keep (keep (keep rfl rfl) rfl) rfl) rfl) (vB (iT hp3)))
 ·rcases al (decide (p1 < 0)) with hp2 | hp2
  ·refine oSk (sF rfl rfl rfl rfl hp2) (oSk (sF rfl rfl rfl rfl hp2) (oSk (sF rfl rfl rfl rfl hp2) (oSk (sF rfl rfl rfl rfl hp2) (oSk (sF rfl rfl rfl rfl hp2) (oY rfl (ac (vB hp2) rfl) ?_)))))
   exact key _ _ (keep (keep (keep (keep (keep rfl rfl) rfl) rfl) rfl) (vB (iS hp2)))
  ·refine oY (sT rfl rfl rfl rfl hp2) (yMI rfl) (oY (sT rfl rfl rfl rfl hp2) (yFA dM rfl) (oY (sT rfl rfl rfl rfl hp2) (yL 0 jC rfl rfl rfl) (oY (sT rfl rfl rfl rfl hp2) (bk (us:=[]) pC rfl) (oY (sT rfl rfl rfl rfl hp2) (ms rfl rfl) (oY rfl (ad (vB hp2) rfl) ?_)))))
   exact key _ _ (keep (keep (keep (keep (keep rfl rfl) rfl) rfl) rfl) (vB (iT hp2)))
theorem iz (p0:TTimes) (p1:Int) (p2:TJ) (res:Bool) (h:cl p0 p1 p2 = some res) (W:World) (Aa:Option Addr) (n0_0 ca : Nat) (ys0_0:List (Hd × (List Int))) (hn0_0:n0_0 = p0.fH.length) (hr0_0:Rd W Aa n0_0 ca (encL SlInt_cells2 ys0_0)) (hN0_0:NestW W (fun z : (List Int) => z) cI ys0_0 p0.fH) (A2_0:Option Addr) (n2_0 c2_0 : Nat) (hn2_0:n2_0 = p2.fLegs.length) (hr2_0:Rd W A2_0 n2_0 c2_0 (encL TLeg_cells p2.fLegs)) :
  Calls Tryz.prog 52 [.agg #[.slice Aa n0_0 ca],vI p1,.agg #[.slice A2_0 n2_0 c2_0,vI p2.fA,vI p2.fToll]].toArray W fun e W2 => e = .returned (.bool res) ∧ Ext W W2 []:=by
 subst hn0_0
 subst hn2_0
 unfold cl at h
 refine ab (m:=21) Tryz.func52 rfl rfl (nB rfl) (cS (cR ?_))
 refine aN [.slice Aa p0.fH.length ca] rfl rfl rfl (fun b1 => ?_)
 refine aN [.slice A2_0 p2.fLegs.length c2_0,vI p2.fA,vI p2.fToll] rfl rfl rfl (fun b2 => ?_)
 refine oY rfl (yAB rfl) (oN (eT (cS (cR (oY rfl (yN 0 [.slice Aa p0.fH.length ca] mV rfl rfl rfl) (oY rfl (yMI rfl) (oY rfl (yFA lO rfl) (oY rfl (yL 1 a8 rfl rfl rfl) ?_))))))))
 obtain ⟨y3,hy4,h⟩:=bOs h
 refine oY rfl (yC [.agg #[.slice Aa p0.fH.length ca],vI p1,vI p2.fToll] go_53 rfl (fun W2 hW2 => gX p0 p1 p2.fToll y3 hy4 W2 Aa p0.fH.length ca ys0_0 rfl ((RdL.arg hr0_0) W2 hW2) (NestL.at (NestL.arg hN0_0) W2 hW2)) rfl) (oY rfl (yAI rfl) (oN (eT (cS (cR (oY rfl (yMI rfl) (oY rfl (bl rfl rfl) (oY rfl (yMB rfl) ?_))))))))
 refine oJ 5 (fun tm0 => (upd (upd tm0 6 (.bool false)) 20 (.bool ((decide (y3 < 0)) || (decide (p2.fA < y3)))))) (fun tm0 => ?_) (fun key => ?_)
 ·refine oY rfl (yAB rfl) (oN (eT (ak ?_)))
  obtain rfl:=sI h
  exact aj (.inl rfl) rfl (rVt (v:=.bool ((decide (y3 < 0)) || (decide (p2.fA < y3)))) rfl) (fun W2 hW2 => ⟨rfl,hW2.none⟩)
 ·rcases al (decide (y3 < 0)) with hp5 | hp5
  ·refine oSk (sF rfl rfl rfl rfl hp5) (oSk (sF rfl rfl rfl rfl hp5) (oSk (sF rfl rfl rfl rfl hp5) (oSk (sF rfl rfl rfl rfl hp5) (oY rfl (ac (vB hp5) rfl) ?_))))
   exact key _ _ (keep (keep rfl rfl) (vB (iS hp5)))
  ·refine oY (sT rfl rfl rfl rfl hp5) (yMI rfl) (oY (sT rfl rfl rfl rfl hp5) (yFA j6 rfl) (oY (sT rfl rfl rfl rfl hp5) (yL 1 a8 rfl rfl rfl) (oY (sT rfl rfl rfl rfl hp5) (gq rfl rfl) (oY rfl (ad (vB hp5) rfl) ?_))))
   exact key _ _ (keep (keep rfl rfl) (vB (iT hp5)))
end Go.Proofs.YthndghnkebboaaaGreat
set_option maxHeartbeats 4000000
set_option maxRecDepth 100000
namespace Go.Proofs.YthndghnkebboaaaGreat
open Go.RowKit (Below)
attribute [local irreducible] OX QX CX EX OpY Calls CallsIn
theorem calxlaw05_CartSooner_ok (p0:TR) (p1:Int) (p2:Int) (p3:Int) (p4:TJ) (p5:TTimes) (p6:Int) (res:Bool) (h:dg p0 p1 p2 p3 p4 p5 p6 = some res) (W:World) (Ab:Option Addr) (n0_1 cb : Nat) (ys0_1:List (Hd × TT)) (hn0_1:n0_1 = p0.fTracks.length) (hr0_1:Rd W Ab n0_1 cb (encL TTrack_cells2 ys0_1)) (hN0_1:NestW W (fun z : TT => z.fK) TSpan_cells ys0_1 p0.fTracks) (A4_0:Option Addr) (n4_0 c4_0 : Nat) (hn4_0:n4_0 = p4.fLegs.length) (hr4_0:Rd W A4_0 n4_0 c4_0 (encL TLeg_cells p4.fLegs)) (A5_0:Option Addr) (n5_0 c5_0 : Nat) (ys5_0:List (Hd × (List Int))) (hn5_0:n5_0 = p5.fH.length) (hr5_0:Rd W A5_0 n5_0 c5_0 (encL SlInt_cells2 ys5_0)) (hN5_0:NestW W (fun z : (List Int) => z) cI ys5_0 p5.fH) :
  Calls Tryz.prog 11 [.agg #[vI p0.fPlaces,.slice Ab n0_1 cb],vI p1,vI p2,vI p3,.agg #[.slice A4_0 n4_0 c4_0,vI p4.fA,vI p4.fToll],.agg #[.slice A5_0 n5_0 c5_0],.int .u8 p6].toArray W fun e W2 => e = .returned (.bool res) ∧ Ext W W2 []:=by
 subst hn0_1
 subst hn4_0
 subst hn5_0
 unfold dg at h
 refine ab (m:=132) Tryz.func11 rfl rfl (nB rfl) (cS (cR ?_))
 refine aN [vI p0.fPlaces,.slice Ab p0.fTracks.length cb] rfl rfl rfl (fun b1 => ?_)
 refine aN [.slice A4_0 p4.fLegs.length c4_0,vI p4.fA,vI p4.fToll] rfl rfl rfl (fun b2 => ?_)
 refine aN [.slice A5_0 p5.fH.length c5_0] rfl rfl rfl (fun b3 => ?_)
 refine oY rfl (yAB rfl) (oN (eT (cS (cS (cR (oY rfl (yN 0 [vI p0.fPlaces,.slice Ab p0.fTracks.length cb] ei rfl rfl rfl) ?_))))))
 obtain ⟨y4,hy5,h⟩:=bOs h
 refine oY rfl (yC [.agg #[vI p0.fPlaces,.slice Ab p0.fTracks.length cb]] go_16 rfl (fun W2 hW2 => mu p0 y4 hy5 W2 Ab p0.fTracks.length cb ys0_1 rfl ((RdL.arg hr0_1) W2 hW2) (NestL.at (NestL.arg hN0_1) W2 hW2)) rfl) (oY rfl (bE rfl) (oY rfl (yMB rfl) ?_))
 obtain ⟨b7,hb8,h⟩:=bOs h
 refine oJ 4 (fun tm0 => (upd (upd (upd (upd (upd (upd (upd (upd (upd tm0 1 (vI p1)) 2 (vI p2)) 3 (vI p3)) 6 (.int .u8 p6)) 7 (.pointer (some ⟨b1,0,none⟩))) 11 (.pointer (some ⟨b2,0,none⟩))) 12 (.pointer (some ⟨b3,0,none⟩))) 14 (.bool false)) 29 (.bool b7))) (fun tm0 => ?_) (fun key => ?_)
 ·refine oY rfl (yMB rfl) ?_
  obtain ⟨b10,hb11,h⟩:=bOs h
  refine oJ 4 (fun tm0 => (upd (upd (upd (upd (upd (upd (upd (upd (upd tm0 1 (vI p1)) 2 (vI p2)) 3 (vI p3)) 6 (.int .u8 p6)) 7 (.pointer (some ⟨b1,0,none⟩))) 11 (.pointer (some ⟨b2,0,none⟩))) 12 (.pointer (some ⟨b3,0,none⟩))) 14 (.bool false)) 34 (.bool b10))) (fun tm0 => ?_) (fun key => ?_)
  ·refine oN (eT ?_)
   rcases iOs h with ⟨hp12,h⟩ | ⟨hp12,h⟩
   ·refine cT (vB hp12) (cS (cR ?_))
    obtain ⟨y13,hy14,h⟩:=bOs h
    refine oY rfl (yC [] tl rfl (fun W2 hW2 => cy  y13 hy14 W2 ) rfl) (oY rfl (yAB rfl) (oN (eT (ak (aa ?_)))))
    obtain rfl:=sI h
    exact aj (.inl rfl) rfl (rVt (v:=.bool y13) rfl) (fun W2 hW2 => ⟨rfl,hW2.none⟩)
   ·refine cF (vB hp12) (cK (eT (cS (cR (oY rfl (yN 0 [vI p0.fPlaces,.slice Ab p0.fTracks.length cb] ei rfl rfl rfl) (oY rfl (yMI rfl) (oY rfl (yMI rfl) ?_)))))))
    obtain ⟨y15,hy16,h⟩:=bOs h
    refine oC [.agg #[vI p0.fPlaces,.slice Ab p0.fTracks.length cb],vI p1,vI p3] _ _ _ rfl go_49 rfl (fun W2 hW2 => jp p0 p1 p3 y15 hy16 W2 Ab p0.fTracks.length cb ys0_1 rfl ((RdL.arg hr0_1) W2 hW2) (NestL.at (NestL.arg hN0_1) W2 hW2) W (fun _ => True) (fun W3 hb => ⟨fI hW2.below hb,trivial⟩) ) ?_
    rintro ⟨⟨A19,n21,c20⟩,ys24,F25⟩ ⟨hn22,hP23,hV26⟩
    replace hn22 : n21 = y15.1.fH.length:=hn22; subst hn22
    refine oY rfl (aI rfl) (oY rfl (yE rfl rfl) (oY rfl (yE rfl rfl) ?_))
    refine aB sH rfl (fun b27 => ?_)
    try dsimp only [lna,lca,lsz,lss]
    refine cJ rfl (yS 5 [.slice A19 y15.1.fH.length c20] sz_87 rfl (nB rfl) rfl rfl rfl) (oY rfl (yAI rfl) (oN (eT (cS (cS (cR (oY rfl (yMI rfl) (oY rfl (dD rfl rfl) (oN (eT ?_))))))))))
    rcases iOs h with ⟨hp28,h⟩ | ⟨hp28,h⟩
    ·refine cT (vB hp28) (cS (cR ?_))
     obtain ⟨y29,hy30,h⟩:=bOs h
     refine oY rfl (yC [] tl rfl (fun W2 hW2 => cy  y29 hy30 W2 ) rfl) (oY rfl (yAB rfl) (oN (eT (ak (aa ?_)))))
     obtain rfl:=sI h
     exact aj (.inl rfl) rfl (rVt (v:=.bool y29) rfl) (fun W2 hW2 => ⟨rfl,hW2.none⟩)
    ·refine cF (vB hp28) (cK (eT (cS (cS (cR (oY rfl (yN 0 [vI p0.fPlaces,.slice Ab p0.fTracks.length cb] ei rfl rfl rfl) (oY rfl (yMI rfl) (oY rfl (yMI rfl) (oY rfl (yN 5 [.slice A19 y15.1.fH.length c20] mV rfl rfl rfl) ?_)))))))))
     obtain ⟨y31,hy32,h⟩:=bOs h
     refine oY rfl (yC [.agg #[vI p0.fPlaces,.slice Ab p0.fTracks.length cb],vI p1,vI p3,.agg #[.slice A19 y15.1.fH.length c20]] go_50 rfl (fun W2 hW2 => ip p0 p1 p3 y15.1 y31 hy32 W2 Ab p0.fTracks.length cb ys0_1 rfl ((RdL.arg hr0_1) W2 hW2) (NestL.at (NestL.arg hN0_1) W2 hW2) A19 y15.1.fH.length c20 ys24 rfl ((RdL.row 3 rfl) W2 hW2) (NestL.at (PvL.nestL hP23 hV26 (fun W2 hW2 => ⟨hW2.below,trivial,hW2.mem (i:=4) rfl⟩)) W2 hW2)) rfl) (oY rfl (dD rfl rfl) (oN (eT ?_)))
     rcases iOs h with ⟨hp33,h⟩ | ⟨hp33,h⟩
     ·refine cT (vB hp33) (cS (cR (oY rfl (yAB rfl) (oN (eT (ak (aa ?_)))))))
      obtain rfl:=sI h
      exact aj (.inl rfl) rfl (rVt (v:=.bool false) rfl) (fun W2 hW2 => ⟨rfl,hW2.none⟩)
     ·refine cF (vB hp33) (cK (eT (cS (cR (oY rfl (yN 0 [vI p0.fPlaces,.slice Ab p0.fTracks.length cb] ei rfl rfl rfl) (oY rfl (yMI rfl) (oY rfl (yMI rfl) (oY rfl (yMI rfl) (oY rfl (yN 1 [.slice A4_0 p4.fLegs.length c4_0,vI p4.fA,vI p4.fToll] kk rfl rfl rfl) ?_)))))))))
      obtain ⟨y34,hy35,h⟩:=bOs h
      refine oY rfl (yC [.agg #[vI p0.fPlaces,.slice Ab p0.fTracks.length cb],vI p1,vI p2,vI p3,.agg #[.slice A4_0 p4.fLegs.length c4_0,vI p4.fA,vI p4.fToll]] go_51 rfl (fun W2 hW2 => gt p0 p1 p2 p3 p4 y34 hy35 W2 Ab p0.fTracks.length cb ys0_1 rfl ((RdL.arg hr0_1) W2 hW2) (NestL.at (NestL.arg hN0_1) W2 hW2) A4_0 p4.fLegs.length c4_0 rfl ((RdL.arg hr4_0) W2 hW2)) rfl) (oY rfl (cL rfl rfl) (oY rfl (yAB rfl) (oN (eT (cS (cS (cR (oY rfl (yMB rfl) (oY rfl (yMB rfl) ?_)))))))))
      obtain ⟨b37,hb38,h⟩:=bOs h
      refine oJ 19 (fun tm0 => (upd (upd (upd (upd (upd (upd (upd (upd tm0 1 (vI p1)) 2 (vI p2)) 3 (vI p3)) 6 (.int .u8 p6)) 7 (.pointer (some ⟨b1,0,none⟩))) 14 (.bool false)) 15 (.pointer (some ⟨b27,0,none⟩))) 79 (.bool b37))) (fun tm0 => ?_) (fun key => ?_)
      ·refine oN (eT ?_)
       rcases iOs h with ⟨hp39,h⟩ | ⟨hp39,h⟩
       ·refine cT (vB hp39) (cS (cR (oY rfl (yAB rfl) (oN (eT (ak (aa ?_)))))))
        obtain rfl:=sI h
        exact aj (.inl rfl) rfl (rVt (v:=.bool false) rfl) (fun W2 hW2 => ⟨rfl,hW2.none⟩)
       ·refine cF (vB hp39) (cK (eT (cS (cR (oY rfl (yMI rfl) (oY rfl (sP ui_5 ui_3 rfl) ?_))))))
        refine oY rfl (y_rem (by decide) rfl rfl) ?_
        refine oY rfl (yAI rfl) (oN (eT (cS (cR (oY rfl (yN 0 [vI p0.fPlaces,.slice Ab p0.fTracks.length cb] ei rfl rfl rfl) (oY rfl (yMI rfl) (oY rfl (yMI rfl) (oY rfl (yMI rfl) (oY rfl (yMI rfl) ?_)))))))))
        obtain ⟨y40,hy41,h⟩:=bOs h
        refine oC [.agg #[vI p0.fPlaces,.slice Ab p0.fTracks.length cb],vI p1,vI p2,vI p3,vI (Int.tmod (w64 p6) 61)] _ _ _ rfl go_18 rfl (fun W2 hW2 => jV p0 p1 p2 p3 (Int.tmod (w64 p6) 61) y40 hy41 W2 Ab p0.fTracks.length cb ys0_1 rfl ((RdL.arg hr0_1) W2 hW2) (NestL.at (NestL.arg hN0_1) W2 hW2) W (fun _ => True) (fun W3 hb => ⟨fI hW2.below hb,trivial⟩) ) ?_
        rintro ⟨⟨A44,n46,c45⟩,F48⟩ ⟨hn47,hV49⟩
        replace hn47 : n46 = y40.1.fLegs.length:=hn47; subst hn47
        try dsimp only [lna,lca,lsz,lss]
        refine oY rfl (aI rfl) (oY rfl (yE rfl rfl) (oY rfl (yE rfl rfl) ?_))
        refine aB jT rfl (fun b50 => ?_)
        try dsimp only [lna,lca,lsz,lss]
        refine cJ rfl (yS 7 [.slice A44 y40.1.fLegs.length c45,vI y40.1.fA,vI y40.1.fToll] lw rfl (nB rfl) rfl rfl rfl) (oY rfl (yAI rfl) (oN (eT (cS (cS (cR (oY rfl (yMI rfl) (oY rfl (cL rfl rfl) (oN (eT ?_))))))))))
        rcases iOs h with ⟨hp51,h⟩ | ⟨hp51,h⟩
        ·refine cT (vB hp51) (cS (cR ?_))
         obtain ⟨y52,hy53,h⟩:=bOs h
         refine oY rfl (yC [] tl rfl (fun W2 hW2 => cy  y52 hy53 W2 ) rfl) (oY rfl (yAB rfl) (oN (eT (ak (aa ?_)))))
         obtain rfl:=sI h
         exact aj (.inl rfl) rfl (rVt (v:=.bool y52) rfl) (fun W2 hW2 => ⟨rfl,hW2.none⟩)
        ·refine cF (vB hp51) (cK (eT (cS (cR (oY rfl (yN 5 [.slice A19 y15.1.fH.length c20] mV rfl rfl rfl) (oY rfl (yMI rfl) (oY rfl (yMI rfl) ?_)))))))
         obtain ⟨y54,hy55,h⟩:=bOs h
         refine oY rfl (yC [.agg #[.slice A19 y15.1.fH.length c20],vI p2,vI (Int.tmod (w64 p6) 61)] go_53 rfl (fun W2 hW2 => gX y15.1 p2 (Int.tmod (w64 p6) 61) y54 hy55 W2 A19 y15.1.fH.length c20 ys24 rfl ((RdL.row 3 rfl) W2 hW2) (NestL.at (PvL.nestL hP23 hV26 (fun W2 hW2 => ⟨hW2.below,trivial,hW2.mem (i:=4) rfl⟩)) W2 hW2)) rfl) (oY rfl (yAI rfl) (oN (eT (cS (cS (cR (oY rfl (yMI rfl) (oY rfl (cL rfl rfl) (oN (eT ?_))))))))))
         rcases iOs h with ⟨hp56,h⟩ | ⟨hp56,h⟩
         ·refine cT (vB hp56) (cS (cR ?_))
          obtain ⟨y57,hy58,h⟩:=bOs h
          refine oY rfl (yC [] tl rfl (fun W2 hW2 => cy  y57 hy58 W2 ) rfl) (oY rfl (yMB rfl) ?_)
          refine oJ 3 (fun tm0 => (upd (upd (upd (upd (upd (upd (upd (upd (upd (upd tm0 1 (vI p1)) 2 (vI p2)) 3 (vI p3)) 7 (.pointer (some ⟨b1,0,none⟩))) 14 (.bool false)) 18 (vI (Int.tmod (w64 p6) 61))) 19 (.pointer (some ⟨b50,0,none⟩))) 20 (vI y40.2)) 21 (vI y54)) 105 (.bool (y57 && (y54 == (-1)))))) (fun tm0 => ?_) (fun key => ?_)
          ·refine oY rfl (yAB rfl) (oN (eT (ak (aa ?_))))
           obtain rfl:=sI h
           exact aj (.inl rfl) rfl (rVt (v:=.bool (y57 && (y54 == (-1)))) rfl) (fun W2 hW2 => ⟨rfl,hW2.none⟩)
          ·rcases al y57 with hp59 | hp59
           ·refine oY (sT rfl rfl rfl rfl hp59) (yMI rfl) (oY (sT rfl rfl rfl rfl hp59) (cL rfl rfl) (oY rfl (ac (vB hp59) rfl) ?_))
            exact key _ _ (keep (keep (keep (keep (keep (keep (keep (keep (keep (keep rfl rfl) rfl) rfl) rfl) rfl) rfl) rfl) rfl) rfl) (vB (gn hp59)))
           ·refine oSk (sF rfl rfl rfl rfl hp59) (oSk (sF rfl rfl rfl rfl hp59) (oY rfl (ad (vB hp59) rfl) ?_))
            exact key _ _ (keep (keep (keep (keep (keep (keep (keep (keep (keep (keep rfl rfl) rfl) rfl) rfl) rfl) rfl) rfl) rfl) rfl) (vB (gr hp59)))
         ·refine cF (vB hp56) (cK (eT (cS (cR ?_))))
          obtain ⟨y60,hy61,h⟩:=bOs h
          refine oY rfl (yC [] tl rfl (fun W2 hW2 => cy  y60 hy61 W2 ) rfl) (oY rfl (yMB rfl) ?_)
          refine oJ 3 (fun tm0 => (upd (upd (upd (upd (upd (upd (upd (upd (upd tm0 1 (vI p1)) 2 (vI p2)) 3 (vI p3)) 7 (.pointer (some ⟨b1,0,none⟩))) 14 (.bool false)) 18 (vI (Int.tmod (w64 p6) 61))) 19 (.pointer (some ⟨b50,0,none⟩))) 21 (vI y54)) 110 (.bool (y60 && (y40.2 == 0))))) (fun tm0 => ?_) (fun key => ?_)
          ·refine oY rfl (yMB rfl) ?_
           refine oJ 5 (fun tm0 => (upd (upd (upd (upd (upd (upd (upd (upd tm0 1 (vI p1)) 2 (vI p2)) 3 (vI p3)) 7 (.pointer (some ⟨b1,0,none⟩))) 14 (.bool false)) 18 (vI (Int.tmod (w64 p6) 61))) 19 (.pointer (some ⟨b50,0,none⟩))) 116 (.bool ((y60 && (y40.2 == 0)) && (y54 == y40.1.fA))))) (fun tm0 => ?_) (fun key => ?_)
           ·refine oY rfl (yMB rfl) ?_
            refine oJ 5 (fun tm0 => (upd (upd (upd (upd (upd (upd (upd tm0 1 (vI p1)) 2 (vI p2)) 3 (vI p3)) 7 (.pointer (some ⟨b1,0,none⟩))) 14 (.bool false)) 19 (.pointer (some ⟨b50,0,none⟩))) 122 (.bool (((y60 && (y40.2 == 0)) && (y54 == y40.1.fA)) && (decide (y40.1.fToll ≤ Int.tmod (w64 p6) 61)))))) (fun tm0 => ?_) (fun key => ?_)
            ·refine oY rfl (yMB rfl) ?_
             obtain ⟨b66,hb67,h⟩:=bOs h
             refine oJ 8 (fun tm0 => (upd (upd tm0 14 (.bool false)) 131 (.bool b66))) (fun tm0 => ?_) (fun key => ?_)
             ·refine oY rfl (yAB rfl) (oN (eT (ak ?_)))
              obtain rfl:=sI h
              exact aj (.inl rfl) rfl (rVt (v:=.bool b66) rfl) (fun W2 hW2 => ⟨rfl,hW2.none⟩)
             ·clear h; rcases iOs hb67 with ⟨hp65,h⟩ | ⟨hp65,h⟩
              ·refine oY (sT rfl rfl rfl rfl hp65) (yN 0 [vI p0.fPlaces,.slice Ab p0.fTracks.length cb] ei rfl rfl rfl) (oY (sT rfl rfl rfl rfl hp65) (yMI rfl) (oY (sT rfl rfl rfl rfl hp65) (yMI rfl) (oY (sT rfl rfl rfl rfl hp65) (yMI rfl) (oY (sT rfl rfl rfl rfl hp65) (yN 7 [.slice A44 y40.1.fLegs.length c45,vI y40.1.fA,vI y40.1.fToll] kk rfl rfl rfl) ?_))))
               obtain ⟨y68,hy69,h⟩:=bOs h
               refine oY (sT rfl rfl rfl rfl hp65) (yC [.agg #[vI p0.fPlaces,.slice Ab p0.fTracks.length cb],vI p1,vI p2,vI p3,.agg #[.slice A44 y40.1.fLegs.length c45,vI y40.1.fA,vI y40.1.fToll]] go_51 rfl (fun W2 hW2 => gt p0 p1 p2 p3 y40.1 y68 hy69 W2 Ab p0.fTracks.length cb ys0_1 rfl ((RdL.arg hr0_1) W2 hW2) (NestL.at (NestL.arg hN0_1) W2 hW2) A44 y40.1.fLegs.length c45 rfl ((Pv.rdl hV49 (fun W2 hW2 => ⟨hW2.below,trivial,hW2.mem (i:=6) rfl⟩)) W2 hW2)) rfl) (oY (sT rfl rfl rfl rfl hp65) (cL rfl rfl) (oY rfl (ac (vB hp65) rfl) ?_))
               obtain rfl:=sI h
               exact key _ _ (kp (kp rfl))
              ·refine oSk (sF rfl rfl rfl rfl hp65) (oSk (sF rfl rfl rfl rfl hp65) (oSk (sF rfl rfl rfl rfl hp65) (oSk (sF rfl rfl rfl rfl hp65) (oSk (sF rfl rfl rfl rfl hp65) (oSk (sF rfl rfl rfl rfl hp65) (oSk (sF rfl rfl rfl rfl hp65) (oY rfl (ad (vB hp65) rfl) ?_)))))))
               obtain rfl:=sI h
               exact key _ _ (kp (kp rfl))
            ·rcases al ((y60 && (y40.2 == 0)) && (y54 == y40.1.fA)) with hp64 | hp64
             ·refine oY (sT rfl rfl rfl rfl hp64) (yFA lO rfl) (oY (sT rfl rfl rfl rfl hp64) (yL 7 a8 rfl rfl rfl) (oY (sT rfl rfl rfl rfl hp64) (yMI rfl) (oY (sT rfl rfl rfl rfl hp64) (ju rfl rfl) (oY rfl (ac (vB hp64) rfl) ?_))))
              exact key _ _ (keep (keep (keep (keep (keep (keep (keep rfl rfl) rfl) rfl) rfl) rfl) rfl) (vB (gn hp64)))
             ·refine oSk (sF rfl rfl rfl rfl hp64) (oSk (sF rfl rfl rfl rfl hp64) (oSk (sF rfl rfl rfl rfl hp64) (oSk (sF rfl rfl rfl rfl hp64) (oY rfl (ad (vB hp64) rfl) ?_))))
              exact key _ _ (keep (keep (keep (keep (keep (keep (keep rfl rfl) rfl) rfl) rfl) rfl) rfl) (vB (gr hp64)))
           ·rcases al (y60 && (y40.2 == 0)) with hp63 | hp63
            ·refine oY (sT rfl rfl rfl rfl hp63) (yMI rfl) (oY (sT rfl rfl rfl rfl hp63) (yFA j6 rfl) (oY (sT rfl rfl rfl rfl hp63) (yL 7 a8 rfl rfl rfl) (oY (sT rfl rfl rfl rfl hp63) (cL rfl rfl) (oY rfl (ac (vB hp63) rfl) ?_))))
             exact key _ _ (keep (keep (keep (keep (keep (keep (keep (keep rfl rfl) rfl) rfl) rfl) rfl) rfl) rfl) (vB (gn hp63)))
            ·refine oSk (sF rfl rfl rfl rfl hp63) (oSk (sF rfl rfl rfl rfl hp63) (oSk (sF rfl rfl rfl rfl hp63) (oSk (sF rfl rfl rfl rfl hp63) (oY rfl (ad (vB hp63) rfl) ?_))))
             exact key _ _ (keep (keep (keep (keep (keep (keep (keep (keep rfl rfl) rfl) rfl) rfl) rfl) rfl) rfl) (vB (gr hp63)))
          ·rcases al y60 with hp62 | hp62
           ·refine oY (sT rfl rfl rfl rfl hp62) (yMI rfl) (oY (sT rfl rfl rfl rfl hp62) (cL rfl rfl) (oY rfl (ac (vB hp62) rfl) ?_))
            exact key _ _ (keep (keep (keep (keep (keep (keep (keep (keep (keep rfl rfl) rfl) rfl) rfl) rfl) rfl) rfl) rfl) (vB (gn hp62)))
           ·refine oSk (sF rfl rfl rfl rfl hp62) (oSk (sF rfl rfl rfl rfl hp62) (oY rfl (ad (vB hp62) rfl) ?_))
            exact key _ _ (keep (keep (keep (keep (keep (keep (keep (keep (keep rfl rfl) rfl) rfl) rfl) rfl) rfl) rfl) rfl) (vB (gr hp62)))
      ·clear h; rcases iOs hb38 with ⟨hp36,h⟩ | ⟨hp36,h⟩
       ·refine oY (sT rfl rfl rfl rfl hp36) (yN 5 [.slice A19 y15.1.fH.length c20] mV rfl rfl rfl) (oY (sT rfl rfl rfl rfl hp36) (yMI rfl) (oY (sT rfl rfl rfl rfl hp36) (yN 1 [.slice A4_0 p4.fLegs.length c4_0,vI p4.fA,vI p4.fToll] kk rfl rfl rfl) ?_))
        obtain ⟨y70,hy71,h⟩:=bOs h
        refine oY (sT rfl rfl rfl rfl hp36) (yC [.agg #[.slice A19 y15.1.fH.length c20],vI p2,.agg #[.slice A4_0 p4.fLegs.length c4_0,vI p4.fA,vI p4.fToll]] go_52 rfl (fun W2 hW2 => iz y15.1 p2 p4 y70 hy71 W2 A19 y15.1.fH.length c20 ys24 rfl ((RdL.row 3 rfl) W2 hW2) (NestL.at (PvL.nestL hP23 hV26 (fun W2 hW2 => ⟨hW2.below,trivial,hW2.mem (i:=4) rfl⟩)) W2 hW2) A4_0 p4.fLegs.length c4_0 rfl ((RdL.arg hr4_0) W2 hW2)) rfl) (oY (sT rfl rfl rfl rfl hp36) (yMB rfl) ?_)
        obtain ⟨b73,hb74,h⟩:=bOs h
        refine oJ 13 (fun tm0 => (upd (upd (upd (upd (upd (upd (upd (upd (upd tm0 1 (vI p1)) 2 (vI p2)) 3 (vI p3)) 6 (.int .u8 p6)) 7 (.pointer (some ⟨b1,0,none⟩))) 14 (.bool false)) 15 (.pointer (some ⟨b27,0,none⟩))) 60 (.bool (y34 == 0))) 78 (.bool b73))) (fun tm0 => ?_) (fun key => ?_)
        ·refine oY rfl (ac (vB hp36) rfl) ?_
         obtain rfl:=sI h
         exact key _ _ (kp4 (kp4 rfl))
        ·clear h; rcases iOs hb74 with ⟨hp72,h⟩ | ⟨hp72,h⟩
         ·refine oSk (sF rfl rfl rfl rfl hp72) (oSk (sF rfl rfl rfl rfl hp72) (oSk (sF rfl rfl rfl rfl hp72) (oSk (sF rfl rfl rfl rfl hp72) (oSk (sF rfl rfl rfl rfl hp72) (oSk (sF rfl rfl rfl rfl hp72) (oSk (sF rfl rfl rfl rfl hp72) (oSk rfl (oSk rfl (oSk rfl (oSk rfl (oSk (sF rfl rfl rfl rfl hp72) (oY (sT rfl rfl rfl rfl hp36) (ac (vB hp72) rfl) ?_))))))))))))
          obtain rfl:=sI h
          exact key _ _ (kp4 (kp4 (kp rfl)))
         ·refine oY (sT rfl rfl rfl rfl hp72) (yN 0 [vI p0.fPlaces,.slice Ab p0.fTracks.length cb] ei rfl rfl rfl) (oY (sT rfl rfl rfl rfl hp72) (yMI rfl) (oY (sT rfl rfl rfl rfl hp72) (yMI rfl) (oY (sT rfl rfl rfl rfl hp72) (yN 2 [.slice A5_0 p5.fH.length c5_0] mV rfl rfl rfl) ?_)))
          obtain ⟨y75,hy76,h⟩:=bOs h
          refine oY (sT rfl rfl rfl rfl hp72) (yC [.agg #[vI p0.fPlaces,.slice Ab p0.fTracks.length cb],vI p1,vI p3,.agg #[.slice A5_0 p5.fH.length c5_0]] go_50 rfl (fun W2 hW2 => ip p0 p1 p3 p5 y75 hy76 W2 Ab p0.fTracks.length cb ys0_1 rfl ((RdL.arg hr0_1) W2 hW2) (NestL.at (NestL.arg hN0_1) W2 hW2) A5_0 p5.fH.length c5_0 ys5_0 rfl ((RdL.arg hr5_0) W2 hW2) (NestL.at (NestL.arg hN5_0) W2 hW2)) rfl) (oY (sT rfl rfl rfl rfl hp72) (cL rfl rfl) (oY (sT rfl rfl rfl rfl hp72) (yMB rfl) ?_))
          obtain ⟨b78,hb79,h⟩:=bOs h
          refine oJ 5 (fun tm0 => (upd (upd (upd (upd (upd (upd (upd (upd (upd (upd tm0 1 (vI p1)) 2 (vI p2)) 3 (vI p3)) 6 (.int .u8 p6)) 7 (.pointer (some ⟨b1,0,none⟩))) 14 (.bool false)) 15 (.pointer (some ⟨b27,0,none⟩))) 60 (.bool (y34 == 0))) 65 (.bool y70)) 77 (.bool b78))) (fun tm0 => ?_) (fun key => ?_)
          ·refine oY (sT rfl rfl rfl rfl hp36) (ad (vB hp72) rfl) ?_
           obtain rfl:=sI h
           exact key _ _ (kp4 (kp4 (kp rfl)))
          ·clear h; rcases iOs hb79 with ⟨hp77,h⟩ | ⟨hp77,h⟩
           ·refine oY (sT rfl rfl rfl rfl hp77) (yN 2 [.slice A5_0 p5.fH.length c5_0] mV rfl rfl rfl) (oY (sT rfl rfl rfl rfl hp77) (yMI rfl) (oY (sT rfl rfl rfl rfl hp77) (yN 1 [.slice A4_0 p4.fLegs.length c4_0,vI p4.fA,vI p4.fToll] kk rfl rfl rfl) ?_))
            obtain ⟨y80,hy81,h⟩:=bOs h
            refine oY (sT rfl rfl rfl rfl hp77) (yC [.agg #[.slice A5_0 p5.fH.length c5_0],vI p2,.agg #[.slice A4_0 p4.fLegs.length c4_0,vI p4.fA,vI p4.fToll]] go_52 rfl (fun W2 hW2 => iz p5 p2 p4 y80 hy81 W2 A5_0 p5.fH.length c5_0 ys5_0 rfl ((RdL.arg hr5_0) W2 hW2) (NestL.at (NestL.arg hN5_0) W2 hW2) A4_0 p4.fLegs.length c4_0 rfl ((RdL.arg hr4_0) W2 hW2)) rfl) (oY (sT rfl rfl rfl rfl hp72) (ac (vB hp77) rfl) ?_)
            obtain rfl:=sI h
            exact key _ _ (kp4 (kp4 (kp (kp rfl))))
           ·refine oSk (sF rfl rfl rfl rfl hp77) (oSk (sF rfl rfl rfl rfl hp77) (oSk (sF rfl rfl rfl rfl hp77) (oSk (sF rfl rfl rfl rfl hp77) (oY (sT rfl rfl rfl rfl hp72) (ad (vB hp77) rfl) ?_))))
            obtain rfl:=sI h
            exact key _ _ (kp4 (kp4 (kp (kp rfl))))
       ·refine oSk (sF rfl rfl rfl rfl hp36) (oSk (sF rfl rfl rfl rfl hp36) (oSk (sF rfl rfl rfl rfl hp36) (oSk (sF rfl rfl rfl rfl hp36) (oSk (sF rfl rfl rfl rfl hp36) (oSk rfl (oSk rfl (oSk rfl (oSk rfl (oSk rfl (oSk rfl (oSk rfl (oSk rfl (oSk rfl (oSk rfl (oSk rfl (oSk rfl (oSk (sF rfl rfl rfl rfl hp36) (oY rfl (ad (vB hp36) rfl) ?_))))))))))))))))))
        obtain rfl:=sI h
        exact key _ _ (kp4 (kp4 rfl))
  ·clear h; rcases iOs hb11 with ⟨hp9,h⟩ | ⟨hp9,h⟩
   ·refine oSk (sF rfl rfl rfl rfl hp9) (oSk (sF rfl rfl rfl rfl hp9) (oSk (sF rfl rfl rfl rfl hp9) (oY rfl (ac (vB hp9) rfl) ?_)))
    obtain rfl:=sI h
    exact key _ _ (kp4 (kp4 (kp rfl)))
   ·refine oY (sT rfl rfl rfl rfl hp9) (yN 2 [.slice A5_0 p5.fH.length c5_0] mV rfl rfl rfl) ?_
    obtain ⟨y82,hy83,h⟩:=bOs h
    refine oY (sT rfl rfl rfl rfl hp9) (yC [.agg #[.slice A5_0 p5.fH.length c5_0]] go_48 rfl (fun W2 hW2 => l4 p5 y82 hy83 W2 A5_0 p5.fH.length c5_0 ys5_0 rfl ((RdL.arg hr5_0) W2 hW2) (NestL.at (NestL.arg hN5_0) W2 hW2)) rfl) (oY (sT rfl rfl rfl rfl hp9) (bE rfl) (oY rfl (ad (vB hp9) rfl) ?_))
    obtain rfl:=sI h
    exact key _ _ (kp4 (kp4 (kp rfl)))
 ·clear h; rcases iOs hb8 with ⟨hp6,h⟩ | ⟨hp6,h⟩
  ·refine oSk (sF rfl rfl rfl rfl hp6) (oSk (sF rfl rfl rfl rfl hp6) (oSk (sF rfl rfl rfl rfl hp6) (oY rfl (ac (vB hp6) rfl) ?_)))
   obtain rfl:=sI h
   exact key _ _ (kp4 (kp4 (kp rfl)))
  ·refine oY (sT rfl rfl rfl rfl hp6) (yN 1 [.slice A4_0 p4.fLegs.length c4_0,vI p4.fA,vI p4.fToll] kk rfl rfl rfl) ?_
   obtain ⟨y84,hy85,h⟩:=bOs h
   refine oY (sT rfl rfl rfl rfl hp6) (yC [.agg #[.slice A4_0 p4.fLegs.length c4_0,vI p4.fA,vI p4.fToll]] go_47 rfl (fun W2 hW2 => kS p4 y84 hy85 W2 A4_0 p4.fLegs.length c4_0 rfl ((RdL.arg hr4_0) W2 hW2)) rfl) (oY (sT rfl rfl rfl rfl hp6) (bE rfl) (oY rfl (ad (vB hp6) rfl) ?_))
   obtain rfl:=sI h
   exact key _ _ (kp4 (kp4 (kp rfl)))
end Go.Proofs.YthndghnkebboaaaGreat
