import Derived.Test.YthndghnkebboaaaGreatF
import Derived.Test.YthndghnkebboaaaGreatGy
import Derived.Test.YthndghnkebboaaaGreatC2
import Derived.Test.YthndghnkebboaaaGreatC4
import Derived.Test.YthndghnkebboaaaGreatC6
import Derived.Test.YthndghnkebboaaaGreatC0
set_option maxHeartbeats 4000000
set_option maxRecDepth 100000
set_option linter.unusedVariables false
namespace Go.Proofs.YthndghnkebboaaaGreat
open Go.RowKit (Below)
attribute [local irreducible] OX QX CX EX OpY Calls CallsIn
theorem calxlaw05_sanity_ok  (res:Bool) (h:calxlaw05_sanity = some res) (W:World)  :
  Calls Tryz.prog 17 [].toArray W fun e W2 => e = .returned (.bool res) ∧ Ext W W2 []:=by
 unfold calxlaw05_sanity at h
 refine calls_enter (m:=261) Tryz.func17 rfl rfl (nB rfl) (cS (cR (oY rfl (yAB rfl) (oN (eT (cS (cR ?_)))))))
 obtain ⟨y1,hy2,h⟩:=bOs h
 refine oC [] _ _ _ rfl go_67 rfl (fun W2 hW2 => calxlaw05_Lanes_ok  y1 hy2 W2 W (fun _ => True) (fun W3 hb => ⟨belowT hW2.below hb,trivial⟩) ) ?_
 rintro ⟨⟨A5,n7,c6⟩,ys10,F11⟩ ⟨hn8,hP9,hV12⟩
 replace hn8 : n7 = y1.fTracks.length:=hn8; subst hn8
 refine ox_alloc ze_24 rfl (fun b13 => ?_)
 refine ox_n rfl (yS 2 [vI y1.fPlaces,.slice A5 y1.fTracks.length c6] sz_24 rfl (nB rfl) rfl rfl rfl) (oN (eT (cS (cR ?_))))
 obtain ⟨y14,hy15,h⟩:=bOs h
 refine oC [] _ _ _ rfl go_68 rfl (fun W2 hW2 => calxlaw05_Wharf_ok  y14 hy15 W2 ) ?_
 rintro ⟨⟨A16,n20,c17⟩,⟨A18,n22,c19⟩⟩ ⟨hn21,hn23⟩
 replace hn21 : n20 = y14.fB.length:=hn21; subst hn21
 replace hn23 : n22 = y14.fR.length:=hn23; subst hn23
 refine ox_alloc ze_53 rfl (fun b24 => ?_)
 try dsimp only [lna,lca,lsz,lss]
 refine ox_n rfl (yS 5 [.slice A16 y14.fB.length c17,.slice A18 y14.fR.length c19] sz_53 rfl (nB rfl) rfl rfl rfl) (oN (eT (cS (cR (oY rfl (yFA fo_24_1 rfl) (oY rfl (yL 2 (v:=.slice A5 y1.fTracks.length c6) sc_22 rfl rfl rfl) ?_))))))
 obtain ⟨hg25,h⟩:=gOs h
 refine oY rfl (yI sl_22 (by decide) hg25.1 hg25.2 (RdL.row 0 rfl) (eL TTrack_cells2_len (NestP.hn hP9 rfl)) rfl rfl) ?_
 refine oY rfl (yM (A:=A5) (j:=(Int.toNat 1 * 6)) [vI ((rdL y1.fTracks 1).fID),vI ((rdL y1.fTracks 1).fFrom),vI ((rdL y1.fTracks 1).fTo),vI ((rdL y1.fTracks 1).fLong),vI ((rdL y1.fTracks 1).fToll),.slice ((rdL ys10 1).1.1) ((rdL y1.fTracks 1).fK.length) ((rdL ys10 1).1.2.2)] ag_120 (Nat.succ_pos _) (RdL.row 0 rfl) rfl (gets_eq (TTrack_cells2_eq (NestP.snd hP9 1) (NestP.len hP9 hg25.1 (lt_nat hg25.2 rfl))).symm (encL_gets TTrack_cells2_len hg25.1 (lt_nat hg25.2 (NestP.hn hP9 rfl))))) ?_
 obtain ⟨y26,hy27,h⟩:=bOs h
 refine oY rfl (yC [.agg #[vI ((rdL y1.fTracks 1).fID),vI ((rdL y1.fTracks 1).fFrom),vI ((rdL y1.fTracks 1).fTo),vI ((rdL y1.fTracks 1).fLong),vI ((rdL y1.fTracks 1).fToll),.slice ((rdL ys10 1).1.1) ((rdL y1.fTracks 1).fK.length) ((rdL ys10 1).1.2.2)],vI 8] go_69 rfl (fun W2 hW2 => cart_Enter_ok (TT.mk ((rdL y1.fTracks 1).fID) ((rdL y1.fTracks 1).fFrom) ((rdL y1.fTracks 1).fTo) ((rdL y1.fTracks 1).fLong) ((rdL y1.fTracks 1).fToll) ((rdL y1.fTracks 1).fK)) 8 y26 hy27 W2 ((rdL ys10 1).1.1) ((rdL y1.fTracks 1).fK.length) ((rdL ys10 1).1.2.2) rfl ((NestL.rd (PvL.nestL hP9 hV12 (fun W2 hW2 => ⟨hW2.below,trivial,hW2.mem (i:=1) rfl⟩)) hg25.1 (lt_nat hg25.2 rfl)) W2 hW2)) rfl) (oY rfl (y_move_tuple rfl) (oY rfl (yE (vs:=[vI y26.1,vI y26.2]) (v:=vI y26.1) rfl rfl) (oY rfl (yE (vs:=[vI y26.1,vI y26.2]) (v:=vI y26.2) rfl rfl) (oY rfl (yAI rfl) (oY rfl (yAI rfl) (oN (eT (cS (cR (oY rfl (yN 2 [vI y1.fPlaces,.slice A5 y1.fTracks.length c6] ag_24 rfl rfl rfl) ?_))))))))))
 obtain ⟨y28,hy29,h⟩:=bOs h
 refine oC [.agg #[vI y1.fPlaces,.slice A5 y1.fTracks.length c6],vI 0,vI 4] _ _ _ rfl go_49 rfl (fun W2 hW2 => cart_Earliest_ok y1 0 4 y28 hy29 W2 A5 y1.fTracks.length c6 ys10 rfl ((RdL.row 0 rfl) W2 hW2) (NestL.at (PvL.nestL hP9 hV12 (fun W2 hW2 => ⟨hW2.below,trivial,hW2.mem (i:=1) rfl⟩)) W2 hW2) W (fun _ => True) (fun W3 hb => ⟨belowT hW2.below hb,trivial⟩) ) ?_
 rintro ⟨⟨A32,n34,c33⟩,ys37,F38⟩ ⟨hn35,hP36,hV39⟩
 replace hn35 : n34 = y28.1.fH.length:=hn35; subst hn35
 try dsimp only [lna,lca,lsz,lss]
 refine oY rfl (y_move_tuple rfl) (oY rfl (yE (vs:=[.agg #[.slice A32 y28.1.fH.length c33],vI y28.2]) (v:=.agg #[.slice A32 y28.1.fH.length c33]) rfl rfl) (oY rfl (yE (vs:=[.agg #[.slice A32 y28.1.fH.length c33],vI y28.2]) (v:=vI y28.2) rfl rfl) ?_))
 refine ox_alloc ze_87 rfl (fun b40 => ?_)
 try dsimp only [lna,lca,lsz,lss]
 refine ox_n rfl (yS 8 [.slice A32 y28.1.fH.length c33] sz_87 rfl (nB rfl) rfl rfl rfl) (oY rfl (yAI rfl) (oN (eT (cS (cR (oY rfl (yN 2 [vI y1.fPlaces,.slice A5 y1.fTracks.length c6] ag_24 rfl rfl rfl) ?_))))))
 obtain ⟨y41,hy42,h⟩:=bOs h
 refine oC [.agg #[vI y1.fPlaces,.slice A5 y1.fTracks.length c6],vI 0,vI 2,vI 4] _ _ _ rfl go_61 rfl (fun W2 hW2 => cart_Front_ok y1 0 2 4 y41 hy42 W2 A5 y1.fTracks.length c6 ys10 rfl ((RdL.row 0 rfl) W2 hW2) (NestL.at (PvL.nestL hP9 hV12 (fun W2 hW2 => ⟨hW2.below,trivial,hW2.mem (i:=1) rfl⟩)) W2 hW2) W (fun _ => True) (fun W3 hb => ⟨belowT hW2.below hb,trivial⟩) ) ?_
 rintro ⟨⟨A45,n47,c46⟩,ys50,F51⟩ ⟨hn48,hP49,hV52⟩
 replace hn48 : n47 = y41.1.length:=hn48; subst hn48
 try dsimp only [lna,lca,lsz,lss]
 refine oY rfl (y_move_tuple rfl) (oY rfl (yE (vs:=[.slice A45 y41.1.length c46,vI y41.2]) (v:=.slice A45 y41.1.length c46) rfl rfl) (oY rfl (yE (vs:=[.slice A45 y41.1.length c46,vI y41.2]) (v:=vI y41.2) rfl rfl) (oY rfl (yAS rfl) (oY rfl (yAI rfl) (oN (eT (cS (cR (oY rfl (yN 2 [vI y1.fPlaces,.slice A5 y1.fTracks.length c6] ag_24 rfl rfl rfl) ?_)))))))))
 obtain ⟨y53,hy54,h⟩:=bOs h
 refine oC [.agg #[vI y1.fPlaces,.slice A5 y1.fTracks.length c6],vI 0,vI 2,vI 4,vI 5] _ _ _ rfl go_18 rfl (fun W2 hW2 => cart_Best_ok y1 0 2 4 5 y53 hy54 W2 A5 y1.fTracks.length c6 ys10 rfl ((RdL.row 0 rfl) W2 hW2) (NestL.at (PvL.nestL hP9 hV12 (fun W2 hW2 => ⟨hW2.below,trivial,hW2.mem (i:=1) rfl⟩)) W2 hW2) W (fun _ => True) (fun W3 hb => ⟨belowT hW2.below hb,trivial⟩) ) ?_
 rintro ⟨⟨A57,n59,c58⟩,F61⟩ ⟨hn60,hV62⟩
 replace hn60 : n59 = y53.1.fLegs.length:=hn60; subst hn60
 try dsimp only [lna,lca,lsz,lss]
 refine oY rfl (y_move_tuple rfl) (oY rfl (yE (vs:=[.agg #[.slice A57 y53.1.fLegs.length c58,vI y53.1.fA,vI y53.1.fToll],vI y53.2]) (v:=.agg #[.slice A57 y53.1.fLegs.length c58,vI y53.1.fA,vI y53.1.fToll]) rfl rfl) (oY rfl (yE (vs:=[.agg #[.slice A57 y53.1.fLegs.length c58,vI y53.1.fA,vI y53.1.fToll],vI y53.2]) (v:=vI y53.2) rfl rfl) ?_))
 refine ox_alloc ze_29 rfl (fun b63 => ?_)
 try dsimp only [lna,lca,lsz,lss]
 refine ox_n rfl (yS 12 [.slice A57 y53.1.fLegs.length c58,vI y53.1.fA,vI y53.1.fToll] sz_29 rfl (nB rfl) rfl rfl rfl) (oY rfl (yAI rfl) (oN (eT (cS (cR (oY rfl (yN 2 [vI y1.fPlaces,.slice A5 y1.fTracks.length c6] ag_24 rfl rfl rfl) ?_))))))
 obtain ⟨y64,hy65,h⟩:=bOs h
 refine oY rfl (yC [.agg #[vI y1.fPlaces,.slice A5 y1.fTracks.length c6],vI 0,vI 2,vI 26,vI 0] go_19 rfl (fun W2 hW2 => cart_Latest_ok y1 0 2 26 0 y64 hy65 W2 A5 y1.fTracks.length c6 ys10 rfl ((RdL.row 0 rfl) W2 hW2) (NestL.at (PvL.nestL hP9 hV12 (fun W2 hW2 => ⟨hW2.below,trivial,hW2.mem (i:=1) rfl⟩)) W2 hW2)) rfl) (oY rfl (y_move_tuple rfl) (oY rfl (yE (vs:=[vI y64.1,vI y64.2]) (v:=vI y64.1) rfl rfl) (oY rfl (yE (vs:=[vI y64.1,vI y64.2]) (v:=vI y64.2) rfl rfl) (oY rfl (yAI rfl) (oY rfl (yAI rfl) (oN (eT (cS (cR (oY rfl (yN 2 [vI y1.fPlaces,.slice A5 y1.fTracks.length c6] ag_24 rfl rfl rfl) ?_))))))))))
 obtain ⟨y66,hy67,h⟩:=bOs h
 refine oC [.agg #[vI y1.fPlaces,.slice A5 y1.fTracks.length c6],vI 0,vI 2,vI 4,vI 0] _ _ _ rfl go_23 rfl (fun W2 hW2 => cart_Needed_ok y1 0 2 4 0 y66 hy67 W2 A5 y1.fTracks.length c6 ys10 rfl ((RdL.row 0 rfl) W2 hW2) (NestL.at (PvL.nestL hP9 hV12 (fun W2 hW2 => ⟨hW2.below,trivial,hW2.mem (i:=1) rfl⟩)) W2 hW2)) ?_
 rintro ⟨A68,n70,c69⟩ hn71
 replace hn71 : n70 = y66.1.length:=hn71; subst hn71
 try dsimp only [lna,lca,lsz,lss]
 refine oY rfl (y_move_tuple rfl) (oY rfl (yE (vs:=[.slice A68 y66.1.length c69,vI y66.2]) (v:=.slice A68 y66.1.length c69) rfl rfl) (oY rfl (yE (vs:=[.slice A68 y66.1.length c69,vI y66.2]) (v:=vI y66.2) rfl rfl) (oY rfl (yAS rfl) (oY rfl (yAI rfl) (oN (eT (cS (cR (oY rfl (yN 2 [vI y1.fPlaces,.slice A5 y1.fTracks.length c6] ag_24 rfl rfl rfl) ?_)))))))))
 obtain ⟨y72,hy73,h⟩:=bOs h
 refine oC [.agg #[vI y1.fPlaces,.slice A5 y1.fTracks.length c6],vI 0,vI 2,vI 4,vI 60] _ _ _ rfl go_23 rfl (fun W2 hW2 => cart_Needed_ok y1 0 2 4 60 y72 hy73 W2 A5 y1.fTracks.length c6 ys10 rfl ((RdL.row 0 rfl) W2 hW2) (NestL.at (PvL.nestL hP9 hV12 (fun W2 hW2 => ⟨hW2.below,trivial,hW2.mem (i:=1) rfl⟩)) W2 hW2)) ?_
 rintro ⟨A74,n76,c75⟩ hn77
 replace hn77 : n76 = y72.1.length:=hn77; subst hn77
 try dsimp only [lna,lca,lsz,lss]
 refine oY rfl (y_move_tuple rfl) (oY rfl (yE (vs:=[.slice A74 y72.1.length c75,vI y72.2]) (v:=.slice A74 y72.1.length c75) rfl rfl) (oY rfl (yE (vs:=[.slice A74 y72.1.length c75,vI y72.2]) (v:=vI y72.2) rfl rfl) (oY rfl (yAS rfl) (oY rfl (yAI rfl) (oN (eT (cS (cS (cR (oY rfl (yMI rfl) (oY rfl (y_neq rfl rfl) (oY rfl (yMB rfl) ?_))))))))))))
 refine oJ 3 (fun tm0 => (upd (upd (upd (upd (upd (upd (upd (upd (upd (upd (upd (upd (upd (upd (upd tm0 0 (.bool false)) 2 (.pointer (some ⟨b24,0,none⟩))) 3 (vI y26.1)) 5 (.pointer (some ⟨b40,0,none⟩))) 7 (.slice A45 y41.1.length c46)) 8 (vI y41.2)) 9 (.pointer (some ⟨b63,0,none⟩))) 10 (vI y53.2)) 11 (vI y64.1)) 12 (vI y64.2)) 13 (.slice A68 y66.1.length c69)) 14 (vI y66.2)) 15 (.slice A74 y72.1.length c75)) 16 (vI y72.2)) 74 (.bool ((y26.2 != 0) || (y28.2 != 0))))) (fun tm0 => ?_) (fun key => ?_)
 ·refine oY rfl (yMB rfl) ?_
  refine oJ 3 (fun tm0 => (upd (upd (upd (upd (upd (upd (upd (upd (upd (upd (upd (upd (upd (upd tm0 0 (.bool false)) 2 (.pointer (some ⟨b24,0,none⟩))) 3 (vI y26.1)) 5 (.pointer (some ⟨b40,0,none⟩))) 7 (.slice A45 y41.1.length c46)) 9 (.pointer (some ⟨b63,0,none⟩))) 10 (vI y53.2)) 11 (vI y64.1)) 12 (vI y64.2)) 13 (.slice A68 y66.1.length c69)) 14 (vI y66.2)) 15 (.slice A74 y72.1.length c75)) 16 (vI y72.2)) 78 (.bool (((y26.2 != 0) || (y28.2 != 0)) || (y41.2 != 0))))) (fun tm0 => ?_) (fun key => ?_)
  ·refine oY rfl (yMB rfl) ?_
   refine oJ 3 (fun tm0 => (upd (upd (upd (upd (upd (upd (upd (upd (upd (upd (upd (upd (upd tm0 0 (.bool false)) 2 (.pointer (some ⟨b24,0,none⟩))) 3 (vI y26.1)) 5 (.pointer (some ⟨b40,0,none⟩))) 7 (.slice A45 y41.1.length c46)) 9 (.pointer (some ⟨b63,0,none⟩))) 11 (vI y64.1)) 12 (vI y64.2)) 13 (.slice A68 y66.1.length c69)) 14 (vI y66.2)) 15 (.slice A74 y72.1.length c75)) 16 (vI y72.2)) 82 (.bool ((((y26.2 != 0) || (y28.2 != 0)) || (y41.2 != 0)) || (y53.2 != 0))))) (fun tm0 => ?_) (fun key => ?_)
   ·refine oY rfl (yMB rfl) ?_
    refine oJ 3 (fun tm0 => (upd (upd (upd (upd (upd (upd (upd (upd (upd (upd (upd (upd tm0 0 (.bool false)) 2 (.pointer (some ⟨b24,0,none⟩))) 3 (vI y26.1)) 5 (.pointer (some ⟨b40,0,none⟩))) 7 (.slice A45 y41.1.length c46)) 9 (.pointer (some ⟨b63,0,none⟩))) 11 (vI y64.1)) 13 (.slice A68 y66.1.length c69)) 14 (vI y66.2)) 15 (.slice A74 y72.1.length c75)) 16 (vI y72.2)) 86 (.bool (((((y26.2 != 0) || (y28.2 != 0)) || (y41.2 != 0)) || (y53.2 != 0)) || (y64.2 != 0))))) (fun tm0 => ?_) (fun key => ?_)
    ·refine oY rfl (yMB rfl) ?_
     refine oJ 3 (fun tm0 => (upd (upd (upd (upd (upd (upd (upd (upd (upd (upd (upd tm0 0 (.bool false)) 2 (.pointer (some ⟨b24,0,none⟩))) 3 (vI y26.1)) 5 (.pointer (some ⟨b40,0,none⟩))) 7 (.slice A45 y41.1.length c46)) 9 (.pointer (some ⟨b63,0,none⟩))) 11 (vI y64.1)) 13 (.slice A68 y66.1.length c69)) 15 (.slice A74 y72.1.length c75)) 16 (vI y72.2)) 90 (.bool ((((((y26.2 != 0) || (y28.2 != 0)) || (y41.2 != 0)) || (y53.2 != 0)) || (y64.2 != 0)) || (y66.2 != 0))))) (fun tm0 => ?_) (fun key => ?_)
     ·refine oY rfl (yMB rfl) ?_
      refine oJ 3 (fun tm0 => (upd (upd (upd (upd (upd (upd (upd (upd (upd (upd tm0 0 (.bool false)) 2 (.pointer (some ⟨b24,0,none⟩))) 3 (vI y26.1)) 5 (.pointer (some ⟨b40,0,none⟩))) 7 (.slice A45 y41.1.length c46)) 9 (.pointer (some ⟨b63,0,none⟩))) 11 (vI y64.1)) 13 (.slice A68 y66.1.length c69)) 15 (.slice A74 y72.1.length c75)) 94 (.bool (((((((y26.2 != 0) || (y28.2 != 0)) || (y41.2 != 0)) || (y53.2 != 0)) || (y64.2 != 0)) || (y66.2 != 0)) || (y72.2 != 0))))) (fun tm0 => ?_) (fun key => ?_)
      ·refine oY rfl (yMB rfl) ?_
       refine oJ 3 (fun tm0 => (upd (upd (upd (upd (upd (upd (upd (upd (upd tm0 0 (.bool false)) 2 (.pointer (some ⟨b24,0,none⟩))) 5 (.pointer (some ⟨b40,0,none⟩))) 7 (.slice A45 y41.1.length c46)) 9 (.pointer (some ⟨b63,0,none⟩))) 11 (vI y64.1)) 13 (.slice A68 y66.1.length c69)) 15 (.slice A74 y72.1.length c75)) 98 (.bool ((((((((y26.2 != 0) || (y28.2 != 0)) || (y41.2 != 0)) || (y53.2 != 0)) || (y64.2 != 0)) || (y66.2 != 0)) || (y72.2 != 0)) || (y26.1 != 21))))) (fun tm0 => ?_) (fun key => ?_)
       ·refine oY rfl (yMB rfl) ?_
        refine oJ 5 (fun tm0 => (upd (upd (upd (upd (upd (upd (upd (upd (upd tm0 0 (.bool false)) 2 (.pointer (some ⟨b24,0,none⟩))) 5 (.pointer (some ⟨b40,0,none⟩))) 7 (.slice A45 y41.1.length c46)) 9 (.pointer (some ⟨b63,0,none⟩))) 11 (vI y64.1)) 13 (.slice A68 y66.1.length c69)) 15 (.slice A74 y72.1.length c75)) 104 (.bool (((((((((y26.2 != 0) || (y28.2 != 0)) || (y41.2 != 0)) || (y53.2 != 0)) || (y64.2 != 0)) || (y66.2 != 0)) || (y72.2 != 0)) || (y26.1 != 21)) || ((y28.1.fH.length:Int) != 3))))) (fun tm0 => ?_) (fun key => ?_)
        ·refine oY rfl (yMB rfl) ?_
         obtain ⟨b87,hb88,h⟩:=bOs h
         refine oJ 7 (fun tm0 => (upd (upd (upd (upd (upd (upd (upd (upd (upd tm0 0 (.bool false)) 2 (.pointer (some ⟨b24,0,none⟩))) 5 (.pointer (some ⟨b40,0,none⟩))) 7 (.slice A45 y41.1.length c46)) 9 (.pointer (some ⟨b63,0,none⟩))) 11 (vI y64.1)) 13 (.slice A68 y66.1.length c69)) 15 (.slice A74 y72.1.length c75)) 112 (.bool b87))) (fun tm0 => ?_) (fun key => ?_)
         ·refine oY rfl (yMB rfl) ?_
          refine oJ 4 (fun tm0 => (upd (upd (upd (upd (upd (upd (upd (upd (upd tm0 0 (.bool false)) 2 (.pointer (some ⟨b24,0,none⟩))) 5 (.pointer (some ⟨b40,0,none⟩))) 7 (.slice A45 y41.1.length c46)) 9 (.pointer (some ⟨b63,0,none⟩))) 11 (vI y64.1)) 13 (.slice A68 y66.1.length c69)) 15 (.slice A74 y72.1.length c75)) 117 (.bool (b87 || ((y41.1.length:Int) != 3))))) (fun tm0 => ?_) (fun key => ?_)
          ·refine oN (eT ?_)
           rcases iOs h with ⟨hp90,h⟩ | ⟨hp90,h⟩
           ·refine cT (vB hp90) (cS (cR (oY rfl (yAB rfl) (oN (eT (cx_ret (ex_then_ret ?_)))))))
            obtain rfl:=sI h
            exact ex_res1 (.inl rfl) rfl (rVt (v:=.bool false) rfl) (fun W2 hW2 => ⟨rfl,hW2.none⟩)
           ·refine cF (vB hp90) (cK (eT (cS (cR (oY rfl (yFA fo_87_0 rfl) (oY rfl (yL 8 (v:=.slice A32 y28.1.fH.length c33) sc_85 rfl rfl rfl) ?_))))))
            obtain ⟨hg91,h⟩:=gOs h
            refine oY rfl (yI sl_85 (by decide) hg91.1 hg91.2 (RdL.row 6 rfl) (eL SlInt_cells2_len (NestP.hn hP36 rfl)) rfl rfl) ?_
            refine oY rfl (yR (A:=A32) (j:=(Int.toNat 2 * 1)) (v:=.slice ((rdL ys37 2).1.1) ((rdL y28.1.fH 2).length) ((rdL ys37 2).1.2.2)) sc_42 (RdL.row 6 rfl) rfl (encL_get0 SlInt_cells2_len hg91.1 (lt_nat hg91.2 (NestP.hn hP36 rfl)) (congrArg (fun n : Nat => some (Value.slice (rdL ys37 2).1.1 n (rdL ys37 2).1.2.2)) (NestP.len hP36 hg91.1 (lt_nat hg91.2 rfl))))) ?_
            obtain ⟨hg92,h⟩:=gOs h
            refine oY rfl (yI sl_42 (by decide) hg92.1 hg92.2 (NestL.rd (PvL.nestL hP36 hV39 (fun W2 hW2 => ⟨hW2.below,trivial,hW2.mem (i:=7) rfl⟩)) hg91.1 (lt_nat hg91.2 rfl)) (eL cI_len rfl) rfl rfl) ?_
            refine oY rfl (yR (A:=((rdL ys37 2).1.1)) (j:=(Int.toNat 0 * 1)) (v:=vI (rdL (rdL y28.1.fH 2) 0)) sc_3 (NestL.rd (PvL.nestL hP36 hV39 (fun W2 hW2 => ⟨hW2.below,trivial,hW2.mem (i:=7) rfl⟩)) hg91.1 (lt_nat hg91.2 rfl)) rfl (encL_get0 cI_len hg92.1 (lt_nat hg92.2 rfl) rfl)) (oY rfl (y_eql rfl rfl) (oY rfl (yMB rfl) ?_))
            obtain ⟨b94,hb95,h⟩:=bOs h
            refine oJ 8 (fun tm0 => (upd (upd (upd (upd (upd (upd (upd (upd (upd tm0 0 (.bool false)) 2 (.pointer (some ⟨b24,0,none⟩))) 5 (.pointer (some ⟨b40,0,none⟩))) 7 (.slice A45 y41.1.length c46)) 9 (.pointer (some ⟨b63,0,none⟩))) 11 (vI y64.1)) 13 (.slice A68 y66.1.length c69)) 15 (.slice A74 y72.1.length c75)) 133 (.bool b94))) (fun tm0 => ?_) (fun key => ?_)
            ·refine oY rfl (yMB rfl) ?_
             obtain ⟨b97,hb98,h⟩:=bOs h
             refine oJ 8 (fun tm0 => (upd (upd (upd (upd (upd (upd (upd (upd tm0 0 (.bool false)) 2 (.pointer (some ⟨b24,0,none⟩))) 7 (.slice A45 y41.1.length c46)) 9 (.pointer (some ⟨b63,0,none⟩))) 11 (vI y64.1)) 13 (.slice A68 y66.1.length c69)) 15 (.slice A74 y72.1.length c75)) 142 (.bool b97))) (fun tm0 => ?_) (fun key => ?_)
             ·refine oY rfl (yMB rfl) ?_
              obtain ⟨b100,hb101,h⟩:=bOs h
              refine oJ 6 (fun tm0 => (upd (upd (upd (upd (upd (upd (upd (upd tm0 0 (.bool false)) 2 (.pointer (some ⟨b24,0,none⟩))) 7 (.slice A45 y41.1.length c46)) 9 (.pointer (some ⟨b63,0,none⟩))) 11 (vI y64.1)) 13 (.slice A68 y66.1.length c69)) 15 (.slice A74 y72.1.length c75)) 149 (.bool b100))) (fun tm0 => ?_) (fun key => ?_)
              ·refine oY rfl (yMB rfl) ?_
               obtain ⟨b103,hb104,h⟩:=bOs h
               refine oJ 6 (fun tm0 => (upd (upd (upd (upd (upd (upd (upd (upd tm0 0 (.bool false)) 2 (.pointer (some ⟨b24,0,none⟩))) 7 (.slice A45 y41.1.length c46)) 9 (.pointer (some ⟨b63,0,none⟩))) 11 (vI y64.1)) 13 (.slice A68 y66.1.length c69)) 15 (.slice A74 y72.1.length c75)) 156 (.bool b103))) (fun tm0 => ?_) (fun key => ?_)
               ·refine oY rfl (yMB rfl) ?_
                obtain ⟨b106,hb107,h⟩:=bOs h
                refine oJ 6 (fun tm0 => (upd (upd (upd (upd (upd (upd (upd tm0 0 (.bool false)) 2 (.pointer (some ⟨b24,0,none⟩))) 9 (.pointer (some ⟨b63,0,none⟩))) 11 (vI y64.1)) 13 (.slice A68 y66.1.length c69)) 15 (.slice A74 y72.1.length c75)) 163 (.bool b106))) (fun tm0 => ?_) (fun key => ?_)
                ·refine oY rfl (yMB rfl) ?_
                 refine oJ 4 (fun tm0 => (upd (upd (upd (upd (upd (upd tm0 0 (.bool false)) 2 (.pointer (some ⟨b24,0,none⟩))) 11 (vI y64.1)) 13 (.slice A68 y66.1.length c69)) 15 (.slice A74 y72.1.length c75)) 168 (.bool (b106 && (y53.1.fA == 17))))) (fun tm0 => ?_) (fun key => ?_)
                 ·refine oY rfl (yMB rfl) ?_
                  refine oJ 3 (fun tm0 => (upd (upd (upd (upd (upd tm0 0 (.bool false)) 2 (.pointer (some ⟨b24,0,none⟩))) 13 (.slice A68 y66.1.length c69)) 15 (.slice A74 y72.1.length c75)) 172 (.bool ((b106 && (y53.1.fA == 17)) && (y64.1 == 16))))) (fun tm0 => ?_) (fun key => ?_)
                  ·refine oY rfl (yMB rfl) ?_
                   obtain ⟨b111,hb112,h⟩:=bOs h
                   refine oJ 4 (fun tm0 => (upd (upd (upd (upd tm0 0 (.bool false)) 2 (.pointer (some ⟨b24,0,none⟩))) 15 (.slice A74 y72.1.length c75)) 177 (.bool b111))) (fun tm0 => ?_) (fun key => ?_)
                   ·refine oY rfl (yMB rfl) ?_
                    obtain ⟨b114,hb115,h⟩:=bOs h
                    refine oJ 4 (fun tm0 => (upd (upd (upd tm0 0 (.bool false)) 2 (.pointer (some ⟨b24,0,none⟩))) 182 (.bool b114))) (fun tm0 => ?_) (fun key => ?_)
                    ·refine oY rfl (yAB rfl) (oN (eT (cS (cR (oY rfl (yN 5 [.slice A16 y14.fB.length c17,.slice A18 y14.fR.length c19] ag_53 rfl rfl rfl) ?_)))))
                     obtain ⟨y116,hy117,h⟩:=bOs h
                     refine oC [.agg #[.slice A16 y14.fB.length c17,.slice A18 y14.fR.length c19]] _ _ _ rfl go_37 rfl (fun W2 hW2 => cart_Serve_ok y14 y116 hy117 W2 A16 y14.fB.length c17 rfl ((RdL.row 3 rfl) W2 hW2) A18 y14.fR.length c19 rfl ((RdL.row 4 rfl) W2 hW2)) ?_
                     rintro ⟨⟨A118,n122,c119⟩,⟨A120,n124,c121⟩⟩ ⟨hn123,hn125⟩
                     replace hn123 : n122 = y116.1.fG.length:=hn123; subst hn123
                     replace hn125 : n124 = y116.1.fPrices.length:=hn125; subst hn125
                     try dsimp only [lna,lca,lsz,lss]
                     refine oY rfl (y_move_tuple rfl) (oY rfl (yE (vs:=[.agg #[.slice A118 y116.1.fG.length c119,vI y116.1.fW,.slice A120 y116.1.fPrices.length c121],vI y116.2]) (v:=.agg #[.slice A118 y116.1.fG.length c119,vI y116.1.fW,.slice A120 y116.1.fPrices.length c121]) rfl rfl) (oY rfl (yE (vs:=[.agg #[.slice A118 y116.1.fG.length c119,vI y116.1.fW,.slice A120 y116.1.fPrices.length c121],vI y116.2]) (v:=vI y116.2) rfl rfl) ?_))
                     refine ox_alloc ze_71 rfl (fun b126 => ?_)
                     try dsimp only [lna,lca,lsz,lss]
                     refine ox_n rfl (yS 17 [.slice A118 y116.1.fG.length c119,vI y116.1.fW,.slice A120 y116.1.fPrices.length c121] sz_71 rfl (nB rfl) rfl rfl rfl) (oY rfl (yAI rfl) (oN (eT (cS (cR (oY rfl (yN 5 [.slice A16 y14.fB.length c17,.slice A18 y14.fR.length c19] ag_53 rfl rfl rfl) ?_))))))
                     obtain ⟨y127,hy128,h⟩:=bOs h
                     refine oC [.agg #[.slice A16 y14.fB.length c17,.slice A18 y14.fR.length c19]] _ _ _ rfl go_27 rfl (fun W2 hW2 => cart_Surely_ok y14 y127 hy128 W2 A16 y14.fB.length c17 rfl ((RdL.row 3 rfl) W2 hW2) A18 y14.fR.length c19 rfl ((RdL.row 4 rfl) W2 hW2)) ?_
                     rintro ⟨A129,n131,c130⟩ hn132
                     replace hn132 : n131 = y127.1.length:=hn132; subst hn132
                     try dsimp only [lna,lca,lsz,lss]
                     refine oY rfl (y_move_tuple rfl) (oY rfl (yE (vs:=[.slice A129 y127.1.length c130,vI y127.2]) (v:=.slice A129 y127.1.length c130) rfl rfl) (oY rfl (yE (vs:=[.slice A129 y127.1.length c130,vI y127.2]) (v:=vI y127.2) rfl rfl) (oY rfl (yAS rfl) (oY rfl (yAI rfl) (oN (eT (cS (cR (oY rfl (yN 5 [.slice A16 y14.fB.length c17,.slice A18 y14.fR.length c19] ag_53 rfl rfl rfl) ?_)))))))))
                     obtain ⟨y133,hy134,h⟩:=bOs h
                     refine oC [.agg #[.slice A16 y14.fB.length c17,.slice A18 y14.fR.length c19]] _ _ _ rfl go_29 rfl (fun W2 hW2 => cart_Never_ok y14 y133 hy134 W2 A16 y14.fB.length c17 rfl ((RdL.row 3 rfl) W2 hW2) A18 y14.fR.length c19 rfl ((RdL.row 4 rfl) W2 hW2)) ?_
                     rintro ⟨A135,n137,c136⟩ hn138
                     replace hn138 : n137 = y133.1.length:=hn138; subst hn138
                     try dsimp only [lna,lca,lsz,lss]
                     refine oY rfl (y_move_tuple rfl) (oY rfl (yE (vs:=[.slice A135 y133.1.length c136,vI y133.2]) (v:=.slice A135 y133.1.length c136) rfl rfl) (oY rfl (yE (vs:=[.slice A135 y133.1.length c136,vI y133.2]) (v:=vI y133.2) rfl rfl) (oY rfl (yAS rfl) (oY rfl (yAI rfl) (oN (eT (cS (cR (oY rfl (yN 5 [.slice A16 y14.fB.length c17,.slice A18 y14.fR.length c19] ag_53 rfl rfl rfl) ?_)))))))))
                     refine ox_buildSliceE 3 (encL cI [7,8,9]) _ mc_3_3 us_42 ze_3 by_3 (by decide) (by decide) (by kernel_rfl) (eL cI_len rfl) rfl (fun b139 => ?_)
                     try dsimp only [lna,lca,lsz,lss]
                     obtain ⟨y140,hy141,h⟩:=bOs h
                     refine oC [.agg #[.slice A16 y14.fB.length c17,.slice A18 y14.fR.length c19],.slice (some ⟨b139,0,none⟩) 3 3] _ _ _ rfl go_31 rfl (fun W2 hW2 => cart_Crowded_ok y14 [7,8,9] y140 hy141 W2 A16 y14.fB.length c17 rfl ((RdL.row 3 rfl) W2 hW2) A18 y14.fR.length c19 rfl ((RdL.row 4 rfl) W2 hW2) (some ⟨b139,0,none⟩) 3 3 rfl ((RdL.row 20 rfl) W2 hW2)) ?_
                     rintro ⟨A142,n144,c143⟩ hn145
                     replace hn145 : n144 = y140.1.length:=hn145; subst hn145
                     try dsimp only [lna,lca,lsz,lss]
                     refine oY rfl (y_move_tuple rfl) (oY rfl (yE (vs:=[.slice A142 y140.1.length c143,vI y140.2]) (v:=.slice A142 y140.1.length c143) rfl rfl) (oY rfl (yE (vs:=[.slice A142 y140.1.length c143,vI y140.2]) (v:=vI y140.2) rfl rfl) (oY rfl (yAS rfl) (oY rfl (yAI rfl) (oN (eT (cS (cR (oY rfl (yN 5 [.slice A16 y14.fB.length c17,.slice A18 y14.fR.length c19] ag_53 rfl rfl rfl) ?_)))))))))
                     obtain ⟨y146,hy147,h⟩:=bOs h
                     refine oY rfl (yC [.agg #[.slice A16 y14.fB.length c17,.slice A18 y14.fR.length c19],vI 1] go_33 rfl (fun W2 hW2 => cart_Lost_ok y14 1 y146 hy147 W2 A16 y14.fB.length c17 rfl ((RdL.row 3 rfl) W2 hW2) A18 y14.fR.length c19 rfl ((RdL.row 4 rfl) W2 hW2)) rfl) (oY rfl (y_move_tuple rfl) (oY rfl (yE (vs:=[vI y146.1,vI y146.2]) (v:=vI y146.1) rfl rfl) (oY rfl (yE (vs:=[vI y146.1,vI y146.2]) (v:=vI y146.2) rfl rfl) (oY rfl (yAI rfl) (oY rfl (yAI rfl) (oN (eT (cS (cR (oY rfl (yMI rfl) (oY rfl (y_eql rfl rfl) (oY rfl (yMB rfl) ?_))))))))))))
                     refine oJ 4 (fun tm0 => (upd (upd (upd (upd (upd (upd (upd (upd (upd (upd (upd (upd (upd tm0 0 (.bool false)) 2 (.pointer (some ⟨b24,0,none⟩))) 17 (.bool b114)) 18 (.pointer (some ⟨b126,0,none⟩))) 20 (.slice A129 y127.1.length c130)) 21 (vI y127.2)) 22 (.slice A135 y133.1.length c136)) 23 (vI y133.2)) 24 (.slice A142 y140.1.length c143)) 25 (vI y140.2)) 26 (vI y146.1)) 27 (vI y146.2)) 215 (.bool ((y116.2 == 0) && (y116.1.fW == 14))))) (fun tm0 => ?_) (fun key => ?_)
                     ·refine oY rfl (yMB rfl) ?_
                      obtain ⟨b150,hb151,h⟩:=bOs h
                      refine oJ 5 (fun tm0 => (upd (upd (upd (upd (upd (upd (upd (upd (upd (upd (upd tm0 0 (.bool false)) 17 (.bool b114)) 20 (.slice A129 y127.1.length c130)) 21 (vI y127.2)) 22 (.slice A135 y133.1.length c136)) 23 (vI y133.2)) 24 (.slice A142 y140.1.length c143)) 25 (vI y140.2)) 26 (vI y146.1)) 27 (vI y146.2)) 221 (.bool b150))) (fun tm0 => ?_) (fun key => ?_)
                      ·refine oY rfl (yMB rfl) ?_
                       refine oJ 3 (fun tm0 => (upd (upd (upd (upd (upd (upd (upd (upd (upd (upd tm0 0 (.bool false)) 17 (.bool b114)) 20 (.slice A129 y127.1.length c130)) 22 (.slice A135 y133.1.length c136)) 23 (vI y133.2)) 24 (.slice A142 y140.1.length c143)) 25 (vI y140.2)) 26 (vI y146.1)) 27 (vI y146.2)) 225 (.bool (b150 && (y127.2 == 0))))) (fun tm0 => ?_) (fun key => ?_)
                       ·refine oY rfl (yMB rfl) ?_
                        obtain ⟨b154,hb155,h⟩:=bOs h
                        refine oJ 4 (fun tm0 => (upd (upd (upd (upd (upd (upd (upd (upd (upd tm0 0 (.bool false)) 17 (.bool b114)) 22 (.slice A135 y133.1.length c136)) 23 (vI y133.2)) 24 (.slice A142 y140.1.length c143)) 25 (vI y140.2)) 26 (vI y146.1)) 27 (vI y146.2)) 230 (.bool b154))) (fun tm0 => ?_) (fun key => ?_)
                        ·refine oY rfl (yMB rfl) ?_
                         refine oJ 3 (fun tm0 => (upd (upd (upd (upd (upd (upd (upd (upd tm0 0 (.bool false)) 17 (.bool b114)) 22 (.slice A135 y133.1.length c136)) 24 (.slice A142 y140.1.length c143)) 25 (vI y140.2)) 26 (vI y146.1)) 27 (vI y146.2)) 234 (.bool (b154 && (y133.2 == 0))))) (fun tm0 => ?_) (fun key => ?_)
                         ·refine oY rfl (yMB rfl) ?_
                          obtain ⟨b158,hb159,h⟩:=bOs h
                          refine oJ 4 (fun tm0 => (upd (upd (upd (upd (upd (upd (upd tm0 0 (.bool false)) 17 (.bool b114)) 24 (.slice A142 y140.1.length c143)) 25 (vI y140.2)) 26 (vI y146.1)) 27 (vI y146.2)) 239 (.bool b158))) (fun tm0 => ?_) (fun key => ?_)
                          ·refine oY rfl (yAB rfl) (oN (eT (cS (cR (oY rfl (yMB rfl) (oY rfl (yMB rfl) ?_))))))
                           refine oJ 2 (fun tm0 => (upd (upd (upd (upd (upd (upd tm0 0 (.bool false)) 24 (.slice A142 y140.1.length c143)) 25 (vI y140.2)) 26 (vI y146.1)) 27 (vI y146.2)) 243 (.bool (b114 && b158)))) (fun tm0 => ?_) (fun key => ?_)
                           ·refine oY rfl (yMB rfl) ?_
                            refine oJ 3 (fun tm0 => (upd (upd (upd (upd (upd tm0 0 (.bool false)) 24 (.slice A142 y140.1.length c143)) 26 (vI y146.1)) 27 (vI y146.2)) 247 (.bool ((b114 && b158) && (y140.2 == 0))))) (fun tm0 => ?_) (fun key => ?_)
                            ·refine oY rfl (yMB rfl) ?_
                             obtain ⟨b163,hb164,h⟩:=bOs h
                             refine oJ 4 (fun tm0 => (upd (upd (upd (upd tm0 0 (.bool false)) 26 (vI y146.1)) 27 (vI y146.2)) 252 (.bool b163))) (fun tm0 => ?_) (fun key => ?_)
                             ·refine oY rfl (yMB rfl) ?_
                              refine oJ 3 (fun tm0 => (upd (upd (upd tm0 0 (.bool false)) 26 (vI y146.1)) 256 (.bool (b163 && (y146.2 == 0))))) (fun tm0 => ?_) (fun key => ?_)
                              ·refine oY rfl (yMB rfl) ?_
                               refine oJ 3 (fun tm0 => (upd (upd tm0 0 (.bool false)) 260 (.bool ((b163 && (y146.2 == 0)) && (y146.1 == 5))))) (fun tm0 => ?_) (fun key => ?_)
                               ·refine oY rfl (yAB rfl) (oN (eT (cx_ret ?_)))
                                obtain rfl:=sI h
                                exact ex_res1 (.inl rfl) rfl (rVt (v:=.bool ((b163 && (y146.2 == 0)) && (y146.1 == 5))) rfl) (fun W2 hW2 => ⟨rfl,hW2.none⟩)
                               ·rcases bool_cases (b163 && (y146.2 == 0)) with hp166 | hp166
                                ·refine oY (sT rfl rfl rfl rfl hp166) (yMI rfl) (oY (sT rfl rfl rfl rfl hp166) (y_eql rfl rfl) (oY rfl (y_pick_tb (vB hp166) rfl) ?_))
                                 exact key _ _ (keep (keep rfl rfl) (vB (and_t hp166)))
                                ·refine oSk (sF rfl rfl rfl rfl hp166) (oSk (sF rfl rfl rfl rfl hp166) (oY rfl (y_pick_fb (vB hp166) rfl) ?_))
                                 exact key _ _ (keep (keep rfl rfl) (vB (and_f hp166)))
                              ·rcases bool_cases b163 with hp165 | hp165
                               ·refine oY (sT rfl rfl rfl rfl hp165) (yMI rfl) (oY (sT rfl rfl rfl rfl hp165) (y_eql rfl rfl) (oY rfl (y_pick_tb (vB hp165) rfl) ?_))
                                exact key _ _ (keep (keep (keep rfl rfl) rfl) (vB (and_t hp165)))
                               ·refine oSk (sF rfl rfl rfl rfl hp165) (oSk (sF rfl rfl rfl rfl hp165) (oY rfl (y_pick_fb (vB hp165) rfl) ?_))
                                exact key _ _ (keep (keep (keep rfl rfl) rfl) (vB (and_f hp165)))
                             ·clear h; rcases iOs hb164 with ⟨hp162,h⟩ | ⟨hp162,h⟩
                              ·refine oY (sT rfl rfl rfl rfl hp162) (yMS rfl) ?_
                               refine ox_buildSliceE 2 (encL cI [8,9]) _ mc_3_2 us_42 ze_3 by_3 (by decide) (by decide) (by kernel_rfl) (eL cI_len rfl) (sT rfl rfl rfl rfl hp162) (fun b167 => ?_)
                               try dsimp only [lna,lca,lsz,lss]
                               obtain ⟨y168,hy169,h⟩:=bOs h
                               refine oY (sT rfl rfl rfl rfl hp162) (yC [.slice A142 y140.1.length c143,.slice (some ⟨b167,0,none⟩) 2 2] go_25 rfl (fun W2 hW2 => ref05_SameInts_ok y140.1 [8,9] y168 hy169 W2 A142 y140.1.length c143 rfl ((RdL.row 21 rfl) W2 hW2) (some ⟨b167,0,none⟩) 2 2 rfl ((RdL.row 22 rfl) W2 hW2)) rfl) (oY rfl (y_pick_tb (vB hp162) rfl) ?_)
                               obtain rfl:=sI h
                               refine ox_take 22 ?_
                               exact key _ _ (kp4 rfl)
                              ·refine oSk (sF rfl rfl rfl rfl hp162) (oSk (sF rfl rfl rfl rfl hp162) (oSk (sF rfl rfl rfl rfl hp162) (oY rfl (y_pick_fb (vB hp162) rfl) ?_)))
                               obtain rfl:=sI h
                               exact key _ _ (kp4 rfl)
                            ·rcases bool_cases (b114 && b158) with hp161 | hp161
                             ·refine oY (sT rfl rfl rfl rfl hp161) (yMI rfl) (oY (sT rfl rfl rfl rfl hp161) (y_eql rfl rfl) (oY rfl (y_pick_tb (vB hp161) rfl) ?_))
                              exact key _ _ (keep (keep (keep (keep (keep rfl rfl) rfl) rfl) rfl) (vB (and_t hp161)))
                             ·refine oSk (sF rfl rfl rfl rfl hp161) (oSk (sF rfl rfl rfl rfl hp161) (oY rfl (y_pick_fb (vB hp161) rfl) ?_))
                              exact key _ _ (keep (keep (keep (keep (keep rfl rfl) rfl) rfl) rfl) (vB (and_f hp161)))
                           ·rcases bool_cases b114 with hp160 | hp160
                            ·refine oY (sT rfl rfl rfl rfl hp160) (yMB rfl) (oY rfl (y_pick_tb (vB hp160) rfl) ?_)
                             exact key _ _ (keep (keep (keep (keep (keep (keep rfl rfl) rfl) rfl) rfl) rfl) (vB (and_t hp160)))
                            ·refine oSk (sF rfl rfl rfl rfl hp160) (oY rfl (y_pick_fb (vB hp160) rfl) ?_)
                             exact key _ _ (keep (keep (keep (keep (keep (keep rfl rfl) rfl) rfl) rfl) rfl) (vB (and_f hp160)))
                          ·clear h; rcases iOs hb159 with ⟨hp157,h⟩ | ⟨hp157,h⟩
                           ·refine oY (sT rfl rfl rfl rfl hp157) (yMS rfl) ?_
                            refine ox_buildSliceE 1 (encL cI [9]) _ mc_3_1 us_42 ze_3 by_3 (by decide) (by decide) (by kernel_rfl) (eL cI_len rfl) (sT rfl rfl rfl rfl hp157) (fun b170 => ?_)
                            try dsimp only [lna,lca,lsz,lss]
                            obtain ⟨y171,hy172,h⟩:=bOs h
                            refine oY (sT rfl rfl rfl rfl hp157) (yC [.slice A135 y133.1.length c136,.slice (some ⟨b170,0,none⟩) 1 1] go_25 rfl (fun W2 hW2 => ref05_SameInts_ok y133.1 [9] y171 hy172 W2 A135 y133.1.length c136 rfl ((RdL.row 19 rfl) W2 hW2) (some ⟨b170,0,none⟩) 1 1 rfl ((RdL.row 22 rfl) W2 hW2)) rfl) (oY rfl (y_pick_tb (vB hp157) rfl) ?_)
                            obtain rfl:=sI h
                            refine ox_take 22 ?_
                            exact key _ _ (kp4 (kp (kp (kp rfl))))
                           ·refine oSk (sF rfl rfl rfl rfl hp157) (oSk (sF rfl rfl rfl rfl hp157) (oSk (sF rfl rfl rfl rfl hp157) (oY rfl (y_pick_fb (vB hp157) rfl) ?_)))
                            obtain rfl:=sI h
                            exact key _ _ (kp4 (kp (kp (kp rfl))))
                         ·rcases bool_cases b154 with hp156 | hp156
                          ·refine oY (sT rfl rfl rfl rfl hp156) (yMI rfl) (oY (sT rfl rfl rfl rfl hp156) (y_eql rfl rfl) (oY rfl (y_pick_tb (vB hp156) rfl) ?_))
                           exact key _ _ (keep (keep (keep (keep (keep (keep (keep (keep rfl rfl) rfl) rfl) rfl) rfl) rfl) rfl) (vB (and_t hp156)))
                          ·refine oSk (sF rfl rfl rfl rfl hp156) (oSk (sF rfl rfl rfl rfl hp156) (oY rfl (y_pick_fb (vB hp156) rfl) ?_))
                           exact key _ _ (keep (keep (keep (keep (keep (keep (keep (keep rfl rfl) rfl) rfl) rfl) rfl) rfl) rfl) (vB (and_f hp156)))
                        ·clear h; rcases iOs hb155 with ⟨hp153,h⟩ | ⟨hp153,h⟩
                         ·refine oY (sT rfl rfl rfl rfl hp153) (yMS rfl) ?_
                          refine ox_buildSliceE 2 (encL cI [7,8]) _ mc_3_2 us_42 ze_3 by_3 (by decide) (by decide) (by kernel_rfl) (eL cI_len rfl) (sT rfl rfl rfl rfl hp153) (fun b173 => ?_)
                          try dsimp only [lna,lca,lsz,lss]
                          obtain ⟨y174,hy175,h⟩:=bOs h
                          refine oY (sT rfl rfl rfl rfl hp153) (yC [.slice A129 y127.1.length c130,.slice (some ⟨b173,0,none⟩) 2 2] go_25 rfl (fun W2 hW2 => ref05_SameInts_ok y127.1 [7,8] y174 hy175 W2 A129 y127.1.length c130 rfl ((RdL.row 18 rfl) W2 hW2) (some ⟨b173,0,none⟩) 2 2 rfl ((RdL.row 22 rfl) W2 hW2)) rfl) (oY rfl (y_pick_tb (vB hp153) rfl) ?_)
                          obtain rfl:=sI h
                          refine ox_take 22 ?_
                          exact key _ _ (kp4 (kp4 (kp rfl)))
                         ·refine oSk (sF rfl rfl rfl rfl hp153) (oSk (sF rfl rfl rfl rfl hp153) (oSk (sF rfl rfl rfl rfl hp153) (oY rfl (y_pick_fb (vB hp153) rfl) ?_)))
                          obtain rfl:=sI h
                          exact key _ _ (kp4 (kp4 (kp rfl)))
                       ·rcases bool_cases b150 with hp152 | hp152
                        ·refine oY (sT rfl rfl rfl rfl hp152) (yMI rfl) (oY (sT rfl rfl rfl rfl hp152) (y_eql rfl rfl) (oY rfl (y_pick_tb (vB hp152) rfl) ?_))
                         exact key _ _ (keep (keep (keep (keep (keep (keep (keep (keep (keep (keep rfl rfl) rfl) rfl) rfl) rfl) rfl) rfl) rfl) rfl) (vB (and_t hp152)))
                        ·refine oSk (sF rfl rfl rfl rfl hp152) (oSk (sF rfl rfl rfl rfl hp152) (oY rfl (y_pick_fb (vB hp152) rfl) ?_))
                         exact key _ _ (keep (keep (keep (keep (keep (keep (keep (keep (keep (keep rfl rfl) rfl) rfl) rfl) rfl) rfl) rfl) rfl) rfl) (vB (and_f hp152)))
                      ·clear h; rcases iOs hb151 with ⟨hp149,h⟩ | ⟨hp149,h⟩
                       ·refine oY (sT rfl rfl rfl rfl hp149) (yN 5 [.slice A16 y14.fB.length c17,.slice A18 y14.fR.length c19] ag_53 rfl rfl rfl) (oY (sT rfl rfl rfl rfl hp149) (yN 17 [.slice A118 y116.1.fG.length c119,vI y116.1.fW,.slice A120 y116.1.fPrices.length c121] ag_71 rfl rfl rfl) ?_)
                        obtain ⟨y176,hy177,h⟩:=bOs h
                        refine oY (sT rfl rfl rfl rfl hp149) (yC [.agg #[.slice A16 y14.fB.length c17,.slice A18 y14.fR.length c19],.agg #[.slice A118 y116.1.fG.length c119,vI y116.1.fW,.slice A120 y116.1.fPrices.length c121]] go_44 rfl (fun W2 hW2 => ref05_CheckPlan_ok y14 y116.1 y176 hy177 W2 A16 y14.fB.length c17 rfl ((RdL.row 3 rfl) W2 hW2) A18 y14.fR.length c19 rfl ((RdL.row 4 rfl) W2 hW2) A118 y116.1.fG.length c119 rfl ((RdL.row 15 rfl) W2 hW2) A120 y116.1.fPrices.length c121 rfl ((RdL.row 16 rfl) W2 hW2)) rfl) (oY (sT rfl rfl rfl rfl hp149) (y_eql rfl rfl) (oY rfl (y_pick_tb (vB hp149) rfl) ?_))
                        obtain rfl:=sI h
                        exact key _ _ (kp4 (kp4 (kp (kp (kp rfl)))))
                       ·refine oSk (sF rfl rfl rfl rfl hp149) (oSk (sF rfl rfl rfl rfl hp149) (oSk (sF rfl rfl rfl rfl hp149) (oSk (sF rfl rfl rfl rfl hp149) (oY rfl (y_pick_fb (vB hp149) rfl) ?_))))
                        obtain rfl:=sI h
                        exact key _ _ (kp4 (kp4 (kp (kp (kp rfl)))))
                     ·rcases bool_cases (y116.2 == 0) with hp148 | hp148
                      ·refine oY (sT rfl rfl rfl rfl hp148) (yFA fo_71_1 rfl) (oY (sT rfl rfl rfl rfl hp148) (yL 17 (v:=vI y116.1.fW) sc_3 rfl rfl rfl) (oY (sT rfl rfl rfl rfl hp148) (y_eql rfl rfl) (oY rfl (y_pick_tb (vB hp148) rfl) ?_)))
                       exact key _ _ (keep (keep (keep (keep (keep (keep (keep (keep (keep (keep (keep (keep (keep rfl rfl) rfl) rfl) rfl) rfl) rfl) rfl) rfl) rfl) rfl) rfl) rfl) (vB (and_t hp148)))
                      ·refine oSk (sF rfl rfl rfl rfl hp148) (oSk (sF rfl rfl rfl rfl hp148) (oSk (sF rfl rfl rfl rfl hp148) (oY rfl (y_pick_fb (vB hp148) rfl) ?_)))
                       exact key _ _ (keep (keep (keep (keep (keep (keep (keep (keep (keep (keep (keep (keep (keep rfl rfl) rfl) rfl) rfl) rfl) rfl) rfl) rfl) rfl) rfl) rfl) rfl) (vB (and_f hp148)))
                    ·clear h; rcases iOs hb115 with ⟨hp113,h⟩ | ⟨hp113,h⟩
                     ·refine oY (sT rfl rfl rfl rfl hp113) (yMS rfl) ?_
                      refine ox_buildSliceE 1 (encL cI [3]) _ mc_3_1 us_42 ze_3 by_3 (by decide) (by decide) (by kernel_rfl) (eL cI_len rfl) (sT rfl rfl rfl rfl hp113) (fun b178 => ?_)
                      try dsimp only [lna,lca,lsz,lss]
                      obtain ⟨y179,hy180,h⟩:=bOs h
                      refine oY (sT rfl rfl rfl rfl hp113) (yC [.slice A74 y72.1.length c75,.slice (some ⟨b178,0,none⟩) 1 1] go_25 rfl (fun W2 hW2 => ref05_SameInts_ok y72.1 [3] y179 hy180 W2 A74 y72.1.length c75 rfl ((RdL.row 14 rfl) W2 hW2) (some ⟨b178,0,none⟩) 1 1 rfl ((RdL.row 15 rfl) W2 hW2)) rfl) (oY rfl (y_pick_tb (vB hp113) rfl) ?_)
                      obtain rfl:=sI h
                      refine ox_take 15 ?_
                      exact key _ _ (kp (kp (kp rfl)))
                     ·refine oSk (sF rfl rfl rfl rfl hp113) (oSk (sF rfl rfl rfl rfl hp113) (oSk (sF rfl rfl rfl rfl hp113) (oY rfl (y_pick_fb (vB hp113) rfl) ?_)))
                      obtain rfl:=sI h
                      exact key _ _ (kp (kp (kp rfl)))
                   ·clear h; rcases iOs hb112 with ⟨hp110,h⟩ | ⟨hp110,h⟩
                    ·refine oY (sT rfl rfl rfl rfl hp110) (yMS rfl) ?_
                     refine ox_buildSliceE 2 (encL cI [1,2]) _ mc_3_2 us_42 ze_3 by_3 (by decide) (by decide) (by kernel_rfl) (eL cI_len rfl) (sT rfl rfl rfl rfl hp110) (fun b181 => ?_)
                     try dsimp only [lna,lca,lsz,lss]
                     obtain ⟨y182,hy183,h⟩:=bOs h
                     refine oY (sT rfl rfl rfl rfl hp110) (yC [.slice A68 y66.1.length c69,.slice (some ⟨b181,0,none⟩) 2 2] go_25 rfl (fun W2 hW2 => ref05_SameInts_ok y66.1 [1,2] y182 hy183 W2 A68 y66.1.length c69 rfl ((RdL.row 13 rfl) W2 hW2) (some ⟨b181,0,none⟩) 2 2 rfl ((RdL.row 15 rfl) W2 hW2)) rfl) (oY rfl (y_pick_tb (vB hp110) rfl) ?_)
                     obtain rfl:=sI h
                     refine ox_take 15 ?_
                     exact key _ _ (kp4 rfl)
                    ·refine oSk (sF rfl rfl rfl rfl hp110) (oSk (sF rfl rfl rfl rfl hp110) (oSk (sF rfl rfl rfl rfl hp110) (oY rfl (y_pick_fb (vB hp110) rfl) ?_)))
                     obtain rfl:=sI h
                     exact key _ _ (kp4 rfl)
                  ·rcases bool_cases (b106 && (y53.1.fA == 17)) with hp109 | hp109
                   ·refine oY (sT rfl rfl rfl rfl hp109) (yMI rfl) (oY (sT rfl rfl rfl rfl hp109) (y_eql rfl rfl) (oY rfl (y_pick_tb (vB hp109) rfl) ?_))
                    exact key _ _ (keep (keep (keep (keep (keep rfl rfl) rfl) rfl) rfl) (vB (and_t hp109)))
                   ·refine oSk (sF rfl rfl rfl rfl hp109) (oSk (sF rfl rfl rfl rfl hp109) (oY rfl (y_pick_fb (vB hp109) rfl) ?_))
                    exact key _ _ (keep (keep (keep (keep (keep rfl rfl) rfl) rfl) rfl) (vB (and_f hp109)))
                 ·rcases bool_cases b106 with hp108 | hp108
                  ·refine oY (sT rfl rfl rfl rfl hp108) (yFA fo_29_1 rfl) (oY (sT rfl rfl rfl rfl hp108) (yL 12 (v:=vI y53.1.fA) sc_3 rfl rfl rfl) (oY (sT rfl rfl rfl rfl hp108) (y_eql rfl rfl) (oY rfl (y_pick_tb (vB hp108) rfl) ?_)))
                   exact key _ _ (keep (keep (keep (keep (keep (keep rfl rfl) rfl) rfl) rfl) rfl) (vB (and_t hp108)))
                  ·refine oSk (sF rfl rfl rfl rfl hp108) (oSk (sF rfl rfl rfl rfl hp108) (oSk (sF rfl rfl rfl rfl hp108) (oY rfl (y_pick_fb (vB hp108) rfl) ?_)))
                   exact key _ _ (keep (keep (keep (keep (keep (keep rfl rfl) rfl) rfl) rfl) rfl) (vB (and_f hp108)))
                ·clear h; rcases iOs hb107 with ⟨hp105,h⟩ | ⟨hp105,h⟩
                 ·refine oY (sT rfl rfl rfl rfl hp105) (yMS rfl) ?_
                  obtain ⟨hg184,h⟩:=gOs h
                  refine oY (sT rfl rfl rfl rfl hp105) (yI sl_106 (by decide) hg184.1 hg184.2 (RdL.row 9 rfl) (eL TJourney_cells2_len (NestP.hn hP49 rfl)) rfl rfl) ?_
                  refine oY (sT rfl rfl rfl rfl hp105) (yFR (A:=A45) (j:=(Int.toNat 2 * 3)) fo_29_2 rfl) (oY (sT rfl rfl rfl rfl hp105) (yR (A:=A45) (j:=((Int.toNat 2 * 3) + 2)) (v:=vI ((rdL y41.1 2).fToll)) sc_3 (RdL.row 9 rfl) rfl (eG TJourney_cells2_len hg184.1 (lt_nat hg184.2 (NestP.hn hP49 rfl)) (congrArg (fun z : TJ => some (Value.int .i64 z.fToll)) (NestP.snd hP49 2)))) (oY (sT rfl rfl rfl rfl hp105) (y_eql rfl rfl) (oY rfl (y_pick_tb (vB hp105) rfl) ?_)))
                  obtain rfl:=sI h
                  exact key _ _ (kp4 (kp (kp (kp rfl))))
                 ·refine oSk (sF rfl rfl rfl rfl hp105) (oSk (sF rfl rfl rfl rfl hp105) (oSk (sF rfl rfl rfl rfl hp105) (oSk (sF rfl rfl rfl rfl hp105) (oSk (sF rfl rfl rfl rfl hp105) (oY rfl (y_pick_fb (vB hp105) rfl) ?_)))))
                  obtain rfl:=sI h
                  exact key _ _ (kp4 (kp (kp (kp rfl))))
               ·clear h; rcases iOs hb104 with ⟨hp102,h⟩ | ⟨hp102,h⟩
                ·refine oY (sT rfl rfl rfl rfl hp102) (yMS rfl) ?_
                 obtain ⟨hg185,h⟩:=gOs h
                 refine oY (sT rfl rfl rfl rfl hp102) (yI sl_106 (by decide) hg185.1 hg185.2 (RdL.row 9 rfl) (eL TJourney_cells2_len (NestP.hn hP49 rfl)) rfl rfl) ?_
                 refine oY (sT rfl rfl rfl rfl hp102) (yFR (A:=A45) (j:=(Int.toNat 1 * 3)) fo_29_1 rfl) (oY (sT rfl rfl rfl rfl hp102) (yR (A:=A45) (j:=((Int.toNat 1 * 3) + 1)) (v:=vI ((rdL y41.1 1).fA)) sc_3 (RdL.row 9 rfl) rfl (eG TJourney_cells2_len hg185.1 (lt_nat hg185.2 (NestP.hn hP49 rfl)) (congrArg (fun z : TJ => some (Value.int .i64 z.fA)) (NestP.snd hP49 1)))) (oY (sT rfl rfl rfl rfl hp102) (y_eql rfl rfl) (oY rfl (y_pick_tb (vB hp102) rfl) ?_)))
                 obtain rfl:=sI h
                 exact key _ _ (kp4 (kp4 rfl))
                ·refine oSk (sF rfl rfl rfl rfl hp102) (oSk (sF rfl rfl rfl rfl hp102) (oSk (sF rfl rfl rfl rfl hp102) (oSk (sF rfl rfl rfl rfl hp102) (oSk (sF rfl rfl rfl rfl hp102) (oY rfl (y_pick_fb (vB hp102) rfl) ?_)))))
                 obtain rfl:=sI h
                 exact key _ _ (kp4 (kp4 rfl))
              ·clear h; rcases iOs hb101 with ⟨hp99,h⟩ | ⟨hp99,h⟩
               ·refine oY (sT rfl rfl rfl rfl hp99) (yMS rfl) ?_
                obtain ⟨hg186,h⟩:=gOs h
                refine oY (sT rfl rfl rfl rfl hp99) (yI sl_106 (by decide) hg186.1 hg186.2 (RdL.row 9 rfl) (eL TJourney_cells2_len (NestP.hn hP49 rfl)) rfl rfl) ?_
                refine oY (sT rfl rfl rfl rfl hp99) (yFR (A:=A45) (j:=(Int.toNat 0 * 3)) fo_29_2 rfl) (oY (sT rfl rfl rfl rfl hp99) (yR (A:=A45) (j:=((Int.toNat 0 * 3) + 2)) (v:=vI ((rdL y41.1 0).fToll)) sc_3 (RdL.row 9 rfl) rfl (eG TJourney_cells2_len hg186.1 (lt_nat hg186.2 (NestP.hn hP49 rfl)) (congrArg (fun z : TJ => some (Value.int .i64 z.fToll)) (NestP.snd hP49 0)))) (oY (sT rfl rfl rfl rfl hp99) (y_eql rfl rfl) (oY rfl (y_pick_tb (vB hp99) rfl) ?_)))
                obtain rfl:=sI h
                exact key _ _ (kp4 (kp4 rfl))
               ·refine oSk (sF rfl rfl rfl rfl hp99) (oSk (sF rfl rfl rfl rfl hp99) (oSk (sF rfl rfl rfl rfl hp99) (oSk (sF rfl rfl rfl rfl hp99) (oSk (sF rfl rfl rfl rfl hp99) (oY rfl (y_pick_fb (vB hp99) rfl) ?_)))))
                obtain rfl:=sI h
                exact key _ _ (kp4 (kp4 rfl))
             ·clear h; rcases iOs hb98 with ⟨hp96,h⟩ | ⟨hp96,h⟩
              ·refine oY (sT rfl rfl rfl rfl hp96) (yFA fo_87_0 rfl) (oY (sT rfl rfl rfl rfl hp96) (yL 8 (v:=.slice A32 y28.1.fH.length c33) sc_85 rfl rfl rfl) ?_)
               obtain ⟨hg187,h⟩:=gOs h
               refine oY (sT rfl rfl rfl rfl hp96) (yI sl_85 (by decide) hg187.1 hg187.2 (RdL.row 6 rfl) (eL SlInt_cells2_len (NestP.hn hP36 rfl)) rfl rfl) ?_
               refine oY (sT rfl rfl rfl rfl hp96) (yR (A:=A32) (j:=(Int.toNat 2 * 1)) (v:=.slice ((rdL ys37 2).1.1) ((rdL y28.1.fH 2).length) ((rdL ys37 2).1.2.2)) sc_42 (RdL.row 6 rfl) rfl (encL_get0 SlInt_cells2_len hg187.1 (lt_nat hg187.2 (NestP.hn hP36 rfl)) (congrArg (fun n : Nat => some (Value.slice (rdL ys37 2).1.1 n (rdL ys37 2).1.2.2)) (NestP.len hP36 hg187.1 (lt_nat hg187.2 rfl))))) ?_
               obtain ⟨hg188,h⟩:=gOs h
               refine oY (sT rfl rfl rfl rfl hp96) (yI sl_42 (by decide) hg188.1 hg188.2 (NestL.rd (PvL.nestL hP36 hV39 (fun W2 hW2 => ⟨hW2.below,trivial,hW2.mem (i:=7) rfl⟩)) hg187.1 (lt_nat hg187.2 rfl)) (eL cI_len rfl) rfl rfl) ?_
               refine oY (sT rfl rfl rfl rfl hp96) (yR (A:=((rdL ys37 2).1.1)) (j:=(Int.toNat 6 * 1)) (v:=vI (rdL (rdL y28.1.fH 2) 6)) sc_3 (NestL.rd (PvL.nestL hP36 hV39 (fun W2 hW2 => ⟨hW2.below,trivial,hW2.mem (i:=7) rfl⟩)) hg187.1 (lt_nat hg187.2 rfl)) rfl (encL_get0 cI_len hg188.1 (lt_nat hg188.2 rfl) rfl)) (oY (sT rfl rfl rfl rfl hp96) (y_eql rfl rfl) (oY rfl (y_pick_tb (vB hp96) rfl) ?_))
               obtain rfl:=sI h
               exact key _ _ (kp4 (kp4 rfl))
              ·refine oSk (sF rfl rfl rfl rfl hp96) (oSk (sF rfl rfl rfl rfl hp96) (oSk (sF rfl rfl rfl rfl hp96) (oSk (sF rfl rfl rfl rfl hp96) (oSk (sF rfl rfl rfl rfl hp96) (oSk (sF rfl rfl rfl rfl hp96) (oSk (sF rfl rfl rfl rfl hp96) (oY rfl (y_pick_fb (vB hp96) rfl) ?_)))))))
               obtain rfl:=sI h
               exact key _ _ (kp4 (kp4 rfl))
            ·clear h; rcases iOs hb95 with ⟨hp93,h⟩ | ⟨hp93,h⟩
             ·refine oY (sT rfl rfl rfl rfl hp93) (yFA fo_87_0 rfl) (oY (sT rfl rfl rfl rfl hp93) (yL 8 (v:=.slice A32 y28.1.fH.length c33) sc_85 rfl rfl rfl) ?_)
              obtain ⟨hg189,h⟩:=gOs h
              refine oY (sT rfl rfl rfl rfl hp93) (yI sl_85 (by decide) hg189.1 hg189.2 (RdL.row 6 rfl) (eL SlInt_cells2_len (NestP.hn hP36 rfl)) rfl rfl) ?_
              refine oY (sT rfl rfl rfl rfl hp93) (yR (A:=A32) (j:=(Int.toNat 2 * 1)) (v:=.slice ((rdL ys37 2).1.1) ((rdL y28.1.fH 2).length) ((rdL ys37 2).1.2.2)) sc_42 (RdL.row 6 rfl) rfl (encL_get0 SlInt_cells2_len hg189.1 (lt_nat hg189.2 (NestP.hn hP36 rfl)) (congrArg (fun n : Nat => some (Value.slice (rdL ys37 2).1.1 n (rdL ys37 2).1.2.2)) (NestP.len hP36 hg189.1 (lt_nat hg189.2 rfl))))) ?_
              obtain ⟨hg190,h⟩:=gOs h
              refine oY (sT rfl rfl rfl rfl hp93) (yI sl_42 (by decide) hg190.1 hg190.2 (NestL.rd (PvL.nestL hP36 hV39 (fun W2 hW2 => ⟨hW2.below,trivial,hW2.mem (i:=7) rfl⟩)) hg189.1 (lt_nat hg189.2 rfl)) (eL cI_len rfl) rfl rfl) ?_
              refine oY (sT rfl rfl rfl rfl hp93) (yR (A:=((rdL ys37 2).1.1)) (j:=(Int.toNat 2 * 1)) (v:=vI (rdL (rdL y28.1.fH 2) 2)) sc_3 (NestL.rd (PvL.nestL hP36 hV39 (fun W2 hW2 => ⟨hW2.below,trivial,hW2.mem (i:=7) rfl⟩)) hg189.1 (lt_nat hg189.2 rfl)) rfl (encL_get0 cI_len hg190.1 (lt_nat hg190.2 rfl) rfl)) (oY (sT rfl rfl rfl rfl hp93) (y_eql rfl rfl) (oY rfl (y_pick_tb (vB hp93) rfl) ?_))
              obtain rfl:=sI h
              exact key _ _ (kp4 (kp4 (kp rfl)))
             ·refine oSk (sF rfl rfl rfl rfl hp93) (oSk (sF rfl rfl rfl rfl hp93) (oSk (sF rfl rfl rfl rfl hp93) (oSk (sF rfl rfl rfl rfl hp93) (oSk (sF rfl rfl rfl rfl hp93) (oSk (sF rfl rfl rfl rfl hp93) (oSk (sF rfl rfl rfl rfl hp93) (oY rfl (y_pick_fb (vB hp93) rfl) ?_)))))))
              obtain rfl:=sI h
              exact key _ _ (kp4 (kp4 (kp rfl)))
          ·rcases bool_cases b87 with hp89 | hp89
           ·refine oSk (sF rfl rfl rfl rfl hp89) (oSk (sF rfl rfl rfl rfl hp89) (oSk (sF rfl rfl rfl rfl hp89) (oY rfl (y_pick_tb (vB hp89) rfl) ?_)))
            exact key _ _ (keep (keep (keep (keep (keep (keep (keep (keep (keep rfl rfl) rfl) rfl) rfl) rfl) rfl) rfl) rfl) (vB (or_t hp89)))
           ·refine oY (sT rfl rfl rfl rfl hp89) (yMS rfl) (oY (sT rfl rfl rfl rfl hp89) (y_len (us:=[]) us_106 rfl) (oY (sT rfl rfl rfl rfl hp89) (y_neq rfl rfl) (oY rfl (y_pick_fb (vB hp89) rfl) ?_)))
            exact key _ _ (keep (keep (keep (keep (keep (keep (keep (keep (keep rfl rfl) rfl) rfl) rfl) rfl) rfl) rfl) rfl) (vB (or_f hp89)))
         ·clear h; rcases iOs hb88 with ⟨hp86,h⟩ | ⟨hp86,h⟩
          ·refine oSk (sF rfl rfl rfl rfl hp86) (oSk (sF rfl rfl rfl rfl hp86) (oSk (sF rfl rfl rfl rfl hp86) (oSk (sF rfl rfl rfl rfl hp86) (oSk (sF rfl rfl rfl rfl hp86) (oSk (sF rfl rfl rfl rfl hp86) (oY rfl (y_pick_tb (vB hp86) rfl) ?_))))))
           obtain rfl:=sI h
           exact key _ _ (kp4 (kp4 (kp rfl)))
          ·refine oY (sT rfl rfl rfl rfl hp86) (yFA fo_87_0 rfl) (oY (sT rfl rfl rfl rfl hp86) (yL 8 (v:=.slice A32 y28.1.fH.length c33) sc_85 rfl rfl rfl) ?_)
           obtain ⟨hg191,h⟩:=gOs h
           refine oY (sT rfl rfl rfl rfl hp86) (yI sl_85 (by decide) hg191.1 hg191.2 (RdL.row 6 rfl) (eL SlInt_cells2_len (NestP.hn hP36 rfl)) rfl rfl) ?_
           refine oY (sT rfl rfl rfl rfl hp86) (yR (A:=A32) (j:=(Int.toNat 2 * 1)) (v:=.slice ((rdL ys37 2).1.1) ((rdL y28.1.fH 2).length) ((rdL ys37 2).1.2.2)) sc_42 (RdL.row 6 rfl) rfl (encL_get0 SlInt_cells2_len hg191.1 (lt_nat hg191.2 (NestP.hn hP36 rfl)) (congrArg (fun n : Nat => some (Value.slice (rdL ys37 2).1.1 n (rdL ys37 2).1.2.2)) (NestP.len hP36 hg191.1 (lt_nat hg191.2 rfl))))) (oY (sT rfl rfl rfl rfl hp86) (y_len (us:=[]) us_42 rfl) (oY (sT rfl rfl rfl rfl hp86) (y_neq rfl rfl) (oY rfl (y_pick_fb (vB hp86) rfl) ?_)))
           obtain rfl:=sI h
           exact key _ _ (kp4 (kp4 (kp rfl)))
        ·rcases bool_cases ((((((((y26.2 != 0) || (y28.2 != 0)) || (y41.2 != 0)) || (y53.2 != 0)) || (y64.2 != 0)) || (y66.2 != 0)) || (y72.2 != 0)) || (y26.1 != 21)) with hp85 | hp85
         ·refine oSk (sF rfl rfl rfl rfl hp85) (oSk (sF rfl rfl rfl rfl hp85) (oSk (sF rfl rfl rfl rfl hp85) (oSk (sF rfl rfl rfl rfl hp85) (oY rfl (y_pick_tb (vB hp85) rfl) ?_))))
          exact key _ _ (keep (keep (keep (keep (keep (keep (keep (keep (keep rfl rfl) rfl) rfl) rfl) rfl) rfl) rfl) rfl) (vB (or_t hp85)))
         ·refine oY (sT rfl rfl rfl rfl hp85) (yFA fo_87_0 rfl) (oY (sT rfl rfl rfl rfl hp85) (yL 8 (v:=.slice A32 y28.1.fH.length c33) sc_85 rfl rfl rfl) (oY (sT rfl rfl rfl rfl hp85) (y_len (us:=[]) us_85 rfl) (oY (sT rfl rfl rfl rfl hp85) (y_neq rfl rfl) (oY rfl (y_pick_fb (vB hp85) rfl) ?_))))
          exact key _ _ (keep (keep (keep (keep (keep (keep (keep (keep (keep rfl rfl) rfl) rfl) rfl) rfl) rfl) rfl) rfl) (vB (or_f hp85)))
       ·rcases bool_cases (((((((y26.2 != 0) || (y28.2 != 0)) || (y41.2 != 0)) || (y53.2 != 0)) || (y64.2 != 0)) || (y66.2 != 0)) || (y72.2 != 0)) with hp84 | hp84
        ·refine oSk (sF rfl rfl rfl rfl hp84) (oSk (sF rfl rfl rfl rfl hp84) (oY rfl (y_pick_tb (vB hp84) rfl) ?_))
         exact key _ _ (keep (keep (keep (keep (keep (keep (keep (keep (keep rfl rfl) rfl) rfl) rfl) rfl) rfl) rfl) rfl) (vB (or_t hp84)))
        ·refine oY (sT rfl rfl rfl rfl hp84) (yMI rfl) (oY (sT rfl rfl rfl rfl hp84) (y_neq rfl rfl) (oY rfl (y_pick_fb (vB hp84) rfl) ?_))
         exact key _ _ (keep (keep (keep (keep (keep (keep (keep (keep (keep rfl rfl) rfl) rfl) rfl) rfl) rfl) rfl) rfl) (vB (or_f hp84)))
      ·rcases bool_cases ((((((y26.2 != 0) || (y28.2 != 0)) || (y41.2 != 0)) || (y53.2 != 0)) || (y64.2 != 0)) || (y66.2 != 0)) with hp83 | hp83
       ·refine oSk (sF rfl rfl rfl rfl hp83) (oSk (sF rfl rfl rfl rfl hp83) (oY rfl (y_pick_tb (vB hp83) rfl) ?_))
        exact key _ _ (keep (keep (keep (keep (keep (keep (keep (keep (keep (keep rfl rfl) rfl) rfl) rfl) rfl) rfl) rfl) rfl) rfl) (vB (or_t hp83)))
       ·refine oY (sT rfl rfl rfl rfl hp83) (yMI rfl) (oY (sT rfl rfl rfl rfl hp83) (y_neq rfl rfl) (oY rfl (y_pick_fb (vB hp83) rfl) ?_))
        exact key _ _ (keep (keep (keep (keep (keep (keep (keep (keep (keep (keep rfl rfl) rfl) rfl) rfl) rfl) rfl) rfl) rfl) rfl) (vB (or_f hp83)))
     ·rcases bool_cases (((((y26.2 != 0) || (y28.2 != 0)) || (y41.2 != 0)) || (y53.2 != 0)) || (y64.2 != 0)) with hp82 | hp82
      ·refine oSk (sF rfl rfl rfl rfl hp82) (oSk (sF rfl rfl rfl rfl hp82) (oY rfl (y_pick_tb (vB hp82) rfl) ?_))
       exact key _ _ (keep (keep (keep (keep (keep (keep (keep (keep (keep (keep (keep rfl rfl) rfl) rfl) rfl) rfl) rfl) rfl) rfl) rfl) rfl) (vB (or_t hp82)))
      ·refine oY (sT rfl rfl rfl rfl hp82) (yMI rfl) (oY (sT rfl rfl rfl rfl hp82) (y_neq rfl rfl) (oY rfl (y_pick_fb (vB hp82) rfl) ?_))
       exact key _ _ (keep (keep (keep (keep (keep (keep (keep (keep (keep (keep (keep rfl rfl) rfl) rfl) rfl) rfl) rfl) rfl) rfl) rfl) rfl) (vB (or_f hp82)))
    ·rcases bool_cases ((((y26.2 != 0) || (y28.2 != 0)) || (y41.2 != 0)) || (y53.2 != 0)) with hp81 | hp81
     ·refine oSk (sF rfl rfl rfl rfl hp81) (oSk (sF rfl rfl rfl rfl hp81) (oY rfl (y_pick_tb (vB hp81) rfl) ?_))
      exact key _ _ (keep (keep (keep (keep (keep (keep (keep (keep (keep (keep (keep (keep rfl rfl) rfl) rfl) rfl) rfl) rfl) rfl) rfl) rfl) rfl) rfl) (vB (or_t hp81)))
     ·refine oY (sT rfl rfl rfl rfl hp81) (yMI rfl) (oY (sT rfl rfl rfl rfl hp81) (y_neq rfl rfl) (oY rfl (y_pick_fb (vB hp81) rfl) ?_))
      exact key _ _ (keep (keep (keep (keep (keep (keep (keep (keep (keep (keep (keep (keep rfl rfl) rfl) rfl) rfl) rfl) rfl) rfl) rfl) rfl) rfl) rfl) (vB (or_f hp81)))
   ·rcases bool_cases (((y26.2 != 0) || (y28.2 != 0)) || (y41.2 != 0)) with hp80 | hp80
    ·refine oSk (sF rfl rfl rfl rfl hp80) (oSk (sF rfl rfl rfl rfl hp80) (oY rfl (y_pick_tb (vB hp80) rfl) ?_))
     exact key _ _ (keep (keep (keep (keep (keep (keep (keep (keep (keep (keep (keep (keep (keep rfl rfl) rfl) rfl) rfl) rfl) rfl) rfl) rfl) rfl) rfl) rfl) rfl) (vB (or_t hp80)))
    ·refine oY (sT rfl rfl rfl rfl hp80) (yMI rfl) (oY (sT rfl rfl rfl rfl hp80) (y_neq rfl rfl) (oY rfl (y_pick_fb (vB hp80) rfl) ?_))
     exact key _ _ (keep (keep (keep (keep (keep (keep (keep (keep (keep (keep (keep (keep (keep rfl rfl) rfl) rfl) rfl) rfl) rfl) rfl) rfl) rfl) rfl) rfl) rfl) (vB (or_f hp80)))
  ·rcases bool_cases ((y26.2 != 0) || (y28.2 != 0)) with hp79 | hp79
   ·refine oSk (sF rfl rfl rfl rfl hp79) (oSk (sF rfl rfl rfl rfl hp79) (oY rfl (y_pick_tb (vB hp79) rfl) ?_))
    exact key _ _ (keep (keep (keep (keep (keep (keep (keep (keep (keep (keep (keep (keep (keep (keep rfl rfl) rfl) rfl) rfl) rfl) rfl) rfl) rfl) rfl) rfl) rfl) rfl) rfl) (vB (or_t hp79)))
   ·refine oY (sT rfl rfl rfl rfl hp79) (yMI rfl) (oY (sT rfl rfl rfl rfl hp79) (y_neq rfl rfl) (oY rfl (y_pick_fb (vB hp79) rfl) ?_))
    exact key _ _ (keep (keep (keep (keep (keep (keep (keep (keep (keep (keep (keep (keep (keep (keep rfl rfl) rfl) rfl) rfl) rfl) rfl) rfl) rfl) rfl) rfl) rfl) rfl) rfl) (vB (or_f hp79)))
 ·rcases bool_cases (y26.2 != 0) with hp78 | hp78
  ·refine oSk (sF rfl rfl rfl rfl hp78) (oSk (sF rfl rfl rfl rfl hp78) (oY rfl (y_pick_tb (vB hp78) rfl) ?_))
   exact key _ _ (keep (keep (keep (keep (keep (keep (keep (keep (keep (keep (keep (keep (keep (keep (keep rfl rfl) rfl) rfl) rfl) rfl) rfl) rfl) rfl) rfl) rfl) rfl) rfl) rfl) rfl) (vB (or_t hp78)))
  ·refine oY (sT rfl rfl rfl rfl hp78) (yMI rfl) (oY (sT rfl rfl rfl rfl hp78) (y_neq rfl rfl) (oY rfl (y_pick_fb (vB hp78) rfl) ?_))
   exact key _ _ (keep (keep (keep (keep (keep (keep (keep (keep (keep (keep (keep (keep (keep (keep (keep rfl rfl) rfl) rfl) rfl) rfl) rfl) rfl) rfl) rfl) rfl) rfl) rfl) rfl) rfl) (vB (or_f hp78)))
end Go.Proofs.YthndghnkebboaaaGreat
set_option maxHeartbeats 4000000
set_option maxRecDepth 100000
namespace Go.Proofs.YthndghnkebboaaaGreat
open Go.RowKit (Below)
attribute [local irreducible] OX QX CX EX OpY Calls CallsIn
theorem calxlaw05_yard_ok (p0:TY) (res:Bool) (h:calxlaw05_yard p0 = some res) (W:World) (Aa:Option Addr) (n0_0 ca : Nat) (hn0_0:n0_0 = p0.fB.length) (hr0_0:Rd W Aa n0_0 ca (encL TBay_cells p0.fB)) (Ab:Option Addr) (n0_1 cb : Nat) (hn0_1:n0_1 = p0.fR.length) (hr0_1:Rd W Ab n0_1 cb (encL TOrder_cells p0.fR)) :
  Calls Tryz.prog 26 [.agg #[.slice Aa n0_0 ca,.slice Ab n0_1 cb]].toArray W fun e W2 => e = .returned (.bool res) ∧ Ext W W2 []:=by
 subst hn0_0
 subst hn0_1
 unfold calxlaw05_yard at h
 refine calls_enter (m:=41) Tryz.func26 rfl rfl (nB rfl) (cS (cR ?_))
 refine ox_box [.slice Aa p0.fB.length ca,.slice Ab p0.fR.length cb] rfl rfl rfl (fun b1 => ?_)
 refine oY rfl (yAB rfl) (oN (eT (cS (cR (oY rfl (yFA fo_53_0 rfl) (oY rfl (yL 0 (v:=.slice Aa p0.fB.length ca) sc_50 rfl rfl rfl) (oY rfl (y_len (us:=[]) us_50 rfl) (oY rfl (y_leq rfl rfl) (oY rfl (yMB rfl) ?_)))))))))
 refine oJ 11 (fun tm0 => (upd (upd (upd tm0 1 (.pointer (some ⟨b1,0,none⟩))) 2 (.bool false)) 20 (.bool ((decide ((p0.fB.length:Int) ≤ 9)) || ((decide (24 < (p0.fB.length:Int))) && (decide ((p0.fB.length:Int) ≤ 40))))))) (fun tm0 => ?_) (fun key => ?_)
 ·refine oY rfl (yAB rfl) (oN (eT (cS (cR (oY rfl (yFA fo_53_1 rfl) (oY rfl (yL 0 (v:=.slice Ab p0.fR.length cb) sc_51 rfl rfl rfl) (oY rfl (y_len (us:=[]) us_51 rfl) (oY rfl (y_leq rfl rfl) (oY rfl (yMB rfl) ?_)))))))))
  refine oJ 11 (fun tm0 => (upd (upd (upd tm0 2 (.bool false)) 3 (.bool ((decide ((p0.fB.length:Int) ≤ 9)) || ((decide (24 < (p0.fB.length:Int))) && (decide ((p0.fB.length:Int) ≤ 40)))))) 36 (.bool ((decide ((p0.fR.length:Int) ≤ 9)) || ((decide (24 < (p0.fR.length:Int))) && (decide ((p0.fR.length:Int) ≤ 40))))))) (fun tm0 => ?_) (fun key => ?_)
  ·refine oY rfl (yAB rfl) (oN (eT (cS (cR (oY rfl (yMB rfl) (oY rfl (yMB rfl) ?_))))))
   refine oJ 2 (fun tm0 => (upd (upd tm0 2 (.bool false)) 40 (.bool (((decide ((p0.fB.length:Int) ≤ 9)) || ((decide (24 < (p0.fB.length:Int))) && (decide ((p0.fB.length:Int) ≤ 40)))) && ((decide ((p0.fR.length:Int) ≤ 9)) || ((decide (24 < (p0.fR.length:Int))) && (decide ((p0.fR.length:Int) ≤ 40)))))))) (fun tm0 => ?_) (fun key => ?_)
   ·refine oY rfl (yAB rfl) (oN (eT (cx_ret ?_)))
    obtain rfl:=sI h
    exact ex_res1 (.inl rfl) rfl (rVt (v:=.bool (((decide ((p0.fB.length:Int) ≤ 9)) || ((decide (24 < (p0.fB.length:Int))) && (decide ((p0.fB.length:Int) ≤ 40)))) && ((decide ((p0.fR.length:Int) ≤ 9)) || ((decide (24 < (p0.fR.length:Int))) && (decide ((p0.fR.length:Int) ≤ 40)))))) rfl) (fun W2 hW2 => ⟨rfl,hW2.none⟩)
   ·rcases bool_cases ((decide ((p0.fB.length:Int) ≤ 9)) || ((decide (24 < (p0.fB.length:Int))) && (decide ((p0.fB.length:Int) ≤ 40)))) with hp4 | hp4
    ·refine oY (sT rfl rfl rfl rfl hp4) (yMB rfl) (oY rfl (y_pick_tb (vB hp4) rfl) ?_)
     exact key _ _ (keep (keep rfl rfl) (vB (and_t hp4)))
    ·refine oSk (sF rfl rfl rfl rfl hp4) (oY rfl (y_pick_fb (vB hp4) rfl) ?_)
     exact key _ _ (keep (keep rfl rfl) (vB (and_f hp4)))
  ·rcases bool_cases (decide ((p0.fR.length:Int) ≤ 9)) with hp3 | hp3
   ·refine oSk (sF rfl rfl rfl rfl hp3) (oSk (sF rfl rfl rfl rfl hp3) (oSk (sF rfl rfl rfl rfl hp3) (oSk (sF rfl rfl rfl rfl hp3) (oSk (sF rfl rfl rfl rfl hp3) (oSk rfl (oSk rfl (oSk rfl (oSk rfl (oSk (sF rfl rfl rfl rfl hp3) (oY rfl (y_pick_tb (vB hp3) rfl) ?_))))))))))
    exact key _ _ (keep (keep (keep rfl rfl) rfl) (vB (or_t hp3)))
   ·refine oY (sT rfl rfl rfl rfl hp3) (yFA fo_53_1 rfl) (oY (sT rfl rfl rfl rfl hp3) (yL 0 (v:=.slice Ab p0.fR.length cb) sc_51 rfl rfl rfl) (oY (sT rfl rfl rfl rfl hp3) (y_len (us:=[]) us_51 rfl) (oY (sT rfl rfl rfl rfl hp3) (y_gtr rfl rfl) (oY (sT rfl rfl rfl rfl hp3) (yMB rfl) ?_))))
    refine oJ 5 (fun tm0 => (upd (upd (upd (upd tm0 2 (.bool false)) 3 (.bool ((decide ((p0.fB.length:Int) ≤ 9)) || ((decide (24 < (p0.fB.length:Int))) && (decide ((p0.fB.length:Int) ≤ 40)))))) 25 (.bool (decide ((p0.fR.length:Int) ≤ 9)))) 35 (.bool ((decide (24 < (p0.fR.length:Int))) && (decide ((p0.fR.length:Int) ≤ 40)))))) (fun tm0 => ?_) (fun key => ?_)
    ·refine oY rfl (y_pick_fb (vB hp3) rfl) ?_
     exact key _ _ (keep (keep (keep rfl rfl) rfl) (vB (or_f hp3)))
    ·rcases bool_cases (decide (24 < (p0.fR.length:Int))) with hp5 | hp5
     ·refine oY (sT rfl rfl rfl rfl hp5) (yFA fo_53_1 rfl) (oY (sT rfl rfl rfl rfl hp5) (yL 0 (v:=.slice Ab p0.fR.length cb) sc_51 rfl rfl rfl) (oY (sT rfl rfl rfl rfl hp5) (y_len (us:=[]) us_51 rfl) (oY (sT rfl rfl rfl rfl hp5) (y_leq rfl rfl) (oY (sT rfl rfl rfl rfl hp3) (y_pick_tb (vB hp5) rfl) ?_))))
      exact key _ _ (keep (keep (keep (keep rfl rfl) rfl) rfl) (vB (and_t hp5)))
     ·refine oSk (sF rfl rfl rfl rfl hp5) (oSk (sF rfl rfl rfl rfl hp5) (oSk (sF rfl rfl rfl rfl hp5) (oSk (sF rfl rfl rfl rfl hp5) (oY (sT rfl rfl rfl rfl hp3) (y_pick_fb (vB hp5) rfl) ?_))))
      exact key _ _ (keep (keep (keep (keep rfl rfl) rfl) rfl) (vB (and_f hp5)))
 ·rcases bool_cases (decide ((p0.fB.length:Int) ≤ 9)) with hp2 | hp2
  ·refine oSk (sF rfl rfl rfl rfl hp2) (oSk (sF rfl rfl rfl rfl hp2) (oSk (sF rfl rfl rfl rfl hp2) (oSk (sF rfl rfl rfl rfl hp2) (oSk (sF rfl rfl rfl rfl hp2) (oSk rfl (oSk rfl (oSk rfl (oSk rfl (oSk (sF rfl rfl rfl rfl hp2) (oY rfl (y_pick_tb (vB hp2) rfl) ?_))))))))))
   exact key _ _ (keep (keep (keep rfl rfl) rfl) (vB (or_t hp2)))
  ·refine oY (sT rfl rfl rfl rfl hp2) (yFA fo_53_0 rfl) (oY (sT rfl rfl rfl rfl hp2) (yL 0 (v:=.slice Aa p0.fB.length ca) sc_50 rfl rfl rfl) (oY (sT rfl rfl rfl rfl hp2) (y_len (us:=[]) us_50 rfl) (oY (sT rfl rfl rfl rfl hp2) (y_gtr rfl rfl) (oY (sT rfl rfl rfl rfl hp2) (yMB rfl) ?_))))
   refine oJ 5 (fun tm0 => (upd (upd (upd (upd tm0 1 (.pointer (some ⟨b1,0,none⟩))) 2 (.bool false)) 9 (.bool (decide ((p0.fB.length:Int) ≤ 9)))) 19 (.bool ((decide (24 < (p0.fB.length:Int))) && (decide ((p0.fB.length:Int) ≤ 40)))))) (fun tm0 => ?_) (fun key => ?_)
   ·refine oY rfl (y_pick_fb (vB hp2) rfl) ?_
    exact key _ _ (keep (keep (keep rfl rfl) rfl) (vB (or_f hp2)))
   ·rcases bool_cases (decide (24 < (p0.fB.length:Int))) with hp6 | hp6
    ·refine oY (sT rfl rfl rfl rfl hp6) (yFA fo_53_0 rfl) (oY (sT rfl rfl rfl rfl hp6) (yL 0 (v:=.slice Aa p0.fB.length ca) sc_50 rfl rfl rfl) (oY (sT rfl rfl rfl rfl hp6) (y_len (us:=[]) us_50 rfl) (oY (sT rfl rfl rfl rfl hp6) (y_leq rfl rfl) (oY (sT rfl rfl rfl rfl hp2) (y_pick_tb (vB hp6) rfl) ?_))))
     exact key _ _ (keep (keep (keep (keep rfl rfl) rfl) rfl) (vB (and_t hp6)))
    ·refine oSk (sF rfl rfl rfl rfl hp6) (oSk (sF rfl rfl rfl rfl hp6) (oSk (sF rfl rfl rfl rfl hp6) (oSk (sF rfl rfl rfl rfl hp6) (oY (sT rfl rfl rfl rfl hp2) (y_pick_fb (vB hp6) rfl) ?_))))
     exact key _ _ (keep (keep (keep (keep rfl rfl) rfl) rfl) (vB (and_f hp6)))
end Go.Proofs.YthndghnkebboaaaGreat
set_option maxHeartbeats 4000000
set_option maxRecDepth 100000
namespace Go.Proofs.YthndghnkebboaaaGreat
open Go.RowKit (Below)
attribute [local irreducible] OX QX CX EX OpY Calls CallsIn
theorem cart_Worth_ok (p0:TY) (res:(Int × Int)) (h:cart_Worth p0 = some res) (W:World) (Aa:Option Addr) (n0_0 ca : Nat) (hn0_0:n0_0 = p0.fB.length) (hr0_0:Rd W Aa n0_0 ca (encL TBay_cells p0.fB)) (Ab:Option Addr) (n0_1 cb : Nat) (hn0_1:n0_1 = p0.fR.length) (hr0_1:Rd W Ab n0_1 cb (encL TOrder_cells p0.fR)) :
  Calls Tryz.prog 35 [.agg #[.slice Aa n0_0 ca,.slice Ab n0_1 cb]].toArray W fun e W2 => e = .returned (.tuple #[vI res.1,vI res.2]) ∧ Ext W W2 []:=by
 subst hn0_0
 subst hn0_1
 unfold cart_Worth at h
 refine calls_enter (m:=12) Tryz.func35 rfl rfl (nB rfl) (cS (cR ?_))
 refine ox_box [.slice Aa p0.fB.length ca,.slice Ab p0.fR.length cb] rfl rfl rfl (fun b1 => ?_)
 refine oY rfl (yAI rfl) (oY rfl (yAI rfl) (oN (eT (cS (cS (cR (oY rfl (yN 0 [.slice Aa p0.fB.length ca,.slice Ab p0.fR.length cb] ag_53 rfl rfl rfl) ?_)))))))
 obtain ⟨y2,hy3,h⟩:=bOs h
 refine oY rfl (yC [.agg #[.slice Aa p0.fB.length ca,.slice Ab p0.fR.length cb]] go_45 rfl (fun W2 hW2 => cart_CheckYard_ok p0 y2 hy3 W2 Aa p0.fB.length ca rfl ((RdL.arg hr0_0) W2 hW2) Ab p0.fR.length cb rfl ((RdL.arg hr0_1) W2 hW2)) rfl) (oY rfl (yAI rfl) (oN (eT (cS (cR (oY rfl (yMI rfl) (oY rfl (y_neq rfl rfl) (oN (eT ?_)))))))))
 rcases iOs h with ⟨hp4,h⟩ | ⟨hp4,h⟩
 ·refine cT (vB hp4) (cS (cR (oY rfl (yMI rfl) (oY rfl (yAI rfl) (oY rfl (yAI rfl) (oN (eT (cx_ret (ex_then_ret ?_)))))))))
  obtain rfl:=sI h
  exact ex_res2 (.inl rfl) rfl (rVt (v:=vI 0) rfl) (rVt (v:=vI y2) rfl) (fun W2 hW2 => ⟨rfl,hW2.none⟩)
 ·refine cF (vB hp4) (cK (eT (cS (cR (oY rfl (yN 0 [.slice Aa p0.fB.length ca,.slice Ab p0.fR.length cb] ag_53 rfl rfl rfl) ?_)))))
  obtain ⟨y5,hy6,h⟩:=bOs h
  refine oY rfl (yC [.agg #[.slice Aa p0.fB.length ca,.slice Ab p0.fR.length cb]] go_83 rfl (fun W2 hW2 => cart_worth_ok p0 y5 hy6 W2 Aa p0.fB.length ca rfl ((RdL.arg hr0_0) W2 hW2) Ab p0.fR.length cb rfl ((RdL.arg hr0_1) W2 hW2)) rfl) (oY rfl (yAI rfl) (oY rfl (yAI rfl) (oN (eT (cx_ret ?_)))))
  obtain rfl:=sI h
  exact ex_res2 (.inl rfl) rfl (rVt (v:=vI y5) rfl) (rVt (v:=vI 0) rfl) (fun W2 hW2 => ⟨rfl,hW2.none⟩)
end Go.Proofs.YthndghnkebboaaaGreat
set_option maxHeartbeats 4000000
set_option maxRecDepth 100000
namespace Go.Proofs.YthndghnkebboaaaGreat
open Go.RowKit (Below)
attribute [local irreducible] OX QX CX EX OpY Calls CallsIn
theorem calxlaw05_has_ok (p0:(List Int)) (p1:Int) (res:Bool) (h:calxlaw05_has p0 p1 = some res) (W:World) (Aa:Option Addr) (n0_0 ca : Nat) (hn0_0:n0_0 = p0.length) (hr0_0:Rd W Aa n0_0 ca (encL cI p0)) :
  Calls Tryz.prog 36 [.slice Aa n0_0 ca,vI p1].toArray W fun e W2 => e = .returned (.bool res) ∧ Ext W W2 []:=by
 subst hn0_0
 unfold calxlaw05_has at h
 refine calls_enter (m:=18) Tryz.func36 rfl rfl (nB rfl) (cS (cR (oY rfl (yAB rfl) (oN (eT (cS (cS (cR (oY rfl (yAI rfl) (oN (eT (cB ?_))))))))))))
 obtain ⟨u3,hl7,h⟩:=bOs h
 refine cx_loop (fun (s:(Bool × Int)) L tm => ∃ (tm0:Nat → Value),L = [] ∧ tm = (upd (upd (upd (upd tm0 0 (.slice Aa p0.length ca)) 1 (vI p1)) 4 (.bool s.1)) 5 (vI s.2))) (fun | (.inl s),e,L,tm => e = .ret ∧ ∃ (tm0:Nat → Value),L = [] ∧ tm = (upd (upd (upd (upd tm0 0 (.slice Aa p0.length ca)) 1 (vI p1)) 4 (.bool s.1)) 5 (vI s.2)) | (.inr s),e,L,tm => e = .exit 0 ∧ ∃ (tm0:Nat → Value),L = [] ∧ tm = (upd (upd (upd (upd tm0 0 (.slice Aa p0.length ca)) 1 (vI p1)) 4 (.bool s.1)) 5 (vI s.2))) hl7 ⟨_,rfl,(kp4 rfl)⟩ ?_ ?_
 ·rintro s2 L tm st ⟨tm0_s2,rfl,rfl⟩ h
  unfold calxlaw05_has_l1 at h
  refine cS (cS (cR (oY rfl (yMI rfl) (oY rfl (yMS rfl) (oY rfl (y_len (us:=[]) us_42 rfl) (oY rfl (y_lss rfl rfl) (oN (eT ?_))))))))
  rcases iOs h with ⟨hp4,h⟩ | ⟨hp4,h⟩
  ·refine cT (vB hp4) (cK (eT (cS (cB (cS (cR (oY rfl (yMS rfl) (oY rfl (yMI rfl) ?_))))))))
   obtain ⟨hg5,h⟩:=gOs h
   refine oY rfl (yI sl_42 (by decide) hg5.1 hg5.2 (RdL.arg hr0_0) (eL cI_len rfl) rfl rfl) ?_
   refine oY rfl (yR (A:=Aa) (j:=(Int.toNat s2.2 * 1)) (v:=vI (rdL p0 s2.2)) sc_3 (RdL.arg hr0_0) rfl (encL_get0 cI_len hg5.1 (lt_nat hg5.2 rfl) rfl)) (oY rfl (yMI rfl) (oY rfl (y_eql rfl rfl) (oN (eT ?_))))
   rcases iOs h with ⟨hp6,h⟩ | ⟨hp6,h⟩
   ·refine cT (vB hp6) (cS (cR (oY rfl (yAB rfl) (oN (eT (cx_ret (ex_block_ret (ex_then_ret ?_))))))))
    obtain rfl:=sI h
    exact ex_stop ⟨rfl,_,rfl,(kp4 rfl)⟩
   ·refine cF (vB hp6) (cK (ex_block (eT (cR (oY rfl (yMI rfl) (oY rfl (y_add rfl rfl) (oY rfl (yAI rfl) (oN ?_))))))))
    obtain rfl:=sI h
    exact eN ⟨_,rfl,(kp4 rfl)⟩
  ·refine cF (vB hp4) (cx_exit (ex_then_exit ?_))
   obtain rfl:=sI h
   exact ex_stop ⟨rfl,_,rfl,(kp4 rfl)⟩
 ·intro e L tm hJ
  rcases u3 with u8 | u9
  ·dsimp only at h hJ
   obtain ⟨rfl,tm0_u8,rfl,rfl⟩:=hJ
   refine ⟨(by intro hc; cases hc),?_⟩
   refine ex_block_ret (ex_then_ret ?_)
   obtain rfl:=sI h
   exact ex_res1 (.inl rfl) rfl (rVt (v:=.bool u8.1) rfl) (fun W2 hW2 => ⟨rfl,hW2.none⟩)
  ·dsimp only at h hJ
   obtain ⟨rfl,tm0_u9,rfl,rfl⟩:=hJ
   refine ⟨(by intro hc; cases hc),?_⟩
   refine ex_block_here (eT (cS (cR (oY rfl (yAB rfl) (oN (eT (cx_ret ?_)))))))
   obtain rfl:=sI h
   exact ex_res1 (.inl rfl) rfl (rVt (v:=.bool false) rfl) (fun W2 hW2 => ⟨rfl,hW2.none⟩)
end Go.Proofs.YthndghnkebboaaaGreat
set_option maxHeartbeats 4000000
set_option maxRecDepth 100000
namespace Go.Proofs.YthndghnkebboaaaGreat
open Go.RowKit (Below)
attribute [local irreducible] OX QX CX EX OpY Calls CallsIn
theorem cart_Suits_ok (p0:TY) (p1:Int) (p2:Int) (res:(Bool × Int)) (h:cart_Suits p0 p1 p2 = some res) (W:World) (Aa:Option Addr) (n0_0 ca : Nat) (hn0_0:n0_0 = p0.fB.length) (hr0_0:Rd W Aa n0_0 ca (encL TBay_cells p0.fB)) (Ab:Option Addr) (n0_1 cb : Nat) (hn0_1:n0_1 = p0.fR.length) (hr0_1:Rd W Ab n0_1 cb (encL TOrder_cells p0.fR)) :
  Calls Tryz.prog 38 [.agg #[.slice Aa n0_0 ca,.slice Ab n0_1 cb],vI p1,vI p2].toArray W fun e W2 => e = .returned (.tuple #[.bool res.1,vI res.2]) ∧ Ext W W2 []:=by
 subst hn0_0
 subst hn0_1
 unfold cart_Suits at h
 refine calls_enter (m:=39) Tryz.func38 rfl rfl (nB rfl) (cS (cR ?_))
 refine ox_box [.slice Aa p0.fB.length ca,.slice Ab p0.fR.length cb] rfl rfl rfl (fun b1 => ?_)
 refine oY rfl (yAB rfl) (oY rfl (yAI rfl) (oN (eT (cS (cS (cR (oY rfl (yN 0 [.slice Aa p0.fB.length ca,.slice Ab p0.fR.length cb] ag_53 rfl rfl rfl) ?_)))))))
 obtain ⟨y2,hy3,h⟩:=bOs h
 refine oY rfl (yC [.agg #[.slice Aa p0.fB.length ca,.slice Ab p0.fR.length cb]] go_45 rfl (fun W2 hW2 => cart_CheckYard_ok p0 y2 hy3 W2 Aa p0.fB.length ca rfl ((RdL.arg hr0_0) W2 hW2) Ab p0.fR.length cb rfl ((RdL.arg hr0_1) W2 hW2)) rfl) (oY rfl (yAI rfl) (oN (eT (cS (cR (oY rfl (yMI rfl) (oY rfl (y_neq rfl rfl) (oN (eT ?_)))))))))
 rcases iOs h with ⟨hp4,h⟩ | ⟨hp4,h⟩
 ·refine cT (vB hp4) (cS (cR (oY rfl (yMI rfl) (oY rfl (yAB rfl) (oY rfl (yAI rfl) (oN (eT (cx_ret (ex_then_ret ?_)))))))))
  obtain rfl:=sI h
  exact ex_res2 (.inl rfl) rfl (rVt (v:=.bool false) rfl) (rVt (v:=vI y2) rfl) (fun W2 hW2 => ⟨rfl,hW2.none⟩)
 ·refine cF (vB hp4) (cK (eT (cS ?_)))
  refine cx_draws 8 mixed (by kernel_rfl) (by kernel_rfl) ?_
  refine qY rfl (yN 0 [.slice Aa p0.fB.length ca,.slice Ab p0.fR.length cb] ag_53 rfl rfl rfl) (qY rfl (yMI rfl) ?_)
  obtain ⟨y5,hy6,h⟩:=bOs h
  refine qY rfl (yC [.agg #[.slice Aa p0.fB.length ca,.slice Ab p0.fR.length cb],vI p1] go_90 rfl (fun W2 hW2 => cart_order_ok p0 p1 y5 hy6 W2 Aa p0.fB.length ca rfl ((RdL.arg hr0_0) W2 hW2) Ab p0.fR.length cb rfl ((RdL.arg hr0_1) W2 hW2)) rfl) (qY rfl (yN 0 [.slice Aa p0.fB.length ca,.slice Ab p0.fR.length cb] ag_53 rfl rfl rfl) (qY rfl (yMI rfl) ?_))
  obtain ⟨y7,hy8,h⟩:=bOs h
  refine qY rfl (yC [.agg #[.slice Aa p0.fB.length ca,.slice Ab p0.fR.length cb],vI p2] go_96 rfl (fun W2 hW2 => cart_bay_ok p0 p2 y7 hy8 W2 Aa p0.fB.length ca rfl ((RdL.arg hr0_0) W2 hW2) Ab p0.fR.length cb rfl ((RdL.arg hr0_1) W2 hW2)) rfl) (qY rfl (yAI rfl) (qY rfl (yAI rfl) (qx_nil (oN (eT (cS (cS (cR (oY rfl (yMI rfl) (oY rfl (y_lss rfl rfl) (oY rfl (yMB rfl) ?_)))))))))))
  refine oJ 3 (fun tm0 => (upd (upd (upd (upd (upd (upd tm0 3 (.pointer (some ⟨b1,0,none⟩))) 6 (.bool false)) 7 (vI 0)) 9 (vI y5)) 10 (vI y7)) 27 (.bool ((decide (y5 < 0)) || (decide (y7 < 0)))))) (fun tm0 => ?_) (fun key => ?_)
  ·refine oN (eT ?_)
   rcases iOs h with ⟨hp10,h⟩ | ⟨hp10,h⟩
   ·refine cT (vB hp10) (cS (cR (oY rfl (yAB rfl) (oY rfl (yAI rfl) (oN (eT (cx_ret (ex_then_ret ?_))))))))
    obtain rfl:=sI h
    exact ex_res2 (.inl rfl) rfl (rVt (v:=.bool false) rfl) (rVt (v:=vI 5) rfl) (fun W2 hW2 => ⟨rfl,hW2.none⟩)
   ·refine cF (vB hp10) (cK (eT (cS ?_)))
    refine cx_draws 13 mixed (by kernel_rfl) (by kernel_rfl) ?_
    refine qY rfl (yFA fo_53_1 rfl) (qY rfl (yL 0 (v:=.slice Ab p0.fR.length cb) sc_51 rfl rfl rfl) (qY rfl (yMI rfl) ?_))
    obtain ⟨hg11,h⟩:=gOs h
    refine qY rfl (yI sl_51 (by decide) hg11.1 hg11.2 (RdL.arg hr0_1) (eL TOrder_cells_len rfl) rfl rfl) ?_
    refine qY rfl (yM (A:=Ab) (j:=(Int.toNat y5 * 5)) [vI ((rdL p0.fR y5).fID),vI ((rdL p0.fR y5).fH.fLo),vI ((rdL p0.fR y5).fH.fHi),vI ((rdL p0.fR y5).fD),vI ((rdL p0.fR y5).fW)] ag_65 (Nat.succ_pos _) (RdL.arg hr0_1) rfl (encL_gets TOrder_cells_len hg11.1 (lt_nat hg11.2 rfl))) (qY rfl (yFA fo_53_0 rfl) (qY rfl (yL 0 (v:=.slice Aa p0.fB.length ca) sc_50 rfl rfl rfl) (qY rfl (yMI rfl) ?_)))
    obtain ⟨hg12,h⟩:=gOs h
    refine qY rfl (yI sl_50 (by decide) hg12.1 hg12.2 (RdL.arg hr0_0) (eL TBay_cells_len rfl) rfl rfl) ?_
    refine qY rfl (yM (A:=Aa) (j:=(Int.toNat y7 * 3)) [vI ((rdL p0.fB y7).fID),vI ((rdL p0.fB y7).fHour),vI ((rdL p0.fB y7).fD)] ag_69 (Nat.succ_pos _) (RdL.arg hr0_0) rfl (encL_gets TBay_cells_len hg12.1 (lt_nat hg12.2 rfl))) ?_
    obtain ⟨y13,hy14,h⟩:=bOs h
    refine qY rfl (yC [.agg #[vI ((rdL p0.fR y5).fID),vI ((rdL p0.fR y5).fH.fLo),vI ((rdL p0.fR y5).fH.fHi),vI ((rdL p0.fR y5).fD),vI ((rdL p0.fR y5).fW)],.agg #[vI ((rdL p0.fB y7).fID),vI ((rdL p0.fB y7).fHour),vI ((rdL p0.fB y7).fD)]] go_101 rfl (fun W2 hW2 => cart_suits_ok (TO.mk ((rdL p0.fR y5).fID) (TSpan.mk ((rdL p0.fR y5).fH.fLo) ((rdL p0.fR y5).fH.fHi)) ((rdL p0.fR y5).fD) ((rdL p0.fR y5).fW)) (TBay.mk ((rdL p0.fB y7).fID) ((rdL p0.fB y7).fHour) ((rdL p0.fB y7).fD)) y13 hy14 W2 ) rfl) (qY rfl (yAB rfl) (qY rfl (yAI rfl) (qx_nil (oN (eT (cx_ret ?_))))))
    obtain rfl:=sI h
    exact ex_res2 (.inl rfl) rfl (rVt (v:=.bool y13) rfl) (rVt (v:=vI 0) rfl) (fun W2 hW2 => ⟨rfl,hW2.none⟩)
  ·rcases bool_cases (decide (y5 < 0)) with hp9 | hp9
   ·refine oSk (sF rfl rfl rfl rfl hp9) (oSk (sF rfl rfl rfl rfl hp9) (oY rfl (y_pick_tb (vB hp9) rfl) ?_))
    exact key _ _ (keep (keep (keep (keep (keep (keep rfl rfl) rfl) rfl) rfl) rfl) (vB (or_t hp9)))
   ·refine oY (sT rfl rfl rfl rfl hp9) (yMI rfl) (oY (sT rfl rfl rfl rfl hp9) (y_lss rfl rfl) (oY rfl (y_pick_fb (vB hp9) rfl) ?_))
    exact key _ _ (keep (keep (keep (keep (keep (keep rfl rfl) rfl) rfl) rfl) rfl) (vB (or_f hp9)))
end Go.Proofs.YthndghnkebboaaaGreat
set_option maxHeartbeats 4000000
set_option maxRecDepth 100000
namespace Go.Proofs.YthndghnkebboaaaGreat
open Go.RowKit (Below)
attribute [local irreducible] OX QX CX EX OpY Calls CallsIn
theorem cart_proved_1_ok (p0:Int) (res:Bool) (h:cart_proved_1 p0 = some res) (W:World)  :
  Calls Tryz.prog 146 [vI p0].toArray W fun e W2 => e = .returned (.bool res) ∧ Ext W W2 []:=by
 unfold cart_proved_1 at h
 refine calls_enter (m:=6) Tryz.func146 rfl rfl (nB rfl) (cS (cR (oY rfl (yAB rfl) (oN (eT (cS (cR (oY rfl (yMI rfl) ?_))))))))
 obtain ⟨y1,hy2,h⟩:=bOs h
 refine oY rfl (yC [vI p0,vI 0,vI 1000] go_107 rfl (fun W2 hW2 => cart_within_ok p0 0 1000 y1 hy2 W2 ) rfl) (oY rfl (y_not rfl) (oY rfl (yAB rfl) (oN (eT (cx_ret ?_)))))
 obtain rfl:=sI h
 exact ex_res1 (.inl rfl) rfl (rVt (v:=.bool (!y1)) rfl) (fun W2 hW2 => ⟨rfl,hW2.none⟩)
theorem cart_proved_ok (p0:TY) (p1:TPlan) (res:Bool) (h:cart_proved p0 p1 = some res) (W:World) (Aa:Option Addr) (n0_0 ca : Nat) (hn0_0:n0_0 = p0.fB.length) (hr0_0:Rd W Aa n0_0 ca (encL TBay_cells p0.fB)) (Ab:Option Addr) (n0_1 cb : Nat) (hn0_1:n0_1 = p0.fR.length) (hr0_1:Rd W Ab n0_1 cb (encL TOrder_cells p0.fR)) (Ac:Option Addr) (n1_0 cc : Nat) (hn1_0:n1_0 = p1.fG.length) (hr1_0:Rd W Ac n1_0 cc (encL cI p1.fG)) (A1_2:Option Addr) (n1_2 c1_2 : Nat) (hn1_2:n1_2 = p1.fPrices.length) (hr1_2:Rd W A1_2 n1_2 c1_2 (encL cI p1.fPrices)) :
  Calls Tryz.prog 102 [.agg #[.slice Aa n0_0 ca,.slice Ab n0_1 cb],.agg #[.slice Ac n1_0 cc,vI p1.fW,.slice A1_2 n1_2 c1_2]].toArray W fun e W2 => e = .returned (.bool res) ∧ Ext W W2 []:=by
 subst hn0_0
 subst hn0_1
 subst hn1_0
 subst hn1_2
 unfold cart_proved at h
 refine calls_enter (m:=128) Tryz.func102 rfl rfl (nB rfl) (cS (cR ?_))
 refine ox_box [.slice Aa p0.fB.length ca,.slice Ab p0.fR.length cb] rfl rfl rfl (fun b1 => ?_)
 refine ox_box [.slice Ac p1.fG.length cc,vI p1.fW,.slice A1_2 p1.fPrices.length c1_2] rfl rfl rfl (fun b2 => ?_)
 refine oY rfl (yAB rfl) (oN (eT (cS (cS (cR (oY rfl (yFA fo_71_0 rfl) (oY rfl (yL 1 (v:=.slice Ac p1.fG.length cc) sc_42 rfl rfl rfl) (oY rfl (y_len (us:=[]) us_42 rfl) (oY rfl (yFA fo_53_1 rfl) (oY rfl (yL 0 (v:=.slice Ab p0.fR.length cb) sc_51 rfl rfl rfl) (oY rfl (y_len (us:=[]) us_51 rfl) (oY rfl (y_neq rfl rfl) (oY rfl (yMB rfl) ?_)))))))))))))
 refine oJ 8 (fun tm0 => (upd (upd (upd (upd tm0 2 (.pointer (some ⟨b1,0,none⟩))) 3 (.pointer (some ⟨b2,0,none⟩))) 4 (.bool false)) 32 (.bool (((p1.fG.length:Int) != (p0.fR.length:Int)) || ((p1.fPrices.length:Int) != (p0.fB.length:Int)))))) (fun tm0 => ?_) (fun key => ?_)
 ·refine oY rfl (yMB rfl) ?_
  obtain ⟨b5,hb6,h⟩:=bOs h
  refine oJ 5 (fun tm0 => (upd (upd (upd (upd tm0 2 (.pointer (some ⟨b1,0,none⟩))) 3 (.pointer (some ⟨b2,0,none⟩))) 4 (.bool false)) 38 (.bool b5))) (fun tm0 => ?_) (fun key => ?_)
  ·refine oN (eT ?_)
   rcases iOs h with ⟨hp7,h⟩ | ⟨hp7,h⟩
   ·refine cT (vB hp7) (cS (cR (oY rfl (yAB rfl) (oN (eT (cx_ret (ex_then_ret ?_)))))))
    obtain rfl:=sI h
    exact ex_res1 (.inl rfl) rfl (rVt (v:=.bool false) rfl) (fun W2 hW2 => ⟨rfl,hW2.none⟩)
   ·refine cF (vB hp7) (cK (eT (cS (cR ?_))))
    refine ox_makeMapV 3 kI rngB kB false rfl (fun b8 => ?_)
    refine oY rfl (y_assign_map rfl) (oN (eT (cS (cR (oY rfl (yAI rfl) (oY rfl (yAI rfl) (oN (eT (cS (cS (cR (oY rfl (yFA fo_53_1 rfl) (oY rfl (yL 0 (v:=.slice Ab p0.fR.length cb) sc_51 rfl rfl rfl) (oY rfl (y_len (us:=[]) us_51 rfl) (oY rfl (yMI rfl) (oN (eT (cB ?_))))))))))))))))))
    obtain ⟨u12,hl43,h⟩:=bOs h
    refine cx_loop (fun (s:(Bool × Int × Int × Int × (List (Int × Bool)))) L tm => ∃ (tm0:Nat → Value),L = [cellsR b1 53 [.slice Aa p0.fB.length ca,.slice Ab p0.fR.length cb],cellsR b2 71 [.slice Ac p1.fG.length cc,vI p1.fW,.slice A1_2 p1.fPrices.length c1_2],mapV Tryz.prog 3 kI rngB kB false b8 s.2.2.2.2] ∧ tm = (upd (upd (upd (upd (upd (upd (upd (upd (upd tm0 2 (.pointer (some ⟨b1,0,none⟩))) 3 (.pointer (some ⟨b2,0,none⟩))) 4 (.bool s.1)) 5 (.map (some b8))) 6 (vI s.2.1)) 7 (vI s.2.2.1)) 41 (.slice Ab p0.fR.length cb)) 42 (vI (p0.fR.length:Int))) 43 (vI s.2.2.2.1))) (fun | (.inl s),e,L,tm => e = .ret ∧ ∃ (tm0:Nat → Value),L = [cellsR b1 53 [.slice Aa p0.fB.length ca,.slice Ab p0.fR.length cb],cellsR b2 71 [.slice Ac p1.fG.length cc,vI p1.fW,.slice A1_2 p1.fPrices.length c1_2],mapV Tryz.prog 3 kI rngB kB false b8 s.2.2.2.2] ∧ tm = (upd (upd (upd (upd (upd (upd (upd (upd (upd tm0 2 (.pointer (some ⟨b1,0,none⟩))) 3 (.pointer (some ⟨b2,0,none⟩))) 4 (.bool s.1)) 5 (.map (some b8))) 6 (vI s.2.1)) 7 (vI s.2.2.1)) 41 (.slice Ab p0.fR.length cb)) 42 (vI (p0.fR.length:Int))) 43 (vI s.2.2.2.1)) | (.inr s),e,L,tm => e = .exit 0 ∧ ∃ (tm0:Nat → Value),L = [cellsR b1 53 [.slice Aa p0.fB.length ca,.slice Ab p0.fR.length cb],cellsR b2 71 [.slice Ac p1.fG.length cc,vI p1.fW,.slice A1_2 p1.fPrices.length c1_2],mapV Tryz.prog 3 kI rngB kB false b8 s.2.2.2.2] ∧ tm = (upd (upd (upd (upd (upd (upd (upd (upd (upd tm0 2 (.pointer (some ⟨b1,0,none⟩))) 3 (.pointer (some ⟨b2,0,none⟩))) 4 (.bool s.1)) 5 (.map (some b8))) 6 (vI s.2.1)) 7 (vI s.2.2.1)) 41 (.slice Ab p0.fR.length cb)) 42 (vI (p0.fR.length:Int))) 43 (vI s.2.2.2.1))) hl43 ⟨_,rfl,(kp4 (kp4 (kp rfl)))⟩ ?_ ?_
    ·rintro s11 L tm st ⟨tm0_s11,rfl,rfl⟩ h
     unfold cart_proved_l1 at h
     refine cS (cR (oY rfl (y_lss rfl rfl) (oN (eT (cS ?_)))))
     rcases iOs h with ⟨hp13,h⟩ | ⟨hp13,h⟩
     ·refine cT (vB hp13) (cK (eT (cS (cB (cS (cR (oY rfl (yMI rfl) ?_)))))))
      obtain ⟨hg14,h⟩:=gOs h
      refine oY rfl (yI sl_51 (by decide) hg14.1 hg14.2 (RdL.arg hr0_1) (eL TOrder_cells_len rfl) rfl rfl) ?_
      refine oY rfl (yM (A:=Ab) (j:=(Int.toNat s11.2.2.2.1 * 5)) [vI ((rdL p0.fR s11.2.2.2.1).fID),vI ((rdL p0.fR s11.2.2.2.1).fH.fLo),vI ((rdL p0.fR s11.2.2.2.1).fH.fHi),vI ((rdL p0.fR s11.2.2.2.1).fD),vI ((rdL p0.fR s11.2.2.2.1).fW)] ag_65 (Nat.succ_pos _) (RdL.arg hr0_1) rfl (encL_gets TOrder_cells_len hg14.1 (lt_nat hg14.2 rfl))) ?_
      refine ox_alloc ze_65 rfl (fun b15 => ?_)
      refine oY rfl (yAI rfl) (ox_n rfl (yS 3 [vI ((rdL p0.fR s11.2.2.2.1).fID),vI ((rdL p0.fR s11.2.2.2.1).fH.fLo),vI ((rdL p0.fR s11.2.2.2.1).fH.fHi),vI ((rdL p0.fR s11.2.2.2.1).fD),vI ((rdL p0.fR s11.2.2.2.1).fW)] sz_65 rfl (nB rfl) rfl rfl rfl) (oN (eT (cS (cR (oY rfl (yAI rfl) (oN (eT (cS (cS (cR (oY rfl (yFA fo_53_0 rfl) (oY rfl (yL 0 (v:=.slice Aa p0.fB.length ca) sc_50 rfl rfl rfl) (oY rfl (y_len (us:=[]) us_50 rfl) (oY rfl (yMI rfl) (oN (eT (cB ?_))))))))))))))))))
      obtain ⟨u18,hl26,h⟩:=bOs h
      refine cx_loop (fun (s:(Int × Int)) L tm => ∃ (tm0:Nat → Value),L = [cellsR b1 53 [.slice Aa p0.fB.length ca,.slice Ab p0.fR.length cb],cellsR b2 71 [.slice Ac p1.fG.length cc,vI p1.fW,.slice A1_2 p1.fPrices.length c1_2],mapV Tryz.prog 3 kI rngB kB false b8 s11.2.2.2.2,cellsR b15 65 [vI ((rdL p0.fR s11.2.2.2.1).fID),vI ((rdL p0.fR s11.2.2.2.1).fH.fLo),vI ((rdL p0.fR s11.2.2.2.1).fH.fHi),vI ((rdL p0.fR s11.2.2.2.1).fD),vI ((rdL p0.fR s11.2.2.2.1).fW)]] ∧ tm = (upd (upd (upd (upd (upd (upd (upd (upd (upd (upd (upd (upd (upd (upd (upd (upd tm0 2 (.pointer (some ⟨b1,0,none⟩))) 3 (.pointer (some ⟨b2,0,none⟩))) 4 (.bool s11.1)) 5 (.map (some b8))) 6 (vI s11.2.1)) 7 (vI s11.2.2.1)) 41 (.slice Ab p0.fR.length cb)) 42 (vI (p0.fR.length:Int))) 43 (vI s11.2.2.2.1)) 44 (.bool (decide (s11.2.2.2.1 < (p0.fR.length:Int))))) 9 (.pointer (some ⟨b15,0,none⟩))) 8 (vI s11.2.2.2.1)) 10 (vI s.1)) 49 (.slice Aa p0.fB.length ca)) 50 (vI (p0.fB.length:Int))) 51 (vI s.2))) (fun s e L tm => e = .exit 2 ∧ ∃ (tm0:Nat → Value),L = [cellsR b1 53 [.slice Aa p0.fB.length ca,.slice Ab p0.fR.length cb],cellsR b2 71 [.slice Ac p1.fG.length cc,vI p1.fW,.slice A1_2 p1.fPrices.length c1_2],mapV Tryz.prog 3 kI rngB kB false b8 s11.2.2.2.2,cellsR b15 65 [vI ((rdL p0.fR s11.2.2.2.1).fID),vI ((rdL p0.fR s11.2.2.2.1).fH.fLo),vI ((rdL p0.fR s11.2.2.2.1).fH.fHi),vI ((rdL p0.fR s11.2.2.2.1).fD),vI ((rdL p0.fR s11.2.2.2.1).fW)]] ∧ tm = (upd (upd (upd (upd (upd (upd (upd (upd (upd (upd (upd (upd (upd (upd (upd (upd tm0 2 (.pointer (some ⟨b1,0,none⟩))) 3 (.pointer (some ⟨b2,0,none⟩))) 4 (.bool s11.1)) 5 (.map (some b8))) 6 (vI s11.2.1)) 7 (vI s11.2.2.1)) 41 (.slice Ab p0.fR.length cb)) 42 (vI (p0.fR.length:Int))) 43 (vI s11.2.2.2.1)) 44 (.bool (decide (s11.2.2.2.1 < (p0.fR.length:Int))))) 9 (.pointer (some ⟨b15,0,none⟩))) 8 (vI s11.2.2.2.1)) 10 (vI s.1)) 49 (.slice Aa p0.fB.length ca)) 50 (vI (p0.fB.length:Int))) 51 (vI s.2))) hl26 ⟨_,rfl,(kp4 (kp4 (kp4 (kp4 rfl))))⟩ ?_ ?_
      ·rintro s17 L tm st ⟨tm0_s17,rfl,rfl⟩ h
       unfold cart_proved_l2 at h
       refine cS (cR (oY rfl (y_lss rfl rfl) (oN (eT (cS ?_)))))
       rcases iOs h with ⟨hp19,h⟩ | ⟨hp19,h⟩
       ·refine cT (vB hp19) (cK (eT (cS (cB (cS (cR (oY rfl (yMI rfl) ?_)))))))
        obtain ⟨hg20,h⟩:=gOs h
        refine oY rfl (yI sl_50 (by decide) hg20.1 hg20.2 (RdL.arg hr0_0) (eL TBay_cells_len rfl) rfl rfl) ?_
        refine oY rfl (yM (A:=Aa) (j:=(Int.toNat s17.2 * 3)) [vI ((rdL p0.fB s17.2).fID),vI ((rdL p0.fB s17.2).fHour),vI ((rdL p0.fB s17.2).fD)] ag_69 (Nat.succ_pos _) (RdL.arg hr0_0) rfl (encL_gets TBay_cells_len hg20.1 (lt_nat hg20.2 rfl))) ?_
        refine ox_alloc ze_69 rfl (fun b21 => ?_)
        refine oY rfl (yAI rfl) (ox_n rfl (yS 4 [vI ((rdL p0.fB s17.2).fID),vI ((rdL p0.fB s17.2).fHour),vI ((rdL p0.fB s17.2).fD)] sz_69 rfl (nB rfl) rfl rfl rfl) (oN (eT (cS (cR (oY rfl (yN 3 [vI ((rdL p0.fR s11.2.2.2.1).fID),vI ((rdL p0.fR s11.2.2.2.1).fH.fLo),vI ((rdL p0.fR s11.2.2.2.1).fH.fHi),vI ((rdL p0.fR s11.2.2.2.1).fD),vI ((rdL p0.fR s11.2.2.2.1).fW)] ag_65 rfl rfl rfl) (oY rfl (yN 4 [vI ((rdL p0.fB s17.2).fID),vI ((rdL p0.fB s17.2).fHour),vI ((rdL p0.fB s17.2).fD)] ag_69 rfl rfl rfl) ?_)))))))
        obtain ⟨y22,hy23,h⟩:=bOs h
        refine oY rfl (yC [.agg #[vI ((rdL p0.fR s11.2.2.2.1).fID),vI ((rdL p0.fR s11.2.2.2.1).fH.fLo),vI ((rdL p0.fR s11.2.2.2.1).fH.fHi),vI ((rdL p0.fR s11.2.2.2.1).fD),vI ((rdL p0.fR s11.2.2.2.1).fW)],.agg #[vI ((rdL p0.fB s17.2).fID),vI ((rdL p0.fB s17.2).fHour),vI ((rdL p0.fB s17.2).fD)]] go_101 rfl (fun W2 hW2 => cart_suits_ok (TO.mk ((rdL p0.fR s11.2.2.2.1).fID) (TSpan.mk ((rdL p0.fR s11.2.2.2.1).fH.fLo) ((rdL p0.fR s11.2.2.2.1).fH.fHi)) ((rdL p0.fR s11.2.2.2.1).fD) ((rdL p0.fR s11.2.2.2.1).fW)) (TBay.mk ((rdL p0.fB s17.2).fID) ((rdL p0.fB s17.2).fHour) ((rdL p0.fB s17.2).fD)) y22 hy23 W2 ) rfl) (oN (eT ?_))
        rcases iOs h with ⟨hp24,h⟩ | ⟨hp24,h⟩
        ·refine cT (vB hp24) (cR (oY rfl (yMI rfl) (oY rfl (yFA fo_71_2 rfl) (oY rfl (yL 1 (v:=.slice A1_2 p1.fPrices.length c1_2) sc_42 rfl rfl rfl) (oY rfl (yMI rfl) ?_)))))
         obtain ⟨hg25,h⟩:=gOs h
         refine oY rfl (yI sl_42 (by decide) hg25.1 hg25.2 (RdL.arg hr1_2) (eL cI_len rfl) rfl rfl) ?_
         refine oY rfl (yR (A:=A1_2) (j:=(Int.toNat s17.2 * 1)) (v:=vI (rdL p1.fPrices s17.2)) sc_3 (RdL.arg hr1_2) rfl (encL_get0 cI_len hg25.1 (lt_nat hg25.2 rfl) rfl)) (oY rfl (y_min rfl rfl) (oY rfl (yAI rfl) (oN (ex_block (eT (cR (oY rfl (y_add rfl rfl) (oY rfl (yMI rfl) (oN (ex_take 4 ?_))))))))))
         obtain rfl:=sI h
         exact eN ⟨_,rfl,(kp4 (kp4 (kp4 (kp4 rfl))))⟩
        ·refine cF (vB hp24) (cK (ex_block (eT (cR (oY rfl (y_add rfl rfl) (oY rfl (yMI rfl) (oN (ex_take 4 ?_))))))))
         obtain rfl:=sI h
         exact eN ⟨_,rfl,(kp4 (kp4 (kp4 (kp4 rfl))))⟩
       ·refine cF (vB hp19) (cx_exit (ex_then_exit ?_))
        obtain rfl:=sI h
        exact ex_stop ⟨rfl,_,rfl,(kp4 (kp4 (kp4 (kp4 rfl))))⟩
      ·intro e L tm hJ
       obtain ⟨rfl,tm0_u18,rfl,rfl⟩:=hJ
       refine ⟨(by intro hc; cases hc),?_⟩
       refine ex_block_here (eT (cS (cR (oY rfl (yMI rfl) (oY rfl (yFA fo_65_3 rfl) (oY rfl (yL 3 (v:=vI ((rdL p0.fR s11.2.2.2.1).fW)) sc_3 rfl rfl rfl) (oY rfl (yMI rfl) (oY rfl (y_sub rfl rfl) (oY rfl (y_max rfl rfl) (oY rfl (y_add rfl rfl) (oY rfl (yAI rfl) (oN (eT (cS (cR (oY rfl (yFA fo_71_0 rfl) (oY rfl (yL 1 (v:=.slice Ac p1.fG.length cc) sc_42 rfl rfl rfl) (oY rfl (yMI rfl) ?_))))))))))))))))))
       obtain ⟨hg27,h⟩:=gOs h
       refine oY rfl (yI sl_42 (by decide) hg27.1 hg27.2 (RdL.arg hr1_0) (eL cI_len rfl) rfl rfl) ?_
       refine oY rfl (yR (A:=Ac) (j:=(Int.toNat s11.2.2.2.1 * 1)) (v:=vI (rdL p1.fG s11.2.2.2.1)) sc_3 (RdL.arg hr1_0) rfl (encL_get0 cI_len hg27.1 (lt_nat hg27.2 rfl) rfl)) (oY rfl (yAI rfl) (oN (eT (cS (cS (cR (oY rfl (yMI rfl) (oY rfl (y_eql rfl rfl) (oN (eT ?_))))))))))
       rcases iOs h with ⟨hp28,h⟩ | ⟨hp28,h⟩
       ·refine cT (vB hp28) (cx_exit (ex_then_exit (ex_block_here (eT (cR (oY rfl (y_add rfl rfl) (oY rfl (yMI rfl) (oN (ex_take 3 ?_)))))))))
        obtain rfl:=sI h
        exact eN ⟨_,rfl,(kp4 (kp4 (kp rfl)))⟩
       ·refine cF (vB hp28) (cK (eT (cS (cR (oY rfl (yN 0 [.slice Aa p0.fB.length ca,.slice Ab p0.fR.length cb] ag_53 rfl rfl rfl) (oY rfl (yMI rfl) ?_))))))
        obtain ⟨y29,hy30,h⟩:=bOs h
        refine oY rfl (yC [.agg #[.slice Aa p0.fB.length ca,.slice Ab p0.fR.length cb],vI (rdL p1.fG s11.2.2.2.1)] go_96 rfl (fun W2 hW2 => cart_bay_ok p0 (rdL p1.fG s11.2.2.2.1) y29 hy30 W2 Aa p0.fB.length ca rfl ((RdL.arg hr0_0) W2 hW2) Ab p0.fR.length cb rfl ((RdL.arg hr0_1) W2 hW2)) rfl) (oY rfl (yAI rfl) (oN (eT (cS (cS ?_)))))
        refine cx_draws 17 mixed (by kernel_rfl) (by kernel_rfl) ?_
        refine qY rfl (yMI rfl) (qY rfl (y_lss rfl rfl) (qY rfl (yMB rfl) ?_))
        obtain ⟨b32,hb33,h⟩:=bOs h
        refine qJ 4 (fun tm0 => (upd (upd (upd (upd (upd (upd (upd (upd (upd (upd (upd (upd (upd (upd (upd (upd (upd (upd (upd (upd tm0 2 (.pointer (some ⟨b1,0,none⟩))) 3 (.pointer (some ⟨b2,0,none⟩))) 4 (.bool s11.1)) 5 (.map (some b8))) 6 (vI s11.2.1)) 7 (vI (w64 (s11.2.2.1 + (max 0 (w64 (((rdL p0.fR s11.2.2.2.1).fW) - u18.1))))))) 41 (.slice Ab p0.fR.length cb)) 42 (vI (p0.fR.length:Int))) 43 (vI s11.2.2.2.1)) 44 (.bool (decide (s11.2.2.2.1 < (p0.fR.length:Int))))) 9 (.pointer (some ⟨b15,0,none⟩))) 8 (vI s11.2.2.2.1)) 10 (vI u18.1)) 49 (.slice Aa p0.fB.length ca)) 50 (vI (p0.fB.length:Int))) 51 (vI u18.2)) 13 (vI (rdL p1.fG s11.2.2.2.1))) 80 (.bool ((rdL p1.fG s11.2.2.2.1) == 0))) 14 (vI y29)) 90 (.bool b32))) (fun tm0 => ?_) (fun key => ?_)
        ·refine qY rfl (yMB rfl) ?_
         obtain ⟨b35,hb36,h⟩:=bOs h
         refine qJ 9 (fun tm0 => (upd (upd (upd (upd (upd (upd (upd (upd (upd (upd (upd (upd (upd (upd (upd (upd (upd (upd (upd (upd tm0 2 (.pointer (some ⟨b1,0,none⟩))) 3 (.pointer (some ⟨b2,0,none⟩))) 4 (.bool s11.1)) 5 (.map (some b8))) 6 (vI s11.2.1)) 7 (vI (w64 (s11.2.2.1 + (max 0 (w64 (((rdL p0.fR s11.2.2.2.1).fW) - u18.1))))))) 41 (.slice Ab p0.fR.length cb)) 42 (vI (p0.fR.length:Int))) 43 (vI s11.2.2.2.1)) 44 (.bool (decide (s11.2.2.2.1 < (p0.fR.length:Int))))) 9 (.pointer (some ⟨b15,0,none⟩))) 8 (vI s11.2.2.2.1)) 10 (vI u18.1)) 49 (.slice Aa p0.fB.length ca)) 50 (vI (p0.fB.length:Int))) 51 (vI u18.2)) 13 (vI (rdL p1.fG s11.2.2.2.1))) 80 (.bool ((rdL p1.fG s11.2.2.2.1) == 0))) 14 (vI y29)) 100 (.bool b35))) (fun tm0 => ?_) (fun key => ?_)
         ·refine qx_nil (oN (eT ?_))
          rcases iOs h with ⟨hp37,h⟩ | ⟨hp37,h⟩
          ·refine cT (vB hp37) (cS (cR (oY rfl (yAB rfl) (oN (eT (cx_ret (ex_then_ret (ex_block_ret (ex_then_ret (ex_take 3 ?_))))))))))
           obtain rfl:=sI h
           exact ex_stop ⟨rfl,_,rfl,(kp4 (kp4 (kp rfl)))⟩
          ·refine cF (vB hp37) (cK (eT (cS (cR (oY rfl (y_move_map rfl) (oY rfl (yMI rfl) ?_))))))
           obtain ⟨hg38,h⟩:=gOs h
           refine ox_n rfl (y_updateV 2 (k:=(rdL p1.fG s11.2.2.2.1)) (v:=true) rfl ke_3 um_189 rfl rfl rfl hg38) (oN (eT (cR (oY rfl (yMI rfl) (oY rfl (yFA fo_65_3 rfl) (oY rfl (yL 3 (v:=vI ((rdL p0.fR s11.2.2.2.1).fW)) sc_3 rfl rfl rfl) (oY rfl (y_add rfl rfl) (oY rfl (yAI rfl) (oN (ex_block (eT (cR (oY rfl (y_add rfl rfl) (oY rfl (yMI rfl) (oN (ex_take 3 ?_))))))))))))))))
           obtain rfl:=sI h
           exact eN ⟨_,rfl,(kp4 (kp4 (kp rfl)))⟩
         ·clear h; rcases iOs hb36 with ⟨hp34,h⟩ | ⟨hp34,h⟩
          ·refine qx_skip (sF rfl rfl rfl rfl hp34) (qx_skip (sF rfl rfl rfl rfl hp34) (qx_skip (sF rfl rfl rfl rfl hp34) (qx_skip (sF rfl rfl rfl rfl hp34) (qx_skip (sF rfl rfl rfl rfl hp34) (qx_skip (sF rfl rfl rfl rfl hp34) (qx_skip (sF rfl rfl rfl rfl hp34) (qx_skip (sF rfl rfl rfl rfl hp34) (qY rfl (y_pick_tb (vB hp34) rfl) ?_))))))))
           obtain rfl:=sI h
           exact key _ _ (kp4 (kp4 (kp4 (kp4 (kp4 rfl)))))
          ·refine qY (sT rfl rfl rfl rfl hp34) (yN 3 [vI ((rdL p0.fR s11.2.2.2.1).fID),vI ((rdL p0.fR s11.2.2.2.1).fH.fLo),vI ((rdL p0.fR s11.2.2.2.1).fH.fHi),vI ((rdL p0.fR s11.2.2.2.1).fD),vI ((rdL p0.fR s11.2.2.2.1).fW)] ag_65 rfl rfl rfl) (qY (sT rfl rfl rfl rfl hp34) (yFA fo_53_0 rfl) (qY (sT rfl rfl rfl rfl hp34) (yL 0 (v:=.slice Aa p0.fB.length ca) sc_50 rfl rfl rfl) (qY (sT rfl rfl rfl rfl hp34) (yMI rfl) ?_)))
           obtain ⟨hg39,h⟩:=gOs h
           refine qY (sT rfl rfl rfl rfl hp34) (yI sl_50 (by decide) hg39.1 hg39.2 (RdL.arg hr0_0) (eL TBay_cells_len rfl) rfl rfl) ?_
           refine qY (sT rfl rfl rfl rfl hp34) (yM (A:=Aa) (j:=(Int.toNat y29 * 3)) [vI ((rdL p0.fB y29).fID),vI ((rdL p0.fB y29).fHour),vI ((rdL p0.fB y29).fD)] ag_69 (Nat.succ_pos _) (RdL.arg hr0_0) rfl (encL_gets TBay_cells_len hg39.1 (lt_nat hg39.2 rfl))) ?_
           obtain ⟨y40,hy41,h⟩:=bOs h
           refine qY (sT rfl rfl rfl rfl hp34) (yC [.agg #[vI ((rdL p0.fR s11.2.2.2.1).fID),vI ((rdL p0.fR s11.2.2.2.1).fH.fLo),vI ((rdL p0.fR s11.2.2.2.1).fH.fHi),vI ((rdL p0.fR s11.2.2.2.1).fD),vI ((rdL p0.fR s11.2.2.2.1).fW)],.agg #[vI ((rdL p0.fB y29).fID),vI ((rdL p0.fB y29).fHour),vI ((rdL p0.fB y29).fD)]] go_101 rfl (fun W2 hW2 => cart_suits_ok (TO.mk ((rdL p0.fR s11.2.2.2.1).fID) (TSpan.mk ((rdL p0.fR s11.2.2.2.1).fH.fLo) ((rdL p0.fR s11.2.2.2.1).fH.fHi)) ((rdL p0.fR s11.2.2.2.1).fD) ((rdL p0.fR s11.2.2.2.1).fW)) (TBay.mk ((rdL p0.fB y29).fID) ((rdL p0.fB y29).fHour) ((rdL p0.fB y29).fD)) y40 hy41 W2 ) rfl) (qY (sT rfl rfl rfl rfl hp34) (y_not rfl) (qY rfl (y_pick_fb (vB hp34) rfl) ?_))
           obtain rfl:=sI h
           exact key _ _ (kp4 (kp4 (kp4 (kp4 (kp4 rfl)))))
        ·clear h; rcases iOs hb33 with ⟨hp31,h⟩ | ⟨hp31,h⟩
         ·refine qx_skip (sF rfl rfl rfl rfl hp31) (qx_skip (sF rfl rfl rfl rfl hp31) (qx_skip (sF rfl rfl rfl rfl hp31) (qY rfl (y_pick_tb (vB hp31) rfl) ?_)))
          obtain rfl:=sI h
          exact key _ _ (kp4 (kp4 (kp4 (kp4 (kp4 rfl)))))
         ·refine qY (sT rfl rfl rfl rfl hp31) (y_move_map rfl) (qY (sT rfl rfl rfl rfl hp31) (yMI rfl) ?_)
          obtain ⟨hg42,h⟩:=gOs h
          refine qY (sT rfl rfl rfl rfl hp31) (y_lookupV (k:=(rdL p1.fG s11.2.2.2.1)) (MpL.own 2 rfl) ke_3 um_189 ze_4 rfl rfl hg42) (qY rfl (y_pick_fb (vB hp31) rfl) ?_)
          obtain rfl:=sI h
          exact key _ _ (kp4 (kp4 (kp4 (kp4 (kp4 rfl)))))
     ·refine cF (vB hp13) (cx_exit (ex_then_exit ?_))
      obtain rfl:=sI h
      exact ex_stop ⟨rfl,_,rfl,(kp4 (kp4 (kp rfl)))⟩
    ·intro e L tm hJ
     rcases u12 with u44 | u45
     ·dsimp only at h hJ
      obtain ⟨rfl,tm0_u44,rfl,rfl⟩:=hJ
      refine ⟨(by intro hc; cases hc),?_⟩
      refine ex_block_ret (ex_then_ret ?_)
      obtain rfl:=sI h
      exact ex_res1 (.inl rfl) rfl (rVt (v:=.bool u44.1) rfl) (fun W2 hW2 => ⟨rfl,hW2.none⟩)
     ·dsimp only at h hJ
      obtain ⟨rfl,tm0_u45,rfl,rfl⟩:=hJ
      refine ⟨(by intro hc; cases hc),?_⟩
      refine ex_block_here (eT (cS (cS (cR (oY rfl (yFA fo_71_2 rfl) (oY rfl (yL 1 (v:=.slice A1_2 p1.fPrices.length c1_2) sc_42 rfl rfl rfl) (oY rfl (y_len (us:=[]) us_42 rfl) (oY rfl (yMI rfl) (oN (eT (cB ?_)))))))))))
      obtain ⟨u48,hl51,h⟩:=bOs h
      refine cx_loop (fun (s:(Int × Int)) L tm => ∃ (tm0:Nat → Value),L = [cellsR b1 53 [.slice Aa p0.fB.length ca,.slice Ab p0.fR.length cb],cellsR b2 71 [.slice Ac p1.fG.length cc,vI p1.fW,.slice A1_2 p1.fPrices.length c1_2],mapV Tryz.prog 3 kI rngB kB false b8 u45.2.2.2.2] ∧ tm = (upd (upd (upd (upd (upd (upd (upd tm0 3 (.pointer (some ⟨b2,0,none⟩))) 4 (.bool u45.1)) 6 (vI u45.2.1)) 7 (vI s.1)) 109 (.slice A1_2 p1.fPrices.length c1_2)) 110 (vI (p1.fPrices.length:Int))) 111 (vI s.2))) (fun s e L tm => e = .exit 4 ∧ ∃ (tm0:Nat → Value),L = [cellsR b1 53 [.slice Aa p0.fB.length ca,.slice Ab p0.fR.length cb],cellsR b2 71 [.slice Ac p1.fG.length cc,vI p1.fW,.slice A1_2 p1.fPrices.length c1_2],mapV Tryz.prog 3 kI rngB kB false b8 u45.2.2.2.2] ∧ tm = (upd (upd (upd (upd (upd (upd (upd tm0 3 (.pointer (some ⟨b2,0,none⟩))) 4 (.bool u45.1)) 6 (vI u45.2.1)) 7 (vI s.1)) 109 (.slice A1_2 p1.fPrices.length c1_2)) 110 (vI (p1.fPrices.length:Int))) 111 (vI s.2))) hl51 ⟨_,rfl,(kp4 (kp (kp (kp rfl))))⟩ ?_ ?_
      ·rintro s47 L tm st ⟨tm0_s47,rfl,rfl⟩ h
       unfold cart_proved_l3 at h
       refine cS (cR (oY rfl (y_lss rfl rfl) (oN (eT (cS ?_)))))
       rcases iOs h with ⟨hp49,h⟩ | ⟨hp49,h⟩
       ·refine cT (vB hp49) (cK (eT (cS (cB (cS (cR ?_))))))
        obtain ⟨hg50,h⟩:=gOs h
        refine oY rfl (yI sl_42 (by decide) hg50.1 hg50.2 (RdL.arg hr1_2) (eL cI_len rfl) rfl rfl) ?_
        refine oY rfl (yR (A:=A1_2) (j:=(Int.toNat s47.2 * 1)) (v:=vI (rdL p1.fPrices s47.2)) sc_3 (RdL.arg hr1_2) rfl (encL_get0 cI_len hg50.1 (lt_nat hg50.2 rfl) rfl)) (oY rfl (yAI rfl) (oN (eT (cR (oY rfl (yMI rfl) (oY rfl (yMI rfl) (oY rfl (y_add rfl rfl) (oY rfl (yAI rfl) (oN (ex_block (eT (cR (oY rfl (y_add rfl rfl) (oY rfl (yMI rfl) (oN ?_)))))))))))))))
        obtain rfl:=sI h
        exact eN ⟨_,rfl,(kp4 (kp (kp (kp rfl))))⟩
       ·refine cF (vB hp49) (cx_exit (ex_then_exit ?_))
        obtain rfl:=sI h
        exact ex_stop ⟨rfl,_,rfl,(kp4 (kp (kp (kp rfl))))⟩
      ·intro e L tm hJ
       obtain ⟨rfl,tm0_u48,rfl,rfl⟩:=hJ
       refine ⟨(by intro hc; cases hc),?_⟩
       refine ex_block_here (eT (cS (cR (oY rfl (yMI rfl) (oY rfl (yFA fo_71_1 rfl) (oY rfl (yL 1 (v:=vI p1.fW) sc_3 rfl rfl rfl) (oY rfl (y_eql rfl rfl) (oY rfl (yMB rfl) ?_))))))))
       refine oJ 4 (fun tm0 => (upd (upd tm0 4 (.bool u45.1)) 127 (.bool ((u45.2.1 == p1.fW) && (u45.2.1 == u48.1))))) (fun tm0 => ?_) (fun key => ?_)
       ·refine oY rfl (yAB rfl) (oN (eT (cx_ret ?_)))
        obtain rfl:=sI h
        exact ex_res1 (.inl rfl) rfl (rVt (v:=.bool ((u45.2.1 == p1.fW) && (u45.2.1 == u48.1))) rfl) (fun W2 hW2 => ⟨rfl,hW2.none⟩)
       ·rcases bool_cases (u45.2.1 == p1.fW) with hp52 | hp52
        ·refine oY (sT rfl rfl rfl rfl hp52) (yMI rfl) (oY (sT rfl rfl rfl rfl hp52) (yMI rfl) (oY (sT rfl rfl rfl rfl hp52) (y_eql rfl rfl) (oY rfl (y_pick_tb (vB hp52) rfl) ?_)))
         exact key _ _ (keep (keep rfl rfl) (vB (and_t hp52)))
        ·refine oSk (sF rfl rfl rfl rfl hp52) (oSk (sF rfl rfl rfl rfl hp52) (oSk (sF rfl rfl rfl rfl hp52) (oY rfl (y_pick_fb (vB hp52) rfl) ?_)))
         exact key _ _ (keep (keep rfl rfl) (vB (and_f hp52)))
  ·clear h; rcases iOs hb6 with ⟨hp4,h⟩ | ⟨hp4,h⟩
   ·refine oSk (sF rfl rfl rfl rfl hp4) (oSk (sF rfl rfl rfl rfl hp4) (oSk (sF rfl rfl rfl rfl hp4) (oSk (sF rfl rfl rfl rfl hp4) (oY rfl (y_pick_tb (vB hp4) rfl) ?_))))
    obtain rfl:=sI h
    exact key _ _ (kp4 rfl)
   ·refine oY (sT rfl rfl rfl rfl hp4) (yFA fo_71_2 rfl) (oY (sT rfl rfl rfl rfl hp4) (yL 1 (v:=.slice A1_2 p1.fPrices.length c1_2) sc_42 rfl rfl rfl) ?_)
    obtain ⟨y54,hy55,h⟩:=bOs h
    refine oY (sT rfl rfl rfl rfl hp4) (yC [.slice A1_2 p1.fPrices.length c1_2,.func (.func 146) #[] #[]] go_136 rfl (fun W2 hW2 => cart_index_int_ok p1.fPrices (fun x53 => cart_proved_1 x53) y54 hy55 W2 A1_2 p1.fPrices.length c1_2 rfl ((RdL.arg hr1_2) W2 hW2) 146 [] [] go_146 (fun W3 hb x y hxy => cart_proved_1_ok  x  y hxy W3 )) rfl) (oY (sT rfl rfl rfl rfl hp4) (y_geq rfl rfl) (oY rfl (y_pick_fb (vB hp4) rfl) ?_))
    obtain rfl:=sI h
    exact key _ _ (kp4 rfl)
 ·rcases bool_cases ((p1.fG.length:Int) != (p0.fR.length:Int)) with hp3 | hp3
  ·refine oSk (sF rfl rfl rfl rfl hp3) (oSk (sF rfl rfl rfl rfl hp3) (oSk (sF rfl rfl rfl rfl hp3) (oSk (sF rfl rfl rfl rfl hp3) (oSk (sF rfl rfl rfl rfl hp3) (oSk (sF rfl rfl rfl rfl hp3) (oSk (sF rfl rfl rfl rfl hp3) (oY rfl (y_pick_tb (vB hp3) rfl) ?_)))))))
   exact key _ _ (keep (keep (keep (keep rfl rfl) rfl) rfl) (vB (or_t hp3)))
  ·refine oY (sT rfl rfl rfl rfl hp3) (yFA fo_71_2 rfl) (oY (sT rfl rfl rfl rfl hp3) (yL 1 (v:=.slice A1_2 p1.fPrices.length c1_2) sc_42 rfl rfl rfl) (oY (sT rfl rfl rfl rfl hp3) (y_len (us:=[]) us_42 rfl) (oY (sT rfl rfl rfl rfl hp3) (yFA fo_53_0 rfl) (oY (sT rfl rfl rfl rfl hp3) (yL 0 (v:=.slice Aa p0.fB.length ca) sc_50 rfl rfl rfl) (oY (sT rfl rfl rfl rfl hp3) (y_len (us:=[]) us_50 rfl) (oY (sT rfl rfl rfl rfl hp3) (y_neq rfl rfl) (oY rfl (y_pick_fb (vB hp3) rfl) ?_)))))))
   exact key _ _ (keep (keep (keep (keep rfl rfl) rfl) rfl) (vB (or_f hp3)))
theorem cart_CheckPlan_ok (p0:TY) (p1:TPlan) (res:Int) (h:cart_CheckPlan p0 p1 = some res) (W:World) (Aa:Option Addr) (n0_0 ca : Nat) (hn0_0:n0_0 = p0.fB.length) (hr0_0:Rd W Aa n0_0 ca (encL TBay_cells p0.fB)) (Ab:Option Addr) (n0_1 cb : Nat) (hn0_1:n0_1 = p0.fR.length) (hr0_1:Rd W Ab n0_1 cb (encL TOrder_cells p0.fR)) (Ac:Option Addr) (n1_0 cc : Nat) (hn1_0:n1_0 = p1.fG.length) (hr1_0:Rd W Ac n1_0 cc (encL cI p1.fG)) (A1_2:Option Addr) (n1_2 c1_2 : Nat) (hn1_2:n1_2 = p1.fPrices.length) (hr1_2:Rd W A1_2 n1_2 c1_2 (encL cI p1.fPrices)) :
  Calls Tryz.prog 39 [.agg #[.slice Aa n0_0 ca,.slice Ab n0_1 cb],.agg #[.slice Ac n1_0 cc,vI p1.fW,.slice A1_2 n1_2 c1_2]].toArray W fun e W2 => e = .returned (vI res) ∧ Ext W W2 []:=by
 subst hn0_0
 subst hn0_1
 subst hn1_0
 subst hn1_2
 unfold cart_CheckPlan at h
 refine calls_enter (m:=15) Tryz.func39 rfl rfl (nB rfl) (cS (cR ?_))
 refine ox_box [.slice Aa p0.fB.length ca,.slice Ab p0.fR.length cb] rfl rfl rfl (fun b1 => ?_)
 refine ox_box [.slice Ac p1.fG.length cc,vI p1.fW,.slice A1_2 p1.fPrices.length c1_2] rfl rfl rfl (fun b2 => ?_)
 refine oY rfl (yAI rfl) (oN (eT (cS (cS (cR (oY rfl (yN 0 [.slice Aa p0.fB.length ca,.slice Ab p0.fR.length cb] ag_53 rfl rfl rfl) ?_))))))
 obtain ⟨y3,hy4,h⟩:=bOs h
 refine oY rfl (yC [.agg #[.slice Aa p0.fB.length ca,.slice Ab p0.fR.length cb]] go_45 rfl (fun W2 hW2 => cart_CheckYard_ok p0 y3 hy4 W2 Aa p0.fB.length ca rfl ((RdL.arg hr0_0) W2 hW2) Ab p0.fR.length cb rfl ((RdL.arg hr0_1) W2 hW2)) rfl) (oY rfl (yAI rfl) (oN (eT (cS (cR (oY rfl (yMI rfl) (oY rfl (y_neq rfl rfl) (oN (eT ?_)))))))))
 rcases iOs h with ⟨hp5,h⟩ | ⟨hp5,h⟩
 ·refine cT (vB hp5) (cS (cR (oY rfl (yMI rfl) (oY rfl (yAI rfl) (oN (eT (cx_ret (ex_then_ret ?_))))))))
  obtain rfl:=sI h
  exact ex_res1 (.inl rfl) rfl (rVt (v:=vI y3) rfl) (fun W2 hW2 => ⟨rfl,hW2.none⟩)
 ·refine cF (vB hp5) (cK (eT (cS (cS (cR (oY rfl (yN 0 [.slice Aa p0.fB.length ca,.slice Ab p0.fR.length cb] ag_53 rfl rfl rfl) (oY rfl (yN 1 [.slice Ac p1.fG.length cc,vI p1.fW,.slice A1_2 p1.fPrices.length c1_2] ag_71 rfl rfl rfl) ?_)))))))
  obtain ⟨y6,hy7,h⟩:=bOs h
  refine oY rfl (yC [.agg #[.slice Aa p0.fB.length ca,.slice Ab p0.fR.length cb],.agg #[.slice Ac p1.fG.length cc,vI p1.fW,.slice A1_2 p1.fPrices.length c1_2]] go_102 rfl (fun W2 hW2 => cart_proved_ok p0 p1 y6 hy7 W2 Aa p0.fB.length ca rfl ((RdL.arg hr0_0) W2 hW2) Ab p0.fR.length cb rfl ((RdL.arg hr0_1) W2 hW2) Ac p1.fG.length cc rfl ((RdL.arg hr1_0) W2 hW2) A1_2 p1.fPrices.length c1_2 rfl ((RdL.arg hr1_2) W2 hW2)) rfl) (oY rfl (y_not rfl) (oN (eT ?_)))
  rcases iOs h with ⟨hp8,h⟩ | ⟨hp8,h⟩
  ·refine cT (vB hp8) (cS (cR (oY rfl (yAI rfl) (oN (eT (cx_ret (ex_then_ret ?_)))))))
   obtain rfl:=sI h
   exact ex_res1 (.inl rfl) rfl (rVt (v:=vI 8) rfl) (fun W2 hW2 => ⟨rfl,hW2.none⟩)
  ·refine cF (vB hp8) (cK (eT (cS (cR (oY rfl (yAI rfl) (oN (eT (cx_ret ?_))))))))
   obtain rfl:=sI h
   exact ex_res1 (.inl rfl) rfl (rVt (v:=vI 0) rfl) (fun W2 hW2 => ⟨rfl,hW2.none⟩)
end Go.Proofs.YthndghnkebboaaaGreat
set_option maxHeartbeats 4000000
set_option maxRecDepth 100000
namespace Go.Proofs.YthndghnkebboaaaGreat
open Go.RowKit (Below)
attribute [local irreducible] OX QX CX EX OpY Calls CallsIn
theorem calxlaw05_keeps_ok (p0:TY) (p1:TPlan) (p2:(List Int)) (p3:(List Int)) (res:Bool) (h:calxlaw05_keeps p0 p1 p2 p3 = some res) (W:World) (Aa:Option Addr) (n0_0 ca : Nat) (hn0_0:n0_0 = p0.fB.length) (hr0_0:Rd W Aa n0_0 ca (encL TBay_cells p0.fB)) (Ab:Option Addr) (n0_1 cb : Nat) (hn0_1:n0_1 = p0.fR.length) (hr0_1:Rd W Ab n0_1 cb (encL TOrder_cells p0.fR)) (Ac:Option Addr) (n1_0 cc : Nat) (hn1_0:n1_0 = p1.fG.length) (hr1_0:Rd W Ac n1_0 cc (encL cI p1.fG)) (A1_2:Option Addr) (n1_2 c1_2 : Nat) (hn1_2:n1_2 = p1.fPrices.length) (hr1_2:Rd W A1_2 n1_2 c1_2 (encL cI p1.fPrices)) (A2_0:Option Addr) (n2_0 c2_0 : Nat) (hn2_0:n2_0 = p2.length) (hr2_0:Rd W A2_0 n2_0 c2_0 (encL cI p2)) (A3_0:Option Addr) (n3_0 c3_0 : Nat) (hn3_0:n3_0 = p3.length) (hr3_0:Rd W A3_0 n3_0 c3_0 (encL cI p3)) :
  Calls Tryz.prog 40 [.agg #[.slice Aa n0_0 ca,.slice Ab n0_1 cb],.agg #[.slice Ac n1_0 cc,vI p1.fW,.slice A1_2 n1_2 c1_2],.slice A2_0 n2_0 c2_0,.slice A3_0 n3_0 c3_0].toArray W fun e W2 => e = .returned (.bool res) ∧ Ext W W2 []:=by
 subst hn0_0
 subst hn0_1
 subst hn1_0
 subst hn1_2
 subst hn2_0
 subst hn3_0
 unfold calxlaw05_keeps at h
 refine calls_enter (m:=55) Tryz.func40 rfl rfl (nB rfl) (cS (cR ?_))
 refine ox_box [.slice Aa p0.fB.length ca,.slice Ab p0.fR.length cb] rfl rfl rfl (fun b1 => ?_)
 refine ox_box [.slice Ac p1.fG.length cc,vI p1.fW,.slice A1_2 p1.fPrices.length c1_2] rfl rfl rfl (fun b2 => ?_)
 refine oY rfl (yAB rfl) (oN (eT (cS (cS (cR (oY rfl (yFA fo_71_0 rfl) (oY rfl (yL 1 (v:=.slice Ac p1.fG.length cc) sc_42 rfl rfl rfl) (oY rfl (y_len (us:=[]) us_42 rfl) (oY rfl (yFA fo_53_1 rfl) (oY rfl (yL 0 (v:=.slice Ab p0.fR.length cb) sc_51 rfl rfl rfl) (oY rfl (y_len (us:=[]) us_51 rfl) (oY rfl (y_neq rfl rfl) (oN (eT ?_))))))))))))))
 rcases iOs h with ⟨hp3,h⟩ | ⟨hp3,h⟩
 ·refine cT (vB hp3) (cS (cR (oY rfl (yAB rfl) (oN (eT (cx_ret (ex_then_ret ?_)))))))
  obtain rfl:=sI h
  exact ex_res1 (.inl rfl) rfl (rVt (v:=.bool false) rfl) (fun W2 hW2 => ⟨rfl,hW2.none⟩)
 ·refine cF (vB hp3) (cK (eT (cS (cS (cR (oY rfl (yAI rfl) (oN (eT (cB ?_)))))))))
  obtain ⟨u6,hl25,h⟩:=bOs h
  refine cx_loop (fun (s:(Bool × Int)) L tm => ∃ (tm0:Nat → Value),L = [cellsR b1 53 [.slice Aa p0.fB.length ca,.slice Ab p0.fR.length cb],cellsR b2 71 [.slice Ac p1.fG.length cc,vI p1.fW,.slice A1_2 p1.fPrices.length c1_2]] ∧ tm = (upd (upd (upd (upd (upd (upd tm0 2 (.slice A2_0 p2.length c2_0)) 3 (.slice A3_0 p3.length c3_0)) 4 (.pointer (some ⟨b1,0,none⟩))) 5 (.pointer (some ⟨b2,0,none⟩))) 8 (.bool s.1)) 9 (vI s.2))) (fun | (.inl s),e,L,tm => e = .ret ∧ ∃ (tm0:Nat → Value),L = [cellsR b1 53 [.slice Aa p0.fB.length ca,.slice Ab p0.fR.length cb],cellsR b2 71 [.slice Ac p1.fG.length cc,vI p1.fW,.slice A1_2 p1.fPrices.length c1_2]] ∧ tm = (upd (upd (upd (upd (upd (upd tm0 2 (.slice A2_0 p2.length c2_0)) 3 (.slice A3_0 p3.length c3_0)) 4 (.pointer (some ⟨b1,0,none⟩))) 5 (.pointer (some ⟨b2,0,none⟩))) 8 (.bool s.1)) 9 (vI s.2)) | (.inr s),e,L,tm => e = .exit 0 ∧ ∃ (tm0:Nat → Value),L = [cellsR b1 53 [.slice Aa p0.fB.length ca,.slice Ab p0.fR.length cb],cellsR b2 71 [.slice Ac p1.fG.length cc,vI p1.fW,.slice A1_2 p1.fPrices.length c1_2]] ∧ tm = (upd (upd (upd (upd (upd (upd tm0 2 (.slice A2_0 p2.length c2_0)) 3 (.slice A3_0 p3.length c3_0)) 4 (.pointer (some ⟨b1,0,none⟩))) 5 (.pointer (some ⟨b2,0,none⟩))) 8 (.bool s.1)) 9 (vI s.2))) hl25 ⟨_,rfl,(kp4 (kp (kp rfl)))⟩ ?_ ?_
  ·rintro s5 L tm st ⟨tm0_s5,rfl,rfl⟩ h
   unfold calxlaw05_keeps_l1 at h
   refine cS (cS (cR (oY rfl (yMI rfl) (oY rfl (yFA fo_71_0 rfl) (oY rfl (yL 1 (v:=.slice Ac p1.fG.length cc) sc_42 rfl rfl rfl) (oY rfl (y_len (us:=[]) us_42 rfl) (oY rfl (y_lss rfl rfl) (oN (eT ?_)))))))))
   rcases iOs h with ⟨hp7,h⟩ | ⟨hp7,h⟩
   ·refine cT (vB hp7) (cK (eT (cS (cB (cS (cR (oY rfl (yFA fo_53_1 rfl) (oY rfl (yL 0 (v:=.slice Ab p0.fR.length cb) sc_51 rfl rfl rfl) (oY rfl (yMI rfl) ?_)))))))))
    obtain ⟨hg8,h⟩:=gOs h
    refine oY rfl (yI sl_51 (by decide) hg8.1 hg8.2 (RdL.arg hr0_1) (eL TOrder_cells_len rfl) rfl rfl) ?_
    refine oY rfl (yFR (A:=Ab) (j:=(Int.toNat s5.2 * 5)) fo_65_0 rfl) (oY rfl (yR (A:=Ab) (j:=((Int.toNat s5.2 * 5) + 0)) (v:=vI ((rdL p0.fR s5.2).fID)) sc_3 (RdL.arg hr0_1) rfl (eG TOrder_cells_len hg8.1 (lt_nat hg8.2 rfl) rfl)) (oY rfl (yAI rfl) (oN (eT (cS (cR (oY rfl (yMS rfl) (oY rfl (yMI rfl) ?_))))))))
    obtain ⟨y9,hy10,h⟩:=bOs h
    refine oY rfl (yC [.slice A2_0 p2.length c2_0,vI ((rdL p0.fR s5.2).fID)] go_36 rfl (fun W2 hW2 => calxlaw05_has_ok p2 ((rdL p0.fR s5.2).fID) y9 hy10 W2 A2_0 p2.length c2_0 rfl ((RdL.arg hr2_0) W2 hW2)) rfl) (oY rfl (yMB rfl) ?_)
    obtain ⟨b12,hb13,h⟩:=bOs h
    refine oJ 7 (fun tm0 => (upd (upd (upd (upd (upd (upd (upd (upd (upd tm0 2 (.slice A2_0 p2.length c2_0)) 3 (.slice A3_0 p3.length c3_0)) 4 (.pointer (some ⟨b1,0,none⟩))) 5 (.pointer (some ⟨b2,0,none⟩))) 8 (.bool s5.1)) 9 (vI s5.2)) 22 (.bool (decide (s5.2 < (p1.fG.length:Int))))) 10 (vI ((rdL p0.fR s5.2).fID))) 41 (.bool b12))) (fun tm0 => ?_) (fun key => ?_)
    ·refine oY rfl (yMB rfl) ?_
     obtain ⟨b15,hb16,h⟩:=bOs h
     refine oJ 12 (fun tm0 => (upd (upd (upd (upd (upd (upd (upd (upd (upd tm0 2 (.slice A2_0 p2.length c2_0)) 3 (.slice A3_0 p3.length c3_0)) 4 (.pointer (some ⟨b1,0,none⟩))) 5 (.pointer (some ⟨b2,0,none⟩))) 8 (.bool s5.1)) 9 (vI s5.2)) 22 (.bool (decide (s5.2 < (p1.fG.length:Int))))) 10 (vI ((rdL p0.fR s5.2).fID))) 54 (.bool b15))) (fun tm0 => ?_) (fun key => ?_)
     ·refine oN (eT ?_)
      rcases iOs h with ⟨hp17,h⟩ | ⟨hp17,h⟩
      ·refine cT (vB hp17) (cS (cR (oY rfl (yAB rfl) (oN (eT (cx_ret (ex_block_ret (ex_then_ret ?_))))))))
       obtain rfl:=sI h
       exact ex_stop ⟨rfl,_,rfl,(kp4 (kp (kp rfl)))⟩
      ·refine cF (vB hp17) (cK (ex_block (eT (cR (oY rfl (yMI rfl) (oY rfl (y_add rfl rfl) (oY rfl (yAI rfl) (oN ?_))))))))
       obtain rfl:=sI h
       exact eN ⟨_,rfl,(kp4 (kp (kp rfl)))⟩
     ·clear h; rcases iOs hb16 with ⟨hp14,h⟩ | ⟨hp14,h⟩
      ·refine oSk (sF rfl rfl rfl rfl hp14) (oSk (sF rfl rfl rfl rfl hp14) (oSk (sF rfl rfl rfl rfl hp14) (oSk (sF rfl rfl rfl rfl hp14) (oSk rfl (oSk rfl (oSk rfl (oSk rfl (oSk rfl (oSk rfl (oSk (sF rfl rfl rfl rfl hp14) (oY rfl (y_pick_tb (vB hp14) rfl) ?_)))))))))))
       obtain rfl:=sI h
       exact key _ _ (kp4 (kp4 (kp rfl)))
      ·refine oY (sT rfl rfl rfl rfl hp14) (yMS rfl) (oY (sT rfl rfl rfl rfl hp14) (yMI rfl) ?_)
       obtain ⟨y18,hy19,h⟩:=bOs h
       refine oY (sT rfl rfl rfl rfl hp14) (yC [.slice A3_0 p3.length c3_0,vI ((rdL p0.fR s5.2).fID)] go_36 rfl (fun W2 hW2 => calxlaw05_has_ok p3 ((rdL p0.fR s5.2).fID) y18 hy19 W2 A3_0 p3.length c3_0 rfl ((RdL.arg hr3_0) W2 hW2)) rfl) (oY (sT rfl rfl rfl rfl hp14) (yMB rfl) ?_)
       obtain ⟨b21,hb22,h⟩:=bOs h
       refine oJ 7 (fun tm0 => (upd (upd (upd (upd (upd (upd (upd (upd (upd (upd tm0 2 (.slice A2_0 p2.length c2_0)) 3 (.slice A3_0 p3.length c3_0)) 4 (.pointer (some ⟨b1,0,none⟩))) 5 (.pointer (some ⟨b2,0,none⟩))) 8 (.bool s5.1)) 9 (vI s5.2)) 22 (.bool (decide (s5.2 < (p1.fG.length:Int))))) 10 (vI ((rdL p0.fR s5.2).fID))) 42 (.bool b12)) 53 (.bool b21))) (fun tm0 => ?_) (fun key => ?_)
       ·refine oY rfl (y_pick_fb (vB hp14) rfl) ?_
        obtain rfl:=sI h
        exact key _ _ (kp4 (kp4 (kp rfl)))
       ·clear h; rcases iOs hb22 with ⟨hp20,h⟩ | ⟨hp20,h⟩
        ·refine oY (sT rfl rfl rfl rfl hp20) (yFA fo_71_0 rfl) (oY (sT rfl rfl rfl rfl hp20) (yL 1 (v:=.slice Ac p1.fG.length cc) sc_42 rfl rfl rfl) (oY (sT rfl rfl rfl rfl hp20) (yMI rfl) ?_))
         obtain ⟨hg23,h⟩:=gOs h
         refine oY (sT rfl rfl rfl rfl hp20) (yI sl_42 (by decide) hg23.1 hg23.2 (RdL.arg hr1_0) (eL cI_len rfl) rfl rfl) ?_
         refine oY (sT rfl rfl rfl rfl hp20) (yR (A:=Ac) (j:=(Int.toNat s5.2 * 1)) (v:=vI (rdL p1.fG s5.2)) sc_3 (RdL.arg hr1_0) rfl (encL_get0 cI_len hg23.1 (lt_nat hg23.2 rfl) rfl)) (oY (sT rfl rfl rfl rfl hp20) (y_neq rfl rfl) (oY (sT rfl rfl rfl rfl hp14) (y_pick_tb (vB hp20) rfl) ?_))
         obtain rfl:=sI h
         exact key _ _ (kp4 (kp4 (kp (kp rfl))))
        ·refine oSk (sF rfl rfl rfl rfl hp20) (oSk (sF rfl rfl rfl rfl hp20) (oSk (sF rfl rfl rfl rfl hp20) (oSk (sF rfl rfl rfl rfl hp20) (oSk (sF rfl rfl rfl rfl hp20) (oSk (sF rfl rfl rfl rfl hp20) (oY (sT rfl rfl rfl rfl hp14) (y_pick_fb (vB hp20) rfl) ?_))))))
         obtain rfl:=sI h
         exact key _ _ (kp4 (kp4 (kp (kp rfl))))
    ·clear h; rcases iOs hb13 with ⟨hp11,h⟩ | ⟨hp11,h⟩
     ·refine oY (sT rfl rfl rfl rfl hp11) (yFA fo_71_0 rfl) (oY (sT rfl rfl rfl rfl hp11) (yL 1 (v:=.slice Ac p1.fG.length cc) sc_42 rfl rfl rfl) (oY (sT rfl rfl rfl rfl hp11) (yMI rfl) ?_))
      obtain ⟨hg24,h⟩:=gOs h
      refine oY (sT rfl rfl rfl rfl hp11) (yI sl_42 (by decide) hg24.1 hg24.2 (RdL.arg hr1_0) (eL cI_len rfl) rfl rfl) ?_
      refine oY (sT rfl rfl rfl rfl hp11) (yR (A:=Ac) (j:=(Int.toNat s5.2 * 1)) (v:=vI (rdL p1.fG s5.2)) sc_3 (RdL.arg hr1_0) rfl (encL_get0 cI_len hg24.1 (lt_nat hg24.2 rfl) rfl)) (oY (sT rfl rfl rfl rfl hp11) (y_eql rfl rfl) (oY rfl (y_pick_tb (vB hp11) rfl) ?_))
      obtain rfl:=sI h
      exact key _ _ (kp4 (kp4 (kp rfl)))
     ·refine oSk (sF rfl rfl rfl rfl hp11) (oSk (sF rfl rfl rfl rfl hp11) (oSk (sF rfl rfl rfl rfl hp11) (oSk (sF rfl rfl rfl rfl hp11) (oSk (sF rfl rfl rfl rfl hp11) (oSk (sF rfl rfl rfl rfl hp11) (oY rfl (y_pick_fb (vB hp11) rfl) ?_))))))
      obtain rfl:=sI h
      exact key _ _ (kp4 (kp4 (kp rfl)))
   ·refine cF (vB hp7) (cx_exit (ex_then_exit ?_))
    obtain rfl:=sI h
    exact ex_stop ⟨rfl,_,rfl,(kp4 (kp (kp rfl)))⟩
  ·intro e L tm hJ
   rcases u6 with u26 | u27
   ·dsimp only at h hJ
    obtain ⟨rfl,tm0_u26,rfl,rfl⟩:=hJ
    refine ⟨(by intro hc; cases hc),?_⟩
    refine ex_block_ret (ex_then_ret ?_)
    obtain rfl:=sI h
    exact ex_res1 (.inl rfl) rfl (rVt (v:=.bool u26.1) rfl) (fun W2 hW2 => ⟨rfl,hW2.none⟩)
   ·dsimp only at h hJ
    obtain ⟨rfl,tm0_u27,rfl,rfl⟩:=hJ
    refine ⟨(by intro hc; cases hc),?_⟩
    refine ex_block_here (eT (cS (cR (oY rfl (yAB rfl) (oN (eT (cx_ret ?_)))))))
    obtain rfl:=sI h
    exact ex_res1 (.inl rfl) rfl (rVt (v:=.bool true) rfl) (fun W2 hW2 => ⟨rfl,hW2.none⟩)
theorem calxlaw05_worthOf_ok (p0:TY) (p1:(List Int)) (res:(Int × Bool)) (h:calxlaw05_worthOf p0 p1 = some res) (W:World) (Aa:Option Addr) (n0_0 ca : Nat) (hn0_0:n0_0 = p0.fB.length) (hr0_0:Rd W Aa n0_0 ca (encL TBay_cells p0.fB)) (Ab:Option Addr) (n0_1 cb : Nat) (hn0_1:n0_1 = p0.fR.length) (hr0_1:Rd W Ab n0_1 cb (encL TOrder_cells p0.fR)) (Ac:Option Addr) (n1_0 cc : Nat) (hn1_0:n1_0 = p1.length) (hr1_0:Rd W Ac n1_0 cc (encL cI p1)) :
  Calls Tryz.prog 41 [.agg #[.slice Aa n0_0 ca,.slice Ab n0_1 cb],.slice Ac n1_0 cc].toArray W fun e W2 => e = .returned (.tuple #[vI res.1,.bool res.2]) ∧ Ext W W2 []:=by
 subst hn0_0
 subst hn0_1
 subst hn1_0
 unfold calxlaw05_worthOf at h
 refine calls_enter (m:=67) Tryz.func41 rfl rfl (nB rfl) (cS (cR ?_))
 refine ox_box [.slice Aa p0.fB.length ca,.slice Ab p0.fR.length cb] rfl rfl rfl (fun b1 => ?_)
 refine oY rfl (yAI rfl) (oY rfl (yAB rfl) (oN (eT (cS (cS (cR (oY rfl (yMS rfl) (oY rfl (y_len (us:=[]) us_42 rfl) (oY rfl (yFA fo_53_1 rfl) (oY rfl (yL 0 (v:=.slice Ab p0.fR.length cb) sc_51 rfl rfl rfl) (oY rfl (y_len (us:=[]) us_51 rfl) (oY rfl (y_neq rfl rfl) (oN (eT ?_))))))))))))))
 rcases iOs h with ⟨hp2,h⟩ | ⟨hp2,h⟩
 ·refine cT (vB hp2) (cS (cR (oY rfl (yAI rfl) (oY rfl (yAB rfl) (oN (eT (cx_ret (ex_then_ret ?_))))))))
  obtain rfl:=sI h
  exact ex_res2 (.inl rfl) rfl (rVt (v:=vI 0) rfl) (rVt (v:=.bool false) rfl) (fun W2 hW2 => ⟨rfl,hW2.none⟩)
 ·refine cF (vB hp2) (cK (eT (cS (cR (oY rfl (yAI rfl) (oN (eT (cS (cS (cR (oY rfl (yAI rfl) (oN (eT (cB ?_))))))))))))))
  obtain ⟨u5,hl23,h⟩:=bOs h
  refine cx_loop (fun (s:(Int × Bool × Int × Int)) L tm => ∃ (tm0:Nat → Value),L = [cellsR b1 53 [.slice Aa p0.fB.length ca,.slice Ab p0.fR.length cb]] ∧ tm = (upd (upd (upd (upd (upd (upd tm0 1 (.slice Ac p1.length cc)) 2 (.pointer (some ⟨b1,0,none⟩))) 4 (vI s.1)) 5 (.bool s.2.1)) 6 (vI s.2.2.1)) 7 (vI s.2.2.2))) (fun | (.inl s),e,L,tm => e = .ret ∧ ∃ (tm0:Nat → Value),L = [cellsR b1 53 [.slice Aa p0.fB.length ca,.slice Ab p0.fR.length cb]] ∧ tm = (upd (upd (upd (upd (upd (upd tm0 1 (.slice Ac p1.length cc)) 2 (.pointer (some ⟨b1,0,none⟩))) 4 (vI s.1)) 5 (.bool s.2.1)) 6 (vI s.2.2.1)) 7 (vI s.2.2.2)) | (.inr s),e,L,tm => e = .exit 0 ∧ ∃ (tm0:Nat → Value),L = [cellsR b1 53 [.slice Aa p0.fB.length ca,.slice Ab p0.fR.length cb]] ∧ tm = (upd (upd (upd (upd (upd (upd tm0 1 (.slice Ac p1.length cc)) 2 (.pointer (some ⟨b1,0,none⟩))) 4 (vI s.1)) 5 (.bool s.2.1)) 6 (vI s.2.2.1)) 7 (vI s.2.2.2))) hl23 ⟨_,rfl,(kp4 (kp (kp rfl)))⟩ ?_ ?_
  ·rintro s4 L tm st ⟨tm0_s4,rfl,rfl⟩ h
   unfold calxlaw05_worthOf_l1 at h
   refine cS (cS (cR (oY rfl (yMI rfl) (oY rfl (yMS rfl) (oY rfl (y_len (us:=[]) us_42 rfl) (oY rfl (y_lss rfl rfl) (oN (eT ?_))))))))
   rcases iOs h with ⟨hp6,h⟩ | ⟨hp6,h⟩
   ·refine cT (vB hp6) (cK (eT (cS (cB (cS (cS (cR (oY rfl (yMS rfl) (oY rfl (yMI rfl) ?_)))))))))
    obtain ⟨hg7,h⟩:=gOs h
    refine oY rfl (yI sl_42 (by decide) hg7.1 hg7.2 (RdL.arg hr1_0) (eL cI_len rfl) rfl rfl) ?_
    refine oY rfl (yR (A:=Ac) (j:=(Int.toNat s4.2.2.2 * 1)) (v:=vI (rdL p1 s4.2.2.2)) sc_3 (RdL.arg hr1_0) rfl (encL_get0 cI_len hg7.1 (lt_nat hg7.2 rfl) rfl)) (oY rfl (y_eql rfl rfl) (oN (eT ?_)))
    rcases iOs h with ⟨hp8,h⟩ | ⟨hp8,h⟩
    ·refine cT (vB hp8) (cx_exit (ex_then_exit (ex_block_here (eT (cR (oY rfl (yMI rfl) (oY rfl (y_add rfl rfl) (oY rfl (yAI rfl) (oN ?_)))))))))
     obtain rfl:=sI h
     exact eN ⟨_,rfl,(kp4 (kp (kp rfl)))⟩
    ·refine cF (vB hp8) (cK (eT (cS ?_)))
     refine cx_draws 17 mixed (by kernel_rfl) (by kernel_rfl) ?_
     refine qY rfl (yN 0 [.slice Aa p0.fB.length ca,.slice Ab p0.fR.length cb] ag_53 rfl rfl rfl) (qY rfl (yFA fo_53_1 rfl) (qY rfl (yL 0 (v:=.slice Ab p0.fR.length cb) sc_51 rfl rfl rfl) (qY rfl (yMI rfl) ?_)))
     obtain ⟨hg9,h⟩:=gOs h
     refine qY rfl (yI sl_51 (by decide) hg9.1 hg9.2 (RdL.arg hr0_1) (eL TOrder_cells_len rfl) rfl rfl) ?_
     refine qY rfl (yFR (A:=Ab) (j:=(Int.toNat s4.2.2.2 * 5)) fo_65_0 rfl) (qY rfl (yR (A:=Ab) (j:=((Int.toNat s4.2.2.2 * 5) + 0)) (v:=vI ((rdL p0.fR s4.2.2.2).fID)) sc_3 (RdL.arg hr0_1) rfl (eG TOrder_cells_len hg9.1 (lt_nat hg9.2 rfl) rfl)) (qY rfl (yMS rfl) (qY rfl (yMI rfl) ?_)))
     obtain ⟨hg10,h⟩:=gOs h
     refine qY rfl (yI sl_42 (by decide) hg10.1 hg10.2 (RdL.arg hr1_0) (eL cI_len rfl) rfl rfl) ?_
     refine qY rfl (yR (A:=Ac) (j:=(Int.toNat s4.2.2.2 * 1)) (v:=vI (rdL p1 s4.2.2.2)) sc_3 (RdL.arg hr1_0) rfl (encL_get0 cI_len hg10.1 (lt_nat hg10.2 rfl) rfl)) ?_
     obtain ⟨y11,hy12,h⟩:=bOs h
     refine qY rfl (yC [.agg #[.slice Aa p0.fB.length ca,.slice Ab p0.fR.length cb],vI ((rdL p0.fR s4.2.2.2).fID),vI (rdL p1 s4.2.2.2)] go_38 rfl (fun W2 hW2 => cart_Suits_ok p0 ((rdL p0.fR s4.2.2.2).fID) (rdL p1 s4.2.2.2) y11 hy12 W2 Aa p0.fB.length ca rfl ((RdL.arg hr0_0) W2 hW2) Ab p0.fR.length cb rfl ((RdL.arg hr0_1) W2 hW2)) rfl) (qY rfl (y_move_tuple rfl) (qY rfl (yE (vs:=[.bool y11.1,vI y11.2]) (v:=.bool y11.1) rfl rfl) (qY rfl (yE (vs:=[.bool y11.1,vI y11.2]) (v:=vI y11.2) rfl rfl) (qY rfl (yAB rfl) (qY rfl (yAI rfl) (qx_nil (oN (eT (cS (cS ?_))))))))))
     refine cx_draws 16 mixed (by kernel_rfl) (by kernel_rfl) ?_
     refine qY rfl (yMI rfl) (qY rfl (y_neq rfl rfl) (qY rfl (yMB rfl) ?_))
     refine qJ 3 (fun tm0 => (upd (upd (upd (upd (upd (upd (upd (upd (upd (upd (upd tm0 1 (.slice Ac p1.length cc)) 2 (.pointer (some ⟨b1,0,none⟩))) 4 (vI s4.1)) 5 (.bool s4.2.1)) 6 (vI s4.2.2.1)) 7 (vI s4.2.2.2)) 19 (.bool (decide (s4.2.2.2 < (p1.length:Int))))) 26 (.bool ((rdL p1 s4.2.2.2) == 0))) 8 (.bool y11.1)) 9 (vI y11.2)) 47 (.bool ((y11.2 != 0) || (!y11.1))))) (fun tm0 => ?_) (fun key => ?_)
     ·refine qY rfl (yMB rfl) ?_
      obtain ⟨b15,hb16,h⟩:=bOs h
      refine qJ 9 (fun tm0 => (upd (upd (upd (upd (upd (upd (upd (upd (upd (upd (upd tm0 1 (.slice Ac p1.length cc)) 2 (.pointer (some ⟨b1,0,none⟩))) 4 (vI s4.1)) 5 (.bool s4.2.1)) 6 (vI s4.2.2.1)) 7 (vI s4.2.2.2)) 19 (.bool (decide (s4.2.2.2 < (p1.length:Int))))) 26 (.bool ((rdL p1 s4.2.2.2) == 0))) 8 (.bool y11.1)) 9 (vI y11.2)) 57 (.bool b15))) (fun tm0 => ?_) (fun key => ?_)
      ·refine qx_nil (oN (eT ?_))
       rcases iOs h with ⟨hp17,h⟩ | ⟨hp17,h⟩
       ·refine cT (vB hp17) (cS (cR (oY rfl (yAI rfl) (oY rfl (yAB rfl) (oN (eT (cx_ret (ex_then_ret (ex_block_ret (ex_then_ret ?_))))))))))
        obtain rfl:=sI h
        exact ex_stop ⟨rfl,_,rfl,(kp4 (kp (kp rfl)))⟩
       ·refine cF (vB hp17) (cK (eT (cR (oY rfl (yMI rfl) (oY rfl (yFA fo_53_1 rfl) (oY rfl (yL 0 (v:=.slice Ab p0.fR.length cb) sc_51 rfl rfl rfl) (oY rfl (yMI rfl) ?_)))))))
        obtain ⟨hg18,h⟩:=gOs h
        refine oY rfl (yI sl_51 (by decide) hg18.1 hg18.2 (RdL.arg hr0_1) (eL TOrder_cells_len rfl) rfl rfl) ?_
        refine oY rfl (yFR (A:=Ab) (j:=(Int.toNat s4.2.2.2 * 5)) fo_65_3 rfl) (oY rfl (yR (A:=Ab) (j:=((Int.toNat s4.2.2.2 * 5) + 4)) (v:=vI ((rdL p0.fR s4.2.2.2).fW)) sc_3 (RdL.arg hr0_1) rfl (eG TOrder_cells_len hg18.1 (lt_nat hg18.2 rfl) rfl)) (oY rfl (y_add rfl rfl) (oY rfl (yAI rfl) (oN (ex_block (eT (cR (oY rfl (yMI rfl) (oY rfl (y_add rfl rfl) (oY rfl (yAI rfl) (oN ?_)))))))))))
        obtain rfl:=sI h
        exact eN ⟨_,rfl,(kp4 (kp (kp rfl)))⟩
      ·clear h; rcases iOs hb16 with ⟨hp14,h⟩ | ⟨hp14,h⟩
       ·refine qx_skip (sF rfl rfl rfl rfl hp14) (qx_skip (sF rfl rfl rfl rfl hp14) (qx_skip (sF rfl rfl rfl rfl hp14) (qx_skip (sF rfl rfl rfl rfl hp14) (qx_skip (sF rfl rfl rfl rfl hp14) (qx_skip (sF rfl rfl rfl rfl hp14) (qx_skip (sF rfl rfl rfl rfl hp14) (qx_skip (sF rfl rfl rfl rfl hp14) (qY rfl (y_pick_tb (vB hp14) rfl) ?_))))))))
        obtain rfl:=sI h
        exact key _ _ (kp4 (kp4 (kp (kp (kp rfl)))))
       ·refine qY (sT rfl rfl rfl rfl hp14) (yMS rfl) (qY (sT rfl rfl rfl rfl hp14) (yMI rfl) ?_)
        obtain ⟨hg19,h⟩:=gOs h
        refine qY (sT rfl rfl rfl rfl hp14) (y_cutH sl_42 hg19.1 hg19.2 (RdL.arg hr1_0) rfl rfl) (qY (sT rfl rfl rfl rfl hp14) (yMS rfl) (qY (sT rfl rfl rfl rfl hp14) (yMI rfl) ?_))
        obtain ⟨hg20,h⟩:=gOs h
        refine qY (sT rfl rfl rfl rfl hp14) (yI sl_42 (by decide) hg20.1 hg20.2 (RdL.arg hr1_0) (eL cI_len rfl) rfl rfl) ?_
        refine qY (sT rfl rfl rfl rfl hp14) (yR (A:=Ac) (j:=(Int.toNat s4.2.2.2 * 1)) (v:=vI (rdL p1 s4.2.2.2)) sc_3 (RdL.arg hr1_0) rfl (encL_get0 cI_len hg20.1 (lt_nat hg20.2 rfl) rfl)) ?_
        obtain ⟨y21,hy22,h⟩:=bOs h
        refine qY (sT rfl rfl rfl rfl hp14) (yC [.slice Ac (Int.toNat s4.2.2.2) cc,vI (rdL p1 s4.2.2.2)] go_36 rfl (fun W2 hW2 => calxlaw05_has_ok (p1.take (Int.toNat s4.2.2.2)) (rdL p1 s4.2.2.2) y21 hy22 W2 Ac (Int.toNat s4.2.2.2) cc (cutH_len hg19.2 rfl) ((RdL.cutH cI_len (RdL.arg hr1_0) hg19.1 hg19.2) W2 hW2)) rfl) (qY rfl (y_pick_fb (vB hp14) rfl) ?_)
        obtain rfl:=sI h
        exact key _ _ (kp4 (kp4 (kp (kp (kp rfl)))))
     ·rcases bool_cases (y11.2 != 0) with hp13 | hp13
      ·refine qx_skip (sF rfl rfl rfl rfl hp13) (qx_skip (sF rfl rfl rfl rfl hp13) (qY rfl (y_pick_tb (vB hp13) rfl) ?_))
       exact key _ _ (keep (keep (keep (keep (keep (keep (keep (keep (keep (keep (keep rfl rfl) rfl) rfl) rfl) rfl) rfl) rfl) rfl) rfl) rfl) (vB (or_t hp13)))
      ·refine qY (sT rfl rfl rfl rfl hp13) (yMB rfl) (qY (sT rfl rfl rfl rfl hp13) (y_not rfl) (qY rfl (y_pick_fb (vB hp13) rfl) ?_))
       exact key _ _ (keep (keep (keep (keep (keep (keep (keep (keep (keep (keep (keep rfl rfl) rfl) rfl) rfl) rfl) rfl) rfl) rfl) rfl) rfl) (vB (or_f hp13)))
   ·refine cF (vB hp6) (cx_exit (ex_then_exit ?_))
    obtain rfl:=sI h
    exact ex_stop ⟨rfl,_,rfl,(kp4 (kp (kp rfl)))⟩
  ·intro e L tm hJ
   rcases u5 with u24 | u25
   ·dsimp only at h hJ
    obtain ⟨rfl,tm0_u24,rfl,rfl⟩:=hJ
    refine ⟨(by intro hc; cases hc),?_⟩
    refine ex_block_ret (ex_then_ret ?_)
    obtain rfl:=sI h
    exact ex_res2 (.inl rfl) rfl (rVt (v:=vI u24.1) rfl) (rVt (v:=.bool u24.2.1) rfl) (fun W2 hW2 => ⟨rfl,hW2.none⟩)
   ·dsimp only at h hJ
    obtain ⟨rfl,tm0_u25,rfl,rfl⟩:=hJ
    refine ⟨(by intro hc; cases hc),?_⟩
    refine ex_block_here (eT (cS (cR (oY rfl (yMI rfl) (oY rfl (yAI rfl) (oY rfl (yAB rfl) (oN (eT (cx_ret ?_)))))))))
    obtain rfl:=sI h
    exact ex_res2 (.inl rfl) rfl (rVt (v:=vI u25.2.2.1) rfl) (rVt (v:=.bool true) rfl) (fun W2 hW2 => ⟨rfl,hW2.none⟩)
theorem calxlaw05_CartServes_ok (p0:TY) (p1:TPlan) (res:Bool) (h:calxlaw05_CartServes p0 p1 = some res) (W:World) (Aa:Option Addr) (n0_0 ca : Nat) (hn0_0:n0_0 = p0.fB.length) (hr0_0:Rd W Aa n0_0 ca (encL TBay_cells p0.fB)) (Ab:Option Addr) (n0_1 cb : Nat) (hn0_1:n0_1 = p0.fR.length) (hr0_1:Rd W Ab n0_1 cb (encL TOrder_cells p0.fR)) (Ac:Option Addr) (n1_0 cc : Nat) (hn1_0:n1_0 = p1.fG.length) (hr1_0:Rd W Ac n1_0 cc (encL cI p1.fG)) (A1_2:Option Addr) (n1_2 c1_2 : Nat) (hn1_2:n1_2 = p1.fPrices.length) (hr1_2:Rd W A1_2 n1_2 c1_2 (encL cI p1.fPrices)) :
  Calls Tryz.prog 9 [.agg #[.slice Aa n0_0 ca,.slice Ab n0_1 cb],.agg #[.slice Ac n1_0 cc,vI p1.fW,.slice A1_2 n1_2 c1_2]].toArray W fun e W2 => e = .returned (.bool res) ∧ Ext W W2 []:=by
 subst hn0_0
 subst hn0_1
 subst hn1_0
 subst hn1_2
 unfold calxlaw05_CartServes at h
 refine calls_enter (m:=119) Tryz.func9 rfl rfl (nB rfl) (cS (cR ?_))
 refine ox_box [.slice Aa p0.fB.length ca,.slice Ab p0.fR.length cb] rfl rfl rfl (fun b1 => ?_)
 refine ox_box [.slice Ac p1.fG.length cc,vI p1.fW,.slice A1_2 p1.fPrices.length c1_2] rfl rfl rfl (fun b2 => ?_)
 refine oY rfl (yAB rfl) (oN (eT (cS (cS (cR (oY rfl (yN 0 [.slice Aa p0.fB.length ca,.slice Ab p0.fR.length cb] ag_53 rfl rfl rfl) ?_))))))
 obtain ⟨y3,hy4,h⟩:=bOs h
 refine oY rfl (yC [.agg #[.slice Aa p0.fB.length ca,.slice Ab p0.fR.length cb]] go_26 rfl (fun W2 hW2 => calxlaw05_yard_ok p0 y3 hy4 W2 Aa p0.fB.length ca rfl ((RdL.arg hr0_0) W2 hW2) Ab p0.fR.length cb rfl ((RdL.arg hr0_1) W2 hW2)) rfl) (oY rfl (y_not rfl) (oY rfl (yMB rfl) ?_))
 refine oJ 5 (fun tm0 => (upd (upd (upd (upd tm0 2 (.pointer (some ⟨b1,0,none⟩))) 3 (.pointer (some ⟨b2,0,none⟩))) 4 (.bool false)) 23 (.bool ((!y3) || (decide (60 < (p1.fG.length:Int))))))) (fun tm0 => ?_) (fun key => ?_)
 ·refine oY rfl (yMB rfl) ?_
  refine oJ 5 (fun tm0 => (upd (upd (upd (upd tm0 2 (.pointer (some ⟨b1,0,none⟩))) 3 (.pointer (some ⟨b2,0,none⟩))) 4 (.bool false)) 29 (.bool (((!y3) || (decide (60 < (p1.fG.length:Int)))) || (decide (60 < (p1.fPrices.length:Int))))))) (fun tm0 => ?_) (fun key => ?_)
  ·refine oN (eT ?_)
   rcases iOs h with ⟨hp7,h⟩ | ⟨hp7,h⟩
   ·refine cT (vB hp7) (cS (cR ?_))
    obtain ⟨y8,hy9,h⟩:=bOs h
    refine oY rfl (yC [] go_17 rfl (fun W2 hW2 => calxlaw05_sanity_ok  y8 hy9 W2 ) rfl) (oY rfl (yAB rfl) (oN (eT (cx_ret (ex_then_ret ?_)))))
    obtain rfl:=sI h
    exact ex_res1 (.inl rfl) rfl (rVt (v:=.bool y8) rfl) (fun W2 hW2 => ⟨rfl,hW2.none⟩)
   ·refine cF (vB hp7) (cK (eT (cS (cR (oY rfl (yN 0 [.slice Aa p0.fB.length ca,.slice Ab p0.fR.length cb] ag_53 rfl rfl rfl) ?_)))))
    obtain ⟨y10,hy11,h⟩:=bOs h
    refine oC [.agg #[.slice Aa p0.fB.length ca,.slice Ab p0.fR.length cb]] _ _ _ rfl go_37 rfl (fun W2 hW2 => cart_Serve_ok p0 y10 hy11 W2 Aa p0.fB.length ca rfl ((RdL.arg hr0_0) W2 hW2) Ab p0.fR.length cb rfl ((RdL.arg hr0_1) W2 hW2)) ?_
    rintro ⟨⟨A12,n16,c13⟩,⟨A14,n18,c15⟩⟩ ⟨hn17,hn19⟩
    replace hn17 : n16 = y10.1.fG.length:=hn17; subst hn17
    replace hn19 : n18 = y10.1.fPrices.length:=hn19; subst hn19
    refine oY rfl (y_move_tuple rfl) (oY rfl (yE (vs:=[.agg #[.slice A12 y10.1.fG.length c13,vI y10.1.fW,.slice A14 y10.1.fPrices.length c15],vI y10.2]) (v:=.agg #[.slice A12 y10.1.fG.length c13,vI y10.1.fW,.slice A14 y10.1.fPrices.length c15]) rfl rfl) (oY rfl (yE (vs:=[.agg #[.slice A12 y10.1.fG.length c13,vI y10.1.fW,.slice A14 y10.1.fPrices.length c15],vI y10.2]) (v:=vI y10.2) rfl rfl) ?_))
    refine ox_alloc ze_71 rfl (fun b20 => ?_)
    refine ox_n rfl (yS 4 [.slice A12 y10.1.fG.length c13,vI y10.1.fW,.slice A14 y10.1.fPrices.length c15] sz_71 rfl (nB rfl) rfl rfl rfl) (oY rfl (yAI rfl) (oN (eT (cS (cS (cR (oY rfl (yMI rfl) (oY rfl (y_neq rfl rfl) (oN (eT ?_))))))))))
    rcases iOs h with ⟨hp21,h⟩ | ⟨hp21,h⟩
    ·refine cT (vB hp21) (cS (cR ?_))
     obtain ⟨y22,hy23,h⟩:=bOs h
     refine oY rfl (yC [] go_17 rfl (fun W2 hW2 => calxlaw05_sanity_ok  y22 hy23 W2 ) rfl) (oY rfl (yAB rfl) (oN (eT (cx_ret (ex_then_ret ?_)))))
     obtain rfl:=sI h
     exact ex_res1 (.inl rfl) rfl (rVt (v:=.bool y22) rfl) (fun W2 hW2 => ⟨rfl,hW2.none⟩)
    ·refine cF (vB hp21) (cK (eT (cS (cR (oY rfl (yN 0 [.slice Aa p0.fB.length ca,.slice Ab p0.fR.length cb] ag_53 rfl rfl rfl) ?_)))))
     obtain ⟨y24,hy25,h⟩:=bOs h
     refine oC [.agg #[.slice Aa p0.fB.length ca,.slice Ab p0.fR.length cb]] _ _ _ rfl go_27 rfl (fun W2 hW2 => cart_Surely_ok p0 y24 hy25 W2 Aa p0.fB.length ca rfl ((RdL.arg hr0_0) W2 hW2) Ab p0.fR.length cb rfl ((RdL.arg hr0_1) W2 hW2)) ?_
     rintro ⟨A26,n28,c27⟩ hn29
     replace hn29 : n28 = y24.1.length:=hn29; subst hn29
     try dsimp only [lna,lca,lsz,lss]
     refine oY rfl (y_move_tuple rfl) (oY rfl (yE (vs:=[.slice A26 y24.1.length c27,vI y24.2]) (v:=.slice A26 y24.1.length c27) rfl rfl) (oY rfl (yE (vs:=[.slice A26 y24.1.length c27,vI y24.2]) (v:=vI y24.2) rfl rfl) (oY rfl (yAS rfl) (oY rfl (yAI rfl) (oN (eT (cS (cR (oY rfl (yN 0 [.slice Aa p0.fB.length ca,.slice Ab p0.fR.length cb] ag_53 rfl rfl rfl) ?_)))))))))
     obtain ⟨y30,hy31,h⟩:=bOs h
     refine oC [.agg #[.slice Aa p0.fB.length ca,.slice Ab p0.fR.length cb]] _ _ _ rfl go_29 rfl (fun W2 hW2 => cart_Never_ok p0 y30 hy31 W2 Aa p0.fB.length ca rfl ((RdL.arg hr0_0) W2 hW2) Ab p0.fR.length cb rfl ((RdL.arg hr0_1) W2 hW2)) ?_
     rintro ⟨A32,n34,c33⟩ hn35
     replace hn35 : n34 = y30.1.length:=hn35; subst hn35
     try dsimp only [lna,lca,lsz,lss]
     refine oY rfl (y_move_tuple rfl) (oY rfl (yE (vs:=[.slice A32 y30.1.length c33,vI y30.2]) (v:=.slice A32 y30.1.length c33) rfl rfl) (oY rfl (yE (vs:=[.slice A32 y30.1.length c33,vI y30.2]) (v:=vI y30.2) rfl rfl) (oY rfl (yAS rfl) (oY rfl (yAI rfl) (oN (eT (cS (cR (oY rfl (yN 0 [.slice Aa p0.fB.length ca,.slice Ab p0.fR.length cb] ag_53 rfl rfl rfl) ?_)))))))))
     obtain ⟨y36,hy37,h⟩:=bOs h
     refine oY rfl (yC [.agg #[.slice Aa p0.fB.length ca,.slice Ab p0.fR.length cb]] go_35 rfl (fun W2 hW2 => cart_Worth_ok p0 y36 hy37 W2 Aa p0.fB.length ca rfl ((RdL.arg hr0_0) W2 hW2) Ab p0.fR.length cb rfl ((RdL.arg hr0_1) W2 hW2)) rfl) (oY rfl (y_move_tuple rfl) (oY rfl (yE (vs:=[vI y36.1,vI y36.2]) (v:=vI y36.1) rfl rfl) (oY rfl (yE (vs:=[vI y36.1,vI y36.2]) (v:=vI y36.2) rfl rfl) (oY rfl (yAI rfl) (oY rfl (yAI rfl) (oN (eT (cS (cS (cR (oY rfl (yMI rfl) (oY rfl (y_neq rfl rfl) (oY rfl (yMB rfl) ?_)))))))))))))
     refine oJ 3 (fun tm0 => (upd (upd (upd (upd (upd (upd (upd (upd (upd tm0 2 (.pointer (some ⟨b1,0,none⟩))) 3 (.pointer (some ⟨b2,0,none⟩))) 4 (.bool false)) 5 (.pointer (some ⟨b20,0,none⟩))) 7 (.slice A26 y24.1.length c27)) 9 (.slice A32 y30.1.length c33)) 11 (vI y36.1)) 12 (vI y36.2)) 59 (.bool ((y24.2 != 0) || (y30.2 != 0))))) (fun tm0 => ?_) (fun key => ?_)
     ·refine oY rfl (yMB rfl) ?_
      refine oJ 3 (fun tm0 => (upd (upd (upd (upd (upd (upd (upd (upd tm0 2 (.pointer (some ⟨b1,0,none⟩))) 3 (.pointer (some ⟨b2,0,none⟩))) 4 (.bool false)) 5 (.pointer (some ⟨b20,0,none⟩))) 7 (.slice A26 y24.1.length c27)) 9 (.slice A32 y30.1.length c33)) 11 (vI y36.1)) 63 (.bool (((y24.2 != 0) || (y30.2 != 0)) || (y36.2 != 0))))) (fun tm0 => ?_) (fun key => ?_)
      ·refine oY rfl (yMB rfl) ?_
       refine oJ 5 (fun tm0 => (upd (upd (upd (upd (upd (upd (upd (upd tm0 2 (.pointer (some ⟨b1,0,none⟩))) 3 (.pointer (some ⟨b2,0,none⟩))) 4 (.bool false)) 5 (.pointer (some ⟨b20,0,none⟩))) 7 (.slice A26 y24.1.length c27)) 9 (.slice A32 y30.1.length c33)) 11 (vI y36.1)) 69 (.bool ((((y24.2 != 0) || (y30.2 != 0)) || (y36.2 != 0)) || (y36.1 != y10.1.fW))))) (fun tm0 => ?_) (fun key => ?_)
       ·refine oY rfl (yMB rfl) ?_
        obtain ⟨b42,hb43,h⟩:=bOs h
        refine oJ 5 (fun tm0 => (upd (upd (upd (upd (upd (upd (upd (upd tm0 2 (.pointer (some ⟨b1,0,none⟩))) 3 (.pointer (some ⟨b2,0,none⟩))) 4 (.bool false)) 5 (.pointer (some ⟨b20,0,none⟩))) 7 (.slice A26 y24.1.length c27)) 9 (.slice A32 y30.1.length c33)) 11 (vI y36.1)) 75 (.bool b42))) (fun tm0 => ?_) (fun key => ?_)
        ·refine oY rfl (yMB rfl) ?_
         obtain ⟨b45,hb46,h⟩:=bOs h
         refine oJ 7 (fun tm0 => (upd (upd (upd (upd (upd (upd (upd tm0 2 (.pointer (some ⟨b1,0,none⟩))) 3 (.pointer (some ⟨b2,0,none⟩))) 4 (.bool false)) 7 (.slice A26 y24.1.length c27)) 9 (.slice A32 y30.1.length c33)) 11 (vI y36.1)) 83 (.bool b45))) (fun tm0 => ?_) (fun key => ?_)
         ·refine oN (eT ?_)
          rcases iOs h with ⟨hp47,h⟩ | ⟨hp47,h⟩
          ·refine cT (vB hp47) (cS (cR (oY rfl (yAB rfl) (oN (eT (cx_ret (ex_then_ret ?_)))))))
           obtain rfl:=sI h
           exact ex_res1 (.inl rfl) rfl (rVt (v:=.bool false) rfl) (fun W2 hW2 => ⟨rfl,hW2.none⟩)
          ·refine cF (vB hp47) (cK (eT (cS (cS (cR (oY rfl (yN 0 [.slice Aa p0.fB.length ca,.slice Ab p0.fR.length cb] ag_53 rfl rfl rfl) (oY rfl (yN 1 [.slice Ac p1.fG.length cc,vI p1.fW,.slice A1_2 p1.fPrices.length c1_2] ag_71 rfl rfl rfl) ?_)))))))
           obtain ⟨y48,hy49,h⟩:=bOs h
           refine oY rfl (yC [.agg #[.slice Aa p0.fB.length ca,.slice Ab p0.fR.length cb],.agg #[.slice Ac p1.fG.length cc,vI p1.fW,.slice A1_2 p1.fPrices.length c1_2]] go_39 rfl (fun W2 hW2 => cart_CheckPlan_ok p0 p1 y48 hy49 W2 Aa p0.fB.length ca rfl ((RdL.arg hr0_0) W2 hW2) Ab p0.fR.length cb rfl ((RdL.arg hr0_1) W2 hW2) Ac p1.fG.length cc rfl ((RdL.arg hr1_0) W2 hW2) A1_2 p1.fPrices.length c1_2 rfl ((RdL.arg hr1_2) W2 hW2)) rfl) (oY rfl (y_eql rfl rfl) (oY rfl (yMB rfl) ?_))
           obtain ⟨b51,hb52,h⟩:=bOs h
           refine oJ 13 (fun tm0 => (upd (upd (upd (upd (upd tm0 2 (.pointer (some ⟨b1,0,none⟩))) 3 (.pointer (some ⟨b2,0,none⟩))) 4 (.bool false)) 11 (vI y36.1)) 101 (.bool b51))) (fun tm0 => ?_) (fun key => ?_)
           ·refine oN (eT ?_)
            rcases iOs h with ⟨hp53,h⟩ | ⟨hp53,h⟩
            ·refine cT (vB hp53) (cS (cR (oY rfl (yAB rfl) (oN (eT (cx_ret (ex_then_ret ?_)))))))
             obtain rfl:=sI h
             exact ex_res1 (.inl rfl) rfl (rVt (v:=.bool false) rfl) (fun W2 hW2 => ⟨rfl,hW2.none⟩)
            ·refine cF (vB hp53) (cK (eT (cS (cR (oY rfl (yN 0 [.slice Aa p0.fB.length ca,.slice Ab p0.fR.length cb] ag_53 rfl rfl rfl) (oY rfl (yFA fo_71_0 rfl) (oY rfl (yL 1 (v:=.slice Ac p1.fG.length cc) sc_42 rfl rfl rfl) ?_)))))))
             obtain ⟨y54,hy55,h⟩:=bOs h
             refine oY rfl (yC [.agg #[.slice Aa p0.fB.length ca,.slice Ab p0.fR.length cb],.slice Ac p1.fG.length cc] go_41 rfl (fun W2 hW2 => calxlaw05_worthOf_ok p0 p1.fG y54 hy55 W2 Aa p0.fB.length ca rfl ((RdL.arg hr0_0) W2 hW2) Ab p0.fR.length cb rfl ((RdL.arg hr0_1) W2 hW2) Ac p1.fG.length cc rfl ((RdL.arg hr1_0) W2 hW2)) rfl) (oY rfl (y_move_tuple rfl) (oY rfl (yE (vs:=[vI y54.1,.bool y54.2]) (v:=vI y54.1) rfl rfl) (oY rfl (yE (vs:=[vI y54.1,.bool y54.2]) (v:=.bool y54.2) rfl rfl) (oY rfl (yAI rfl) (oY rfl (yAB rfl) (oN (eT (cS (cR ?_)))))))))
             obtain ⟨y56,hy57,h⟩:=bOs h
             refine oY rfl (yC [] go_17 rfl (fun W2 hW2 => calxlaw05_sanity_ok  y56 hy57 W2 ) rfl) (oY rfl (yMB rfl) ?_)
             refine oJ 8 (fun tm0 => (upd (upd tm0 4 (.bool false)) 118 (.bool (y56 && ((!y54.2) || (decide (y54.1 ≤ y36.1))))))) (fun tm0 => ?_) (fun key => ?_)
             ·refine oY rfl (yAB rfl) (oN (eT (cx_ret ?_)))
              obtain rfl:=sI h
              exact ex_res1 (.inl rfl) rfl (rVt (v:=.bool (y56 && ((!y54.2) || (decide (y54.1 ≤ y36.1))))) rfl) (fun W2 hW2 => ⟨rfl,hW2.none⟩)
             ·rcases bool_cases y56 with hp58 | hp58
              ·refine oY (sT rfl rfl rfl rfl hp58) (yMB rfl) (oY (sT rfl rfl rfl rfl hp58) (y_not rfl) (oY (sT rfl rfl rfl rfl hp58) (yMB rfl) ?_))
               refine oJ 4 (fun tm0 => (upd (upd (upd tm0 4 (.bool false)) 110 (.bool y56)) 117 (.bool ((!y54.2) || (decide (y54.1 ≤ y36.1)))))) (fun tm0 => ?_) (fun key => ?_)
               ·refine oY rfl (y_pick_tb (vB hp58) rfl) ?_
                exact key _ _ (keep (keep rfl rfl) (vB (and_t hp58)))
               ·rcases bool_cases (!y54.2) with hp59 | hp59
                ·refine oSk (sF rfl rfl rfl rfl hp59) (oSk (sF rfl rfl rfl rfl hp59) (oSk (sF rfl rfl rfl rfl hp59) (oY (sT rfl rfl rfl rfl hp58) (y_pick_tb (vB hp59) rfl) ?_)))
                 exact key _ _ (keep (keep (keep rfl rfl) rfl) (vB (or_t hp59)))
                ·refine oY (sT rfl rfl rfl rfl hp59) (yMI rfl) (oY (sT rfl rfl rfl rfl hp59) (yMI rfl) (oY (sT rfl rfl rfl rfl hp59) (y_leq rfl rfl) (oY (sT rfl rfl rfl rfl hp58) (y_pick_fb (vB hp59) rfl) ?_)))
                 exact key _ _ (keep (keep (keep rfl rfl) rfl) (vB (or_f hp59)))
              ·refine oSk (sF rfl rfl rfl rfl hp58) (oSk (sF rfl rfl rfl rfl hp58) (oSk (sF rfl rfl rfl rfl hp58) (oSk rfl (oSk rfl (oSk rfl (oSk (sF rfl rfl rfl rfl hp58) (oY rfl (y_pick_fb (vB hp58) rfl) ?_)))))))
               exact key _ _ (keep (keep rfl rfl) (vB (and_f hp58)))
           ·clear h; rcases iOs hb52 with ⟨hp50,h⟩ | ⟨hp50,h⟩
            ·refine oY (sT rfl rfl rfl rfl hp50) (yFA fo_71_1 rfl) (oY (sT rfl rfl rfl rfl hp50) (yL 1 (v:=vI p1.fW) sc_3 rfl rfl rfl) (oY (sT rfl rfl rfl rfl hp50) (yMI rfl) (oY (sT rfl rfl rfl rfl hp50) (y_neq rfl rfl) (oY (sT rfl rfl rfl rfl hp50) (yMB rfl) ?_))))
             obtain ⟨b61,hb62,h⟩:=bOs h
             refine oJ 7 (fun tm0 => (upd (upd (upd (upd (upd (upd tm0 2 (.pointer (some ⟨b1,0,none⟩))) 3 (.pointer (some ⟨b2,0,none⟩))) 4 (.bool false)) 11 (vI y36.1)) 88 (.bool (y48 == 0))) 100 (.bool b61))) (fun tm0 => ?_) (fun key => ?_)
             ·refine oY rfl (y_pick_tb (vB hp50) rfl) ?_
              obtain rfl:=sI h
              exact key _ _ (kp4 (kp rfl))
             ·clear h; rcases iOs hb62 with ⟨hp60,h⟩ | ⟨hp60,h⟩
              ·refine oSk (sF rfl rfl rfl rfl hp60) (oSk (sF rfl rfl rfl rfl hp60) (oSk (sF rfl rfl rfl rfl hp60) (oSk (sF rfl rfl rfl rfl hp60) (oSk (sF rfl rfl rfl rfl hp60) (oSk (sF rfl rfl rfl rfl hp60) (oY (sT rfl rfl rfl rfl hp50) (y_pick_tb (vB hp60) rfl) ?_))))))
               obtain rfl:=sI h
               exact key _ _ (kp4 (kp (kp rfl)))
              ·refine oY (sT rfl rfl rfl rfl hp60) (yN 0 [.slice Aa p0.fB.length ca,.slice Ab p0.fR.length cb] ag_53 rfl rfl rfl) (oY (sT rfl rfl rfl rfl hp60) (yN 1 [.slice Ac p1.fG.length cc,vI p1.fW,.slice A1_2 p1.fPrices.length c1_2] ag_71 rfl rfl rfl) (oY (sT rfl rfl rfl rfl hp60) (yMS rfl) (oY (sT rfl rfl rfl rfl hp60) (yMS rfl) ?_)))
               obtain ⟨y63,hy64,h⟩:=bOs h
               refine oY (sT rfl rfl rfl rfl hp60) (yC [.agg #[.slice Aa p0.fB.length ca,.slice Ab p0.fR.length cb],.agg #[.slice Ac p1.fG.length cc,vI p1.fW,.slice A1_2 p1.fPrices.length c1_2],.slice A26 y24.1.length c27,.slice A32 y30.1.length c33] go_40 rfl (fun W2 hW2 => calxlaw05_keeps_ok p0 p1 y24.1 y30.1 y63 hy64 W2 Aa p0.fB.length ca rfl ((RdL.arg hr0_0) W2 hW2) Ab p0.fR.length cb rfl ((RdL.arg hr0_1) W2 hW2) Ac p1.fG.length cc rfl ((RdL.arg hr1_0) W2 hW2) A1_2 p1.fPrices.length c1_2 rfl ((RdL.arg hr1_2) W2 hW2) A26 y24.1.length c27 rfl ((RdL.row 5 rfl) W2 hW2) A32 y30.1.length c33 rfl ((RdL.row 6 rfl) W2 hW2)) rfl) (oY (sT rfl rfl rfl rfl hp60) (y_not rfl) (oY (sT rfl rfl rfl rfl hp50) (y_pick_fb (vB hp60) rfl) ?_))
               obtain rfl:=sI h
               exact key _ _ (kp4 (kp (kp rfl)))
            ·refine oSk (sF rfl rfl rfl rfl hp50) (oSk (sF rfl rfl rfl rfl hp50) (oSk (sF rfl rfl rfl rfl hp50) (oSk (sF rfl rfl rfl rfl hp50) (oSk (sF rfl rfl rfl rfl hp50) (oSk rfl (oSk rfl (oSk rfl (oSk rfl (oSk rfl (oSk rfl (oSk (sF rfl rfl rfl rfl hp50) (oY rfl (y_pick_fb (vB hp50) rfl) ?_))))))))))))
             obtain rfl:=sI h
             exact key _ _ (kp4 (kp rfl))
         ·clear h; rcases iOs hb46 with ⟨hp44,h⟩ | ⟨hp44,h⟩
          ·refine oSk (sF rfl rfl rfl rfl hp44) (oSk (sF rfl rfl rfl rfl hp44) (oSk (sF rfl rfl rfl rfl hp44) (oSk (sF rfl rfl rfl rfl hp44) (oSk (sF rfl rfl rfl rfl hp44) (oSk (sF rfl rfl rfl rfl hp44) (oY rfl (y_pick_tb (vB hp44) rfl) ?_))))))
           obtain rfl:=sI h
           exact key _ _ (kp4 (kp (kp (kp rfl))))
          ·refine oY (sT rfl rfl rfl rfl hp44) (yN 0 [.slice Aa p0.fB.length ca,.slice Ab p0.fR.length cb] ag_53 rfl rfl rfl) (oY (sT rfl rfl rfl rfl hp44) (yN 4 [.slice A12 y10.1.fG.length c13,vI y10.1.fW,.slice A14 y10.1.fPrices.length c15] ag_71 rfl rfl rfl) (oY (sT rfl rfl rfl rfl hp44) (yMS rfl) (oY (sT rfl rfl rfl rfl hp44) (yMS rfl) ?_)))
           obtain ⟨y65,hy66,h⟩:=bOs h
           refine oY (sT rfl rfl rfl rfl hp44) (yC [.agg #[.slice Aa p0.fB.length ca,.slice Ab p0.fR.length cb],.agg #[.slice A12 y10.1.fG.length c13,vI y10.1.fW,.slice A14 y10.1.fPrices.length c15],.slice A26 y24.1.length c27,.slice A32 y30.1.length c33] go_40 rfl (fun W2 hW2 => calxlaw05_keeps_ok p0 y10.1 y24.1 y30.1 y65 hy66 W2 Aa p0.fB.length ca rfl ((RdL.arg hr0_0) W2 hW2) Ab p0.fR.length cb rfl ((RdL.arg hr0_1) W2 hW2) A12 y10.1.fG.length c13 rfl ((RdL.row 2 rfl) W2 hW2) A14 y10.1.fPrices.length c15 rfl ((RdL.row 3 rfl) W2 hW2) A26 y24.1.length c27 rfl ((RdL.row 5 rfl) W2 hW2) A32 y30.1.length c33 rfl ((RdL.row 6 rfl) W2 hW2)) rfl) (oY (sT rfl rfl rfl rfl hp44) (y_not rfl) (oY rfl (y_pick_fb (vB hp44) rfl) ?_))
           obtain rfl:=sI h
           exact key _ _ (kp4 (kp (kp (kp rfl))))
        ·clear h; rcases iOs hb43 with ⟨hp41,h⟩ | ⟨hp41,h⟩
         ·refine oSk (sF rfl rfl rfl rfl hp41) (oSk (sF rfl rfl rfl rfl hp41) (oSk (sF rfl rfl rfl rfl hp41) (oSk (sF rfl rfl rfl rfl hp41) (oY rfl (y_pick_tb (vB hp41) rfl) ?_))))
          obtain rfl:=sI h
          exact key _ _ (kp4 (kp4 rfl))
         ·refine oY (sT rfl rfl rfl rfl hp41) (yN 0 [.slice Aa p0.fB.length ca,.slice Ab p0.fR.length cb] ag_53 rfl rfl rfl) (oY (sT rfl rfl rfl rfl hp41) (yN 4 [.slice A12 y10.1.fG.length c13,vI y10.1.fW,.slice A14 y10.1.fPrices.length c15] ag_71 rfl rfl rfl) ?_)
          obtain ⟨y67,hy68,h⟩:=bOs h
          refine oY (sT rfl rfl rfl rfl hp41) (yC [.agg #[.slice Aa p0.fB.length ca,.slice Ab p0.fR.length cb],.agg #[.slice A12 y10.1.fG.length c13,vI y10.1.fW,.slice A14 y10.1.fPrices.length c15]] go_39 rfl (fun W2 hW2 => cart_CheckPlan_ok p0 y10.1 y67 hy68 W2 Aa p0.fB.length ca rfl ((RdL.arg hr0_0) W2 hW2) Ab p0.fR.length cb rfl ((RdL.arg hr0_1) W2 hW2) A12 y10.1.fG.length c13 rfl ((RdL.row 2 rfl) W2 hW2) A14 y10.1.fPrices.length c15 rfl ((RdL.row 3 rfl) W2 hW2)) rfl) (oY (sT rfl rfl rfl rfl hp41) (y_neq rfl rfl) (oY rfl (y_pick_fb (vB hp41) rfl) ?_))
          obtain rfl:=sI h
          exact key _ _ (kp4 (kp4 rfl))
       ·rcases bool_cases (((y24.2 != 0) || (y30.2 != 0)) || (y36.2 != 0)) with hp40 | hp40
        ·refine oSk (sF rfl rfl rfl rfl hp40) (oSk (sF rfl rfl rfl rfl hp40) (oSk (sF rfl rfl rfl rfl hp40) (oSk (sF rfl rfl rfl rfl hp40) (oY rfl (y_pick_tb (vB hp40) rfl) ?_))))
         exact key _ _ (keep (keep (keep (keep (keep (keep (keep (keep rfl rfl) rfl) rfl) rfl) rfl) rfl) rfl) (vB (or_t hp40)))
        ·refine oY (sT rfl rfl rfl rfl hp40) (yMI rfl) (oY (sT rfl rfl rfl rfl hp40) (yFA fo_71_1 rfl) (oY (sT rfl rfl rfl rfl hp40) (yL 4 (v:=vI y10.1.fW) sc_3 rfl rfl rfl) (oY (sT rfl rfl rfl rfl hp40) (y_neq rfl rfl) (oY rfl (y_pick_fb (vB hp40) rfl) ?_))))
         exact key _ _ (keep (keep (keep (keep (keep (keep (keep (keep rfl rfl) rfl) rfl) rfl) rfl) rfl) rfl) (vB (or_f hp40)))
      ·rcases bool_cases ((y24.2 != 0) || (y30.2 != 0)) with hp39 | hp39
       ·refine oSk (sF rfl rfl rfl rfl hp39) (oSk (sF rfl rfl rfl rfl hp39) (oY rfl (y_pick_tb (vB hp39) rfl) ?_))
        exact key _ _ (keep (keep (keep (keep (keep (keep (keep (keep rfl rfl) rfl) rfl) rfl) rfl) rfl) rfl) (vB (or_t hp39)))
       ·refine oY (sT rfl rfl rfl rfl hp39) (yMI rfl) (oY (sT rfl rfl rfl rfl hp39) (y_neq rfl rfl) (oY rfl (y_pick_fb (vB hp39) rfl) ?_))
        exact key _ _ (keep (keep (keep (keep (keep (keep (keep (keep rfl rfl) rfl) rfl) rfl) rfl) rfl) rfl) (vB (or_f hp39)))
     ·rcases bool_cases (y24.2 != 0) with hp38 | hp38
      ·refine oSk (sF rfl rfl rfl rfl hp38) (oSk (sF rfl rfl rfl rfl hp38) (oY rfl (y_pick_tb (vB hp38) rfl) ?_))
       exact key _ _ (keep (keep (keep (keep (keep (keep (keep (keep (keep rfl rfl) rfl) rfl) rfl) rfl) rfl) rfl) rfl) (vB (or_t hp38)))
      ·refine oY (sT rfl rfl rfl rfl hp38) (yMI rfl) (oY (sT rfl rfl rfl rfl hp38) (y_neq rfl rfl) (oY rfl (y_pick_fb (vB hp38) rfl) ?_))
       exact key _ _ (keep (keep (keep (keep (keep (keep (keep (keep (keep rfl rfl) rfl) rfl) rfl) rfl) rfl) rfl) rfl) (vB (or_f hp38)))
  ·rcases bool_cases ((!y3) || (decide (60 < (p1.fG.length:Int)))) with hp6 | hp6
   ·refine oSk (sF rfl rfl rfl rfl hp6) (oSk (sF rfl rfl rfl rfl hp6) (oSk (sF rfl rfl rfl rfl hp6) (oSk (sF rfl rfl rfl rfl hp6) (oY rfl (y_pick_tb (vB hp6) rfl) ?_))))
    exact key _ _ (keep (keep (keep (keep rfl rfl) rfl) rfl) (vB (or_t hp6)))
   ·refine oY (sT rfl rfl rfl rfl hp6) (yFA fo_71_2 rfl) (oY (sT rfl rfl rfl rfl hp6) (yL 1 (v:=.slice A1_2 p1.fPrices.length c1_2) sc_42 rfl rfl rfl) (oY (sT rfl rfl rfl rfl hp6) (y_len (us:=[]) us_42 rfl) (oY (sT rfl rfl rfl rfl hp6) (y_gtr rfl rfl) (oY rfl (y_pick_fb (vB hp6) rfl) ?_))))
    exact key _ _ (keep (keep (keep (keep rfl rfl) rfl) rfl) (vB (or_f hp6)))
 ·rcases bool_cases (!y3) with hp5 | hp5
  ·refine oSk (sF rfl rfl rfl rfl hp5) (oSk (sF rfl rfl rfl rfl hp5) (oSk (sF rfl rfl rfl rfl hp5) (oSk (sF rfl rfl rfl rfl hp5) (oY rfl (y_pick_tb (vB hp5) rfl) ?_))))
   exact key _ _ (keep (keep (keep (keep rfl rfl) rfl) rfl) (vB (or_t hp5)))
  ·refine oY (sT rfl rfl rfl rfl hp5) (yFA fo_71_0 rfl) (oY (sT rfl rfl rfl rfl hp5) (yL 1 (v:=.slice Ac p1.fG.length cc) sc_42 rfl rfl rfl) (oY (sT rfl rfl rfl rfl hp5) (y_len (us:=[]) us_42 rfl) (oY (sT rfl rfl rfl rfl hp5) (y_gtr rfl rfl) (oY rfl (y_pick_fb (vB hp5) rfl) ?_))))
   exact key _ _ (keep (keep (keep (keep rfl rfl) rfl) rfl) (vB (or_f hp5)))
end Go.Proofs.YthndghnkebboaaaGreat
