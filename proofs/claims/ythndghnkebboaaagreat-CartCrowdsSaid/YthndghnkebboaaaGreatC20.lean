import Derived.Test.YthndghnkebboaaaGreatF
import Derived.Test.YthndghnkebboaaaGreatGy
import Derived.Test.YthndghnkebboaaaGreatC2
import Derived.Test.YthndghnkebboaaaGreatC4
import Derived.Test.YthndghnkebboaaaGreatC6
set_option maxHeartbeats 4000000
set_option maxRecDepth 100000
set_option linter.unusedVariables false
namespace Go.Proofs.YthndghnkebboaaaGreat
open Go.RowKit (Below)
attribute [local irreducible] OX QX CX EX OpY Calls CallsIn
theorem calxlaw05_sanity_ok  (res:Bool) (h:calxlaw05_sanity = some res) (W:World)  :
  Calls Tryz.prog 17 [].toArray W fun e W2 => e = .returned (.bool res) ∧ Ext W W2 []:=by
 unfold calxlaw05_sanity at h
 refine calls_enter (m:=261) Tryz.func17 rfl rfl (nB rfl) (cS (cR (oY rfl (yAB rfl) (oN (eT (cS (cR ?_)))))))
 obtain ⟨y1,hy2,h⟩:=bOs h
 refine oC [] _ _ _ rfl go_67 rfl (fun W2 hW2 => calxlaw05_Lanes_ok  y1 hy2 W2 W (fun _ => True) (fun W3 hb => ⟨belowT hW2.below hb,trivial⟩) ) ?_
 rintro ⟨⟨A5,n7,c6⟩,ys10,F11⟩ ⟨hn8,hP9,hV12⟩
 replace hn8 : n7 = y1.fTracks.length:=hn8; subst hn8
 refine ox_alloc ze_24 rfl (fun b13 => ?_)
 refine ox_n rfl (yS 2 [vI y1.fPlaces,.slice A5 y1.fTracks.length c6] sz_24 rfl (nB rfl) rfl rfl rfl) (oN (eT (cS (cR ?_))))
 obtain ⟨y14,hy15,h⟩:=bOs h
 refine oC [] _ _ _ rfl go_68 rfl (fun W2 hW2 => calxlaw05_Wharf_ok  y14 hy15 W2 ) ?_
 rintro ⟨⟨A16,n20,c17⟩,⟨A18,n22,c19⟩⟩ ⟨hn21,hn23⟩
 replace hn21 : n20 = y14.fB.length:=hn21; subst hn21
 replace hn23 : n22 = y14.fR.length:=hn23; subst hn23
 refine ox_alloc ze_53 rfl (fun b24 => ?_)
 try dsimp only [lna,lca,lsz,lss]
 refine ox_n rfl (yS 5 [.slice A16 y14.fB.length c17,.slice A18 y14.fR.length c19] sz_53 rfl (nB rfl) rfl rfl rfl) (oN (eT (cS (cR (oY rfl (yFA fo_24_1 rfl) (oY rfl (yL 2 (v:=.slice A5 y1.fTracks.length c6) sc_22 rfl rfl rfl) ?_))))))
 obtain ⟨hg25,h⟩:=gOs h
 refine oY rfl (yI sl_22 (by decide) hg25.1 hg25.2 (RdL.row 0 rfl) (eL TTrack_cells2_len (NestP.hn hP9 rfl)) rfl rfl) ?_
 refine oY rfl (yM (A:=A5) (j:=(Int.toNat 1 * 6)) [vI ((rdL y1.fTracks 1).fID),vI ((rdL y1.fTracks 1).fFrom),vI ((rdL y1.fTracks 1).fTo),vI ((rdL y1.fTracks 1).fLong),vI ((rdL y1.fTracks 1).fToll),.slice ((rdL ys10 1).1.1) ((rdL y1.fTracks 1).fK.length) ((rdL ys10 1).1.2.2)] ag_120 (Nat.succ_pos _) (RdL.row 0 rfl) rfl (gets_eq (TTrack_cells2_eq (NestP.snd hP9 1) (NestP.len hP9 hg25.1 (lt_nat hg25.2 rfl))).symm (encL_gets TTrack_cells2_len hg25.1 (lt_nat hg25.2 (NestP.hn hP9 rfl))))) ?_
 obtain ⟨y26,hy27,h⟩:=bOs h
 refine oY rfl (yC [.agg #[vI ((rdL y1.fTracks 1).fID),vI ((rdL y1.fTracks 1).fFrom),vI ((rdL y1.fTracks 1).fTo),vI ((rdL y1.fTracks 1).fLong),vI ((rdL y1.fTracks 1).fToll),.slice ((rdL ys10 1).1.1) ((rdL y1.fTracks 1).fK.length) ((rdL ys10 1).1.2.2)],vI 8] go_69 rfl (fun W2 hW2 => cart_Enter_ok (TT.mk ((rdL y1.fTracks 1).fID) ((rdL y1.fTracks 1).fFrom) ((rdL y1.fTracks 1).fTo) ((rdL y1.fTracks 1).fLong) ((rdL y1.fTracks 1).fToll) ((rdL y1.fTracks 1).fK)) 8 y26 hy27 W2 ((rdL ys10 1).1.1) ((rdL y1.fTracks 1).fK.length) ((rdL ys10 1).1.2.2) rfl ((NestL.rd (PvL.nestL hP9 hV12 (fun W2 hW2 => ⟨hW2.below,trivial,hW2.mem (i:=1) rfl⟩)) hg25.1 (lt_nat hg25.2 rfl)) W2 hW2)) rfl) (oY rfl (y_move_tuple rfl) (oY rfl (yE (vs:=[vI y26.1,vI y26.2]) (v:=vI y26.1) rfl rfl) (oY rfl (yE (vs:=[vI y26.1,vI y26.2]) (v:=vI y26.2) rfl rfl) (oY rfl (yAI rfl) (oY rfl (yAI rfl) (oN (eT (cS (cR (oY rfl (yN 2 [vI y1.fPlaces,.slice A5 y1.fTracks.length c6] ag_24 rfl rfl rfl) ?_))))))))))
 obtain ⟨y28,hy29,h⟩:=bOs h
 refine oC [.agg #[vI y1.fPlaces,.slice A5 y1.fTracks.length c6],vI 0,vI 4] _ _ _ rfl go_49 rfl (fun W2 hW2 => cart_Earliest_ok y1 0 4 y28 hy29 W2 A5 y1.fTracks.length c6 ys10 rfl ((RdL.row 0 rfl) W2 hW2) (NestL.at (PvL.nestL hP9 hV12 (fun W2 hW2 => ⟨hW2.below,trivial,hW2.mem (i:=1) rfl⟩)) W2 hW2) W (fun _ => True) (fun W3 hb => ⟨belowT hW2.below hb,trivial⟩) ) ?_
 rintro ⟨⟨A32,n34,c33⟩,ys37,F38⟩ ⟨hn35,hP36,hV39⟩
 replace hn35 : n34 = y28.1.fH.length:=hn35; subst hn35
 try dsimp only [lna,lca,lsz,lss]
 refine oY rfl (y_move_tuple rfl) (oY rfl (yE (vs:=[.agg #[.slice A32 y28.1.fH.length c33],vI y28.2]) (v:=.agg #[.slice A32 y28.1.fH.length c33]) rfl rfl) (oY rfl (yE (vs:=[.agg #[.slice A32 y28.1.fH.length c33],vI y28.2]) (v:=vI y28.2) rfl rfl) ?_))
 refine ox_alloc ze_87 rfl (fun b40 => ?_)
 try dsimp only [lna,lca,lsz,lss]
 refine ox_n rfl (yS 8 [.slice A32 y28.1.fH.length c33] sz_87 rfl (nB rfl) rfl rfl rfl) (oY rfl (yAI rfl) (oN (eT (cS (cR (oY rfl (yN 2 [vI y1.fPlaces,.slice A5 y1.fTracks.length c6] ag_24 rfl rfl rfl) ?_))))))
 obtain ⟨y41,hy42,h⟩:=bOs h
 refine oC [.agg #[vI y1.fPlaces,.slice A5 y1.fTracks.length c6],vI 0,vI 2,vI 4] _ _ _ rfl go_61 rfl (fun W2 hW2 => cart_Front_ok y1 0 2 4 y41 hy42 W2 A5 y1.fTracks.length c6 ys10 rfl ((RdL.row 0 rfl) W2 hW2) (NestL.at (PvL.nestL hP9 hV12 (fun W2 hW2 => ⟨hW2.below,trivial,hW2.mem (i:=1) rfl⟩)) W2 hW2) W (fun _ => True) (fun W3 hb => ⟨belowT hW2.below hb,trivial⟩) ) ?_
 rintro ⟨⟨A45,n47,c46⟩,ys50,F51⟩ ⟨hn48,hP49,hV52⟩
 replace hn48 : n47 = y41.1.length:=hn48; subst hn48
 try dsimp only [lna,lca,lsz,lss]
 refine oY rfl (y_move_tuple rfl) (oY rfl (yE (vs:=[.slice A45 y41.1.length c46,vI y41.2]) (v:=.slice A45 y41.1.length c46) rfl rfl) (oY rfl (yE (vs:=[.slice A45 y41.1.length c46,vI y41.2]) (v:=vI y41.2) rfl rfl) (oY rfl (yAS rfl) (oY rfl (yAI rfl) (oN (eT (cS (cR (oY rfl (yN 2 [vI y1.fPlaces,.slice A5 y1.fTracks.length c6] ag_24 rfl rfl rfl) ?_)))))))))
 obtain ⟨y53,hy54,h⟩:=bOs h
 refine oC [.agg #[vI y1.fPlaces,.slice A5 y1.fTracks.length c6],vI 0,vI 2,vI 4,vI 5] _ _ _ rfl go_18 rfl (fun W2 hW2 => cart_Best_ok y1 0 2 4 5 y53 hy54 W2 A5 y1.fTracks.length c6 ys10 rfl ((RdL.row 0 rfl) W2 hW2) (NestL.at (PvL.nestL hP9 hV12 (fun W2 hW2 => ⟨hW2.below,trivial,hW2.mem (i:=1) rfl⟩)) W2 hW2) W (fun _ => True) (fun W3 hb => ⟨belowT hW2.below hb,trivial⟩) ) ?_
 rintro ⟨⟨A57,n59,c58⟩,F61⟩ ⟨hn60,hV62⟩
 replace hn60 : n59 = y53.1.fLegs.length:=hn60; subst hn60
 try dsimp only [lna,lca,lsz,lss]
 refine oY rfl (y_move_tuple rfl) (oY rfl (yE (vs:=[.agg #[.slice A57 y53.1.fLegs.length c58,vI y53.1.fA,vI y53.1.fToll],vI y53.2]) (v:=.agg #[.slice A57 y53.1.fLegs.length c58,vI y53.1.fA,vI y53.1.fToll]) rfl rfl) (oY rfl (yE (vs:=[.agg #[.slice A57 y53.1.fLegs.length c58,vI y53.1.fA,vI y53.1.fToll],vI y53.2]) (v:=vI y53.2) rfl rfl) ?_))
 refine ox_alloc ze_29 rfl (fun b63 => ?_)
 try dsimp only [lna,lca,lsz,lss]
 refine ox_n rfl (yS 12 [.slice A57 y53.1.fLegs.length c58,vI y53.1.fA,vI y53.1.fToll] sz_29 rfl (nB rfl) rfl rfl rfl) (oY rfl (yAI rfl) (oN (eT (cS (cR (oY rfl (yN 2 [vI y1.fPlaces,.slice A5 y1.fTracks.length c6] ag_24 rfl rfl rfl) ?_))))))
 obtain ⟨y64,hy65,h⟩:=bOs h
 refine oY rfl (yC [.agg #[vI y1.fPlaces,.slice A5 y1.fTracks.length c6],vI 0,vI 2,vI 26,vI 0] go_19 rfl (fun W2 hW2 => cart_Latest_ok y1 0 2 26 0 y64 hy65 W2 A5 y1.fTracks.length c6 ys10 rfl ((RdL.row 0 rfl) W2 hW2) (NestL.at (PvL.nestL hP9 hV12 (fun W2 hW2 => ⟨hW2.below,trivial,hW2.mem (i:=1) rfl⟩)) W2 hW2)) rfl) (oY rfl (y_move_tuple rfl) (oY rfl (yE (vs:=[vI y64.1,vI y64.2]) (v:=vI y64.1) rfl rfl) (oY rfl (yE (vs:=[vI y64.1,vI y64.2]) (v:=vI y64.2) rfl rfl) (oY rfl (yAI rfl) (oY rfl (yAI rfl) (oN (eT (cS (cR (oY rfl (yN 2 [vI y1.fPlaces,.slice A5 y1.fTracks.length c6] ag_24 rfl rfl rfl) ?_))))))))))
 obtain ⟨y66,hy67,h⟩:=bOs h
 refine oC [.agg #[vI y1.fPlaces,.slice A5 y1.fTracks.length c6],vI 0,vI 2,vI 4,vI 0] _ _ _ rfl go_23 rfl (fun W2 hW2 => cart_Needed_ok y1 0 2 4 0 y66 hy67 W2 A5 y1.fTracks.length c6 ys10 rfl ((RdL.row 0 rfl) W2 hW2) (NestL.at (PvL.nestL hP9 hV12 (fun W2 hW2 => ⟨hW2.below,trivial,hW2.mem (i:=1) rfl⟩)) W2 hW2)) ?_
 rintro ⟨A68,n70,c69⟩ hn71
 replace hn71 : n70 = y66.1.length:=hn71; subst hn71
 try dsimp only [lna,lca,lsz,lss]
 refine oY rfl (y_move_tuple rfl) (oY rfl (yE (vs:=[.slice A68 y66.1.length c69,vI y66.2]) (v:=.slice A68 y66.1.length c69) rfl rfl) (oY rfl (yE (vs:=[.slice A68 y66.1.length c69,vI y66.2]) (v:=vI y66.2) rfl rfl) (oY rfl (yAS rfl) (oY rfl (yAI rfl) (oN (eT (cS (cR (oY rfl (yN 2 [vI y1.fPlaces,.slice A5 y1.fTracks.length c6] ag_24 rfl rfl rfl) ?_)))))))))
 obtain ⟨y72,hy73,h⟩:=bOs h
 refine oC [.agg #[vI y1.fPlaces,.slice A5 y1.fTracks.length c6],vI 0,vI 2,vI 4,vI 60] _ _ _ rfl go_23 rfl (fun W2 hW2 => cart_Needed_ok y1 0 2 4 60 y72 hy73 W2 A5 y1.fTracks.length c6 ys10 rfl ((RdL.row 0 rfl) W2 hW2) (NestL.at (PvL.nestL hP9 hV12 (fun W2 hW2 => ⟨hW2.below,trivial,hW2.mem (i:=1) rfl⟩)) W2 hW2)) ?_
 rintro ⟨A74,n76,c75⟩ hn77
 replace hn77 : n76 = y72.1.length:=hn77; subst hn77
 try dsimp only [lna,lca,lsz,lss]
 refine oY rfl (y_move_tuple rfl) (oY rfl (yE (vs:=[.slice A74 y72.1.length c75,vI y72.2]) (v:=.slice A74 y72.1.length c75) rfl rfl) (oY rfl (yE (vs:=[.slice A74 y72.1.length c75,vI y72.2]) (v:=vI y72.2) rfl rfl) (oY rfl (yAS rfl) (oY rfl (yAI rfl) (oN (eT (cS (cS (cR (oY rfl (yMI rfl) (oY rfl (y_neq rfl rfl) (oY rfl (yMB rfl) ?_))))))))))))
 refine oJ 3 (fun tm0 => (upd (upd (upd (upd (upd (upd (upd (upd (upd (upd (upd (upd (upd (upd (upd tm0 0 (.bool false)) 2 (.pointer (some ⟨b24,0,none⟩))) 3 (vI y26.1)) 5 (.pointer (some ⟨b40,0,none⟩))) 7 (.slice A45 y41.1.length c46)) 8 (vI y41.2)) 9 (.pointer (some ⟨b63,0,none⟩))) 10 (vI y53.2)) 11 (vI y64.1)) 12 (vI y64.2)) 13 (.slice A68 y66.1.length c69)) 14 (vI y66.2)) 15 (.slice A74 y72.1.length c75)) 16 (vI y72.2)) 74 (.bool ((y26.2 != 0) || (y28.2 != 0))))) (fun tm0 => ?_) (fun key => ?_)
 ·refine oY rfl (yMB rfl) ?_
  refine oJ 3 (fun tm0 => (upd (upd (upd (upd (upd (upd (upd (upd (upd (upd (upd (upd (upd (upd tm0 0 (.bool false)) 2 (.pointer (some ⟨b24,0,none⟩))) 3 (vI y26.1)) 5 (.pointer (some ⟨b40,0,none⟩))) 7 (.slice A45 y41.1.length c46)) 9 (.pointer (some ⟨b63,0,none⟩))) 10 (vI y53.2)) 11 (vI y64.1)) 12 (vI y64.2)) 13 (.slice A68 y66.1.length c69)) 14 (vI y66.2)) 15 (.slice A74 y72.1.length c75)) 16 (vI y72.2)) 78 (.bool (((y26.2 != 0) || (y28.2 != 0)) || (y41.2 != 0))))) (fun tm0 => ?_) (fun key => ?_)
  ·refine oY rfl (yMB rfl) ?_
   refine oJ 3 (fun tm0 => (upd (upd (upd (upd (upd (upd (upd (upd (upd (upd (upd (upd (upd tm0 0 (.bool false)) 2 (.pointer (some ⟨b24,0,none⟩))) 3 (vI y26.1)) 5 (.pointer (some ⟨b40,0,none⟩))) 7 (.slice A45 y41.1.length c46)) 9 (.pointer (some ⟨b63,0,none⟩))) 11 (vI y64.1)) 12 (vI y64.2)) 13 (.slice A68 y66.1.length c69)) 14 (vI y66.2)) 15 (.slice A74 y72.1.length c75)) 16 (vI y72.2)) 82 (.bool ((((y26.2 != 0) || (y28.2 != 0)) || (y41.2 != 0)) || (y53.2 != 0))))) (fun tm0 => ?_) (fun key => ?_)
   ·refine oY rfl (yMB rfl) ?_
    refine oJ 3 (fun tm0 => (upd (upd (upd (upd (upd (upd (upd (upd (upd (upd (upd (upd tm0 0 (.bool false)) 2 (.pointer (some ⟨b24,0,none⟩))) 3 (vI y26.1)) 5 (.pointer (some ⟨b40,0,none⟩))) 7 (.slice A45 y41.1.length c46)) 9 (.pointer (some ⟨b63,0,none⟩))) 11 (vI y64.1)) 13 (.slice A68 y66.1.length c69)) 14 (vI y66.2)) 15 (.slice A74 y72.1.length c75)) 16 (vI y72.2)) 86 (.bool (((((y26.2 != 0) || (y28.2 != 0)) || (y41.2 != 0)) || (y53.2 != 0)) || (y64.2 != 0))))) (fun tm0 => ?_) (fun key => ?_)
    ·refine oY rfl (yMB rfl) ?_
     refine oJ 3 (fun tm0 => (upd (upd (upd (upd (upd (upd (upd (upd (upd (upd (upd tm0 0 (.bool false)) 2 (.pointer (some ⟨b24,0,none⟩))) 3 (vI y26.1)) 5 (.pointer (some ⟨b40,0,none⟩))) 7 (.slice A45 y41.1.length c46)) 9 (.pointer (some ⟨b63,0,none⟩))) 11 (vI y64.1)) 13 (.slice A68 y66.1.length c69)) 15 (.slice A74 y72.1.length c75)) 16 (vI y72.2)) 90 (.bool ((((((y26.2 != 0) || (y28.2 != 0)) || (y41.2 != 0)) || (y53.2 != 0)) || (y64.2 != 0)) || (y66.2 != 0))))) (fun tm0 => ?_) (fun key => ?_)
     ·refine oY rfl (yMB rfl) ?_
      refine oJ 3 (fun tm0 => (upd (upd (upd (upd (upd (upd (upd (upd (upd (upd tm0 0 (.bool false)) 2 (.pointer (some ⟨b24,0,none⟩))) 3 (vI y26.1)) 5 (.pointer (some ⟨b40,0,none⟩))) 7 (.slice A45 y41.1.length c46)) 9 (.pointer (some ⟨b63,0,none⟩))) 11 (vI y64.1)) 13 (.slice A68 y66.1.length c69)) 15 (.slice A74 y72.1.length c75)) 94 (.bool (((((((y26.2 != 0) || (y28.2 != 0)) || (y41.2 != 0)) || (y53.2 != 0)) || (y64.2 != 0)) || (y66.2 != 0)) || (y72.2 != 0))))) (fun tm0 => ?_) (fun key => ?_)
      ·refine oY rfl (yMB rfl) ?_
       refine oJ 3 (fun tm0 => (upd (upd (upd (upd (upd (upd (upd (upd (upd tm0 0 (.bool false)) 2 (.pointer (some ⟨b24,0,none⟩))) 5 (.pointer (some ⟨b40,0,none⟩))) 7 (.slice A45 y41.1.length c46)) 9 (.pointer (some ⟨b63,0,none⟩))) 11 (vI y64.1)) 13 (.slice A68 y66.1.length c69)) 15 (.slice A74 y72.1.length c75)) 98 (.bool ((((((((y26.2 != 0) || (y28.2 != 0)) || (y41.2 != 0)) || (y53.2 != 0)) || (y64.2 != 0)) || (y66.2 != 0)) || (y72.2 != 0)) || (y26.1 != 21))))) (fun tm0 => ?_) (fun key => ?_)
       ·refine oY rfl (yMB rfl) ?_
        refine oJ 5 (fun tm0 => (upd (upd (upd (upd (upd (upd (upd (upd (upd tm0 0 (.bool false)) 2 (.pointer (some ⟨b24,0,none⟩))) 5 (.pointer (some ⟨b40,0,none⟩))) 7 (.slice A45 y41.1.length c46)) 9 (.pointer (some ⟨b63,0,none⟩))) 11 (vI y64.1)) 13 (.slice A68 y66.1.length c69)) 15 (.slice A74 y72.1.length c75)) 104 (.bool (((((((((y26.2 != 0) || (y28.2 != 0)) || (y41.2 != 0)) || (y53.2 != 0)) || (y64.2 != 0)) || (y66.2 != 0)) || (y72.2 != 0)) || (y26.1 != 21)) || ((y28.1.fH.length:Int) != 3))))) (fun tm0 => ?_) (fun key => ?_)
        ·refine oY rfl (yMB rfl) ?_
         obtain ⟨b87,hb88,h⟩:=bOs h
         refine oJ 7 (fun tm0 => (upd (upd (upd (upd (upd (upd (upd (upd (upd tm0 0 (.bool false)) 2 (.pointer (some ⟨b24,0,none⟩))) 5 (.pointer (some ⟨b40,0,none⟩))) 7 (.slice A45 y41.1.length c46)) 9 (.pointer (some ⟨b63,0,none⟩))) 11 (vI y64.1)) 13 (.slice A68 y66.1.length c69)) 15 (.slice A74 y72.1.length c75)) 112 (.bool b87))) (fun tm0 => ?_) (fun key => ?_)
         ·refine oY rfl (yMB rfl) ?_
          refine oJ 4 (fun tm0 => (upd (upd (upd (upd (upd (upd (upd (upd (upd tm0 0 (.bool false)) 2 (.pointer (some ⟨b24,0,none⟩))) 5 (.pointer (some ⟨b40,0,none⟩))) 7 (.slice A45 y41.1.length c46)) 9 (.pointer (some ⟨b63,0,none⟩))) 11 (vI y64.1)) 13 (.slice A68 y66.1.length c69)) 15 (.slice A74 y72.1.length c75)) 117 (.bool (b87 || ((y41.1.length:Int) != 3))))) (fun tm0 => ?_) (fun key => ?_)
          ·refine oN (eT ?_)
           rcases iOs h with ⟨hp90,h⟩ | ⟨hp90,h⟩
           ·refine cT (vB hp90) (cS (cR (oY rfl (yAB rfl) (oN (eT (cx_ret (ex_then_ret ?_)))))))
            obtain rfl:=sI h
            exact ex_res1 (.inl rfl) rfl (rVt (v:=.bool false) rfl) (fun W2 hW2 => ⟨rfl,hW2.none⟩)
           ·refine cF (vB hp90) (cK (eT (cS (cR (oY rfl (yFA fo_87_0 rfl) (oY rfl (yL 8 (v:=.slice A32 y28.1.fH.length c33) sc_85 rfl rfl rfl) ?_))))))
            obtain ⟨hg91,h⟩:=gOs h
            refine oY rfl (yI sl_85 (by decide) hg91.1 hg91.2 (RdL.row 6 rfl) (eL SlInt_cells2_len (NestP.hn hP36 rfl)) rfl rfl) ?_
            refine oY rfl (yR (A:=A32) (j:=(Int.toNat 2 * 1)) (v:=.slice ((rdL ys37 2).1.1) ((rdL y28.1.fH 2).length) ((rdL ys37 2).1.2.2)) sc_42 (RdL.row 6 rfl) rfl (encL_get0 SlInt_cells2_len hg91.1 (lt_nat hg91.2 (NestP.hn hP36 rfl)) (congrArg (fun n : Nat => some (Value.slice (rdL ys37 2).1.1 n (rdL ys37 2).1.2.2)) (NestP.len hP36 hg91.1 (lt_nat hg91.2 rfl))))) ?_
            obtain ⟨hg92,h⟩:=gOs h
            refine oY rfl (yI sl_42 (by decide) hg92.1 hg92.2 (NestL.rd (PvL.nestL hP36 hV39 (fun W2 hW2 => ⟨hW2.below,trivial,hW2.mem (i:=7) rfl⟩)) hg91.1 (lt_nat hg91.2 rfl)) (eL cI_len rfl) rfl rfl) ?_
            refine oY rfl (yR (A:=((rdL ys37 2).1.1)) (j:=(Int.toNat 0 * 1)) (v:=vI (rdL (rdL y28.1.fH 2) 0)) sc_3 (NestL.rd (PvL.nestL hP36 hV39 (fun W2 hW2 => ⟨hW2.below,trivial,hW2.mem (i:=7) rfl⟩)) hg91.1 (lt_nat hg91.2 rfl)) rfl (encL_get0 cI_len hg92.1 (lt_nat hg92.2 rfl) rfl)) (oY rfl (y_eql rfl rfl) (oY rfl (yMB rfl) ?_))
            obtain ⟨b94,hb95,h⟩:=bOs h
            refine oJ 8 (fun tm0 => (upd (upd (upd (upd (upd (upd (upd (upd (upd tm0 0 (.bool false)) 2 (.pointer (some ⟨b24,0,none⟩))) 5 (.pointer (some ⟨b40,0,none⟩))) 7 (.slice A45 y41.1.length c46)) 9 (.pointer (some ⟨b63,0,none⟩))) 11 (vI y64.1)) 13 (.slice A68 y66.1.length c69)) 15 (.slice A74 y72.1.length c75)) 133 (.bool b94))) (fun tm0 => ?_) (fun key => ?_)
            ·refine oY rfl (yMB rfl) ?_
             obtain ⟨b97,hb98,h⟩:=bOs h
             refine oJ 8 (fun tm0 => (upd (upd (upd (upd (upd (upd (upd (upd tm0 0 (.bool false)) 2 (.pointer (some ⟨b24,0,none⟩))) 7 (.slice A45 y41.1.length c46)) 9 (.pointer (some ⟨b63,0,none⟩))) 11 (vI y64.1)) 13 (.slice A68 y66.1.length c69)) 15 (.slice A74 y72.1.length c75)) 142 (.bool b97))) (fun tm0 => ?_) (fun key => ?_)
             ·refine oY rfl (yMB rfl) ?_
              obtain ⟨b100,hb101,h⟩:=bOs h
              refine oJ 6 (fun tm0 => (upd (upd (upd (upd (upd (upd (upd (upd tm0 0 (.bool false)) 2 (.pointer (some ⟨b24,0,none⟩))) 7 (.slice A45 y41.1.length c46)) 9 (.pointer (some ⟨b63,0,none⟩))) 11 (vI y64.1)) 13 (.slice A68 y66.1.length c69)) 15 (.slice A74 y72.1.length c75)) 149 (.bool b100))) (fun tm0 => ?_) (fun key => ?_)
              ·refine oY rfl (yMB rfl) ?_
               obtain ⟨b103,hb104,h⟩:=bOs h
               refine oJ 6 (fun tm0 => (upd (upd (upd (upd (upd (upd (upd (upd tm0 0 (.bool false)) 2 (.pointer (some ⟨b24,0,none⟩))) 7 (.slice A45 y41.1.length c46)) 9 (.pointer (some ⟨b63,0,none⟩))) 11 (vI y64.1)) 13 (.slice A68 y66.1.length c69)) 15 (.slice A74 y72.1.length c75)) 156 (.bool b103))) (fun tm0 => ?_) (fun key => ?_)
               ·refine oY rfl (yMB rfl) ?_
                obtain ⟨b106,hb107,h⟩:=bOs h
                refine oJ 6 (fun tm0 => (upd (upd (upd (upd (upd (upd (upd tm0 0 (.bool false)) 2 (.pointer (some ⟨b24,0,none⟩))) 9 (.pointer (some ⟨b63,0,none⟩))) 11 (vI y64.1)) 13 (.slice A68 y66.1.length c69)) 15 (.slice A74 y72.1.length c75)) 163 (.bool b106))) (fun tm0 => ?_) (fun key => ?_)
                ·refine oY rfl (yMB rfl) ?_
                 refine oJ 4 (fun tm0 => (upd (upd (upd (upd (upd (upd tm0 0 (.bool false)) 2 (.pointer (some ⟨b24,0,none⟩))) 11 (vI y64.1)) 13 (.slice A68 y66.1.length c69)) 15 (.slice A74 y72.1.length c75)) 168 (.bool (b106 && (y53.1.fA == 17))))) (fun tm0 => ?_) (fun key => ?_)
                 ·refine oY rfl (yMB rfl) ?_
                  refine oJ 3 (fun tm0 => (upd (upd (upd (upd (upd tm0 0 (.bool false)) 2 (.pointer (some ⟨b24,0,none⟩))) 13 (.slice A68 y66.1.length c69)) 15 (.slice A74 y72.1.length c75)) 172 (.bool ((b106 && (y53.1.fA == 17)) && (y64.1 == 16))))) (fun tm0 => ?_) (fun key => ?_)
                  ·refine oY rfl (yMB rfl) ?_
                   obtain ⟨b111,hb112,h⟩:=bOs h
                   refine oJ 4 (fun tm0 => (upd (upd (upd (upd tm0 0 (.bool false)) 2 (.pointer (some ⟨b24,0,none⟩))) 15 (.slice A74 y72.1.length c75)) 177 (.bool b111))) (fun tm0 => ?_) (fun key => ?_)
                   ·refine oY rfl (yMB rfl) ?_
                    obtain ⟨b114,hb115,h⟩:=bOs h
                    refine oJ 4 (fun tm0 => (upd (upd (upd tm0 0 (.bool false)) 2 (.pointer (some ⟨b24,0,none⟩))) 182 (.bool b114))) (fun tm0 => ?_) (fun key => ?_)
                    ·refine oY rfl (yAB rfl) (oN (eT (cS (cR (oY rfl (yN 5 [.slice A16 y14.fB.length c17,.slice A18 y14.fR.length c19] ag_53 rfl rfl rfl) ?_)))))
                     obtain ⟨y116,hy117,h⟩:=bOs h
                     refine oC [.agg #[.slice A16 y14.fB.length c17,.slice A18 y14.fR.length c19]] _ _ _ rfl go_37 rfl (fun W2 hW2 => cart_Serve_ok y14 y116 hy117 W2 A16 y14.fB.length c17 rfl ((RdL.row 3 rfl) W2 hW2) A18 y14.fR.length c19 rfl ((RdL.row 4 rfl) W2 hW2)) ?_
                     rintro ⟨⟨A118,n122,c119⟩,⟨A120,n124,c121⟩⟩ ⟨hn123,hn125⟩
                     replace hn123 : n122 = y116.1.fG.length:=hn123; subst hn123
                     replace hn125 : n124 = y116.1.fPrices.length:=hn125; subst hn125
                     try dsimp only [lna,lca,lsz,lss]
                     refine oY rfl (y_move_tuple rfl) (oY rfl (yE (vs:=[.agg #[.slice A118 y116.1.fG.length c119,vI y116.1.fW,.slice A120 y116.1.fPrices.length c121],vI y116.2]) (v:=.agg #[.slice A118 y116.1.fG.length c119,vI y116.1.fW,.slice A120 y116.1.fPrices.length c121]) rfl rfl) (oY rfl (yE (vs:=[.agg #[.slice A118 y116.1.fG.length c119,vI y116.1.fW,.slice A120 y116.1.fPrices.length c121],vI y116.2]) (v:=vI y116.2) rfl rfl) ?_))
                     refine ox_alloc ze_71 rfl (fun b126 => ?_)
                     try dsimp only [lna,lca,lsz,lss]
                     refine ox_n rfl (yS 17 [.slice A118 y116.1.fG.length c119,vI y116.1.fW,.slice A120 y116.1.fPrices.length c121] sz_71 rfl (nB rfl) rfl rfl rfl) (oY rfl (yAI rfl) (oN (eT (cS (cR (oY rfl (yN 5 [.slice A16 y14.fB.length c17,.slice A18 y14.fR.length c19] ag_53 rfl rfl rfl) ?_))))))
                     obtain ⟨y127,hy128,h⟩:=bOs h
                     refine oC [.agg #[.slice A16 y14.fB.length c17,.slice A18 y14.fR.length c19]] _ _ _ rfl go_27 rfl (fun W2 hW2 => cart_Surely_ok y14 y127 hy128 W2 A16 y14.fB.length c17 rfl ((RdL.row 3 rfl) W2 hW2) A18 y14.fR.length c19 rfl ((RdL.row 4 rfl) W2 hW2)) ?_
                     rintro ⟨A129,n131,c130⟩ hn132
                     replace hn132 : n131 = y127.1.length:=hn132; subst hn132
                     try dsimp only [lna,lca,lsz,lss]
                     refine oY rfl (y_move_tuple rfl) (oY rfl (yE (vs:=[.slice A129 y127.1.length c130,vI y127.2]) (v:=.slice A129 y127.1.length c130) rfl rfl) (oY rfl (yE (vs:=[.slice A129 y127.1.length c130,vI y127.2]) (v:=vI y127.2) rfl rfl) (oY rfl (yAS rfl) (oY rfl (yAI rfl) (oN (eT (cS (cR (oY rfl (yN 5 [.slice A16 y14.fB.length c17,.slice A18 y14.fR.length c19] ag_53 rfl rfl rfl) ?_)))))))))
                     obtain ⟨y133,hy134,h⟩:=bOs h
                     refine oC [.agg #[.slice A16 y14.fB.length c17,.slice A18 y14.fR.length c19]] _ _ _ rfl go_29 rfl (fun W2 hW2 => cart_Never_ok y14 y133 hy134 W2 A16 y14.fB.length c17 rfl ((RdL.row 3 rfl) W2 hW2) A18 y14.fR.length c19 rfl ((RdL.row 4 rfl) W2 hW2)) ?_
                     rintro ⟨A135,n137,c136⟩ hn138
                     replace hn138 : n137 = y133.1.length:=hn138; subst hn138
                     try dsimp only [lna,lca,lsz,lss]
                     refine oY rfl (y_move_tuple rfl) (oY rfl (yE (vs:=[.slice A135 y133.1.length c136,vI y133.2]) (v:=.slice A135 y133.1.length c136) rfl rfl) (oY rfl (yE (vs:=[.slice A135 y133.1.length c136,vI y133.2]) (v:=vI y133.2) rfl rfl) (oY rfl (yAS rfl) (oY rfl (yAI rfl) (oN (eT (cS (cR (oY rfl (yN 5 [.slice A16 y14.fB.length c17,.slice A18 y14.fR.length c19] ag_53 rfl rfl rfl) ?_)))))))))
                     refine ox_buildSliceE 3 (encL cI [7,8,9]) _ mc_3_3 us_42 ze_3 by_3 (by decide) (by decide) (by kernel_rfl) (eL cI_len rfl) rfl (fun b139 => ?_)
                     try dsimp only [lna,lca,lsz,lss]
                     obtain ⟨y140,hy141,h⟩:=bOs h
                     refine oC [.agg #[.slice A16 y14.fB.length c17,.slice A18 y14.fR.length c19],.slice (some ⟨b139,0,none⟩) 3 3] _ _ _ rfl go_31 rfl (fun W2 hW2 => cart_Crowded_ok y14 [7,8,9] y140 hy141 W2 A16 y14.fB.length c17 rfl ((RdL.row 3 rfl) W2 hW2) A18 y14.fR.length c19 rfl ((RdL.row 4 rfl) W2 hW2) (some ⟨b139,0,none⟩) 3 3 rfl ((RdL.row 20 rfl) W2 hW2)) ?_
                     rintro ⟨A142,n144,c143⟩ hn145
                     replace hn145 : n144 = y140.1.length:=hn145; subst hn145
                     try dsimp only [lna,lca,lsz,lss]
                     refine oY rfl (y_move_tuple rfl) (oY rfl (yE (vs:=[.slice A142 y140.1.length c143,vI y140.2]) (v:=.slice A142 y140.1.length c143) rfl rfl) (oY rfl (yE (vs:=[.slice A142 y140.1.length c143,vI y140.2]) (v:=vI y140.2) rfl rfl) (oY rfl (yAS rfl) (oY rfl (yAI rfl) (oN (eT (cS (cR (oY rfl (yN 5 [.slice A16 y14.fB.length c17,.slice A18 y14.fR.length c19] ag_53 rfl rfl rfl) ?_)))))))))
                     obtain ⟨y146,hy147,h⟩:=bOs h
                     refine oY rfl (yC [.agg #[.slice A16 y14.fB.length c17,.slice A18 y14.fR.length c19],vI 1] go_33 rfl (fun W2 hW2 => cart_Lost_ok y14 1 y146 hy147 W2 A16 y14.fB.length c17 rfl ((RdL.row 3 rfl) W2 hW2) A18 y14.fR.length c19 rfl ((RdL.row 4 rfl) W2 hW2)) rfl) (oY rfl (y_move_tuple rfl) (oY rfl (yE (vs:=[vI y146.1,vI y146.2]) (v:=vI y146.1) rfl rfl) (oY rfl (yE (vs:=[vI y146.1,vI y146.2]) (v:=vI y146.2) rfl rfl) (oY rfl (yAI rfl) (oY rfl (yAI rfl) (oN (eT (cS (cR (oY rfl (yMI rfl) (oY rfl (y_eql rfl rfl) (oY rfl (yMB rfl) ?_))))))))))))
                     refine oJ 4 (fun tm0 => (upd (upd (upd (upd (upd (upd (upd (upd (upd (upd (upd (upd (upd tm0 0 (.bool false)) 2 (.pointer (some ⟨b24,0,none⟩))) 17 (.bool b114)) 18 (.pointer (some ⟨b126,0,none⟩))) 20 (.slice A129 y127.1.length c130)) 21 (vI y127.2)) 22 (.slice A135 y133.1.length c136)) 23 (vI y133.2)) 24 (.slice A142 y140.1.length c143)) 25 (vI y140.2)) 26 (vI y146.1)) 27 (vI y146.2)) 215 (.bool ((y116.2 == 0) && (y116.1.fW == 14))))) (fun tm0 => ?_) (fun key => ?_)
                     ·refine oY rfl (yMB rfl) ?_
                      obtain ⟨b150,hb151,h⟩:=bOs h
                      refine oJ 5 (fun tm0 => (upd (upd (upd (upd (upd (upd (upd (upd (upd (upd (upd tm0 0 (.bool false)) 17 (.bool b114)) 20 (.slice A129 y127.1.length c130)) 21 (vI y127.2)) 22 (.slice A135 y133.1.length c136)) 23 (vI y133.2)) 24 (.slice A142 y140.1.length c143)) 25 (vI y140.2)) 26 (vI y146.1)) 27 (vI y146.2)) 221 (.bool b150))) (fun tm0 => ?_) (fun key => ?_)
                      ·refine oY rfl (yMB rfl) ?_
                       refine oJ 3 (fun tm0 => (upd (upd (upd (upd (upd (upd (upd (upd (upd (upd tm0 0 (.bool false)) 17 (.bool b114)) 20 (.slice A129 y127.1.length c130)) 22 (.slice A135 y133.1.length c136)) 23 (vI y133.2)) 24 (.slice A142 y140.1.length c143)) 25 (vI y140.2)) 26 (vI y146.1)) 27 (vI y146.2)) 225 (.bool (b150 && (y127.2 == 0))))) (fun tm0 => ?_) (fun key => ?_)
                       ·refine oY rfl (yMB rfl) ?_
                        obtain ⟨b154,hb155,h⟩:=bOs h
                        refine oJ 4 (fun tm0 => (upd (upd (upd (upd (upd (upd (upd (upd (upd tm0 0 (.bool false)) 17 (.bool b114)) 22 (.slice A135 y133.1.length c136)) 23 (vI y133.2)) 24 (.slice A142 y140.1.length c143)) 25 (vI y140.2)) 26 (vI y146.1)) 27 (vI y146.2)) 230 (.bool b154))) (fun tm0 => ?_) (fun key => ?_)
                        ·refine oY rfl (yMB rfl) ?_
                         refine oJ 3 (fun tm0 => (upd (upd (upd (upd (upd (upd (upd (upd tm0 0 (.bool false)) 17 (.bool b114)) 22 (.slice A135 y133.1.length c136)) 24 (.slice A142 y140.1.length c143)) 25 (vI y140.2)) 26 (vI y146.1)) 27 (vI y146.2)) 234 (.bool (b154 && (y133.2 == 0))))) (fun tm0 => ?_) (fun key => ?_)
                         ·refine oY rfl (yMB rfl) ?_
                          obtain ⟨b158,hb159,h⟩:=bOs h
                          refine oJ 4 (fun tm0 => (upd (upd (upd (upd (upd (upd (upd tm0 0 (.bool false)) 17 (.bool b114)) 24 (.slice A142 y140.1.length c143)) 25 (vI y140.2)) 26 (vI y146.1)) 27 (vI y146.2)) 239 (.bool b158))) (fun tm0 => ?_) (fun key => ?_)
                          ·refine oY rfl (yAB rfl) (oN (eT (cS (cR (oY rfl (yMB rfl) (oY rfl (yMB rfl) ?_))))))
                           refine oJ 2 (fun tm0 => (upd (upd (upd (upd (upd (upd tm0 0 (.bool false)) 24 (.slice A142 y140.1.length c143)) 25 (vI y140.2)) 26 (vI y146.1)) 27 (vI y146.2)) 243 (.bool (b114 && b158)))) (fun tm0 => ?_) (fun key => ?_)
                           ·refine oY rfl (yMB rfl) ?_
                            refine oJ 3 (fun tm0 => (upd (upd (upd (upd (upd tm0 0 (.bool false)) 24 (.slice A142 y140.1.length c143)) 26 (vI y146.1)) 27 (vI y146.2)) 247 (.bool ((b114 && b158) && (y140.2 == 0))))) (fun tm0 => ?_) (fun key => ?_)
                            ·refine oY rfl (yMB rfl) ?_
                             obtain ⟨b163,hb164,h⟩:=bOs h
                             refine oJ 4 (fun tm0 => (upd (upd (upd (upd tm0 0 (.bool false)) 26 (vI y146.1)) 27 (vI y146.2)) 252 (.bool b163))) (fun tm0 => ?_) (fun key => ?_)
                             ·refine oY rfl (yMB rfl) ?_
                              refine oJ 3 (fun tm0 => (upd (upd (upd tm0 0 (.bool false)) 26 (vI y146.1)) 256 (.bool (b163 && (y146.2 == 0))))) (fun tm0 => ?_) (fun key => ?_)
                              ·refine oY rfl (yMB rfl) ?_
                               refine oJ 3 (fun tm0 => (upd (upd tm0 0 (.bool false)) 260 (.bool ((b163 && (y146.2 == 0)) && (y146.1 == 5))))) (fun tm0 => ?_) (fun key => ?_)
                               ·refine oY rfl (yAB rfl) (oN (eT (cx_ret ?_)))
                                obtain rfl:=sI h
                                exact ex_res1 (.inl rfl) rfl (rVt (v:=.bool ((b163 && (y146.2 == 0)) && (y146.1 == 5))) rfl) (fun W2 hW2 => ⟨rfl,hW2.none⟩)
                               ·rcases bool_cases (b163 && (y146.2 == 0)) with hp166 | hp166
                                ·refine oY (sT rfl rfl rfl rfl hp166) (yMI rfl) (oY (sT rfl rfl rfl rfl hp166) (y_eql rfl rfl) (oY rfl (y_pick_tb (vB hp166) rfl) ?_))
                                 exact key _ _ (keep (keep rfl rfl) (vB (and_t hp166)))
                                ·refine oSk (sF rfl rfl rfl rfl hp166) (oSk (sF rfl rfl rfl rfl hp166) (oY rfl (y_pick_fb (vB hp166) rfl) ?_))
                                 exact key _ _ (keep (keep rfl rfl) (vB (and_f hp166)))
                              ·rcases bool_cases b163 with hp165 | hp165
                               ·refine oY (sT rfl rfl rfl rfl hp165) (yMI rfl) (oY (sT rfl rfl rfl rfl hp165) (y_eql rfl rfl) (oY rfl (y_pick_tb (vB hp165) rfl) ?_))
                                exact key _ _ (keep (keep (keep rfl rfl) rfl) (vB (and_t hp165)))
                               ·refine oSk (sF rfl rfl rfl rfl hp165) (oSk (sF rfl rfl rfl rfl hp165) (oY rfl (y_pick_fb (vB hp165) rfl) ?_))
                                exact key _ _ (keep (keep (keep rfl rfl) rfl) (vB (and_f hp165)))
                             ·clear h; rcases iOs hb164 with ⟨hp162,h⟩ | ⟨hp162,h⟩
                              ·refine oY (sT rfl rfl rfl rfl hp162) (yMS rfl) ?_
                               refine ox_buildSliceE 2 (encL cI [8,9]) _ mc_3_2 us_42 ze_3 by_3 (by decide) (by decide) (by kernel_rfl) (eL cI_len rfl) (sT rfl rfl rfl rfl hp162) (fun b167 => ?_)
                               try dsimp only [lna,lca,lsz,lss]
                               obtain ⟨y168,hy169,h⟩:=bOs h
                               refine oY (sT rfl rfl rfl rfl hp162) (yC [.slice A142 y140.1.length c143,.slice (some ⟨b167,0,none⟩) 2 2] go_25 rfl (fun W2 hW2 => ref05_SameInts_ok y140.1 [8,9] y168 hy169 W2 A142 y140.1.length c143 rfl ((RdL.row 21 rfl) W2 hW2) (some ⟨b167,0,none⟩) 2 2 rfl ((RdL.row 22 rfl) W2 hW2)) rfl) (oY rfl (y_pick_tb (vB hp162) rfl) ?_)
                               obtain rfl:=sI h
                               refine ox_take 22 ?_
                               exact key _ _ (kp4 rfl)
                              ·refine oSk (sF rfl rfl rfl rfl hp162) (oSk (sF rfl rfl rfl rfl hp162) (oSk (sF rfl rfl rfl rfl hp162) (oY rfl (y_pick_fb (vB hp162) rfl) ?_)))
                               obtain rfl:=sI h
                               exact key _ _ (kp4 rfl)
                            ·rcases bool_cases (b114 && b158) with hp161 | hp161
                             ·refine oY (sT rfl rfl rfl rfl hp161) (yMI rfl) (oY (sT rfl rfl rfl rfl hp161) (y_eql rfl rfl) (oY rfl (y_pick_tb (vB hp161) rfl) ?_))
                              exact key _ _ (keep (keep (keep (keep (keep rfl rfl) rfl) rfl) rfl) (vB (and_t hp161)))
                             ·refine oSk (sF rfl rfl rfl rfl hp161) (oSk (sF rfl rfl rfl rfl hp161) (oY rfl (y_pick_fb (vB hp161) rfl) ?_))
                              exact key _ _ (keep (keep (keep (keep (keep rfl rfl) rfl) rfl) rfl) (vB (and_f hp161)))
                           ·rcases bool_cases b114 with hp160 | hp160
                            ·refine oY (sT rfl rfl rfl rfl hp160) (yMB rfl) (oY rfl (y_pick_tb (vB hp160) rfl) ?_)
                             exact key _ _ (keep (keep (keep (keep (keep (keep rfl rfl) rfl) rfl) rfl) rfl) (vB (and_t hp160)))
                            ·refine oSk (sF rfl rfl rfl rfl hp160) (oY rfl (y_pick_fb (vB hp160) rfl) ?_)
                             exact key _ _ (keep (keep (keep (keep (keep (keep rfl rfl) rfl) rfl) rfl) rfl) (vB (and_f hp160)))
                          ·clear h; rcases iOs hb159 with ⟨hp157,h⟩ | ⟨hp157,h⟩
                           ·refine oY (sT rfl rfl rfl rfl hp157) (yMS rfl) ?_
                            refine ox_buildSliceE 1 (encL cI [9]) _ mc_3_1 us_42 ze_3 by_3 (by decide) (by decide) (by kernel_rfl) (eL cI_len rfl) (sT rfl rfl rfl rfl hp157) (fun b170 => ?_)
                            try dsimp only [lna,lca,lsz,lss]
                            obtain ⟨y171,hy172,h⟩:=bOs h
                            refine oY (sT rfl rfl rfl rfl hp157) (yC [.slice A135 y133.1.length c136,.slice (some ⟨b170,0,none⟩) 1 1] go_25 rfl (fun W2 hW2 => ref05_SameInts_ok y133.1 [9] y171 hy172 W2 A135 y133.1.length c136 rfl ((RdL.row 19 rfl) W2 hW2) (some ⟨b170,0,none⟩) 1 1 rfl ((RdL.row 22 rfl) W2 hW2)) rfl) (oY rfl (y_pick_tb (vB hp157) rfl) ?_)
                            obtain rfl:=sI h
                            refine ox_take 22 ?_
                            exact key _ _ (kp4 (kp (kp (kp rfl))))
                           ·refine oSk (sF rfl rfl rfl rfl hp157) (oSk (sF rfl rfl rfl rfl hp157) (oSk (sF rfl rfl rfl rfl hp157) (oY rfl (y_pick_fb (vB hp157) rfl) ?_)))
                            obtain rfl:=sI h
                            exact key _ _ (kp4 (kp (kp (kp rfl))))
                         ·rcases bool_cases b154 with hp156 | hp156
                          ·refine oY (sT rfl rfl rfl rfl hp156) (yMI rfl) (oY (sT rfl rfl rfl rfl hp156) (y_eql rfl rfl) (oY rfl (y_pick_tb (vB hp156) rfl) ?_))
                           exact key _ _ (keep (keep (keep (keep (keep (keep (keep (keep rfl rfl) rfl) rfl) rfl) rfl) rfl) rfl) (vB (and_t hp156)))
                          ·refine oSk (sF rfl rfl rfl rfl hp156) (oSk (sF rfl rfl rfl rfl hp156) (oY rfl (y_pick_fb (vB hp156) rfl) ?_))
                           exact key _ _ (keep (keep (keep (keep (keep (keep (keep (keep rfl rfl) rfl) rfl) rfl) rfl) rfl) rfl) (vB (and_f hp156)))
                        ·clear h; rcases iOs hb155 with ⟨hp153,h⟩ | ⟨hp153,h⟩
                         ·refine oY (sT rfl rfl rfl rfl hp153) (yMS rfl) ?_
                          refine ox_buildSliceE 2 (encL cI [7,8]) _ mc_3_2 us_42 ze_3 by_3 (by decide) (by decide) (by kernel_rfl) (eL cI_len rfl) (sT rfl rfl rfl rfl hp153) (fun b173 => ?_)
                          try dsimp only [lna,lca,lsz,lss]
                          obtain ⟨y174,hy175,h⟩:=bOs h
                          refine oY (sT rfl rfl rfl rfl hp153) (yC [.slice A129 y127.1.length c130,.slice (some ⟨b173,0,none⟩) 2 2] go_25 rfl (fun W2 hW2 => ref05_SameInts_ok y127.1 [7,8] y174 hy175 W2 A129 y127.1.length c130 rfl ((RdL.row 18 rfl) W2 hW2) (some ⟨b173,0,none⟩) 2 2 rfl ((RdL.row 22 rfl) W2 hW2)) rfl) (oY rfl (y_pick_tb (vB hp153) rfl) ?_)
                          obtain rfl:=sI h
                          refine ox_take 22 ?_
                          exact key _ _ (kp4 (kp4 (kp rfl)))
                         ·refine oSk (sF rfl rfl rfl rfl hp153) (oSk (sF rfl rfl rfl rfl hp153) (oSk (sF rfl rfl rfl rfl hp153) (oY rfl (y_pick_fb (vB hp153) rfl) ?_)))
                          obtain rfl:=sI h
                          exact key _ _ (kp4 (kp4 (kp rfl)))
                       ·rcases bool_cases b150 with hp152 | hp152
                        ·refine oY (sT rfl rfl rfl rfl hp152) (yMI rfl) (oY (sT rfl rfl rfl rfl hp152) (y_eql rfl rfl) (oY rfl (y_pick_tb (vB hp152) rfl) ?_))
                         exact key _ _ (keep (keep (keep (keep (keep (keep (keep (keep (keep (keep rfl rfl) rfl) rfl) rfl) rfl) rfl) rfl) rfl) rfl) (vB (and_t hp152)))
                        ·refine oSk (sF rfl rfl rfl rfl hp152) (oSk (sF rfl rfl rfl rfl hp152) (oY rfl (y_pick_fb (vB hp152) rfl) ?_))
                         exact key _ _ (keep (keep (keep (keep (keep (keep (keep (keep (keep (keep rfl rfl) rfl) rfl) rfl) rfl) rfl) rfl) rfl) rfl) (vB (and_f hp152)))
                      ·clear h; rcases iOs hb151 with ⟨hp149,h⟩ | ⟨hp149,h⟩
                       ·refine oY (sT rfl rfl rfl rfl hp149) (yN 5 [.slice A16 y14.fB.length c17,.slice A18 y14.fR.length c19] ag_53 rfl rfl rfl) (oY (sT rfl rfl rfl rfl hp149) (yN 17 [.slice A118 y116.1.fG.length c119,vI y116.1.fW,.slice A120 y116.1.fPrices.length c121] ag_71 rfl rfl rfl) ?_)
                        obtain ⟨y176,hy177,h⟩:=bOs h
                        refine oY (sT rfl rfl rfl rfl hp149) (yC [.agg #[.slice A16 y14.fB.length c17,.slice A18 y14.fR.length c19],.agg #[.slice A118 y116.1.fG.length c119,vI y116.1.fW,.slice A120 y116.1.fPrices.length c121]] go_44 rfl (fun W2 hW2 => ref05_CheckPlan_ok y14 y116.1 y176 hy177 W2 A16 y14.fB.length c17 rfl ((RdL.row 3 rfl) W2 hW2) A18 y14.fR.length c19 rfl ((RdL.row 4 rfl) W2 hW2) A118 y116.1.fG.length c119 rfl ((RdL.row 15 rfl) W2 hW2) A120 y116.1.fPrices.length c121 rfl ((RdL.row 16 rfl) W2 hW2)) rfl) (oY (sT rfl rfl rfl rfl hp149) (y_eql rfl rfl) (oY rfl (y_pick_tb (vB hp149) rfl) ?_))
                        obtain rfl:=sI h
                        exact key _ _ (kp4 (kp4 (kp (kp (kp rfl)))))
                       ·refine oSk (sF rfl rfl rfl rfl hp149) (oSk (sF rfl rfl rfl rfl hp149) (oSk (sF rfl rfl rfl rfl hp149) (oSk (sF rfl rfl rfl rfl hp149) (oY rfl (y_pick_fb (vB hp149) rfl) ?_))))
                        obtain rfl:=sI h
                        exact key _ _ (kp4 (kp4 (kp (kp (kp rfl)))))
                     ·rcases bool_cases (y116.2 == 0) with hp148 | hp148
                      ·refine oY (sT rfl rfl rfl rfl hp148) (yFA fo_71_1 rfl) (oY (sT rfl rfl rfl rfl hp148) (yL 17 (v:=vI y116.1.fW) sc_3 rfl rfl rfl) (oY (sT rfl rfl rfl rfl hp148) (y_eql rfl rfl) (oY rfl (y_pick_tb (vB hp148) rfl) ?_)))
                       exact key _ _ (keep (keep (keep (keep (keep (keep (keep (keep (keep (keep (keep (keep (keep rfl rfl) rfl) rfl) rfl) rfl) rfl) rfl) rfl) rfl) rfl) rfl) rfl) (vB (and_t hp148)))
                      ·refine oSk (sF rfl rfl rfl rfl hp148) (oSk (sF rfl rfl rfl rfl hp148) (oSk (sF rfl rfl rfl rfl hp148) (oY rfl (y_pick_fb (vB hp148) rfl) ?_)))
                       exact key _ _ (keep (keep (keep (keep (keep (keep (keep (keep (keep (keep (keep (keep (keep rfl rfl) rfl) rfl) rfl) rfl) rfl) rfl) rfl) rfl) rfl) rfl) rfl) (vB (and_f hp148)))
                    ·clear h; rcases iOs hb115 with ⟨hp113,h⟩ | ⟨hp113,h⟩
                     ·refine oY (sT rfl rfl rfl rfl hp113) (yMS rfl) ?_
                      refine ox_buildSliceE 1 (encL cI [3]) _ mc_3_1 us_42 ze_3 by_3 (by decide) (by decide) (by kernel_rfl) (eL cI_len rfl) (sT rfl rfl rfl rfl hp113) (fun b178 => ?_)
                      try dsimp only [lna,lca,lsz,lss]
                      obtain ⟨y179,hy180,h⟩:=bOs h
                      refine oY (sT rfl rfl rfl rfl hp113) (yC [.slice A74 y72.1.length c75,.slice (some ⟨b178,0,none⟩) 1 1] go_25 rfl (fun W2 hW2 => ref05_SameInts_ok y72.1 [3] y179 hy180 W2 A74 y72.1.length c75 rfl ((RdL.row 14 rfl) W2 hW2) (some ⟨b178,0,none⟩) 1 1 rfl ((RdL.row 15 rfl) W2 hW2)) rfl) (oY rfl (y_pick_tb (vB hp113) rfl) ?_)
                      obtain rfl:=sI h
                      refine ox_take 15 ?_
                      exact key _ _ (kp (kp (kp rfl)))
                     ·refine oSk (sF rfl rfl rfl rfl hp113) (oSk (sF rfl rfl rfl rfl hp113) (oSk (sF rfl rfl rfl rfl hp113) (oY rfl (y_pick_fb (vB hp113) rfl) ?_)))
                      obtain rfl:=sI h
                      exact key _ _ (kp (kp (kp rfl)))
                   ·clear h; rcases iOs hb112 with ⟨hp110,h⟩ | ⟨hp110,h⟩
                    ·refine oY (sT rfl rfl rfl rfl hp110) (yMS rfl) ?_
                     refine ox_buildSliceE 2 (encL cI [1,2]) _ mc_3_2 us_42 ze_3 by_3 (by decide) (by decide) (by kernel_rfl) (eL cI_len rfl) (sT rfl rfl rfl rfl hp110) (fun b181 => ?_)
                     try dsimp only [lna,lca,lsz,lss]
                     obtain ⟨y182,hy183,h⟩:=bOs h
                     refine oY (sT rfl rfl rfl rfl hp110) (yC [.slice A68 y66.1.length c69,.slice (some ⟨b181,0,none⟩) 2 2] go_25 rfl (fun W2 hW2 => ref05_SameInts_ok y66.1 [1,2] y182 hy183 W2 A68 y66.1.length c69 rfl ((RdL.row 13 rfl) W2 hW2) (some ⟨b181,0,none⟩) 2 2 rfl ((RdL.row 15 rfl) W2 hW2)) rfl) (oY rfl (y_pick_tb (vB hp110) rfl) ?_)
                     obtain rfl:=sI h
                     refine ox_take 15 ?_
                     exact key _ _ (kp4 rfl)
                    ·refine oSk (sF rfl rfl rfl rfl hp110) (oSk (sF rfl rfl rfl rfl hp110) (oSk (sF rfl rfl rfl rfl hp110) (oY rfl (y_pick_fb (vB hp110) rfl) ?_)))
                     obtain rfl:=sI h
                     exact key _ _ (kp4 rfl)
                  ·rcases bool_cases (b106 && (y53.1.fA == 17)) with hp109 | hp109
                   ·refine oY (sT rfl rfl rfl rfl hp109) (yMI rfl) (oY (sT rfl rfl rfl rfl hp109) (y_eql rfl rfl) (oY rfl (y_pick_tb (vB hp109) rfl) ?_))
                    exact key _ _ (keep (keep (keep (keep (keep rfl rfl) rfl) rfl) rfl) (vB (and_t hp109)))
                   ·refine oSk (sF rfl rfl rfl rfl hp109) (oSk (sF rfl rfl rfl rfl hp109) (oY rfl (y_pick_fb (vB hp109) rfl) ?_))
                    exact key _ _ (keep (keep (keep (keep (keep rfl rfl) rfl) rfl) rfl) (vB (and_f hp109)))
                 ·rcases bool_cases b106 with hp108 | hp108
                  ·refine oY (sT rfl rfl rfl rfl hp108) (yFA fo_29_1 rfl) (oY (sT rfl rfl rfl rfl hp108) (yL 12 (v:=vI y53.1.fA) sc_3 rfl rfl rfl) (oY (sT rfl rfl rfl rfl hp108) (y_eql rfl rfl) (oY rfl (y_pick_tb (vB hp108) rfl) ?_)))
                   exact key _ _ (keep (keep (keep (keep (keep (keep rfl rfl) rfl) rfl) rfl) rfl) (vB (and_t hp108)))
                  ·refine oSk (sF rfl rfl rfl rfl hp108) (oSk (sF rfl rfl rfl rfl hp108) (oSk (sF rfl rfl rfl rfl hp108) (oY rfl (y_pick_fb (vB hp108) rfl) ?_)))
                   exact key _ _ (keep (keep (keep (keep (keep (keep rfl rfl) rfl) rfl) rfl) rfl) (vB (and_f hp108)))
                ·clear h; rcases iOs hb107 with ⟨hp105,h⟩ | ⟨hp105,h⟩
                 ·refine oY (sT rfl rfl rfl rfl hp105) (yMS rfl) ?_
                  obtain ⟨hg184,h⟩:=gOs h
                  refine oY (sT rfl rfl rfl rfl hp105) (yI sl_106 (by decide) hg184.1 hg184.2 (RdL.row 9 rfl) (eL TJourney_cells2_len (NestP.hn hP49 rfl)) rfl rfl) ?_
                  refine oY (sT rfl rfl rfl rfl hp105) (yFR (A:=A45) (j:=(Int.toNat 2 * 3)) fo_29_2 rfl) (oY (sT rfl rfl rfl rfl hp105) (yR (A:=A45) (j:=((Int.toNat 2 * 3) + 2)) (v:=vI ((rdL y41.1 2).fToll)) sc_3 (RdL.row 9 rfl) rfl (eG TJourney_cells2_len hg184.1 (lt_nat hg184.2 (NestP.hn hP49 rfl)) (congrArg (fun z : TJ => some (Value.int .i64 z.fToll)) (NestP.snd hP49 2)))) (oY (sT rfl rfl rfl rfl hp105) (y_eql rfl rfl) (oY rfl (y_pick_tb (vB hp105) rfl) ?_)))
                  obtain rfl:=sI h
                  exact key _ _ (kp4 (kp (kp (kp rfl))))
                 ·refine oSk (sF rfl rfl rfl rfl hp105) (oSk (sF rfl rfl rfl rfl hp105) (oSk (sF rfl rfl rfl rfl hp105) (oSk (sF rfl rfl rfl rfl hp105) (oSk (sF rfl rfl rfl rfl hp105) (oY rfl (y_pick_fb (vB hp105) rfl) ?_)))))
                  obtain rfl:=sI h
                  exact key _ _ (kp4 (kp (kp (kp rfl))))
               ·clear h; rcases iOs hb104 with ⟨hp102,h⟩ | ⟨hp102,h⟩
                ·refine oY (sT rfl rfl rfl rfl hp102) (yMS rfl) ?_
                 obtain ⟨hg185,h⟩:=gOs h
                 refine oY (sT rfl rfl rfl rfl hp102) (yI sl_106 (by decide) hg185.1 hg185.2 (RdL.row 9 rfl) (eL TJourney_cells2_len (NestP.hn hP49 rfl)) rfl rfl) ?_
                 refine oY (sT rfl rfl rfl rfl hp102) (yFR (A:=A45) (j:=(Int.toNat 1 * 3)) fo_29_1 rfl) (oY (sT rfl rfl rfl rfl hp102) (yR (A:=A45) (j:=((Int.toNat 1 * 3) + 1)) (v:=vI ((rdL y41.1 1).fA)) sc_3 (RdL.row 9 rfl) rfl (eG TJourney_cells2_len hg185.1 (lt_nat hg185.2 (NestP.hn hP49 rfl)) (congrArg (fun z : TJ => some (Value.int .i64 z.fA)) (NestP.snd hP49 1)))) (oY (sT rfl rfl rfl rfl hp102) (y_eql rfl rfl) (oY rfl (y_pick_tb (vB hp102) rfl) ?_)))
                 obtain rfl:=sI h
                 exact key _ _ (kp4 (kp4 rfl))
                ·refine oSk (sF rfl rfl rfl rfl hp102) (oSk (sF rfl rfl rfl rfl hp102) (oSk (sF rfl rfl rfl rfl hp102) (oSk (sF rfl rfl rfl rfl hp102) (oSk (sF rfl rfl rfl rfl hp102) (oY rfl (y_pick_fb (vB hp102) rfl) ?_)))))
                 obtain rfl:=sI h
                 exact key _ _ (kp4 (kp4 rfl))
              ·clear h; rcases iOs hb101 with ⟨hp99,h⟩ | ⟨hp99,h⟩
               ·refine oY (sT rfl rfl rfl rfl hp99) (yMS rfl) ?_
                obtain ⟨hg186,h⟩:=gOs h
                refine oY (sT rfl rfl rfl rfl hp99) (yI sl_106 (by decide) hg186.1 hg186.2 (RdL.row 9 rfl) (eL TJourney_cells2_len (NestP.hn hP49 rfl)) rfl rfl) ?_
                refine oY (sT rfl rfl rfl rfl hp99) (yFR (A:=A45) (j:=(Int.toNat 0 * 3)) fo_29_2 rfl) (oY (sT rfl rfl rfl rfl hp99) (yR (A:=A45) (j:=((Int.toNat 0 * 3) + 2)) (v:=vI ((rdL y41.1 0).fToll)) sc_3 (RdL.row 9 rfl) rfl (eG TJourney_cells2_len hg186.1 (lt_nat hg186.2 (NestP.hn hP49 rfl)) (congrArg (fun z : TJ => some (Value.int .i64 z.fToll)) (NestP.snd hP49 0)))) (oY (sT rfl rfl rfl rfl hp99) (y_eql rfl rfl) (oY rfl (y_pick_tb (vB hp99) rfl) ?_)))
                obtain rfl:=sI h
                exact key _ _ (kp4 (kp4 rfl))
               ·refine oSk (sF rfl rfl rfl rfl hp99) (oSk (sF rfl rfl rfl rfl hp99) (oSk (sF rfl rfl rfl rfl hp99) (oSk (sF rfl rfl rfl rfl hp99) (oSk (sF rfl rfl rfl rfl hp99) (oY rfl (y_pick_fb (vB hp99) rfl) ?_)))))
                obtain rfl:=sI h
                exact key _ _ (kp4 (kp4 rfl))
             ·clear h; rcases iOs hb98 with ⟨hp96,h⟩ | ⟨hp96,h⟩
              ·refine oY (sT rfl rfl rfl rfl hp96) (yFA fo_87_0 rfl) (oY (sT rfl rfl rfl rfl hp96) (yL 8 (v:=.slice A32 y28.1.fH.length c33) sc_85 rfl rfl rfl) ?_)
               obtain ⟨hg187,h⟩:=gOs h
               refine oY (sT rfl rfl rfl rfl hp96) (yI sl_85 (by decide) hg187.1 hg187.2 (RdL.row 6 rfl) (eL SlInt_cells2_len (NestP.hn hP36 rfl)) rfl rfl) ?_
               refine oY (sT rfl rfl rfl rfl hp96) (yR (A:=A32) (j:=(Int.toNat 2 * 1)) (v:=.slice ((rdL ys37 2).1.1) ((rdL y28.1.fH 2).length) ((rdL ys37 2).1.2.2)) sc_42 (RdL.row 6 rfl) rfl (encL_get0 SlInt_cells2_len hg187.1 (lt_nat hg187.2 (NestP.hn hP36 rfl)) (congrArg (fun n : Nat => some (Value.slice (rdL ys37 2).1.1 n (rdL ys37 2).1.2.2)) (NestP.len hP36 hg187.1 (lt_nat hg187.2 rfl))))) ?_
               obtain ⟨hg188,h⟩:=gOs h
               refine oY (sT rfl rfl rfl rfl hp96) (yI sl_42 (by decide) hg188.1 hg188.2 (NestL.rd (PvL.nestL hP36 hV39 (fun W2 hW2 => ⟨hW2.below,trivial,hW2.mem (i:=7) rfl⟩)) hg187.1 (lt_nat hg187.2 rfl)) (eL cI_len rfl) rfl rfl) ?_
               refine oY (sT rfl rfl rfl rfl hp96) (yR (A:=((rdL ys37 2).1.1)) (j:=(Int.toNat 6 * 1)) (v:=vI (rdL (rdL y28.1.fH 2) 6)) sc_3 (NestL.rd (PvL.nestL hP36 hV39 (fun W2 hW2 => ⟨hW2.below,trivial,hW2.mem (i:=7) rfl⟩)) hg187.1 (lt_nat hg187.2 rfl)) rfl (encL_get0 cI_len hg188.1 (lt_nat hg188.2 rfl) rfl)) (oY (sT rfl rfl rfl rfl hp96) (y_eql rfl rfl) (oY rfl (y_pick_tb (vB hp96) rfl) ?_))
               obtain rfl:=sI h
               exact key _ _ (kp4 (kp4 rfl))
              ·refine oSk (sF rfl rfl rfl rfl hp96) (oSk (sF rfl rfl rfl rfl hp96) (oSk (sF rfl rfl rfl rfl hp96) (oSk (sF rfl rfl rfl rfl hp96) (oSk (sF rfl rfl rfl rfl hp96) (oSk (sF rfl rfl rfl rfl hp96) (oSk (sF rfl rfl rfl rfl hp96) (oY rfl (y_pick_fb (vB hp96) rfl) ?_)))))))
               obtain rfl:=sI h
               exact key _ _ (kp4 (kp4 rfl))
            ·clear h; rcases iOs hb95 with ⟨hp93,h⟩ | ⟨hp93,h⟩
             ·refine oY (sT rfl rfl rfl rfl hp93) (yFA fo_87_0 rfl) (oY (sT rfl rfl rfl rfl hp93) (yL 8 (v:=.slice A32 y28.1.fH.length c33) sc_85 rfl rfl rfl) ?_)
              obtain ⟨hg189,h⟩:=gOs h
              refine oY (sT rfl rfl rfl rfl hp93) (yI sl_85 (by decide) hg189.1 hg189.2 (RdL.row 6 rfl) (eL SlInt_cells2_len (NestP.hn hP36 rfl)) rfl rfl) ?_
              refine oY (sT rfl rfl rfl rfl hp93) (yR (A:=A32) (j:=(Int.toNat 2 * 1)) (v:=.slice ((rdL ys37 2).1.1) ((rdL y28.1.fH 2).length) ((rdL ys37 2).1.2.2)) sc_42 (RdL.row 6 rfl) rfl (encL_get0 SlInt_cells2_len hg189.1 (lt_nat hg189.2 (NestP.hn hP36 rfl)) (congrArg (fun n : Nat => some (Value.slice (rdL ys37 2).1.1 n (rdL ys37 2).1.2.2)) (NestP.len hP36 hg189.1 (lt_nat hg189.2 rfl))))) ?_
              obtain ⟨hg190,h⟩:=gOs h
              refine oY (sT rfl rfl rfl rfl hp93) (yI sl_42 (by decide) hg190.1 hg190.2 (NestL.rd (PvL.nestL hP36 hV39 (fun W2 hW2 => ⟨hW2.below,trivial,hW2.mem (i:=7) rfl⟩)) hg189.1 (lt_nat hg189.2 rfl)) (eL cI_len rfl) rfl rfl) ?_
              refine oY (sT rfl rfl rfl rfl hp93) (yR (A:=((rdL ys37 2).1.1)) (j:=(Int.toNat 2 * 1)) (v:=vI (rdL (rdL y28.1.fH 2) 2)) sc_3 (NestL.rd (PvL.nestL hP36 hV39 (fun W2 hW2 => ⟨hW2.below,trivial,hW2.mem (i:=7) rfl⟩)) hg189.1 (lt_nat hg189.2 rfl)) rfl (encL_get0 cI_len hg190.1 (lt_nat hg190.2 rfl) rfl)) (oY (sT rfl rfl rfl rfl hp93) (y_eql rfl rfl) (oY rfl (y_pick_tb (vB hp93) rfl) ?_))
              obtain rfl:=sI h
              exact key _ _ (kp4 (kp4 (kp rfl)))
             ·refine oSk (sF rfl rfl rfl rfl hp93) (oSk (sF rfl rfl rfl rfl hp93) (oSk (sF rfl rfl rfl rfl hp93) (oSk (sF rfl rfl rfl rfl hp93) (oSk (sF rfl rfl rfl rfl hp93) (oSk (sF rfl rfl rfl rfl hp93) (oSk (sF rfl rfl rfl rfl hp93) (oY rfl (y_pick_fb (vB hp93) rfl) ?_)))))))
              obtain rfl:=sI h
              exact key _ _ (kp4 (kp4 (kp rfl)))
          ·rcases bool_cases b87 with hp89 | hp89
           ·refine oSk (sF rfl rfl rfl rfl hp89) (oSk (sF rfl rfl rfl rfl hp89) (oSk (sF rfl rfl rfl rfl hp89) (oY rfl (y_pick_tb (vB hp89) rfl) ?_)))
            exact key _ _ (keep (keep (keep (keep (keep (keep (keep (keep (keep rfl rfl) rfl) rfl) rfl) rfl) rfl) rfl) rfl) (vB (or_t hp89)))
           ·refine oY (sT rfl rfl rfl rfl hp89) (yMS rfl) (oY (sT rfl rfl rfl rfl hp89) (y_len (us:=[]) us_106 rfl) (oY (sT rfl rfl rfl rfl hp89) (y_neq rfl rfl) (oY rfl (y_pick_fb (vB hp89) rfl) ?_)))
            exact key _ _ (keep (keep (keep (keep (keep (keep (keep (keep (keep rfl rfl) rfl) rfl) rfl) rfl) rfl) rfl) rfl) (vB (or_f hp89)))
         ·clear h; rcases iOs hb88 with ⟨hp86,h⟩ | ⟨hp86,h⟩
          ·refine oSk (sF rfl rfl rfl rfl hp86) (oSk (sF rfl rfl rfl rfl hp86) (oSk (sF rfl rfl rfl rfl hp86) (oSk (sF rfl rfl rfl rfl hp86) (oSk (sF rfl rfl rfl rfl hp86) (oSk (sF rfl rfl rfl rfl hp86) (oY rfl (y_pick_tb (vB hp86) rfl) ?_))))))
           obtain rfl:=sI h
           exact key _ _ (kp4 (kp4 (kp rfl)))
          ·refine oY (sT rfl rfl rfl rfl hp86) (yFA fo_87_0 rfl) (oY (sT rfl rfl rfl rfl hp86) (yL 8 (v:=.slice A32 y28.1.fH.length c33) sc_85 rfl rfl rfl) ?_)
           obtain ⟨hg191,h⟩:=gOs h
           refine oY (sT rfl rfl rfl rfl hp86) (yI sl_85 (by decide) hg191.1 hg191.2 (RdL.row 6 rfl) (eL SlInt_cells2_len (NestP.hn hP36 rfl)) rfl rfl) ?_
           refine oY (sT rfl rfl rfl rfl hp86) (yR (A:=A32) (j:=(Int.toNat 2 * 1)) (v:=.slice ((rdL ys37 2).1.1) ((rdL y28.1.fH 2).length) ((rdL ys37 2).1.2.2)) sc_42 (RdL.row 6 rfl) rfl (encL_get0 SlInt_cells2_len hg191.1 (lt_nat hg191.2 (NestP.hn hP36 rfl)) (congrArg (fun n : Nat => some (Value.slice (rdL ys37 2).1.1 n (rdL ys37 2).1.2.2)) (NestP.len hP36 hg191.1 (lt_nat hg191.2 rfl))))) (oY (sT rfl rfl rfl rfl hp86) (y_len (us:=[]) us_42 rfl) (oY (sT rfl rfl rfl rfl hp86) (y_neq rfl rfl) (oY rfl (y_pick_fb (vB hp86) rfl) ?_)))
           obtain rfl:=sI h
           exact key _ _ (kp4 (kp4 (kp rfl)))
        ·rcases bool_cases ((((((((y26.2 != 0) || (y28.2 != 0)) || (y41.2 != 0)) || (y53.2 != 0)) || (y64.2 != 0)) || (y66.2 != 0)) || (y72.2 != 0)) || (y26.1 != 21)) with hp85 | hp85
         ·refine oSk (sF rfl rfl rfl rfl hp85) (oSk (sF rfl rfl rfl rfl hp85) (oSk (sF rfl rfl rfl rfl hp85) (oSk (sF rfl rfl rfl rfl hp85) (oY rfl (y_pick_tb (vB hp85) rfl) ?_))))
          exact key _ _ (keep (keep (keep (keep (keep (keep (keep (keep (keep rfl rfl) rfl) rfl) rfl) rfl) rfl) rfl) rfl) (vB (or_t hp85)))
         ·refine oY (sT rfl rfl rfl rfl hp85) (yFA fo_87_0 rfl) (oY (sT rfl rfl rfl rfl hp85) (yL 8 (v:=.slice A32 y28.1.fH.length c33) sc_85 rfl rfl rfl) (oY (sT rfl rfl rfl rfl hp85) (y_len (us:=[]) us_85 rfl) (oY (sT rfl rfl rfl rfl hp85) (y_neq rfl rfl) (oY rfl (y_pick_fb (vB hp85) rfl) ?_))))
          exact key _ _ (keep (keep (keep (keep (keep (keep (keep (keep (keep rfl rfl) rfl) rfl) rfl) rfl) rfl) rfl) rfl) (vB (or_f hp85)))
       ·rcases bool_cases (((((((y26.2 != 0) || (y28.2 != 0)) || (y41.2 != 0)) || (y53.2 != 0)) || (y64.2 != 0)) || (y66.2 != 0)) || (y72.2 != 0)) with hp84 | hp84
        ·refine oSk (sF rfl rfl rfl rfl hp84) (oSk (sF rfl rfl rfl rfl hp84) (oY rfl (y_pick_tb (vB hp84) rfl) ?_))
         exact key _ _ (keep (keep (keep (keep (keep (keep (keep (keep (keep rfl rfl) rfl) rfl) rfl) rfl) rfl) rfl) rfl) (vB (or_t hp84)))
        ·refine oY (sT rfl rfl rfl rfl hp84) (yMI rfl) (oY (sT rfl rfl rfl rfl hp84) (y_neq rfl rfl) (oY rfl (y_pick_fb (vB hp84) rfl) ?_))
         exact key _ _ (keep (keep (keep (keep (keep (keep (keep (keep (keep rfl rfl) rfl) rfl) rfl) rfl) rfl) rfl) rfl) (vB (or_f hp84)))
      ·rcases bool_cases ((((((y26.2 != 0) || (y28.2 != 0)) || (y41.2 != 0)) || (y53.2 != 0)) || (y64.2 != 0)) || (y66.2 != 0)) with hp83 | hp83
       ·refine oSk (sF rfl rfl rfl rfl hp83) (oSk (sF rfl rfl rfl rfl hp83) (oY rfl (y_pick_tb (vB hp83) rfl) ?_))
        exact key _ _ (keep (keep (keep (keep (keep (keep (keep (keep (keep (keep rfl rfl) rfl) rfl) rfl) rfl) rfl) rfl) rfl) rfl) (vB (or_t hp83)))
       ·refine oY (sT rfl rfl rfl rfl hp83) (yMI rfl) (oY (sT rfl rfl rfl rfl hp83) (y_neq rfl rfl) (oY rfl (y_pick_fb (vB hp83) rfl) ?_))
        exact key _ _ (keep (keep (keep (keep (keep (keep (keep (keep (keep (keep rfl rfl) rfl) rfl) rfl) rfl) rfl) rfl) rfl) rfl) (vB (or_f hp83)))
     ·rcases bool_cases (((((y26.2 != 0) || (y28.2 != 0)) || (y41.2 != 0)) || (y53.2 != 0)) || (y64.2 != 0)) with hp82 | hp82
      ·refine oSk (sF rfl rfl rfl rfl hp82) (oSk (sF rfl rfl rfl rfl hp82) (oY rfl (y_pick_tb (vB hp82) rfl) ?_))
       exact key _ _ (keep (keep (keep (keep (keep (keep (keep (keep (keep (keep (keep rfl rfl) rfl) rfl) rfl) rfl) rfl) rfl) rfl) rfl) rfl) (vB (or_t hp82)))
      ·refine oY (sT rfl rfl rfl rfl hp82) (yMI rfl) (oY (sT rfl rfl rfl rfl hp82) (y_neq rfl rfl) (oY rfl (y_pick_fb (vB hp82) rfl) ?_))
       exact key _ _ (keep (keep (keep (keep (keep (keep (keep (keep (keep (keep (keep rfl rfl) rfl) rfl) rfl) rfl) rfl) rfl) rfl) rfl) rfl) (vB (or_f hp82)))
    ·rcases bool_cases ((((y26.2 != 0) || (y28.2 != 0)) || (y41.2 != 0)) || (y53.2 != 0)) with hp81 | hp81
     ·refine oSk (sF rfl rfl rfl rfl hp81) (oSk (sF rfl rfl rfl rfl hp81) (oY rfl (y_pick_tb (vB hp81) rfl) ?_))
      exact key _ _ (keep (keep (keep (keep (keep (keep (keep (keep (keep (keep (keep (keep rfl rfl) rfl) rfl) rfl) rfl) rfl) rfl) rfl) rfl) rfl) rfl) (vB (or_t hp81)))
     ·refine oY (sT rfl rfl rfl rfl hp81) (yMI rfl) (oY (sT rfl rfl rfl rfl hp81) (y_neq rfl rfl) (oY rfl (y_pick_fb (vB hp81) rfl) ?_))
      exact key _ _ (keep (keep (keep (keep (keep (keep (keep (keep (keep (keep (keep (keep rfl rfl) rfl) rfl) rfl) rfl) rfl) rfl) rfl) rfl) rfl) rfl) (vB (or_f hp81)))
   ·rcases bool_cases (((y26.2 != 0) || (y28.2 != 0)) || (y41.2 != 0)) with hp80 | hp80
    ·refine oSk (sF rfl rfl rfl rfl hp80) (oSk (sF rfl rfl rfl rfl hp80) (oY rfl (y_pick_tb (vB hp80) rfl) ?_))
     exact key _ _ (keep (keep (keep (keep (keep (keep (keep (keep (keep (keep (keep (keep (keep rfl rfl) rfl) rfl) rfl) rfl) rfl) rfl) rfl) rfl) rfl) rfl) rfl) (vB (or_t hp80)))
    ·refine oY (sT rfl rfl rfl rfl hp80) (yMI rfl) (oY (sT rfl rfl rfl rfl hp80) (y_neq rfl rfl) (oY rfl (y_pick_fb (vB hp80) rfl) ?_))
     exact key _ _ (keep (keep (keep (keep (keep (keep (keep (keep (keep (keep (keep (keep (keep rfl rfl) rfl) rfl) rfl) rfl) rfl) rfl) rfl) rfl) rfl) rfl) rfl) (vB (or_f hp80)))
  ·rcases bool_cases ((y26.2 != 0) || (y28.2 != 0)) with hp79 | hp79
   ·refine oSk (sF rfl rfl rfl rfl hp79) (oSk (sF rfl rfl rfl rfl hp79) (oY rfl (y_pick_tb (vB hp79) rfl) ?_))
    exact key _ _ (keep (keep (keep (keep (keep (keep (keep (keep (keep (keep (keep (keep (keep (keep rfl rfl) rfl) rfl) rfl) rfl) rfl) rfl) rfl) rfl) rfl) rfl) rfl) rfl) (vB (or_t hp79)))
   ·refine oY (sT rfl rfl rfl rfl hp79) (yMI rfl) (oY (sT rfl rfl rfl rfl hp79) (y_neq rfl rfl) (oY rfl (y_pick_fb (vB hp79) rfl) ?_))
    exact key _ _ (keep (keep (keep (keep (keep (keep (keep (keep (keep (keep (keep (keep (keep (keep rfl rfl) rfl) rfl) rfl) rfl) rfl) rfl) rfl) rfl) rfl) rfl) rfl) rfl) (vB (or_f hp79)))
 ·rcases bool_cases (y26.2 != 0) with hp78 | hp78
  ·refine oSk (sF rfl rfl rfl rfl hp78) (oSk (sF rfl rfl rfl rfl hp78) (oY rfl (y_pick_tb (vB hp78) rfl) ?_))
   exact key _ _ (keep (keep (keep (keep (keep (keep (keep (keep (keep (keep (keep (keep (keep (keep (keep rfl rfl) rfl) rfl) rfl) rfl) rfl) rfl) rfl) rfl) rfl) rfl) rfl) rfl) rfl) (vB (or_t hp78)))
  ·refine oY (sT rfl rfl rfl rfl hp78) (yMI rfl) (oY (sT rfl rfl rfl rfl hp78) (y_neq rfl rfl) (oY rfl (y_pick_fb (vB hp78) rfl) ?_))
   exact key _ _ (keep (keep (keep (keep (keep (keep (keep (keep (keep (keep (keep (keep (keep (keep (keep rfl rfl) rfl) rfl) rfl) rfl) rfl) rfl) rfl) rfl) rfl) rfl) rfl) rfl) rfl) (vB (or_f hp78)))
end Go.Proofs.YthndghnkebboaaaGreat
set_option maxHeartbeats 4000000
set_option maxRecDepth 100000
namespace Go.Proofs.YthndghnkebboaaaGreat
open Go.RowKit (Below)
attribute [local irreducible] OX QX CX EX OpY Calls CallsIn
theorem calxlaw05_yard_ok (p0:TY) (res:Bool) (h:calxlaw05_yard p0 = some res) (W:World) (Aa:Option Addr) (n0_0 ca : Nat) (hn0_0:n0_0 = p0.fB.length) (hr0_0:Rd W Aa n0_0 ca (encL TBay_cells p0.fB)) (Ab:Option Addr) (n0_1 cb : Nat) (hn0_1:n0_1 = p0.fR.length) (hr0_1:Rd W Ab n0_1 cb (encL TOrder_cells p0.fR)) :
  Calls Tryz.prog 26 [.agg #[.slice Aa n0_0 ca,.slice Ab n0_1 cb]].toArray W fun e W2 => e = .returned (.bool res) ∧ Ext W W2 []:=by
 subst hn0_0
 subst hn0_1
 unfold calxlaw05_yard at h
 refine calls_enter (m:=41) Tryz.func26 rfl rfl (nB rfl) (cS (cR ?_))
 refine ox_box [.slice Aa p0.fB.length ca,.slice Ab p0.fR.length cb] rfl rfl rfl (fun b1 => ?_)
 refine oY rfl (yAB rfl) (oN (eT (cS (cR (oY rfl (yFA fo_53_0 rfl) (oY rfl (yL 0 (v:=.slice Aa p0.fB.length ca) sc_50 rfl rfl rfl) (oY rfl (y_len (us:=[]) us_50 rfl) (oY rfl (y_leq rfl rfl) (oY rfl (yMB rfl) ?_)))))))))
 refine oJ 11 (fun tm0 => (upd (upd (upd tm0 1 (.pointer (some ⟨b1,0,none⟩))) 2 (.bool false)) 20 (.bool ((decide ((p0.fB.length:Int) ≤ 9)) || ((decide (24 < (p0.fB.length:Int))) && (decide ((p0.fB.length:Int) ≤ 40))))))) (fun tm0 => ?_) (fun key => ?_)
 ·refine oY rfl (yAB rfl) (oN (eT (cS (cR (oY rfl (yFA fo_53_1 rfl) (oY rfl (yL 0 (v:=.slice Ab p0.fR.length cb) sc_51 rfl rfl rfl) (oY rfl (y_len (us:=[]) us_51 rfl) (oY rfl (y_leq rfl rfl) (oY rfl (yMB rfl) ?_)))))))))
  refine oJ 11 (fun tm0 => (upd (upd (upd tm0 2 (.bool false)) 3 (.bool ((decide ((p0.fB.length:Int) ≤ 9)) || ((decide (24 < (p0.fB.length:Int))) && (decide ((p0.fB.length:Int) ≤ 40)))))) 36 (.bool ((decide ((p0.fR.length:Int) ≤ 9)) || ((decide (24 < (p0.fR.length:Int))) && (decide ((p0.fR.length:Int) ≤ 40))))))) (fun tm0 => ?_) (fun key => ?_)
  ·refine oY rfl (yAB rfl) (oN (eT (cS (cR (oY rfl (yMB rfl) (oY rfl (yMB rfl) ?_))))))
   refine oJ 2 (fun tm0 => (upd (upd tm0 2 (.bool false)) 40 (.bool (((decide ((p0.fB.length:Int) ≤ 9)) || ((decide (24 < (p0.fB.length:Int))) && (decide ((p0.fB.length:Int) ≤ 40)))) && ((decide ((p0.fR.length:Int) ≤ 9)) || ((decide (24 < (p0.fR.length:Int))) && (decide ((p0.fR.length:Int) ≤ 40)))))))) (fun tm0 => ?_) (fun key => ?_)
   ·refine oY rfl (yAB rfl) (oN (eT (cx_ret ?_)))
    obtain rfl:=sI h
    exact ex_res1 (.inl rfl) rfl (rVt (v:=.bool (((decide ((p0.fB.length:Int) ≤ 9)) || ((decide (24 < (p0.fB.length:Int))) && (decide ((p0.fB.length:Int) ≤ 40)))) && ((decide ((p0.fR.length:Int) ≤ 9)) || ((decide (24 < (p0.fR.length:Int))) && (decide ((p0.fR.length:Int) ≤ 40)))))) rfl) (fun W2 hW2 => ⟨rfl,hW2.none⟩)
   ·rcases bool_cases ((decide ((p0.fB.length:Int) ≤ 9)) || ((decide (24 < (p0.fB.length:Int))) && (decide ((p0.fB.length:Int) ≤ 40)))) with hp4 | hp4
    ·refine oY (sT rfl rfl rfl rfl hp4) (yMB rfl) (oY rfl (y_pick_tb (vB hp4) rfl) ?_)
     exact key _ _ (keep (keep rfl rfl) (vB (and_t hp4)))
    ·refine oSk (sF rfl rfl rfl rfl hp4) (oY rfl (y_pick_fb (vB hp4) rfl) ?_)
     exact key _ _ (keep (keep rfl rfl) (vB (and_f hp4)))
  ·rcases bool_cases (decide ((p0.fR.length:Int) ≤ 9)) with hp3 | hp3
   ·refine oSk (sF rfl rfl rfl rfl hp3) (oSk (sF rfl rfl rfl rfl hp3) (oSk (sF rfl rfl rfl rfl hp3) (oSk (sF rfl rfl rfl rfl hp3) (oSk (sF rfl rfl rfl rfl hp3) (oSk rfl (oSk rfl (oSk rfl (oSk rfl (oSk (sF rfl rfl rfl rfl hp3) (oY rfl (y_pick_tb (vB hp3) rfl) ?_))))))))))
    exact key _ _ (keep (keep (keep rfl rfl) rfl) (vB (or_t hp3)))
   ·refine oY (sT rfl rfl rfl rfl hp3) (yFA fo_53_1 rfl) (oY (sT rfl rfl rfl rfl hp3) (yL 0 (v:=.slice Ab p0.fR.length cb) sc_51 rfl rfl rfl) (oY (sT rfl rfl rfl rfl hp3) (y_len (us:=[]) us_51 rfl) (oY (sT rfl rfl rfl rfl hp3) (y_gtr rfl rfl) (oY (sT rfl rfl rfl rfl hp3) (yMB rfl) ?_))))
    refine oJ 5 (fun tm0 => (upd (upd (upd (upd tm0 2 (.bool false)) 3 (.bool ((decide ((p0.fB.length:Int) ≤ 9)) || ((decide (24 < (p0.fB.length:Int))) && (decide ((p0.fB.length:Int) ≤ 40)))))) 25 (.bool (decide ((p0.fR.length:Int) ≤ 9)))) 35 (.bool ((decide (24 < (p0.fR.length:Int))) && (decide ((p0.fR.length:Int) ≤ 40)))))) (fun tm0 => ?_) (fun key => ?_)
    ·refine oY rfl (y_pick_fb (vB hp3) rfl) ?_
     exact key _ _ (keep (keep (keep rfl rfl) rfl) (vB (or_f hp3)))
    ·rcases bool_cases (decide (24 < (p0.fR.length:Int))) with hp5 | hp5
     ·refine oY (sT rfl rfl rfl rfl hp5) (yFA fo_53_1 rfl) (oY (sT rfl rfl rfl rfl hp5) (yL 0 (v:=.slice Ab p0.fR.length cb) sc_51 rfl rfl rfl) (oY (sT rfl rfl rfl rfl hp5) (y_len (us:=[]) us_51 rfl) (oY (sT rfl rfl rfl rfl hp5) (y_leq rfl rfl) (oY (sT rfl rfl rfl rfl hp3) (y_pick_tb (vB hp5) rfl) ?_))))
      exact key _ _ (keep (keep (keep (keep rfl rfl) rfl) rfl) (vB (and_t hp5)))
     ·refine oSk (sF rfl rfl rfl rfl hp5) (oSk (sF rfl rfl rfl rfl hp5) (oSk (sF rfl rfl rfl rfl hp5) (oSk (sF rfl rfl rfl rfl hp5) (oY (sT rfl rfl rfl rfl hp3) (y_pick_fb (vB hp5) rfl) ?_))))
      exact key _ _ (keep (keep (keep (keep rfl rfl) rfl) rfl) (vB (and_f hp5)))
 ·rcases bool_cases (decide ((p0.fB.length:Int) ≤ 9)) with hp2 | hp2
  ·refine oSk (sF rfl rfl rfl rfl hp2) (oSk (sF rfl rfl rfl rfl hp2) (oSk (sF rfl rfl rfl rfl hp2) (oSk (sF rfl rfl rfl rfl hp2) (oSk (sF rfl rfl rfl rfl hp2) (oSk rfl (oSk rfl (oSk rfl (oSk rfl (oSk (sF rfl rfl rfl rfl hp2) (oY rfl (y_pick_tb (vB hp2) rfl) ?_))))))))))
   exact key _ _ (keep (keep (keep rfl rfl) rfl) (vB (or_t hp2)))
  ·refine oY (sT rfl rfl rfl rfl hp2) (yFA fo_53_0 rfl) (oY (sT rfl rfl rfl rfl hp2) (yL 0 (v:=.slice Aa p0.fB.length ca) sc_50 rfl rfl rfl) (oY (sT rfl rfl rfl rfl hp2) (y_len (us:=[]) us_50 rfl) (oY (sT rfl rfl rfl rfl hp2) (y_gtr rfl rfl) (oY (sT rfl rfl rfl rfl hp2) (yMB rfl) ?_))))
   refine oJ 5 (fun tm0 => (upd (upd (upd (upd tm0 1 (.pointer (some ⟨b1,0,none⟩))) 2 (.bool false)) 9 (.bool (decide ((p0.fB.length:Int) ≤ 9)))) 19 (.bool ((decide (24 < (p0.fB.length:Int))) && (decide ((p0.fB.length:Int) ≤ 40)))))) (fun tm0 => ?_) (fun key => ?_)
   ·refine oY rfl (y_pick_fb (vB hp2) rfl) ?_
    exact key _ _ (keep (keep (keep rfl rfl) rfl) (vB (or_f hp2)))
   ·rcases bool_cases (decide (24 < (p0.fB.length:Int))) with hp6 | hp6
    ·refine oY (sT rfl rfl rfl rfl hp6) (yFA fo_53_0 rfl) (oY (sT rfl rfl rfl rfl hp6) (yL 0 (v:=.slice Aa p0.fB.length ca) sc_50 rfl rfl rfl) (oY (sT rfl rfl rfl rfl hp6) (y_len (us:=[]) us_50 rfl) (oY (sT rfl rfl rfl rfl hp6) (y_leq rfl rfl) (oY (sT rfl rfl rfl rfl hp2) (y_pick_tb (vB hp6) rfl) ?_))))
     exact key _ _ (keep (keep (keep (keep rfl rfl) rfl) rfl) (vB (and_t hp6)))
    ·refine oSk (sF rfl rfl rfl rfl hp6) (oSk (sF rfl rfl rfl rfl hp6) (oSk (sF rfl rfl rfl rfl hp6) (oSk (sF rfl rfl rfl rfl hp6) (oY (sT rfl rfl rfl rfl hp2) (y_pick_fb (vB hp6) rfl) ?_))))
     exact key _ _ (keep (keep (keep (keep rfl rfl) rfl) rfl) (vB (and_f hp6)))
end Go.Proofs.YthndghnkebboaaaGreat
set_option maxHeartbeats 4000000
set_option maxRecDepth 100000
namespace Go.Proofs.YthndghnkebboaaaGreat
open Go.RowKit (Below)
attribute [local irreducible] OX QX CX EX OpY Calls CallsIn
theorem calxlaw05_has_ok (p0:(List Int)) (p1:Int) (res:Bool) (h:calxlaw05_has p0 p1 = some res) (W:World) (Aa:Option Addr) (n0_0 ca : Nat) (hn0_0:n0_0 = p0.length) (hr0_0:Rd W Aa n0_0 ca (encL cI p0)) :
  Calls Tryz.prog 36 [.slice Aa n0_0 ca,vI p1].toArray W fun e W2 => e = .returned (.bool res) ∧ Ext W W2 []:=by
 subst hn0_0
 unfold calxlaw05_has at h
 refine calls_enter (m:=18) Tryz.func36 rfl rfl (nB rfl) (cS (cR (oY rfl (yAB rfl) (oN (eT (cS (cS (cR (oY rfl (yAI rfl) (oN (eT (cB ?_))))))))))))
 obtain ⟨u3,hl7,h⟩:=bOs h
 refine cx_loop (fun (s:(Bool × Int)) L tm => ∃ (tm0:Nat → Value),L = [] ∧ tm = (upd (upd (upd (upd tm0 0 (.slice Aa p0.length ca)) 1 (vI p1)) 4 (.bool s.1)) 5 (vI s.2))) (fun | (.inl s),e,L,tm => e = .ret ∧ ∃ (tm0:Nat → Value),L = [] ∧ tm = (upd (upd (upd (upd tm0 0 (.slice Aa p0.length ca)) 1 (vI p1)) 4 (.bool s.1)) 5 (vI s.2)) | (.inr s),e,L,tm => e = .exit 0 ∧ ∃ (tm0:Nat → Value),L = [] ∧ tm = (upd (upd (upd (upd tm0 0 (.slice Aa p0.length ca)) 1 (vI p1)) 4 (.bool s.1)) 5 (vI s.2))) hl7 ⟨_,rfl,(kp4 rfl)⟩ ?_ ?_
 ·rintro s2 L tm st ⟨tm0_s2,rfl,rfl⟩ h
  unfold calxlaw05_has_l1 at h
  refine cS (cS (cR (oY rfl (yMI rfl) (oY rfl (yMS rfl) (oY rfl (y_len (us:=[]) us_42 rfl) (oY rfl (y_lss rfl rfl) (oN (eT ?_))))))))
  rcases iOs h with ⟨hp4,h⟩ | ⟨hp4,h⟩
  ·refine cT (vB hp4) (cK (eT (cS (cB (cS (cR (oY rfl (yMS rfl) (oY rfl (yMI rfl) ?_))))))))
   obtain ⟨hg5,h⟩:=gOs h
   refine oY rfl (yI sl_42 (by decide) hg5.1 hg5.2 (RdL.arg hr0_0) (eL cI_len rfl) rfl rfl) ?_
   refine oY rfl (yR (A:=Aa) (j:=(Int.toNat s2.2 * 1)) (v:=vI (rdL p0 s2.2)) sc_3 (RdL.arg hr0_0) rfl (encL_get0 cI_len hg5.1 (lt_nat hg5.2 rfl) rfl)) (oY rfl (yMI rfl) (oY rfl (y_eql rfl rfl) (oN (eT ?_))))
   rcases iOs h with ⟨hp6,h⟩ | ⟨hp6,h⟩
   ·refine cT (vB hp6) (cS (cR (oY rfl (yAB rfl) (oN (eT (cx_ret (ex_block_ret (ex_then_ret ?_))))))))
    obtain rfl:=sI h
    exact ex_stop ⟨rfl,_,rfl,(kp4 rfl)⟩
   ·refine cF (vB hp6) (cK (ex_block (eT (cR (oY rfl (yMI rfl) (oY rfl (y_add rfl rfl) (oY rfl (yAI rfl) (oN ?_))))))))
    obtain rfl:=sI h
    exact eN ⟨_,rfl,(kp4 rfl)⟩
  ·refine cF (vB hp4) (cx_exit (ex_then_exit ?_))
   obtain rfl:=sI h
   exact ex_stop ⟨rfl,_,rfl,(kp4 rfl)⟩
 ·intro e L tm hJ
  rcases u3 with u8 | u9
  ·dsimp only at h hJ
   obtain ⟨rfl,tm0_u8,rfl,rfl⟩:=hJ
   refine ⟨(by intro hc; cases hc),?_⟩
   refine ex_block_ret (ex_then_ret ?_)
   obtain rfl:=sI h
   exact ex_res1 (.inl rfl) rfl (rVt (v:=.bool u8.1) rfl) (fun W2 hW2 => ⟨rfl,hW2.none⟩)
  ·dsimp only at h hJ
   obtain ⟨rfl,tm0_u9,rfl,rfl⟩:=hJ
   refine ⟨(by intro hc; cases hc),?_⟩
   refine ex_block_here (eT (cS (cR (oY rfl (yAB rfl) (oN (eT (cx_ret ?_)))))))
   obtain rfl:=sI h
   exact ex_res1 (.inl rfl) rfl (rVt (v:=.bool false) rfl) (fun W2 hW2 => ⟨rfl,hW2.none⟩)
end Go.Proofs.YthndghnkebboaaaGreat
set_option maxHeartbeats 4000000
set_option maxRecDepth 100000
namespace Go.Proofs.YthndghnkebboaaaGreat
open Go.RowKit (Below)
attribute [local irreducible] OX QX CX EX OpY Calls CallsIn
theorem cart_Suits_ok (p0:TY) (p1:Int) (p2:Int) (res:(Bool × Int)) (h:cart_Suits p0 p1 p2 = some res) (W:World) (Aa:Option Addr) (n0_0 ca : Nat) (hn0_0:n0_0 = p0.fB.length) (hr0_0:Rd W Aa n0_0 ca (encL TBay_cells p0.fB)) (Ab:Option Addr) (n0_1 cb : Nat) (hn0_1:n0_1 = p0.fR.length) (hr0_1:Rd W Ab n0_1 cb (encL TOrder_cells p0.fR)) :
  Calls Tryz.prog 38 [.agg #[.slice Aa n0_0 ca,.slice Ab n0_1 cb],vI p1,vI p2].toArray W fun e W2 => e = .returned (.tuple #[.bool res.1,vI res.2]) ∧ Ext W W2 []:=by
 subst hn0_0
 subst hn0_1
 unfold cart_Suits at h
 refine calls_enter (m:=39) Tryz.func38 rfl rfl (nB rfl) (cS (cR ?_))
 refine ox_box [.slice Aa p0.fB.length ca,.slice Ab p0.fR.length cb] rfl rfl rfl (fun b1 => ?_)
 refine oY rfl (yAB rfl) (oY rfl (yAI rfl) (oN (eT (cS (cS (cR (oY rfl (yN 0 [.slice Aa p0.fB.length ca,.slice Ab p0.fR.length cb] ag_53 rfl rfl rfl) ?_)))))))
 obtain ⟨y2,hy3,h⟩:=bOs h
 refine oY rfl (yC [.agg #[.slice Aa p0.fB.length ca,.slice Ab p0.fR.length cb]] go_45 rfl (fun W2 hW2 => cart_CheckYard_ok p0 y2 hy3 W2 Aa p0.fB.length ca rfl ((RdL.arg hr0_0) W2 hW2) Ab p0.fR.length cb rfl ((RdL.arg hr0_1) W2 hW2)) rfl) (oY rfl (yAI rfl) (oN (eT (cS (cR (oY rfl (yMI rfl) (oY rfl (y_neq rfl rfl) (oN (eT ?_)))))))))
 rcases iOs h with ⟨hp4,h⟩ | ⟨hp4,h⟩
 ·refine cT (vB hp4) (cS (cR (oY rfl (yMI rfl) (oY rfl (yAB rfl) (oY rfl (yAI rfl) (oN (eT (cx_ret (ex_then_ret ?_)))))))))
  obtain rfl:=sI h
  exact ex_res2 (.inl rfl) rfl (rVt (v:=.bool false) rfl) (rVt (v:=vI y2) rfl) (fun W2 hW2 => ⟨rfl,hW2.none⟩)
 ·refine cF (vB hp4) (cK (eT (cS ?_)))
  refine cx_draws 8 mixed (by kernel_rfl) (by kernel_rfl) ?_
  refine qY rfl (yN 0 [.slice Aa p0.fB.length ca,.slice Ab p0.fR.length cb] ag_53 rfl rfl rfl) (qY rfl (yMI rfl) ?_)
  obtain ⟨y5,hy6,h⟩:=bOs h
  refine qY rfl (yC [.agg #[.slice Aa p0.fB.length ca,.slice Ab p0.fR.length cb],vI p1] go_90 rfl (fun W2 hW2 => cart_order_ok p0 p1 y5 hy6 W2 Aa p0.fB.length ca rfl ((RdL.arg hr0_0) W2 hW2) Ab p0.fR.length cb rfl ((RdL.arg hr0_1) W2 hW2)) rfl) (qY rfl (yN 0 [.slice Aa p0.fB.length ca,.slice Ab p0.fR.length cb] ag_53 rfl rfl rfl) (qY rfl (yMI rfl) ?_))
  obtain ⟨y7,hy8,h⟩:=bOs h
  refine qY rfl (yC [.agg #[.slice Aa p0.fB.length ca,.slice Ab p0.fR.length cb],vI p2] go_96 rfl (fun W2 hW2 => cart_bay_ok p0 p2 y7 hy8 W2 Aa p0.fB.length ca rfl ((RdL.arg hr0_0) W2 hW2) Ab p0.fR.length cb rfl ((RdL.arg hr0_1) W2 hW2)) rfl) (qY rfl (yAI rfl) (qY rfl (yAI rfl) (qx_nil (oN (eT (cS (cS (cR (oY rfl (yMI rfl) (oY rfl (y_lss rfl rfl) (oY rfl (yMB rfl) ?_)))))))))))
  refine oJ 3 (fun tm0 => (upd (upd (upd (upd (upd (upd tm0 3 (.pointer (some ⟨b1,0,none⟩))) 6 (.bool false)) 7 (vI 0)) 9 (vI y5)) 10 (vI y7)) 27 (.bool ((decide (y5 < 0)) || (decide (y7 < 0)))))) (fun tm0 => ?_) (fun key => ?_)
  ·refine oN (eT ?_)
   rcases iOs h with ⟨hp10,h⟩ | ⟨hp10,h⟩
   ·refine cT (vB hp10) (cS (cR (oY rfl (yAB rfl) (oY rfl (yAI rfl) (oN (eT (cx_ret (ex_then_ret ?_))))))))
    obtain rfl:=sI h
    exact ex_res2 (.inl rfl) rfl (rVt (v:=.bool false) rfl) (rVt (v:=vI 5) rfl) (fun W2 hW2 => ⟨rfl,hW2.none⟩)
   ·refine cF (vB hp10) (cK (eT (cS ?_)))
    refine cx_draws 13 mixed (by kernel_rfl) (by kernel_rfl) ?_
    refine qY rfl (yFA fo_53_1 rfl) (qY rfl (yL 0 (v:=.slice Ab p0.fR.length cb) sc_51 rfl rfl rfl) (qY rfl (yMI rfl) ?_))
    obtain ⟨hg11,h⟩:=gOs h
    refine qY rfl (yI sl_51 (by decide) hg11.1 hg11.2 (RdL.arg hr0_1) (eL TOrder_cells_len rfl) rfl rfl) ?_
    refine qY rfl (yM (A:=Ab) (j:=(Int.toNat y5 * 5)) [vI ((rdL p0.fR y5).fID),vI ((rdL p0.fR y5).fH.fLo),vI ((rdL p0.fR y5).fH.fHi),vI ((rdL p0.fR y5).fD),vI ((rdL p0.fR y5).fW)] ag_65 (Nat.succ_pos _) (RdL.arg hr0_1) rfl (encL_gets TOrder_cells_len hg11.1 (lt_nat hg11.2 rfl))) (qY rfl (yFA fo_53_0 rfl) (qY rfl (yL 0 (v:=.slice Aa p0.fB.length ca) sc_50 rfl rfl rfl) (qY rfl (yMI rfl) ?_)))
    obtain ⟨hg12,h⟩:=gOs h
    refine qY rfl (yI sl_50 (by decide) hg12.1 hg12.2 (RdL.arg hr0_0) (eL TBay_cells_len rfl) rfl rfl) ?_
    refine qY rfl (yM (A:=Aa) (j:=(Int.toNat y7 * 3)) [vI ((rdL p0.fB y7).fID),vI ((rdL p0.fB y7).fHour),vI ((rdL p0.fB y7).fD)] ag_69 (Nat.succ_pos _) (RdL.arg hr0_0) rfl (encL_gets TBay_cells_len hg12.1 (lt_nat hg12.2 rfl))) ?_
    obtain ⟨y13,hy14,h⟩:=bOs h
    refine qY rfl (yC [.agg #[vI ((rdL p0.fR y5).fID),vI ((rdL p0.fR y5).fH.fLo),vI ((rdL p0.fR y5).fH.fHi),vI ((rdL p0.fR y5).fD),vI ((rdL p0.fR y5).fW)],.agg #[vI ((rdL p0.fB y7).fID),vI ((rdL p0.fB y7).fHour),vI ((rdL p0.fB y7).fD)]] go_101 rfl (fun W2 hW2 => cart_suits_ok (TO.mk ((rdL p0.fR y5).fID) (TSpan.mk ((rdL p0.fR y5).fH.fLo) ((rdL p0.fR y5).fH.fHi)) ((rdL p0.fR y5).fD) ((rdL p0.fR y5).fW)) (TBay.mk ((rdL p0.fB y7).fID) ((rdL p0.fB y7).fHour) ((rdL p0.fB y7).fD)) y13 hy14 W2 ) rfl) (qY rfl (yAB rfl) (qY rfl (yAI rfl) (qx_nil (oN (eT (cx_ret ?_))))))
    obtain rfl:=sI h
    exact ex_res2 (.inl rfl) rfl (rVt (v:=.bool y13) rfl) (rVt (v:=vI 0) rfl) (fun W2 hW2 => ⟨rfl,hW2.none⟩)
  ·rcases bool_cases (decide (y5 < 0)) with hp9 | hp9
   ·refine oSk (sF rfl rfl rfl rfl hp9) (oSk (sF rfl rfl rfl rfl hp9) (oY rfl (y_pick_tb (vB hp9) rfl) ?_))
    exact key _ _ (keep (keep (keep (keep (keep (keep rfl rfl) rfl) rfl) rfl) rfl) (vB (or_t hp9)))
   ·refine oY (sT rfl rfl rfl rfl hp9) (yMI rfl) (oY (sT rfl rfl rfl rfl hp9) (y_lss rfl rfl) (oY rfl (y_pick_fb (vB hp9) rfl) ?_))
    exact key _ _ (keep (keep (keep (keep (keep (keep rfl rfl) rfl) rfl) rfl) rfl) (vB (or_f hp9)))
end Go.Proofs.YthndghnkebboaaaGreat
set_option maxHeartbeats 4000000
set_option maxRecDepth 100000
namespace Go.Proofs.YthndghnkebboaaaGreat
open Go.RowKit (Below)
attribute [local irreducible] OX QX CX EX OpY Calls CallsIn
theorem calxlaw05_CartCrowds_ok (p0:TY) (p1:(List Int)) (res:Bool) (h:calxlaw05_CartCrowds p0 p1 = some res) (W:World) (Aa:Option Addr) (n0_0 ca : Nat) (hn0_0:n0_0 = p0.fB.length) (hr0_0:Rd W Aa n0_0 ca (encL TBay_cells p0.fB)) (Ab:Option Addr) (n0_1 cb : Nat) (hn0_1:n0_1 = p0.fR.length) (hr0_1:Rd W Ab n0_1 cb (encL TOrder_cells p0.fR)) (Ac:Option Addr) (n1_0 cc : Nat) (hn1_0:n1_0 = p1.length) (hr1_0:Rd W Ac n1_0 cc (encL cI p1)) :
  Calls Tryz.prog 8 [.agg #[.slice Aa n0_0 ca,.slice Ab n0_1 cb],.slice Ac n1_0 cc].toArray W fun e W2 => e = .returned (.bool res) ∧ Ext W W2 []:=by
 subst hn0_0
 subst hn0_1
 subst hn1_0
 unfold calxlaw05_CartCrowds at h
 refine calls_enter (m:=130) Tryz.func8 rfl rfl (nB rfl) (cS (cR ?_))
 refine ox_box [.slice Aa p0.fB.length ca,.slice Ab p0.fR.length cb] rfl rfl rfl (fun b1 => ?_)
 refine oY rfl (yAB rfl) (oN (eT (cS (cS (cR (oY rfl (yN 0 [.slice Aa p0.fB.length ca,.slice Ab p0.fR.length cb] ag_53 rfl rfl rfl) ?_))))))
 obtain ⟨y2,hy3,h⟩:=bOs h
 refine oY rfl (yC [.agg #[.slice Aa p0.fB.length ca,.slice Ab p0.fR.length cb]] go_26 rfl (fun W2 hW2 => calxlaw05_yard_ok p0 y2 hy3 W2 Aa p0.fB.length ca rfl ((RdL.arg hr0_0) W2 hW2) Ab p0.fR.length cb rfl ((RdL.arg hr0_1) W2 hW2)) rfl) (oY rfl (y_not rfl) (oY rfl (yMB rfl) ?_))
 refine oJ 4 (fun tm0 => (upd (upd (upd (upd tm0 1 (.slice Ac p1.length cc)) 2 (.pointer (some ⟨b1,0,none⟩))) 4 (.bool false)) 26 (.bool ((!y2) || (decide (9 < (p1.length:Int))))))) (fun tm0 => ?_) (fun key => ?_)
 ·refine oN (eT ?_)
  rcases iOs h with ⟨hp5,h⟩ | ⟨hp5,h⟩
  ·refine cT (vB hp5) (cS (cR ?_))
   obtain ⟨y6,hy7,h⟩:=bOs h
   refine oY rfl (yC [] go_17 rfl (fun W2 hW2 => calxlaw05_sanity_ok  y6 hy7 W2 ) rfl) (oY rfl (yAB rfl) (oN (eT (cx_ret (ex_then_ret ?_)))))
   obtain rfl:=sI h
   exact ex_res1 (.inl rfl) rfl (rVt (v:=.bool y6) rfl) (fun W2 hW2 => ⟨rfl,hW2.none⟩)
  ·refine cF (vB hp5) (cK (eT (cS (cR (oY rfl (yN 0 [.slice Aa p0.fB.length ca,.slice Ab p0.fR.length cb] ag_53 rfl rfl rfl) (oY rfl (yMS rfl) ?_))))))
   obtain ⟨y8,hy9,h⟩:=bOs h
   refine oC [.agg #[.slice Aa p0.fB.length ca,.slice Ab p0.fR.length cb],.slice Ac p1.length cc] _ _ _ rfl go_31 rfl (fun W2 hW2 => cart_Crowded_ok p0 p1 y8 hy9 W2 Aa p0.fB.length ca rfl ((RdL.arg hr0_0) W2 hW2) Ab p0.fR.length cb rfl ((RdL.arg hr0_1) W2 hW2) Ac p1.length cc rfl ((RdL.arg hr1_0) W2 hW2)) ?_
   rintro ⟨A10,n12,c11⟩ hn13
   replace hn13 : n12 = y8.1.length:=hn13; subst hn13
   refine oY rfl (y_move_tuple rfl) (oY rfl (yE (vs:=[.slice A10 y8.1.length c11,vI y8.2]) (v:=.slice A10 y8.1.length c11) rfl rfl) (oY rfl (yE (vs:=[.slice A10 y8.1.length c11,vI y8.2]) (v:=vI y8.2) rfl rfl) (oY rfl (yAS rfl) (oY rfl (yAI rfl) (oN (eT (cS (cS (cR (oY rfl (yMI rfl) (oY rfl (y_neq rfl rfl) (oN (eT ?_)))))))))))))
   rcases iOs h with ⟨hp14,h⟩ | ⟨hp14,h⟩
   ·refine cT (vB hp14) (cS (cR ?_))
    obtain ⟨y15,hy16,h⟩:=bOs h
    refine oY rfl (yC [] go_17 rfl (fun W2 hW2 => calxlaw05_sanity_ok  y15 hy16 W2 ) rfl) (oY rfl (yMB rfl) ?_)
    refine oJ 4 (fun tm0 => (upd (upd (upd (upd (upd tm0 1 (.slice Ac p1.length cc)) 2 (.pointer (some ⟨b1,0,none⟩))) 4 (.bool false)) 5 (.slice A10 y8.1.length c11)) 41 (.bool (y15 && ((y8.1.length:Int) == 0))))) (fun tm0 => ?_) (fun key => ?_)
    ·refine oY rfl (yAB rfl) (oN (eT (cx_ret (ex_then_ret ?_))))
     obtain rfl:=sI h
     exact ex_res1 (.inl rfl) rfl (rVt (v:=.bool (y15 && ((y8.1.length:Int) == 0))) rfl) (fun W2 hW2 => ⟨rfl,hW2.none⟩)
    ·rcases bool_cases y15 with hp17 | hp17
     ·refine oY (sT rfl rfl rfl rfl hp17) (yMS rfl) (oY (sT rfl rfl rfl rfl hp17) (y_len (us:=[]) us_42 rfl) (oY (sT rfl rfl rfl rfl hp17) (y_eql rfl rfl) (oY rfl (y_pick_tb (vB hp17) rfl) ?_)))
      exact key _ _ (keep (keep (keep (keep (keep rfl rfl) rfl) rfl) rfl) (vB (and_t hp17)))
     ·refine oSk (sF rfl rfl rfl rfl hp17) (oSk (sF rfl rfl rfl rfl hp17) (oSk (sF rfl rfl rfl rfl hp17) (oY rfl (y_pick_fb (vB hp17) rfl) ?_)))
      exact key _ _ (keep (keep (keep (keep (keep rfl rfl) rfl) rfl) rfl) (vB (and_f hp17)))
   ·refine cF (vB hp14) (cK (eT (cS (cS (cR (oY rfl (yAI rfl) (oN (eT (cB ?_)))))))))
    obtain ⟨u20,hl45,h⟩:=bOs h
    refine cx_loop (fun (s:(Bool × Int)) L tm => ∃ (tm0:Nat → Value),L = [cellsR b1 53 [.slice Aa p0.fB.length ca,.slice Ab p0.fR.length cb],rowR A10 c11 3 1 y8.1.length (encL cI y8.1)] ∧ tm = (upd (upd (upd (upd (upd tm0 1 (.slice Ac p1.length cc)) 2 (.pointer (some ⟨b1,0,none⟩))) 4 (.bool s.1)) 5 (.slice A10 y8.1.length c11)) 7 (vI s.2))) (fun | (.inl s),e,L,tm => e = .ret ∧ ∃ (tm0:Nat → Value),L = [cellsR b1 53 [.slice Aa p0.fB.length ca,.slice Ab p0.fR.length cb],rowR A10 c11 3 1 y8.1.length (encL cI y8.1)] ∧ tm = (upd (upd (upd (upd (upd tm0 1 (.slice Ac p1.length cc)) 2 (.pointer (some ⟨b1,0,none⟩))) 4 (.bool s.1)) 5 (.slice A10 y8.1.length c11)) 7 (vI s.2)) | (.inr s),e,L,tm => e = .exit 0 ∧ ∃ (tm0:Nat → Value),L = [cellsR b1 53 [.slice Aa p0.fB.length ca,.slice Ab p0.fR.length cb],rowR A10 c11 3 1 y8.1.length (encL cI y8.1)] ∧ tm = (upd (upd (upd (upd (upd tm0 1 (.slice Ac p1.length cc)) 2 (.pointer (some ⟨b1,0,none⟩))) 4 (.bool s.1)) 5 (.slice A10 y8.1.length c11)) 7 (vI s.2))) hl45 ⟨_,rfl,(kp4 (kp rfl))⟩ ?_ ?_
    ·rintro s19 L tm st ⟨tm0_s19,rfl,rfl⟩ h
     unfold calxlaw05_CartCrowds_l1 at h
     refine cS (cS (cR (oY rfl (yMI rfl) (oY rfl (yMS rfl) (oY rfl (y_len (us:=[]) us_42 rfl) (oY rfl (y_lss rfl rfl) (oN (eT ?_))))))))
     rcases iOs h with ⟨hp21,h⟩ | ⟨hp21,h⟩
     ·refine cT (vB hp21) (cK (eT (cS (cB (cS ?_)))))
      obtain ⟨hg24,h⟩:=gOs h
      obtain ⟨hg27,h⟩:=gOs h
      obtain ⟨hg28,h⟩:=gOs h
      obtain ⟨hg31,h⟩:=gOs h
      refine cx_drawsG [[],[],[],[1,2],[0,1,2,3],[],[],[6],[5,6,7],[0,1,2,3,4,5,6,7,8],[0,1,2,3,4,5,6,7,8,9]] [(none,1,[true,true]),(none,0,[true,true,false]),(none,0,[true,true,false]),(none,0,[true,true,false]),(some 2,0,[true,true,true]),(none,0,[true,true,false]),(none,0,[true,true,false]),(none,0,[true,true,false]),(none,0,[true,true,false]),(some 2,0,[true,true,true]),(none,0,[true,true,true])] [⟨fun ξ22 => .slice (some ⟨(ξ22 0 0).2.1,0,none⟩) 0 0,fun _ => noR,fun ξ22 => [rowR (some ⟨(ξ22 0 0).2.1,0,none⟩) 0 3 1 0 (encL cI ([]:List Int))]⟩,⟨fun _ => .slice A10 y8.1.length c11,fun _ => noR,fun _ => []⟩,⟨fun _ => vI s19.2,fun _ => noR,fun _ => []⟩,⟨fun _ => .slice A10 (Int.toNat s19.2) c11,fun _ => noR,fun _ => []⟩,⟨fun ξ22 => .slice (ξ22 4 0).1 (0 + (Int.toNat s19.2)) (ξ22 4 0).2.2.1,fun ξ22 => rowR (ξ22 4 0).1 (ξ22 4 0).2.2.1 3 1 (0 + (Int.toNat s19.2)) (encL cI (([]:List Int) ++ (y8.1.take (Int.toNat s19.2)))),fun _ => []⟩,⟨fun _ => .slice A10 y8.1.length c11,fun _ => noR,fun _ => []⟩,⟨fun _ => vI s19.2,fun _ => noR,fun _ => []⟩,⟨fun _ => vI (w64 (s19.2 + 1)),fun _ => noR,fun _ => []⟩,⟨fun _ => .slice (if c11 = Int.toNat (w64 (s19.2 + 1)) then A10 else Option.map (fun x => x.add (Int.toNat (w64 (s19.2 + 1)) * 1)) A10) (y8.1.length - Int.toNat (w64 (s19.2 + 1))) (c11 - Int.toNat (w64 (s19.2 + 1))),fun _ => noR,fun _ => []⟩,⟨fun ξ22 => .slice (ξ22 9 0).1 ((0 + (Int.toNat s19.2)) + (y8.1.length - Int.toNat (w64 (s19.2 + 1)))) (ξ22 9 0).2.2.1,fun ξ22 => rowR (ξ22 9 0).1 (ξ22 9 0).2.2.1 3 1 ((0 + (Int.toNat s19.2)) + (y8.1.length - Int.toNat (w64 (s19.2 + 1)))) (encL cI ((([]:List Int) ++ (y8.1.take (Int.toNat s19.2))) ++ (y8.1.drop (Int.toNat (w64 (s19.2 + 1)))))),fun _ => []⟩,⟨fun ξ22 => .slice (ξ22 9 0).1 ((0 + (Int.toNat s19.2)) + (y8.1.length - Int.toNat (w64 (s19.2 + 1)))) (ξ22 9 0).2.2.1,fun _ => noR,fun _ => []⟩] 2 mixed (by kernel_rfl) (by kernel_rfl) ⟨⟨fun ξ22 ξ22' h => ⟨by simp only [h 0 (.inl rfl)],rfl,by simp only [h 0 (.inl rfl)]⟩,fun _ => rfl⟩,⟨fun ξ22 ξ22' h => ⟨rfl,rfl,rfl⟩,fun _ => rfl⟩,⟨fun ξ22 ξ22' h => ⟨rfl,rfl,rfl⟩,fun _ => rfl⟩,⟨fun ξ22 ξ22' h => ⟨rfl,rfl,rfl⟩,fun _ => rfl⟩,⟨fun ξ22 ξ22' h => ⟨by simp only [h 4 (.inl rfl)],by simp only [h 4 (.inl rfl)],rfl⟩,fun _ => rfl⟩,⟨fun ξ22 ξ22' h => ⟨rfl,rfl,rfl⟩,fun _ => rfl⟩,⟨fun ξ22 ξ22' h => ⟨rfl,rfl,rfl⟩,fun _ => rfl⟩,⟨fun ξ22 ξ22' h => ⟨rfl,rfl,rfl⟩,fun _ => rfl⟩,⟨fun ξ22 ξ22' h => ⟨rfl,rfl,rfl⟩,fun _ => rfl⟩,⟨fun ξ22 ξ22' h => ⟨by simp only [h 9 (.inl rfl)],by simp only [h 9 (.inl rfl)],rfl⟩,fun _ => rfl⟩,⟨fun ξ22 ξ22' h => ⟨by simp only [h 9 (.inr rfl)],rfl,rfl⟩,fun _ => rfl⟩,trivial⟩ rfl (fun ξ22 => ?_)
      refine gx_o rfl (fun L2 => ?_) ?_
      ·dsimp only [maskL,lca,lna]
       refine ox_buildSlice0 cI us_42 ze_3 by_3 rfl (fun b23 => ?_)
       refine oN ?_
       exact ex_capG (fun _ => (none,b23,0,[],noR)) rfl rfl
      dsimp only [aftL,lsz,lss,lna,lca,List.append_nil]
      refine gx_o rfl (fun L2 => ?_) ?_
      ·dsimp only [maskL,lca,lna]
       refine oY rfl (yMS rfl) (oN ?_)
       exact ex_capG (fun _ => (none,0,0,[],noR)) rfl (List.append_nil _)
      dsimp only [aftL,lsz,lss,lna,lca,List.append_nil]
      refine gx_o rfl (fun L2 => ?_) ?_
      ·dsimp only [maskL,lca,lna]
       refine oY rfl (yMI rfl) (oN ?_)
       exact ex_capG (fun _ => (none,0,0,[],noR)) rfl (List.append_nil _)
      dsimp only [aftL,lsz,lss,lna,lca,List.append_nil]
      refine gx_o rfl (fun L2 => ?_) ?_
      ·dsimp only [maskL,lca,lna]
       refine oY rfl (y_cutH sl_42 hg24.1 hg24.2 (RdL.row 1 rfl) rfl rfl) (oN ?_)
       exact ex_capG (fun _ => (none,0,0,[],noR)) rfl (List.append_nil _)
      dsimp only [aftL,lsz,lss,lna,lca,List.append_nil]
      refine gx_o rfl (fun L2 => ?_) ?_
      ·dsimp only [maskL,lca,lna]
       refine ox_append0 2 us_42 ze_3 by_3 rfl rfl rfl (RdL.cutH cI_len (RdL.row 1 rfl) hg24.1 hg24.2) (eL cI_len (cutH_len hg24.2 rfl)) (encL_one cI_one _) (app_room hg27 (by decide)) rfl (fun A25 c26 => ?_)
       refine oN ?_
       first | exact ex_capG (fun _ => (A25,0,c26,[],noR)) rfl rfl | exact ex_capG (fun _ => (A25,0,c26,[],noR)) rfl (List.append_nil _)
      dsimp only [aftL,lsz,lss,lna,lca,List.append_nil]
      refine gx_o rfl (fun L2 => ?_) ?_
      ·dsimp only [maskL,lca,lna]
       refine oY rfl (yMS rfl) (oN ?_)
       exact ex_capG (fun _ => (none,0,0,[],noR)) rfl (List.append_nil _)
      dsimp only [aftL,lsz,lss,lna,lca,List.append_nil]
      refine gx_o rfl (fun L2 => ?_) ?_
      ·dsimp only [maskL,lca,lna]
       refine oY rfl (yMI rfl) (oN ?_)
       exact ex_capG (fun _ => (none,0,0,[],noR)) rfl (List.append_nil _)
      dsimp only [aftL,lsz,lss,lna,lca,List.append_nil]
      refine gx_o rfl (fun L2 => ?_) ?_
      ·dsimp only [maskL,lca,lna]
       refine oY rfl (y_add rfl rfl) (oN ?_)
       exact ex_capG (fun _ => (none,0,0,[],noR)) rfl (List.append_nil _)
      dsimp only [aftL,lsz,lss,lna,lca,List.append_nil]
      refine gx_o rfl (fun L2 => ?_) ?_
      ·dsimp only [maskL,lca,lna]
       refine oY rfl (y_cutL sl_42 hg28.1 hg28.2 (RdL.row 1 rfl) rfl rfl) (oN ?_)
       exact ex_capG (fun _ => (none,0,0,[],noR)) rfl (List.append_nil _)
      dsimp only [aftL,lsz,lss,lna,lca,List.append_nil]
      refine gx_o rfl (fun L2 => ?_) ?_
      ·dsimp only [maskL,lca,lna]
       refine ox_append0 2 us_42 ze_3 by_3 rfl rfl rfl (RdL.cutL cI_len (RdL.row 1 rfl) hg28.1 hg28.2 rfl) (eL cI_len (cutL_len rfl)) (encL_one cI_one _) (app_room hg31 (by decide)) rfl (fun A29 c30 => ?_)
       refine oN ?_
       first | exact ex_capG (fun _ => (A29,0,c30,[],noR)) rfl rfl | exact ex_capG (fun _ => (A29,0,c30,[],noR)) rfl (List.append_nil _)
      dsimp only [aftL,lsz,lss,lna,lca,List.append_nil]
      refine gx_o rfl (fun L2 => ?_) ?_
      ·dsimp only [maskL,lca,lna]
       refine oY rfl (yAS rfl) (oN ?_)
       exact ex_capG (fun _ => (none,0,0,[],noR)) rfl (List.append_nil _)
      dsimp only [aftL,lsz,lss,lna,lca,List.append_nil]
      refine gx_nil (eT (cS (cR (oY rfl (yN 0 [.slice Aa p0.fB.length ca,.slice Ab p0.fR.length cb] ag_53 rfl rfl rfl) (oY rfl (yMS rfl) ?_)))))
      obtain ⟨y32,hy33,h⟩:=bOs h
      refine oC [.agg #[.slice Aa p0.fB.length ca,.slice Ab p0.fR.length cb],.slice (ξ22 9 0).1 ((0 + (Int.toNat s19.2)) + (y8.1.length - Int.toNat (w64 (s19.2 + 1)))) (ξ22 9 0).2.2.1] _ _ _ rfl go_31 rfl (fun W2 hW2 => cart_Crowded_ok p0 ((([]:List Int) ++ (y8.1.take (Int.toNat s19.2))) ++ (y8.1.drop (Int.toNat (w64 (s19.2 + 1))))) y32 hy33 W2 Aa p0.fB.length ca rfl ((RdL.arg hr0_0) W2 hW2) Ab p0.fR.length cb rfl ((RdL.arg hr0_1) W2 hW2) (ξ22 9 0).1 ((0 + (Int.toNat s19.2)) + (y8.1.length - Int.toNat (w64 (s19.2 + 1)))) (ξ22 9 0).2.2.1 (hn_app (hn_app rfl (cutH_len hg24.2 rfl)) (cutL_len rfl)) ((RdL.row 2 rfl) W2 hW2)) ?_
      rintro ⟨A34,n36,c35⟩ hn37
      replace hn37 : n36 = y32.1.length:=hn37; subst hn37
      refine oY rfl (y_move_tuple rfl) (oY rfl (yE (vs:=[.slice A34 y32.1.length c35,vI y32.2]) (v:=.slice A34 y32.1.length c35) rfl rfl) (oY rfl (yE (vs:=[.slice A34 y32.1.length c35,vI y32.2]) (v:=vI y32.2) rfl rfl) (oY rfl (yAS rfl) (oY rfl (yAI rfl) (oN (eT (cS (cR (oY rfl (yMI rfl) (oY rfl (y_neq rfl rfl) (oY rfl (yMB rfl) ?_)))))))))))
      obtain ⟨b39,hb40,h⟩:=bOs h
      refine oJ 8 (fun tm0 => (upd (upd (upd (upd (upd (upd (upd (upd (upd tm0 1 (.slice Ac p1.length cc)) 2 (.pointer (some ⟨b1,0,none⟩))) 4 (.bool s19.1)) 5 (.slice A10 y8.1.length c11)) 7 (vI s19.2)) 45 (.bool (decide (s19.2 < (y8.1.length:Int))))) 8 (.slice (ξ22 9 0).1 ((0 + (Int.toNat s19.2)) + (y8.1.length - Int.toNat (w64 (s19.2 + 1)))) (ξ22 9 0).2.2.1)) 10 (vI y32.2)) 74 (.bool b39))) (fun tm0 => ?_) (fun key => ?_)
      ·refine oN (eT ?_)
       rcases iOs h with ⟨hp41,h⟩ | ⟨hp41,h⟩
       ·refine cT (vB hp41) (cS (cR (oY rfl (yAB rfl) (oN (eT (cx_ret (ex_block_ret (ex_then_ret (ex_take 2 ?_)))))))))
        obtain rfl:=sI h
        exact ex_stop ⟨rfl,_,rfl,(kp4 (kp rfl))⟩
       ·refine cF (vB hp41) (cK (ex_block (eT (cR (oY rfl (yMI rfl) (oY rfl (y_add rfl rfl) (oY rfl (yAI rfl) (oN (ex_take 2 ?_)))))))))
        obtain rfl:=sI h
        exact eN ⟨_,rfl,(kp4 (kp rfl))⟩
      ·clear h; rcases iOs hb40 with ⟨hp38,h⟩ | ⟨hp38,h⟩
       ·refine oSk (sF rfl rfl rfl rfl hp38) (oSk (sF rfl rfl rfl rfl hp38) (oSk (sF rfl rfl rfl rfl hp38) (oSk (sF rfl rfl rfl rfl hp38) (oSk (sF rfl rfl rfl rfl hp38) (oSk (sF rfl rfl rfl rfl hp38) (oSk (sF rfl rfl rfl rfl hp38) (oY rfl (y_pick_tb (vB hp38) rfl) ?_)))))))
        obtain rfl:=sI h
        exact key _ _ (kp4 (kp4 (kp rfl)))
       ·refine oY (sT rfl rfl rfl rfl hp38) (yMS rfl) (oY (sT rfl rfl rfl rfl hp38) (yMS rfl) (oY (sT rfl rfl rfl rfl hp38) (yMI rfl) ?_))
        obtain ⟨hg42,h⟩:=gOs h
        refine oY (sT rfl rfl rfl rfl hp38) (yI sl_42 (by decide) hg42.1 hg42.2 (RdL.row 1 rfl) (eL cI_len rfl) rfl rfl) ?_
        refine oY (sT rfl rfl rfl rfl hp38) (yR (A:=A10) (j:=(Int.toNat s19.2 * 1)) (v:=vI (rdL y8.1 s19.2)) sc_3 (RdL.row 1 rfl) rfl (encL_get0 cI_len hg42.1 (lt_nat hg42.2 rfl) rfl)) ?_
        obtain ⟨y43,hy44,h⟩:=bOs h
        refine oY (sT rfl rfl rfl rfl hp38) (yC [.slice Ac p1.length cc,vI (rdL y8.1 s19.2)] go_36 rfl (fun W2 hW2 => calxlaw05_has_ok p1 (rdL y8.1 s19.2) y43 hy44 W2 Ac p1.length cc rfl ((RdL.arg hr1_0) W2 hW2)) rfl) (oY (sT rfl rfl rfl rfl hp38) (y_not rfl) (oY rfl (y_pick_fb (vB hp38) rfl) ?_))
        obtain rfl:=sI h
        exact key _ _ (kp4 (kp4 (kp rfl)))
     ·refine cF (vB hp21) (cx_exit (ex_then_exit ?_))
      obtain rfl:=sI h
      exact ex_stop ⟨rfl,_,rfl,(kp4 (kp rfl))⟩
    ·intro e L tm hJ
     rcases u20 with u46 | u47
     ·dsimp only at h hJ
      obtain ⟨rfl,tm0_u46,rfl,rfl⟩:=hJ
      refine ⟨(by intro hc; cases hc),?_⟩
      refine ex_block_ret (ex_then_ret ?_)
      obtain rfl:=sI h
      exact ex_res1 (.inl rfl) rfl (rVt (v:=.bool u46.1) rfl) (fun W2 hW2 => ⟨rfl,hW2.none⟩)
     ·dsimp only at h hJ
      obtain ⟨rfl,tm0_u47,rfl,rfl⟩:=hJ
      refine ⟨(by intro hc; cases hc),?_⟩
      refine ex_block_here (eT (cS (cR (oY rfl (yN 0 [.slice Aa p0.fB.length ca,.slice Ab p0.fR.length cb] ag_53 rfl rfl rfl) (oY rfl (yMS rfl) ?_)))))
      obtain ⟨y48,hy49,h⟩:=bOs h
      refine oC [.agg #[.slice Aa p0.fB.length ca,.slice Ab p0.fR.length cb],.slice A10 y8.1.length c11] _ _ _ rfl go_31 rfl (fun W2 hW2 => cart_Crowded_ok p0 y8.1 y48 hy49 W2 Aa p0.fB.length ca rfl ((RdL.arg hr0_0) W2 hW2) Ab p0.fR.length cb rfl ((RdL.arg hr0_1) W2 hW2) A10 y8.1.length c11 rfl ((RdL.row 1 rfl) W2 hW2)) ?_
      rintro ⟨A50,n52,c51⟩ hn53
      replace hn53 : n52 = y48.1.length:=hn53; subst hn53
      refine oY rfl (y_move_tuple rfl) (oY rfl (yE (vs:=[.slice A50 y48.1.length c51,vI y48.2]) (v:=.slice A50 y48.1.length c51) rfl rfl) (oY rfl (yE (vs:=[.slice A50 y48.1.length c51,vI y48.2]) (v:=vI y48.2) rfl rfl) (oY rfl (yAS rfl) (oY rfl (yAI rfl) (oN (eT (cS (cR (oY rfl (yAI rfl) (oN (eT (cS (cS (cR (oY rfl (yAI rfl) (oN (eT (cB ?_))))))))))))))))))
      obtain ⟨u56,hl72,h⟩:=bOs h
      refine cx_loop (fun (s:(Bool × Int × Int)) L tm => ∃ (tm0:Nat → Value),L = [cellsR b1 53 [.slice Aa p0.fB.length ca,.slice Ab p0.fR.length cb],rowR A10 c11 3 1 y8.1.length (encL cI y8.1),rowR A50 c51 3 1 y48.1.length (encL cI y48.1)] ∧ tm = (upd (upd (upd (upd (upd (upd tm0 2 (.pointer (some ⟨b1,0,none⟩))) 4 (.bool s.1)) 5 (.slice A10 y8.1.length c11)) 12 (vI y48.2)) 13 (vI s.2.1)) 14 (vI s.2.2))) (fun | (.inl s),e,L,tm => e = .ret ∧ ∃ (tm0:Nat → Value),L = [cellsR b1 53 [.slice Aa p0.fB.length ca,.slice Ab p0.fR.length cb],rowR A10 c11 3 1 y8.1.length (encL cI y8.1),rowR A50 c51 3 1 y48.1.length (encL cI y48.1)] ∧ tm = (upd (upd (upd (upd (upd (upd tm0 2 (.pointer (some ⟨b1,0,none⟩))) 4 (.bool s.1)) 5 (.slice A10 y8.1.length c11)) 12 (vI y48.2)) 13 (vI s.2.1)) 14 (vI s.2.2)) | (.inr s),e,L,tm => e = .exit 2 ∧ ∃ (tm0:Nat → Value),L = [cellsR b1 53 [.slice Aa p0.fB.length ca,.slice Ab p0.fR.length cb],rowR A10 c11 3 1 y8.1.length (encL cI y8.1),rowR A50 c51 3 1 y48.1.length (encL cI y48.1)] ∧ tm = (upd (upd (upd (upd (upd (upd tm0 2 (.pointer (some ⟨b1,0,none⟩))) 4 (.bool s.1)) 5 (.slice A10 y8.1.length c11)) 12 (vI y48.2)) 13 (vI s.2.1)) 14 (vI s.2.2))) hl72 ⟨_,rfl,(kp4 (kp (kp rfl)))⟩ ?_ ?_
      ·rintro s55 L tm st ⟨tm0_s55,rfl,rfl⟩ h
       unfold calxlaw05_CartCrowds_l2 at h
       refine cS (cS (cR (oY rfl (yMI rfl) (oY rfl (yFA fo_53_0 rfl) (oY rfl (yL 0 (v:=.slice Aa p0.fB.length ca) sc_50 rfl rfl rfl) (oY rfl (y_len (us:=[]) us_50 rfl) (oY rfl (y_lss rfl rfl) (oN (eT ?_)))))))))
       rcases iOs h with ⟨hp57,h⟩ | ⟨hp57,h⟩
       ·refine cT (vB hp57) (cK (eT (cS (cB (cS (cR (oY rfl (yAB rfl) (oN (eT (cS (cS (cR (oY rfl (yAI rfl) (oN (eT (cB ?_))))))))))))))))
        obtain ⟨u60,hl68,h⟩:=bOs h
        refine cx_loop (fun (s:(Bool × Bool × Int)) L tm => ∃ (tm0:Nat → Value),L = [cellsR b1 53 [.slice Aa p0.fB.length ca,.slice Ab p0.fR.length cb],rowR A10 c11 3 1 y8.1.length (encL cI y8.1),rowR A50 c51 3 1 y48.1.length (encL cI y48.1)] ∧ tm = (upd (upd (upd (upd (upd (upd (upd (upd (upd tm0 2 (.pointer (some ⟨b1,0,none⟩))) 4 (.bool s.1)) 5 (.slice A10 y8.1.length c11)) 12 (vI y48.2)) 13 (vI s55.2.1)) 14 (vI s55.2.2)) 85 (.bool (decide (s55.2.2 < (p0.fB.length:Int))))) 15 (.bool s.2.1)) 16 (vI s.2.2))) (fun | (.inl s),e,L,tm => e = .ret ∧ ∃ (tm0:Nat → Value),L = [cellsR b1 53 [.slice Aa p0.fB.length ca,.slice Ab p0.fR.length cb],rowR A10 c11 3 1 y8.1.length (encL cI y8.1),rowR A50 c51 3 1 y48.1.length (encL cI y48.1)] ∧ tm = (upd (upd (upd (upd (upd (upd (upd (upd (upd tm0 2 (.pointer (some ⟨b1,0,none⟩))) 4 (.bool s.1)) 5 (.slice A10 y8.1.length c11)) 12 (vI y48.2)) 13 (vI s55.2.1)) 14 (vI s55.2.2)) 85 (.bool (decide (s55.2.2 < (p0.fB.length:Int))))) 15 (.bool s.2.1)) 16 (vI s.2.2)) | (.inr s),e,L,tm => e = .exit 4 ∧ ∃ (tm0:Nat → Value),L = [cellsR b1 53 [.slice Aa p0.fB.length ca,.slice Ab p0.fR.length cb],rowR A10 c11 3 1 y8.1.length (encL cI y8.1),rowR A50 c51 3 1 y48.1.length (encL cI y48.1)] ∧ tm = (upd (upd (upd (upd (upd (upd (upd (upd (upd tm0 2 (.pointer (some ⟨b1,0,none⟩))) 4 (.bool s.1)) 5 (.slice A10 y8.1.length c11)) 12 (vI y48.2)) 13 (vI s55.2.1)) 14 (vI s55.2.2)) 85 (.bool (decide (s55.2.2 < (p0.fB.length:Int))))) 15 (.bool s.2.1)) 16 (vI s.2.2))) hl68 ⟨_,rfl,(kp4 (kp4 (kp rfl)))⟩ ?_ ?_
        ·rintro s59 L tm st ⟨tm0_s59,rfl,rfl⟩ h
         unfold calxlaw05_CartCrowds_l3 at h
         refine cS (cS (cR (oY rfl (yMI rfl) (oY rfl (yMS rfl) (oY rfl (y_len (us:=[]) us_42 rfl) (oY rfl (y_lss rfl rfl) (oN (eT ?_))))))))
         rcases iOs h with ⟨hp61,h⟩ | ⟨hp61,h⟩
         ·refine cT (vB hp61) (cK (eT (cS (cB (cS ?_)))))
          refine cx_draws 17 mixed (by kernel_rfl) (by kernel_rfl) ?_
          refine qY rfl (yN 0 [.slice Aa p0.fB.length ca,.slice Ab p0.fR.length cb] ag_53 rfl rfl rfl) (qY rfl (yMS rfl) (qY rfl (yMI rfl) ?_))
          obtain ⟨hg62,h⟩:=gOs h
          refine qY rfl (yI sl_42 (by decide) hg62.1 hg62.2 (RdL.row 1 rfl) (eL cI_len rfl) rfl rfl) ?_
          refine qY rfl (yR (A:=A10) (j:=(Int.toNat s59.2.2 * 1)) (v:=vI (rdL y8.1 s59.2.2)) sc_3 (RdL.row 1 rfl) rfl (encL_get0 cI_len hg62.1 (lt_nat hg62.2 rfl) rfl)) (qY rfl (yFA fo_53_0 rfl) (qY rfl (yL 0 (v:=.slice Aa p0.fB.length ca) sc_50 rfl rfl rfl) (qY rfl (yMI rfl) ?_)))
          obtain ⟨hg63,h⟩:=gOs h
          refine qY rfl (yI sl_50 (by decide) hg63.1 hg63.2 (RdL.arg hr0_0) (eL TBay_cells_len rfl) rfl rfl) ?_
          refine qY rfl (yFR (A:=Aa) (j:=(Int.toNat s55.2.2 * 3)) fo_69_0 rfl) (qY rfl (yR (A:=Aa) (j:=((Int.toNat s55.2.2 * 3) + 0)) (v:=vI ((rdL p0.fB s55.2.2).fID)) sc_3 (RdL.arg hr0_0) rfl (eG TBay_cells_len hg63.1 (lt_nat hg63.2 rfl) rfl)) ?_)
          obtain ⟨y64,hy65,h⟩:=bOs h
          refine qY rfl (yC [.agg #[.slice Aa p0.fB.length ca,.slice Ab p0.fR.length cb],vI (rdL y8.1 s59.2.2),vI ((rdL p0.fB s55.2.2).fID)] go_38 rfl (fun W2 hW2 => cart_Suits_ok p0 (rdL y8.1 s59.2.2) ((rdL p0.fB s55.2.2).fID) y64 hy65 W2 Aa p0.fB.length ca rfl ((RdL.arg hr0_0) W2 hW2) Ab p0.fR.length cb rfl ((RdL.arg hr0_1) W2 hW2)) rfl) (qY rfl (y_move_tuple rfl) (qY rfl (yE (vs:=[.bool y64.1,vI y64.2]) (v:=.bool y64.1) rfl rfl) (qY rfl (yE (vs:=[.bool y64.1,vI y64.2]) (v:=vI y64.2) rfl rfl) (qY rfl (yAB rfl) (qY rfl (yAI rfl) (qx_nil (oN (eT (cS (cS (cR (oY rfl (yMI rfl) (oY rfl (y_neq rfl rfl) (oN (eT ?_)))))))))))))))
          rcases iOs h with ⟨hp66,h⟩ | ⟨hp66,h⟩
          ·refine cT (vB hp66) (cS (cR (oY rfl (yAB rfl) (oN (eT (cx_ret (ex_then_ret (ex_block_ret (ex_then_ret ?_)))))))))
           obtain rfl:=sI h
           exact ex_stop ⟨rfl,_,rfl,(kp4 (kp4 (kp rfl)))⟩
          ·refine cF (vB hp66) (cK (eT (cR (oY rfl (yMB rfl) (oY rfl (yMB rfl) ?_)))))
           refine oJ 2 (fun tm0 => (upd (upd (upd (upd (upd (upd (upd (upd (upd (upd (upd (upd (upd (upd tm0 2 (.pointer (some ⟨b1,0,none⟩))) 4 (.bool s59.1)) 5 (.slice A10 y8.1.length c11)) 12 (vI y48.2)) 13 (vI s55.2.1)) 14 (vI s55.2.2)) 85 (.bool (decide (s55.2.2 < (p0.fB.length:Int))))) 15 (.bool s59.2.1)) 16 (vI s59.2.2)) 91 (.bool (decide (s59.2.2 < (y8.1.length:Int))))) 17 (.bool y64.1)) 18 (vI y64.2)) 110 (.bool (y64.2 != 0))) 114 (.bool (s59.2.1 || y64.1)))) (fun tm0 => ?_) (fun key => ?_)
           ·refine oY rfl (yAB rfl) (oN (ex_block (eT (cR (oY rfl (yMI rfl) (oY rfl (y_add rfl rfl) (oY rfl (yAI rfl) (oN ?_))))))))
            obtain rfl:=sI h
            exact eN ⟨_,rfl,(kp4 (kp4 (kp rfl)))⟩
           ·rcases bool_cases s59.2.1 with hp67 | hp67
            ·refine oSk (sF rfl rfl rfl rfl hp67) (oY rfl (y_pick_tb (vB hp67) rfl) ?_)
             exact key _ _ (keep (keep (keep (keep (keep (keep (keep (keep (keep (keep (keep (keep (keep (keep rfl rfl) rfl) rfl) rfl) rfl) rfl) rfl) rfl) rfl) rfl) rfl) rfl) rfl) (vB (or_t hp67)))
            ·refine oY (sT rfl rfl rfl rfl hp67) (yMB rfl) (oY rfl (y_pick_fb (vB hp67) rfl) ?_)
             exact key _ _ (keep (keep (keep (keep (keep (keep (keep (keep (keep (keep (keep (keep (keep (keep rfl rfl) rfl) rfl) rfl) rfl) rfl) rfl) rfl) rfl) rfl) rfl) rfl) rfl) (vB (or_f hp67)))
         ·refine cF (vB hp61) (cx_exit (ex_then_exit ?_))
          obtain rfl:=sI h
          exact ex_stop ⟨rfl,_,rfl,(kp4 (kp4 (kp rfl)))⟩
        ·intro e L tm hJ
         rcases u60 with u69 | u70
         ·dsimp only at h hJ
          obtain ⟨rfl,tm0_u69,rfl,rfl⟩:=hJ
          refine ⟨(by intro hc; cases hc),?_⟩
          refine ex_block_ret (ex_then_ret (ex_block_ret (ex_then_ret ?_)))
          obtain rfl:=sI h
          exact ex_stop ⟨rfl,_,rfl,(kp4 (kp (kp rfl)))⟩
         ·dsimp only at h hJ
          obtain ⟨rfl,tm0_u70,rfl,rfl⟩:=hJ
          refine ⟨(by intro hc; cases hc),?_⟩
          refine ex_block_here (eT (cS (cR (oY rfl (yMB rfl) (oN (eT ?_))))))
          rcases iOs h with ⟨hp71,h⟩ | ⟨hp71,h⟩
          ·refine cT (vB hp71) (cR (oY rfl (yMI rfl) (oY rfl (y_add rfl rfl) (oY rfl (yAI rfl) (oN (ex_block (eT (cR (oY rfl (yMI rfl) (oY rfl (y_add rfl rfl) (oY rfl (yAI rfl) (oN ?_))))))))))))
           obtain rfl:=sI h
           exact eN ⟨_,rfl,(kp4 (kp (kp rfl)))⟩
          ·refine cF (vB hp71) (cK (ex_block (eT (cR (oY rfl (yMI rfl) (oY rfl (y_add rfl rfl) (oY rfl (yAI rfl) (oN ?_))))))))
           obtain rfl:=sI h
           exact eN ⟨_,rfl,(kp4 (kp (kp rfl)))⟩
       ·refine cF (vB hp57) (cx_exit (ex_then_exit ?_))
        obtain rfl:=sI h
        exact ex_stop ⟨rfl,_,rfl,(kp4 (kp (kp rfl)))⟩
      ·intro e L tm hJ
       rcases u56 with u73 | u74
       ·dsimp only at h hJ
        obtain ⟨rfl,tm0_u73,rfl,rfl⟩:=hJ
        refine ⟨(by intro hc; cases hc),?_⟩
        refine ex_block_ret (ex_then_ret ?_)
        obtain rfl:=sI h
        exact ex_res1 (.inl rfl) rfl (rVt (v:=.bool u73.1) rfl) (fun W2 hW2 => ⟨rfl,hW2.none⟩)
       ·dsimp only at h hJ
        obtain ⟨rfl,tm0_u74,rfl,rfl⟩:=hJ
        refine ⟨(by intro hc; cases hc),?_⟩
        refine ex_block_here (eT (cS (cR ?_)))
        obtain ⟨y75,hy76,h⟩:=bOs h
        refine oY rfl (yC [] go_17 rfl (fun W2 hW2 => calxlaw05_sanity_ok  y75 hy76 W2 ) rfl) (oY rfl (yMB rfl) ?_)
        refine oJ 3 (fun tm0 => (upd (upd (upd (upd tm0 4 (.bool u74.1)) 5 (.slice A10 y8.1.length c11)) 13 (vI u74.2.1)) 122 (.bool (y75 && (y48.2 == 0))))) (fun tm0 => ?_) (fun key => ?_)
        ·refine oY rfl (yMB rfl) ?_
         refine oJ 6 (fun tm0 => (upd (upd tm0 4 (.bool u74.1)) 129 (.bool ((y75 && (y48.2 == 0)) && (u74.2.1 == (w64 ((y8.1.length:Int) - 1))))))) (fun tm0 => ?_) (fun key => ?_)
         ·refine oY rfl (yAB rfl) (oN (eT (cx_ret ?_)))
          obtain rfl:=sI h
          exact ex_res1 (.inl rfl) rfl (rVt (v:=.bool ((y75 && (y48.2 == 0)) && (u74.2.1 == (w64 ((y8.1.length:Int) - 1))))) rfl) (fun W2 hW2 => ⟨rfl,hW2.none⟩)
         ·rcases bool_cases (y75 && (y48.2 == 0)) with hp78 | hp78
          ·refine oY (sT rfl rfl rfl rfl hp78) (yMI rfl) (oY (sT rfl rfl rfl rfl hp78) (yMS rfl) (oY (sT rfl rfl rfl rfl hp78) (y_len (us:=[]) us_42 rfl) (oY (sT rfl rfl rfl rfl hp78) (y_sub rfl rfl) (oY (sT rfl rfl rfl rfl hp78) (y_eql rfl rfl) (oY rfl (y_pick_tb (vB hp78) rfl) ?_)))))
           exact key _ _ (keep (keep rfl rfl) (vB (and_t hp78)))
          ·refine oSk (sF rfl rfl rfl rfl hp78) (oSk (sF rfl rfl rfl rfl hp78) (oSk (sF rfl rfl rfl rfl hp78) (oSk (sF rfl rfl rfl rfl hp78) (oSk (sF rfl rfl rfl rfl hp78) (oY rfl (y_pick_fb (vB hp78) rfl) ?_)))))
           exact key _ _ (keep (keep rfl rfl) (vB (and_f hp78)))
        ·rcases bool_cases y75 with hp77 | hp77
         ·refine oY (sT rfl rfl rfl rfl hp77) (yMI rfl) (oY (sT rfl rfl rfl rfl hp77) (y_eql rfl rfl) (oY rfl (y_pick_tb (vB hp77) rfl) ?_))
          exact key _ _ (keep (keep (keep (keep rfl rfl) rfl) rfl) (vB (and_t hp77)))
         ·refine oSk (sF rfl rfl rfl rfl hp77) (oSk (sF rfl rfl rfl rfl hp77) (oY rfl (y_pick_fb (vB hp77) rfl) ?_))
          exact key _ _ (keep (keep (keep (keep rfl rfl) rfl) rfl) (vB (and_f hp77)))
 ·rcases bool_cases (!y2) with hp4 | hp4
  ·refine oSk (sF rfl rfl rfl rfl hp4) (oSk (sF rfl rfl rfl rfl hp4) (oSk (sF rfl rfl rfl rfl hp4) (oY rfl (y_pick_tb (vB hp4) rfl) ?_)))
   exact key _ _ (keep (keep (keep (keep rfl rfl) rfl) rfl) (vB (or_t hp4)))
  ·refine oY (sT rfl rfl rfl rfl hp4) (yMS rfl) (oY (sT rfl rfl rfl rfl hp4) (y_len (us:=[]) us_42 rfl) (oY (sT rfl rfl rfl rfl hp4) (y_gtr rfl rfl) (oY rfl (y_pick_fb (vB hp4) rfl) ?_)))
   exact key _ _ (keep (keep (keep (keep rfl rfl) rfl) rfl) (vB (or_f hp4)))
end Go.Proofs.YthndghnkebboaaaGreat
