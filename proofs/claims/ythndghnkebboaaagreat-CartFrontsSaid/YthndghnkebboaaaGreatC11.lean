import Derived.Test.YthndghnkebboaaaGreatF
import Derived.Test.YthndghnkebboaaaGreatGy
import Derived.Test.YthndghnkebboaaaGreatC2
import Derived.Test.YthndghnkebboaaaGreatC4
import Derived.Test.YthndghnkebboaaaGreatC6
import Derived.Test.YthndghnkebboaaaGreatC0
set_option maxHeartbeats 4000000
set_option maxRecDepth 100000
set_option linter.unusedVariables false
namespace Go.Proofs.YthndghnkebboaaaGreat
open Go.RowKit (Below)
attribute [local irreducible] OX QX CX EX OpY Calls CallsIn
theorem ge  (res:Bool) (h:bB=some res) (W:World)  :
  Calls Tryz.prog 17 [].toArray W fun e W2=>e=.returned (.bool res)∧Ext W W2 []:=by
 unfold bB at h
 refine aj (m:=261) Tryz.func17 E E (nB E) (cS (cR (oY E (yAB E) (oN (eT (cS (cR ?_)))))))
 obtain⟨G,wS,h⟩:=bOs h
 refine oC [] _ _ _ E go_67 E (fun W2 f=>m9  G wS W2 W (fun _=>True) (fun W3 hb=>⟨fY f.below hb,trivial⟩) ) ?_
 rintro⟨⟨A5,n7,c6⟩,gf,F11⟩ ⟨ua,ri,rj⟩
 replace ua:n7=G.fTracks.length:=ua;subst ua
 refine aF ze_24 E (fun D0=>?_)
 refine cy E (yS 2 [vI G.fPlaces,.slice A5 G.fTracks.length c6] sz_24 E (nB E) E E E) (oN (eT (cS (cR ?_))))
 obtain⟨o,w7,h⟩:=bOs h
 refine oC [] _ _ _ E go_68 E (fun W2 f=>mW  o w7 W2 ) ?_
 rintro⟨⟨b,wR,c⟩,⟨f1,wq,f2⟩⟩ ⟨uN,uO⟩
 replace uN:wR=o.fB.length:=uN;subst uN
 replace uO:wq=o.fR.length:=uO;subst uO
 refine aF sq E (fun l=>?_)
 try dsimp only[lna,lca,lsz,lss]
 refine cy E (yS 5 [.slice b o.fB.length c,.slice f1 o.fR.length f2] sz_53 E (nB E) E E E) (oN (eT (cS (cR (oY E (yFA bU E) (oY E (yL 2 gv E E E) ?_))))))
 obtain⟨r5,h⟩:=gOs h
 refine oY E (yI jE (by decide) r5.1 r5.2 (RdL.row 0 E) (eL au (NestP.hn ri E)) E E) ?_
 refine oY E (yM (A:=A5) (j:=(Int.toNat 1*6)) [vI ((rdL G.fTracks 1).fID),vI ((rdL G.fTracks 1).fFrom),vI ((rdL G.fTracks 1).fTo),vI ((rdL G.fTracks 1).fLong),vI ((rdL G.fTracks 1).fToll),.slice ((rdL gf 1).1.1) ((rdL G.fTracks 1).fK.length) ((rdL gf 1).1.2.2)] gS (Nat.succ_pos _) (RdL.row 0 E) E (fN (bI (NestP.snd ri 1) (NestP.len ri r5.1 (ah r5.2 E))).symm (bc au r5.1 (ah r5.2 (NestP.hn ri E))))) ?_
 obtain⟨O,w8,h⟩:=bOs h
 refine oY E (yC [.agg #[vI ((rdL G.fTracks 1).fID),vI ((rdL G.fTracks 1).fFrom),vI ((rdL G.fTracks 1).fTo),vI ((rdL G.fTracks 1).fLong),vI ((rdL G.fTracks 1).fToll),.slice ((rdL gf 1).1.1) ((rdL G.fTracks 1).fK.length) ((rdL gf 1).1.2.2)],vI 8] go_69 E (fun W2 f=>qK (TT.mk ((rdL G.fTracks 1).fID) ((rdL G.fTracks 1).fFrom) ((rdL G.fTracks 1).fTo) ((rdL G.fTracks 1).fLong) ((rdL G.fTracks 1).fToll) ((rdL G.fTracks 1).fK)) 8 O w8 W2 ((rdL gf 1).1.1) ((rdL G.fTracks 1).fK.length) ((rdL gf 1).1.2.2) E ((NestL.rd (PvL.nestL ri rj (fun W2 f=>⟨f.below,trivial,f.mem (i:=1) E⟩)) r5.1 (ah r5.2 E)) W2 f)) E) (oY E (aY E) (oY E (yE E E) (oY E (yE E E) (oY E (yAI E) (oY E (yAI E) (oN (eT (cS (cR (oY E (yN 2 [vI G.fPlaces,.slice A5 G.fTracks.length c6] dG E E E) ?_))))))))))
 obtain⟨Q,w9,h⟩:=bOs h
 refine oC [.agg #[vI G.fPlaces,.slice A5 G.fTracks.length c6],vI 0,vI 4] _ _ _ E go_49 E (fun W2 f=>nZ G 0 4 Q w9 W2 A5 G.fTracks.length c6 gf E ((RdL.row 0 E) W2 f) (NestL.at (PvL.nestL ri rj (fun W2 f=>⟨f.below,trivial,f.mem (i:=1) E⟩)) W2 f) W (fun _=>True) (fun W3 hb=>⟨fY f.below hb,trivial⟩) ) ?_
 rintro⟨⟨uQ,wp,wn⟩,H,F38⟩ ⟨uU,I,u3⟩
 replace uU:wp=Q.1.fH.length:=uU;subst uU
 try dsimp only[lna,lca,lsz,lss]
 refine oY E (aY E) (oY E (yE E E) (oY E (yE E E) ?_))
 refine aF ze_87 E (fun rx=>?_)
 try dsimp only[lna,lca,lsz,lss]
 refine cy E (yS 8 [.slice uQ Q.1.fH.length wn] sz_87 E (nB E) E E E) (oY E (yAI E) (oN (eT (cS (cR (oY E (yN 2 [vI G.fPlaces,.slice A5 G.fTracks.length c6] dG E E E) ?_))))))
 obtain⟨u,wf,h⟩:=bOs h
 refine oC [.agg #[vI G.fPlaces,.slice A5 G.fTracks.length c6],vI 0,vI 2,vI 4] _ _ _ E go_61 E (fun W2 f=>mU G 0 2 4 u wf W2 A5 G.fTracks.length c6 gf E ((RdL.row 0 E) W2 f) (NestL.at (PvL.nestL ri rj (fun W2 f=>⟨f.below,trivial,f.mem (i:=1) E⟩)) W2 f) W (fun _=>True) (fun W3 hb=>⟨fY f.below hb,trivial⟩) ) ?_
 rintro⟨⟨t,wm,ot⟩,wx,F51⟩ ⟨uX,oa,wy⟩
 replace uX:wm=u.1.length:=uX;subst uX
 try dsimp only[lna,lca,lsz,lss]
 refine oY E (aY E) (oY E (yE E E) (oY E (yE E E) (oY E (yAS E) (oY E (yAI E) (oN (eT (cS (cR (oY E (yN 2 [vI G.fPlaces,.slice A5 G.fTracks.length c6] dG E E E) ?_)))))))))
 obtain⟨R,wg,h⟩:=bOs h
 refine oC [.agg #[vI G.fPlaces,.slice A5 G.fTracks.length c6],vI 0,vI 2,vI 4,vI 5] _ _ _ E go_18 E (fun W2 f=>nI G 0 2 4 5 R wg W2 A5 G.fTracks.length c6 gf E ((RdL.row 0 E) W2 f) (NestL.at (PvL.nestL ri rj (fun W2 f=>⟨f.below,trivial,f.mem (i:=1) E⟩)) W2 f) W (fun _=>True) (fun W3 hb=>⟨fY f.below hb,trivial⟩) ) ?_
 rintro⟨⟨wl,wt,wa⟩,F61⟩ ⟨uY,wb⟩
 replace uY:wt=R.1.fLegs.length:=uY;subst uY
 try dsimp only[lna,lca,lsz,lss]
 refine oY E (aY E) (oY E (yE E E) (oY E (yE E E) ?_))
 refine aF lr E (fun op=>?_)
 try dsimp only[lna,lca,lsz,lss]
 refine cy E (yS 12 [.slice wl R.1.fLegs.length wa,vI R.1.fA,vI R.1.fToll] m6 E (nB E) E E E) (oY E (yAI E) (oN (eT (cS (cR (oY E (yN 2 [vI G.fPlaces,.slice A5 G.fTracks.length c6] dG E E E) ?_))))))
 obtain⟨F,wr,h⟩:=bOs h
 refine oY E (yC [.agg #[vI G.fPlaces,.slice A5 G.fTracks.length c6],vI 0,vI 2,vI 26,vI 0] go_19 E (fun W2 f=>pL G 0 2 26 0 F wr W2 A5 G.fTracks.length c6 gf E ((RdL.row 0 E) W2 f) (NestL.at (PvL.nestL ri rj (fun W2 f=>⟨f.below,trivial,f.mem (i:=1) E⟩)) W2 f)) E) (oY E (aY E) (oY E (yE E E) (oY E (yE E E) (oY E (yAI E) (oY E (yAI E) (oN (eT (cS (cR (oY E (yN 2 [vI G.fPlaces,.slice A5 G.fTracks.length c6] dG E E E) ?_))))))))))
 obtain⟨d,wu,h⟩:=bOs h
 refine oC [.agg #[vI G.fPlaces,.slice A5 G.fTracks.length c6],vI 0,vI 2,vI 4,vI 0] _ _ _ E go_23 E (fun W2 f=>ma G 0 2 4 0 d wu W2 A5 G.fTracks.length c6 gf E ((RdL.row 0 E) W2 f) (NestL.at (PvL.nestL ri rj (fun W2 f=>⟨f.below,trivial,f.mem (i:=1) E⟩)) W2 f)) ?_
 rintro⟨f3,wz,fr⟩ uZ
 replace uZ:wz=d.1.length:=uZ;subst uZ
 try dsimp only[lna,lca,lsz,lss]
 refine oY E (aY E) (oY E (yE E E) (oY E (yE E E) (oY E (yAS E) (oY E (yAI E) (oN (eT (cS (cR (oY E (yN 2 [vI G.fPlaces,.slice A5 G.fTracks.length c6] dG E E E) ?_)))))))))
 obtain⟨w,wd,h⟩:=bOs h
 refine oC [.agg #[vI G.fPlaces,.slice A5 G.fTracks.length c6],vI 0,vI 2,vI 4,vI 60] _ _ _ E go_23 E (fun W2 f=>ma G 0 2 4 60 w wd W2 A5 G.fTracks.length c6 gf E ((RdL.row 0 E) W2 f) (NestL.at (PvL.nestL ri rj (fun W2 f=>⟨f.below,trivial,f.mem (i:=1) E⟩)) W2 f)) ?_
 rintro⟨a,wi,k⟩ uV
 replace uV:wi=w.1.length:=uV;subst uV
 try dsimp only[lna,lca,lsz,lss]
 refine oY E (aY E) (oY E (yE E E) (oY E (yE E E) (oY E (yAS E) (oY E (yAI E) (oN (eT (cS (cS (cR (oY E (yMI E) (oY E (cJ E E) (oY E (yMB E) ?_))))))))))))
 refine oJ 3 (fun g=>(upd (upd (upd (upd (upd (upd (upd (upd (upd (upd (upd (upd (upd (upd (upd g 0 (.bool false)) 2 (.pointer (some ⟨l,0,none⟩))) 3 (vI O.1)) 5 (.pointer (some ⟨rx,0,none⟩))) 7 (.slice t u.1.length ot)) 8 (vI u.2)) 9 (.pointer (some ⟨op,0,none⟩))) 10 (vI R.2)) 11 (vI F.1)) 12 (vI F.2)) 13 (.slice f3 d.1.length fr)) 14 (vI d.2)) 15 (.slice a w.1.length k)) 16 (vI w.2)) 74 (.bool ((O.2 !=0)||(Q.2 !=0))))) (fun g=>?_) (fun key=>?_)
 ·refine oY E (yMB E) ?_
  refine oJ 3 (fun g=>(upd (upd (upd (upd (upd (upd (upd (upd (upd (upd (upd (upd (upd (upd g 0 (.bool false)) 2 (.pointer (some ⟨l,0,none⟩))) 3 (vI O.1)) 5 (.pointer (some ⟨rx,0,none⟩))) 7 (.slice t u.1.length ot)) 9 (.pointer (some ⟨op,0,none⟩))) 10 (vI R.2)) 11 (vI F.1)) 12 (vI F.2)) 13 (.slice f3 d.1.length fr)) 14 (vI d.2)) 15 (.slice a w.1.length k)) 16 (vI w.2)) 78 (.bool (((O.2 !=0)||(Q.2 !=0))||(u.2 !=0))))) (fun g=>?_) (fun key=>?_)
  ·refine oY E (yMB E) ?_
   refine oJ 3 (fun g=>(upd (upd (upd (upd (upd (upd (upd (upd (upd (upd (upd (upd (upd g 0 (.bool false)) 2 (.pointer (some ⟨l,0,none⟩))) 3 (vI O.1)) 5 (.pointer (some ⟨rx,0,none⟩))) 7 (.slice t u.1.length ot)) 9 (.pointer (some ⟨op,0,none⟩))) 11 (vI F.1)) 12 (vI F.2)) 13 (.slice f3 d.1.length fr)) 14 (vI d.2)) 15 (.slice a w.1.length k)) 16 (vI w.2)) 82 (.bool ((((O.2 !=0)||(Q.2 !=0))||(u.2 !=0))||(R.2 !=0))))) (fun g=>?_) (fun key=>?_)
   ·refine oY E (yMB E) ?_
    refine oJ 3 (fun g=>(upd (upd (upd (upd (upd (upd (upd (upd (upd (upd (upd (upd g 0 (.bool false)) 2 (.pointer (some ⟨l,0,none⟩))) 3 (vI O.1)) 5 (.pointer (some ⟨rx,0,none⟩))) 7 (.slice t u.1.length ot)) 9 (.pointer (some ⟨op,0,none⟩))) 11 (vI F.1)) 13 (.slice f3 d.1.length fr)) 14 (vI d.2)) 15 (.slice a w.1.length k)) 16 (vI w.2)) 86 (.bool (((((O.2 !=0)||(Q.2 !=0))||(u.2 !=0))||(R.2 !=0))||(F.2 !=0))))) (fun g=>?_) (fun key=>?_)
    ·refine oY E (yMB E) ?_
     refine oJ 3 (fun g=>(upd (upd (upd (upd (upd (upd (upd (upd (upd (upd (upd g 0 (.bool false)) 2 (.pointer (some ⟨l,0,none⟩))) 3 (vI O.1)) 5 (.pointer (some ⟨rx,0,none⟩))) 7 (.slice t u.1.length ot)) 9 (.pointer (some ⟨op,0,none⟩))) 11 (vI F.1)) 13 (.slice f3 d.1.length fr)) 15 (.slice a w.1.length k)) 16 (vI w.2)) 90 (.bool ((((((O.2 !=0)||(Q.2 !=0))||(u.2 !=0))||(R.2 !=0))||(F.2 !=0))||(d.2 !=0))))) (fun g=>?_) (fun key=>?_)
     ·refine oY E (yMB E) ?_
      refine oJ 3 (fun g=>(upd (upd (upd (upd (upd (upd (upd (upd (upd (upd g 0 (.bool false)) 2 (.pointer (some ⟨l,0,none⟩))) 3 (vI O.1)) 5 (.pointer (some ⟨rx,0,none⟩))) 7 (.slice t u.1.length ot)) 9 (.pointer (some ⟨op,0,none⟩))) 11 (vI F.1)) 13 (.slice f3 d.1.length fr)) 15 (.slice a w.1.length k)) 94 (.bool (((((((O.2 !=0)||(Q.2 !=0))||(u.2 !=0))||(R.2 !=0))||(F.2 !=0))||(d.2 !=0))||(w.2 !=0))))) (fun g=>?_) (fun key=>?_)
      ·refine oY E (yMB E) ?_
       refine oJ 3 (fun g=>(upd (upd (upd (upd (upd (upd (upd (upd (upd g 0 (.bool false)) 2 (.pointer (some ⟨l,0,none⟩))) 5 (.pointer (some ⟨rx,0,none⟩))) 7 (.slice t u.1.length ot)) 9 (.pointer (some ⟨op,0,none⟩))) 11 (vI F.1)) 13 (.slice f3 d.1.length fr)) 15 (.slice a w.1.length k)) 98 (.bool ((((((((O.2 !=0)||(Q.2 !=0))||(u.2 !=0))||(R.2 !=0))||(F.2 !=0))||(d.2 !=0))||(w.2 !=0))||(O.1 !=21))))) (fun g=>?_) (fun key=>?_)
       ·refine oY E (yMB E) ?_
        refine oJ 5 (fun g=>(upd (upd (upd (upd (upd (upd (upd (upd (upd g 0 (.bool false)) 2 (.pointer (some ⟨l,0,none⟩))) 5 (.pointer (some ⟨rx,0,none⟩))) 7 (.slice t u.1.length ot)) 9 (.pointer (some ⟨op,0,none⟩))) 11 (vI F.1)) 13 (.slice f3 d.1.length fr)) 15 (.slice a w.1.length k)) 104 (.bool (((((((((O.2 !=0)||(Q.2 !=0))||(u.2 !=0))||(R.2 !=0))||(F.2 !=0))||(d.2 !=0))||(w.2 !=0))||(O.1 !=21))||((Q.1.fH.length:Int) !=3))))) (fun g=>?_) (fun key=>?_)
        ·refine oY E (yMB E) ?_
         obtain⟨uz,ww,h⟩:=bOs h
         refine oJ 7 (fun g=>(upd (upd (upd (upd (upd (upd (upd (upd (upd g 0 (.bool false)) 2 (.pointer (some ⟨l,0,none⟩))) 5 (.pointer (some ⟨rx,0,none⟩))) 7 (.slice t u.1.length ot)) 9 (.pointer (some ⟨op,0,none⟩))) 11 (vI F.1)) 13 (.slice f3 d.1.length fr)) 15 (.slice a w.1.length k)) 112 (.bool uz))) (fun g=>?_) (fun key=>?_)
         ·refine oY E (yMB E) ?_
          refine oJ 4 (fun g=>(upd (upd (upd (upd (upd (upd (upd (upd (upd g 0 (.bool false)) 2 (.pointer (some ⟨l,0,none⟩))) 5 (.pointer (some ⟨rx,0,none⟩))) 7 (.slice t u.1.length ot)) 9 (.pointer (some ⟨op,0,none⟩))) 11 (vI F.1)) 13 (.slice f3 d.1.length fr)) 15 (.slice a w.1.length k)) 117 (.bool (uz||((u.1.length:Int) !=3))))) (fun g=>?_) (fun key=>?_)
          ·refine oN (eT ?_)
           rcases iOs h with⟨uT,h⟩|⟨uT,h⟩
           ·refine cT (vB uT) (cS (cR (oY E (yAB E) (oN (eT (ap (ab ?_)))))))
            obtain rfl:=sI h
            exact am (.inl E) E (rVt (v:=.bool false) E) (fun W2 f=>⟨E,f.none⟩)
           ·refine cF (vB uT) (cK (eT (cS (cR (oY E (yFA dw E) (oY E (yL 8 km E E E) ?_))))))
            obtain⟨o2,h⟩:=gOs h
            refine oY E (yI iu (by decide) o2.1 o2.2 (RdL.row 6 E) (eL ao (NestP.hn I E)) E E) ?_
            refine oY E (yR (A:=uQ) (j:=(Int.toNat 2*1)) (v:=.slice ((rdL H 2).1.1) ((rdL Q.1.fH 2).length) ((rdL H 2).1.2.2)) gM (RdL.row 6 E) E (ay ao o2.1 (ah o2.2 (NestP.hn I E)) (congrArg (fun n:Nat=>some (Value.slice (rdL H 2).1.1 n (rdL H 2).1.2.2)) (NestP.len I o2.1 (ah o2.2 E))))) ?_
            obtain⟨uF,h⟩:=gOs h
            refine oY E (yI bS (by decide) uF.1 uF.2 (NestL.rd (PvL.nestL I u3 (fun W2 f=>⟨f.below,trivial,f.mem (i:=7) E⟩)) o2.1 (ah o2.2 E)) (eL aB E) E E) ?_
            refine oY E (yR (A:=((rdL H 2).1.1)) (j:=(Int.toNat 0*1)) (v:=vI (rdL (rdL Q.1.fH 2) 0)) aK (NestL.rd (PvL.nestL I u3 (fun W2 f=>⟨f.below,trivial,f.mem (i:=7) E⟩)) o2.1 (ah o2.2 E)) E (ay aB uF.1 (ah uF.2 E) E)) (oY E (cZ E E) (oY E (yMB E) ?_))
            obtain⟨wj,wD,h⟩:=bOs h
            refine oJ 8 (fun g=>(upd (upd (upd (upd (upd (upd (upd (upd (upd g 0 (.bool false)) 2 (.pointer (some ⟨l,0,none⟩))) 5 (.pointer (some ⟨rx,0,none⟩))) 7 (.slice t u.1.length ot)) 9 (.pointer (some ⟨op,0,none⟩))) 11 (vI F.1)) 13 (.slice f3 d.1.length fr)) 15 (.slice a w.1.length k)) 133 (.bool wj))) (fun g=>?_) (fun key=>?_)
            ·refine oY E (yMB E) ?_
             obtain⟨wk,wE,h⟩:=bOs h
             refine oJ 8 (fun g=>(upd (upd (upd (upd (upd (upd (upd (upd g 0 (.bool false)) 2 (.pointer (some ⟨l,0,none⟩))) 7 (.slice t u.1.length ot)) 9 (.pointer (some ⟨op,0,none⟩))) 11 (vI F.1)) 13 (.slice f3 d.1.length fr)) 15 (.slice a w.1.length k)) 142 (.bool wk))) (fun g=>?_) (fun key=>?_)
             ·refine oY E (yMB E) ?_
              obtain⟨wF,ui,h⟩:=bOs h
              refine oJ 6 (fun g=>(upd (upd (upd (upd (upd (upd (upd (upd g 0 (.bool false)) 2 (.pointer (some ⟨l,0,none⟩))) 7 (.slice t u.1.length ot)) 9 (.pointer (some ⟨op,0,none⟩))) 11 (vI F.1)) 13 (.slice f3 d.1.length fr)) 15 (.slice a w.1.length k)) 149 (.bool wF))) (fun g=>?_) (fun key=>?_)
              ·refine oY E (yMB E) ?_
               obtain⟨wG,uj,h⟩:=bOs h
               refine oJ 6 (fun g=>(upd (upd (upd (upd (upd (upd (upd (upd g 0 (.bool false)) 2 (.pointer (some ⟨l,0,none⟩))) 7 (.slice t u.1.length ot)) 9 (.pointer (some ⟨op,0,none⟩))) 11 (vI F.1)) 13 (.slice f3 d.1.length fr)) 15 (.slice a w.1.length k)) 156 (.bool wG))) (fun g=>?_) (fun key=>?_)
               ·refine oY E (yMB E) ?_
                obtain⟨ug,uk,h⟩:=bOs h
                refine oJ 6 (fun g=>(upd (upd (upd (upd (upd (upd (upd g 0 (.bool false)) 2 (.pointer (some ⟨l,0,none⟩))) 9 (.pointer (some ⟨op,0,none⟩))) 11 (vI F.1)) 13 (.slice f3 d.1.length fr)) 15 (.slice a w.1.length k)) 163 (.bool ug))) (fun g=>?_) (fun key=>?_)
                ·refine oY E (yMB E) ?_
                 refine oJ 4 (fun g=>(upd (upd (upd (upd (upd (upd g 0 (.bool false)) 2 (.pointer (some ⟨l,0,none⟩))) 11 (vI F.1)) 13 (.slice f3 d.1.length fr)) 15 (.slice a w.1.length k)) 168 (.bool (ug&&(R.1.fA==17))))) (fun g=>?_) (fun key=>?_)
                 ·refine oY E (yMB E) ?_
                  refine oJ 3 (fun g=>(upd (upd (upd (upd (upd g 0 (.bool false)) 2 (.pointer (some ⟨l,0,none⟩))) 13 (.slice f3 d.1.length fr)) 15 (.slice a w.1.length k)) 172 (.bool ((ug&&(R.1.fA==17))&&(F.1==16))))) (fun g=>?_) (fun key=>?_)
                  ·refine oY E (yMB E) ?_
                   obtain⟨wH,ux,h⟩:=bOs h
                   refine oJ 4 (fun g=>(upd (upd (upd (upd g 0 (.bool false)) 2 (.pointer (some ⟨l,0,none⟩))) 15 (.slice a w.1.length k)) 177 (.bool wH))) (fun g=>?_) (fun key=>?_)
                   ·refine oY E (yMB E) ?_
                    obtain⟨go,uy,h⟩:=bOs h
                    refine oJ 4 (fun g=>(upd (upd (upd g 0 (.bool false)) 2 (.pointer (some ⟨l,0,none⟩))) 182 (.bool go))) (fun g=>?_) (fun key=>?_)
                    ·refine oY E (yAB E) (oN (eT (cS (cR (oY E (yN 5 [.slice b o.fB.length c,.slice f1 o.fR.length f2] dF E E E) ?_)))))
                     obtain⟨K,ub,h⟩:=bOs h
                     refine oC [.agg #[.slice b o.fB.length c,.slice f1 o.fR.length f2]] _ _ _ E go_37 E (fun W2 f=>qC o K ub W2 b o.fB.length c E ((RdL.row 3 E) W2 f) f1 o.fR.length f2 E ((RdL.row 4 E) W2 f) W (fun _=>True) (fun W3 hb=>⟨fY f.below hb,trivial⟩) ) ?_
                     rintro⟨⟨⟨uG,wI,uH⟩,F126⟩,⟨⟨uI,wK,uK⟩,F132⟩⟩ ⟨uu,uc,ud,d0⟩
                     replace uu:wI=K.1.fG.length:=uu;subst uu
                     replace ud:wK=K.1.fPrices.length:=ud;subst ud
                     try dsimp only[lna,lca,lsz,lss]
                     refine oY E (aY E) (oY E (yE E E) (oY E (yE E E) ?_))
                     refine aF ze_71 E (fun wM=>?_)
                     try dsimp only[lna,lca,lsz,lss]
                     refine cy E (yS 17 [.slice uG K.1.fG.length uH,vI K.1.fW,.slice uI K.1.fPrices.length uK] sz_71 E (nB E) E E E) (oY E (yAI E) (oN (eT (cS (cR (oY E (yN 5 [.slice b o.fB.length c,.slice f1 o.fR.length f2] dF E E E) ?_))))))
                     obtain⟨o0,d1,h⟩:=bOs h
                     refine oC [.agg #[.slice b o.fB.length c,.slice f1 o.fR.length f2]] _ _ _ E go_27 E (fun W2 f=>pN o o0 d1 W2 b o.fB.length c E ((RdL.row 3 E) W2 f) f1 o.fR.length f2 E ((RdL.row 4 E) W2 f)) ?_
                     rintro⟨uo,wN,ur⟩ uw
                     replace uw:wN=o0.1.length:=uw;subst uw
                     try dsimp only[lna,lca,lsz,lss]
                     refine oY E (aY E) (oY E (yE E E) (oY E (yE E E) (oY E (yAS E) (oY E (yAI E) (oN (eT (cS (cR (oY E (yN 5 [.slice b o.fB.length c,.slice f1 o.fR.length f2] dF E E E) ?_)))))))))
                     obtain⟨Y,d2,h⟩:=bOs h
                     refine oC [.agg #[.slice b o.fB.length c,.slice f1 o.fR.length f2]] _ _ _ E go_29 E (fun W2 f=>qG o Y d2 W2 b o.fB.length c E ((RdL.row 3 E) W2 f) f1 o.fR.length f2 E ((RdL.row 4 E) W2 f)) ?_
                     rintro⟨u0,wO,u1⟩ uD
                     replace uD:wO=Y.1.length:=uD;subst uD
                     try dsimp only[lna,lca,lsz,lss]
                     refine oY E (aY E) (oY E (yE E E) (oY E (yE E E) (oY E (yAS E) (oY E (yAI E) (oN (eT (cS (cR (oY E (yN 5 [.slice b o.fB.length c,.slice f1 o.fR.length f2] dF E E E) ?_)))))))))
                     refine aP 3 (encL cI [7,8,9]) _ mc_3_3 cQ nD qa (by decide) (by decide) (by kernel_rfl) (eL aB E) E (fun uq=>?_)
                     try dsimp only[lna,lca,lsz,lss]
                     obtain⟨D,d3,h⟩:=bOs h
                     refine oC [.agg #[.slice b o.fB.length c,.slice f1 o.fR.length f2],.slice (some ⟨uq,0,none⟩) 3 3] _ _ _ E go_31 E (fun W2 f=>oO o [7,8,9] D d3 W2 b o.fB.length c E ((RdL.row 3 E) W2 f) f1 o.fR.length f2 E ((RdL.row 4 E) W2 f) (some ⟨uq,0,none⟩) 3 3 E ((RdL.row 20 E) W2 f)) ?_
                     rintro⟨oX,wQ,oq⟩ uE
                     replace uE:wQ=D.1.length:=uE;subst uE
                     try dsimp only[lna,lca,lsz,lss]
                     refine oY E (aY E) (oY E (yE E E) (oY E (yE E E) (oY E (yAS E) (oY E (yAI E) (oN (eT (cS (cR (oY E (yN 5 [.slice b o.fB.length c,.slice f1 o.fR.length f2] dF E E E) ?_)))))))))
                     obtain⟨r,d4,h⟩:=bOs h
                     refine oY E (yC [.agg #[.slice b o.fB.length c,.slice f1 o.fR.length f2],vI 1] go_33 E (fun W2 f=>rP o 1 r d4 W2 b o.fB.length c E ((RdL.row 3 E) W2 f) f1 o.fR.length f2 E ((RdL.row 4 E) W2 f)) E) (oY E (aY E) (oY E (yE E E) (oY E (yE E E) (oY E (yAI E) (oY E (yAI E) (oN (eT (cS (cR (oY E (yMI E) (oY E (cZ E E) (oY E (yMB E) ?_))))))))))))
                     refine oJ 4 (fun g=>(upd (upd (upd (upd (upd (upd (upd (upd (upd (upd (upd (upd (upd g 0 (.bool false)) 2 (.pointer (some ⟨l,0,none⟩))) 17 (.bool go)) 18 (.pointer (some ⟨wM,0,none⟩))) 20 (.slice uo o0.1.length ur)) 21 (vI o0.2)) 22 (.slice u0 Y.1.length u1)) 23 (vI Y.2)) 24 (.slice oX D.1.length oq)) 25 (vI D.2)) 26 (vI r.1)) 27 (vI r.2)) 215 (.bool ((K.2==0)&&(K.1.fW==14))))) (fun g=>?_) (fun key=>?_)
                     ·refine oY E (yMB E) ?_
                      obtain⟨uS,d5,h⟩:=bOs h
                      refine oJ 5 (fun g=>(upd (upd (upd (upd (upd (upd (upd (upd (upd (upd (upd g 0 (.bool false)) 17 (.bool go)) 20 (.slice uo o0.1.length ur)) 21 (vI o0.2)) 22 (.slice u0 Y.1.length u1)) 23 (vI Y.2)) 24 (.slice oX D.1.length oq)) 25 (vI D.2)) 26 (vI r.1)) 27 (vI r.2)) 221 (.bool uS))) (fun g=>?_) (fun key=>?_)
                      ·refine oY E (yMB E) ?_
                       refine oJ 3 (fun g=>(upd (upd (upd (upd (upd (upd (upd (upd (upd (upd g 0 (.bool false)) 17 (.bool go)) 20 (.slice uo o0.1.length ur)) 22 (.slice u0 Y.1.length u1)) 23 (vI Y.2)) 24 (.slice oX D.1.length oq)) 25 (vI D.2)) 26 (vI r.1)) 27 (vI r.2)) 225 (.bool (uS&&(o0.2==0))))) (fun g=>?_) (fun key=>?_)
                       ·refine oY E (yMB E) ?_
                        obtain⟨uR,dd,h⟩:=bOs h
                        refine oJ 4 (fun g=>(upd (upd (upd (upd (upd (upd (upd (upd (upd g 0 (.bool false)) 17 (.bool go)) 22 (.slice u0 Y.1.length u1)) 23 (vI Y.2)) 24 (.slice oX D.1.length oq)) 25 (vI D.2)) 26 (vI r.1)) 27 (vI r.2)) 230 (.bool uR))) (fun g=>?_) (fun key=>?_)
                        ·refine oY E (yMB E) ?_
                         refine oJ 3 (fun g=>(upd (upd (upd (upd (upd (upd (upd (upd g 0 (.bool false)) 17 (.bool go)) 22 (.slice u0 Y.1.length u1)) 24 (.slice oX D.1.length oq)) 25 (vI D.2)) 26 (vI r.1)) 27 (vI r.2)) 234 (.bool (uR&&(Y.2==0))))) (fun g=>?_) (fun key=>?_)
                         ·refine oY E (yMB E) ?_
                          obtain⟨uM,dn,h⟩:=bOs h
                          refine oJ 4 (fun g=>(upd (upd (upd (upd (upd (upd (upd g 0 (.bool false)) 17 (.bool go)) 24 (.slice oX D.1.length oq)) 25 (vI D.2)) 26 (vI r.1)) 27 (vI r.2)) 239 (.bool uM))) (fun g=>?_) (fun key=>?_)
                          ·refine oY E (yAB E) (oN (eT (cS (cR (oY E (yMB E) (oY E (yMB E) ?_))))))
                           refine oJ 2 (fun g=>(upd (upd (upd (upd (upd (upd g 0 (.bool false)) 24 (.slice oX D.1.length oq)) 25 (vI D.2)) 26 (vI r.1)) 27 (vI r.2)) 243 (.bool (go&&uM)))) (fun g=>?_) (fun key=>?_)
                           ·refine oY E (yMB E) ?_
                            refine oJ 3 (fun g=>(upd (upd (upd (upd (upd g 0 (.bool false)) 24 (.slice oX D.1.length oq)) 26 (vI r.1)) 27 (vI r.2)) 247 (.bool ((go&&uM)&&(D.2==0))))) (fun g=>?_) (fun key=>?_)
                            ·refine oY E (yMB E) ?_
                             obtain⟨u4,dy,h⟩:=bOs h
                             refine oJ 4 (fun g=>(upd (upd (upd (upd g 0 (.bool false)) 26 (vI r.1)) 27 (vI r.2)) 252 (.bool u4))) (fun g=>?_) (fun key=>?_)
                             ·refine oY E (yMB E) ?_
                              refine oJ 3 (fun g=>(upd (upd (upd g 0 (.bool false)) 26 (vI r.1)) 256 (.bool (u4&&(r.2==0))))) (fun g=>?_) (fun key=>?_)
                              ·refine oY E (yMB E) ?_
                               refine oJ 3 (fun g=>(upd (upd g 0 (.bool false)) 260 (.bool ((u4&&(r.2==0))&&(r.1==5))))) (fun g=>?_) (fun key=>?_)
                               ·refine oY E (yAB E) (oN (eT (ap ?_)))
                                obtain rfl:=sI h
                                exact am (.inl E) E (rVt (v:=.bool ((u4&&(r.2==0))&&(r.1==5))) E) (fun W2 f=>⟨E,f.none⟩)
                               ·rcases ar (u4&&(r.2==0))with fd|fd
                                ·refine oY (sT E E E E fd) (yMI E) (oY (sT E E E E fd) (cZ E E) (oY E (ad (vB fd) E) ?_))
                                 exact key _ _ (keep (keep E E) (vB (fF fd)))
                                ·refine oSk (sF E E E E fd) (oSk (sF E E E E fd) (oY E (ag (vB fd) E) ?_))
                                 exact key _ _ (keep (keep E E) (vB (fy fd)))
                              ·rcases ar u4 with fD|fD
                               ·refine oY (sT E E E E fD) (yMI E) (oY (sT E E E E fD) (cZ E E) (oY E (ad (vB fD) E) ?_))
                                exact key _ _ (keep (keep (keep E E) E) (vB (fF fD)))
                               ·refine oSk (sF E E E E fD) (oSk (sF E E E E fD) (oY E (ag (vB fD) E) ?_))
                                exact key _ _ (keep (keep (keep E E) E) (vB (fy fD)))
                             ·clear h;rcases iOs dy with⟨fE,h⟩|⟨fE,h⟩
                              ·refine oY (sT E E E E fE) (yMS E) ?_
                               refine aP 2 (encL cI [8,9]) _ mc_3_2 cQ nD qa (by decide) (by decide) (by kernel_rfl) (eL aB E) (sT E E E E fE) (fun up=>?_)
                               try dsimp only[lna,lca,lsz,lss]
                               obtain⟨wU,w0,h⟩:=bOs h
                               refine oY (sT E E E E fE) (yC [.slice oX D.1.length oq,.slice (some ⟨up,0,none⟩) 2 2] go_25 E (fun W2 f=>dO D.1 [8,9] wU w0 W2 oX D.1.length oq E ((RdL.row 21 E) W2 f) (some ⟨up,0,none⟩) 2 2 E ((RdL.row 22 E) W2 f)) E) (oY E (ad (vB fE) E) ?_)
                               obtain rfl:=sI h
                               refine pC 22 ?_
                               exact key _ _ (kp4 E)
                              ·refine oSk (sF E E E E fE) (oSk (sF E E E E fE) (oSk (sF E E E E fE) (oY E (ag (vB fE) E) ?_)))
                               obtain rfl:=sI h
                               exact key _ _ (kp4 E)
                            ·rcases ar (go&&uM)with fT|fT
                             ·refine oY (sT E E E E fT) (yMI E) (oY (sT E E E E fT) (cZ E E) (oY E (ad (vB fT) E) ?_))
                              exact key _ _ (keep (keep (keep (keep (keep E E) E) E) E) (vB (fF fT)))
                             ·refine oSk (sF E E E E fT) (oSk (sF E E E E fT) (oY E (ag (vB fT) E) ?_))
                              exact key _ _ (keep (keep (keep (keep (keep E E) E) E) E) (vB (fy fT)))
                           ·rcases ar go with om|om
                            ·refine oY (sT E E E E om) (yMB E) (oY E (ad (vB om) E) ?_)
                             exact key _ _ (keep (keep (keep (keep (keep (keep E E) E) E) E) E) (vB (fF om)))
                            ·refine oSk (sF E E E E om) (oY E (ag (vB om) E) ?_)
                             exact key _ _ (keep (keep (keep (keep (keep (keep E E) E) E) E) E) (vB (fy om)))
                          ·clear h;rcases iOs dn with⟨fn,h⟩|⟨fn,h⟩
                           ·refine oY (sT E E E E fn) (yMS E) ?_
                            refine aP 1 (encL cI [9]) _ o4 cQ nD qa (by decide) (by decide) (by kernel_rfl) (eL aB E) (sT E E E E fn) (fun un=>?_)
                            try dsimp only[lna,lca,lsz,lss]
                            obtain⟨wX,w2,h⟩:=bOs h
                            refine oY (sT E E E E fn) (yC [.slice u0 Y.1.length u1,.slice (some ⟨un,0,none⟩) 1 1] go_25 E (fun W2 f=>dO Y.1 [9] wX w2 W2 u0 Y.1.length u1 E ((RdL.row 19 E) W2 f) (some ⟨un,0,none⟩) 1 1 E ((RdL.row 22 E) W2 f)) E) (oY E (ad (vB fn) E) ?_)
                            obtain rfl:=sI h
                            refine pC 22 ?_
                            exact key _ _ (kp4 (kp (kp (kp E))))
                           ·refine oSk (sF E E E E fn) (oSk (sF E E E E fn) (oSk (sF E E E E fn) (oY E (ag (vB fn) E) ?_)))
                            obtain rfl:=sI h
                            exact key _ _ (kp4 (kp (kp (kp E))))
                         ·rcases ar uR with fl|fl
                          ·refine oY (sT E E E E fl) (yMI E) (oY (sT E E E E fl) (cZ E E) (oY E (ad (vB fl) E) ?_))
                           exact key _ _ (keep (keep (keep (keep (keep (keep (keep (keep E E) E) E) E) E) E) E) (vB (fF fl)))
                          ·refine oSk (sF E E E E fl) (oSk (sF E E E E fl) (oY E (ag (vB fl) E) ?_))
                           exact key _ _ (keep (keep (keep (keep (keep (keep (keep (keep E E) E) E) E) E) E) E) (vB (fy fl)))
                        ·clear h;rcases iOs dd with⟨ft,h⟩|⟨ft,h⟩
                         ·refine oY (sT E E E E ft) (yMS E) ?_
                          refine aP 2 (encL cI [7,8]) _ mc_3_2 cQ nD qa (by decide) (by decide) (by kernel_rfl) (eL aB E) (sT E E E E ft) (fun um=>?_)
                          try dsimp only[lna,lca,lsz,lss]
                          obtain⟨wY,w3,h⟩:=bOs h
                          refine oY (sT E E E E ft) (yC [.slice uo o0.1.length ur,.slice (some ⟨um,0,none⟩) 2 2] go_25 E (fun W2 f=>dO o0.1 [7,8] wY w3 W2 uo o0.1.length ur E ((RdL.row 18 E) W2 f) (some ⟨um,0,none⟩) 2 2 E ((RdL.row 22 E) W2 f)) E) (oY E (ad (vB ft) E) ?_)
                          obtain rfl:=sI h
                          refine pC 22 ?_
                          exact key _ _ (kp4 (kp4 (kp E)))
                         ·refine oSk (sF E E E E ft) (oSk (sF E E E E ft) (oSk (sF E E E E ft) (oY E (ag (vB ft) E) ?_)))
                          obtain rfl:=sI h
                          exact key _ _ (kp4 (kp4 (kp E)))
                       ·rcases ar uS with g1|g1
                        ·refine oY (sT E E E E g1) (yMI E) (oY (sT E E E E g1) (cZ E E) (oY E (ad (vB g1) E) ?_))
                         exact key _ _ (keep (keep (keep (keep (keep (keep (keep (keep (keep (keep E E) E) E) E) E) E) E) E) E) (vB (fF g1)))
                        ·refine oSk (sF E E E E g1) (oSk (sF E E E E g1) (oY E (ag (vB g1) E) ?_))
                         exact key _ _ (keep (keep (keep (keep (keep (keep (keep (keep (keep (keep E E) E) E) E) E) E) E) E) E) (vB (fy g1)))
                      ·clear h;rcases iOs d5 with⟨Z,h⟩|⟨Z,h⟩
                       ·refine oY (sT E E E E Z) (yN 5 [.slice b o.fB.length c,.slice f1 o.fR.length f2] dF E E E) (oY (sT E E E E Z) (yN 17 [.slice uG K.1.fG.length uH,vI K.1.fW,.slice uI K.1.fPrices.length uK] ag_71 E E E) ?_)
                        obtain⟨wZ,w4,h⟩:=bOs h
                        refine oY (sT E E E E Z) (yC [.agg #[.slice b o.fB.length c,.slice f1 o.fR.length f2],.agg #[.slice uG K.1.fG.length uH,vI K.1.fW,.slice uI K.1.fPrices.length uK]] go_44 E (fun W2 f=>m5 o K.1 wZ w4 W2 b o.fB.length c E ((RdL.row 3 E) W2 f) f1 o.fR.length f2 E ((RdL.row 4 E) W2 f) uG K.1.fG.length uH E ((Pv.rdl uc (fun W2 f=>⟨f.below,trivial,f.mem (i:=15) E⟩)) W2 f) uI K.1.fPrices.length uK E ((Pv.rdl d0 (fun W2 f=>⟨f.below,trivial,f.mem (i:=16) E⟩)) W2 f)) E) (oY (sT E E E E Z) (cZ E E) (oY E (ad (vB Z) E) ?_))
                        obtain rfl:=sI h
                        exact key _ _ (kp4 (kp4 (kp (kp (kp E)))))
                       ·refine oSk (sF E E E E Z) (oSk (sF E E E E Z) (oSk (sF E E E E Z) (oSk (sF E E E E Z) (oY E (ag (vB Z) E) ?_))))
                        obtain rfl:=sI h
                        exact key _ _ (kp4 (kp4 (kp (kp (kp E)))))
                     ·rcases ar (K.2==0)with V|V
                      ·refine oY (sT E E E E V) (yFA qW E) (oY (sT E E E E V) (yL 17 aK E E E) (oY (sT E E E E V) (cZ E E) (oY E (ad (vB V) E) ?_)))
                       exact key _ _ (keep (keep (keep (keep (keep (keep (keep (keep (keep (keep (keep (keep (keep E E) E) E) E) E) E) E) E) E) E) E) E) (vB (fF V)))
                      ·refine oSk (sF E E E E V) (oSk (sF E E E E V) (oSk (sF E E E E V) (oY E (ag (vB V) E) ?_)))
                       exact key _ _ (keep (keep (keep (keep (keep (keep (keep (keep (keep (keep (keep (keep (keep E E) E) E) E) E) E) E) E) E) E) E) E) (vB (fy V)))
                    ·clear h;rcases iOs uy with⟨g2,h⟩|⟨g2,h⟩
                     ·refine oY (sT E E E E g2) (yMS E) ?_
                      refine aP 1 (encL cI [3]) _ o4 cQ nD qa (by decide) (by decide) (by kernel_rfl) (eL aB E) (sT E E E E g2) (fun ul=>?_)
                      try dsimp only[lna,lca,lsz,lss]
                      obtain⟨wV,w5,h⟩:=bOs h
                      refine oY (sT E E E E g2) (yC [.slice a w.1.length k,.slice (some ⟨ul,0,none⟩) 1 1] go_25 E (fun W2 f=>dO w.1 [3] wV w5 W2 a w.1.length k E ((RdL.row 14 E) W2 f) (some ⟨ul,0,none⟩) 1 1 E ((RdL.row 15 E) W2 f)) E) (oY E (ad (vB g2) E) ?_)
                      obtain rfl:=sI h
                      refine pC 15 ?_
                      exact key _ _ (kp (kp (kp E)))
                     ·refine oSk (sF E E E E g2) (oSk (sF E E E E g2) (oSk (sF E E E E g2) (oY E (ag (vB g2) E) ?_)))
                      obtain rfl:=sI h
                      exact key _ _ (kp (kp (kp E)))
                   ·clear h;rcases iOs ux with⟨g3,h⟩|⟨g3,h⟩
                    ·refine oY (sT E E E E g3) (yMS E) ?_
                     refine aP 2 (encL cI [1,2]) _ mc_3_2 cQ nD qa (by decide) (by decide) (by kernel_rfl) (eL aB E) (sT E E E E g3) (fun ut=>?_)
                     try dsimp only[lna,lca,lsz,lss]
                     obtain⟨wT,w6,h⟩:=bOs h
                     refine oY (sT E E E E g3) (yC [.slice f3 d.1.length fr,.slice (some ⟨ut,0,none⟩) 2 2] go_25 E (fun W2 f=>dO d.1 [1,2] wT w6 W2 f3 d.1.length fr E ((RdL.row 13 E) W2 f) (some ⟨ut,0,none⟩) 2 2 E ((RdL.row 15 E) W2 f)) E) (oY E (ad (vB g3) E) ?_)
                     obtain rfl:=sI h
                     refine pC 15 ?_
                     exact key _ _ (kp4 E)
                    ·refine oSk (sF E E E E g3) (oSk (sF E E E E g3) (oSk (sF E E E E g3) (oY E (ag (vB g3) E) ?_)))
                     obtain rfl:=sI h
                     exact key _ _ (kp4 E)
                  ·rcases ar (ug&&(R.1.fA==17))with g4|g4
                   ·refine oY (sT E E E E g4) (yMI E) (oY (sT E E E E g4) (cZ E E) (oY E (ad (vB g4) E) ?_))
                    exact key _ _ (keep (keep (keep (keep (keep E E) E) E) E) (vB (fF g4)))
                   ·refine oSk (sF E E E E g4) (oSk (sF E E E E g4) (oY E (ag (vB g4) E) ?_))
                    exact key _ _ (keep (keep (keep (keep (keep E E) E) E) E) (vB (fy g4)))
                 ·rcases ar ug with T|T
                  ·refine oY (sT E E E E T) (yFA gN E) (oY (sT E E E E T) (yL 12 aK E E E) (oY (sT E E E E T) (cZ E E) (oY E (ad (vB T) E) ?_)))
                   exact key _ _ (keep (keep (keep (keep (keep (keep E E) E) E) E) E) (vB (fF T)))
                  ·refine oSk (sF E E E E T) (oSk (sF E E E E T) (oSk (sF E E E E T) (oY E (ag (vB T) E) ?_)))
                   exact key _ _ (keep (keep (keep (keep (keep (keep E E) E) E) E) E) (vB (fy T)))
                ·clear h;rcases iOs uk with⟨M,h⟩|⟨M,h⟩
                 ·refine oY (sT E E E E M) (yMS E) ?_
                  obtain⟨u6,h⟩:=gOs h
                  refine oY (sT E E E E M) (yI gH (by decide) u6.1 u6.2 (RdL.row 9 E) (eL aq (NestP.hn oa E)) E E) ?_
                  refine oY (sT E E E E M) (yFR (A:=t) (j:=(Int.toNat 2*3)) iN E) (oY (sT E E E E M) (yR (A:=t) (j:=((Int.toNat 2*3)+2)) (v:=vI ((rdL u.1 2).fToll)) aK (RdL.row 9 E) E (eG aq u6.1 (ah u6.2 (NestP.hn oa E)) (congrArg (fun z:TJ=>some (Value.int .i64 z.fToll)) (NestP.snd oa 2)))) (oY (sT E E E E M) (cZ E E) (oY E (ad (vB M) E) ?_)))
                  obtain rfl:=sI h
                  exact key _ _ (kp4 (kp (kp (kp E))))
                 ·refine oSk (sF E E E E M) (oSk (sF E E E E M) (oSk (sF E E E E M) (oSk (sF E E E E M) (oSk (sF E E E E M) (oY E (ag (vB M) E) ?_)))))
                  obtain rfl:=sI h
                  exact key _ _ (kp4 (kp (kp (kp E))))
               ·clear h;rcases iOs uj with⟨N,h⟩|⟨N,h⟩
                ·refine oY (sT E E E E N) (yMS E) ?_
                 obtain⟨u7,h⟩:=gOs h
                 refine oY (sT E E E E N) (yI gH (by decide) u7.1 u7.2 (RdL.row 9 E) (eL aq (NestP.hn oa E)) E E) ?_
                 refine oY (sT E E E E N) (yFR (A:=t) (j:=(Int.toNat 1*3)) gN E) (oY (sT E E E E N) (yR (A:=t) (j:=((Int.toNat 1*3)+1)) (v:=vI ((rdL u.1 1).fA)) aK (RdL.row 9 E) E (eG aq u7.1 (ah u7.2 (NestP.hn oa E)) (congrArg (fun z:TJ=>some (Value.int .i64 z.fA)) (NestP.snd oa 1)))) (oY (sT E E E E N) (cZ E E) (oY E (ad (vB N) E) ?_)))
                 obtain rfl:=sI h
                 exact key _ _ (kp4 (kp4 E))
                ·refine oSk (sF E E E E N) (oSk (sF E E E E N) (oSk (sF E E E E N) (oSk (sF E E E E N) (oSk (sF E E E E N) (oY E (ag (vB N) E) ?_)))))
                 obtain rfl:=sI h
                 exact key _ _ (kp4 (kp4 E))
              ·clear h;rcases iOs ui with⟨x,h⟩|⟨x,h⟩
               ·refine oY (sT E E E E x) (yMS E) ?_
                obtain⟨u8,h⟩:=gOs h
                refine oY (sT E E E E x) (yI gH (by decide) u8.1 u8.2 (RdL.row 9 E) (eL aq (NestP.hn oa E)) E E) ?_
                refine oY (sT E E E E x) (yFR (A:=t) (j:=(Int.toNat 0*3)) iN E) (oY (sT E E E E x) (yR (A:=t) (j:=((Int.toNat 0*3)+2)) (v:=vI ((rdL u.1 0).fToll)) aK (RdL.row 9 E) E (eG aq u8.1 (ah u8.2 (NestP.hn oa E)) (congrArg (fun z:TJ=>some (Value.int .i64 z.fToll)) (NestP.snd oa 0)))) (oY (sT E E E E x) (cZ E E) (oY E (ad (vB x) E) ?_)))
                obtain rfl:=sI h
                exact key _ _ (kp4 (kp4 E))
               ·refine oSk (sF E E E E x) (oSk (sF E E E E x) (oSk (sF E E E E x) (oSk (sF E E E E x) (oSk (sF E E E E x) (oY E (ag (vB x) E) ?_)))))
                obtain rfl:=sI h
                exact key _ _ (kp4 (kp4 E))
             ·clear h;rcases iOs wE with⟨U,h⟩|⟨U,h⟩
              ·refine oY (sT E E E E U) (yFA dw E) (oY (sT E E E E U) (yL 8 km E E E) ?_)
               obtain⟨q,h⟩:=gOs h
               refine oY (sT E E E E U) (yI iu (by decide) q.1 q.2 (RdL.row 6 E) (eL ao (NestP.hn I E)) E E) ?_
               refine oY (sT E E E E U) (yR (A:=uQ) (j:=(Int.toNat 2*1)) (v:=.slice ((rdL H 2).1.1) ((rdL Q.1.fH 2).length) ((rdL H 2).1.2.2)) gM (RdL.row 6 E) E (ay ao q.1 (ah q.2 (NestP.hn I E)) (congrArg (fun n:Nat=>some (Value.slice (rdL H 2).1.1 n (rdL H 2).1.2.2)) (NestP.len I q.1 (ah q.2 E))))) ?_
               obtain⟨u9,h⟩:=gOs h
               refine oY (sT E E E E U) (yI bS (by decide) u9.1 u9.2 (NestL.rd (PvL.nestL I u3 (fun W2 f=>⟨f.below,trivial,f.mem (i:=7) E⟩)) q.1 (ah q.2 E)) (eL aB E) E E) ?_
               refine oY (sT E E E E U) (yR (A:=((rdL H 2).1.1)) (j:=(Int.toNat 6*1)) (v:=vI (rdL (rdL Q.1.fH 2) 6)) aK (NestL.rd (PvL.nestL I u3 (fun W2 f=>⟨f.below,trivial,f.mem (i:=7) E⟩)) q.1 (ah q.2 E)) E (ay aB u9.1 (ah u9.2 E) E)) (oY (sT E E E E U) (cZ E E) (oY E (ad (vB U) E) ?_))
               obtain rfl:=sI h
               exact key _ _ (kp4 (kp4 E))
              ·refine oSk (sF E E E E U) (oSk (sF E E E E U) (oSk (sF E E E E U) (oSk (sF E E E E U) (oSk (sF E E E E U) (oSk (sF E E E E U) (oSk (sF E E E E U) (oY E (ag (vB U) E) ?_)))))))
               obtain rfl:=sI h
               exact key _ _ (kp4 (kp4 E))
            ·clear h;rcases iOs wD with⟨X,h⟩|⟨X,h⟩
             ·refine oY (sT E E E E X) (yFA dw E) (oY (sT E E E E X) (yL 8 km E E E) ?_)
              obtain⟨p,h⟩:=gOs h
              refine oY (sT E E E E X) (yI iu (by decide) p.1 p.2 (RdL.row 6 E) (eL ao (NestP.hn I E)) E E) ?_
              refine oY (sT E E E E X) (yR (A:=uQ) (j:=(Int.toNat 2*1)) (v:=.slice ((rdL H 2).1.1) ((rdL Q.1.fH 2).length) ((rdL H 2).1.2.2)) gM (RdL.row 6 E) E (ay ao p.1 (ah p.2 (NestP.hn I E)) (congrArg (fun n:Nat=>some (Value.slice (rdL H 2).1.1 n (rdL H 2).1.2.2)) (NestP.len I p.1 (ah p.2 E))))) ?_
              obtain⟨uf,h⟩:=gOs h
              refine oY (sT E E E E X) (yI bS (by decide) uf.1 uf.2 (NestL.rd (PvL.nestL I u3 (fun W2 f=>⟨f.below,trivial,f.mem (i:=7) E⟩)) p.1 (ah p.2 E)) (eL aB E) E E) ?_
              refine oY (sT E E E E X) (yR (A:=((rdL H 2).1.1)) (j:=(Int.toNat 2*1)) (v:=vI (rdL (rdL Q.1.fH 2) 2)) aK (NestL.rd (PvL.nestL I u3 (fun W2 f=>⟨f.below,trivial,f.mem (i:=7) E⟩)) p.1 (ah p.2 E)) E (ay aB uf.1 (ah uf.2 E) E)) (oY (sT E E E E X) (cZ E E) (oY E (ad (vB X) E) ?_))
              obtain rfl:=sI h
              exact key _ _ (kp4 (kp4 (kp E)))
             ·refine oSk (sF E E E E X) (oSk (sF E E E E X) (oSk (sF E E E E X) (oSk (sF E E E E X) (oSk (sF E E E E X) (oSk (sF E E E E X) (oSk (sF E E E E X) (oY E (ag (vB X) E) ?_)))))))
              obtain rfl:=sI h
              exact key _ _ (kp4 (kp4 (kp E)))
          ·rcases ar uz with o1|o1
           ·refine oSk (sF E E E E o1) (oSk (sF E E E E o1) (oSk (sF E E E E o1) (oY E (ad (vB o1) E) ?_)))
            exact key _ _ (keep (keep (keep (keep (keep (keep (keep (keep (keep E E) E) E) E) E) E) E) E) (vB (iQ o1)))
           ·refine oY (sT E E E E o1) (yMS E) (oY (sT E E E E o1) (bi (us:=[]) kg E) (oY (sT E E E E o1) (cJ E E) (oY E (ag (vB o1) E) ?_)))
            exact key _ _ (keep (keep (keep (keep (keep (keep (keep (keep (keep E E) E) E) E) E) E) E) E) (vB (iR o1)))
         ·clear h;rcases iOs ww with⟨S,h⟩|⟨S,h⟩
          ·refine oSk (sF E E E E S) (oSk (sF E E E E S) (oSk (sF E E E E S) (oSk (sF E E E E S) (oSk (sF E E E E S) (oSk (sF E E E E S) (oY E (ad (vB S) E) ?_))))))
           obtain rfl:=sI h
           exact key _ _ (kp4 (kp4 (kp E)))
          ·refine oY (sT E E E E S) (yFA dw E) (oY (sT E E E E S) (yL 8 km E E E) ?_)
           obtain⟨r4,h⟩:=gOs h
           refine oY (sT E E E E S) (yI iu (by decide) r4.1 r4.2 (RdL.row 6 E) (eL ao (NestP.hn I E)) E E) ?_
           refine oY (sT E E E E S) (yR (A:=uQ) (j:=(Int.toNat 2*1)) (v:=.slice ((rdL H 2).1.1) ((rdL Q.1.fH 2).length) ((rdL H 2).1.2.2)) gM (RdL.row 6 E) E (ay ao r4.1 (ah r4.2 (NestP.hn I E)) (congrArg (fun n:Nat=>some (Value.slice (rdL H 2).1.1 n (rdL H 2).1.2.2)) (NestP.len I r4.1 (ah r4.2 E))))) (oY (sT E E E E S) (bi (us:=[]) cQ E) (oY (sT E E E E S) (cJ E E) (oY E (ag (vB S) E) ?_)))
           obtain rfl:=sI h
           exact key _ _ (kp4 (kp4 (kp E)))
        ·rcases ar ((((((((O.2 !=0)||(Q.2 !=0))||(u.2 !=0))||(R.2 !=0))||(F.2 !=0))||(d.2 !=0))||(w.2 !=0))||(O.1 !=21))with y|y
         ·refine oSk (sF E E E E y) (oSk (sF E E E E y) (oSk (sF E E E E y) (oSk (sF E E E E y) (oY E (ad (vB y) E) ?_))))
          exact key _ _ (keep (keep (keep (keep (keep (keep (keep (keep (keep E E) E) E) E) E) E) E) E) (vB (iQ y)))
         ·refine oY (sT E E E E y) (yFA dw E) (oY (sT E E E E y) (yL 8 km E E E) (oY (sT E E E E y) (bi (us:=[]) rk E) (oY (sT E E E E y) (cJ E E) (oY E (ag (vB y) E) ?_))))
          exact key _ _ (keep (keep (keep (keep (keep (keep (keep (keep (keep E E) E) E) E) E) E) E) E) (vB (iR y)))
       ·rcases ar (((((((O.2 !=0)||(Q.2 !=0))||(u.2 !=0))||(R.2 !=0))||(F.2 !=0))||(d.2 !=0))||(w.2 !=0))with oi|oi
        ·refine oSk (sF E E E E oi) (oSk (sF E E E E oi) (oY E (ad (vB oi) E) ?_))
         exact key _ _ (keep (keep (keep (keep (keep (keep (keep (keep (keep E E) E) E) E) E) E) E) E) (vB (iQ oi)))
        ·refine oY (sT E E E E oi) (yMI E) (oY (sT E E E E oi) (cJ E E) (oY E (ag (vB oi) E) ?_))
         exact key _ _ (keep (keep (keep (keep (keep (keep (keep (keep (keep E E) E) E) E) E) E) E) E) (vB (iR oi)))
      ·rcases ar ((((((O.2 !=0)||(Q.2 !=0))||(u.2 !=0))||(R.2 !=0))||(F.2 !=0))||(d.2 !=0))with oj|oj
       ·refine oSk (sF E E E E oj) (oSk (sF E E E E oj) (oY E (ad (vB oj) E) ?_))
        exact key _ _ (keep (keep (keep (keep (keep (keep (keep (keep (keep (keep E E) E) E) E) E) E) E) E) E) (vB (iQ oj)))
       ·refine oY (sT E E E E oj) (yMI E) (oY (sT E E E E oj) (cJ E E) (oY E (ag (vB oj) E) ?_))
        exact key _ _ (keep (keep (keep (keep (keep (keep (keep (keep (keep (keep E E) E) E) E) E) E) E) E) E) (vB (iR oj)))
     ·rcases ar (((((O.2 !=0)||(Q.2 !=0))||(u.2 !=0))||(R.2 !=0))||(F.2 !=0))with ok|ok
      ·refine oSk (sF E E E E ok) (oSk (sF E E E E ok) (oY E (ad (vB ok) E) ?_))
       exact key _ _ (keep (keep (keep (keep (keep (keep (keep (keep (keep (keep (keep E E) E) E) E) E) E) E) E) E) E) (vB (iQ ok)))
      ·refine oY (sT E E E E ok) (yMI E) (oY (sT E E E E ok) (cJ E E) (oY E (ag (vB ok) E) ?_))
       exact key _ _ (keep (keep (keep (keep (keep (keep (keep (keep (keep (keep (keep E E) E) E) E) E) E) E) E) E) E) (vB (iR ok)))
    ·rcases ar ((((O.2 !=0)||(Q.2 !=0))||(u.2 !=0))||(R.2 !=0))with r0|r0
     ·refine oSk (sF E E E E r0) (oSk (sF E E E E r0) (oY E (ad (vB r0) E) ?_))
      exact key _ _ (keep (keep (keep (keep (keep (keep (keep (keep (keep (keep (keep (keep E E) E) E) E) E) E) E) E) E) E) E) (vB (iQ r0)))
     ·refine oY (sT E E E E r0) (yMI E) (oY (sT E E E E r0) (cJ E E) (oY E (ag (vB r0) E) ?_))
      exact key _ _ (keep (keep (keep (keep (keep (keep (keep (keep (keep (keep (keep (keep E E) E) E) E) E) E) E) E) E) E) E) (vB (iR r0)))
   ·rcases ar (((O.2 !=0)||(Q.2 !=0))||(u.2 !=0))with r1|r1
    ·refine oSk (sF E E E E r1) (oSk (sF E E E E r1) (oY E (ad (vB r1) E) ?_))
     exact key _ _ (keep (keep (keep (keep (keep (keep (keep (keep (keep (keep (keep (keep (keep E E) E) E) E) E) E) E) E) E) E) E) E) (vB (iQ r1)))
    ·refine oY (sT E E E E r1) (yMI E) (oY (sT E E E E r1) (cJ E E) (oY E (ag (vB r1) E) ?_))
     exact key _ _ (keep (keep (keep (keep (keep (keep (keep (keep (keep (keep (keep (keep (keep E E) E) E) E) E) E) E) E) E) E) E) E) (vB (iR r1)))
  ·rcases ar ((O.2 !=0)||(Q.2 !=0))with r2|r2
   ·refine oSk (sF E E E E r2) (oSk (sF E E E E r2) (oY E (ad (vB r2) E) ?_))
    exact key _ _ (keep (keep (keep (keep (keep (keep (keep (keep (keep (keep (keep (keep (keep (keep E E) E) E) E) E) E) E) E) E) E) E) E) E) (vB (iQ r2)))
   ·refine oY (sT E E E E r2) (yMI E) (oY (sT E E E E r2) (cJ E E) (oY E (ag (vB r2) E) ?_))
    exact key _ _ (keep (keep (keep (keep (keep (keep (keep (keep (keep (keep (keep (keep (keep (keep E E) E) E) E) E) E) E) E) E) E) E) E) E) (vB (iR r2)))
 ·rcases ar (O.2 !=0)with r3|r3
  ·refine oSk (sF E E E E r3) (oSk (sF E E E E r3) (oY E (ad (vB r3) E) ?_))
   exact key _ _ (keep (keep (keep (keep (keep (keep (keep (keep (keep (keep (keep (keep (keep (keep (keep E E) E) E) E) E) E) E) E) E) E) E) E) E) E) (vB (iQ r3)))
  ·refine oY (sT E E E E r3) (yMI E) (oY (sT E E E E r3) (cJ E E) (oY E (ag (vB r3) E) ?_))
   exact key _ _ (keep (keep (keep (keep (keep (keep (keep (keep (keep (keep (keep (keep (keep (keep (keep E E) E) E) E) E) E) E) E) E) E) E) E) E) E) (vB (iR r3)))
end Go.Proofs.YthndghnkebboaaaGreat
set_option maxHeartbeats 4000000
set_option maxRecDepth 100000
namespace Go.Proofs.YthndghnkebboaaaGreat
open Go.RowKit (Below)
attribute [local irreducible] OX QX CX EX OpY Calls CallsIn
theorem n5 (p0:TR) (res:Bool) (h:fw p0=some res) (W:World) (Ab:Option Addr) (F cb:Nat) (r:List (Hd × TT)) (I:F=p0.fTracks.length) (G:Rd W Ab F cb (encL TTrack_cells2 r)) (w:NestW W (fun z:TT=>z.fK) TSpan_cells r p0.fTracks) :
  Calls Tryz.prog 16 [.agg #[vI p0.fPlaces,.slice Ab F cb]].toArray W fun e W2=>e=.returned (.bool res)∧Ext W W2 []:=by
 subst I
 unfold fw at h
 refine aj (m:=49) Tryz.func16 E E (nB E) (cS (cR ?_))
 refine aN [vI p0.fPlaces,.slice Ab p0.fTracks.length cb] E E E (fun Y=>?_)
 refine oY E (yAB E) (oN (eT (cS (cS (cR (oY E (yAI E) (oN (eT (cB ?_)))))))))
 obtain⟨V,Z,h⟩:=bOs h
 refine a8 (fun(s:(Bool × Int)) L tm=>∃(u:Nat→Value),L=[ak Y 24 [vI p0.fPlaces,.slice Ab p0.fTracks.length cb]]∧tm=(upd (upd (upd u 1 (.pointer (some ⟨Y,0,none⟩))) 2 (.bool s.1)) 3 (vI s.2))) 0 Z ⟨_,E,(kp (kp (kp E)))⟩ ?_ ?_
 ·rintro K L tm st ⟨U,rfl,rfl⟩ h
  unfold f6 at h
  refine cS (cS (cR (oY E (yMI E) (oY E (yFA bU E) (oY E (yL 0 gv E E E) (oY E (bi (us:=[]) i6 E) (oY E (be E E) (oN (eT ?_)))))))))
  rcases iOs h with⟨M,h⟩|⟨M,h⟩
  ·refine cT (vB M) (cK (eT (cS (cB (cS (cR (oY E (yFA bU E) (oY E (yL 0 gv E E E) (oY E (yMI E) ?_)))))))))
   obtain⟨D,h⟩:=gOs h
   refine oY E (yI jE (by decide) D.1 D.2 (RdL.arg G) (eL au (NestP.hn w.p E)) E E) ?_
   refine oY E (yFR (A:=Ab) (j:=(Int.toNat K.2*6)) f4 E) (oY E (yR (A:=Ab) (j:=((Int.toNat K.2*6)+5)) (v:=.slice ((rdL r K.2).1.1) ((rdL p0.fTracks K.2).fK.length) ((rdL r K.2).1.2.2)) kM (RdL.arg G) E (eG au D.1 (ah D.2 (NestP.hn w.p E)) (congrArg (fun n:Nat=>some (Value.slice (rdL r K.2).1.1 n (rdL r K.2).1.2.2)) (NestP.len w.p D.1 (ah D.2 E))))) (oY E (bi (us:=[]) mY E) (oY E (eu E E) (oN (eT ?_)))))
   rcases iOs h with⟨N,h⟩|⟨N,h⟩
   ·refine cT (vB N) (cS (cR (oY E (yAB E) (oN (eT (ap (ae (ab ?_))))))))
    obtain rfl:=sI h
    exact av ⟨E,_,E,(kp (kp (kp E)))⟩
   ·refine cF (vB N) (cK (aw (eT (cR (oY E (yMI E) (oY E (aL E E) (oY E (yAI E) (oN ?_))))))))
    obtain rfl:=sI h
    exact eN ⟨_,E,(kp (kp (kp E)))⟩
  ·refine cF (vB M) (aD (ai ?_))
   obtain rfl:=sI h
   exact av ⟨E,_,E,(kp (kp (kp E)))⟩
 ·intro e L tm hJ
  rcases V with T|H
  ·dsimp only at h hJ
   obtain⟨rfl,X,rfl,rfl⟩:=hJ
   refine⟨(by intro hc;cases hc),?_⟩
   refine ae (ab ?_)
   obtain rfl:=sI h
   exact am (.inl E) E (rVt (v:=.bool T.1) E) (fun W2 O=>⟨E,O.none⟩)
  ·dsimp only at h hJ
   obtain⟨rfl,Q,rfl,rfl⟩:=hJ
   refine⟨(by intro hc;cases hc),?_⟩
   refine ac (eT (cS (cR (oY E (yFA dW E) (oY E (yL 0 aK E E E) (oY E (gV E E) (oY E (yMB E) ?_)))))))
   refine oJ 4 (fun u=>(upd (upd (upd u 1 (.pointer (some ⟨Y,0,none⟩))) 2 (.bool H.1)) 28 (.bool ((decide (p0.fPlaces≤8))||(decide (16<p0.fPlaces)))))) (fun u=>?_) (fun key=>?_)
   ·refine oY E (yAB E) (oN (eT (cS (cR (oY E (yFA bU E) (oY E (yL 0 gv E E E) (oY E (bi (us:=[]) i6 E) (oY E (gV E E) (oY E (yMB E) ?_)))))))))
    refine oJ 11 (fun u=>(upd (upd (upd u 2 (.bool H.1)) 4 (.bool ((decide (p0.fPlaces≤8))||(decide (16<p0.fPlaces))))) 44 (.bool ((decide ((p0.fTracks.length:Int)≤16))||((decide (48<(p0.fTracks.length:Int)))&&(decide ((p0.fTracks.length:Int)≤60))))))) (fun u=>?_) (fun key=>?_)
    ·refine oY E (yAB E) (oN (eT (cS (cR (oY E (yMB E) (oY E (yMB E) ?_))))))
     refine oJ 2 (fun u=>(upd (upd u 2 (.bool H.1)) 48 (.bool (((decide (p0.fPlaces≤8))||(decide (16<p0.fPlaces)))&&((decide ((p0.fTracks.length:Int)≤16))||((decide (48<(p0.fTracks.length:Int)))&&(decide ((p0.fTracks.length:Int)≤60)))))))) (fun u=>?_) (fun key=>?_)
     ·refine oY E (yAB E) (oN (eT (ap ?_)))
      obtain rfl:=sI h
      exact am (.inl E) E (rVt (v:=.bool (((decide (p0.fPlaces≤8))||(decide (16<p0.fPlaces)))&&((decide ((p0.fTracks.length:Int)≤16))||((decide (48<(p0.fTracks.length:Int)))&&(decide ((p0.fTracks.length:Int)≤60)))))) E) (fun W2 O=>⟨E,O.none⟩)
     ·rcases ar ((decide (p0.fPlaces≤8))||(decide (16<p0.fPlaces)))with d|d
      ·refine oY (sT E E E E d) (yMB E) (oY E (ad (vB d) E) ?_)
       exact key _ _ (keep (keep E E) (vB (fF d)))
      ·refine oSk (sF E E E E d) (oY E (ag (vB d) E) ?_)
       exact key _ _ (keep (keep E E) (vB (fy d)))
    ·rcases ar (decide ((p0.fTracks.length:Int)≤16))with f|f
     ·refine oSk (sF E E E E f) (oSk (sF E E E E f) (oSk (sF E E E E f) (oSk (sF E E E E f) (oSk (sF E E E E f) (oSk E (oSk E (oSk E (oSk E (oSk (sF E E E E f) (oY E (ad (vB f) E) ?_))))))))))
      exact key _ _ (keep (keep (keep E E) E) (vB (iQ f)))
     ·refine oY (sT E E E E f) (yFA bU E) (oY (sT E E E E f) (yL 0 gv E E E) (oY (sT E E E E f) (bi (us:=[]) i6 E) (oY (sT E E E E f) (eu E E) (oY (sT E E E E f) (yMB E) ?_))))
      refine oJ 5 (fun u=>(upd (upd (upd (upd u 2 (.bool H.1)) 4 (.bool ((decide (p0.fPlaces≤8))||(decide (16<p0.fPlaces))))) 33 (.bool (decide ((p0.fTracks.length:Int)≤16)))) 43 (.bool ((decide (48<(p0.fTracks.length:Int)))&&(decide ((p0.fTracks.length:Int)≤60)))))) (fun u=>?_) (fun key=>?_)
      ·refine oY E (ag (vB f) E) ?_
       exact key _ _ (keep (keep (keep E E) E) (vB (iR f)))
      ·rcases ar (decide (48<(p0.fTracks.length:Int)))with g|g
       ·refine oY (sT E E E E g) (yFA bU E) (oY (sT E E E E g) (yL 0 gv E E E) (oY (sT E E E E g) (bi (us:=[]) i6 E) (oY (sT E E E E g) (gV E E) (oY (sT E E E E f) (ad (vB g) E) ?_))))
        exact key _ _ (keep (keep (keep (keep E E) E) E) (vB (fF g)))
       ·refine oSk (sF E E E E g) (oSk (sF E E E E g) (oSk (sF E E E E g) (oSk (sF E E E E g) (oY (sT E E E E f) (ag (vB g) E) ?_))))
        exact key _ _ (keep (keep (keep (keep E E) E) E) (vB (fy g)))
   ·rcases ar (decide (p0.fPlaces≤8))with o|o
    ·refine oSk (sF E E E E o) (oSk (sF E E E E o) (oSk (sF E E E E o) (oY E (ad (vB o) E) ?_)))
     exact key _ _ (keep (keep (keep E E) E) (vB (iQ o)))
    ·refine oY (sT E E E E o) (yFA dW E) (oY (sT E E E E o) (yL 0 aK E E E) (oY (sT E E E E o) (eu E E) (oY E (ag (vB o) E) ?_)))
     exact key _ _ (keep (keep (keep E E) E) (vB (iR o)))
end Go.Proofs.YthndghnkebboaaaGreat
set_option maxHeartbeats 4000000
set_option maxRecDepth 100000
namespace Go.Proofs.YthndghnkebboaaaGreat
open Go.RowKit (Below)
attribute [local irreducible] OX QX CX EX OpY Calls CallsIn
theorem mJ (p0:TJ) (res:Bool) (h:dV p0=some res) (W:World) (Aa:Option Addr) (f ca:Nat) (g:f=p0.fLegs.length) (o:Rd W Aa f ca (encL TLeg_cells p0.fLegs)) :
  Calls Tryz.prog 47 [.agg #[.slice Aa f ca,vI p0.fA,vI p0.fToll]].toArray W fun e W2=>e=.returned (.bool res)∧Ext W W2 []:=by
 subst g
 unfold dV at h
 refine aj (m:=7) Tryz.func47 E E (nB E) (cS (cR ?_))
 refine aN [.slice Aa p0.fLegs.length ca,vI p0.fA,vI p0.fToll] E E E (fun u=>?_)
 refine oY E (yAB E) (oN (eT (cS (cR (oY E (yFA lc E) (oY E (yL 0 sC E E E) (oY E (bi (us:=[]) us_27 E) (oY E (gV E E) (oY E (yAB E) (oN (eT (ap ?_))))))))))))
 obtain rfl:=sI h
 exact am (.inl E) E (rVt (v:=.bool (decide ((p0.fLegs.length:Int)≤40))) E) (fun W2 r=>⟨E,r.none⟩)
theorem nu (p0:TTimes) (res:Bool) (h:eD p0=some res) (W:World) (Aa:Option Addr) (r ca:Nat) (f:List (Hd × (List Int))) (d:r=p0.fH.length) (u:Rd W Aa r ca (encL SlInt_cells2 f)) (g:NestW W (fun z:(List Int)=>z) cI f p0.fH) :
  Calls Tryz.prog 48 [.agg #[.slice Aa r ca]].toArray W fun e W2=>e=.returned (.bool res)∧Ext W W2 []:=by
 subst d
 unfold eD at h
 refine aj (m:=22) Tryz.func48 E E (nB E) (cS (cR ?_))
 refine aN [.slice Aa p0.fH.length ca] E E E (fun O=>?_)
 refine oY E (yAB E) (oN (eT (cS (cS (cR (oY E (yAI E) (oN (eT (cB ?_)))))))))
 obtain⟨Q,M,h⟩:=bOs h
 refine a8 (fun(s:(Bool × Int)) L tm=>∃(N:Nat→Value),L=[ak O 87 [.slice Aa p0.fH.length ca]]∧tm=(upd (upd (upd N 1 (.pointer (some ⟨O,0,none⟩))) 2 (.bool s.1)) 3 (vI s.2))) 0 M ⟨_,E,(kp (kp (kp E)))⟩ ?_ ?_
 ·rintro G L tm st ⟨I,rfl,rfl⟩ h
  unfold fu at h
  refine cS (cS (cR (oY E (yMI E) (oY E (yFA dw E) (oY E (yL 0 km E E E) (oY E (bi (us:=[]) rk E) (oY E (be E E) (oN (eT ?_)))))))))
  rcases iOs h with⟨w,h⟩|⟨w,h⟩
  ·refine cT (vB w) (cK (eT (cS (cB (cS (cR (oY E (yFA dw E) (oY E (yL 0 km E E E) (oY E (yMI E) ?_)))))))))
   obtain⟨o,h⟩:=gOs h
   refine oY E (yI iu (by decide) o.1 o.2 (RdL.arg u) (eL ao (NestP.hn g.p E)) E E) ?_
   refine oY E (yR (A:=Aa) (j:=(Int.toNat G.2*1)) (v:=.slice ((rdL f G.2).1.1) ((rdL p0.fH G.2).length) ((rdL f G.2).1.2.2)) gM (RdL.arg u) E (ay ao o.1 (ah o.2 (NestP.hn g.p E)) (congrArg (fun n:Nat=>some (Value.slice (rdL f G.2).1.1 n (rdL f G.2).1.2.2)) (NestP.len g.p o.1 (ah o.2 E))))) (oY E (bi (us:=[]) cQ E) (oY E (eu E E) (oN (eT ?_))))
   rcases iOs h with⟨D,h⟩|⟨D,h⟩
   ·refine cT (vB D) (cS (cR (oY E (yAB E) (oN (eT (ap (ae (ab ?_))))))))
    obtain rfl:=sI h
    exact av ⟨E,_,E,(kp (kp (kp E)))⟩
   ·refine cF (vB D) (cK (aw (eT (cR (oY E (yMI E) (oY E (aL E E) (oY E (yAI E) (oN ?_))))))))
    obtain rfl:=sI h
    exact eN ⟨_,E,(kp (kp (kp E)))⟩
  ·refine cF (vB w) (aD (ai ?_))
   obtain rfl:=sI h
   exact av ⟨E,_,E,(kp (kp (kp E)))⟩
 ·intro e L tm hJ
  rcases Q with U|X
  ·dsimp only at h hJ
   obtain⟨rfl,K,rfl,rfl⟩:=hJ
   refine⟨(by intro hc;cases hc),?_⟩
   refine ae (ab ?_)
   obtain rfl:=sI h
   exact am (.inl E) E (rVt (v:=.bool U.1) E) (fun W2 F=>⟨E,F.none⟩)
  ·dsimp only at h hJ
   obtain⟨rfl,H,rfl,rfl⟩:=hJ
   refine⟨(by intro hc;cases hc),?_⟩
   refine ac (eT (cS (cR (oY E (yFA dw E) (oY E (yL 0 km E E E) (oY E (bi (us:=[]) rk E) (oY E (gV E E) (oY E (yAB E) (oN (eT (ap ?_)))))))))))
   obtain rfl:=sI h
   exact am (.inl E) E (rVt (v:=.bool (decide ((p0.fH.length:Int)≤20))) E) (fun W2 F=>⟨E,F.none⟩)
theorem gP (p0:(List (List Int))) (p1:(List Int)→Option Bool) (res:Int) (h:bx p0 p1=some res) (W:World) (Aa:Option Addr) (d ca:Nat) (f:List (Hd × (List Int))) (D:d=p0.length) (w:Rd W Aa d ca (encL SlInt_cells2 f)) (g:NestW W (fun z:(List Int)=>z) cI f p0) (fid1:Nat) (fst1 caps1:List Value) (H:bA Tryz.prog fid1=true) (I:∀W2,Below W.heap.size W W2→∀x,∀(hx:Hd),Rd W2 hx.1 x.length hx.2.2 (encL cI x)→∀y,p1 x=some y→Calls Tryz.prog fid1 (fst1++(([.slice hx.1 x.length hx.2.2]:List Value)++caps1)).toArray W2 fun e W3=>e=.returned (.bool y)∧Ext W2 W3 []) :
  Calls Tryz.prog 180 [.slice Aa d ca,.func (.func fid1) fst1.toArray caps1.toArray].toArray W fun e W2=>e=.returned (vI res)∧Ext W W2 []:=by
 subst D
 unfold bx at h
 refine aj (m:=19) Tryz.func180 E E (nB E) (cS (cR (oY E (yAI E) (oN (eT (cS (cS (cR (oY E (yMS E) (oY E (bi (us:=[]) rk E) (oY E (yMI E) (oN (eT (cB ?_))))))))))))))
 obtain⟨Y,O,h⟩:=bOs h
 refine a8 (fun(s:(Int × Int)) L tm=>∃(Q:Nat→Value),L=[]∧tm=(upd (upd (upd (upd (upd Q 0 (.slice Aa p0.length ca)) 1 (.func (.func fid1) fst1.toArray caps1.toArray)) 4 (vI s.1)) 7 (vI (p0.length:Int))) 8 (vI s.2))) 0 O ⟨_,E,(kp4 (kp E))⟩ ?_ ?_
 ·rintro u L tm st ⟨N,rfl,rfl⟩ h
  unfold bg at h
  refine cS (cR (oY E (be E E) (oN (eT (cS ?_)))))
  rcases iOs h with⟨F,h⟩|⟨F,h⟩
  ·refine cT (vB F) (cK (eT (cS (cB (cS (cR (oY E (yMI E) (oY E (yAI E) (oN (eT (cS (cR (oY E (bK (v:=.func (.func fid1) fst1.toArray caps1.toArray) E) (oY E (yMS E) (oY E (yMI E) ?_)))))))))))))))
   obtain⟨o,h⟩:=gOs h
   refine oY E (yI iu (by decide) o.1 o.2 (RdL.arg w) (eL ao (NestP.hn g.p E)) E E) ?_
   refine oY E (yR (A:=Aa) (j:=(Int.toNat u.2*1)) (v:=.slice ((rdL f u.2).1.1) ((rdL p0 u.2).length) ((rdL f u.2).1.2.2)) gM (RdL.arg w) E (ay ao o.1 (ah o.2 (NestP.hn g.p E)) (congrArg (fun n:Nat=>some (Value.slice (rdL f u.2).1.1 n (rdL f u.2).1.2.2)) (NestP.len g.p o.1 (ah o.2 E))))) ?_
   obtain⟨Z,U,h⟩:=bOs h
   refine oY E (gx [.slice ((rdL f u.2).1.1) ((rdL p0 u.2).length) ((rdL f u.2).1.2.2)] H E E (fun W2 r=>I W2 r.below (rdL p0 u.2) ((rdL f u.2).1.1,0,(rdL f u.2).1.2.2) ((NestL.rd (NestL.arg g) o.1 (ah o.2 E)) W2 r) Z U)) (oN (eT ?_))
   rcases iOs h with⟨G,h⟩|⟨G,h⟩
   ·refine cT (vB G) (cS (cR (oY E (yMI E) (oY E (yAI E) (oN (eT (ap (ae (ab ?_)))))))))
    obtain rfl:=sI h
    exact av ⟨E,_,E,(kp4 (kp E))⟩
   ·refine cF (vB G) (cK (aw (eT (cR (oY E (aL E E) (oY E (yMI E) (oN ?_)))))))
    obtain rfl:=sI h
    exact eN ⟨_,E,(kp4 (kp E))⟩
  ·refine cF (vB F) (aD (ai ?_))
   obtain rfl:=sI h
   exact av ⟨E,_,E,(kp4 (kp E))⟩
 ·intro e L tm hJ
  rcases Y with X|V
  ·dsimp only at h hJ
   obtain⟨rfl,K,rfl,rfl⟩:=hJ
   refine⟨(by intro hc;cases hc),?_⟩
   refine ae (ab ?_)
   obtain rfl:=sI h
   exact am (.inl E) E (rVt (v:=vI X.1) E) (fun W2 r=>⟨E,r.none⟩)
  ·dsimp only at h hJ
   obtain⟨rfl,M,rfl,rfl⟩:=hJ
   refine⟨(by intro hc;cases hc),?_⟩
   refine ac (eT (cS (cR (oY E (yAI E) (oN (eT (ap ?_)))))))
   obtain rfl:=sI h
   exact am (.inl E) E (rVt (v:=vI (-1)) E) (fun W2 r=>⟨E,r.none⟩)
theorem lR (p0:(List (List Int))) (p1:(List Int)→Option Bool) (res:Int) (h:fv p0 p1=some res) (W:World) (Aa:Option Addr) (g ca:Nat) (f:List (Hd × (List Int))) (r:g=p0.length) (u:Rd W Aa g ca (encL SlInt_cells2 f)) (d:NestW W (fun z:(List Int)=>z) cI f p0) (fid1:Nat) (fst1 caps1:List Value) (w:bA Tryz.prog fid1=true) (D:∀W2,Below W.heap.size W W2→∀x,∀(hx:Hd),Rd W2 hx.1 x.length hx.2.2 (encL cI x)→∀y,p1 x=some y→Calls Tryz.prog fid1 (fst1++(([.slice hx.1 x.length hx.2.2]:List Value)++caps1)).toArray W2 fun e W3=>e=.returned (.bool y)∧Ext W2 W3 []) :
  Calls Tryz.prog 151 [.slice Aa g ca,.func (.func fid1) fst1.toArray caps1.toArray].toArray W fun e W2=>e=.returned (vI res)∧Ext W W2 []:=by
 subst r
 unfold fv at h
 refine aj (m:=8) Tryz.func151 E E (nB E) (cS (cR (oY E (yAI E) (oN (eT (cS (cR (oY E (yMS E) (oY E (bK (v:=.func (.func fid1) fst1.toArray caps1.toArray) E) ?_)))))))))
 obtain⟨G,F,h⟩:=bOs h
 refine oY E (yC [.slice Aa p0.length ca,.func (.func fid1) fst1.toArray caps1.toArray] go_180 E (fun W2 o=>gP p0 p1 G F W2 Aa p0.length ca f E ((RdL.arg u) W2 o) (NestL.at (NestL.arg d) W2 o) fid1 fst1 caps1 w (fun W3 hb=>D W3 (fY o.below hb))) E) (oY E (yAI E) (oN (eT (ap ?_))))
 obtain rfl:=sI h
 exact am (.inl E) E (rVt (v:=vI G) E) (fun W2 o=>⟨E,o.none⟩)
theorem pG (p0:(List Int)) (res:Bool) (h:iw p0=some res) (W:World) (Aa:Option Addr) (d ca:Nat) (G:d=p0.length) (w:Rd W Aa d ca (encL cI p0)) :
  Calls Tryz.prog 153 [.slice Aa d ca].toArray W fun e W2=>e=.returned (.bool res)∧Ext W W2 []:=by
 subst G
 unfold iw at h
 refine aj (m:=33) Tryz.func153 E E (nB E) (cS (cR (oY E (yAB E) (oN (eT (cS (cR (oY E (yAI E) (oN (eT (cS (cS (cR (oY E (yMS E) (oY E (bi (us:=[]) cQ E) (oY E (yMI E) (oN (eT (cB ?_)))))))))))))))))))
 obtain⟨Y,K,h⟩:=bOs h
 refine a8 (fun(s:(Bool × Int × Int)) L tm=>∃(u:Nat→Value),L=[]∧tm=(upd (upd (upd (upd (upd (upd u 0 (.slice Aa p0.length ca)) 2 (.bool s.1)) 3 (vI s.2.1)) 6 (.slice Aa p0.length ca)) 7 (vI (p0.length:Int))) 8 (vI s.2.2))) 0 K ⟨_,E,(kp4 (kp (kp E)))⟩ ?_ ?_
 ·rintro o L tm st ⟨Q,rfl,rfl⟩ h
  unfold gy at h
  refine cS (cR (oY E (be E E) (oN (eT (cS ?_)))))
  rcases iOs h with⟨H,h⟩|⟨H,h⟩
  ·refine cT (vB H) (cK (eT (cS (cB (cS (cR ?_))))))
   obtain⟨D,h⟩:=gOs h
   refine oY E (yI bS (by decide) D.1 D.2 (RdL.arg w) (eL aB E) E E) ?_
   refine oY E (yR (A:=Aa) (j:=(Int.toNat o.2.2*1)) (v:=vI (rdL p0 o.2.2)) aK (RdL.arg w) E (ay aB D.1 (ah D.2 E) E)) (oY E (yAI E) (oN (eT (cS (cS (cR (oY E (yMI E) ?_)))))))
   obtain⟨M,U,h⟩:=bOs h
   refine oY E (yC [vI (rdL p0 o.2.2),vI (-1),vI 16384] iF E (fun W2 F=>bk (rdL p0 o.2.2) (-1) 16384 M U W2 ) E) (oY E (bD E) (oY E (yMB E) ?_))
   refine oJ 12 (fun u=>(upd (upd (upd (upd (upd (upd (upd (upd (upd u 0 (.slice Aa p0.length ca)) 2 (.bool o.1)) 3 (vI o.2.1)) 6 (.slice Aa p0.length ca)) 7 (vI (p0.length:Int))) 8 (vI o.2.2)) 9 (.bool (decide (o.2.2<(p0.length:Int))))) 5 (vI (rdL p0 o.2.2))) 27 (.bool ((!M)||((decide (0≤o.2.1))&&((decide ((rdL p0 o.2.2)<0))||(decide (o.2.1<(rdL p0 o.2.2))))))))) (fun u=>?_) (fun key=>?_)
   ·refine oN (eT ?_)
    rcases iOs h with⟨I,h⟩|⟨I,h⟩
    ·refine cT (vB I) (cS (cR (oY E (yAB E) (oN (eT (ap (ab (ae (ab ?_)))))))))
     obtain rfl:=sI h
     exact av ⟨E,_,E,(kp4 (kp (kp E)))⟩
    ·refine cF (vB I) (cK (eT (cR (oY E (yMI E) (oY E (yAI E) (oN (aw (eT (cR (oY E (aL E E) (oY E (yMI E) (oN ?_))))))))))))
     obtain rfl:=sI h
     exact eN ⟨_,E,(kp4 (kp (kp E)))⟩
   ·rcases ar (!M)with r|r
    ·refine oSk (sF E E E E r) (oSk (sF E E E E r) (oSk (sF E E E E r) (oSk E (oSk E (oSk E (oSk E (oSk E (oSk E (oSk E (oSk (sF E E E E r) (oY E (ad (vB r) E) ?_)))))))))))
     exact key _ _ (keep (keep (keep (keep (keep (keep (keep (keep (keep E E) E) E) E) E) E) E) E) (vB (iQ r)))
    ·refine oY (sT E E E E r) (yMI E) (oY (sT E E E E r) (lu E E) (oY (sT E E E E r) (yMB E) ?_))
     refine oJ 8 (fun u=>(upd (upd (upd (upd (upd (upd (upd (upd (upd (upd u 0 (.slice Aa p0.length ca)) 2 (.bool o.1)) 3 (vI o.2.1)) 6 (.slice Aa p0.length ca)) 7 (vI (p0.length:Int))) 8 (vI o.2.2)) 9 (.bool (decide (o.2.2<(p0.length:Int))))) 5 (vI (rdL p0 o.2.2))) 15 (.bool (!M))) 26 (.bool ((decide (0≤o.2.1))&&((decide ((rdL p0 o.2.2)<0))||(decide (o.2.1<(rdL p0 o.2.2)))))))) (fun u=>?_) (fun key=>?_)
     ·refine oY E (ag (vB r) E) ?_
      exact key _ _ (keep (keep (keep (keep (keep (keep (keep (keep (keep E E) E) E) E) E) E) E) E) (vB (iR r)))
     ·rcases ar (decide (0≤o.2.1))with f|f
      ·refine oY (sT E E E E f) (yMI E) (oY (sT E E E E f) (be E E) (oY (sT E E E E f) (yMB E) ?_))
       refine oJ 4 (fun u=>(upd (upd (upd (upd (upd (upd (upd (upd (upd (upd (upd u 0 (.slice Aa p0.length ca)) 2 (.bool o.1)) 3 (vI o.2.1)) 6 (.slice Aa p0.length ca)) 7 (vI (p0.length:Int))) 8 (vI o.2.2)) 9 (.bool (decide (o.2.2<(p0.length:Int))))) 5 (vI (rdL p0 o.2.2))) 15 (.bool (!M))) 18 (.bool (decide (0≤o.2.1)))) 25 (.bool ((decide ((rdL p0 o.2.2)<0))||(decide (o.2.1<(rdL p0 o.2.2))))))) (fun u=>?_) (fun key=>?_)
       ·refine oY (sT E E E E r) (ad (vB f) E) ?_
        exact key _ _ (keep (keep (keep (keep (keep (keep (keep (keep (keep (keep E E) E) E) E) E) E) E) E) E) (vB (fF f)))
       ·rcases ar (decide ((rdL p0 o.2.2)<0))with g|g
        ·refine oSk (sF E E E E g) (oSk (sF E E E E g) (oSk (sF E E E E g) (oY (sT E E E E f) (ad (vB g) E) ?_)))
         exact key _ _ (keep (keep (keep (keep (keep (keep (keep (keep (keep (keep (keep E E) E) E) E) E) E) E) E) E) E) (vB (iQ g)))
        ·refine oY (sT E E E E g) (yMI E) (oY (sT E E E E g) (yMI E) (oY (sT E E E E g) (eu E E) (oY (sT E E E E f) (ag (vB g) E) ?_)))
         exact key _ _ (keep (keep (keep (keep (keep (keep (keep (keep (keep (keep (keep E E) E) E) E) E) E) E) E) E) E) (vB (iR g)))
      ·refine oSk (sF E E E E f) (oSk (sF E E E E f) (oSk (sF E E E E f) (oSk E (oSk E (oSk E (oSk (sF E E E E f) (oY (sT E E E E r) (ag (vB f) E) ?_)))))))
       exact key _ _ (keep (keep (keep (keep (keep (keep (keep (keep (keep (keep E E) E) E) E) E) E) E) E) E) (vB (fy f)))
  ·refine cF (vB H) (aD (ai ?_))
   obtain rfl:=sI h
   exact av ⟨E,_,E,(kp4 (kp (kp E)))⟩
 ·intro e L tm hJ
  rcases Y with X|Z
  ·dsimp only at h hJ
   obtain⟨rfl,N,rfl,rfl⟩:=hJ
   refine⟨(by intro hc;cases hc),?_⟩
   refine ae (ab ?_)
   obtain rfl:=sI h
   exact am (.inl E) E (rVt (v:=.bool X.1) E) (fun W2 F=>⟨E,F.none⟩)
  ·dsimp only at h hJ
   obtain⟨rfl,O,rfl,rfl⟩:=hJ
   refine⟨(by intro hc;cases hc),?_⟩
   refine ac (eT (cS (cR (oY E (yMS E) (oY E (bi (us:=[]) cQ E) (oY E (cZ E E) (oY E (yAB E) (oN (eT (ap ?_))))))))))
   obtain rfl:=sI h
   exact am (.inl E) E (rVt (v:=.bool ((p0.length:Int)==61)) E) (fun W2 F=>⟨E,F.none⟩)
theorem nA (p0:(List Int)) (res:Bool) (h:eJ p0=some res) (W:World) (Aa:Option Addr) (f ca:Nat) (g:f=p0.length) (o:Rd W Aa f ca (encL cI p0)) :
  Calls Tryz.prog 152 [.slice Aa f ca].toArray W fun e W2=>e=.returned (.bool res)∧Ext W W2 []:=by
 subst g
 unfold eJ at h
 refine aj (m:=6) Tryz.func152 E E (nB E) (cS (cR (oY E (yAB E) (oN (eT (cS (cR (oY E (yMS E) ?_))))))))
 obtain⟨d,u,h⟩:=bOs h
 refine oY E (yC [.slice Aa p0.length ca] go_153 E (fun W2 r=>pG p0 d u W2 Aa p0.length ca E ((RdL.arg o) W2 r)) E) (oY E (bD E) (oY E (yAB E) (oN (eT (ap ?_)))))
 obtain rfl:=sI h
 exact am (.inl E) E (rVt (v:=.bool (!d)) E) (fun W2 r=>⟨E,r.none⟩)
theorem nt (p0:Int) (g:Int) (res:Bool) (h:fS p0 g=some res) (W:World) (o:Nat) (r:Rd W (some ⟨o,0,none⟩) 1 1 (cI g)) :
  Calls Tryz.prog 154 [vI p0,.pointer (some ⟨o,0,none⟩)].toArray W fun e W2=>e=.returned (.bool res)∧Ext W W2 []:=by
 unfold fS at h
 refine aj (m:=11) Tryz.func154 E E (nB E) (cS (cR (oY E (yAB E) (oN (eT (cS (cR (oY E (yMI E) (oY E (be E E) (oY E (yMB E) ?_))))))))))
 refine oJ 4 (fun u=>(upd (upd u 3 (.bool false)) 10 (.bool ((decide (p0<0))||(decide (g<p0)))))) (fun u=>?_) (fun key=>?_)
 ·refine oY E (yAB E) (oN (eT (ap ?_)))
  obtain rfl:=sI h
  exact am (.inl E) E (rVt (v:=.bool ((decide (p0<0))||(decide (g<p0)))) E) (fun W2 d=>⟨E,d.none⟩)
 ·rcases ar (decide (p0<0))with f|f
  ·refine oSk (sF E E E E f) (oSk (sF E E E E f) (oSk (sF E E E E f) (oY E (ad (vB f) E) ?_)))
   exact key _ _ (keep (keep E E) (vB (iQ f)))
  ·refine oY (sT E E E E f) (yMI E) (oY (sT E E E E f) (yR (A:=(some ⟨o,0,none⟩)) (j:=0) (v:=vI g) aK (RdL.arg r) E E) (oY (sT E E E E f) (eu E E) (oY E (ag (vB f) E) ?_)))
   exact key _ _ (keep (keep E E) (vB (iR f)))
theorem oR (p0:TR) (p1:Int) (p2:Int) (p3:TTimes) (res:Bool) (h:iq p0 p1 p2 p3=some res) (W:World) (Ab:Option Addr) (T cb:Nat) (u:List (Hd × TT)) (f1:T=p0.fTracks.length) (S:Rd W Ab T cb (encL TTrack_cells2 u)) (O:NestW W (fun z:TT=>z.fK) TSpan_cells u p0.fTracks) (G:Option Addr) (R Q:Nat) (g:List (Hd × (List Int))) (f2:R=p3.fH.length) (K:Rd W G R Q (encL SlInt_cells2 g)) (r:NestW W (fun z:(List Int)=>z) cI g p3.fH) :
  Calls Tryz.prog 112 [.agg #[vI p0.fPlaces,.slice Ab T cb],vI p1,vI p2,.agg #[.slice G R Q]].toArray W fun e W2=>e=.returned (.bool res)∧Ext W W2 []:=by
 subst f1
 subst f2
 unfold iq at h
 refine aj (m:=104) Tryz.func112 E E (nB E) (cS (cR ?_))
 refine aN [vI p0.fPlaces,.slice Ab p0.fTracks.length cb] E E E (fun b1=>?_)
 refine aN [vI p2] E E E (fun b2=>?_)
 refine aN [.slice G p3.fH.length Q] E E E (fun c=>?_)
 refine oY E (yAB E) (oN (eT (cS (cS (cR (oY E (yFA dw E) (oY E (yL 2 km E E E) (oY E (bi (us:=[]) rk E) (oY E (yFA dW E) (oY E (yL 0 aK E E E) (oY E (cJ E E) (oY E (yMB E) ?_))))))))))))
 obtain⟨b5,o0,h⟩:=bOs h
 refine oJ 5 (fun M=>(upd (upd (upd (upd (upd (upd M 1 (vI p1)) 4 (.pointer (some ⟨b1,0,none⟩))) 6 (.pointer (some ⟨b2,0,none⟩))) 7 (.pointer (some ⟨c,0,none⟩))) 8 (.bool false)) 27 (.bool b5))) (fun M=>?_) (fun key=>?_)
 ·refine oN (eT ?_)
  rcases iOs h with⟨fr,h⟩|⟨fr,h⟩
  ·refine cT (vB fr) (cS (cR (oY E (yAB E) (oN (eT (ap (ab ?_)))))))
   obtain rfl:=sI h
   exact am (.inl E) E (rVt (v:=.bool false) E) (fun W2 F=>⟨E,F.none⟩)
  ·refine cF (vB fr) (cK (eT (cS (cS (cR (oY E (yFA dw E) (oY E (yL 2 km E E E) (oY E (yMI E) ?_))))))))
   obtain⟨X,h⟩:=gOs h
   refine oY E (yI iu (by decide) X.1 X.2 (RdL.arg K) (eL ao (NestP.hn r.p E)) E E) ?_
   refine oY E (yR (A:=G) (j:=(Int.toNat p1*1)) (v:=.slice ((rdL g p1).1.1) ((rdL p3.fH p1).length) ((rdL g p1).1.2.2)) gM (RdL.arg K) E (ay ao X.1 (ah X.2 (NestP.hn r.p E)) (congrArg (fun n:Nat=>some (Value.slice (rdL g p1).1.1 n (rdL g p1).1.2.2)) (NestP.len r.p X.1 (ah X.2 E))))) (oY E (bZ [.pointer (some ⟨b2,0,none⟩)] E E) ?_)
   obtain⟨o1,fd,h⟩:=bOs h
   refine oY E (yC [.slice ((rdL g p1).1.1) ((rdL p3.fH p1).length) ((rdL g p1).1.2.2),.func (.func 154) #[] #[.pointer (some ⟨b2,0,none⟩)]] go_136 E (fun W2 F=>nx (rdL p3.fH p1) (fun x9=>fS x9 p2) o1 fd W2 ((rdL g p1).1.1) ((rdL p3.fH p1).length) ((rdL g p1).1.2.2) E ((NestL.rd (NestL.arg r) X.1 (ah X.2 E)) W2 F) 154 [] [.pointer (some ⟨b2,0,none⟩)] go_154 (fun W3 hb x y hxy=>nt  x p2 y hxy W3 b2 (((RdL.cells 1 E) W2 F).later hb))) E) (oY E (lu E E) (oN (eT ?_)))
   rcases iOs h with⟨q,h⟩|⟨q,h⟩
   ·refine cT (vB q) (cS (cR (oY E (yAB E) (oN (eT (ap (ab ?_)))))))
    obtain rfl:=sI h
    exact am (.inl E) E (rVt (v:=.bool false) E) (fun W2 F=>⟨E,F.none⟩)
   ·refine cF (vB q) (cK (eT (cS (cS (cR (oY E (yFA bU E) (oY E (yL 0 gv E E E) (oY E (bi (us:=[]) i6 E) (oY E (yMI E) (oN (eT (cB ?_))))))))))))
    obtain⟨o2,fD,h⟩:=bOs h
    refine a8 (fun(s:(Bool × Int)) L tm=>∃(M:Nat→Value),L=[ak b1 24 [vI p0.fPlaces,.slice Ab p0.fTracks.length cb],ak b2 3 [vI p2],ak c 87 [.slice G p3.fH.length Q]]∧tm=(upd (upd (upd (upd (upd M 7 (.pointer (some ⟨c,0,none⟩))) 8 (.bool s.1)) 37 (.slice Ab p0.fTracks.length cb)) 38 (vI (p0.fTracks.length:Int))) 39 (vI s.2))) 0 fD ⟨_,E,(kp4 (kp E))⟩ ?_ ?_
    ·rintro f L tm st ⟨fE,rfl,rfl⟩ h
     unfold gL at h
     refine cS (cR (oY E (be E E) (oN (eT (cS ?_)))))
     rcases iOs h with⟨l,h⟩|⟨l,h⟩
     ·refine cT (vB l) (cK (eT (cS (cB (cS (cR ?_))))))
      obtain⟨N,h⟩:=gOs h
      refine oY E (yI jE (by decide) N.1 N.2 (RdL.arg S) (eL au (NestP.hn O.p E)) E E) ?_
      refine oY E (yM (A:=Ab) (j:=(Int.toNat f.2*6)) [vI ((rdL p0.fTracks f.2).fID),vI ((rdL p0.fTracks f.2).fFrom),vI ((rdL p0.fTracks f.2).fTo),vI ((rdL p0.fTracks f.2).fLong),vI ((rdL p0.fTracks f.2).fToll),.slice ((rdL u f.2).1.1) ((rdL p0.fTracks f.2).fK.length) ((rdL u f.2).1.2.2)] gS (Nat.succ_pos _) (RdL.arg S) E (fN (bI (NestP.snd O.p f.2) (NestP.len O.p N.1 (ah N.2 E))).symm (bc au N.1 (ah N.2 (NestP.hn O.p E))))) ?_
      refine aF ip E (fun t=>?_)
      refine cy E (yS 3 [vI ((rdL p0.fTracks f.2).fID),vI ((rdL p0.fTracks f.2).fFrom),vI ((rdL p0.fTracks f.2).fTo),vI ((rdL p0.fTracks f.2).fLong),vI ((rdL p0.fTracks f.2).fToll),.slice ((rdL u f.2).1.1) ((rdL p0.fTracks f.2).fK.length) ((rdL u f.2).1.2.2)] nU E (nB E) E E E) (oN (eT (cS (cR (oY E (yFA dw E) (oY E (yL 2 km E E E) (oY E (yFA ii E) (oY E (yL 3 aK E E E) ?_))))))))
      obtain⟨H,h⟩:=gOs h
      refine oY E (yI iu (by decide) H.1 H.2 (RdL.arg K) (eL ao (NestP.hn r.p E)) E E) ?_
      refine oY E (yR (A:=G) (j:=(Int.toNat ((rdL p0.fTracks f.2).fFrom)*1)) (v:=.slice ((rdL g ((rdL p0.fTracks f.2).fFrom)).1.1) ((rdL p3.fH ((rdL p0.fTracks f.2).fFrom)).length) ((rdL g ((rdL p0.fTracks f.2).fFrom)).1.2.2)) gM (RdL.arg K) E (ay ao H.1 (ah H.2 (NestP.hn r.p E)) (congrArg (fun n:Nat=>some (Value.slice (rdL g ((rdL p0.fTracks f.2).fFrom)).1.1 n (rdL g ((rdL p0.fTracks f.2).fFrom)).1.2.2)) (NestP.len r.p H.1 (ah H.2 E))))) (oY E (bi (us:=[]) cQ E) (oY E (yMI E) (oN (eT (cB ?_)))))
      obtain⟨oX,fG,h⟩:=bOs h
      refine a8 (fun(s:(Bool × Int)) L tm=>∃(M:Nat→Value),L=[ak b1 24 [vI p0.fPlaces,.slice Ab p0.fTracks.length cb],ak b2 3 [vI p2],ak c 87 [.slice G p3.fH.length Q],ak t 120 [vI ((rdL p0.fTracks f.2).fID),vI ((rdL p0.fTracks f.2).fFrom),vI ((rdL p0.fTracks f.2).fTo),vI ((rdL p0.fTracks f.2).fLong),vI ((rdL p0.fTracks f.2).fToll),.slice ((rdL u f.2).1.1) ((rdL p0.fTracks f.2).fK.length) ((rdL u f.2).1.2.2)]]∧tm=(upd (upd (upd (upd (upd (upd (upd (upd (upd (upd M 7 (.pointer (some ⟨c,0,none⟩))) 8 (.bool s.1)) 37 (.slice Ab p0.fTracks.length cb)) 38 (vI (p0.fTracks.length:Int))) 39 (vI f.2)) 40 (.bool (decide (f.2<(p0.fTracks.length:Int))))) 10 (.pointer (some ⟨t,0,none⟩))) 48 (.slice ((rdL g ((rdL p0.fTracks f.2).fFrom)).1.1) ((rdL p3.fH ((rdL p0.fTracks f.2).fFrom)).length) ((rdL g ((rdL p0.fTracks f.2).fFrom)).1.2.2))) 49 (vI (((rdL p3.fH ((rdL p0.fTracks f.2).fFrom)).length:Nat):Int))) 50 (vI s.2))) 2 fG ⟨_,E,(kp4 (kp4 (kp (kp E))))⟩ ?_ ?_
      ·rintro o L tm st ⟨fT,rfl,rfl⟩ h
       unfold ff at h
       refine cS (cR (oY E (be E E) (oN (eT (cS ?_)))))
       rcases iOs h with⟨a,h⟩|⟨a,h⟩
       ·refine cT (vB a) (cK (eT (cS (cB (cS (cR (oY E (yMI E) ?_)))))))
        obtain⟨Z,h⟩:=gOs h
        refine oY E (yI bS (by decide) Z.1 Z.2 (NestL.rd (NestL.arg r) H.1 (ah H.2 E)) (eL aB E) E E) ?_
        refine oY E (yR (A:=((rdL g ((rdL p0.fTracks f.2).fFrom)).1.1)) (j:=(Int.toNat o.2*1)) (v:=vI (rdL (rdL p3.fH ((rdL p0.fTracks f.2).fFrom)) o.2)) aK (NestL.rd (NestL.arg r) H.1 (ah H.2 E)) E (ay aB Z.1 (ah Z.2 E) E)) (oY E (yAI E) (oY E (yAI E) (oN (eT (cS (cS (cR (oY E (yMI E) (oY E (be E E) (oY E (yMB E) ?_))))))))))
        refine oJ 6 (fun M=>(upd (upd (upd (upd (upd (upd (upd (upd (upd (upd (upd (upd (upd (upd M 7 (.pointer (some ⟨c,0,none⟩))) 8 (.bool o.1)) 37 (.slice Ab p0.fTracks.length cb)) 38 (vI (p0.fTracks.length:Int))) 39 (vI f.2)) 40 (.bool (decide (f.2<(p0.fTracks.length:Int))))) 10 (.pointer (some ⟨t,0,none⟩))) 48 (.slice ((rdL g ((rdL p0.fTracks f.2).fFrom)).1.1) ((rdL p3.fH ((rdL p0.fTracks f.2).fFrom)).length) ((rdL g ((rdL p0.fTracks f.2).fFrom)).1.2.2))) 49 (vI (((rdL p3.fH ((rdL p0.fTracks f.2).fFrom)).length:Nat):Int))) 50 (vI o.2)) 51 (.bool (decide (o.2<(((rdL p3.fH ((rdL p0.fTracks f.2).fFrom)).length:Nat):Int))))) 11 (vI o.2)) 12 (vI (rdL (rdL p3.fH ((rdL p0.fTracks f.2).fFrom)) o.2))) 63 (.bool ((decide ((rdL (rdL p3.fH ((rdL p0.fTracks f.2).fFrom)) o.2)<0))||(decide (60<w64 (o.2+((rdL p0.fTracks f.2).fToll)))))))) (fun M=>?_) (fun key=>?_)
        ·refine oN (eT ?_)
         rcases iOs h with⟨i,h⟩|⟨i,h⟩
         ·refine cT (vB i) (aD (ai (ac (eT (cR (oY E (aL E E) (oY E (yMI E) (oN ?_))))))))
          obtain rfl:=sI h
          exact eN ⟨_,E,(kp4 (kp4 (kp (kp E))))⟩
         ·refine cF (vB i) (cK (eT (cS (cR (oY E (yN 3 [vI ((rdL p0.fTracks f.2).fID),vI ((rdL p0.fTracks f.2).fFrom),vI ((rdL p0.fTracks f.2).fTo),vI ((rdL p0.fTracks f.2).fLong),vI ((rdL p0.fTracks f.2).fToll),.slice ((rdL u f.2).1.1) ((rdL p0.fTracks f.2).fK.length) ((rdL u f.2).1.2.2)] gS E E E) (oY E (yMI E) ?_))))))
          obtain⟨Y,fR,h⟩:=bOs h
          refine oY E (yC [.agg #[vI ((rdL p0.fTracks f.2).fID),vI ((rdL p0.fTracks f.2).fFrom),vI ((rdL p0.fTracks f.2).fTo),vI ((rdL p0.fTracks f.2).fLong),vI ((rdL p0.fTracks f.2).fToll),.slice ((rdL u f.2).1.1) ((rdL p0.fTracks f.2).fK.length) ((rdL u f.2).1.2.2)],vI (rdL (rdL p3.fH ((rdL p0.fTracks f.2).fFrom)) o.2)] ti E (fun W2 F=>iS (TT.mk ((rdL p0.fTracks f.2).fID) ((rdL p0.fTracks f.2).fFrom) ((rdL p0.fTracks f.2).fTo) ((rdL p0.fTracks f.2).fLong) ((rdL p0.fTracks f.2).fToll) ((rdL p0.fTracks f.2).fK)) (rdL (rdL p3.fH ((rdL p0.fTracks f.2).fFrom)) o.2) Y fR W2 ((rdL u f.2).1.1) ((rdL p0.fTracks f.2).fK.length) ((rdL u f.2).1.2.2) E ((NestL.rd (NestL.arg O) N.1 (ah N.2 E)) W2 F)) E) (oY E (aY E) (oY E (yE E E) (oY E (yE E E) (oY E (yAI E) (oY E (yAB E) (oN (eT (cS (cS (cR (oY E (yMB E) (oY E (bD E) (oY E (yMB E) ?_)))))))))))))
          obtain⟨fn,fl,h⟩:=bOs h
          refine oJ 7 (fun M=>(upd (upd (upd (upd (upd (upd (upd (upd (upd (upd (upd (upd (upd (upd (upd (upd (upd M 7 (.pointer (some ⟨c,0,none⟩))) 8 (.bool o.1)) 37 (.slice Ab p0.fTracks.length cb)) 38 (vI (p0.fTracks.length:Int))) 39 (vI f.2)) 40 (.bool (decide (f.2<(p0.fTracks.length:Int))))) 10 (.pointer (some ⟨t,0,none⟩))) 48 (.slice ((rdL g ((rdL p0.fTracks f.2).fFrom)).1.1) ((rdL p3.fH ((rdL p0.fTracks f.2).fFrom)).length) ((rdL g ((rdL p0.fTracks f.2).fFrom)).1.2.2))) 49 (vI (((rdL p3.fH ((rdL p0.fTracks f.2).fFrom)).length:Nat):Int))) 50 (vI o.2)) 51 (.bool (decide (o.2<(((rdL p3.fH ((rdL p0.fTracks f.2).fFrom)).length:Nat):Int))))) 11 (vI o.2)) 12 (vI (rdL (rdL p3.fH ((rdL p0.fTracks f.2).fFrom)) o.2))) 63 (.bool ((decide ((rdL (rdL p3.fH ((rdL p0.fTracks f.2).fFrom)) o.2)<0))||(decide (60<w64 (o.2+((rdL p0.fTracks f.2).fToll))))))) 13 (vI Y.1)) 14 (.bool Y.2)) 79 (.bool fn))) (fun M=>?_) (fun key=>?_)
          ·refine oN (eT ?_)
           rcases iOs h with⟨k,h⟩|⟨k,h⟩
           ·refine cT (vB k) (aD (ai (ac (eT (cR (oY E (aL E E) (oY E (yMI E) (oN ?_))))))))
            obtain rfl:=sI h
            exact eN ⟨_,E,(kp4 (kp4 (kp (kp E))))⟩
           ·refine cF (vB k) (cK (eT (cS ?_)))
            refine aS 13 bW (by kernel_rfl) (by kernel_rfl) ?_
            refine qY E (yFA dw E) (qY E (yL 2 km E E E) (qY E (yFA gD E) (qY E (yL 3 aK E E E) ?_)))
            obtain⟨I,h⟩:=gOs h
            refine qY E (yI iu (by decide) I.1 I.2 (RdL.arg K) (eL ao (NestP.hn r.p E)) E E) ?_
            refine qY E (yR (A:=G) (j:=(Int.toNat ((rdL p0.fTracks f.2).fTo)*1)) (v:=.slice ((rdL g ((rdL p0.fTracks f.2).fTo)).1.1) ((rdL p3.fH ((rdL p0.fTracks f.2).fTo)).length) ((rdL g ((rdL p0.fTracks f.2).fTo)).1.2.2)) gM (RdL.arg K) E (ay ao I.1 (ah I.2 (NestP.hn r.p E)) (congrArg (fun n:Nat=>some (Value.slice (rdL g ((rdL p0.fTracks f.2).fTo)).1.1 n (rdL g ((rdL p0.fTracks f.2).fTo)).1.2.2)) (NestP.len r.p I.1 (ah I.2 E))))) (qY E (yMI E) (qY E (yFA gb E) (qY E (yL 3 aK E E E) (qY E (aL E E) ?_))))
            obtain⟨V,h⟩:=gOs h
            refine qY E (yI bS (by decide) V.1 V.2 (NestL.rd (NestL.arg r) I.1 (ah I.2 E)) (eL aB E) E E) ?_
            refine qY E (yR (A:=((rdL g ((rdL p0.fTracks f.2).fTo)).1.1)) (j:=(Int.toNat (w64 (o.2+((rdL p0.fTracks f.2).fToll)))*1)) (v:=vI (rdL (rdL p3.fH ((rdL p0.fTracks f.2).fTo)) (w64 (o.2+((rdL p0.fTracks f.2).fToll))))) aK (NestL.rd (NestL.arg r) I.1 (ah I.2 E)) E (ay aB V.1 (ah V.2 E) E)) (qY E (yAI E) (bF (oN (eT (cS (cR (oY E (yMI E) (oY E (be E E) (oY E (yMB E) ?_)))))))))
            refine oJ 7 (fun M=>(upd (upd (upd (upd (upd (upd (upd (upd (upd (upd (upd (upd (upd (upd (upd (upd (upd (upd (upd M 7 (.pointer (some ⟨c,0,none⟩))) 8 (.bool o.1)) 37 (.slice Ab p0.fTracks.length cb)) 38 (vI (p0.fTracks.length:Int))) 39 (vI f.2)) 40 (.bool (decide (f.2<(p0.fTracks.length:Int))))) 10 (.pointer (some ⟨t,0,none⟩))) 48 (.slice ((rdL g ((rdL p0.fTracks f.2).fFrom)).1.1) ((rdL p3.fH ((rdL p0.fTracks f.2).fFrom)).length) ((rdL g ((rdL p0.fTracks f.2).fFrom)).1.2.2))) 49 (vI (((rdL p3.fH ((rdL p0.fTracks f.2).fFrom)).length:Nat):Int))) 50 (vI o.2)) 51 (.bool (decide (o.2<(((rdL p3.fH ((rdL p0.fTracks f.2).fFrom)).length:Nat):Int))))) 11 (vI o.2)) 12 (vI (rdL (rdL p3.fH ((rdL p0.fTracks f.2).fFrom)) o.2))) 63 (.bool ((decide ((rdL (rdL p3.fH ((rdL p0.fTracks f.2).fFrom)) o.2)<0))||(decide (60<w64 (o.2+((rdL p0.fTracks f.2).fToll))))))) 13 (vI Y.1)) 14 (.bool Y.2)) 79 (.bool fn)) 15 (vI (rdL (rdL p3.fH ((rdL p0.fTracks f.2).fTo)) (w64 (o.2+((rdL p0.fTracks f.2).fToll)))))) 101 (.bool ((decide ((rdL (rdL p3.fH ((rdL p0.fTracks f.2).fTo)) (w64 (o.2+((rdL p0.fTracks f.2).fToll))))<0))||(decide (w64 (Y.1+((rdL p0.fTracks f.2).fLong))<(rdL (rdL p3.fH ((rdL p0.fTracks f.2).fTo)) (w64 (o.2+((rdL p0.fTracks f.2).fToll)))))))))) (fun M=>?_) (fun key=>?_)
            ·refine oN (eT ?_)
             rcases iOs h with⟨b,h⟩|⟨b,h⟩
             ·refine cT (vB b) (cS (cR (oY E (yAB E) (oN (eT (ap (ae (ab ?_))))))))
              obtain rfl:=sI h
              exact av ⟨E,_,E,(kp4 (kp4 (kp (kp E))))⟩
             ·refine cF (vB b) (cK (aw (eT (cR (oY E (aL E E) (oY E (yMI E) (oN ?_)))))))
              obtain rfl:=sI h
              exact eN ⟨_,E,(kp4 (kp4 (kp (kp E))))⟩
            ·rcases ar (decide ((rdL (rdL p3.fH ((rdL p0.fTracks f.2).fTo)) (w64 (o.2+((rdL p0.fTracks f.2).fToll))))<0))with d|d
             ·refine oSk (sF E E E E d) (oSk (sF E E E E d) (oSk (sF E E E E d) (oSk (sF E E E E d) (oSk (sF E E E E d) (oSk (sF E E E E d) (oY E (ad (vB d) E) ?_))))))
              exact key _ _ (keep (keep (keep (keep (keep (keep (keep (keep (keep (keep (keep (keep (keep (keep (keep (keep (keep (keep (keep E E) E) E) E) E) E) E) E) E) E) E) E) E) E) E) E) E) E) (vB (iQ d)))
             ·refine oY (sT E E E E d) (yMI E) (oY (sT E E E E d) (yMI E) (oY (sT E E E E d) (yFA f5 E) (oY (sT E E E E d) (yL 3 aK E E E) (oY (sT E E E E d) (aL E E) (oY (sT E E E E d) (eu E E) (oY E (ag (vB d) E) ?_))))))
              exact key _ _ (keep (keep (keep (keep (keep (keep (keep (keep (keep (keep (keep (keep (keep (keep (keep (keep (keep (keep (keep E E) E) E) E) E) E) E) E) E) E) E) E) E) E) E) E) E) E) (vB (iR d)))
          ·clear h;rcases iOs fl with⟨w,h⟩|⟨w,h⟩
           ·refine oSk (sF E E E E w) (oSk (sF E E E E w) (oSk (sF E E E E w) (oSk (sF E E E E w) (oSk (sF E E E E w) (oSk (sF E E E E w) (oY E (ad (vB w) E) ?_))))))
            obtain rfl:=sI h
            exact key _ _ (kp4 (kp4 (kp4 (kp4 (kp E)))))
           ·refine oY (sT E E E E w) (yMI E) (oY (sT E E E E w) (yFA f5 E) (oY (sT E E E E w) (yL 3 aK E E E) (oY (sT E E E E w) (aL E E) ?_)))
            obtain⟨oq,ft,h⟩:=bOs h
            refine oY (sT E E E E w) (yC [vI (w64 (Y.1+((rdL p0.fTracks f.2).fLong)))] mb E (fun W2 F=>cL (w64 (Y.1+((rdL p0.fTracks f.2).fLong))) oq ft W2 ) E) (oY (sT E E E E w) (bD E) (oY E (ag (vB w) E) ?_))
            obtain rfl:=sI h
            exact key _ _ (kp4 (kp4 (kp4 (kp4 (kp E)))))
        ·rcases ar (decide ((rdL (rdL p3.fH ((rdL p0.fTracks f.2).fFrom)) o.2)<0))with D|D
         ·refine oSk (sF E E E E D) (oSk (sF E E E E D) (oSk (sF E E E E D) (oSk (sF E E E E D) (oSk (sF E E E E D) (oY E (ad (vB D) E) ?_)))))
          exact key _ _ (keep (keep (keep (keep (keep (keep (keep (keep (keep (keep (keep (keep (keep (keep E E) E) E) E) E) E) E) E) E) E) E) E) E) (vB (iQ D)))
         ·refine oY (sT E E E E D) (yMI E) (oY (sT E E E E D) (yFA gb E) (oY (sT E E E E D) (yL 3 aK E E E) (oY (sT E E E E D) (aL E E) (oY (sT E E E E D) (eu E E) (oY E (ag (vB D) E) ?_)))))
          exact key _ _ (keep (keep (keep (keep (keep (keep (keep (keep (keep (keep (keep (keep (keep (keep E E) E) E) E) E) E) E) E) E) E) E) E) E) (vB (iR D)))
       ·refine cF (vB a) (aD (ai ?_))
        obtain rfl:=sI h
        exact av ⟨E,_,E,(kp4 (kp4 (kp (kp E))))⟩
      ·intro e L tm hJ
       rcases oX with oj|ok
       ·dsimp only at h hJ
        obtain⟨rfl,g1,rfl,rfl⟩:=hJ
        refine⟨(by intro hc;cases hc),?_⟩
        refine ae (ae (ab (aQ 3 ?_)))
        obtain rfl:=sI h
        exact av ⟨E,_,E,(kp4 (kp E))⟩
       ·dsimp only at h hJ
        obtain⟨rfl,g2,rfl,rfl⟩:=hJ
        refine⟨(by intro hc;cases hc),?_⟩
        refine ac (aw (eT (cR (oY E (aL E E) (oY E (yMI E) (oN (aQ 3 ?_)))))))
        obtain rfl:=sI h
        exact eN ⟨_,E,(kp4 (kp E))⟩
     ·refine cF (vB l) (aD (ai ?_))
      obtain rfl:=sI h
      exact av ⟨E,_,E,(kp4 (kp E))⟩
    ·intro e L tm hJ
     rcases o2 with op|r0
     ·dsimp only at h hJ
      obtain⟨rfl,g3,rfl,rfl⟩:=hJ
      refine⟨(by intro hc;cases hc),?_⟩
      refine ae (ab ?_)
      obtain rfl:=sI h
      exact am (.inl E) E (rVt (v:=.bool op.1) E) (fun W2 F=>⟨E,F.none⟩)
     ·dsimp only at h hJ
      obtain⟨rfl,g4,rfl,rfl⟩:=hJ
      refine⟨(by intro hc;cases hc),?_⟩
      refine ac (eT (cS (cR (oY E (yAB E) (oN (eT (ap ?_)))))))
      obtain rfl:=sI h
      exact am (.inl E) E (rVt (v:=.bool true) E) (fun W2 F=>⟨E,F.none⟩)
 ·clear h;rcases iOs o0 with⟨U,h⟩|⟨U,h⟩
  ·refine oSk (sF E E E E U) (oSk (sF E E E E U) (oSk (sF E E E E U) (oSk (sF E E E E U) (oY E (ad (vB U) E) ?_))))
   obtain rfl:=sI h
   exact key _ _ (kp4 (kp (kp E)))
  ·refine oY (sT E E E E U) (yFA dw E) (oY (sT E E E E U) (yL 2 km E E E) ?_)
   obtain⟨om,gf,h⟩:=bOs h
   refine oY (sT E E E E U) (yC [.slice G p3.fH.length Q,.func (.func 152) #[] #[]] go_151 E (fun W2 F=>lR p3.fH (fun ot=>eJ ot) om gf W2 G p3.fH.length Q g E ((RdL.arg K) W2 F) (NestL.at (NestL.arg r) W2 F) 152 [] [] go_152 (fun W3 hb x hx rx y hxy=>nA  x  y hxy W3 hx.1 _ hx.2.2 E rx)) E) (oY (sT E E E E U) (lu E E) (oY E (ag (vB U) E) ?_))
   obtain rfl:=sI h
   exact key _ _ (kp4 (kp (kp E)))
theorem oM (p0:TR) (p1:Int) (p2:Int) (p3:Int) (p4:TJ) (res:Bool) (h:eY p0 p1 p2 p3 p4=some res) (W:World) (Ab:Option Addr) (R cb:Nat) (H:List (Hd × TT)) (k:R=p0.fTracks.length) (u:Rd W Ab R cb (encL TTrack_cells2 H)) (f:NestW W (fun z:TT=>z.fK) TSpan_cells H p0.fTracks) (M:Option Addr) (q N:Nat) (x:q=p4.fLegs.length) (n:Rd W M q N (encL TLeg_cells p4.fLegs)) :
  Calls Tryz.prog 113 [.agg #[vI p0.fPlaces,.slice Ab R cb],vI p1,vI p2,vI p3,.agg #[.slice M q N,vI p4.fA,vI p4.fToll]].toArray W fun e W2=>e=.returned (.bool res)∧Ext W W2 []:=by
 subst k
 subst x
 unfold eY at h
 refine aj (m:=118) Tryz.func113 E E (nB E) (cS (cR ?_))
 refine aN [vI p0.fPlaces,.slice Ab p0.fTracks.length cb] E E E (fun b1=>?_)
 refine aN [.slice M p4.fLegs.length N,vI p4.fA,vI p4.fToll] E E E (fun y=>?_)
 refine oY E (yAB E) (oN (eT (cS (cR (oY E (yAI E) (oN (eT (cS (cS (cR (oY E (yFA lc E) (oY E (yL 1 sC E E E) (oY E (bi (us:=[]) us_27 E) (oY E (yMI E) (oN (eT (cB ?_)))))))))))))))))
 obtain⟨u5,f2,h⟩:=bOs h
 refine a8 (fun(s:(Int × Int × Bool × Int × Int)) L tm=>∃(o:Nat→Value),L=[ak b1 24 [vI p0.fPlaces,.slice Ab p0.fTracks.length cb],ak y 29 [.slice M p4.fLegs.length N,vI p4.fA,vI p4.fToll]]∧tm=(upd (upd (upd (upd (upd (upd (upd (upd (upd (upd o 1 (vI s.1)) 2 (vI p2)) 3 (vI s.2.1)) 5 (.pointer (some ⟨b1,0,none⟩))) 9 (.pointer (some ⟨y,0,none⟩))) 10 (.bool s.2.2.1)) 11 (vI s.2.2.2.1)) 18 (.slice M p4.fLegs.length N)) 19 (vI (p4.fLegs.length:Int))) 20 (vI s.2.2.2.2))) 0 f2 ⟨_,E,(kp4 (kp4 (kp (kp E))))⟩ ?_ ?_
 ·rintro I L tm st ⟨fl,rfl,rfl⟩ h
  unfold fb at h
  refine cS (cR (oY E (be E E) (oN (eT (cS ?_)))))
  rcases iOs h with⟨b,h⟩|⟨b,h⟩
  ·refine cT (vB b) (cK (eT (cS (cB (cS (cR ?_))))))
   obtain⟨a,h⟩:=gOs h
   refine oY E (yI sw (by decide) a.1 a.2 (RdL.arg n) (eL bo E) E E) ?_
   refine oY E (yM (A:=M) (j:=(Int.toNat I.2.2.2.2*2)) [vI ((rdL p4.fLegs I.2.2.2.2).fTrack),vI ((rdL p4.fLegs I.2.2.2.2).fHour)] tg (Nat.succ_pos _) (RdL.arg n) E (bc bo a.1 (ah a.2 E))) ?_
   refine aF tL E (fun b8=>?_)
   refine cy E (yS 2 [vI ((rdL p4.fLegs I.2.2.2.2).fTrack),vI ((rdL p4.fLegs I.2.2.2.2).fHour)] sz_132 E (nB E) E E E) (oN (eT (cS (cR (oY E (yN 0 [vI p0.fPlaces,.slice Ab p0.fTracks.length cb] dG E E E) (oY E (yFA tz E) (oY E (yL 2 aK E E E) ?_)))))))
   obtain⟨r,f3,h⟩:=bOs h
   refine oY E (yC [.agg #[vI p0.fPlaces,.slice Ab p0.fTracks.length cb],vI ((rdL p4.fLegs I.2.2.2.2).fTrack)] go_155 E (fun W2 X=>m4 p0 ((rdL p4.fLegs I.2.2.2.2).fTrack) r f3 W2 Ab p0.fTracks.length cb H E ((RdL.arg u) W2 X) (NestL.at (NestL.arg f) W2 X)) E) (oY E (yAI E) (oN (eT (cS (cS (cR (oY E (yMI E) (oY E (be E E) (oY E (yMB E) ?_)))))))))
   obtain⟨c,fr,h⟩:=bOs h
   refine oJ 9 (fun o=>(upd (upd (upd (upd (upd (upd (upd (upd (upd (upd (upd (upd (upd (upd o 1 (vI I.1)) 2 (vI p2)) 3 (vI I.2.1)) 5 (.pointer (some ⟨b1,0,none⟩))) 9 (.pointer (some ⟨y,0,none⟩))) 10 (.bool I.2.2.1)) 11 (vI I.2.2.2.1)) 18 (.slice M p4.fLegs.length N)) 19 (vI (p4.fLegs.length:Int))) 20 (vI I.2.2.2.2)) 21 (.bool (decide (I.2.2.2.2<(p4.fLegs.length:Int))))) 13 (.pointer (some ⟨b8,0,none⟩))) 14 (vI r)) 39 (.bool c))) (fun o=>?_) (fun key=>?_)
   ·refine oY E (yMB E) ?_
    refine oJ 5 (fun o=>(upd (upd (upd (upd (upd (upd (upd (upd (upd (upd (upd (upd (upd (upd o 1 (vI I.1)) 2 (vI p2)) 3 (vI I.2.1)) 5 (.pointer (some ⟨b1,0,none⟩))) 9 (.pointer (some ⟨y,0,none⟩))) 10 (.bool I.2.2.1)) 11 (vI I.2.2.2.1)) 18 (.slice M p4.fLegs.length N)) 19 (vI (p4.fLegs.length:Int))) 20 (vI I.2.2.2.2)) 21 (.bool (decide (I.2.2.2.2<(p4.fLegs.length:Int))))) 13 (.pointer (some ⟨b8,0,none⟩))) 14 (vI r)) 45 (.bool (c||(decide ((rdL p4.fLegs I.2.2.2.2).fHour<I.2.1)))))) (fun o=>?_) (fun key=>?_)
    ·refine oY E (yMB E) ?_
     obtain⟨fd,fD,h⟩:=bOs h
     refine oJ 5 (fun o=>(upd (upd (upd (upd (upd (upd (upd (upd (upd (upd (upd (upd (upd (upd o 1 (vI I.1)) 2 (vI p2)) 3 (vI I.2.1)) 5 (.pointer (some ⟨b1,0,none⟩))) 9 (.pointer (some ⟨y,0,none⟩))) 10 (.bool I.2.2.1)) 11 (vI I.2.2.2.1)) 18 (.slice M p4.fLegs.length N)) 19 (vI (p4.fLegs.length:Int))) 20 (vI I.2.2.2.2)) 21 (.bool (decide (I.2.2.2.2<(p4.fLegs.length:Int))))) 13 (.pointer (some ⟨b8,0,none⟩))) 14 (vI r)) 51 (.bool fd))) (fun o=>?_) (fun key=>?_)
     ·refine oN (eT ?_)
      rcases iOs h with⟨l,h⟩|⟨l,h⟩
      ·refine cT (vB l) (cS (cR (oY E (yAB E) (oN (eT (ap (ab (ae (ab (aQ 2 ?_))))))))))
       obtain rfl:=sI h
       exact av ⟨E,_,E,(kp4 (kp4 (kp (kp E))))⟩
      ·refine cF (vB l) (cK (eT (cS (cS ?_))))
       refine aS 13 bW (by kernel_rfl) (by kernel_rfl) ?_
       refine qY E (yFA bU E) (qY E (yL 0 gv E E E) (qY E (yMI E) ?_))
       obtain⟨Q,h⟩:=gOs h
       refine qY E (yI jE (by decide) Q.1 Q.2 (RdL.arg u) (eL au (NestP.hn f.p E)) E E) ?_
       refine qY E (yM (A:=Ab) (j:=(Int.toNat r*6)) [vI ((rdL p0.fTracks r).fID),vI ((rdL p0.fTracks r).fFrom),vI ((rdL p0.fTracks r).fTo),vI ((rdL p0.fTracks r).fLong),vI ((rdL p0.fTracks r).fToll),.slice ((rdL H r).1.1) ((rdL p0.fTracks r).fK.length) ((rdL H r).1.2.2)] gS (Nat.succ_pos _) (RdL.arg u) E (fN (bI (NestP.snd f.p r) (NestP.len f.p Q.1 (ah Q.2 E))).symm (bc au Q.1 (ah Q.2 (NestP.hn f.p E))))) (qY E (yFA lI E) (qY E (yL 2 aK E E E) ?_))
       obtain⟨S,fE,h⟩:=bOs h
       refine qY E (yC [.agg #[vI ((rdL p0.fTracks r).fID),vI ((rdL p0.fTracks r).fFrom),vI ((rdL p0.fTracks r).fTo),vI ((rdL p0.fTracks r).fLong),vI ((rdL p0.fTracks r).fToll),.slice ((rdL H r).1.1) ((rdL p0.fTracks r).fK.length) ((rdL H r).1.2.2)],vI ((rdL p4.fLegs I.2.2.2.2).fHour)] ti E (fun W2 X=>iS (TT.mk ((rdL p0.fTracks r).fID) ((rdL p0.fTracks r).fFrom) ((rdL p0.fTracks r).fTo) ((rdL p0.fTracks r).fLong) ((rdL p0.fTracks r).fToll) ((rdL p0.fTracks r).fK)) ((rdL p4.fLegs I.2.2.2.2).fHour) S fE W2 ((rdL H r).1.1) ((rdL p0.fTracks r).fK.length) ((rdL H r).1.2.2) E ((NestL.rd (NestL.arg f) Q.1 (ah Q.2 E)) W2 X)) E) (qY E (aY E) (qY E (yE E E) (qY E (yE E E) (qY E (yAI E) (qY E (yAB E) (bF (oN (eT (cS (cR (oY E (yMB E) (oY E (bD E) (oY E (yMB E) ?_)))))))))))))
       refine oJ 5 (fun o=>(upd (upd (upd (upd (upd (upd (upd (upd (upd (upd (upd (upd (upd (upd (upd (upd (upd o 1 (vI I.1)) 2 (vI p2)) 3 (vI I.2.1)) 5 (.pointer (some ⟨b1,0,none⟩))) 9 (.pointer (some ⟨y,0,none⟩))) 10 (.bool I.2.2.1)) 11 (vI I.2.2.2.1)) 18 (.slice M p4.fLegs.length N)) 19 (vI (p4.fLegs.length:Int))) 20 (vI I.2.2.2.2)) 21 (.bool (decide (I.2.2.2.2<(p4.fLegs.length:Int))))) 13 (.pointer (some ⟨b8,0,none⟩))) 14 (vI r)) 51 (.bool fd)) 15 (vI S.1)) 16 (.bool S.2)) 70 (.bool ((!S.2)||(S.1 !=((rdL p4.fLegs I.2.2.2.2).fHour)))))) (fun o=>?_) (fun key=>?_)
       ·refine oN (eT ?_)
        rcases iOs h with⟨t,h⟩|⟨t,h⟩
        ·refine cT (vB t) (cS (cR (oY E (yAB E) (oN (eT (ap (ab (ae (ab (aQ 2 ?_))))))))))
         obtain rfl:=sI h
         exact av ⟨E,_,E,(kp4 (kp4 (kp (kp E))))⟩
        ·refine cF (vB t) (cK (eT ?_))
         refine aS 26 bW (by kernel_rfl) (by kernel_rfl) ?_
         refine qY E (yFA bU E) (qY E (yL 0 gv E E E) (qY E (yMI E) ?_))
         obtain⟨Y,h⟩:=gOs h
         refine qY E (yI jE (by decide) Y.1 Y.2 (RdL.arg u) (eL au (NestP.hn f.p E)) E E) ?_
         refine qY E (yFR (A:=Ab) (j:=(Int.toNat r*6)) gD E) (qY E (yR (A:=Ab) (j:=((Int.toNat r*6)+2)) (v:=vI ((rdL p0.fTracks r).fTo)) aK (RdL.arg u) E (eG au Y.1 (ah Y.2 (NestP.hn f.p E)) (congrArg (fun z:TT=>some (Value.int .i64 z.fTo)) (NestP.snd f.p r)))) (qY E (yFA lI E) (qY E (yL 2 aK E E E) (qY E (yFA bU E) (qY E (yL 0 gv E E E) (qY E (yMI E) ?_))))))
         obtain⟨Z,h⟩:=gOs h
         refine qY E (yI jE (by decide) Z.1 Z.2 (RdL.arg u) (eL au (NestP.hn f.p E)) E E) ?_
         refine qY E (yFR (A:=Ab) (j:=(Int.toNat r*6)) f5 E) (qY E (yR (A:=Ab) (j:=((Int.toNat r*6)+3)) (v:=vI ((rdL p0.fTracks r).fLong)) aK (RdL.arg u) E (eG au Z.1 (ah Z.2 (NestP.hn f.p E)) (congrArg (fun z:TT=>some (Value.int .i64 z.fLong)) (NestP.snd f.p r)))) (qY E (aL E E) (qY E (yMI E) (qY E (yFA bU E) (qY E (yL 0 gv E E E) (qY E (yMI E) ?_))))))
         obtain⟨V,h⟩:=gOs h
         refine qY E (yI jE (by decide) V.1 V.2 (RdL.arg u) (eL au (NestP.hn f.p E)) E E) ?_
         refine qY E (yFR (A:=Ab) (j:=(Int.toNat r*6)) gb E) (qY E (yR (A:=Ab) (j:=((Int.toNat r*6)+4)) (v:=vI ((rdL p0.fTracks r).fToll)) aK (RdL.arg u) E (eG au V.1 (ah V.2 (NestP.hn f.p E)) (congrArg (fun z:TT=>some (Value.int .i64 z.fToll)) (NestP.snd f.p r)))) (qY E (aL E E) (qY E (yAI E) (qY E (yAI E) (qY E (yAI E) (bF (oN (aw (eT (cR (oY E (aL E E) (oY E (yMI E) (oN (aQ 2 ?_))))))))))))))
         obtain rfl:=sI h
         exact eN ⟨_,E,(kp4 (kp4 (kp (kp E))))⟩
       ·rcases ar (!S.2)with w|w
        ·refine oSk (sF E E E E w) (oSk (sF E E E E w) (oSk (sF E E E E w) (oSk (sF E E E E w) (oY E (ad (vB w) E) ?_))))
         exact key _ _ (keep (keep (keep (keep (keep (keep (keep (keep (keep (keep (keep (keep (keep (keep (keep (keep (keep E E) E) E) E) E) E) E) E) E) E) E) E) E) E) E) E) (vB (iQ w)))
        ·refine oY (sT E E E E w) (yMI E) (oY (sT E E E E w) (yFA lI E) (oY (sT E E E E w) (yL 2 aK E E E) (oY (sT E E E E w) (cJ E E) (oY E (ag (vB w) E) ?_))))
         exact key _ _ (keep (keep (keep (keep (keep (keep (keep (keep (keep (keep (keep (keep (keep (keep (keep (keep (keep E E) E) E) E) E) E) E) E) E) E) E) E) E) E) E) E) (vB (iR w)))
     ·clear h;rcases iOs fD with⟨K,h⟩|⟨K,h⟩
      ·refine oSk (sF E E E E K) (oSk (sF E E E E K) (oSk (sF E E E E K) (oSk (sF E E E E K) (oY E (ad (vB K) E) ?_))))
       obtain rfl:=sI h
       exact key _ _ (kp4 (kp4 (kp4 (kp (kp E)))))
      ·refine oY (sT E E E E K) (yFA lI E) (oY (sT E E E E K) (yL 2 aK E E E) ?_)
       obtain⟨g1,fG,h⟩:=bOs h
       refine oY (sT E E E E K) (yC [vI ((rdL p4.fLegs I.2.2.2.2).fHour)] mb E (fun W2 X=>cL ((rdL p4.fLegs I.2.2.2.2).fHour) g1 fG W2 ) E) (oY (sT E E E E K) (bD E) (oY E (ag (vB K) E) ?_))
       obtain rfl:=sI h
       exact key _ _ (kp4 (kp4 (kp4 (kp (kp E)))))
    ·rcases ar c with D|D
     ·refine oSk (sF E E E E D) (oSk (sF E E E E D) (oSk (sF E E E E D) (oSk (sF E E E E D) (oY E (ad (vB D) E) ?_))))
      exact key _ _ (keep (keep (keep (keep (keep (keep (keep (keep (keep (keep (keep (keep (keep (keep E E) E) E) E) E) E) E) E) E) E) E) E) E) (vB (iQ D)))
     ·refine oY (sT E E E E D) (yFA lI E) (oY (sT E E E E D) (yL 2 aK E E E) (oY (sT E E E E D) (yMI E) (oY (sT E E E E D) (be E E) (oY E (ag (vB D) E) ?_))))
      exact key _ _ (keep (keep (keep (keep (keep (keep (keep (keep (keep (keep (keep (keep (keep (keep E E) E) E) E) E) E) E) E) E) E) E) E) E) (vB (iR D)))
   ·clear h;rcases iOs fr with⟨g,h⟩|⟨g,h⟩
    ·refine oSk (sF E E E E g) (oSk (sF E E E E g) (oSk (sF E E E E g) (oSk (sF E E E E g) (oSk (sF E E E E g) (oSk (sF E E E E g) (oSk (sF E E E E g) (oSk (sF E E E E g) (oY E (ad (vB g) E) ?_))))))))
     obtain rfl:=sI h
     exact key _ _ (kp4 (kp4 (kp4 (kp (kp E)))))
    ·refine oY (sT E E E E g) (yFA bU E) (oY (sT E E E E g) (yL 0 gv E E E) (oY (sT E E E E g) (yMI E) ?_))
     obtain⟨T,h⟩:=gOs h
     refine oY (sT E E E E g) (yI jE (by decide) T.1 T.2 (RdL.arg u) (eL au (NestP.hn f.p E)) E E) ?_
     refine oY (sT E E E E g) (yFR (A:=Ab) (j:=(Int.toNat r*6)) ii E) (oY (sT E E E E g) (yR (A:=Ab) (j:=((Int.toNat r*6)+1)) (v:=vI ((rdL p0.fTracks r).fFrom)) aK (RdL.arg u) E (eG au T.1 (ah T.2 (NestP.hn f.p E)) (congrArg (fun z:TT=>some (Value.int .i64 z.fFrom)) (NestP.snd f.p r)))) (oY (sT E E E E g) (yMI E) (oY (sT E E E E g) (cJ E E) (oY E (ag (vB g) E) ?_))))
     obtain rfl:=sI h
     exact key _ _ (kp4 (kp4 (kp4 (kp (kp E)))))
  ·refine cF (vB b) (aD (ai ?_))
   obtain rfl:=sI h
   exact av ⟨E,_,E,(kp4 (kp4 (kp (kp E))))⟩
 ·intro e L tm hJ
  rcases u5 with g2|d
  ·dsimp only at h hJ
   obtain⟨rfl,fH,rfl,rfl⟩:=hJ
   refine⟨(by intro hc;cases hc),?_⟩
   refine ae (ab ?_)
   obtain rfl:=sI h
   exact am (.inl E) E (rVt (v:=.bool g2.2.2.1) E) (fun W2 X=>⟨E,X.none⟩)
  ·dsimp only at h hJ
   obtain⟨rfl,fT,rfl,rfl⟩:=hJ
   refine⟨(by intro hc;cases hc),?_⟩
   refine ac (eT (cS (cR (oY E (yMI E) (oY E (yMI E) (oY E (cZ E E) (oY E (yMB E) ?_)))))))
   refine oJ 5 (fun o=>(upd (upd (upd (upd (upd o 3 (vI d.2.1)) 9 (.pointer (some ⟨y,0,none⟩))) 10 (.bool d.2.2.1)) 11 (vI d.2.2.2.1)) 103 (.bool ((d.1==p2)&&(d.2.1==p4.fA))))) (fun o=>?_) (fun key=>?_)
   ·refine oY E (yMB E) ?_
    refine oJ 5 (fun o=>(upd (upd (upd (upd o 3 (vI d.2.1)) 10 (.bool d.2.2.1)) 11 (vI d.2.2.2.1)) 109 (.bool (((d.1==p2)&&(d.2.1==p4.fA))&&(d.2.2.2.1==p4.fToll))))) (fun o=>?_) (fun key=>?_)
    ·refine oY E (yMB E) ?_
     obtain⟨i,fR,h⟩:=bOs h
     refine oJ 3 (fun o=>(upd (upd (upd o 10 (.bool d.2.2.1)) 11 (vI d.2.2.2.1)) 113 (.bool i))) (fun o=>?_) (fun key=>?_)
     ·refine oY E (yMB E) ?_
      refine oJ 3 (fun o=>(upd (upd o 10 (.bool d.2.2.1)) 117 (.bool (i&&(decide (d.2.2.2.1≤60)))))) (fun o=>?_) (fun key=>?_)
      ·refine oY E (yAB E) (oN (eT (ap ?_)))
       obtain rfl:=sI h
       exact am (.inl E) E (rVt (v:=.bool (i&&(decide (d.2.2.2.1≤60)))) E) (fun W2 X=>⟨E,X.none⟩)
      ·rcases ar i with O|O
       ·refine oY (sT E E E E O) (yMI E) (oY (sT E E E E O) (gV E E) (oY E (ad (vB O) E) ?_))
        exact key _ _ (keep (keep E E) (vB (fF O)))
       ·refine oSk (sF E E E E O) (oSk (sF E E E E O) (oY E (ag (vB O) E) ?_))
        exact key _ _ (keep (keep E E) (vB (fy O)))
     ·clear h;rcases iOs fR with⟨U,h⟩|⟨U,h⟩
      ·refine oY (sT E E E E U) (yMI E) ?_
       obtain⟨g3,fn,h⟩:=bOs h
       refine oY (sT E E E E U) (yC [vI d.2.1] mb E (fun W2 X=>cL d.2.1 g3 fn W2 ) E) (oY E (ad (vB U) E) ?_)
       obtain rfl:=sI h
       exact key _ _ (kp (kp (kp E)))
      ·refine oSk (sF E E E E U) (oSk (sF E E E E U) (oY E (ag (vB U) E) ?_))
       obtain rfl:=sI h
       exact key _ _ (kp (kp (kp E)))
    ·rcases ar ((d.1==p2)&&(d.2.1==p4.fA))with F|F
     ·refine oY (sT E E E E F) (yMI E) (oY (sT E E E E F) (yFA iN E) (oY (sT E E E E F) (yL 1 aK E E E) (oY (sT E E E E F) (cZ E E) (oY E (ad (vB F) E) ?_))))
      exact key _ _ (keep (keep (keep (keep E E) E) E) (vB (fF F)))
     ·refine oSk (sF E E E E F) (oSk (sF E E E E F) (oSk (sF E E E E F) (oSk (sF E E E E F) (oY E (ag (vB F) E) ?_))))
      exact key _ _ (keep (keep (keep (keep E E) E) E) (vB (fy F)))
   ·rcases ar (d.1==p2)with G|G
    ·refine oY (sT E E E E G) (yMI E) (oY (sT E E E E G) (yFA gN E) (oY (sT E E E E G) (yL 1 aK E E E) (oY (sT E E E E G) (cZ E E) (oY E (ad (vB G) E) ?_))))
     exact key _ _ (keep (keep (keep (keep (keep E E) E) E) E) (vB (fF G)))
    ·refine oSk (sF E E E E G) (oSk (sF E E E E G) (oSk (sF E E E E G) (oSk (sF E E E E G) (oY E (ag (vB G) E) ?_))))
     exact key _ _ (keep (keep (keep (keep (keep E E) E) E) E) (vB (fy G)))
end Go.Proofs.YthndghnkebboaaaGreat
