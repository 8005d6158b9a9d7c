import Derived.Test.YthndghnkebboaaaGreatF
import Derived.Test.YthndghnkebboaaaGreatGy
import Derived.Test.YthndghnkebboaaaGreatC2
import Derived.Test.YthndghnkebboaaaGreatC4
import Derived.Test.YthndghnkebboaaaGreatC6
import Derived.Test.YthndghnkebboaaaGreatC0
set_option maxHeartbeats 4000000
set_option maxRecDepth 100000
set_option linter.unusedVariables false
namespace Go.Proofs.YthndghnkebboaaaGreat
open Go.RowKit (Below)
attribute [local irreducible] OX QX CX EX OpY Calls CallsIn
theorem iz  (res:Bool) (h:dR=some res) (W:World)  :
  Calls Tryz.prog 17 [].toArray W fun e W2=>e=.returned (.bool res)∧Ext W W2 []:=by
 unfold dR at h
 refine ag (m:=261) Tryz.func17 E E (nB E) (cS (cR (oY E (yAB E) (oN (eT (cS (cR ?_)))))))
 obtain⟨G,wn,h⟩:=bOs h
 refine oC [] _ _ _ E go_67 E (fun W2 f=>lY  G wn W2 W (fun _=>True) (fun W3 hb=>⟨f0 f.below hb,trivial⟩) ) ?_
 rintro⟨⟨A5,n7,c6⟩,o0,F11⟩ ⟨uk,u1,u2⟩
 replace uk:n7=G.fTracks.length:=uk;subst uk
 refine aF ze_24 E (fun D4=>?_)
 refine co E (yS 2 [vI G.fPlaces,.slice A5 G.fTracks.length c6] sz_24 E (nB E) E E E) (oN (eT (cS (cR ?_))))
 obtain⟨o,wg,h⟩:=bOs h
 refine oC [] _ _ _ E go_68 E (fun W2 f=>l4  o wg W2 ) ?_
 rintro⟨⟨b,wm,c⟩,⟨f1,wl,f2⟩⟩ ⟨uX,uY⟩
 replace uX:wm=o.fB.length:=uX;subst uX
 replace uY:wl=o.fR.length:=uY;subst uY
 refine aF rA E (fun l=>?_)
 try dsimp only[lna,lca,lsz,lss]
 refine co E (yS 5 [.slice b o.fB.length c,.slice f1 o.fR.length f2] sz_53 E (nB E) E E E) (oN (eT (cS (cR (oY E (yFA bI E) (oY E (yL 2 f7 E E E) ?_))))))
 obtain⟨u0,h⟩:=gOs h
 refine oY E (yI iI (by decide) u0.1 u0.2 (RdL.row 0 E) (eL ar (NestP.hn u1 E)) E E) ?_
 refine oY E (yM (A:=A5) (j:=(Int.toNat 1*6)) [vI ((rdL G.fTracks 1).fID),vI ((rdL G.fTracks 1).fFrom),vI ((rdL G.fTracks 1).fTo),vI ((rdL G.fTracks 1).fLong),vI ((rdL G.fTracks 1).fToll),.slice ((rdL o0 1).1.1) ((rdL G.fTracks 1).fK.length) ((rdL o0 1).1.2.2)] gl (Nat.succ_pos _) (RdL.row 0 E) E (iM (bB (NestP.snd u1 1) (NestP.len u1 u0.1 (ai u0.2 E))).symm (be ar u0.1 (ai u0.2 (NestP.hn u1 E))))) ?_
 obtain⟨O,wr,h⟩:=bOs h
 refine oY E (yC [.agg #[vI ((rdL G.fTracks 1).fID),vI ((rdL G.fTracks 1).fFrom),vI ((rdL G.fTracks 1).fTo),vI ((rdL G.fTracks 1).fLong),vI ((rdL G.fTracks 1).fToll),.slice ((rdL o0 1).1.1) ((rdL G.fTracks 1).fK.length) ((rdL o0 1).1.2.2)],vI 8] go_69 E (fun W2 f=>qe (TT.mk ((rdL G.fTracks 1).fID) ((rdL G.fTracks 1).fFrom) ((rdL G.fTracks 1).fTo) ((rdL G.fTracks 1).fLong) ((rdL G.fTracks 1).fToll) ((rdL G.fTracks 1).fK)) 8 O wr W2 ((rdL o0 1).1.1) ((rdL G.fTracks 1).fK.length) ((rdL o0 1).1.2.2) E ((NestL.rd (PvL.nestL u1 u2 (fun W2 f=>⟨f.below,trivial,f.mem (i:=1) E⟩)) u0.1 (ai u0.2 E)) W2 f)) E) (oY E (aU E) (oY E (yE E E) (oY E (yE E E) (oY E (yAI E) (oY E (yAI E) (oN (eT (cS (cR (oY E (yN 2 [vI G.fPlaces,.slice A5 G.fTracks.length c6] dh E E E) ?_))))))))))
 obtain⟨Q,wu,h⟩:=bOs h
 refine oC [.agg #[vI G.fPlaces,.slice A5 G.fTracks.length c6],vI 0,vI 4] _ _ _ E go_49 E (fun W2 f=>j6 G 0 4 Q wu W2 A5 G.fTracks.length c6 o0 E ((RdL.row 0 E) W2 f) (NestL.at (PvL.nestL u1 u2 (fun W2 f=>⟨f.below,trivial,f.mem (i:=1) E⟩)) W2 f) W (fun _=>True) (fun W3 hb=>⟨f0 f.below hb,trivial⟩) ) ?_
 rintro⟨⟨uZ,wt,wa⟩,H,F38⟩ ⟨uV,I,u7⟩
 replace uV:wt=Q.1.fH.length:=uV;subst uV
 try dsimp only[lna,lca,lsz,lss]
 refine oY E (aU E) (oY E (yE E E) (oY E (yE E E) ?_))
 refine aF tt E (fun u3=>?_)
 try dsimp only[lna,lca,lsz,lss]
 refine co E (yS 8 [.slice uZ Q.1.fH.length wa] sz_87 E (nB E) E E E) (oY E (yAI E) (oN (eT (cS (cR (oY E (yN 2 [vI G.fPlaces,.slice A5 G.fTracks.length c6] dh E E E) ?_))))))
 obtain⟨u,wd,h⟩:=bOs h
 refine oC [.agg #[vI G.fPlaces,.slice A5 G.fTracks.length c6],vI 0,vI 2,vI 4] _ _ _ E go_61 E (fun W2 f=>qG G 0 2 4 u wd W2 A5 G.fTracks.length c6 o0 E ((RdL.row 0 E) W2 f) (NestL.at (PvL.nestL u1 u2 (fun W2 f=>⟨f.below,trivial,f.mem (i:=1) E⟩)) W2 f) W (fun _=>True) (fun W3 hb=>⟨f0 f.below hb,trivial⟩) ) ?_
 rintro⟨⟨t,wz,oi⟩,D0,F51⟩ ⟨uT,oj,D1⟩
 replace uT:wz=u.1.length:=uT;subst uT
 try dsimp only[lna,lca,lsz,lss]
 refine oY E (aU E) (oY E (yE E E) (oY E (yE E E) (oY E (yAS E) (oY E (yAI E) (oN (eT (cS (cR (oY E (yN 2 [vI G.fPlaces,.slice A5 G.fTracks.length c6] dh E E E) ?_)))))))))
 obtain⟨R,ww,h⟩:=bOs h
 refine oC [.agg #[vI G.fPlaces,.slice A5 G.fTracks.length c6],vI 0,vI 2,vI 4,vI 5] _ _ _ E go_18 E (fun W2 f=>m3 G 0 2 4 5 R ww W2 A5 G.fTracks.length c6 o0 E ((RdL.row 0 E) W2 f) (NestL.at (PvL.nestL u1 u2 (fun W2 f=>⟨f.below,trivial,f.mem (i:=1) E⟩)) W2 f) W (fun _=>True) (fun W3 hb=>⟨f0 f.below hb,trivial⟩) ) ?_
 rintro⟨⟨wi,wj,wk⟩,F61⟩ ⟨uS,D2⟩
 replace uS:wj=R.1.fLegs.length:=uS;subst uS
 try dsimp only[lna,lca,lsz,lss]
 refine oY E (aU E) (oY E (yE E E) (oY E (yE E E) ?_))
 refine aF la E (fun ot=>?_)
 try dsimp only[lna,lca,lsz,lss]
 refine co E (yS 12 [.slice wi R.1.fLegs.length wk,vI R.1.fA,vI R.1.fToll] mz E (nB E) E E E) (oY E (yAI E) (oN (eT (cS (cR (oY E (yN 2 [vI G.fPlaces,.slice A5 G.fTracks.length c6] dh E E E) ?_))))))
 obtain⟨F,wD,h⟩:=bOs h
 refine oY E (yC [.agg #[vI G.fPlaces,.slice A5 G.fTracks.length c6],vI 0,vI 2,vI 26,vI 0] go_19 E (fun W2 f=>pe G 0 2 26 0 F wD W2 A5 G.fTracks.length c6 o0 E ((RdL.row 0 E) W2 f) (NestL.at (PvL.nestL u1 u2 (fun W2 f=>⟨f.below,trivial,f.mem (i:=1) E⟩)) W2 f)) E) (oY E (aU E) (oY E (yE E E) (oY E (yE E E) (oY E (yAI E) (oY E (yAI E) (oN (eT (cS (cR (oY E (yN 2 [vI G.fPlaces,.slice A5 G.fTracks.length c6] dh E E E) ?_))))))))))
 obtain⟨d,wE,h⟩:=bOs h
 refine oC [.agg #[vI G.fPlaces,.slice A5 G.fTracks.length c6],vI 0,vI 2,vI 4,vI 0] _ _ _ E go_23 E (fun W2 f=>lh G 0 2 4 0 d wE W2 A5 G.fTracks.length c6 o0 E ((RdL.row 0 E) W2 f) (NestL.at (PvL.nestL u1 u2 (fun W2 f=>⟨f.below,trivial,f.mem (i:=1) E⟩)) W2 f)) ?_
 rintro⟨f3,wx,fr⟩ uR
 replace uR:wx=d.1.length:=uR;subst uR
 try dsimp only[lna,lca,lsz,lss]
 refine oY E (aU E) (oY E (yE E E) (oY E (yE E E) (oY E (yAS E) (oY E (yAI E) (oN (eT (cS (cR (oY E (yN 2 [vI G.fPlaces,.slice A5 G.fTracks.length c6] dh E E E) ?_)))))))))
 obtain⟨w,wF,h⟩:=bOs h
 refine oC [.agg #[vI G.fPlaces,.slice A5 G.fTracks.length c6],vI 0,vI 2,vI 4,vI 60] _ _ _ E go_23 E (fun W2 f=>lh G 0 2 4 60 w wF W2 A5 G.fTracks.length c6 o0 E ((RdL.row 0 E) W2 f) (NestL.at (PvL.nestL u1 u2 (fun W2 f=>⟨f.below,trivial,f.mem (i:=1) E⟩)) W2 f)) ?_
 rintro⟨a,wy,k⟩ uq
 replace uq:wy=w.1.length:=uq;subst uq
 try dsimp only[lna,lca,lsz,lss]
 refine oY E (aU E) (oY E (yE E E) (oY E (yE E E) (oY E (yAS E) (oY E (yAI E) (oN (eT (cS (cS (cR (oY E (yMI E) (oY E (cU E E) (oY E (yMB E) ?_))))))))))))
 refine oJ 3 (fun g=>(upd (upd (upd (upd (upd (upd (upd (upd (upd (upd (upd (upd (upd (upd (upd g 0 (.bool false)) 2 (.pointer (some ⟨l,0,none⟩))) 3 (vI O.1)) 5 (.pointer (some ⟨u3,0,none⟩))) 7 (.slice t u.1.length oi)) 8 (vI u.2)) 9 (.pointer (some ⟨ot,0,none⟩))) 10 (vI R.2)) 11 (vI F.1)) 12 (vI F.2)) 13 (.slice f3 d.1.length fr)) 14 (vI d.2)) 15 (.slice a w.1.length k)) 16 (vI w.2)) 74 (.bool ((O.2 !=0)||(Q.2 !=0))))) (fun g=>?_) (fun key=>?_)
 ·refine oY E (yMB E) ?_
  refine oJ 3 (fun g=>(upd (upd (upd (upd (upd (upd (upd (upd (upd (upd (upd (upd (upd (upd g 0 (.bool false)) 2 (.pointer (some ⟨l,0,none⟩))) 3 (vI O.1)) 5 (.pointer (some ⟨u3,0,none⟩))) 7 (.slice t u.1.length oi)) 9 (.pointer (some ⟨ot,0,none⟩))) 10 (vI R.2)) 11 (vI F.1)) 12 (vI F.2)) 13 (.slice f3 d.1.length fr)) 14 (vI d.2)) 15 (.slice a w.1.length k)) 16 (vI w.2)) 78 (.bool (((O.2 !=0)||(Q.2 !=0))||(u.2 !=0))))) (fun g=>?_) (fun key=>?_)
  ·refine oY E (yMB E) ?_
   refine oJ 3 (fun g=>(upd (upd (upd (upd (upd (upd (upd (upd (upd (upd (upd (upd (upd g 0 (.bool false)) 2 (.pointer (some ⟨l,0,none⟩))) 3 (vI O.1)) 5 (.pointer (some ⟨u3,0,none⟩))) 7 (.slice t u.1.length oi)) 9 (.pointer (some ⟨ot,0,none⟩))) 11 (vI F.1)) 12 (vI F.2)) 13 (.slice f3 d.1.length fr)) 14 (vI d.2)) 15 (.slice a w.1.length k)) 16 (vI w.2)) 82 (.bool ((((O.2 !=0)||(Q.2 !=0))||(u.2 !=0))||(R.2 !=0))))) (fun g=>?_) (fun key=>?_)
   ·refine oY E (yMB E) ?_
    refine oJ 3 (fun g=>(upd (upd (upd (upd (upd (upd (upd (upd (upd (upd (upd (upd g 0 (.bool false)) 2 (.pointer (some ⟨l,0,none⟩))) 3 (vI O.1)) 5 (.pointer (some ⟨u3,0,none⟩))) 7 (.slice t u.1.length oi)) 9 (.pointer (some ⟨ot,0,none⟩))) 11 (vI F.1)) 13 (.slice f3 d.1.length fr)) 14 (vI d.2)) 15 (.slice a w.1.length k)) 16 (vI w.2)) 86 (.bool (((((O.2 !=0)||(Q.2 !=0))||(u.2 !=0))||(R.2 !=0))||(F.2 !=0))))) (fun g=>?_) (fun key=>?_)
    ·refine oY E (yMB E) ?_
     refine oJ 3 (fun g=>(upd (upd (upd (upd (upd (upd (upd (upd (upd (upd (upd g 0 (.bool false)) 2 (.pointer (some ⟨l,0,none⟩))) 3 (vI O.1)) 5 (.pointer (some ⟨u3,0,none⟩))) 7 (.slice t u.1.length oi)) 9 (.pointer (some ⟨ot,0,none⟩))) 11 (vI F.1)) 13 (.slice f3 d.1.length fr)) 15 (.slice a w.1.length k)) 16 (vI w.2)) 90 (.bool ((((((O.2 !=0)||(Q.2 !=0))||(u.2 !=0))||(R.2 !=0))||(F.2 !=0))||(d.2 !=0))))) (fun g=>?_) (fun key=>?_)
     ·refine oY E (yMB E) ?_
      refine oJ 3 (fun g=>(upd (upd (upd (upd (upd (upd (upd (upd (upd (upd g 0 (.bool false)) 2 (.pointer (some ⟨l,0,none⟩))) 3 (vI O.1)) 5 (.pointer (some ⟨u3,0,none⟩))) 7 (.slice t u.1.length oi)) 9 (.pointer (some ⟨ot,0,none⟩))) 11 (vI F.1)) 13 (.slice f3 d.1.length fr)) 15 (.slice a w.1.length k)) 94 (.bool (((((((O.2 !=0)||(Q.2 !=0))||(u.2 !=0))||(R.2 !=0))||(F.2 !=0))||(d.2 !=0))||(w.2 !=0))))) (fun g=>?_) (fun key=>?_)
      ·refine oY E (yMB E) ?_
       refine oJ 3 (fun g=>(upd (upd (upd (upd (upd (upd (upd (upd (upd g 0 (.bool false)) 2 (.pointer (some ⟨l,0,none⟩))) 5 (.pointer (some ⟨u3,0,none⟩))) 7 (.slice t u.1.length oi)) 9 (.pointer (some ⟨ot,0,none⟩))) 11 (vI F.1)) 13 (.slice f3 d.1.length fr)) 15 (.slice a w.1.length k)) 98 (.bool ((((((((O.2 !=0)||(Q.2 !=0))||(u.2 !=0))||(R.2 !=0))||(F.2 !=0))||(d.2 !=0))||(w.2 !=0))||(O.1 !=21))))) (fun g=>?_) (fun key=>?_)
       ·refine oY E (yMB E) ?_
        refine oJ 5 (fun g=>(upd (upd (upd (upd (upd (upd (upd (upd (upd g 0 (.bool false)) 2 (.pointer (some ⟨l,0,none⟩))) 5 (.pointer (some ⟨u3,0,none⟩))) 7 (.slice t u.1.length oi)) 9 (.pointer (some ⟨ot,0,none⟩))) 11 (vI F.1)) 13 (.slice f3 d.1.length fr)) 15 (.slice a w.1.length k)) 104 (.bool (((((((((O.2 !=0)||(Q.2 !=0))||(u.2 !=0))||(R.2 !=0))||(F.2 !=0))||(d.2 !=0))||(w.2 !=0))||(O.1 !=21))||((Q.1.fH.length:Int) !=3))))) (fun g=>?_) (fun key=>?_)
        ·refine oY E (yMB E) ?_
         obtain⟨ux,wG,h⟩:=bOs h
         refine oJ 7 (fun g=>(upd (upd (upd (upd (upd (upd (upd (upd (upd g 0 (.bool false)) 2 (.pointer (some ⟨l,0,none⟩))) 5 (.pointer (some ⟨u3,0,none⟩))) 7 (.slice t u.1.length oi)) 9 (.pointer (some ⟨ot,0,none⟩))) 11 (vI F.1)) 13 (.slice f3 d.1.length fr)) 15 (.slice a w.1.length k)) 112 (.bool ux))) (fun g=>?_) (fun key=>?_)
         ·refine oY E (yMB E) ?_
          refine oJ 4 (fun g=>(upd (upd (upd (upd (upd (upd (upd (upd (upd g 0 (.bool false)) 2 (.pointer (some ⟨l,0,none⟩))) 5 (.pointer (some ⟨u3,0,none⟩))) 7 (.slice t u.1.length oi)) 9 (.pointer (some ⟨ot,0,none⟩))) 11 (vI F.1)) 13 (.slice f3 d.1.length fr)) 15 (.slice a w.1.length k)) 117 (.bool (ux||((u.1.length:Int) !=3))))) (fun g=>?_) (fun key=>?_)
          ·refine oN (eT ?_)
           rcases iOs h with⟨up,h⟩|⟨up,h⟩
           ·refine cT (vB up) (cS (cR (oY E (yAB E) (oN (eT (am (aa ?_)))))))
            obtain rfl:=sI h
            exact ak (.inl E) E (rVt (v:=.bool false) E) (fun W2 f=>⟨E,f.none⟩)
           ·refine cF (vB up) (cK (eT (cS (cR (oY E (yFA cq E) (oY E (yL 8 iE E E E) ?_))))))
            obtain⟨oq,h⟩:=gOs h
            refine oY E (yI iq (by decide) oq.1 oq.2 (RdL.row 6 E) (eL ao (NestP.hn I E)) E E) ?_
            refine oY E (yR (A:=uZ) (j:=(Int.toNat 2*1)) (v:=.slice ((rdL H 2).1.1) ((rdL Q.1.fH 2).length) ((rdL H 2).1.2.2)) gH (RdL.row 6 E) E (ax ao oq.1 (ai oq.2 (NestP.hn I E)) (congrArg (fun n:Nat=>some (Value.slice (rdL H 2).1.1 n (rdL H 2).1.2.2)) (NestP.len I oq.1 (ai oq.2 E))))) ?_
            obtain⟨uK,h⟩:=gOs h
            refine oY E (yI bS (by decide) uK.1 uK.2 (NestL.rd (PvL.nestL I u7 (fun W2 f=>⟨f.below,trivial,f.mem (i:=7) E⟩)) oq.1 (ai oq.2 E)) (eL aB E) E E) ?_
            refine oY E (yR (A:=((rdL H 2).1.1)) (j:=(Int.toNat 0*1)) (v:=vI (rdL (rdL Q.1.fH 2) 0)) aN (NestL.rd (PvL.nestL I u7 (fun W2 f=>⟨f.below,trivial,f.mem (i:=7) E⟩)) oq.1 (ai oq.2 E)) E (ax aB uK.1 (ai uK.2 E) E)) (oY E (cL E E) (oY E (yMB E) ?_))
            obtain⟨wb,wH,h⟩:=bOs h
            refine oJ 8 (fun g=>(upd (upd (upd (upd (upd (upd (upd (upd (upd g 0 (.bool false)) 2 (.pointer (some ⟨l,0,none⟩))) 5 (.pointer (some ⟨u3,0,none⟩))) 7 (.slice t u.1.length oi)) 9 (.pointer (some ⟨ot,0,none⟩))) 11 (vI F.1)) 13 (.slice f3 d.1.length fr)) 15 (.slice a w.1.length k)) 133 (.bool wb))) (fun g=>?_) (fun key=>?_)
            ·refine oY E (yMB E) ?_
             obtain⟨wc,wI,h⟩:=bOs h
             refine oJ 8 (fun g=>(upd (upd (upd (upd (upd (upd (upd (upd g 0 (.bool false)) 2 (.pointer (some ⟨l,0,none⟩))) 7 (.slice t u.1.length oi)) 9 (.pointer (some ⟨ot,0,none⟩))) 11 (vI F.1)) 13 (.slice f3 d.1.length fr)) 15 (.slice a w.1.length k)) 142 (.bool wc))) (fun g=>?_) (fun key=>?_)
             ·refine oY E (yMB E) ?_
              obtain⟨wK,uy,h⟩:=bOs h
              refine oJ 6 (fun g=>(upd (upd (upd (upd (upd (upd (upd (upd g 0 (.bool false)) 2 (.pointer (some ⟨l,0,none⟩))) 7 (.slice t u.1.length oi)) 9 (.pointer (some ⟨ot,0,none⟩))) 11 (vI F.1)) 13 (.slice f3 d.1.length fr)) 15 (.slice a w.1.length k)) 149 (.bool wK))) (fun g=>?_) (fun key=>?_)
              ·refine oY E (yMB E) ?_
               obtain⟨wM,ub,h⟩:=bOs h
               refine oJ 6 (fun g=>(upd (upd (upd (upd (upd (upd (upd (upd g 0 (.bool false)) 2 (.pointer (some ⟨l,0,none⟩))) 7 (.slice t u.1.length oi)) 9 (.pointer (some ⟨ot,0,none⟩))) 11 (vI F.1)) 13 (.slice f3 d.1.length fr)) 15 (.slice a w.1.length k)) 156 (.bool wM))) (fun g=>?_) (fun key=>?_)
               ·refine oY E (yMB E) ?_
                obtain⟨ud,uc,h⟩:=bOs h
                refine oJ 6 (fun g=>(upd (upd (upd (upd (upd (upd (upd g 0 (.bool false)) 2 (.pointer (some ⟨l,0,none⟩))) 9 (.pointer (some ⟨ot,0,none⟩))) 11 (vI F.1)) 13 (.slice f3 d.1.length fr)) 15 (.slice a w.1.length k)) 163 (.bool ud))) (fun g=>?_) (fun key=>?_)
                ·refine oY E (yMB E) ?_
                 refine oJ 4 (fun g=>(upd (upd (upd (upd (upd (upd g 0 (.bool false)) 2 (.pointer (some ⟨l,0,none⟩))) 11 (vI F.1)) 13 (.slice f3 d.1.length fr)) 15 (.slice a w.1.length k)) 168 (.bool (ud&&(R.1.fA==17))))) (fun g=>?_) (fun key=>?_)
                 ·refine oY E (yMB E) ?_
                  refine oJ 3 (fun g=>(upd (upd (upd (upd (upd g 0 (.bool false)) 2 (.pointer (some ⟨l,0,none⟩))) 13 (.slice f3 d.1.length fr)) 15 (.slice a w.1.length k)) 172 (.bool ((ud&&(R.1.fA==17))&&(F.1==16))))) (fun g=>?_) (fun key=>?_)
                  ·refine oY E (yMB E) ?_
                   obtain⟨wN,d0,h⟩:=bOs h
                   refine oJ 4 (fun g=>(upd (upd (upd (upd g 0 (.bool false)) 2 (.pointer (some ⟨l,0,none⟩))) 15 (.slice a w.1.length k)) 177 (.bool wN))) (fun g=>?_) (fun key=>?_)
                   ·refine oY E (yMB E) ?_
                    obtain⟨o1,d1,h⟩:=bOs h
                    refine oJ 4 (fun g=>(upd (upd (upd g 0 (.bool false)) 2 (.pointer (some ⟨l,0,none⟩))) 182 (.bool o1))) (fun g=>?_) (fun key=>?_)
                    ·refine oY E (yAB E) (oN (eT (cS (cR (oY E (yN 5 [.slice b o.fB.length c,.slice f1 o.fR.length f2] dl E E E) ?_)))))
                     obtain⟨K,d2,h⟩:=bOs h
                     refine oC [.agg #[.slice b o.fB.length c,.slice f1 o.fR.length f2]] _ _ _ E go_37 E (fun W2 f=>qa o K d2 W2 b o.fB.length c E ((RdL.row 3 E) W2 f) f1 o.fR.length f2 E ((RdL.row 4 E) W2 f) W (fun _=>True) (fun W3 hb=>⟨f0 f.below hb,trivial⟩) ) ?_
                     rintro⟨⟨⟨uM,wO,uN⟩,F126⟩,⟨⟨uO,wQ,uQ⟩,F132⟩⟩ ⟨uE,d3,uF,d4⟩
                     replace uE:wO=K.1.fG.length:=uE;subst uE
                     replace uF:wQ=K.1.fPrices.length:=uF;subst uF
                     try dsimp only[lna,lca,lsz,lss]
                     refine oY E (aU E) (oY E (yE E E) (oY E (yE E E) ?_))
                     refine aF sV E (fun wU=>?_)
                     try dsimp only[lna,lca,lsz,lss]
                     refine co E (yS 17 [.slice uM K.1.fG.length uN,vI K.1.fW,.slice uO K.1.fPrices.length uQ] sz_71 E (nB E) E E E) (oY E (yAI E) (oN (eT (cS (cR (oY E (yN 5 [.slice b o.fB.length c,.slice f1 o.fR.length f2] dl E E E) ?_))))))
                     obtain⟨o2,d5,h⟩:=bOs h
                     refine oC [.agg #[.slice b o.fB.length c,.slice f1 o.fR.length f2]] _ _ _ E go_27 E (fun W2 f=>o8 o o2 d5 W2 b o.fB.length c E ((RdL.row 3 E) W2 f) f1 o.fR.length f2 E ((RdL.row 4 E) W2 f)) ?_
                     rintro⟨uw,wX,uD⟩ uG
                     replace uG:wX=o2.1.length:=uG;subst uG
                     try dsimp only[lna,lca,lsz,lss]
                     refine oY E (aU E) (oY E (yE E E) (oY E (yE E E) (oY E (yAS E) (oY E (yAI E) (oN (eT (cS (cR (oY E (yN 5 [.slice b o.fB.length c,.slice f1 o.fR.length f2] dl E E E) ?_)))))))))
                     obtain⟨Y,dd,h⟩:=bOs h
                     refine oC [.agg #[.slice b o.fB.length c,.slice f1 o.fR.length f2]] _ _ _ E go_29 E (fun W2 f=>pR o Y dd W2 b o.fB.length c E ((RdL.row 3 E) W2 f) f1 o.fR.length f2 E ((RdL.row 4 E) W2 f)) ?_
                     rintro⟨u4,wY,u5⟩ uH
                     replace uH:wY=Y.1.length:=uH;subst uH
                     try dsimp only[lna,lca,lsz,lss]
                     refine oY E (aU E) (oY E (yE E E) (oY E (yE E E) (oY E (yAS E) (oY E (yAI E) (oN (eT (cS (cR (oY E (yN 5 [.slice b o.fB.length c,.slice f1 o.fR.length f2] dl E E E) ?_)))))))))
                     refine aR 3 (encL cI [7,8,9]) _ mc_3_3 cO mF pu (by decide) (by decide) (by kernel_rfl) (eL aB E) E (fun ul=>?_)
                     try dsimp only[lna,lca,lsz,lss]
                     obtain⟨D,dn,h⟩:=bOs h
                     refine oC [.agg #[.slice b o.fB.length c,.slice f1 o.fR.length f2],.slice (some ⟨ul,0,none⟩) 3 3] _ _ _ E go_31 E (fun W2 f=>nW o [7,8,9] D dn W2 b o.fB.length c E ((RdL.row 3 E) W2 f) f1 o.fR.length f2 E ((RdL.row 4 E) W2 f) (some ⟨ul,0,none⟩) 3 3 E ((RdL.row 20 E) W2 f)) ?_
                     rintro⟨op,wZ,om⟩ uI
                     replace uI:wZ=D.1.length:=uI;subst uI
                     try dsimp only[lna,lca,lsz,lss]
                     refine oY E (aU E) (oY E (yE E E) (oY E (yE E E) (oY E (yAS E) (oY E (yAI E) (oN (eT (cS (cR (oY E (yN 5 [.slice b o.fB.length c,.slice f1 o.fR.length f2] dl E E E) ?_)))))))))
                     obtain⟨r,dy,h⟩:=bOs h
                     refine oY E (yC [.agg #[.slice b o.fB.length c,.slice f1 o.fR.length f2],vI 1] go_33 E (fun W2 f=>qS o 1 r dy W2 b o.fB.length c E ((RdL.row 3 E) W2 f) f1 o.fR.length f2 E ((RdL.row 4 E) W2 f)) E) (oY E (aU E) (oY E (yE E E) (oY E (yE E E) (oY E (yAI E) (oY E (yAI E) (oN (eT (cS (cR (oY E (yMI E) (oY E (cL E E) (oY E (yMB E) ?_))))))))))))
                     refine oJ 4 (fun g=>(upd (upd (upd (upd (upd (upd (upd (upd (upd (upd (upd (upd (upd g 0 (.bool false)) 2 (.pointer (some ⟨l,0,none⟩))) 17 (.bool o1)) 18 (.pointer (some ⟨wU,0,none⟩))) 20 (.slice uw o2.1.length uD)) 21 (vI o2.2)) 22 (.slice u4 Y.1.length u5)) 23 (vI Y.2)) 24 (.slice op D.1.length om)) 25 (vI D.2)) 26 (vI r.1)) 27 (vI r.2)) 215 (.bool ((K.2==0)&&(K.1.fW==14))))) (fun g=>?_) (fun key=>?_)
                     ·refine oY E (yMB E) ?_
                      obtain⟨un,w0,h⟩:=bOs h
                      refine oJ 5 (fun g=>(upd (upd (upd (upd (upd (upd (upd (upd (upd (upd (upd g 0 (.bool false)) 17 (.bool o1)) 20 (.slice uw o2.1.length uD)) 21 (vI o2.2)) 22 (.slice u4 Y.1.length u5)) 23 (vI Y.2)) 24 (.slice op D.1.length om)) 25 (vI D.2)) 26 (vI r.1)) 27 (vI r.2)) 221 (.bool un))) (fun g=>?_) (fun key=>?_)
                      ·refine oY E (yMB E) ?_
                       refine oJ 3 (fun g=>(upd (upd (upd (upd (upd (upd (upd (upd (upd (upd g 0 (.bool false)) 17 (.bool o1)) 20 (.slice uw o2.1.length uD)) 22 (.slice u4 Y.1.length u5)) 23 (vI Y.2)) 24 (.slice op D.1.length om)) 25 (vI D.2)) 26 (vI r.1)) 27 (vI r.2)) 225 (.bool (un&&(o2.2==0))))) (fun g=>?_) (fun key=>?_)
                       ·refine oY E (yMB E) ?_
                        obtain⟨um,w2,h⟩:=bOs h
                        refine oJ 4 (fun g=>(upd (upd (upd (upd (upd (upd (upd (upd (upd g 0 (.bool false)) 17 (.bool o1)) 22 (.slice u4 Y.1.length u5)) 23 (vI Y.2)) 24 (.slice op D.1.length om)) 25 (vI D.2)) 26 (vI r.1)) 27 (vI r.2)) 230 (.bool um))) (fun g=>?_) (fun key=>?_)
                        ·refine oY E (yMB E) ?_
                         refine oJ 3 (fun g=>(upd (upd (upd (upd (upd (upd (upd (upd g 0 (.bool false)) 17 (.bool o1)) 22 (.slice u4 Y.1.length u5)) 24 (.slice op D.1.length om)) 25 (vI D.2)) 26 (vI r.1)) 27 (vI r.2)) 234 (.bool (um&&(Y.2==0))))) (fun g=>?_) (fun key=>?_)
                         ·refine oY E (yMB E) ?_
                          obtain⟨uU,w3,h⟩:=bOs h
                          refine oJ 4 (fun g=>(upd (upd (upd (upd (upd (upd (upd g 0 (.bool false)) 17 (.bool o1)) 24 (.slice op D.1.length om)) 25 (vI D.2)) 26 (vI r.1)) 27 (vI r.2)) 239 (.bool uU))) (fun g=>?_) (fun key=>?_)
                          ·refine oY E (yAB E) (oN (eT (cS (cR (oY E (yMB E) (oY E (yMB E) ?_))))))
                           refine oJ 2 (fun g=>(upd (upd (upd (upd (upd (upd g 0 (.bool false)) 24 (.slice op D.1.length om)) 25 (vI D.2)) 26 (vI r.1)) 27 (vI r.2)) 243 (.bool (o1&&uU)))) (fun g=>?_) (fun key=>?_)
                           ·refine oY E (yMB E) ?_
                            refine oJ 3 (fun g=>(upd (upd (upd (upd (upd g 0 (.bool false)) 24 (.slice op D.1.length om)) 26 (vI r.1)) 27 (vI r.2)) 247 (.bool ((o1&&uU)&&(D.2==0))))) (fun g=>?_) (fun key=>?_)
                            ·refine oY E (yMB E) ?_
                             obtain⟨u8,w4,h⟩:=bOs h
                             refine oJ 4 (fun g=>(upd (upd (upd (upd g 0 (.bool false)) 26 (vI r.1)) 27 (vI r.2)) 252 (.bool u8))) (fun g=>?_) (fun key=>?_)
                             ·refine oY E (yMB E) ?_
                              refine oJ 3 (fun g=>(upd (upd (upd g 0 (.bool false)) 26 (vI r.1)) 256 (.bool (u8&&(r.2==0))))) (fun g=>?_) (fun key=>?_)
                              ·refine oY E (yMB E) ?_
                               refine oJ 3 (fun g=>(upd (upd g 0 (.bool false)) 260 (.bool ((u8&&(r.2==0))&&(r.1==5))))) (fun g=>?_) (fun key=>?_)
                               ·refine oY E (yAB E) (oN (eT (am ?_)))
                                obtain rfl:=sI h
                                exact ak (.inl E) E (rVt (v:=.bool ((u8&&(r.2==0))&&(r.1==5))) E) (fun W2 f=>⟨E,f.none⟩)
                               ·rcases aq (u8&&(r.2==0))with fd|fd
                                ·refine oY (sT E E E E fd) (yMI E) (oY (sT E E E E fd) (cL E E) (oY E (ac (vB fd) E) ?_))
                                 exact key _ _ (keep (keep E E) (vB (eU fd)))
                                ·refine oSk (sF E E E E fd) (oSk (sF E E E E fd) (oY E (ad (vB fd) E) ?_))
                                 exact key _ _ (keep (keep E E) (vB (eY fd)))
                              ·rcases aq u8 with fD|fD
                               ·refine oY (sT E E E E fD) (yMI E) (oY (sT E E E E fD) (cL E E) (oY E (ac (vB fD) E) ?_))
                                exact key _ _ (keep (keep (keep E E) E) (vB (eU fD)))
                               ·refine oSk (sF E E E E fD) (oSk (sF E E E E fD) (oY E (ad (vB fD) E) ?_))
                                exact key _ _ (keep (keep (keep E E) E) (vB (eY fD)))
                             ·clear h;rcases iOs w4 with⟨fE,h⟩|⟨fE,h⟩
                              ·refine oY (sT E E E E fE) (yMS E) ?_
                               refine aR 2 (encL cI [8,9]) _ mc_3_2 cO mF pu (by decide) (by decide) (by kernel_rfl) (eL aB E) (sT E E E E fE) (fun ut=>?_)
                               try dsimp only[lna,lca,lsz,lss]
                               obtain⟨wV,w5,h⟩:=bOs h
                               refine oY (sT E E E E fE) (yC [.slice op D.1.length om,.slice (some ⟨ut,0,none⟩) 2 2] sW E (fun W2 f=>cz D.1 [8,9] wV w5 W2 op D.1.length om E ((RdL.row 21 E) W2 f) (some ⟨ut,0,none⟩) 2 2 E ((RdL.row 22 E) W2 f)) E) (oY E (ac (vB fE) E) ?_)
                               obtain rfl:=sI h
                               refine oK 22 ?_
                               exact key _ _ (kp4 E)
                              ·refine oSk (sF E E E E fE) (oSk (sF E E E E fE) (oSk (sF E E E E fE) (oY E (ad (vB fE) E) ?_)))
                               obtain rfl:=sI h
                               exact key _ _ (kp4 E)
                            ·rcases aq (o1&&uU)with fT|fT
                             ·refine oY (sT E E E E fT) (yMI E) (oY (sT E E E E fT) (cL E E) (oY E (ac (vB fT) E) ?_))
                              exact key _ _ (keep (keep (keep (keep (keep E E) E) E) E) (vB (eU fT)))
                             ·refine oSk (sF E E E E fT) (oSk (sF E E E E fT) (oY E (ad (vB fT) E) ?_))
                              exact key _ _ (keep (keep (keep (keep (keep E E) E) E) E) (vB (eY fT)))
                           ·rcases aq o1 with oa|oa
                            ·refine oY (sT E E E E oa) (yMB E) (oY E (ac (vB oa) E) ?_)
                             exact key _ _ (keep (keep (keep (keep (keep (keep E E) E) E) E) E) (vB (eU oa)))
                            ·refine oSk (sF E E E E oa) (oY E (ad (vB oa) E) ?_)
                             exact key _ _ (keep (keep (keep (keep (keep (keep E E) E) E) E) E) (vB (eY oa)))
                          ·clear h;rcases iOs w3 with⟨fn,h⟩|⟨fn,h⟩
                           ·refine oY (sT E E E E fn) (yMS E) ?_
                            refine aR 1 (encL cI [9]) _ ob cO mF pu (by decide) (by decide) (by kernel_rfl) (eL aB E) (sT E E E E fn) (fun ua=>?_)
                            try dsimp only[lna,lca,lsz,lss]
                            obtain⟨wT,w6,h⟩:=bOs h
                            refine oY (sT E E E E fn) (yC [.slice u4 Y.1.length u5,.slice (some ⟨ua,0,none⟩) 1 1] sW E (fun W2 f=>cz Y.1 [9] wT w6 W2 u4 Y.1.length u5 E ((RdL.row 19 E) W2 f) (some ⟨ua,0,none⟩) 1 1 E ((RdL.row 22 E) W2 f)) E) (oY E (ac (vB fn) E) ?_)
                            obtain rfl:=sI h
                            refine oK 22 ?_
                            exact key _ _ (kp4 (kp (kp (kp E))))
                           ·refine oSk (sF E E E E fn) (oSk (sF E E E E fn) (oSk (sF E E E E fn) (oY E (ad (vB fn) E) ?_)))
                            obtain rfl:=sI h
                            exact key _ _ (kp4 (kp (kp (kp E))))
                         ·rcases aq um with fl|fl
                          ·refine oY (sT E E E E fl) (yMI E) (oY (sT E E E E fl) (cL E E) (oY E (ac (vB fl) E) ?_))
                           exact key _ _ (keep (keep (keep (keep (keep (keep (keep (keep E E) E) E) E) E) E) E) (vB (eU fl)))
                          ·refine oSk (sF E E E E fl) (oSk (sF E E E E fl) (oY E (ad (vB fl) E) ?_))
                           exact key _ _ (keep (keep (keep (keep (keep (keep (keep (keep E E) E) E) E) E) E) E) (vB (eY fl)))
                        ·clear h;rcases iOs w2 with⟨ft,h⟩|⟨ft,h⟩
                         ·refine oY (sT E E E E ft) (yMS E) ?_
                          refine aR 2 (encL cI [7,8]) _ mc_3_2 cO mF pu (by decide) (by decide) (by kernel_rfl) (eL aB E) (sT E E E E ft) (fun uz=>?_)
                          try dsimp only[lna,lca,lsz,lss]
                          obtain⟨wS,w7,h⟩:=bOs h
                          refine oY (sT E E E E ft) (yC [.slice uw o2.1.length uD,.slice (some ⟨uz,0,none⟩) 2 2] sW E (fun W2 f=>cz o2.1 [7,8] wS w7 W2 uw o2.1.length uD E ((RdL.row 18 E) W2 f) (some ⟨uz,0,none⟩) 2 2 E ((RdL.row 22 E) W2 f)) E) (oY E (ac (vB ft) E) ?_)
                          obtain rfl:=sI h
                          refine oK 22 ?_
                          exact key _ _ (kp4 (kp4 (kp E)))
                         ·refine oSk (sF E E E E ft) (oSk (sF E E E E ft) (oSk (sF E E E E ft) (oY E (ad (vB ft) E) ?_)))
                          obtain rfl:=sI h
                          exact key _ _ (kp4 (kp4 (kp E)))
                       ·rcases aq un with g1|g1
                        ·refine oY (sT E E E E g1) (yMI E) (oY (sT E E E E g1) (cL E E) (oY E (ac (vB g1) E) ?_))
                         exact key _ _ (keep (keep (keep (keep (keep (keep (keep (keep (keep (keep E E) E) E) E) E) E) E) E) E) (vB (eU g1)))
                        ·refine oSk (sF E E E E g1) (oSk (sF E E E E g1) (oY E (ad (vB g1) E) ?_))
                         exact key _ _ (keep (keep (keep (keep (keep (keep (keep (keep (keep (keep E E) E) E) E) E) E) E) E) E) (vB (eY g1)))
                      ·clear h;rcases iOs w0 with⟨Z,h⟩|⟨Z,h⟩
                       ·refine oY (sT E E E E Z) (yN 5 [.slice b o.fB.length c,.slice f1 o.fR.length f2] dl E E E) (oY (sT E E E E Z) (yN 17 [.slice uM K.1.fG.length uN,vI K.1.fW,.slice uO K.1.fPrices.length uQ] ag_71 E E E) ?_)
                        obtain⟨wR,w8,h⟩:=bOs h
                        refine oY (sT E E E E Z) (yC [.agg #[.slice b o.fB.length c,.slice f1 o.fR.length f2],.agg #[.slice uM K.1.fG.length uN,vI K.1.fW,.slice uO K.1.fPrices.length uQ]] go_44 E (fun W2 f=>l6 o K.1 wR w8 W2 b o.fB.length c E ((RdL.row 3 E) W2 f) f1 o.fR.length f2 E ((RdL.row 4 E) W2 f) uM K.1.fG.length uN E ((Pv.rdl d3 (fun W2 f=>⟨f.below,trivial,f.mem (i:=15) E⟩)) W2 f) uO K.1.fPrices.length uQ E ((Pv.rdl d4 (fun W2 f=>⟨f.below,trivial,f.mem (i:=16) E⟩)) W2 f)) E) (oY (sT E E E E Z) (cL E E) (oY E (ac (vB Z) E) ?_))
                        obtain rfl:=sI h
                        exact key _ _ (kp4 (kp4 (kp (kp (kp E)))))
                       ·refine oSk (sF E E E E Z) (oSk (sF E E E E Z) (oSk (sF E E E E Z) (oSk (sF E E E E Z) (oY E (ad (vB Z) E) ?_))))
                        obtain rfl:=sI h
                        exact key _ _ (kp4 (kp4 (kp (kp (kp E)))))
                     ·rcases aq (K.2==0)with V|V
                      ·refine oY (sT E E E E V) (yFA ql E) (oY (sT E E E E V) (yL 17 aN E E E) (oY (sT E E E E V) (cL E E) (oY E (ac (vB V) E) ?_)))
                       exact key _ _ (keep (keep (keep (keep (keep (keep (keep (keep (keep (keep (keep (keep (keep E E) E) E) E) E) E) E) E) E) E) E) E) (vB (eU V)))
                      ·refine oSk (sF E E E E V) (oSk (sF E E E E V) (oSk (sF E E E E V) (oY E (ad (vB V) E) ?_)))
                       exact key _ _ (keep (keep (keep (keep (keep (keep (keep (keep (keep (keep (keep (keep (keep E E) E) E) E) E) E) E) E) E) E) E) E) (vB (eY V)))
                    ·clear h;rcases iOs d1 with⟨g2,h⟩|⟨g2,h⟩
                     ·refine oY (sT E E E E g2) (yMS E) ?_
                      refine aR 1 (encL cI [3]) _ ob cO mF pu (by decide) (by decide) (by kernel_rfl) (eL aB E) (sT E E E E g2) (fun ui=>?_)
                      try dsimp only[lna,lca,lsz,lss]
                      obtain⟨wq,w9,h⟩:=bOs h
                      refine oY (sT E E E E g2) (yC [.slice a w.1.length k,.slice (some ⟨ui,0,none⟩) 1 1] sW E (fun W2 f=>cz w.1 [3] wq w9 W2 a w.1.length k E ((RdL.row 14 E) W2 f) (some ⟨ui,0,none⟩) 1 1 E ((RdL.row 15 E) W2 f)) E) (oY E (ac (vB g2) E) ?_)
                      obtain rfl:=sI h
                      refine oK 15 ?_
                      exact key _ _ (kp (kp (kp E)))
                     ·refine oSk (sF E E E E g2) (oSk (sF E E E E g2) (oSk (sF E E E E g2) (oY E (ad (vB g2) E) ?_)))
                      obtain rfl:=sI h
                      exact key _ _ (kp (kp (kp E)))
                   ·clear h;rcases iOs d0 with⟨gf,h⟩|⟨gf,h⟩
                    ·refine oY (sT E E E E gf) (yMS E) ?_
                     refine aR 2 (encL cI [1,2]) _ mc_3_2 cO mF pu (by decide) (by decide) (by kernel_rfl) (eL aB E) (sT E E E E gf) (fun uj=>?_)
                     try dsimp only[lna,lca,lsz,lss]
                     obtain⟨wp,wf,h⟩:=bOs h
                     refine oY (sT E E E E gf) (yC [.slice f3 d.1.length fr,.slice (some ⟨uj,0,none⟩) 2 2] sW E (fun W2 f=>cz d.1 [1,2] wp wf W2 f3 d.1.length fr E ((RdL.row 13 E) W2 f) (some ⟨uj,0,none⟩) 2 2 E ((RdL.row 15 E) W2 f)) E) (oY E (ac (vB gf) E) ?_)
                     obtain rfl:=sI h
                     refine oK 15 ?_
                     exact key _ _ (kp4 E)
                    ·refine oSk (sF E E E E gf) (oSk (sF E E E E gf) (oSk (sF E E E E gf) (oY E (ad (vB gf) E) ?_)))
                     obtain rfl:=sI h
                     exact key _ _ (kp4 E)
                  ·rcases aq (ud&&(R.1.fA==17))with go|go
                   ·refine oY (sT E E E E go) (yMI E) (oY (sT E E E E go) (cL E E) (oY E (ac (vB go) E) ?_))
                    exact key _ _ (keep (keep (keep (keep (keep E E) E) E) E) (vB (eU go)))
                   ·refine oSk (sF E E E E go) (oSk (sF E E E E go) (oY E (ad (vB go) E) ?_))
                    exact key _ _ (keep (keep (keep (keep (keep E E) E) E) E) (vB (eY go)))
                 ·rcases aq ud with T|T
                  ·refine oY (sT E E E E T) (yFA lv E) (oY (sT E E E E T) (yL 12 aN E E E) (oY (sT E E E E T) (cL E E) (oY E (ac (vB T) E) ?_)))
                   exact key _ _ (keep (keep (keep (keep (keep (keep E E) E) E) E) E) (vB (eU T)))
                  ·refine oSk (sF E E E E T) (oSk (sF E E E E T) (oSk (sF E E E E T) (oY E (ad (vB T) E) ?_)))
                   exact key _ _ (keep (keep (keep (keep (keep (keep E E) E) E) E) E) (vB (eY T)))
                ·clear h;rcases iOs uc with⟨M,h⟩|⟨M,h⟩
                 ·refine oY (sT E E E E M) (yMS E) ?_
                  obtain⟨uf,h⟩:=gOs h
                  refine oY (sT E E E E M) (yI sk (by decide) uf.1 uf.2 (RdL.row 9 E) (eL bk (NestP.hn oj E)) E E) ?_
                  refine oY (sT E E E E M) (yFR (A:=t) (j:=(Int.toNat 2*3)) n2 E) (oY (sT E E E E M) (yR (A:=t) (j:=((Int.toNat 2*3)+2)) (v:=vI ((rdL u.1 2).fToll)) aN (RdL.row 9 E) E (eG bk uf.1 (ai uf.2 (NestP.hn oj E)) (congrArg (fun z:TJ=>some (Value.int .i64 z.fToll)) (NestP.snd oj 2)))) (oY (sT E E E E M) (cL E E) (oY E (ac (vB M) E) ?_)))
                  obtain rfl:=sI h
                  exact key _ _ (kp4 (kp (kp (kp E))))
                 ·refine oSk (sF E E E E M) (oSk (sF E E E E M) (oSk (sF E E E E M) (oSk (sF E E E E M) (oSk (sF E E E E M) (oY E (ad (vB M) E) ?_)))))
                  obtain rfl:=sI h
                  exact key _ _ (kp4 (kp (kp (kp E))))
               ·clear h;rcases iOs ub with⟨N,h⟩|⟨N,h⟩
                ·refine oY (sT E E E E N) (yMS E) ?_
                 obtain⟨ug,h⟩:=gOs h
                 refine oY (sT E E E E N) (yI sk (by decide) ug.1 ug.2 (RdL.row 9 E) (eL bk (NestP.hn oj E)) E E) ?_
                 refine oY (sT E E E E N) (yFR (A:=t) (j:=(Int.toNat 1*3)) lv E) (oY (sT E E E E N) (yR (A:=t) (j:=((Int.toNat 1*3)+1)) (v:=vI ((rdL u.1 1).fA)) aN (RdL.row 9 E) E (eG bk ug.1 (ai ug.2 (NestP.hn oj E)) (congrArg (fun z:TJ=>some (Value.int .i64 z.fA)) (NestP.snd oj 1)))) (oY (sT E E E E N) (cL E E) (oY E (ac (vB N) E) ?_)))
                 obtain rfl:=sI h
                 exact key _ _ (kp4 (kp4 E))
                ·refine oSk (sF E E E E N) (oSk (sF E E E E N) (oSk (sF E E E E N) (oSk (sF E E E E N) (oSk (sF E E E E N) (oY E (ad (vB N) E) ?_)))))
                 obtain rfl:=sI h
                 exact key _ _ (kp4 (kp4 E))
              ·clear h;rcases iOs uy with⟨x,h⟩|⟨x,h⟩
               ·refine oY (sT E E E E x) (yMS E) ?_
                obtain⟨uo,h⟩:=gOs h
                refine oY (sT E E E E x) (yI sk (by decide) uo.1 uo.2 (RdL.row 9 E) (eL bk (NestP.hn oj E)) E E) ?_
                refine oY (sT E E E E x) (yFR (A:=t) (j:=(Int.toNat 0*3)) n2 E) (oY (sT E E E E x) (yR (A:=t) (j:=((Int.toNat 0*3)+2)) (v:=vI ((rdL u.1 0).fToll)) aN (RdL.row 9 E) E (eG bk uo.1 (ai uo.2 (NestP.hn oj E)) (congrArg (fun z:TJ=>some (Value.int .i64 z.fToll)) (NestP.snd oj 0)))) (oY (sT E E E E x) (cL E E) (oY E (ac (vB x) E) ?_)))
                obtain rfl:=sI h
                exact key _ _ (kp4 (kp4 E))
               ·refine oSk (sF E E E E x) (oSk (sF E E E E x) (oSk (sF E E E E x) (oSk (sF E E E E x) (oSk (sF E E E E x) (oY E (ad (vB x) E) ?_)))))
                obtain rfl:=sI h
                exact key _ _ (kp4 (kp4 E))
             ·clear h;rcases iOs wI with⟨U,h⟩|⟨U,h⟩
              ·refine oY (sT E E E E U) (yFA cq E) (oY (sT E E E E U) (yL 8 iE E E E) ?_)
               obtain⟨q,h⟩:=gOs h
               refine oY (sT E E E E U) (yI iq (by decide) q.1 q.2 (RdL.row 6 E) (eL ao (NestP.hn I E)) E E) ?_
               refine oY (sT E E E E U) (yR (A:=uZ) (j:=(Int.toNat 2*1)) (v:=.slice ((rdL H 2).1.1) ((rdL Q.1.fH 2).length) ((rdL H 2).1.2.2)) gH (RdL.row 6 E) E (ax ao q.1 (ai q.2 (NestP.hn I E)) (congrArg (fun n:Nat=>some (Value.slice (rdL H 2).1.1 n (rdL H 2).1.2.2)) (NestP.len I q.1 (ai q.2 E))))) ?_
               obtain⟨ur,h⟩:=gOs h
               refine oY (sT E E E E U) (yI bS (by decide) ur.1 ur.2 (NestL.rd (PvL.nestL I u7 (fun W2 f=>⟨f.below,trivial,f.mem (i:=7) E⟩)) q.1 (ai q.2 E)) (eL aB E) E E) ?_
               refine oY (sT E E E E U) (yR (A:=((rdL H 2).1.1)) (j:=(Int.toNat 6*1)) (v:=vI (rdL (rdL Q.1.fH 2) 6)) aN (NestL.rd (PvL.nestL I u7 (fun W2 f=>⟨f.below,trivial,f.mem (i:=7) E⟩)) q.1 (ai q.2 E)) E (ax aB ur.1 (ai ur.2 E) E)) (oY (sT E E E E U) (cL E E) (oY E (ac (vB U) E) ?_))
               obtain rfl:=sI h
               exact key _ _ (kp4 (kp4 E))
              ·refine oSk (sF E E E E U) (oSk (sF E E E E U) (oSk (sF E E E E U) (oSk (sF E E E E U) (oSk (sF E E E E U) (oSk (sF E E E E U) (oSk (sF E E E E U) (oY E (ad (vB U) E) ?_)))))))
               obtain rfl:=sI h
               exact key _ _ (kp4 (kp4 E))
            ·clear h;rcases iOs wH with⟨X,h⟩|⟨X,h⟩
             ·refine oY (sT E E E E X) (yFA cq E) (oY (sT E E E E X) (yL 8 iE E E E) ?_)
              obtain⟨p,h⟩:=gOs h
              refine oY (sT E E E E X) (yI iq (by decide) p.1 p.2 (RdL.row 6 E) (eL ao (NestP.hn I E)) E E) ?_
              refine oY (sT E E E E X) (yR (A:=uZ) (j:=(Int.toNat 2*1)) (v:=.slice ((rdL H 2).1.1) ((rdL Q.1.fH 2).length) ((rdL H 2).1.2.2)) gH (RdL.row 6 E) E (ax ao p.1 (ai p.2 (NestP.hn I E)) (congrArg (fun n:Nat=>some (Value.slice (rdL H 2).1.1 n (rdL H 2).1.2.2)) (NestP.len I p.1 (ai p.2 E))))) ?_
              obtain⟨uu,h⟩:=gOs h
              refine oY (sT E E E E X) (yI bS (by decide) uu.1 uu.2 (NestL.rd (PvL.nestL I u7 (fun W2 f=>⟨f.below,trivial,f.mem (i:=7) E⟩)) p.1 (ai p.2 E)) (eL aB E) E E) ?_
              refine oY (sT E E E E X) (yR (A:=((rdL H 2).1.1)) (j:=(Int.toNat 2*1)) (v:=vI (rdL (rdL Q.1.fH 2) 2)) aN (NestL.rd (PvL.nestL I u7 (fun W2 f=>⟨f.below,trivial,f.mem (i:=7) E⟩)) p.1 (ai p.2 E)) E (ax aB uu.1 (ai uu.2 E) E)) (oY (sT E E E E X) (cL E E) (oY E (ac (vB X) E) ?_))
              obtain rfl:=sI h
              exact key _ _ (kp4 (kp4 (kp E)))
             ·refine oSk (sF E E E E X) (oSk (sF E E E E X) (oSk (sF E E E E X) (oSk (sF E E E E X) (oSk (sF E E E E X) (oSk (sF E E E E X) (oSk (sF E E E E X) (oY E (ad (vB X) E) ?_)))))))
              obtain rfl:=sI h
              exact key _ _ (kp4 (kp4 (kp E)))
          ·rcases aq ux with oX|oX
           ·refine oSk (sF E E E E oX) (oSk (sF E E E E oX) (oSk (sF E E E E oX) (oY E (ac (vB oX) E) ?_)))
            exact key _ _ (keep (keep (keep (keep (keep (keep (keep (keep (keep E E) E) E) E) E) E) E) E) (vB (iy oX)))
           ·refine oY (sT E E E E oX) (yMS E) (oY (sT E E E E oX) (bg (us:=[]) sD E) (oY (sT E E E E oX) (cU E E) (oY E (ad (vB oX) E) ?_)))
            exact key _ _ (keep (keep (keep (keep (keep (keep (keep (keep (keep E E) E) E) E) E) E) E) E) (vB (iw oX)))
         ·clear h;rcases iOs wG with⟨S,h⟩|⟨S,h⟩
          ·refine oSk (sF E E E E S) (oSk (sF E E E E S) (oSk (sF E E E E S) (oSk (sF E E E E S) (oSk (sF E E E E S) (oSk (sF E E E E S) (oY E (ac (vB S) E) ?_))))))
           obtain rfl:=sI h
           exact key _ _ (kp4 (kp4 (kp E)))
          ·refine oY (sT E E E E S) (yFA cq E) (oY (sT E E E E S) (yL 8 iE E E E) ?_)
           obtain⟨rx,h⟩:=gOs h
           refine oY (sT E E E E S) (yI iq (by decide) rx.1 rx.2 (RdL.row 6 E) (eL ao (NestP.hn I E)) E E) ?_
           refine oY (sT E E E E S) (yR (A:=uZ) (j:=(Int.toNat 2*1)) (v:=.slice ((rdL H 2).1.1) ((rdL Q.1.fH 2).length) ((rdL H 2).1.2.2)) gH (RdL.row 6 E) E (ax ao rx.1 (ai rx.2 (NestP.hn I E)) (congrArg (fun n:Nat=>some (Value.slice (rdL H 2).1.1 n (rdL H 2).1.2.2)) (NestP.len I rx.1 (ai rx.2 E))))) (oY (sT E E E E S) (bg (us:=[]) cO E) (oY (sT E E E E S) (cU E E) (oY E (ad (vB S) E) ?_)))
           obtain rfl:=sI h
           exact key _ _ (kp4 (kp4 (kp E)))
        ·rcases aq ((((((((O.2 !=0)||(Q.2 !=0))||(u.2 !=0))||(R.2 !=0))||(F.2 !=0))||(d.2 !=0))||(w.2 !=0))||(O.1 !=21))with y|y
         ·refine oSk (sF E E E E y) (oSk (sF E E E E y) (oSk (sF E E E E y) (oSk (sF E E E E y) (oY E (ac (vB y) E) ?_))))
          exact key _ _ (keep (keep (keep (keep (keep (keep (keep (keep (keep E E) E) E) E) E) E) E) E) (vB (iy y)))
         ·refine oY (sT E E E E y) (yFA cq E) (oY (sT E E E E y) (yL 8 iE E E E) (oY (sT E E E E y) (bg (us:=[]) nq E) (oY (sT E E E E y) (cU E E) (oY E (ad (vB y) E) ?_))))
          exact key _ _ (keep (keep (keep (keep (keep (keep (keep (keep (keep E E) E) E) E) E) E) E) E) (vB (iw y)))
       ·rcases aq (((((((O.2 !=0)||(Q.2 !=0))||(u.2 !=0))||(R.2 !=0))||(F.2 !=0))||(d.2 !=0))||(w.2 !=0))with ok|ok
        ·refine oSk (sF E E E E ok) (oSk (sF E E E E ok) (oY E (ac (vB ok) E) ?_))
         exact key _ _ (keep (keep (keep (keep (keep (keep (keep (keep (keep E E) E) E) E) E) E) E) E) (vB (iy ok)))
        ·refine oY (sT E E E E ok) (yMI E) (oY (sT E E E E ok) (cU E E) (oY E (ad (vB ok) E) ?_))
         exact key _ _ (keep (keep (keep (keep (keep (keep (keep (keep (keep E E) E) E) E) E) E) E) E) (vB (iw ok)))
      ·rcases aq ((((((O.2 !=0)||(Q.2 !=0))||(u.2 !=0))||(R.2 !=0))||(F.2 !=0))||(d.2 !=0))with r0|r0
       ·refine oSk (sF E E E E r0) (oSk (sF E E E E r0) (oY E (ac (vB r0) E) ?_))
        exact key _ _ (keep (keep (keep (keep (keep (keep (keep (keep (keep (keep E E) E) E) E) E) E) E) E) E) (vB (iy r0)))
       ·refine oY (sT E E E E r0) (yMI E) (oY (sT E E E E r0) (cU E E) (oY E (ad (vB r0) E) ?_))
        exact key _ _ (keep (keep (keep (keep (keep (keep (keep (keep (keep (keep E E) E) E) E) E) E) E) E) E) (vB (iw r0)))
     ·rcases aq (((((O.2 !=0)||(Q.2 !=0))||(u.2 !=0))||(R.2 !=0))||(F.2 !=0))with r1|r1
      ·refine oSk (sF E E E E r1) (oSk (sF E E E E r1) (oY E (ac (vB r1) E) ?_))
       exact key _ _ (keep (keep (keep (keep (keep (keep (keep (keep (keep (keep (keep E E) E) E) E) E) E) E) E) E) E) (vB (iy r1)))
      ·refine oY (sT E E E E r1) (yMI E) (oY (sT E E E E r1) (cU E E) (oY E (ad (vB r1) E) ?_))
       exact key _ _ (keep (keep (keep (keep (keep (keep (keep (keep (keep (keep (keep E E) E) E) E) E) E) E) E) E) E) (vB (iw r1)))
    ·rcases aq ((((O.2 !=0)||(Q.2 !=0))||(u.2 !=0))||(R.2 !=0))with r2|r2
     ·refine oSk (sF E E E E r2) (oSk (sF E E E E r2) (oY E (ac (vB r2) E) ?_))
      exact key _ _ (keep (keep (keep (keep (keep (keep (keep (keep (keep (keep (keep (keep E E) E) E) E) E) E) E) E) E) E) E) (vB (iy r2)))
     ·refine oY (sT E E E E r2) (yMI E) (oY (sT E E E E r2) (cU E E) (oY E (ad (vB r2) E) ?_))
      exact key _ _ (keep (keep (keep (keep (keep (keep (keep (keep (keep (keep (keep (keep E E) E) E) E) E) E) E) E) E) E) E) (vB (iw r2)))
   ·rcases aq (((O.2 !=0)||(Q.2 !=0))||(u.2 !=0))with r3|r3
    ·refine oSk (sF E E E E r3) (oSk (sF E E E E r3) (oY E (ac (vB r3) E) ?_))
     exact key _ _ (keep (keep (keep (keep (keep (keep (keep (keep (keep (keep (keep (keep (keep E E) E) E) E) E) E) E) E) E) E) E) E) (vB (iy r3)))
    ·refine oY (sT E E E E r3) (yMI E) (oY (sT E E E E r3) (cU E E) (oY E (ad (vB r3) E) ?_))
     exact key _ _ (keep (keep (keep (keep (keep (keep (keep (keep (keep (keep (keep (keep (keep E E) E) E) E) E) E) E) E) E) E) E) E) (vB (iw r3)))
  ·rcases aq ((O.2 !=0)||(Q.2 !=0))with r4|r4
   ·refine oSk (sF E E E E r4) (oSk (sF E E E E r4) (oY E (ac (vB r4) E) ?_))
    exact key _ _ (keep (keep (keep (keep (keep (keep (keep (keep (keep (keep (keep (keep (keep (keep E E) E) E) E) E) E) E) E) E) E) E) E) E) (vB (iy r4)))
   ·refine oY (sT E E E E r4) (yMI E) (oY (sT E E E E r4) (cU E E) (oY E (ad (vB r4) E) ?_))
    exact key _ _ (keep (keep (keep (keep (keep (keep (keep (keep (keep (keep (keep (keep (keep (keep E E) E) E) E) E) E) E) E) E) E) E) E) E) (vB (iw r4)))
 ·rcases aq (O.2 !=0)with r5|r5
  ·refine oSk (sF E E E E r5) (oSk (sF E E E E r5) (oY E (ac (vB r5) E) ?_))
   exact key _ _ (keep (keep (keep (keep (keep (keep (keep (keep (keep (keep (keep (keep (keep (keep (keep E E) E) E) E) E) E) E) E) E) E) E) E) E) E) (vB (iy r5)))
  ·refine oY (sT E E E E r5) (yMI E) (oY (sT E E E E r5) (cU E E) (oY E (ad (vB r5) E) ?_))
   exact key _ _ (keep (keep (keep (keep (keep (keep (keep (keep (keep (keep (keep (keep (keep (keep (keep E E) E) E) E) E) E) E) E) E) E) E) E) E) E) (vB (iw r5)))
end Go.Proofs.YthndghnkebboaaaGreat
set_option maxHeartbeats 4000000
set_option maxRecDepth 100000
namespace Go.Proofs.YthndghnkebboaaaGreat
open Go.RowKit (Below)
attribute [local irreducible] OX QX CX EX OpY Calls CallsIn
theorem nu (p0:TR) (res:Bool) (h:gn p0=some res) (W:World) (Ab:Option Addr) (F cb:Nat) (r:List (Hd × TT)) (I:F=p0.fTracks.length) (G:Rd W Ab F cb (encL TTrack_cells2 r)) (w:NestW W (fun z:TT=>z.fK) TSpan_cells r p0.fTracks) :
  Calls Tryz.prog 16 [.agg #[vI p0.fPlaces,.slice Ab F cb]].toArray W fun e W2=>e=.returned (.bool res)∧Ext W W2 []:=by
 subst I
 unfold gn at h
 refine ag (m:=49) Tryz.func16 E E (nB E) (cS (cR ?_))
 refine aI [vI p0.fPlaces,.slice Ab p0.fTracks.length cb] E E E (fun Y=>?_)
 refine oY E (yAB E) (oN (eT (cS (cS (cR (oY E (yAI E) (oN (eT (cB ?_)))))))))
 obtain⟨V,Z,h⟩:=bOs h
 refine ba (fun(s:(Bool × Int)) L tm=>∃(u:Nat→Value),L=[al Y 24 [vI p0.fPlaces,.slice Ab p0.fTracks.length cb]]∧tm=(upd (upd (upd u 1 (.pointer (some ⟨Y,0,none⟩))) 2 (.bool s.1)) 3 (vI s.2))) 0 Z ⟨_,E,(kp (kp (kp E)))⟩ ?_ ?_
 ·rintro K L tm st ⟨U,rfl,rfl⟩ h
  unfold fx at h
  refine cS (cS (cR (oY E (yMI E) (oY E (yFA bI E) (oY E (yL 0 f7 E E E) (oY E (bg (us:=[]) ij E) (oY E (a6 E E) (oN (eT ?_)))))))))
  rcases iOs h with⟨M,h⟩|⟨M,h⟩
  ·refine cT (vB M) (cK (eT (cS (cB (cS (cR (oY E (yFA bI E) (oY E (yL 0 f7 E E E) (oY E (yMI E) ?_)))))))))
   obtain⟨D,h⟩:=gOs h
   refine oY E (yI iI (by decide) D.1 D.2 (RdL.arg G) (eL ar (NestP.hn w.p E)) E E) ?_
   refine oY E (yFR (A:=Ab) (j:=(Int.toNat K.2*6)) fC E) (oY E (yR (A:=Ab) (j:=((Int.toNat K.2*6)+5)) (v:=.slice ((rdL r K.2).1.1) ((rdL p0.fTracks K.2).fK.length) ((rdL r K.2).1.2.2)) j9 (RdL.arg G) E (eG ar D.1 (ai D.2 (NestP.hn w.p E)) (congrArg (fun n:Nat=>some (Value.slice (rdL r K.2).1.1 n (rdL r K.2).1.2.2)) (NestP.len w.p D.1 (ai D.2 E))))) (oY E (bg (us:=[]) lW E) (oY E (eW E E) (oN (eT ?_)))))
   rcases iOs h with⟨N,h⟩|⟨N,h⟩
   ·refine cT (vB N) (cS (cR (oY E (yAB E) (oN (eT (am (ah (aa ?_))))))))
    obtain rfl:=sI h
    exact au ⟨E,_,E,(kp (kp (kp E)))⟩
   ·refine cF (vB N) (cK (aw (eT (cR (oY E (yMI E) (oY E (aM E E) (oY E (yAI E) (oN ?_))))))))
    obtain rfl:=sI h
    exact eN ⟨_,E,(kp (kp (kp E)))⟩
  ·refine cF (vB M) (aD (aj ?_))
   obtain rfl:=sI h
   exact au ⟨E,_,E,(kp (kp (kp E)))⟩
 ·intro e L tm hJ
  rcases V with T|H
  ·dsimp only at h hJ
   obtain⟨rfl,X,rfl,rfl⟩:=hJ
   refine⟨(by intro hc;cases hc),?_⟩
   refine ah (aa ?_)
   obtain rfl:=sI h
   exact ak (.inl E) E (rVt (v:=.bool T.1) E) (fun W2 O=>⟨E,O.none⟩)
  ·dsimp only at h hJ
   obtain⟨rfl,Q,rfl,rfl⟩:=hJ
   refine⟨(by intro hc;cases hc),?_⟩
   refine ae (eT (cS (cR (oY E (yFA dE E) (oY E (yL 0 aN E E E) (oY E (iA E E) (oY E (yMB E) ?_)))))))
   refine oJ 4 (fun u=>(upd (upd (upd u 1 (.pointer (some ⟨Y,0,none⟩))) 2 (.bool H.1)) 28 (.bool ((decide (p0.fPlaces≤8))||(decide (16<p0.fPlaces)))))) (fun u=>?_) (fun key=>?_)
   ·refine oY E (yAB E) (oN (eT (cS (cR (oY E (yFA bI E) (oY E (yL 0 f7 E E E) (oY E (bg (us:=[]) ij E) (oY E (iA E E) (oY E (yMB E) ?_)))))))))
    refine oJ 11 (fun u=>(upd (upd (upd u 2 (.bool H.1)) 4 (.bool ((decide (p0.fPlaces≤8))||(decide (16<p0.fPlaces))))) 44 (.bool ((decide ((p0.fTracks.length:Int)≤16))||((decide (48<(p0.fTracks.length:Int)))&&(decide ((p0.fTracks.length:Int)≤60))))))) (fun u=>?_) (fun key=>?_)
    ·refine oY E (yAB E) (oN (eT (cS (cR (oY E (yMB E) (oY E (yMB E) ?_))))))
     refine oJ 2 (fun u=>(upd (upd u 2 (.bool H.1)) 48 (.bool (((decide (p0.fPlaces≤8))||(decide (16<p0.fPlaces)))&&((decide ((p0.fTracks.length:Int)≤16))||((decide (48<(p0.fTracks.length:Int)))&&(decide ((p0.fTracks.length:Int)≤60)))))))) (fun u=>?_) (fun key=>?_)
     ·refine oY E (yAB E) (oN (eT (am ?_)))
      obtain rfl:=sI h
      exact ak (.inl E) E (rVt (v:=.bool (((decide (p0.fPlaces≤8))||(decide (16<p0.fPlaces)))&&((decide ((p0.fTracks.length:Int)≤16))||((decide (48<(p0.fTracks.length:Int)))&&(decide ((p0.fTracks.length:Int)≤60)))))) E) (fun W2 O=>⟨E,O.none⟩)
     ·rcases aq ((decide (p0.fPlaces≤8))||(decide (16<p0.fPlaces)))with d|d
      ·refine oY (sT E E E E d) (yMB E) (oY E (ac (vB d) E) ?_)
       exact key _ _ (keep (keep E E) (vB (eU d)))
      ·refine oSk (sF E E E E d) (oY E (ad (vB d) E) ?_)
       exact key _ _ (keep (keep E E) (vB (eY d)))
    ·rcases aq (decide ((p0.fTracks.length:Int)≤16))with f|f
     ·refine oSk (sF E E E E f) (oSk (sF E E E E f) (oSk (sF E E E E f) (oSk (sF E E E E f) (oSk (sF E E E E f) (oSk E (oSk E (oSk E (oSk E (oSk (sF E E E E f) (oY E (ac (vB f) E) ?_))))))))))
      exact key _ _ (keep (keep (keep E E) E) (vB (iy f)))
     ·refine oY (sT E E E E f) (yFA bI E) (oY (sT E E E E f) (yL 0 f7 E E E) (oY (sT E E E E f) (bg (us:=[]) ij E) (oY (sT E E E E f) (eW E E) (oY (sT E E E E f) (yMB E) ?_))))
      refine oJ 5 (fun u=>(upd (upd (upd (upd u 2 (.bool H.1)) 4 (.bool ((decide (p0.fPlaces≤8))||(decide (16<p0.fPlaces))))) 33 (.bool (decide ((p0.fTracks.length:Int)≤16)))) 43 (.bool ((decide (48<(p0.fTracks.length:Int)))&&(decide ((p0.fTracks.length:Int)≤60)))))) (fun u=>?_) (fun key=>?_)
      ·refine oY E (ad (vB f) E) ?_
       exact key _ _ (keep (keep (keep E E) E) (vB (iw f)))
      ·rcases aq (decide (48<(p0.fTracks.length:Int)))with g|g
       ·refine oY (sT E E E E g) (yFA bI E) (oY (sT E E E E g) (yL 0 f7 E E E) (oY (sT E E E E g) (bg (us:=[]) ij E) (oY (sT E E E E g) (iA E E) (oY (sT E E E E f) (ac (vB g) E) ?_))))
        exact key _ _ (keep (keep (keep (keep E E) E) E) (vB (eU g)))
       ·refine oSk (sF E E E E g) (oSk (sF E E E E g) (oSk (sF E E E E g) (oSk (sF E E E E g) (oY (sT E E E E f) (ad (vB g) E) ?_))))
        exact key _ _ (keep (keep (keep (keep E E) E) E) (vB (eY g)))
   ·rcases aq (decide (p0.fPlaces≤8))with o|o
    ·refine oSk (sF E E E E o) (oSk (sF E E E E o) (oSk (sF E E E E o) (oY E (ac (vB o) E) ?_)))
     exact key _ _ (keep (keep (keep E E) E) (vB (iy o)))
    ·refine oY (sT E E E E o) (yFA dE E) (oY (sT E E E E o) (yL 0 aN E E E) (oY (sT E E E E o) (eW E E) (oY E (ad (vB o) E) ?_)))
     exact key _ _ (keep (keep (keep E E) E) (vB (iw o)))
end Go.Proofs.YthndghnkebboaaaGreat
set_option maxHeartbeats 4000000
set_option maxRecDepth 100000
namespace Go.Proofs.YthndghnkebboaaaGreat
open Go.RowKit (Below)
attribute [local irreducible] OX QX CX EX OpY Calls CallsIn
theorem mu (p0:TJ) (res:Bool) (h:gc p0=some res) (W:World) (Aa:Option Addr) (f ca:Nat) (g:f=p0.fLegs.length) (o:Rd W Aa f ca (encL TLeg_cells p0.fLegs)) :
  Calls Tryz.prog 47 [.agg #[.slice Aa f ca,vI p0.fA,vI p0.fToll]].toArray W fun e W2=>e=.returned (.bool res)∧Ext W W2 []:=by
 subst g
 unfold gc at h
 refine ag (m:=7) Tryz.func47 E E (nB E) (cS (cR ?_))
 refine aI [.slice Aa p0.fLegs.length ca,vI p0.fA,vI p0.fToll] E E E (fun u=>?_)
 refine oY E (yAB E) (oN (eT (cS (cR (oY E (yFA kJ E) (oY E (yL 0 rK E E E) (oY E (bg (us:=[]) th E) (oY E (iA E E) (oY E (yAB E) (oN (eT (am ?_))))))))))))
 obtain rfl:=sI h
 exact ak (.inl E) E (rVt (v:=.bool (decide ((p0.fLegs.length:Int)≤40))) E) (fun W2 r=>⟨E,r.none⟩)
theorem mU (p0:TTimes) (res:Bool) (h:fm p0=some res) (W:World) (Aa:Option Addr) (r ca:Nat) (f:List (Hd × (List Int))) (d:r=p0.fH.length) (u:Rd W Aa r ca (encL SlInt_cells2 f)) (g:NestW W (fun z:(List Int)=>z) cI f p0.fH) :
  Calls Tryz.prog 48 [.agg #[.slice Aa r ca]].toArray W fun e W2=>e=.returned (.bool res)∧Ext W W2 []:=by
 subst d
 unfold fm at h
 refine ag (m:=22) Tryz.func48 E E (nB E) (cS (cR ?_))
 refine aI [.slice Aa p0.fH.length ca] E E E (fun O=>?_)
 refine oY E (yAB E) (oN (eT (cS (cS (cR (oY E (yAI E) (oN (eT (cB ?_)))))))))
 obtain⟨Q,M,h⟩:=bOs h
 refine ba (fun(s:(Bool × Int)) L tm=>∃(N:Nat→Value),L=[al O 87 [.slice Aa p0.fH.length ca]]∧tm=(upd (upd (upd N 1 (.pointer (some ⟨O,0,none⟩))) 2 (.bool s.1)) 3 (vI s.2))) 0 M ⟨_,E,(kp (kp (kp E)))⟩ ?_ ?_
 ·rintro G L tm st ⟨I,rfl,rfl⟩ h
  unfold eQ at h
  refine cS (cS (cR (oY E (yMI E) (oY E (yFA cq E) (oY E (yL 0 iE E E E) (oY E (bg (us:=[]) nq E) (oY E (a6 E E) (oN (eT ?_)))))))))
  rcases iOs h with⟨w,h⟩|⟨w,h⟩
  ·refine cT (vB w) (cK (eT (cS (cB (cS (cR (oY E (yFA cq E) (oY E (yL 0 iE E E E) (oY E (yMI E) ?_)))))))))
   obtain⟨o,h⟩:=gOs h
   refine oY E (yI iq (by decide) o.1 o.2 (RdL.arg u) (eL ao (NestP.hn g.p E)) E E) ?_
   refine oY E (yR (A:=Aa) (j:=(Int.toNat G.2*1)) (v:=.slice ((rdL f G.2).1.1) ((rdL p0.fH G.2).length) ((rdL f G.2).1.2.2)) gH (RdL.arg u) E (ax ao o.1 (ai o.2 (NestP.hn g.p E)) (congrArg (fun n:Nat=>some (Value.slice (rdL f G.2).1.1 n (rdL f G.2).1.2.2)) (NestP.len g.p o.1 (ai o.2 E))))) (oY E (bg (us:=[]) cO E) (oY E (eW E E) (oN (eT ?_))))
   rcases iOs h with⟨D,h⟩|⟨D,h⟩
   ·refine cT (vB D) (cS (cR (oY E (yAB E) (oN (eT (am (ah (aa ?_))))))))
    obtain rfl:=sI h
    exact au ⟨E,_,E,(kp (kp (kp E)))⟩
   ·refine cF (vB D) (cK (aw (eT (cR (oY E (yMI E) (oY E (aM E E) (oY E (yAI E) (oN ?_))))))))
    obtain rfl:=sI h
    exact eN ⟨_,E,(kp (kp (kp E)))⟩
  ·refine cF (vB w) (aD (aj ?_))
   obtain rfl:=sI h
   exact au ⟨E,_,E,(kp (kp (kp E)))⟩
 ·intro e L tm hJ
  rcases Q with U|X
  ·dsimp only at h hJ
   obtain⟨rfl,K,rfl,rfl⟩:=hJ
   refine⟨(by intro hc;cases hc),?_⟩
   refine ah (aa ?_)
   obtain rfl:=sI h
   exact ak (.inl E) E (rVt (v:=.bool U.1) E) (fun W2 F=>⟨E,F.none⟩)
  ·dsimp only at h hJ
   obtain⟨rfl,H,rfl,rfl⟩:=hJ
   refine⟨(by intro hc;cases hc),?_⟩
   refine ae (eT (cS (cR (oY E (yFA cq E) (oY E (yL 0 iE E E E) (oY E (bg (us:=[]) nq E) (oY E (iA E E) (oY E (yAB E) (oN (eT (am ?_)))))))))))
   obtain rfl:=sI h
   exact ak (.inl E) E (rVt (v:=.bool (decide ((p0.fH.length:Int)≤20))) E) (fun W2 F=>⟨E,F.none⟩)
theorem ge (p0:(List (List Int))) (p1:(List Int)→Option Bool) (res:Int) (h:bp p0 p1=some res) (W:World) (Aa:Option Addr) (d ca:Nat) (f:List (Hd × (List Int))) (D:d=p0.length) (w:Rd W Aa d ca (encL SlInt_cells2 f)) (g:NestW W (fun z:(List Int)=>z) cI f p0) (fid1:Nat) (fst1 caps1:List Value) (H:bu Tryz.prog fid1=true) (I:∀W2,Below W.heap.size W W2→∀x,∀(hx:Hd),Rd W2 hx.1 x.length hx.2.2 (encL cI x)→∀y,p1 x=some y→Calls Tryz.prog fid1 (fst1++(([.slice hx.1 x.length hx.2.2]:List Value)++caps1)).toArray W2 fun e W3=>e=.returned (.bool y)∧Ext W2 W3 []) :
  Calls Tryz.prog 180 [.slice Aa d ca,.func (.func fid1) fst1.toArray caps1.toArray].toArray W fun e W2=>e=.returned (vI res)∧Ext W W2 []:=by
 subst D
 unfold bp at h
 refine ag (m:=19) Tryz.func180 E E (nB E) (cS (cR (oY E (yAI E) (oN (eT (cS (cS (cR (oY E (yMS E) (oY E (bg (us:=[]) nq E) (oY E (yMI E) (oN (eT (cB ?_))))))))))))))
 obtain⟨Y,O,h⟩:=bOs h
 refine ba (fun(s:(Int × Int)) L tm=>∃(Q:Nat→Value),L=[]∧tm=(upd (upd (upd (upd (upd Q 0 (.slice Aa p0.length ca)) 1 (.func (.func fid1) fst1.toArray caps1.toArray)) 4 (vI s.1)) 7 (vI (p0.length:Int))) 8 (vI s.2))) 0 O ⟨_,E,(kp4 (kp E))⟩ ?_ ?_
 ·rintro u L tm st ⟨N,rfl,rfl⟩ h
  unfold aZ at h
  refine cS (cR (oY E (a6 E E) (oN (eT (cS ?_)))))
  rcases iOs h with⟨F,h⟩|⟨F,h⟩
  ·refine cT (vB F) (cK (eT (cS (cB (cS (cR (oY E (yMI E) (oY E (yAI E) (oN (eT (cS (cR (oY E (bE (v:=.func (.func fid1) fst1.toArray caps1.toArray) E) (oY E (yMS E) (oY E (yMI E) ?_)))))))))))))))
   obtain⟨o,h⟩:=gOs h
   refine oY E (yI iq (by decide) o.1 o.2 (RdL.arg w) (eL ao (NestP.hn g.p E)) E E) ?_
   refine oY E (yR (A:=Aa) (j:=(Int.toNat u.2*1)) (v:=.slice ((rdL f u.2).1.1) ((rdL p0 u.2).length) ((rdL f u.2).1.2.2)) gH (RdL.arg w) E (ax ao o.1 (ai o.2 (NestP.hn g.p E)) (congrArg (fun n:Nat=>some (Value.slice (rdL f u.2).1.1 n (rdL f u.2).1.2.2)) (NestP.len g.p o.1 (ai o.2 E))))) ?_
   obtain⟨Z,U,h⟩:=bOs h
   refine oY E (gN [.slice ((rdL f u.2).1.1) ((rdL p0 u.2).length) ((rdL f u.2).1.2.2)] H E E (fun W2 r=>I W2 r.below (rdL p0 u.2) ((rdL f u.2).1.1,0,(rdL f u.2).1.2.2) ((NestL.rd (NestL.arg g) o.1 (ai o.2 E)) W2 r) Z U)) (oN (eT ?_))
   rcases iOs h with⟨G,h⟩|⟨G,h⟩
   ·refine cT (vB G) (cS (cR (oY E (yMI E) (oY E (yAI E) (oN (eT (am (ah (aa ?_)))))))))
    obtain rfl:=sI h
    exact au ⟨E,_,E,(kp4 (kp E))⟩
   ·refine cF (vB G) (cK (aw (eT (cR (oY E (aM E E) (oY E (yMI E) (oN ?_)))))))
    obtain rfl:=sI h
    exact eN ⟨_,E,(kp4 (kp E))⟩
  ·refine cF (vB F) (aD (aj ?_))
   obtain rfl:=sI h
   exact au ⟨E,_,E,(kp4 (kp E))⟩
 ·intro e L tm hJ
  rcases Y with X|V
  ·dsimp only at h hJ
   obtain⟨rfl,K,rfl,rfl⟩:=hJ
   refine⟨(by intro hc;cases hc),?_⟩
   refine ah (aa ?_)
   obtain rfl:=sI h
   exact ak (.inl E) E (rVt (v:=vI X.1) E) (fun W2 r=>⟨E,r.none⟩)
  ·dsimp only at h hJ
   obtain⟨rfl,M,rfl,rfl⟩:=hJ
   refine⟨(by intro hc;cases hc),?_⟩
   refine ae (eT (cS (cR (oY E (yAI E) (oN (eT (am ?_)))))))
   obtain rfl:=sI h
   exact ak (.inl E) E (rVt (v:=vI (-1)) E) (fun W2 r=>⟨E,r.none⟩)
theorem k9 (p0:(List (List Int))) (p1:(List Int)→Option Bool) (res:Int) (h:fb p0 p1=some res) (W:World) (Aa:Option Addr) (g ca:Nat) (f:List (Hd × (List Int))) (r:g=p0.length) (u:Rd W Aa g ca (encL SlInt_cells2 f)) (d:NestW W (fun z:(List Int)=>z) cI f p0) (fid1:Nat) (fst1 caps1:List Value) (w:bu Tryz.prog fid1=true) (D:∀W2,Below W.heap.size W W2→∀x,∀(hx:Hd),Rd W2 hx.1 x.length hx.2.2 (encL cI x)→∀y,p1 x=some y→Calls Tryz.prog fid1 (fst1++(([.slice hx.1 x.length hx.2.2]:List Value)++caps1)).toArray W2 fun e W3=>e=.returned (.bool y)∧Ext W2 W3 []) :
  Calls Tryz.prog 151 [.slice Aa g ca,.func (.func fid1) fst1.toArray caps1.toArray].toArray W fun e W2=>e=.returned (vI res)∧Ext W W2 []:=by
 subst r
 unfold fb at h
 refine ag (m:=8) Tryz.func151 E E (nB E) (cS (cR (oY E (yAI E) (oN (eT (cS (cR (oY E (yMS E) (oY E (bE (v:=.func (.func fid1) fst1.toArray caps1.toArray) E) ?_)))))))))
 obtain⟨G,F,h⟩:=bOs h
 refine oY E (yC [.slice Aa p0.length ca,.func (.func fid1) fst1.toArray caps1.toArray] go_180 E (fun W2 o=>ge p0 p1 G F W2 Aa p0.length ca f E ((RdL.arg u) W2 o) (NestL.at (NestL.arg d) W2 o) fid1 fst1 caps1 w (fun W3 hb=>D W3 (f0 o.below hb))) E) (oY E (yAI E) (oN (eT (am ?_))))
 obtain rfl:=sI h
 exact ak (.inl E) E (rVt (v:=vI G) E) (fun W2 o=>⟨E,o.none⟩)
theorem oZ (p0:(List Int)) (res:Bool) (h:g6 p0=some res) (W:World) (Aa:Option Addr) (d ca:Nat) (G:d=p0.length) (w:Rd W Aa d ca (encL cI p0)) :
  Calls Tryz.prog 153 [.slice Aa d ca].toArray W fun e W2=>e=.returned (.bool res)∧Ext W W2 []:=by
 subst G
 unfold g6 at h
 refine ag (m:=33) Tryz.func153 E E (nB E) (cS (cR (oY E (yAB E) (oN (eT (cS (cR (oY E (yAI E) (oN (eT (cS (cS (cR (oY E (yMS E) (oY E (bg (us:=[]) cO E) (oY E (yMI E) (oN (eT (cB ?_)))))))))))))))))))
 obtain⟨Y,K,h⟩:=bOs h
 refine ba (fun(s:(Bool × Int × Int)) L tm=>∃(u:Nat→Value),L=[]∧tm=(upd (upd (upd (upd (upd (upd u 0 (.slice Aa p0.length ca)) 2 (.bool s.1)) 3 (vI s.2.1)) 6 (.slice Aa p0.length ca)) 7 (vI (p0.length:Int))) 8 (vI s.2.2))) 0 K ⟨_,E,(kp4 (kp (kp E)))⟩ ?_ ?_
 ·rintro o L tm st ⟨Q,rfl,rfl⟩ h
  unfold gv at h
  refine cS (cR (oY E (a6 E E) (oN (eT (cS ?_)))))
  rcases iOs h with⟨H,h⟩|⟨H,h⟩
  ·refine cT (vB H) (cK (eT (cS (cB (cS (cR ?_))))))
   obtain⟨D,h⟩:=gOs h
   refine oY E (yI bS (by decide) D.1 D.2 (RdL.arg w) (eL aB E) E E) ?_
   refine oY E (yR (A:=Aa) (j:=(Int.toNat o.2.2*1)) (v:=vI (rdL p0 o.2.2)) aN (RdL.arg w) E (ax aB D.1 (ai D.2 E) E)) (oY E (yAI E) (oN (eT (cS (cS (cR (oY E (yMI E) ?_)))))))
   obtain⟨M,U,h⟩:=bOs h
   refine oY E (yC [vI (rdL p0 o.2.2),vI (-1),vI 16384] gY E (fun W2 F=>a7 (rdL p0 o.2.2) (-1) 16384 M U W2 ) E) (oY E (bw E) (oY E (yMB E) ?_))
   refine oJ 12 (fun u=>(upd (upd (upd (upd (upd (upd (upd (upd (upd u 0 (.slice Aa p0.length ca)) 2 (.bool o.1)) 3 (vI o.2.1)) 6 (.slice Aa p0.length ca)) 7 (vI (p0.length:Int))) 8 (vI o.2.2)) 9 (.bool (decide (o.2.2<(p0.length:Int))))) 5 (vI (rdL p0 o.2.2))) 27 (.bool ((!M)||((decide (0≤o.2.1))&&((decide ((rdL p0 o.2.2)<0))||(decide (o.2.1<(rdL p0 o.2.2))))))))) (fun u=>?_) (fun key=>?_)
   ·refine oN (eT ?_)
    rcases iOs h with⟨I,h⟩|⟨I,h⟩
    ·refine cT (vB I) (cS (cR (oY E (yAB E) (oN (eT (am (aa (ah (aa ?_)))))))))
     obtain rfl:=sI h
     exact au ⟨E,_,E,(kp4 (kp (kp E)))⟩
    ·refine cF (vB I) (cK (eT (cR (oY E (yMI E) (oY E (yAI E) (oN (aw (eT (cR (oY E (aM E E) (oY E (yMI E) (oN ?_))))))))))))
     obtain rfl:=sI h
     exact eN ⟨_,E,(kp4 (kp (kp E)))⟩
   ·rcases aq (!M)with r|r
    ·refine oSk (sF E E E E r) (oSk (sF E E E E r) (oSk (sF E E E E r) (oSk E (oSk E (oSk E (oSk E (oSk E (oSk E (oSk E (oSk (sF E E E E r) (oY E (ac (vB r) E) ?_)))))))))))
     exact key _ _ (keep (keep (keep (keep (keep (keep (keep (keep (keep E E) E) E) E) E) E) E) E) (vB (iy r)))
    ·refine oY (sT E E E E r) (yMI E) (oY (sT E E E E r) (mW E E) (oY (sT E E E E r) (yMB E) ?_))
     refine oJ 8 (fun u=>(upd (upd (upd (upd (upd (upd (upd (upd (upd (upd u 0 (.slice Aa p0.length ca)) 2 (.bool o.1)) 3 (vI o.2.1)) 6 (.slice Aa p0.length ca)) 7 (vI (p0.length:Int))) 8 (vI o.2.2)) 9 (.bool (decide (o.2.2<(p0.length:Int))))) 5 (vI (rdL p0 o.2.2))) 15 (.bool (!M))) 26 (.bool ((decide (0≤o.2.1))&&((decide ((rdL p0 o.2.2)<0))||(decide (o.2.1<(rdL p0 o.2.2)))))))) (fun u=>?_) (fun key=>?_)
     ·refine oY E (ad (vB r) E) ?_
      exact key _ _ (keep (keep (keep (keep (keep (keep (keep (keep (keep E E) E) E) E) E) E) E) E) (vB (iw r)))
     ·rcases aq (decide (0≤o.2.1))with f|f
      ·refine oY (sT E E E E f) (yMI E) (oY (sT E E E E f) (a6 E E) (oY (sT E E E E f) (yMB E) ?_))
       refine oJ 4 (fun u=>(upd (upd (upd (upd (upd (upd (upd (upd (upd (upd (upd u 0 (.slice Aa p0.length ca)) 2 (.bool o.1)) 3 (vI o.2.1)) 6 (.slice Aa p0.length ca)) 7 (vI (p0.length:Int))) 8 (vI o.2.2)) 9 (.bool (decide (o.2.2<(p0.length:Int))))) 5 (vI (rdL p0 o.2.2))) 15 (.bool (!M))) 18 (.bool (decide (0≤o.2.1)))) 25 (.bool ((decide ((rdL p0 o.2.2)<0))||(decide (o.2.1<(rdL p0 o.2.2))))))) (fun u=>?_) (fun key=>?_)
       ·refine oY (sT E E E E r) (ac (vB f) E) ?_
        exact key _ _ (keep (keep (keep (keep (keep (keep (keep (keep (keep (keep E E) E) E) E) E) E) E) E) E) (vB (eU f)))
       ·rcases aq (decide ((rdL p0 o.2.2)<0))with g|g
        ·refine oSk (sF E E E E g) (oSk (sF E E E E g) (oSk (sF E E E E g) (oY (sT E E E E f) (ac (vB g) E) ?_)))
         exact key _ _ (keep (keep (keep (keep (keep (keep (keep (keep (keep (keep (keep E E) E) E) E) E) E) E) E) E) E) (vB (iy g)))
        ·refine oY (sT E E E E g) (yMI E) (oY (sT E E E E g) (yMI E) (oY (sT E E E E g) (eW E E) (oY (sT E E E E f) (ad (vB g) E) ?_)))
         exact key _ _ (keep (keep (keep (keep (keep (keep (keep (keep (keep (keep (keep E E) E) E) E) E) E) E) E) E) E) (vB (iw g)))
      ·refine oSk (sF E E E E f) (oSk (sF E E E E f) (oSk (sF E E E E f) (oSk E (oSk E (oSk E (oSk (sF E E E E f) (oY (sT E E E E r) (ad (vB f) E) ?_)))))))
       exact key _ _ (keep (keep (keep (keep (keep (keep (keep (keep (keep (keep E E) E) E) E) E) E) E) E) E) (vB (eY f)))
  ·refine cF (vB H) (aD (aj ?_))
   obtain rfl:=sI h
   exact au ⟨E,_,E,(kp4 (kp (kp E)))⟩
 ·intro e L tm hJ
  rcases Y with X|Z
  ·dsimp only at h hJ
   obtain⟨rfl,N,rfl,rfl⟩:=hJ
   refine⟨(by intro hc;cases hc),?_⟩
   refine ah (aa ?_)
   obtain rfl:=sI h
   exact ak (.inl E) E (rVt (v:=.bool X.1) E) (fun W2 F=>⟨E,F.none⟩)
  ·dsimp only at h hJ
   obtain⟨rfl,O,rfl,rfl⟩:=hJ
   refine⟨(by intro hc;cases hc),?_⟩
   refine ae (eT (cS (cR (oY E (yMS E) (oY E (bg (us:=[]) cO E) (oY E (cL E E) (oY E (yAB E) (oN (eT (am ?_))))))))))
   obtain rfl:=sI h
   exact ak (.inl E) E (rVt (v:=.bool ((p0.length:Int)==61)) E) (fun W2 F=>⟨E,F.none⟩)
theorem mP (p0:(List Int)) (res:Bool) (h:dW p0=some res) (W:World) (Aa:Option Addr) (f ca:Nat) (g:f=p0.length) (o:Rd W Aa f ca (encL cI p0)) :
  Calls Tryz.prog 152 [.slice Aa f ca].toArray W fun e W2=>e=.returned (.bool res)∧Ext W W2 []:=by
 subst g
 unfold dW at h
 refine ag (m:=6) Tryz.func152 E E (nB E) (cS (cR (oY E (yAB E) (oN (eT (cS (cR (oY E (yMS E) ?_))))))))
 obtain⟨d,u,h⟩:=bOs h
 refine oY E (yC [.slice Aa p0.length ca] go_153 E (fun W2 r=>oZ p0 d u W2 Aa p0.length ca E ((RdL.arg o) W2 r)) E) (oY E (bw E) (oY E (yAB E) (oN (eT (am ?_)))))
 obtain rfl:=sI h
 exact ak (.inl E) E (rVt (v:=.bool (!d)) E) (fun W2 r=>⟨E,r.none⟩)
theorem mG (p0:Int) (g:Int) (res:Bool) (h:fq p0 g=some res) (W:World) (o:Nat) (r:Rd W (some ⟨o,0,none⟩) 1 1 (cI g)) :
  Calls Tryz.prog 154 [vI p0,.pointer (some ⟨o,0,none⟩)].toArray W fun e W2=>e=.returned (.bool res)∧Ext W W2 []:=by
 unfold fq at h
 refine ag (m:=11) Tryz.func154 E E (nB E) (cS (cR (oY E (yAB E) (oN (eT (cS (cR (oY E (yMI E) (oY E (a6 E E) (oY E (yMB E) ?_))))))))))
 refine oJ 4 (fun u=>(upd (upd u 3 (.bool false)) 10 (.bool ((decide (p0<0))||(decide (g<p0)))))) (fun u=>?_) (fun key=>?_)
 ·refine oY E (yAB E) (oN (eT (am ?_)))
  obtain rfl:=sI h
  exact ak (.inl E) E (rVt (v:=.bool ((decide (p0<0))||(decide (g<p0)))) E) (fun W2 d=>⟨E,d.none⟩)
 ·rcases aq (decide (p0<0))with f|f
  ·refine oSk (sF E E E E f) (oSk (sF E E E E f) (oSk (sF E E E E f) (oY E (ac (vB f) E) ?_)))
   exact key _ _ (keep (keep E E) (vB (iy f)))
  ·refine oY (sT E E E E f) (yMI E) (oY (sT E E E E f) (yR (A:=(some ⟨o,0,none⟩)) (j:=0) (v:=vI g) aN (RdL.arg r) E E) (oY (sT E E E E f) (eW E E) (oY E (ad (vB f) E) ?_)))
   exact key _ _ (keep (keep E E) (vB (iw f)))
theorem oD (p0:TR) (p1:Int) (p2:Int) (p3:TTimes) (res:Bool) (h:g3 p0 p1 p2 p3=some res) (W:World) (Ab:Option Addr) (T cb:Nat) (u:List (Hd × TT)) (f1:T=p0.fTracks.length) (S:Rd W Ab T cb (encL TTrack_cells2 u)) (O:NestW W (fun z:TT=>z.fK) TSpan_cells u p0.fTracks) (G:Option Addr) (R Q:Nat) (g:List (Hd × (List Int))) (f2:R=p3.fH.length) (K:Rd W G R Q (encL SlInt_cells2 g)) (r:NestW W (fun z:(List Int)=>z) cI g p3.fH) :
  Calls Tryz.prog 112 [.agg #[vI p0.fPlaces,.slice Ab T cb],vI p1,vI p2,.agg #[.slice G R Q]].toArray W fun e W2=>e=.returned (.bool res)∧Ext W W2 []:=by
 subst f1
 subst f2
 unfold g3 at h
 refine ag (m:=104) Tryz.func112 E E (nB E) (cS (cR ?_))
 refine aI [vI p0.fPlaces,.slice Ab p0.fTracks.length cb] E E E (fun b1=>?_)
 refine aI [vI p2] E E E (fun b2=>?_)
 refine aI [.slice G p3.fH.length Q] E E E (fun c=>?_)
 refine oY E (yAB E) (oN (eT (cS (cS (cR (oY E (yFA cq E) (oY E (yL 2 iE E E E) (oY E (bg (us:=[]) nq E) (oY E (yFA dE E) (oY E (yL 0 aN E E E) (oY E (cU E E) (oY E (yMB E) ?_))))))))))))
 obtain⟨b5,o2,h⟩:=bOs h
 refine oJ 5 (fun M=>(upd (upd (upd (upd (upd (upd M 1 (vI p1)) 4 (.pointer (some ⟨b1,0,none⟩))) 6 (.pointer (some ⟨b2,0,none⟩))) 7 (.pointer (some ⟨c,0,none⟩))) 8 (.bool false)) 27 (.bool b5))) (fun M=>?_) (fun key=>?_)
 ·refine oN (eT ?_)
  rcases iOs h with⟨fr,h⟩|⟨fr,h⟩
  ·refine cT (vB fr) (cS (cR (oY E (yAB E) (oN (eT (am (aa ?_)))))))
   obtain rfl:=sI h
   exact ak (.inl E) E (rVt (v:=.bool false) E) (fun W2 F=>⟨E,F.none⟩)
  ·refine cF (vB fr) (cK (eT (cS (cS (cR (oY E (yFA cq E) (oY E (yL 2 iE E E E) (oY E (yMI E) ?_))))))))
   obtain⟨X,h⟩:=gOs h
   refine oY E (yI iq (by decide) X.1 X.2 (RdL.arg K) (eL ao (NestP.hn r.p E)) E E) ?_
   refine oY E (yR (A:=G) (j:=(Int.toNat p1*1)) (v:=.slice ((rdL g p1).1.1) ((rdL p3.fH p1).length) ((rdL g p1).1.2.2)) gH (RdL.arg K) E (ax ao X.1 (ai X.2 (NestP.hn r.p E)) (congrArg (fun n:Nat=>some (Value.slice (rdL g p1).1.1 n (rdL g p1).1.2.2)) (NestP.len r.p X.1 (ai X.2 E))))) (oY E (bV [.pointer (some ⟨b2,0,none⟩)] E E) ?_)
   obtain⟨oX,fd,h⟩:=bOs h
   refine oY E (yC [.slice ((rdL g p1).1.1) ((rdL p3.fH p1).length) ((rdL g p1).1.2.2),.func (.func 154) #[] #[.pointer (some ⟨b2,0,none⟩)]] go_136 E (fun W2 F=>mO (rdL p3.fH p1) (fun x9=>fq x9 p2) oX fd W2 ((rdL g p1).1.1) ((rdL p3.fH p1).length) ((rdL g p1).1.2.2) E ((NestL.rd (NestL.arg r) X.1 (ai X.2 E)) W2 F) 154 [] [.pointer (some ⟨b2,0,none⟩)] go_154 (fun W3 hb x y hxy=>mG  x p2 y hxy W3 b2 (((RdL.cells 1 E) W2 F).later hb))) E) (oY E (mW E E) (oN (eT ?_)))
   rcases iOs h with⟨q,h⟩|⟨q,h⟩
   ·refine cT (vB q) (cS (cR (oY E (yAB E) (oN (eT (am (aa ?_)))))))
    obtain rfl:=sI h
    exact ak (.inl E) E (rVt (v:=.bool false) E) (fun W2 F=>⟨E,F.none⟩)
   ·refine cF (vB q) (cK (eT (cS (cS (cR (oY E (yFA bI E) (oY E (yL 0 f7 E E E) (oY E (bg (us:=[]) ij E) (oY E (yMI E) (oN (eT (cB ?_))))))))))))
    obtain⟨oq,fD,h⟩:=bOs h
    refine ba (fun(s:(Bool × Int)) L tm=>∃(M:Nat→Value),L=[al b1 24 [vI p0.fPlaces,.slice Ab p0.fTracks.length cb],al b2 3 [vI p2],al c 87 [.slice G p3.fH.length Q]]∧tm=(upd (upd (upd (upd (upd M 7 (.pointer (some ⟨c,0,none⟩))) 8 (.bool s.1)) 37 (.slice Ab p0.fTracks.length cb)) 38 (vI (p0.fTracks.length:Int))) 39 (vI s.2))) 0 fD ⟨_,E,(kp4 (kp E))⟩ ?_ ?_
    ·rintro f L tm st ⟨fE,rfl,rfl⟩ h
     unfold gi at h
     refine cS (cR (oY E (a6 E E) (oN (eT (cS ?_)))))
     rcases iOs h with⟨l,h⟩|⟨l,h⟩
     ·refine cT (vB l) (cK (eT (cS (cB (cS (cR ?_))))))
      obtain⟨N,h⟩:=gOs h
      refine oY E (yI iI (by decide) N.1 N.2 (RdL.arg S) (eL ar (NestP.hn O.p E)) E E) ?_
      refine oY E (yM (A:=Ab) (j:=(Int.toNat f.2*6)) [vI ((rdL p0.fTracks f.2).fID),vI ((rdL p0.fTracks f.2).fFrom),vI ((rdL p0.fTracks f.2).fTo),vI ((rdL p0.fTracks f.2).fLong),vI ((rdL p0.fTracks f.2).fToll),.slice ((rdL u f.2).1.1) ((rdL p0.fTracks f.2).fK.length) ((rdL u f.2).1.2.2)] gl (Nat.succ_pos _) (RdL.arg S) E (iM (bB (NestP.snd O.p f.2) (NestP.len O.p N.1 (ai N.2 E))).symm (be ar N.1 (ai N.2 (NestP.hn O.p E))))) ?_
      refine aF g0 E (fun t=>?_)
      refine co E (yS 3 [vI ((rdL p0.fTracks f.2).fID),vI ((rdL p0.fTracks f.2).fFrom),vI ((rdL p0.fTracks f.2).fTo),vI ((rdL p0.fTracks f.2).fLong),vI ((rdL p0.fTracks f.2).fToll),.slice ((rdL u f.2).1.1) ((rdL p0.fTracks f.2).fK.length) ((rdL u f.2).1.2.2)] nh E (nB E) E E E) (oN (eT (cS (cR (oY E (yFA cq E) (oY E (yL 2 iE E E E) (oY E (yFA gO E) (oY E (yL 3 aN E E E) ?_))))))))
      obtain⟨H,h⟩:=gOs h
      refine oY E (yI iq (by decide) H.1 H.2 (RdL.arg K) (eL ao (NestP.hn r.p E)) E E) ?_
      refine oY E (yR (A:=G) (j:=(Int.toNat ((rdL p0.fTracks f.2).fFrom)*1)) (v:=.slice ((rdL g ((rdL p0.fTracks f.2).fFrom)).1.1) ((rdL p3.fH ((rdL p0.fTracks f.2).fFrom)).length) ((rdL g ((rdL p0.fTracks f.2).fFrom)).1.2.2)) gH (RdL.arg K) E (ax ao H.1 (ai H.2 (NestP.hn r.p E)) (congrArg (fun n:Nat=>some (Value.slice (rdL g ((rdL p0.fTracks f.2).fFrom)).1.1 n (rdL g ((rdL p0.fTracks f.2).fFrom)).1.2.2)) (NestP.len r.p H.1 (ai H.2 E))))) (oY E (bg (us:=[]) cO E) (oY E (yMI E) (oN (eT (cB ?_)))))
      obtain⟨op,fG,h⟩:=bOs h
      refine ba (fun(s:(Bool × Int)) L tm=>∃(M:Nat→Value),L=[al b1 24 [vI p0.fPlaces,.slice Ab p0.fTracks.length cb],al b2 3 [vI p2],al c 87 [.slice G p3.fH.length Q],al t 120 [vI ((rdL p0.fTracks f.2).fID),vI ((rdL p0.fTracks f.2).fFrom),vI ((rdL p0.fTracks f.2).fTo),vI ((rdL p0.fTracks f.2).fLong),vI ((rdL p0.fTracks f.2).fToll),.slice ((rdL u f.2).1.1) ((rdL p0.fTracks f.2).fK.length) ((rdL u f.2).1.2.2)]]∧tm=(upd (upd (upd (upd (upd (upd (upd (upd (upd (upd M 7 (.pointer (some ⟨c,0,none⟩))) 8 (.bool s.1)) 37 (.slice Ab p0.fTracks.length cb)) 38 (vI (p0.fTracks.length:Int))) 39 (vI f.2)) 40 (.bool (decide (f.2<(p0.fTracks.length:Int))))) 10 (.pointer (some ⟨t,0,none⟩))) 48 (.slice ((rdL g ((rdL p0.fTracks f.2).fFrom)).1.1) ((rdL p3.fH ((rdL p0.fTracks f.2).fFrom)).length) ((rdL g ((rdL p0.fTracks f.2).fFrom)).1.2.2))) 49 (vI (((rdL p3.fH ((rdL p0.fTracks f.2).fFrom)).length:Nat):Int))) 50 (vI s.2))) 2 fG ⟨_,E,(kp4 (kp4 (kp (kp E))))⟩ ?_ ?_
      ·rintro o L tm st ⟨fT,rfl,rfl⟩ h
       unfold eI at h
       refine cS (cR (oY E (a6 E E) (oN (eT (cS ?_)))))
       rcases iOs h with⟨a,h⟩|⟨a,h⟩
       ·refine cT (vB a) (cK (eT (cS (cB (cS (cR (oY E (yMI E) ?_)))))))
        obtain⟨Z,h⟩:=gOs h
        refine oY E (yI bS (by decide) Z.1 Z.2 (NestL.rd (NestL.arg r) H.1 (ai H.2 E)) (eL aB E) E E) ?_
        refine oY E (yR (A:=((rdL g ((rdL p0.fTracks f.2).fFrom)).1.1)) (j:=(Int.toNat o.2*1)) (v:=vI (rdL (rdL p3.fH ((rdL p0.fTracks f.2).fFrom)) o.2)) aN (NestL.rd (NestL.arg r) H.1 (ai H.2 E)) E (ax aB Z.1 (ai Z.2 E) E)) (oY E (yAI E) (oY E (yAI E) (oN (eT (cS (cS (cR (oY E (yMI E) (oY E (a6 E E) (oY E (yMB E) ?_))))))))))
        refine oJ 6 (fun M=>(upd (upd (upd (upd (upd (upd (upd (upd (upd (upd (upd (upd (upd (upd M 7 (.pointer (some ⟨c,0,none⟩))) 8 (.bool o.1)) 37 (.slice Ab p0.fTracks.length cb)) 38 (vI (p0.fTracks.length:Int))) 39 (vI f.2)) 40 (.bool (decide (f.2<(p0.fTracks.length:Int))))) 10 (.pointer (some ⟨t,0,none⟩))) 48 (.slice ((rdL g ((rdL p0.fTracks f.2).fFrom)).1.1) ((rdL p3.fH ((rdL p0.fTracks f.2).fFrom)).length) ((rdL g ((rdL p0.fTracks f.2).fFrom)).1.2.2))) 49 (vI (((rdL p3.fH ((rdL p0.fTracks f.2).fFrom)).length:Nat):Int))) 50 (vI o.2)) 51 (.bool (decide (o.2<(((rdL p3.fH ((rdL p0.fTracks f.2).fFrom)).length:Nat):Int))))) 11 (vI o.2)) 12 (vI (rdL (rdL p3.fH ((rdL p0.fTracks f.2).fFrom)) o.2))) 63 (.bool ((decide ((rdL (rdL p3.fH ((rdL p0.fTracks f.2).fFrom)) o.2)<0))||(decide (60<w64 (o.2+((rdL p0.fTracks f.2).fToll)))))))) (fun M=>?_) (fun key=>?_)
        ·refine oN (eT ?_)
         rcases iOs h with⟨i,h⟩|⟨i,h⟩
         ·refine cT (vB i) (aD (aj (ae (eT (cR (oY E (aM E E) (oY E (yMI E) (oN ?_))))))))
          obtain rfl:=sI h
          exact eN ⟨_,E,(kp4 (kp4 (kp (kp E))))⟩
         ·refine cF (vB i) (cK (eT (cS (cR (oY E (yN 3 [vI ((rdL p0.fTracks f.2).fID),vI ((rdL p0.fTracks f.2).fFrom),vI ((rdL p0.fTracks f.2).fTo),vI ((rdL p0.fTracks f.2).fLong),vI ((rdL p0.fTracks f.2).fToll),.slice ((rdL u f.2).1.1) ((rdL p0.fTracks f.2).fK.length) ((rdL u f.2).1.2.2)] gl E E E) (oY E (yMI E) ?_))))))
          obtain⟨Y,fR,h⟩:=bOs h
          refine oY E (yC [.agg #[vI ((rdL p0.fTracks f.2).fID),vI ((rdL p0.fTracks f.2).fFrom),vI ((rdL p0.fTracks f.2).fTo),vI ((rdL p0.fTracks f.2).fLong),vI ((rdL p0.fTracks f.2).fToll),.slice ((rdL u f.2).1.1) ((rdL p0.fTracks f.2).fK.length) ((rdL u f.2).1.2.2)],vI (rdL (rdL p3.fH ((rdL p0.fTracks f.2).fFrom)) o.2)] si E (fun W2 F=>ia (TT.mk ((rdL p0.fTracks f.2).fID) ((rdL p0.fTracks f.2).fFrom) ((rdL p0.fTracks f.2).fTo) ((rdL p0.fTracks f.2).fLong) ((rdL p0.fTracks f.2).fToll) ((rdL p0.fTracks f.2).fK)) (rdL (rdL p3.fH ((rdL p0.fTracks f.2).fFrom)) o.2) Y fR W2 ((rdL u f.2).1.1) ((rdL p0.fTracks f.2).fK.length) ((rdL u f.2).1.2.2) E ((NestL.rd (NestL.arg O) N.1 (ai N.2 E)) W2 F)) E) (oY E (aU E) (oY E (yE E E) (oY E (yE E E) (oY E (yAI E) (oY E (yAB E) (oN (eT (cS (cS (cR (oY E (yMB E) (oY E (bw E) (oY E (yMB E) ?_)))))))))))))
          obtain⟨fn,fl,h⟩:=bOs h
          refine oJ 7 (fun M=>(upd (upd (upd (upd (upd (upd (upd (upd (upd (upd (upd (upd (upd (upd (upd (upd (upd M 7 (.pointer (some ⟨c,0,none⟩))) 8 (.bool o.1)) 37 (.slice Ab p0.fTracks.length cb)) 38 (vI (p0.fTracks.length:Int))) 39 (vI f.2)) 40 (.bool (decide (f.2<(p0.fTracks.length:Int))))) 10 (.pointer (some ⟨t,0,none⟩))) 48 (.slice ((rdL g ((rdL p0.fTracks f.2).fFrom)).1.1) ((rdL p3.fH ((rdL p0.fTracks f.2).fFrom)).length) ((rdL g ((rdL p0.fTracks f.2).fFrom)).1.2.2))) 49 (vI (((rdL p3.fH ((rdL p0.fTracks f.2).fFrom)).length:Nat):Int))) 50 (vI o.2)) 51 (.bool (decide (o.2<(((rdL p3.fH ((rdL p0.fTracks f.2).fFrom)).length:Nat):Int))))) 11 (vI o.2)) 12 (vI (rdL (rdL p3.fH ((rdL p0.fTracks f.2).fFrom)) o.2))) 63 (.bool ((decide ((rdL (rdL p3.fH ((rdL p0.fTracks f.2).fFrom)) o.2)<0))||(decide (60<w64 (o.2+((rdL p0.fTracks f.2).fToll))))))) 13 (vI Y.1)) 14 (.bool Y.2)) 79 (.bool fn))) (fun M=>?_) (fun key=>?_)
          ·refine oN (eT ?_)
           rcases iOs h with⟨k,h⟩|⟨k,h⟩
           ·refine cT (vB k) (aD (aj (ae (eT (cR (oY E (aM E E) (oY E (yMI E) (oN ?_))))))))
            obtain rfl:=sI h
            exact eN ⟨_,E,(kp4 (kp4 (kp (kp E))))⟩
           ·refine cF (vB k) (cK (eT (cS ?_)))
            refine aX 13 bZ (by kernel_rfl) (by kernel_rfl) ?_
            refine qY E (yFA cq E) (qY E (yL 2 iE E E E) (qY E (yFA gg E) (qY E (yL 3 aN E E E) ?_)))
            obtain⟨I,h⟩:=gOs h
            refine qY E (yI iq (by decide) I.1 I.2 (RdL.arg K) (eL ao (NestP.hn r.p E)) E E) ?_
            refine qY E (yR (A:=G) (j:=(Int.toNat ((rdL p0.fTracks f.2).fTo)*1)) (v:=.slice ((rdL g ((rdL p0.fTracks f.2).fTo)).1.1) ((rdL p3.fH ((rdL p0.fTracks f.2).fTo)).length) ((rdL g ((rdL p0.fTracks f.2).fTo)).1.2.2)) gH (RdL.arg K) E (ax ao I.1 (ai I.2 (NestP.hn r.p E)) (congrArg (fun n:Nat=>some (Value.slice (rdL g ((rdL p0.fTracks f.2).fTo)).1.1 n (rdL g ((rdL p0.fTracks f.2).fTo)).1.2.2)) (NestP.len r.p I.1 (ai I.2 E))))) (qY E (yMI E) (qY E (yFA fw E) (qY E (yL 3 aN E E E) (qY E (aM E E) ?_))))
            obtain⟨V,h⟩:=gOs h
            refine qY E (yI bS (by decide) V.1 V.2 (NestL.rd (NestL.arg r) I.1 (ai I.2 E)) (eL aB E) E E) ?_
            refine qY E (yR (A:=((rdL g ((rdL p0.fTracks f.2).fTo)).1.1)) (j:=(Int.toNat (w64 (o.2+((rdL p0.fTracks f.2).fToll)))*1)) (v:=vI (rdL (rdL p3.fH ((rdL p0.fTracks f.2).fTo)) (w64 (o.2+((rdL p0.fTracks f.2).fToll))))) aN (NestL.rd (NestL.arg r) I.1 (ai I.2 E)) E (ax aB V.1 (ai V.2 E) E)) (qY E (yAI E) (bF (oN (eT (cS (cR (oY E (yMI E) (oY E (a6 E E) (oY E (yMB E) ?_)))))))))
            refine oJ 7 (fun M=>(upd (upd (upd (upd (upd (upd (upd (upd (upd (upd (upd (upd (upd (upd (upd (upd (upd (upd (upd M 7 (.pointer (some ⟨c,0,none⟩))) 8 (.bool o.1)) 37 (.slice Ab p0.fTracks.length cb)) 38 (vI (p0.fTracks.length:Int))) 39 (vI f.2)) 40 (.bool (decide (f.2<(p0.fTracks.length:Int))))) 10 (.pointer (some ⟨t,0,none⟩))) 48 (.slice ((rdL g ((rdL p0.fTracks f.2).fFrom)).1.1) ((rdL p3.fH ((rdL p0.fTracks f.2).fFrom)).length) ((rdL g ((rdL p0.fTracks f.2).fFrom)).1.2.2))) 49 (vI (((rdL p3.fH ((rdL p0.fTracks f.2).fFrom)).length:Nat):Int))) 50 (vI o.2)) 51 (.bool (decide (o.2<(((rdL p3.fH ((rdL p0.fTracks f.2).fFrom)).length:Nat):Int))))) 11 (vI o.2)) 12 (vI (rdL (rdL p3.fH ((rdL p0.fTracks f.2).fFrom)) o.2))) 63 (.bool ((decide ((rdL (rdL p3.fH ((rdL p0.fTracks f.2).fFrom)) o.2)<0))||(decide (60<w64 (o.2+((rdL p0.fTracks f.2).fToll))))))) 13 (vI Y.1)) 14 (.bool Y.2)) 79 (.bool fn)) 15 (vI (rdL (rdL p3.fH ((rdL p0.fTracks f.2).fTo)) (w64 (o.2+((rdL p0.fTracks f.2).fToll)))))) 101 (.bool ((decide ((rdL (rdL p3.fH ((rdL p0.fTracks f.2).fTo)) (w64 (o.2+((rdL p0.fTracks f.2).fToll))))<0))||(decide (w64 (Y.1+((rdL p0.fTracks f.2).fLong))<(rdL (rdL p3.fH ((rdL p0.fTracks f.2).fTo)) (w64 (o.2+((rdL p0.fTracks f.2).fToll)))))))))) (fun M=>?_) (fun key=>?_)
            ·refine oN (eT ?_)
             rcases iOs h with⟨b,h⟩|⟨b,h⟩
             ·refine cT (vB b) (cS (cR (oY E (yAB E) (oN (eT (am (ah (aa ?_))))))))
              obtain rfl:=sI h
              exact au ⟨E,_,E,(kp4 (kp4 (kp (kp E))))⟩
             ·refine cF (vB b) (cK (aw (eT (cR (oY E (aM E E) (oY E (yMI E) (oN ?_)))))))
              obtain rfl:=sI h
              exact eN ⟨_,E,(kp4 (kp4 (kp (kp E))))⟩
            ·rcases aq (decide ((rdL (rdL p3.fH ((rdL p0.fTracks f.2).fTo)) (w64 (o.2+((rdL p0.fTracks f.2).fToll))))<0))with d|d
             ·refine oSk (sF E E E E d) (oSk (sF E E E E d) (oSk (sF E E E E d) (oSk (sF E E E E d) (oSk (sF E E E E d) (oSk (sF E E E E d) (oY E (ac (vB d) E) ?_))))))
              exact key _ _ (keep (keep (keep (keep (keep (keep (keep (keep (keep (keep (keep (keep (keep (keep (keep (keep (keep (keep (keep E E) E) E) E) E) E) E) E) E) E) E) E) E) E) E) E) E) E) (vB (iy d)))
             ·refine oY (sT E E E E d) (yMI E) (oY (sT E E E E d) (yMI E) (oY (sT E E E E d) (yFA fy E) (oY (sT E E E E d) (yL 3 aN E E E) (oY (sT E E E E d) (aM E E) (oY (sT E E E E d) (eW E E) (oY E (ad (vB d) E) ?_))))))
              exact key _ _ (keep (keep (keep (keep (keep (keep (keep (keep (keep (keep (keep (keep (keep (keep (keep (keep (keep (keep (keep E E) E) E) E) E) E) E) E) E) E) E) E) E) E) E) E) E) E) (vB (iw d)))
          ·clear h;rcases iOs fl with⟨w,h⟩|⟨w,h⟩
           ·refine oSk (sF E E E E w) (oSk (sF E E E E w) (oSk (sF E E E E w) (oSk (sF E E E E w) (oSk (sF E E E E w) (oSk (sF E E E E w) (oY E (ac (vB w) E) ?_))))))
            obtain rfl:=sI h
            exact key _ _ (kp4 (kp4 (kp4 (kp4 (kp E)))))
           ·refine oY (sT E E E E w) (yMI E) (oY (sT E E E E w) (yFA fy E) (oY (sT E E E E w) (yL 3 aN E E E) (oY (sT E E E E w) (aM E E) ?_)))
            obtain⟨om,ft,h⟩:=bOs h
            refine oY (sT E E E E w) (yC [vI (w64 (Y.1+((rdL p0.fTracks f.2).fLong)))] ld E (fun W2 F=>cv (w64 (Y.1+((rdL p0.fTracks f.2).fLong))) om ft W2 ) E) (oY (sT E E E E w) (bw E) (oY E (ad (vB w) E) ?_))
            obtain rfl:=sI h
            exact key _ _ (kp4 (kp4 (kp4 (kp4 (kp E)))))
        ·rcases aq (decide ((rdL (rdL p3.fH ((rdL p0.fTracks f.2).fFrom)) o.2)<0))with D|D
         ·refine oSk (sF E E E E D) (oSk (sF E E E E D) (oSk (sF E E E E D) (oSk (sF E E E E D) (oSk (sF E E E E D) (oY E (ac (vB D) E) ?_)))))
          exact key _ _ (keep (keep (keep (keep (keep (keep (keep (keep (keep (keep (keep (keep (keep (keep E E) E) E) E) E) E) E) E) E) E) E) E) E) (vB (iy D)))
         ·refine oY (sT E E E E D) (yMI E) (oY (sT E E E E D) (yFA fw E) (oY (sT E E E E D) (yL 3 aN E E E) (oY (sT E E E E D) (aM E E) (oY (sT E E E E D) (eW E E) (oY E (ad (vB D) E) ?_)))))
          exact key _ _ (keep (keep (keep (keep (keep (keep (keep (keep (keep (keep (keep (keep (keep (keep E E) E) E) E) E) E) E) E) E) E) E) E) E) (vB (iw D)))
       ·refine cF (vB a) (aD (aj ?_))
        obtain rfl:=sI h
        exact au ⟨E,_,E,(kp4 (kp4 (kp (kp E))))⟩
      ·intro e L tm hJ
       rcases op with r0|r1
       ·dsimp only at h hJ
        obtain⟨rfl,g1,rfl,rfl⟩:=hJ
        refine⟨(by intro hc;cases hc),?_⟩
        refine ah (ah (aa (aT 3 ?_)))
        obtain rfl:=sI h
        exact au ⟨E,_,E,(kp4 (kp E))⟩
       ·dsimp only at h hJ
        obtain⟨rfl,g2,rfl,rfl⟩:=hJ
        refine⟨(by intro hc;cases hc),?_⟩
        refine ae (aw (eT (cR (oY E (aM E E) (oY E (yMI E) (oN (aT 3 ?_)))))))
        obtain rfl:=sI h
        exact eN ⟨_,E,(kp4 (kp E))⟩
     ·refine cF (vB l) (aD (aj ?_))
      obtain rfl:=sI h
      exact au ⟨E,_,E,(kp4 (kp E))⟩
    ·intro e L tm hJ
     rcases oq with ot|r2
     ·dsimp only at h hJ
      obtain⟨rfl,gf,rfl,rfl⟩:=hJ
      refine⟨(by intro hc;cases hc),?_⟩
      refine ah (aa ?_)
      obtain rfl:=sI h
      exact ak (.inl E) E (rVt (v:=.bool ot.1) E) (fun W2 F=>⟨E,F.none⟩)
     ·dsimp only at h hJ
      obtain⟨rfl,go,rfl,rfl⟩:=hJ
      refine⟨(by intro hc;cases hc),?_⟩
      refine ae (eT (cS (cR (oY E (yAB E) (oN (eT (am ?_)))))))
      obtain rfl:=sI h
      exact ak (.inl E) E (rVt (v:=.bool true) E) (fun W2 F=>⟨E,F.none⟩)
 ·clear h;rcases iOs o2 with⟨U,h⟩|⟨U,h⟩
  ·refine oSk (sF E E E E U) (oSk (sF E E E E U) (oSk (sF E E E E U) (oSk (sF E E E E U) (oY E (ac (vB U) E) ?_))))
   obtain rfl:=sI h
   exact key _ _ (kp4 (kp (kp E)))
  ·refine oY (sT E E E E U) (yFA cq E) (oY (sT E E E E U) (yL 2 iE E E E) ?_)
   obtain⟨oa,o0,h⟩:=bOs h
   refine oY (sT E E E E U) (yC [.slice G p3.fH.length Q,.func (.func 152) #[] #[]] go_151 E (fun W2 F=>k9 p3.fH (fun oi=>dW oi) oa o0 W2 G p3.fH.length Q g E ((RdL.arg K) W2 F) (NestL.at (NestL.arg r) W2 F) 152 [] [] go_152 (fun W3 hb x hx rx y hxy=>mP  x  y hxy W3 hx.1 _ hx.2.2 E rx)) E) (oY (sT E E E E U) (mW E E) (oY E (ad (vB U) E) ?_))
   obtain rfl:=sI h
   exact key _ _ (kp4 (kp (kp E)))
theorem oH (p0:TR) (p1:Int) (p2:Int) (p3:Int) (p4:TJ) (res:Bool) (h:f6 p0 p1 p2 p3 p4=some res) (W:World) (Ab:Option Addr) (R cb:Nat) (H:List (Hd × TT)) (k:R=p0.fTracks.length) (u:Rd W Ab R cb (encL TTrack_cells2 H)) (f:NestW W (fun z:TT=>z.fK) TSpan_cells H p0.fTracks) (M:Option Addr) (q N:Nat) (x:q=p4.fLegs.length) (n:Rd W M q N (encL TLeg_cells p4.fLegs)) :
  Calls Tryz.prog 113 [.agg #[vI p0.fPlaces,.slice Ab R cb],vI p1,vI p2,vI p3,.agg #[.slice M q N,vI p4.fA,vI p4.fToll]].toArray W fun e W2=>e=.returned (.bool res)∧Ext W W2 []:=by
 subst k
 subst x
 unfold f6 at h
 refine ag (m:=118) Tryz.func113 E E (nB E) (cS (cR ?_))
 refine aI [vI p0.fPlaces,.slice Ab p0.fTracks.length cb] E E E (fun b1=>?_)
 refine aI [.slice M p4.fLegs.length N,vI p4.fA,vI p4.fToll] E E E (fun y=>?_)
 refine oY E (yAB E) (oN (eT (cS (cR (oY E (yAI E) (oN (eT (cS (cS (cR (oY E (yFA kJ E) (oY E (yL 1 rK E E E) (oY E (bg (us:=[]) th E) (oY E (yMI E) (oN (eT (cB ?_)))))))))))))))))
 obtain⟨u5,f2,h⟩:=bOs h
 refine ba (fun(s:(Int × Int × Bool × Int × Int)) L tm=>∃(o:Nat→Value),L=[al b1 24 [vI p0.fPlaces,.slice Ab p0.fTracks.length cb],al y 29 [.slice M p4.fLegs.length N,vI p4.fA,vI p4.fToll]]∧tm=(upd (upd (upd (upd (upd (upd (upd (upd (upd (upd o 1 (vI s.1)) 2 (vI p2)) 3 (vI s.2.1)) 5 (.pointer (some ⟨b1,0,none⟩))) 9 (.pointer (some ⟨y,0,none⟩))) 10 (.bool s.2.2.1)) 11 (vI s.2.2.2.1)) 18 (.slice M p4.fLegs.length N)) 19 (vI (p4.fLegs.length:Int))) 20 (vI s.2.2.2.2))) 0 f2 ⟨_,E,(kp4 (kp4 (kp (kp E))))⟩ ?_ ?_
 ·rintro I L tm st ⟨fl,rfl,rfl⟩ h
  unfold eC at h
  refine cS (cR (oY E (a6 E E) (oN (eT (cS ?_)))))
  rcases iOs h with⟨b,h⟩|⟨b,h⟩
  ·refine cT (vB b) (cK (eT (cS (cB (cS (cR ?_))))))
   obtain⟨a,h⟩:=gOs h
   refine oY E (yI rz (by decide) a.1 a.2 (RdL.arg n) (eL bd E) E E) ?_
   refine oY E (yM (A:=M) (j:=(Int.toNat I.2.2.2.2*2)) [vI ((rdL p4.fLegs I.2.2.2.2).fTrack),vI ((rdL p4.fLegs I.2.2.2.2).fHour)] sE (Nat.succ_pos _) (RdL.arg n) E (be bd a.1 (ai a.2 E))) ?_
   refine aF sS E (fun b8=>?_)
   refine co E (yS 2 [vI ((rdL p4.fLegs I.2.2.2.2).fTrack),vI ((rdL p4.fLegs I.2.2.2.2).fHour)] sz_132 E (nB E) E E E) (oN (eT (cS (cR (oY E (yN 0 [vI p0.fPlaces,.slice Ab p0.fTracks.length cb] dh E E E) (oY E (yFA sQ E) (oY E (yL 2 aN E E E) ?_)))))))
   obtain⟨r,f3,h⟩:=bOs h
   refine oY E (yC [.agg #[vI p0.fPlaces,.slice Ab p0.fTracks.length cb],vI ((rdL p4.fLegs I.2.2.2.2).fTrack)] go_155 E (fun W2 X=>mp p0 ((rdL p4.fLegs I.2.2.2.2).fTrack) r f3 W2 Ab p0.fTracks.length cb H E ((RdL.arg u) W2 X) (NestL.at (NestL.arg f) W2 X)) E) (oY E (yAI E) (oN (eT (cS (cS (cR (oY E (yMI E) (oY E (a6 E E) (oY E (yMB E) ?_)))))))))
   obtain⟨c,fr,h⟩:=bOs h
   refine oJ 9 (fun o=>(upd (upd (upd (upd (upd (upd (upd (upd (upd (upd (upd (upd (upd (upd o 1 (vI I.1)) 2 (vI p2)) 3 (vI I.2.1)) 5 (.pointer (some ⟨b1,0,none⟩))) 9 (.pointer (some ⟨y,0,none⟩))) 10 (.bool I.2.2.1)) 11 (vI I.2.2.2.1)) 18 (.slice M p4.fLegs.length N)) 19 (vI (p4.fLegs.length:Int))) 20 (vI I.2.2.2.2)) 21 (.bool (decide (I.2.2.2.2<(p4.fLegs.length:Int))))) 13 (.pointer (some ⟨b8,0,none⟩))) 14 (vI r)) 39 (.bool c))) (fun o=>?_) (fun key=>?_)
   ·refine oY E (yMB E) ?_
    refine oJ 5 (fun o=>(upd (upd (upd (upd (upd (upd (upd (upd (upd (upd (upd (upd (upd (upd o 1 (vI I.1)) 2 (vI p2)) 3 (vI I.2.1)) 5 (.pointer (some ⟨b1,0,none⟩))) 9 (.pointer (some ⟨y,0,none⟩))) 10 (.bool I.2.2.1)) 11 (vI I.2.2.2.1)) 18 (.slice M p4.fLegs.length N)) 19 (vI (p4.fLegs.length:Int))) 20 (vI I.2.2.2.2)) 21 (.bool (decide (I.2.2.2.2<(p4.fLegs.length:Int))))) 13 (.pointer (some ⟨b8,0,none⟩))) 14 (vI r)) 45 (.bool (c||(decide ((rdL p4.fLegs I.2.2.2.2).fHour<I.2.1)))))) (fun o=>?_) (fun key=>?_)
    ·refine oY E (yMB E) ?_
     obtain⟨fd,fD,h⟩:=bOs h
     refine oJ 5 (fun o=>(upd (upd (upd (upd (upd (upd (upd (upd (upd (upd (upd (upd (upd (upd o 1 (vI I.1)) 2 (vI p2)) 3 (vI I.2.1)) 5 (.pointer (some ⟨b1,0,none⟩))) 9 (.pointer (some ⟨y,0,none⟩))) 10 (.bool I.2.2.1)) 11 (vI I.2.2.2.1)) 18 (.slice M p4.fLegs.length N)) 19 (vI (p4.fLegs.length:Int))) 20 (vI I.2.2.2.2)) 21 (.bool (decide (I.2.2.2.2<(p4.fLegs.length:Int))))) 13 (.pointer (some ⟨b8,0,none⟩))) 14 (vI r)) 51 (.bool fd))) (fun o=>?_) (fun key=>?_)
     ·refine oN (eT ?_)
      rcases iOs h with⟨l,h⟩|⟨l,h⟩
      ·refine cT (vB l) (cS (cR (oY E (yAB E) (oN (eT (am (aa (ah (aa (aT 2 ?_))))))))))
       obtain rfl:=sI h
       exact au ⟨E,_,E,(kp4 (kp4 (kp (kp E))))⟩
      ·refine cF (vB l) (cK (eT (cS (cS ?_))))
       refine aX 13 bZ (by kernel_rfl) (by kernel_rfl) ?_
       refine qY E (yFA bI E) (qY E (yL 0 f7 E E E) (qY E (yMI E) ?_))
       obtain⟨Q,h⟩:=gOs h
       refine qY E (yI iI (by decide) Q.1 Q.2 (RdL.arg u) (eL ar (NestP.hn f.p E)) E E) ?_
       refine qY E (yM (A:=Ab) (j:=(Int.toNat r*6)) [vI ((rdL p0.fTracks r).fID),vI ((rdL p0.fTracks r).fFrom),vI ((rdL p0.fTracks r).fTo),vI ((rdL p0.fTracks r).fLong),vI ((rdL p0.fTracks r).fToll),.slice ((rdL H r).1.1) ((rdL p0.fTracks r).fK.length) ((rdL H r).1.2.2)] gl (Nat.succ_pos _) (RdL.arg u) E (iM (bB (NestP.snd f.p r) (NestP.len f.p Q.1 (ai Q.2 E))).symm (be ar Q.1 (ai Q.2 (NestP.hn f.p E))))) (qY E (yFA kT E) (qY E (yL 2 aN E E E) ?_))
       obtain⟨S,fE,h⟩:=bOs h
       refine qY E (yC [.agg #[vI ((rdL p0.fTracks r).fID),vI ((rdL p0.fTracks r).fFrom),vI ((rdL p0.fTracks r).fTo),vI ((rdL p0.fTracks r).fLong),vI ((rdL p0.fTracks r).fToll),.slice ((rdL H r).1.1) ((rdL p0.fTracks r).fK.length) ((rdL H r).1.2.2)],vI ((rdL p4.fLegs I.2.2.2.2).fHour)] si E (fun W2 X=>ia (TT.mk ((rdL p0.fTracks r).fID) ((rdL p0.fTracks r).fFrom) ((rdL p0.fTracks r).fTo) ((rdL p0.fTracks r).fLong) ((rdL p0.fTracks r).fToll) ((rdL p0.fTracks r).fK)) ((rdL p4.fLegs I.2.2.2.2).fHour) S fE W2 ((rdL H r).1.1) ((rdL p0.fTracks r).fK.length) ((rdL H r).1.2.2) E ((NestL.rd (NestL.arg f) Q.1 (ai Q.2 E)) W2 X)) E) (qY E (aU E) (qY E (yE E E) (qY E (yE E E) (qY E (yAI E) (qY E (yAB E) (bF (oN (eT (cS (cR (oY E (yMB E) (oY E (bw E) (oY E (yMB E) ?_)))))))))))))
       refine oJ 5 (fun o=>(upd (upd (upd (upd (upd (upd (upd (upd (upd (upd (upd (upd (upd (upd (upd (upd (upd o 1 (vI I.1)) 2 (vI p2)) 3 (vI I.2.1)) 5 (.pointer (some ⟨b1,0,none⟩))) 9 (.pointer (some ⟨y,0,none⟩))) 10 (.bool I.2.2.1)) 11 (vI I.2.2.2.1)) 18 (.slice M p4.fLegs.length N)) 19 (vI (p4.fLegs.length:Int))) 20 (vI I.2.2.2.2)) 21 (.bool (decide (I.2.2.2.2<(p4.fLegs.length:Int))))) 13 (.pointer (some ⟨b8,0,none⟩))) 14 (vI r)) 51 (.bool fd)) 15 (vI S.1)) 16 (.bool S.2)) 70 (.bool ((!S.2)||(S.1 !=((rdL p4.fLegs I.2.2.2.2).fHour)))))) (fun o=>?_) (fun key=>?_)
       ·refine oN (eT ?_)
        rcases iOs h with⟨t,h⟩|⟨t,h⟩
        ·refine cT (vB t) (cS (cR (oY E (yAB E) (oN (eT (am (aa (ah (aa (aT 2 ?_))))))))))
         obtain rfl:=sI h
         exact au ⟨E,_,E,(kp4 (kp4 (kp (kp E))))⟩
        ·refine cF (vB t) (cK (eT ?_))
         refine aX 26 bZ (by kernel_rfl) (by kernel_rfl) ?_
         refine qY E (yFA bI E) (qY E (yL 0 f7 E E E) (qY E (yMI E) ?_))
         obtain⟨Y,h⟩:=gOs h
         refine qY E (yI iI (by decide) Y.1 Y.2 (RdL.arg u) (eL ar (NestP.hn f.p E)) E E) ?_
         refine qY E (yFR (A:=Ab) (j:=(Int.toNat r*6)) gg E) (qY E (yR (A:=Ab) (j:=((Int.toNat r*6)+2)) (v:=vI ((rdL p0.fTracks r).fTo)) aN (RdL.arg u) E (eG ar Y.1 (ai Y.2 (NestP.hn f.p E)) (congrArg (fun z:TT=>some (Value.int .i64 z.fTo)) (NestP.snd f.p r)))) (qY E (yFA kT E) (qY E (yL 2 aN E E E) (qY E (yFA bI E) (qY E (yL 0 f7 E E E) (qY E (yMI E) ?_))))))
         obtain⟨Z,h⟩:=gOs h
         refine qY E (yI iI (by decide) Z.1 Z.2 (RdL.arg u) (eL ar (NestP.hn f.p E)) E E) ?_
         refine qY E (yFR (A:=Ab) (j:=(Int.toNat r*6)) fy E) (qY E (yR (A:=Ab) (j:=((Int.toNat r*6)+3)) (v:=vI ((rdL p0.fTracks r).fLong)) aN (RdL.arg u) E (eG ar Z.1 (ai Z.2 (NestP.hn f.p E)) (congrArg (fun z:TT=>some (Value.int .i64 z.fLong)) (NestP.snd f.p r)))) (qY E (aM E E) (qY E (yMI E) (qY E (yFA bI E) (qY E (yL 0 f7 E E E) (qY E (yMI E) ?_))))))
         obtain⟨V,h⟩:=gOs h
         refine qY E (yI iI (by decide) V.1 V.2 (RdL.arg u) (eL ar (NestP.hn f.p E)) E E) ?_
         refine qY E (yFR (A:=Ab) (j:=(Int.toNat r*6)) fw E) (qY E (yR (A:=Ab) (j:=((Int.toNat r*6)+4)) (v:=vI ((rdL p0.fTracks r).fToll)) aN (RdL.arg u) E (eG ar V.1 (ai V.2 (NestP.hn f.p E)) (congrArg (fun z:TT=>some (Value.int .i64 z.fToll)) (NestP.snd f.p r)))) (qY E (aM E E) (qY E (yAI E) (qY E (yAI E) (qY E (yAI E) (bF (oN (aw (eT (cR (oY E (aM E E) (oY E (yMI E) (oN (aT 2 ?_))))))))))))))
         obtain rfl:=sI h
         exact eN ⟨_,E,(kp4 (kp4 (kp (kp E))))⟩
       ·rcases aq (!S.2)with w|w
        ·refine oSk (sF E E E E w) (oSk (sF E E E E w) (oSk (sF E E E E w) (oSk (sF E E E E w) (oY E (ac (vB w) E) ?_))))
         exact key _ _ (keep (keep (keep (keep (keep (keep (keep (keep (keep (keep (keep (keep (keep (keep (keep (keep (keep E E) E) E) E) E) E) E) E) E) E) E) E) E) E) E) E) (vB (iy w)))
        ·refine oY (sT E E E E w) (yMI E) (oY (sT E E E E w) (yFA kT E) (oY (sT E E E E w) (yL 2 aN E E E) (oY (sT E E E E w) (cU E E) (oY E (ad (vB w) E) ?_))))
         exact key _ _ (keep (keep (keep (keep (keep (keep (keep (keep (keep (keep (keep (keep (keep (keep (keep (keep (keep E E) E) E) E) E) E) E) E) E) E) E) E) E) E) E) E) (vB (iw w)))
     ·clear h;rcases iOs fD with⟨K,h⟩|⟨K,h⟩
      ·refine oSk (sF E E E E K) (oSk (sF E E E E K) (oSk (sF E E E E K) (oSk (sF E E E E K) (oY E (ac (vB K) E) ?_))))
       obtain rfl:=sI h
       exact key _ _ (kp4 (kp4 (kp4 (kp (kp E)))))
      ·refine oY (sT E E E E K) (yFA kT E) (oY (sT E E E E K) (yL 2 aN E E E) ?_)
       obtain⟨g1,fG,h⟩:=bOs h
       refine oY (sT E E E E K) (yC [vI ((rdL p4.fLegs I.2.2.2.2).fHour)] ld E (fun W2 X=>cv ((rdL p4.fLegs I.2.2.2.2).fHour) g1 fG W2 ) E) (oY (sT E E E E K) (bw E) (oY E (ad (vB K) E) ?_))
       obtain rfl:=sI h
       exact key _ _ (kp4 (kp4 (kp4 (kp (kp E)))))
    ·rcases aq c with D|D
     ·refine oSk (sF E E E E D) (oSk (sF E E E E D) (oSk (sF E E E E D) (oSk (sF E E E E D) (oY E (ac (vB D) E) ?_))))
      exact key _ _ (keep (keep (keep (keep (keep (keep (keep (keep (keep (keep (keep (keep (keep (keep E E) E) E) E) E) E) E) E) E) E) E) E) E) (vB (iy D)))
     ·refine oY (sT E E E E D) (yFA kT E) (oY (sT E E E E D) (yL 2 aN E E E) (oY (sT E E E E D) (yMI E) (oY (sT E E E E D) (a6 E E) (oY E (ad (vB D) E) ?_))))
      exact key _ _ (keep (keep (keep (keep (keep (keep (keep (keep (keep (keep (keep (keep (keep (keep E E) E) E) E) E) E) E) E) E) E) E) E) E) (vB (iw D)))
   ·clear h;rcases iOs fr with⟨g,h⟩|⟨g,h⟩
    ·refine oSk (sF E E E E g) (oSk (sF E E E E g) (oSk (sF E E E E g) (oSk (sF E E E E g) (oSk (sF E E E E g) (oSk (sF E E E E g) (oSk (sF E E E E g) (oSk (sF E E E E g) (oY E (ac (vB g) E) ?_))))))))
     obtain rfl:=sI h
     exact key _ _ (kp4 (kp4 (kp4 (kp (kp E)))))
    ·refine oY (sT E E E E g) (yFA bI E) (oY (sT E E E E g) (yL 0 f7 E E E) (oY (sT E E E E g) (yMI E) ?_))
     obtain⟨T,h⟩:=gOs h
     refine oY (sT E E E E g) (yI iI (by decide) T.1 T.2 (RdL.arg u) (eL ar (NestP.hn f.p E)) E E) ?_
     refine oY (sT E E E E g) (yFR (A:=Ab) (j:=(Int.toNat r*6)) gO E) (oY (sT E E E E g) (yR (A:=Ab) (j:=((Int.toNat r*6)+1)) (v:=vI ((rdL p0.fTracks r).fFrom)) aN (RdL.arg u) E (eG ar T.1 (ai T.2 (NestP.hn f.p E)) (congrArg (fun z:TT=>some (Value.int .i64 z.fFrom)) (NestP.snd f.p r)))) (oY (sT E E E E g) (yMI E) (oY (sT E E E E g) (cU E E) (oY E (ad (vB g) E) ?_))))
     obtain rfl:=sI h
     exact key _ _ (kp4 (kp4 (kp4 (kp (kp E)))))
  ·refine cF (vB b) (aD (aj ?_))
   obtain rfl:=sI h
   exact au ⟨E,_,E,(kp4 (kp4 (kp (kp E))))⟩
 ·intro e L tm hJ
  rcases u5 with g2|d
  ·dsimp only at h hJ
   obtain⟨rfl,fH,rfl,rfl⟩:=hJ
   refine⟨(by intro hc;cases hc),?_⟩
   refine ah (aa ?_)
   obtain rfl:=sI h
   exact ak (.inl E) E (rVt (v:=.bool g2.2.2.1) E) (fun W2 X=>⟨E,X.none⟩)
  ·dsimp only at h hJ
   obtain⟨rfl,fT,rfl,rfl⟩:=hJ
   refine⟨(by intro hc;cases hc),?_⟩
   refine ae (eT (cS (cR (oY E (yMI E) (oY E (yMI E) (oY E (cL E E) (oY E (yMB E) ?_)))))))
   refine oJ 5 (fun o=>(upd (upd (upd (upd (upd o 3 (vI d.2.1)) 9 (.pointer (some ⟨y,0,none⟩))) 10 (.bool d.2.2.1)) 11 (vI d.2.2.2.1)) 103 (.bool ((d.1==p2)&&(d.2.1==p4.fA))))) (fun o=>?_) (fun key=>?_)
   ·refine oY E (yMB E) ?_
    refine oJ 5 (fun o=>(upd (upd (upd (upd o 3 (vI d.2.1)) 10 (.bool d.2.2.1)) 11 (vI d.2.2.2.1)) 109 (.bool (((d.1==p2)&&(d.2.1==p4.fA))&&(d.2.2.2.1==p4.fToll))))) (fun o=>?_) (fun key=>?_)
    ·refine oY E (yMB E) ?_
     obtain⟨i,fR,h⟩:=bOs h
     refine oJ 3 (fun o=>(upd (upd (upd o 10 (.bool d.2.2.1)) 11 (vI d.2.2.2.1)) 113 (.bool i))) (fun o=>?_) (fun key=>?_)
     ·refine oY E (yMB E) ?_
      refine oJ 3 (fun o=>(upd (upd o 10 (.bool d.2.2.1)) 117 (.bool (i&&(decide (d.2.2.2.1≤60)))))) (fun o=>?_) (fun key=>?_)
      ·refine oY E (yAB E) (oN (eT (am ?_)))
       obtain rfl:=sI h
       exact ak (.inl E) E (rVt (v:=.bool (i&&(decide (d.2.2.2.1≤60)))) E) (fun W2 X=>⟨E,X.none⟩)
      ·rcases aq i with O|O
       ·refine oY (sT E E E E O) (yMI E) (oY (sT E E E E O) (iA E E) (oY E (ac (vB O) E) ?_))
        exact key _ _ (keep (keep E E) (vB (eU O)))
       ·refine oSk (sF E E E E O) (oSk (sF E E E E O) (oY E (ad (vB O) E) ?_))
        exact key _ _ (keep (keep E E) (vB (eY O)))
     ·clear h;rcases iOs fR with⟨U,h⟩|⟨U,h⟩
      ·refine oY (sT E E E E U) (yMI E) ?_
       obtain⟨gf,fn,h⟩:=bOs h
       refine oY (sT E E E E U) (yC [vI d.2.1] ld E (fun W2 X=>cv d.2.1 gf fn W2 ) E) (oY E (ac (vB U) E) ?_)
       obtain rfl:=sI h
       exact key _ _ (kp (kp (kp E)))
      ·refine oSk (sF E E E E U) (oSk (sF E E E E U) (oY E (ad (vB U) E) ?_))
       obtain rfl:=sI h
       exact key _ _ (kp (kp (kp E)))
    ·rcases aq ((d.1==p2)&&(d.2.1==p4.fA))with F|F
     ·refine oY (sT E E E E F) (yMI E) (oY (sT E E E E F) (yFA n2 E) (oY (sT E E E E F) (yL 1 aN E E E) (oY (sT E E E E F) (cL E E) (oY E (ac (vB F) E) ?_))))
      exact key _ _ (keep (keep (keep (keep E E) E) E) (vB (eU F)))
     ·refine oSk (sF E E E E F) (oSk (sF E E E E F) (oSk (sF E E E E F) (oSk (sF E E E E F) (oY E (ad (vB F) E) ?_))))
      exact key _ _ (keep (keep (keep (keep E E) E) E) (vB (eY F)))
   ·rcases aq (d.1==p2)with G|G
    ·refine oY (sT E E E E G) (yMI E) (oY (sT E E E E G) (yFA lv E) (oY (sT E E E E G) (yL 1 aN E E E) (oY (sT E E E E G) (cL E E) (oY E (ac (vB G) E) ?_))))
     exact key _ _ (keep (keep (keep (keep (keep E E) E) E) E) (vB (eU G)))
    ·refine oSk (sF E E E E G) (oSk (sF E E E E G) (oSk (sF E E E E G) (oSk (sF E E E E G) (oY E (ad (vB G) E) ?_))))
     exact key _ _ (keep (keep (keep (keep (keep E E) E) E) E) (vB (eY G)))
end Go.Proofs.YthndghnkebboaaaGreat
