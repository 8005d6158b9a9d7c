import Derived.Test.YthndghnkebboaaaGreatF
import Derived.Test.YthndghnkebboaaaGreatGF
import Derived.Test.YthndghnkebboaaaGreatGy
import Derived.Test.YthndghnkebboaaaGreatGz
import Derived.Test.YthndghnkebboaaaGreatC0
set_option maxHeartbeats 4000000
set_option maxRecDepth 100000
set_option linter.unusedVariables false
namespace Go.Proofs.YthndghnkebboaaaGreat
open Go.RowKit (Below)
attribute [local irreducible] OX QX CX EX OpY Calls CallsIn
theorem l5 (p0:TR) (p1:Int) (p2:Int) (res:(List (Ts × Tl))) (h:fe p0 p1 p2=some res) (W:World) (Ab:Option Addr) (j cb:Nat) (X:List (Hd × TT)) (fl:j=p0.fTracks.length) (b:Rd W Ab j cb (encL TTrack_cells2 X)) (Y:NestW W (fun z:TT=>z.fK) TSpan_cells X p0.fTracks) :
  Calls Tryz.prog 110 [.agg #[vI p0.fPlaces,.slice Ab j cb],vI p1,vI p2].toArray W fun e W2=>∃x:Nat,e=.returned (.map (some x))∧Ext W W2 [mapV Tryz.prog 191 cv aW cn (Tl.mk 0 (Ts.mk 0 0) (TLeg.mk 0 0) false) x res]:=by
 subst fl
 unfold fe at h
 refine rR (m:=122) Tryz.func110 E E (nB E) (cS (cR ?_))
 refine aN [vI p0.fPlaces,.slice Ab p0.fTracks.length cb] E E E (fun n=>?_)
 refine oY E (eX E) (oN (eT (cS (cR ?_))))
 refine kq 191 cv aW cn (Tl.mk 0 (Ts.mk 0 0) (TLeg.mk 0 0) false) E (fun S=>?_)
 refine oY E (yMI E) ?_
 refine oY E (bn [vI p1,vI 0] [(0,1),(1,1)] pb ql (by kernel_rfl)) ?_
 refine oY E (yMI E) ?_
 refine oY E (bn [vI p2,vI 0,vI 0,vI 0,vI 0,.bool true] [(0,1),(1,2),(3,2),(5,1)] ust_193 kP (by kernel_rfl)) ?_
 obtain⟨rj,h⟩:=gOs h
 refine cy E (y_insertV 1 (k:=(Ts.mk p1 0)) (v:=(Tl.mk p2 (Ts.mk 0 0) (TLeg.mk 0 0) true)) E nK nP E E E rj) (oY E (cU E) ?_)
 refine aF ze_157 E (fun l=>?_)
 refine cy E (dJ 2 (v:=.map (some S)) sz_157 E (Nat.lt_of_lt_of_le (Nat.lt_succ_self _) (nB E)) E E E) (oN (eT (cS (cR (oY E (yMI E) (oY E (yMI E) ?_))))))
 refine oY E (bn [vI p1,vI 0] [(0,1),(1,1)] pb ql (by kernel_rfl)) ?_
 refine oY E (bn [vI p2,vI p1,vI 0] [(0,1),(1,2)] ust_196 oQ (by kernel_rfl)) ?_
 refine aP 1 (encL aA [(Twait.mk p2 (Ts.mk p1 0))]) _ mc_196_1 qm oQ by_196 (by decide) (by decide) (by kernel_rfl) (eL aX E) E (fun b5=>?_)
 refine aN [.slice (some ⟨b5,0,none⟩) 1 1] E E E (fun Z=>?_)
 refine aF ze_194 E (fun a=>?_)
 try dsimp only[lna,lca,lsz,lss]
 refine cy E (dJ 5 (v:=.pointer (some ⟨Z,0,none⟩)) sz_194 E (Nat.lt_of_lt_of_le (Nat.lt_succ_self _) (nB E)) E E E) (oN (eT (cS (cB ?_))))
 obtain⟨u6,g2,h⟩:=bOs h
 refine cx_addDfs ?_
 refine cx_loopD (fun(s:((List Twait) × (List (Ts × Tl)))) L tm d=>∃(U:Nat→Value) (O:Option Addr) (Q:Nat) (G:Nat) (Ds_s:List Nat),Ds_s.Nodup∧G=s.1.length∧L=[ak n 24 [vI p0.fPlaces,.slice Ab p0.fTracks.length cb],mapV Tryz.prog 191 cv aW cn (Tl.mk 0 (Ts.mk 0 0) (TLeg.mk 0 0) false) S s.2,ak l 157 [.map (some S)],aR O Q 196 3 G (encL aA s.1),ak Z 198 [.slice O G Q],ak a 194 [.pointer (some ⟨Z,0,none⟩)],nw Ds_s]∧tm=(upd (upd (upd (upd U 3 (.pointer (some ⟨n,0,none⟩))) 6 (.map none)) 7 (.pointer (some ⟨l,0,none⟩))) 8 (.pointer (some ⟨a,0,none⟩)))∧d=colD Ds_s) (fun s e L tm d=>e=.exit 0∧∃(U:Nat→Value) (O:Option Addr) (Q:Nat) (G:Nat) (Ds_s:List Nat),Ds_s.Nodup∧G=s.1.length∧L=[ak n 24 [vI p0.fPlaces,.slice Ab p0.fTracks.length cb],mapV Tryz.prog 191 cv aW cn (Tl.mk 0 (Ts.mk 0 0) (TLeg.mk 0 0) false) S s.2,ak l 157 [.map (some S)],aR O Q 196 3 G (encL aA s.1),ak Z 198 [.slice O G Q],ak a 194 [.pointer (some ⟨Z,0,none⟩)],nw Ds_s]∧tm=(upd (upd (upd (upd U 3 (.pointer (some ⟨n,0,none⟩))) 6 (.map none)) 7 (.pointer (some ⟨l,0,none⟩))) 8 (.pointer (some ⟨a,0,none⟩)))∧d=colD Ds_s) g2 ⟨_,(some ⟨b5,0,none⟩),1,1,[],List.nodup_nil,E,E,(kp4 E),E⟩ ?_ ?_
 ·rintro H L tm d st ⟨g3,M,N,r2,Ds_s10,hd_s10,rfl,rfl,rfl,rfl⟩ h
  unfold eK at h
  refine cS (cS (cR ?_))
  try dsimp only[lna,lca,lsz,lss]
  refine oY E (yL 5 sc_194 E E E) (oY E (kj E) (oY E (yL 4 ke E E E) ?_))
  obtain⟨fG,g4,h⟩:=bOs h
  refine oY E (yC [.slice M H.1.length N] go_147 E (fun W2 I=>ia H.1 fG g4 W2 M H.1.length N E ((RdL.row 3 E) W2 I)) E) (oY E (eu E E) (oN (eT ?_)))
  rcases iOs h with⟨c,h⟩|⟨c,h⟩
  ·refine cT (vB c) (cK (eT (cB (cS (cR (oY E (yL 5 sc_194 E E E) (oY E (kF nif_194 E) ?_)))))))
   obtain⟨g,gf,h⟩:=bOs h
   refine gR [4,3] [] [.iface 194 (.pointer (some ⟨Z,0,none⟩))] [] (fun(x:(Option Addr × Nat × Nat))=>x.2.1=g.2.length) (fun _=>.iface 196 (.agg #[vI g.1.f_at,vI g.1.f_stop.f_place,vI g.1.f_stop.f_toll])) (fun x=>[ak Z 198 [.slice x.1 x.2.1 x.2.2],aR x.1 x.2.2 196 3 x.2.1 (encL aA g.2)]) (fun _=>[]) (Foc.c2 E E) (by decide) E go_148 E E (fun _=>E) (fun W2 I=>lG H.1 g gf W2 _ (bH [ak n 24 [vI p0.fPlaces,.slice Ab p0.fTracks.length cb],mapV Tryz.prog 191 cv aW cn (Tl.mk 0 (Ts.mk 0 0) (TLeg.mk 0 0) false) S H.2,ak l 157 [.map (some S)],aR M N 196 3 H.1.length (encL aA H.1),ak Z 198 [.slice M H.1.length N],ak a 194 [.pointer (some ⟨Z,0,none⟩)],nw Ds_s10] [4,3]) Z M H.1.length N E I) ?_
   rintro⟨go,rx,o0⟩ f1
   replace f1:rx=g.2.length:=f1;subst f1
   try dsimp only[me,lsz,lss,List.append_nil]
   refine oY E (nH qE E) ?_
   refine aF oQ E (fun R=>?_)
   try dsimp only[lna,lca,lsz,lss]
   refine cy E (yS 7 [vI g.1.f_at,vI g.1.f_stop.f_place,vI g.1.f_stop.f_toll] tJ E (nB E) E E E) (oN (eT (cS (cS ?_))))
   refine aS 8 bW (by kernel_rfl) (by kernel_rfl) ?_
   refine qY E (yL 2 sc_157 E E E) (qY E (yFA oG E) (qY E (yN 7 [vI g.1.f_stop.f_place,vI g.1.f_stop.f_toll] nF E E E) ?_))
   obtain⟨o1,h⟩:=gOs h
   refine qY E (kX (k:=g.1.f_stop) (MpL.own 1 E) nK nP kP E E o1) (qY E (tk [vI ((aC (Tl.mk 0 (Ts.mk 0 0) (TLeg.mk 0 0) false) H.2 g.1.f_stop).f_at),vI ((aC (Tl.mk 0 (Ts.mk 0 0) (TLeg.mk 0 0) false) H.2 g.1.f_stop).f_from.f_place),vI ((aC (Tl.mk 0 (Ts.mk 0 0) (TLeg.mk 0 0) false) H.2 g.1.f_stop).f_from.f_toll),vI ((aC (Tl.mk 0 (Ts.mk 0 0) (TLeg.mk 0 0) false) H.2 g.1.f_stop).f_leg.fTrack),vI ((aC (Tl.mk 0 (Ts.mk 0 0) (TLeg.mk 0 0) false) H.2 g.1.f_stop).f_leg.fHour),.bool ((aC (Tl.mk 0 (Ts.mk 0 0) (TLeg.mk 0 0) false) H.2 g.1.f_stop).f_begin)] (v:=vI ((aC (Tl.mk 0 (Ts.mk 0 0) (TLeg.mk 0 0) false) H.2 g.1.f_stop).f_at)) tG aK E E) (qY E (yFA oz E) (qY E (yL 7 aK E E E) (qY E (be E E) (bF (oN (eT ?_)))))))
   rcases iOs h with⟨f2,h⟩|⟨f2,h⟩
   ·refine cT (vB f2) (aD (ai (ac (aQ 7 ?_))))
    obtain rfl:=sI h
    exact tx ⟨_,go,o0,g.2.length,Ds_s10,hd_s10,E,E,(kp4 E),E⟩
   ·refine cF (vB f2) (cK (eT (cS (cR (oY E (yN 0 [vI p0.fPlaces,.slice Ab p0.fTracks.length cb] dG E E E) (oY E (yFA oG E) (oY E (yFA fo_191_0 E) (oY E (yL 7 aK E E E) ?_))))))))
    obtain⟨u0,o2,h⟩:=bOs h
    refine mD [.agg #[vI p0.fPlaces,.slice Ab p0.fTracks.length cb],vI g.1.f_stop.f_place] _ _ E go_149 E (fun W2 I=>pQ p0 g.1.f_stop.f_place u0 o2 W2 Ab p0.fTracks.length cb X E ((RdL.arg b) W2 I) (NestL.at (NestL.arg Y) W2 I)) ?_
    rintro⟨V,T⟩
    try dsimp only[lna,lca,lsz,lss]
    refine oN (eT (cB ?_))
    obtain⟨hok65,h⟩:=gOs h
    obtain⟨u7,oX,h⟩:=bOs h
    refine cx_rangeH (enc:=fun y:{y:Hd × TT // y∈X}=>.agg #[vI y.1.2.fID,vI y.1.2.fFrom,vI y.1.2.fTo,vI y.1.2.fLong,vI y.1.2.fToll,.slice y.1.1.1 y.1.1.2.1 y.1.1.2.2]) (bodyf:=fun s y=>cM g s y.1.2) (caps:=[.pointer (some ⟨V,0,none⟩),.pointer (some ⟨T,0,none⟩)]) (fun(s:((List (Ts × Tl)) × (List Twait))) L=>∃(O:Option Addr) (Q:Nat) (G:Nat),G=s.2.length∧L=[ak n 24 [vI p0.fPlaces,.slice Ab p0.fTracks.length cb],mapV Tryz.prog 191 cv aW cn (Tl.mk 0 (Ts.mk 0 0) (TLeg.mk 0 0) false) S s.1,ak l 157 [.map (some S)],aR O Q 196 3 G (encL aA s.2),ak Z 198 [.slice O G Q],ak a 194 [.pointer (some ⟨Z,0,none⟩)],nw Ds_s10,ak R 196 [vI g.1.f_at,vI g.1.f_stop.f_place,vI g.1.f_stop.f_toll],ak V 24 [vI p0.fPlaces,.slice Ab p0.fTracks.length cb],ak T 3 [vI g.1.f_stop.f_place]]) (fun(_:Unit) _ _=>False) (foldO_seqE (xs:=p0.fTracks) Y.p.eq oX) E go_178 (nC (p0,g.1.f_stop.f_place) hok65 V T Ab p0.fTracks.length cb X E Y.p) (fun W2 s L hI I=>by obtain⟨O,Q,G,rfl,rfl⟩:=hI;exact⟨I.mem (i:=8) E,I.mem (i:=9) E,(RdL.arg b) W2 I⟩) ⟨go,o0,g.2.length,E,E⟩ (fun W2 I s L hI=>by obtain⟨O,Q,G,rfl,rfl⟩:=hI;exact(.cons Cy.cells (.cons (Cy.mapV (Res.inb (mapV Tryz.prog 191 cv aW cn (Tl.mk 0 (Ts.mk 0 0) (TLeg.mk 0 0) false) S _) W2 (I.mem (i:=1) E) _ E)) (.cons Cy.cells (.cons Cy.row (.cons Cy.cells (.cons Cy.cells (.cons Cy.dfs (.cons Cy.cells (.cons Cy.cells (.cons Cy.cells CyL.nil))))))))))) (fun _ _ _ _ _ h=>h.elim) (fun _ _ _ h=>h.elim) ?_ ?_ ?_
    ·rintro D28 l29 rec30 o ⟨⟨⟨f3,u1,fr⟩,f⟩,hm32⟩ L st hrec31 ⟨u,w,r3,rfl,rfl⟩ h
     have oq:u1=f.fK.length:=NestP.ln Y.p _ hm32
     subst oq
     replace h:cM g o f=_:=h
     unfold cM at h
     refine cR ?_
     try dsimp only[lna,lca,lsz,lss]
     refine aF ip E (fun fH=>?_)
     try dsimp only[lna,lca,lsz,lss]
     refine cy E (yS 12 [vI f.fID,vI f.fFrom,vI f.fTo,vI f.fLong,vI f.fToll,.slice f3 f.fK.length fr] nU E (nB E) E E E) (oN (ex_begin 11 E hrec31 (cB (cS (cR (oY E (yN 12 [vI f.fID,vI f.fFrom,vI f.fTo,vI f.fLong,vI f.fToll,.slice f3 f.fK.length fr] gS E E E) (oY E (yFA oz E) (oY E (yL 7 aK E E E) ?_))))))))
     obtain⟨D,op,h⟩:=bOs h
     refine oY E (yC [.agg #[vI f.fID,vI f.fFrom,vI f.fTo,vI f.fLong,vI f.fToll,.slice f3 f.fK.length fr],vI g.1.f_at] ti E (fun W2 I=>iS f g.1.f_at D op W2 f3 f.fK.length fr E ((NestL.inn (NestL.arg Y) _ hm32) W2 I)) E) (oY E (aY E) (oY E (yE E E) (oY E (yE E E) (oY E (yAI E) (oY E (yAB E) (oN (eT (cS (cR (oY E (yFA gD E) (oY E (yL 12 aK E E E) (oY E (yFA oG E) (oY E (yFA qz E) (oY E (yL 7 aK E E E) (oY E (yFA gb E) (oY E (yL 12 aK E E E) (oY E (aL E E) ?_)))))))))))))))))
     refine oY E (bn [vI f.fTo,vI (w64 (g.1.f_stop.f_toll+f.fToll))] [(0,1),(1,1)] pb ql (by kernel_rfl)) ?_
     refine aF ql E (fun fT=>?_)
     try dsimp only[lna,lca,lsz,lss]
     refine cy E (yS 13 [vI f.fTo,vI (w64 (g.1.f_stop.f_toll+f.fToll))] sz_191 E (nB E) E E E) (oN (eT (cS (cS (cR (oY E (yMB E) (oY E (bD E) (oY E (yMB E) ?_))))))))
     refine oJ 4 (fun U=>(upd (upd (upd (upd (upd (upd (upd (upd (upd (upd (upd (upd (upd U 3 (.pointer (some ⟨n,0,none⟩))) 6 (.map none)) 7 (.pointer (some ⟨l,0,none⟩))) 8 (.pointer (some ⟨a,0,none⟩))) 32 (.bool (decide (0<fG)))) 9 (.pointer (some ⟨R,0,none⟩))) 44 (.bool (decide ((aC (Tl.mk 0 (Ts.mk 0 0) (TLeg.mk 0 0) false) H.2 g.1.f_stop).f_at<g.1.f_at)))) 49 (.func (.func 178) #[] #[.pointer (some ⟨V,0,none⟩),.pointer (some ⟨T,0,none⟩)])) 10 (.pointer (some ⟨fH,0,none⟩))) 11 (vI D.1)) 12 (.bool D.2)) 13 (.pointer (some ⟨fT,0,none⟩))) 73 (.bool ((!D.2)||(decide (60<w64 (g.1.f_stop.f_toll+f.fToll))))))) (fun U=>?_) (fun key=>?_)
     ·refine oY E (yMB E) ?_
      obtain⟨om,ot,h⟩:=bOs h
      refine oJ 7 (fun U=>(upd (upd (upd (upd (upd (upd (upd (upd (upd (upd (upd (upd (upd U 3 (.pointer (some ⟨n,0,none⟩))) 6 (.map none)) 7 (.pointer (some ⟨l,0,none⟩))) 8 (.pointer (some ⟨a,0,none⟩))) 32 (.bool (decide (0<fG)))) 9 (.pointer (some ⟨R,0,none⟩))) 44 (.bool (decide ((aC (Tl.mk 0 (Ts.mk 0 0) (TLeg.mk 0 0) false) H.2 g.1.f_stop).f_at<g.1.f_at)))) 49 (.func (.func 178) #[] #[.pointer (some ⟨V,0,none⟩),.pointer (some ⟨T,0,none⟩)])) 10 (.pointer (some ⟨fH,0,none⟩))) 11 (vI D.1)) 12 (.bool D.2)) 13 (.pointer (some ⟨fT,0,none⟩))) 81 (.bool om))) (fun U=>?_) (fun key=>?_)
      ·refine oN (eT ?_)
       rcases iOs h with⟨fd,h⟩|⟨fd,h⟩
       ·refine cT (vB fd) (aD (ai (ac (aQ 12 ?_))))
        obtain rfl:=sI h
        exact rc [ak n 24 [vI p0.fPlaces,.slice Ab p0.fTracks.length cb],mapV Tryz.prog 191 cv aW cn (Tl.mk 0 (Ts.mk 0 0) (TLeg.mk 0 0) false) S o.1,ak l 157 [.map (some S)],aR u w 196 3 o.2.length (encL aA o.2),ak Z 198 [.slice u o.2.length w],ak a 194 [.pointer (some ⟨Z,0,none⟩)],nw Ds_s10,ak R 196 [vI g.1.f_at,vI g.1.f_stop.f_place,vI g.1.f_stop.f_toll],ak V 24 [vI p0.fPlaces,.slice Ab p0.fTracks.length cb],ak T 3 [vI g.1.f_stop.f_place]] ⟨u,w,o.2.length,E,E⟩
       ·refine cF (vB fd) (cK (eT (cS (cS (cR (oY E (yL 2 sc_157 E E E) (oY E (yN 13 [vI f.fTo,vI (w64 (g.1.f_stop.f_toll+f.fToll))] nF E E E) ?_)))))))
        obtain⟨oa,h⟩:=gOs h
        refine oY E (nn (k:=(Ts.mk f.fTo (w64 (g.1.f_stop.f_toll+f.fToll)))) (MpL.own 1 E) nK nP kP E E oa) (oY E (aY E) (oY E (yE E E) (oY E (yE E E) ?_)))
        refine aF kP E (fun oi=>?_)
        try dsimp only[lna,lca,lsz,lss]
        refine cy E (yS 14 [vI ((aC (Tl.mk 0 (Ts.mk 0 0) (TLeg.mk 0 0) false) o.1 (Ts.mk f.fTo (w64 (g.1.f_stop.f_toll+f.fToll)))).f_at),vI ((aC (Tl.mk 0 (Ts.mk 0 0) (TLeg.mk 0 0) false) o.1 (Ts.mk f.fTo (w64 (g.1.f_stop.f_toll+f.fToll)))).f_from.f_place),vI ((aC (Tl.mk 0 (Ts.mk 0 0) (TLeg.mk 0 0) false) o.1 (Ts.mk f.fTo (w64 (g.1.f_stop.f_toll+f.fToll)))).f_from.f_toll),vI ((aC (Tl.mk 0 (Ts.mk 0 0) (TLeg.mk 0 0) false) o.1 (Ts.mk f.fTo (w64 (g.1.f_stop.f_toll+f.fToll)))).f_leg.fTrack),vI ((aC (Tl.mk 0 (Ts.mk 0 0) (TLeg.mk 0 0) false) o.1 (Ts.mk f.fTo (w64 (g.1.f_stop.f_toll+f.fToll)))).f_leg.fHour),.bool ((aC (Tl.mk 0 (Ts.mk 0 0) (TLeg.mk 0 0) false) o.1 (Ts.mk f.fTo (w64 (g.1.f_stop.f_toll+f.fToll)))).f_begin)] rG E (nB E) E E E) (oY E (yAB E) (oN (eT (cS (cR (oY E (yMB E) (oY E (yMB E) ?_)))))))
        refine oJ 8 (fun U=>(upd (upd (upd (upd (upd (upd (upd (upd (upd (upd (upd (upd (upd (upd (upd (upd U 3 (.pointer (some ⟨n,0,none⟩))) 6 (.map none)) 7 (.pointer (some ⟨l,0,none⟩))) 8 (.pointer (some ⟨a,0,none⟩))) 32 (.bool (decide (0<fG)))) 9 (.pointer (some ⟨R,0,none⟩))) 44 (.bool (decide ((aC (Tl.mk 0 (Ts.mk 0 0) (TLeg.mk 0 0) false) H.2 g.1.f_stop).f_at<g.1.f_at)))) 49 (.func (.func 178) #[] #[.pointer (some ⟨V,0,none⟩),.pointer (some ⟨T,0,none⟩)])) 10 (.pointer (some ⟨fH,0,none⟩))) 11 (vI D.1)) 12 (.bool D.2)) 13 (.pointer (some ⟨fT,0,none⟩))) 81 (.bool om)) 14 (.pointer (some ⟨oi,0,none⟩))) 15 (.bool (bt o.1 (Ts.mk f.fTo (w64 (g.1.f_stop.f_toll+f.fToll)))))) 97 (.bool ((bt o.1 (Ts.mk f.fTo (w64 (g.1.f_stop.f_toll+f.fToll))))&&(decide ((aC (Tl.mk 0 (Ts.mk 0 0) (TLeg.mk 0 0) false) o.1 (Ts.mk f.fTo (w64 (g.1.f_stop.f_toll+f.fToll)))).f_at≤w64 (D.1+f.fLong))))))) (fun U=>?_) (fun key=>?_)
        ·refine oN (eT ?_)
         rcases iOs h with⟨fD,h⟩|⟨fD,h⟩
         ·refine cT (vB fD) (aD (ai (ac (aQ 12 ?_))))
          obtain rfl:=sI h
          exact rc [ak n 24 [vI p0.fPlaces,.slice Ab p0.fTracks.length cb],mapV Tryz.prog 191 cv aW cn (Tl.mk 0 (Ts.mk 0 0) (TLeg.mk 0 0) false) S o.1,ak l 157 [.map (some S)],aR u w 196 3 o.2.length (encL aA o.2),ak Z 198 [.slice u o.2.length w],ak a 194 [.pointer (some ⟨Z,0,none⟩)],nw Ds_s10,ak R 196 [vI g.1.f_at,vI g.1.f_stop.f_place,vI g.1.f_stop.f_toll],ak V 24 [vI p0.fPlaces,.slice Ab p0.fTracks.length cb],ak T 3 [vI g.1.f_stop.f_place]] ⟨u,w,o.2.length,E,E⟩
         ·refine cF (vB fD) (cK (eT (cS (cR (oY E (yL 2 sc_157 E E E) (oY E (yN 13 [vI f.fTo,vI (w64 (g.1.f_stop.f_toll+f.fToll))] nF E E E) (oY E (yMI E) (oY E (yFA f5 E) (oY E (yL 12 aK E E E) (oY E (aL E E) (oY E (yFA oG E) (oY E (yN 7 [vI g.1.f_stop.f_place,vI g.1.f_stop.f_toll] nF E E E) (oY E (yFA iU E) (oY E (yL 12 aK E E E) (oY E (yMI E) ?_)))))))))))))))
          refine oY E (bn [vI f.fID,vI D.1] [(0,1),(1,1)] ust_132 tL (by kernel_rfl)) ?_
          refine oY E (bn [vI (w64 (D.1+f.fLong)),vI g.1.f_stop.f_place,vI g.1.f_stop.f_toll,vI f.fID,vI D.1,.bool false] [(0,1),(1,2),(3,2),(5,1)] ust_193 kP (by kernel_rfl)) ?_
          obtain⟨oj,h⟩:=gOs h
          refine cy E (la 1 (k:=(Ts.mk f.fTo (w64 (g.1.f_stop.f_toll+f.fToll)))) (v:=(Tl.mk (w64 (D.1+f.fLong)) g.1.f_stop (TLeg.mk f.fID D.1) false)) E nK nP E E E oj) (oN (eT (cR (oY E (yL 5 sc_194 E E E) (oY E (kF nif_194 E) (oY E (yMI E) (oY E (yFA f5 E) (oY E (yL 12 aK E E E) (oY E (aL E E) (oY E (yN 13 [vI f.fTo,vI (w64 (g.1.f_stop.f_toll+f.fToll))] nF E E E) ?_))))))))))
          refine oY E (bn [vI (w64 (D.1+f.fLong)),vI f.fTo,vI (w64 (g.1.f_stop.f_toll+f.fToll))] [(0,1),(1,2)] ust_196 oQ (by kernel_rfl)) ?_
          refine oY E (kF qE E) ?_
          obtain⟨q,ok,h⟩:=bOs h
          refine gR [4,3] [] [.iface 194 (.pointer (some ⟨Z,0,none⟩)),.iface 196 (.agg #[vI (w64 (D.1+f.fLong)),vI f.fTo,vI (w64 (g.1.f_stop.f_toll+f.fToll))])] [] (fun(x:(Option Addr × Nat × Nat))=>x.2.1=q.length) (fun _=>.tuple #[]) (fun x=>[ak Z 198 [.slice x.1 x.2.1 x.2.2],aR x.1 x.2.2 196 3 x.2.1 (encL aA q)]) (fun _=>[]) (Foc.c2 E E) (by decide) E go_150 E E (fun _=>E) (fun W2 I=>kT o.2 (Twait.mk (w64 (D.1+f.fLong)) (Ts.mk f.fTo (w64 (g.1.f_stop.f_toll+f.fToll)))) q ok W2 _ (bH [ak n 24 [vI p0.fPlaces,.slice Ab p0.fTracks.length cb],mapV Tryz.prog 191 cv aW cn (Tl.mk 0 (Ts.mk 0 0) (TLeg.mk 0 0) false) S (((Ts.mk f.fTo (w64 (g.1.f_stop.f_toll+f.fToll))),(Tl.mk (w64 (D.1+f.fLong)) g.1.f_stop (TLeg.mk f.fID D.1) false))::o.1),ak l 157 [.map (some S)],aR u w 196 3 o.2.length (encL aA o.2),ak Z 198 [.slice u o.2.length w],ak a 194 [.pointer (some ⟨Z,0,none⟩)],nw Ds_s10,ak R 196 [vI g.1.f_at,vI g.1.f_stop.f_place,vI g.1.f_stop.f_toll],ak V 24 [vI p0.fPlaces,.slice Ab p0.fTracks.length cb],ak T 3 [vI g.1.f_stop.f_place],dfR D28,lpR l29 { rec30 with state:=.busy },ak fH 120 [vI f.fID,vI f.fFrom,vI f.fTo,vI f.fLong,vI f.fToll,.slice f3 f.fK.length fr],ak fT 191 [vI f.fTo,vI (w64 (g.1.f_stop.f_toll+f.fToll))],ak oi 193 [vI ((aC (Tl.mk 0 (Ts.mk 0 0) (TLeg.mk 0 0) false) o.1 (Ts.mk f.fTo (w64 (g.1.f_stop.f_toll+f.fToll)))).f_at),vI ((aC (Tl.mk 0 (Ts.mk 0 0) (TLeg.mk 0 0) false) o.1 (Ts.mk f.fTo (w64 (g.1.f_stop.f_toll+f.fToll)))).f_from.f_place),vI ((aC (Tl.mk 0 (Ts.mk 0 0) (TLeg.mk 0 0) false) o.1 (Ts.mk f.fTo (w64 (g.1.f_stop.f_toll+f.fToll)))).f_from.f_toll),vI ((aC (Tl.mk 0 (Ts.mk 0 0) (TLeg.mk 0 0) false) o.1 (Ts.mk f.fTo (w64 (g.1.f_stop.f_toll+f.fToll)))).f_leg.fTrack),vI ((aC (Tl.mk 0 (Ts.mk 0 0) (TLeg.mk 0 0) false) o.1 (Ts.mk f.fTo (w64 (g.1.f_stop.f_toll+f.fToll)))).f_leg.fHour),.bool ((aC (Tl.mk 0 (Ts.mk 0 0) (TLeg.mk 0 0) false) o.1 (Ts.mk f.fTo (w64 (g.1.f_stop.f_toll+f.fToll)))).f_begin)]] [4,3]) Z u o.2.length w E I) ?_
          rintro⟨ft,u2,g1⟩ fE
          replace fE:u2=q.length:=fE;subst fE
          try dsimp only[me,lsz,lss,List.append_nil]
          refine oN (aw (aQ 12 ?_))
          obtain rfl:=sI h
          exact rc [ak n 24 [vI p0.fPlaces,.slice Ab p0.fTracks.length cb],mapV Tryz.prog 191 cv aW cn (Tl.mk 0 (Ts.mk 0 0) (TLeg.mk 0 0) false) S (((Ts.mk f.fTo (w64 (g.1.f_stop.f_toll+f.fToll))),(Tl.mk (w64 (D.1+f.fLong)) g.1.f_stop (TLeg.mk f.fID D.1) false))::o.1),ak l 157 [.map (some S)],aR ft g1 196 3 q.length (encL aA q),ak Z 198 [.slice ft q.length g1],ak a 194 [.pointer (some ⟨Z,0,none⟩)],nw Ds_s10,ak R 196 [vI g.1.f_at,vI g.1.f_stop.f_place,vI g.1.f_stop.f_toll],ak V 24 [vI p0.fPlaces,.slice Ab p0.fTracks.length cb],ak T 3 [vI g.1.f_stop.f_place]] ⟨ft,g1,q.length,E,E⟩
        ·rcases ar (bt o.1 (Ts.mk f.fTo (w64 (g.1.f_stop.f_toll+f.fToll))))with r|r
         ·refine oY (sT E E E E r) (yFA rq E) (oY (sT E E E E r) (yL 14 aK E E E) (oY (sT E E E E r) (yMI E) (oY (sT E E E E r) (yFA f5 E) (oY (sT E E E E r) (yL 12 aK E E E) (oY (sT E E E E r) (aL E E) (oY (sT E E E E r) (gV E E) (oY E (ad (vB r) E) ?_)))))))
          exact key _ _ (keep (keep (keep (keep (keep (keep (keep (keep (keep (keep (keep (keep (keep (keep (keep (keep E E) E) E) E) E) E) E) E) E) E) E) E) E) E) E) (vB (fF r)))
         ·refine oSk (sF E E E E r) (oSk (sF E E E E r) (oSk (sF E E E E r) (oSk (sF E E E E r) (oSk (sF E E E E r) (oSk (sF E E E E r) (oSk (sF E E E E r) (oY E (ag (vB r) E) ?_)))))))
          exact key _ _ (keep (keep (keep (keep (keep (keep (keep (keep (keep (keep (keep (keep (keep (keep (keep (keep E E) E) E) E) E) E) E) E) E) E) E) E) E) E) E) (vB (fy r)))
      ·clear h;rcases iOs ot with⟨F,h⟩|⟨F,h⟩
       ·refine oSk (sF E E E E F) (oSk (sF E E E E F) (oSk (sF E E E E F) (oSk (sF E E E E F) (oSk (sF E E E E F) (oSk (sF E E E E F) (oY E (ad (vB F) E) ?_))))))
        obtain rfl:=sI h
        exact key _ _ (kp4 (kp4 (kp4 (kp E))))
       ·refine oY (sT E E E E F) (yMI E) (oY (sT E E E E F) (yFA f5 E) (oY (sT E E E E F) (yL 12 aK E E E) (oY (sT E E E E F) (aL E E) ?_)))
        obtain⟨u3,r0,h⟩:=bOs h
        refine oY (sT E E E E F) (yC [vI (w64 (D.1+f.fLong))] mb E (fun W2 I=>cL (w64 (D.1+f.fLong)) u3 r0 W2 ) E) (oY (sT E E E E F) (bD E) (oY E (ag (vB F) E) ?_))
        obtain rfl:=sI h
        exact key _ _ (kp4 (kp4 (kp4 (kp E))))
     ·rcases ar (!D.2)with K|K
      ·refine oSk (sF E E E E K) (oSk (sF E E E E K) (oSk (sF E E E E K) (oY E (ad (vB K) E) ?_)))
       exact key _ _ (keep (keep (keep (keep (keep (keep (keep (keep (keep (keep (keep (keep (keep E E) E) E) E) E) E) E) E) E) E) E) E) (vB (iQ K)))
      ·refine oY (sT E E E E K) (yFA qz E) (oY (sT E E E E K) (yL 13 aK E E E) (oY (sT E E E E K) (eu E E) (oY E (ag (vB K) E) ?_)))
       exact key _ _ (keep (keep (keep (keep (keep (keep (keep (keep (keep (keep (keep (keep (keep E E) E) E) E) E) E) E) E) E) E) E) E) (vB (iR K)))
    ·rintro D28 u4 L hst ⟨fR,fn,r4,rfl,rfl⟩
     subst hst
     dsimp only at h
     refine aw (aw ?_)
     refine ex_dfs 6 10 (by decide) E E (fun hd69=>?_)
     try dsimp only[lsz,lss]
     refine aQ 7 ?_
     obtain rfl:=sI h
     exact tx ⟨_,fR,fn,u4.2.length,(D28::Ds_s10),(List.nodup_cons.2 ⟨hd69,hd_s10⟩),E,E,(kp4 E),E⟩
    ·intro D28 t e L _ hh
     exact hh.elim
  ·refine cF (vB c) (aD (ai ?_))
   obtain rfl:=sI h
   exact ex_stopD ⟨E,_,M,N,H.1.length,Ds_s10,hd_s10,E,E,(kp4 E),E⟩
 ·intro e L tm d hJ
  obtain⟨rfl,r1,r5,rd,ri,Ds_u11,hd_u11,rfl,rfl,rfl,rfl⟩:=hJ
  refine⟨(by intro hc;cases hc),?_⟩
  refine ac (eT (cS (cR ?_)))
  try dsimp only[lna,lca,lsz,lss]
  refine oY E (yL 2 sc_157 E E E) (oY E (eX E) (oN (eT (ap (ex_MN 6 E hd_u11 (.inl E) ?_)))))
  obtain rfl:=sI h
  exact am (.inl E) E (rVt (v:=.map (some S)) E) (fun W2 I=>⟨S,E,(I.pick 1 E)⟩)
theorem kQ (p0:(List (Ts × Tl))) (p1:Int) (res:(List Int)) (h:fx p0 p1=some res) (W:World) (d:Nat) (hm0_0:(mapV Tryz.prog 191 cv aW cn (Tl.mk 0 (Ts.mk 0 0) (TLeg.mk 0 0) false) d p0).holds W) :
  Calls Tryz.prog 111 [.map (some d),vI p1].toArray W fun e W2=>∃x:Unit,res.length=61∧e=.returned (.agg (encL cI res).toArray)∧Ext W W2 []:=by
 unfold fx at h
 refine aj (m:=39) Tryz.func111 E E (nB E) (cS (cR ?_))
 refine aF qe E (fun K=>?_)
 refine oN (eT (cS (cR ?_)))
 refine aF qe E (fun M=>?_)
 refine oN (eT (cS (cR (oY E (yAI E) (oN (eT (cS (cS (cR (oY E (yMI E) (oN (eT (cB ?_)))))))))))))
 obtain⟨X,I,h⟩:=bOs h
 refine bj (fun(s:(Int × Int × (List Int))) L tm=>∃(w:Nat→Value),s.2.2.length=61∧L=[ak K 160 (encL cI (List.replicate 61 0)),ak M 160 (encL cI s.2.2)]∧tm=(upd (upd (upd (upd (upd (upd w 0 (.map (some d))) 1 (vI p1)) 4 (.pointer (some ⟨K,0,none⟩))) 5 (.pointer (some ⟨M,0,none⟩))) 6 (vI s.1)) 10 (vI s.2.1))) 0 I ⟨_,List.length_replicate,E,(kp4 (kp (kp E)))⟩ ?_ ?_
 ·rintro o L tm st ⟨N,r,rfl,rfl⟩ h
  unfold dh at h
  refine cS (cR (oY E (be E E) (oN (eT (cS ?_)))))
  rcases iOs h with⟨H,h⟩|⟨H,h⟩
  ·refine cT (vB H) (cK (eT (cS (cB (cS (cR (oY E (yMI E) (oY E (yAI E) (oN (eT (cS (cS (cR (oY E (cU E) (oY E (yMI E) (oY E (yMI E) ?_))))))))))))))))
   refine oY E (bn [vI p1,vI o.2.1] [(0,1),(1,1)] pb ql (by kernel_rfl)) ?_
   obtain⟨Q,h⟩:=gOs h
   refine oY E (nn (k:=(Ts.mk p1 o.2.1)) (MpL.arg hm0_0) nK nP kP E E Q) (oY E (aY E) (oY E (yE E E) (oY E (yE E E) ?_)))
   refine aF kP E (fun Y=>?_)
   refine cy E (yS 2 [vI ((aC (Tl.mk 0 (Ts.mk 0 0) (TLeg.mk 0 0) false) p0 (Ts.mk p1 o.2.1)).f_at),vI ((aC (Tl.mk 0 (Ts.mk 0 0) (TLeg.mk 0 0) false) p0 (Ts.mk p1 o.2.1)).f_from.f_place),vI ((aC (Tl.mk 0 (Ts.mk 0 0) (TLeg.mk 0 0) false) p0 (Ts.mk p1 o.2.1)).f_from.f_toll),vI ((aC (Tl.mk 0 (Ts.mk 0 0) (TLeg.mk 0 0) false) p0 (Ts.mk p1 o.2.1)).f_leg.fTrack),vI ((aC (Tl.mk 0 (Ts.mk 0 0) (TLeg.mk 0 0) false) p0 (Ts.mk p1 o.2.1)).f_leg.fHour),.bool ((aC (Tl.mk 0 (Ts.mk 0 0) (TLeg.mk 0 0) false) p0 (Ts.mk p1 o.2.1)).f_begin)] rG E (nB E) E E E) (oY E (yAB E) (oN (eT (cS (cR (oY E (yMB E) (oY E (yMB E) ?_)))))))
   refine oJ 9 (fun w=>(upd (upd (upd (upd (upd (upd (upd (upd (upd (upd (upd w 0 (.map (some d))) 1 (vI p1)) 4 (.pointer (some ⟨K,0,none⟩))) 5 (.pointer (some ⟨M,0,none⟩))) 6 (vI o.1)) 10 (vI o.2.1)) 11 (.bool (decide (o.2.1<61)))) 7 (vI o.2.1)) 8 (.pointer (some ⟨Y,0,none⟩))) 9 (.bool (bt p0 (Ts.mk p1 o.2.1)))) 31 (.bool ((bt p0 (Ts.mk p1 o.2.1))&&((decide (o.1<0))||(decide ((aC (Tl.mk 0 (Ts.mk 0 0) (TLeg.mk 0 0) false) p0 (Ts.mk p1 o.2.1)).f_at<o.1))))))) (fun w=>?_) (fun key=>?_)
   ·refine oN (eT ?_)
    rcases iOs h with⟨G,h⟩|⟨G,h⟩
    ·refine cT (vB G) (cR (oY E (yFA rq E) (oY E (yL 2 aK E E E) (oY E (yAI E) (oN (eT (cR (oY E (yMI E) (oY E (yMI E) ?_)))))))))
     obtain⟨D,h⟩:=gOs h
     refine oY E (lK tB D.1 D.2 E E) (cy E (mO 1 (encL cI (o.2.2.set (Int.toNat o.2.1) ((aC (Tl.mk 0 (Ts.mk 0 0) (TLeg.mk 0 0) false) p0 (Ts.mk p1 o.2.1)).f_at))) px E (ltA r D.1 D.2) setA' E E E) (oN (aw (eT (cR (oY E (aL E E) (oY E (yMI E) (oN (aQ 2 ?_)))))))))
     obtain rfl:=sI h
     exact eN ⟨_,(rn r),E,(kp4 (kp (kp E)))⟩
    ·refine cF (vB G) (cK (eT (cR (oY E (yMI E) (oY E (yMI E) ?_)))))
     obtain⟨F,h⟩:=gOs h
     refine oY E (lK tB F.1 F.2 E E) (cy E (mO 1 (encL cI (o.2.2.set (Int.toNat o.2.1) o.1)) px E (ltA r F.1 F.2) setA' E E E) (oN (aw (eT (cR (oY E (aL E E) (oY E (yMI E) (oN (aQ 2 ?_)))))))))
     obtain rfl:=sI h
     exact eN ⟨_,(rn r),E,(kp4 (kp (kp E)))⟩
   ·rcases ar (bt p0 (Ts.mk p1 o.2.1))with f|f
    ·refine oY (sT E E E E f) (yMI E) (oY (sT E E E E f) (be E E) (oY (sT E E E E f) (yMB E) ?_))
     refine oJ 5 (fun w=>(upd (upd (upd (upd (upd (upd (upd (upd (upd (upd (upd (upd w 0 (.map (some d))) 1 (vI p1)) 4 (.pointer (some ⟨K,0,none⟩))) 5 (.pointer (some ⟨M,0,none⟩))) 6 (vI o.1)) 10 (vI o.2.1)) 11 (.bool (decide (o.2.1<61)))) 7 (vI o.2.1)) 8 (.pointer (some ⟨Y,0,none⟩))) 9 (.bool (bt p0 (Ts.mk p1 o.2.1)))) 22 (.bool (bt p0 (Ts.mk p1 o.2.1)))) 30 (.bool ((decide (o.1<0))||(decide ((aC (Tl.mk 0 (Ts.mk 0 0) (TLeg.mk 0 0) false) p0 (Ts.mk p1 o.2.1)).f_at<o.1)))))) (fun w=>?_) (fun key=>?_)
     ·refine oY E (ad (vB f) E) ?_
      exact key _ _ (keep (keep (keep (keep (keep (keep (keep (keep (keep (keep (keep E E) E) E) E) E) E) E) E) E) E) (vB (fF f)))
     ·rcases ar (decide (o.1<0))with g|g
      ·refine oSk (sF E E E E g) (oSk (sF E E E E g) (oSk (sF E E E E g) (oSk (sF E E E E g) (oY (sT E E E E f) (ad (vB g) E) ?_))))
       exact key _ _ (keep (keep (keep (keep (keep (keep (keep (keep (keep (keep (keep (keep E E) E) E) E) E) E) E) E) E) E) E) (vB (iQ g)))
      ·refine oY (sT E E E E g) (yFA rq E) (oY (sT E E E E g) (yL 2 aK E E E) (oY (sT E E E E g) (yMI E) (oY (sT E E E E g) (be E E) (oY (sT E E E E f) (ag (vB g) E) ?_))))
       exact key _ _ (keep (keep (keep (keep (keep (keep (keep (keep (keep (keep (keep (keep E E) E) E) E) E) E) E) E) E) E) E) (vB (iR g)))
    ·refine oSk (sF E E E E f) (oSk (sF E E E E f) (oSk (sF E E E E f) (oSk E (oSk E (oSk E (oSk E (oSk (sF E E E E f) (oY E (ag (vB f) E) ?_))))))))
     exact key _ _ (keep (keep (keep (keep (keep (keep (keep (keep (keep (keep (keep E E) E) E) E) E) E) E) E) E) E) (vB (fy f)))
  ·refine cF (vB H) (aD (ai ?_))
   obtain rfl:=sI h
   exact av ⟨E,_,r,E,(kp4 (kp (kp E)))⟩
 ·intro e L tm hJ
  obtain⟨rfl,O,u,rfl,rfl⟩:=hJ
  refine⟨(by intro hc;cases hc),?_⟩
  refine ac (eT (cS (cR (oY E (yN 1 (encL cI X.2.2) (aggA pF u) E E (takeA _)) (cy E (ru 0 (xs:=(List.replicate 61 0)) (xs':=X.2.2) se List.length_replicate u E E E) (oN (eT (ap ?_))))))))
  obtain rfl:=sI h
  exact am (.inl E) E (resV_cellA 0 pF u E E) (fun W2 U=>⟨(),u,E,U.none⟩)
theorem jS (p0:(List TLeg)) (res:(List TLeg)) (h:cj p0=some res) (W:World) (O:World) (R:Res) (Aa:Option Addr) (o ca:Nat) (F:o=p0.length) (hW:Ext O W [R,aR Aa ca 132 2 o (encL TLeg_cells p0)]) :
  Calls Tryz.prog 183 [.slice Aa o ca].toArray W fun e W2=>e=.returned (.tuple #[])∧o=res.length∧Ext O W2 [R,aR Aa ca 132 2 o (encL TLeg_cells res)]:=by
 subst F
 unfold cj at h
 refine bh (m:=28) Tryz.func183 E E (nB E) hW (cS (cR (oY E (yMS E) (oY E (bi (us:=[]) us_27 E) (oY E (ex E E) (oY E (yAI E) (oY E (yAI E) (oN (eT (cB ?_))))))))))
 obtain⟨Q,H,h⟩:=bOs h
 refine bj (fun(s:(Int × Int × (List TLeg))) L tm=>∃(M:Nat→Value),p0.length=s.2.2.length∧L=[R,aR Aa ca 132 2 p0.length (encL TLeg_cells s.2.2)]∧tm=(upd (upd (upd M 0 (.slice Aa p0.length ca)) 2 (vI s.1)) 3 (vI s.2.1))) 0 H ⟨_,E,E,(kp (kp (kp E)))⟩ ?_ ?_
 ·rintro g L tm st ⟨I,f,rfl,rfl⟩ h
  unfold bL at h
  refine cS (cS (cR (oY E (yMI E) (oY E (yMI E) (oY E (be E E) (oN (eT ?_)))))))
  rcases iOs h with⟨G,h⟩|⟨G,h⟩
  ·refine cT (vB G) (cK (eT (cS (cB ?_))))
   refine rE [2,3] 13 bW (by kernel_rfl) (by kernel_rfl) ?_
   refine qY E (yMS E) (qY E (yMI E) (qY E (yMS E) (qY E (yMI E) (qY E (yMS E) (qY E (yMI E) ?_)))))
   obtain⟨r,h⟩:=gOs h
   refine qY E (yI sw (by decide) r.1 r.2 (RdL.row 1 E) (eL bo f) E E) ?_
   refine qY E (yM (A:=Aa) (j:=(Int.toNat g.2.1*2)) [vI ((rdL g.2.2 g.2.1).fTrack),vI ((rdL g.2.2 g.2.1).fHour)] tg (Nat.succ_pos _) (RdL.row 1 E) E (bc bo r.1 (ah r.2 f))) (qY E (yMS E) (qY E (yMI E) ?_))
   obtain⟨u,h⟩:=gOs h
   refine qY E (yI sw (by decide) u.1 u.2 (RdL.row 1 E) (eL bo f) E E) ?_
   refine qY E (yM (A:=Aa) (j:=(Int.toNat g.1*2)) [vI ((rdL g.2.2 g.1).fTrack),vI ((rdL g.2.2 g.1).fHour)] tg (Nat.succ_pos _) (RdL.row 1 E) E (bc bo u.1 (ah u.2 f))) ?_
   obtain⟨d,h⟩:=gOs h
   refine qY E (yI sw (by decide) d.1 d.2 (RdL.row 1 E) (eL bo f) E E) ?_
   refine bF (cy E (ms 1 (xs:=g.2.2) [vI ((rdL g.2.2 g.2.1).fTrack),vI ((rdL g.2.2 g.2.1).fHour)] bo (Nat.succ_pos _) (rdL g.2.2 g.2.1) sz_132 E d.1 (ah d.2 f) E E E E) ?_)
   obtain⟨w,h⟩:=gOs h
   refine oY E (yI sw (by decide) w.1 w.2 (RdL.row 1 E) (eL bo (cY f)) E E) ?_
   refine cy E (ms 1 (xs:=(g.2.2.set (Int.toNat g.1) (rdL g.2.2 g.2.1))) [vI ((rdL g.2.2 g.1).fTrack),vI ((rdL g.2.2 g.1).fHour)] bo (Nat.succ_pos _) (rdL g.2.2 g.1) sz_132 E w.1 (ah w.2 (cY f)) E E E E) (oN (qI (aw (eT (cR (oY E (yMI E) (oY E (aL E E) (oY E (yMI E) (oY E (ex E E) (oY E (yAI E) (oY E (yAI E) (oN ?_))))))))))))
   obtain rfl:=sI h
   exact eN ⟨_,(cY (cY f)),E,(kp (kp (kp E)))⟩
  ·refine cF (vB G) (aD (ai ?_))
   obtain rfl:=sI h
   exact av ⟨E,_,f,E,(kp (kp (kp E)))⟩
 ·intro e L tm hJ
  obtain⟨rfl,K,D,rfl,rfl⟩:=hJ
  refine⟨(by intro hc;cases hc),?_⟩
  refine ac ?_
  obtain rfl:=sI h
  exact cO (.inr E) E  (fun W2 N=>⟨E,D,N.take 2⟩)
theorem o3 (p0:(List (Ts × Tl))) (p1:Ts) (res:TJ) (h:iy p0 p1=some res) (W:World) (u:Nat) (hm0_0:(mapV Tryz.prog 191 cv aW cn (Tl.mk 0 (Ts.mk 0 0) (TLeg.mk 0 0) false) u p0).holds W) :
  Calls Tryz.prog 157 [.map (some u),.agg #[vI p1.f_place,vI p1.f_toll]].toArray W fun e W2=>∃x:Option Addr × Nat × Nat,x.2.1=res.fLegs.length∧e=.returned (.agg #[.slice x.1 x.2.1 x.2.2,vI res.fA,vI res.fToll])∧Ext W W2 [aR x.1 x.2.2 132 2 x.2.1 (encL TLeg_cells res.fLegs)]:=by
 unfold iy at h
 refine aj (m:=36) Tryz.func157 E E (nB E) (cS (cR ?_))
 refine aN [vI p1.f_place,vI p1.f_toll] E E E (fun j=>?_)
 refine aF lr E (fun p=>?_)
 refine oN (eT (cS ?_))
 refine cx_drawsA 7 bW (by kernel_rfl) (by kernel_rfl) (by kernel_rfl) ?_
 refine ax_y E (fun _=>cU E) (ax_y E (fun _=>yN 0 [vI p1.f_place,vI p1.f_toll] nF E E E) ?_)
 obtain⟨n,h⟩:=gOs h
 refine ax_y E (fun _=>kX (k:=p1) (MpL.arg hm0_0) nK nP kP E E n) (ax_y E (fun _=>tk [vI ((aC (Tl.mk 0 (Ts.mk 0 0) (TLeg.mk 0 0) false) p0 p1).f_at),vI ((aC (Tl.mk 0 (Ts.mk 0 0) (TLeg.mk 0 0) false) p0 p1).f_from.f_place),vI ((aC (Tl.mk 0 (Ts.mk 0 0) (TLeg.mk 0 0) false) p0 p1).f_from.f_toll),vI ((aC (Tl.mk 0 (Ts.mk 0 0) (TLeg.mk 0 0) false) p0 p1).f_leg.fTrack),vI ((aC (Tl.mk 0 (Ts.mk 0 0) (TLeg.mk 0 0) false) p0 p1).f_leg.fHour),.bool ((aC (Tl.mk 0 (Ts.mk 0 0) (TLeg.mk 0 0) false) p0 p1).f_begin)] (v:=vI ((aC (Tl.mk 0 (Ts.mk 0 0) (TLeg.mk 0 0) false) p0 p1).f_at)) tG aK E E) (ax_y E (fun _=>yFA qz E) (ax_y E (fun _=>yL 0 (v:=vI p1.f_toll) aK E E E) ?_)))
 refine ax_y E (fun _=>bn [.slice none 0 0,vI ((aC (Tl.mk 0 (Ts.mk 0 0) (TLeg.mk 0 0) false) p0 p1).f_at),vI p1.f_toll] [(0,1),(1,1),(2,1)] ust_29 lr (by kernel_rfl)) ?_
 refine ax_nil E lr (fun l=>?_)
 refine cy E (yS 2 [.slice none 0 0,vI ((aC (Tl.mk 0 (Ts.mk 0 0) (TLeg.mk 0 0) false) p0 p1).f_at),vI p1.f_toll] m6 E (nB E) E E E) (oN (qI (eT (cS (cS (cR (oY E (cU E) (oY E (yN 0 [vI p1.f_place,vI p1.f_toll] nF E E E) ?_))))))))
 obtain⟨t,h⟩:=gOs h
 refine oY E (kX (k:=p1) (MpL.arg hm0_0) nK nP kP E E t) ?_
 refine aF kP E (fun y=>?_)
 refine cy E (yS 3 [vI ((aC (Tl.mk 0 (Ts.mk 0 0) (TLeg.mk 0 0) false) p0 p1).f_at),vI ((aC (Tl.mk 0 (Ts.mk 0 0) (TLeg.mk 0 0) false) p0 p1).f_from.f_place),vI ((aC (Tl.mk 0 (Ts.mk 0 0) (TLeg.mk 0 0) false) p0 p1).f_from.f_toll),vI ((aC (Tl.mk 0 (Ts.mk 0 0) (TLeg.mk 0 0) false) p0 p1).f_leg.fTrack),vI ((aC (Tl.mk 0 (Ts.mk 0 0) (TLeg.mk 0 0) false) p0 p1).f_leg.fHour),.bool ((aC (Tl.mk 0 (Ts.mk 0 0) (TLeg.mk 0 0) false) p0 p1).f_begin)] rG E (nB E) E E E) (oN (eT (cB ?_)))
 obtain⟨o,Q,h⟩:=bOs h
 refine dr 132 2 (dr 132 2 ?_)
 refine bj (fun(s:(Tl × (List TLeg))) L tm=>∃(a:Nat→Value) (F:Option Addr) (G:Nat) (d:Nat) (H:Nat),d=s.2.length∧L=[ak j 191 [vI p1.f_place,vI p1.f_toll],ak p 29 [.slice none 0 0,vI 0,vI 0],ak l 29 [.slice F d G,vI ((aC (Tl.mk 0 (Ts.mk 0 0) (TLeg.mk 0 0) false) p0 p1).f_at),vI p1.f_toll],ak H 193 [vI s.1.f_at,vI s.1.f_from.f_place,vI s.1.f_from.f_toll,vI s.1.f_leg.fTrack,vI s.1.f_leg.fHour,.bool s.1.f_begin],aR none 0 132 2 0 (encL TLeg_cells ([]:List TLeg)),aR F G 132 2 d (encL TLeg_cells s.2)]∧tm=(upd (upd (upd (upd a 0 (.map (some u))) 4 (.pointer (some ⟨p,0,none⟩))) 5 (.pointer (some ⟨l,0,none⟩))) 6 (.pointer (some ⟨H,0,none⟩)))) 0 Q ⟨_,none,0,0,y,E,E,(kp4 E)⟩ ?_ ?_
 ·rintro r L tm st ⟨R,I,K,z,M,rfl,rfl,rfl⟩ h
  unfold c8 at h
  refine cS (cS (cR ?_))
  try dsimp only[lna,lca,lsz,lss]
  refine oY E (yFA fo_193_3 E) (oY E (yL 3 sc_4 E E E) (oY E (bD E) (oN (eT ?_))))
  rcases iOs h with⟨w,h⟩|⟨w,h⟩
  ·refine cT (vB w) (cK (eT (cS (cB (cR (oY E (yFA lc E) (oY E (yL 2 sC E E E) (oY E (yFA fo_193_2 E) (oY E (yN 3 [vI r.1.f_leg.fTrack,vI r.1.f_leg.fHour] tg E E E) ?_)))))))))
   refine aP 1 (encL TLeg_cells [r.1.f_leg]) _ mc_132_1 us_27 tL by_132 (by decide) (by decide) (by kernel_rfl) (eL bo E) E (fun b=>?_)
   try dsimp only[lna,lca,lsz,lss]
   obtain⟨U,h⟩:=gOs h
   refine cx 5 us_27 tL by_132 E E E (RdL.row 6 E) (eL bo E) (ef pO _) (eR U (by decide)) E (fun X Y=>?_)
   refine oY E (yFA lc E) (cy E (dJ 2 (v:=.slice X (r.2.length+1) Y) sz_27 E (Nat.lt_of_lt_of_le (Nat.lt_succ_self _) (nB E)) E E E) (oN (aw (eT (cS (cS (cR (oY E (yN 3 [vI r.1.f_at,vI r.1.f_from.f_place,vI r.1.f_from.f_toll,vI r.1.f_leg.fTrack,vI r.1.f_leg.fHour,.bool r.1.f_begin] ag_193 E E E) (oN (eT (cR ?_)))))))))))
   refine aF kP E (fun i=>?_)
   try dsimp only[lna,lca,lsz,lss]
   refine cy E (yS 7 [vI r.1.f_at,vI r.1.f_from.f_place,vI r.1.f_from.f_toll,vI r.1.f_leg.fTrack,vI r.1.f_leg.fHour,.bool r.1.f_begin] rG E (nB E) E E E) (oN (eT (cR (oY E (cU E) (oY E (yFA fo_193_1 E) (oY E (yN 7 [vI r.1.f_from.f_place,vI r.1.f_from.f_toll] nF E E E) ?_))))))
   obtain⟨Z,h⟩:=gOs h
   refine oY E (kX (k:=r.1.f_from) (MpL.arg hm0_0) nK nP kP E E Z) (cy E (yS 7 [vI ((aC (Tl.mk 0 (Ts.mk 0 0) (TLeg.mk 0 0) false) p0 r.1.f_from).f_at),vI ((aC (Tl.mk 0 (Ts.mk 0 0) (TLeg.mk 0 0) false) p0 r.1.f_from).f_from.f_place),vI ((aC (Tl.mk 0 (Ts.mk 0 0) (TLeg.mk 0 0) false) p0 r.1.f_from).f_from.f_toll),vI ((aC (Tl.mk 0 (Ts.mk 0 0) (TLeg.mk 0 0) false) p0 r.1.f_from).f_leg.fTrack),vI ((aC (Tl.mk 0 (Ts.mk 0 0) (TLeg.mk 0 0) false) p0 r.1.f_from).f_leg.fHour),.bool ((aC (Tl.mk 0 (Ts.mk 0 0) (TLeg.mk 0 0) false) p0 r.1.f_from).f_begin)] rG E (nB E) E E E) (oN ?_))
   refine ex_mv 3 7 (by decide) E ?_
   try dsimp only[lsz,lss]
   refine aQ 6 ?_
   obtain rfl:=sI h
   exact eN ⟨_,X,Y,(r.2.length+1),i,(jM E E),E,(kp4 E)⟩
  ·refine cF (vB w) (aD (ai ?_))
   obtain rfl:=sI h
   exact av ⟨E,_,I,K,r.2.length,M,E,E,(kp4 E)⟩
 ·intro e L tm hJ
  obtain⟨rfl,V,f,g,q,D,rfl,rfl,rfl⟩:=hJ
  refine⟨(by intro hc;cases hc),?_⟩
  refine ac (eT (cS (cR ?_)))
  try dsimp only[lna,lca,lsz,lss]
  refine oY E (yFA lc E) (oY E (yL 2 sC E E E) ?_)
  obtain⟨N,T,h⟩:=bOs h
  refine f9 5 [.slice f o.2.length g] (fun(_:Unit)=>o.2.length=N.length) (fun _=>.tuple #[]) (fun _=>aR f g 132 2 o.2.length (encL TLeg_cells N)) (fun _=>[]) E E go_183 E (fun W2 O=>(jS o.2 N T W2 _ (bH [ak j 191 [vI p1.f_place,vI p1.f_toll],ak p 29 [.slice none 0 0,vI 0,vI 0],ak l 29 [.slice f o.2.length g,vI ((aC (Tl.mk 0 (Ts.mk 0 0) (TLeg.mk 0 0) false) p0 p1).f_at),vI p1.f_toll],ak D 193 [vI o.1.f_at,vI o.1.f_from.f_place,vI o.1.f_from.f_toll,vI o.1.f_leg.fTrack,vI o.1.f_leg.fHour,.bool o.1.f_begin],aR none 0 132 2 0 (encL TLeg_cells ([]:List TLeg)),aR f g 132 2 o.2.length (encL TLeg_cells o.2)] [5]) f o.2.length g E O).mono (fun e W3 h3=>⟨(),h3.2.1,h3.1,h3.2.2⟩)) ?_
  rintro-S
  try dsimp only[lsz,lss,List.append_nil]
  refine oN (eT (cS (cR (oY E (yN 2 [.slice f o.2.length g,vI ((aC (Tl.mk 0 (Ts.mk 0 0) (TLeg.mk 0 0) false) p0 p1).f_at),vI p1.f_toll] lX E E E) (cy E (yS 1 [.slice f o.2.length g,vI ((aC (Tl.mk 0 (Ts.mk 0 0) (TLeg.mk 0 0) false) p0 p1).f_at),vI p1.f_toll] m6 E (nB E) E E E) (oN (eT (ap ?_))))))))
  obtain rfl:=sI h
  exact am (.inl E) E (cf 1 [.slice f o.2.length g,vI ((aC (Tl.mk 0 (Ts.mk 0 0) (TLeg.mk 0 0) false) p0 p1).f_at),vI p1.f_toll] lX E E E) (fun W2 O=>⟨(f,o.2.length,g),S,E,(O.pick 5 E)⟩)
theorem mP (p0:TR) (p1:Int) (p2:Int) (p3:Int) (res:(List TJ)) (h:hY p0 p1 p2 p3=some res) (W:World) (Ab:Option Addr) (K cb:Nat) (d:List (Hd × TT)) (q:K=p0.fTracks.length) (p:Rd W Ab K cb (encL TTrack_cells2 d)) (n:NestW W (fun z:TT=>z.fK) TSpan_cells d p0.fTracks) (wb:World) (Hb:World→Prop) (hB:∀W3,Below W.heap.size W W3→Below wb.heap.size wb W3∧Hb W3) :
  Calls Tryz.prog 119 [.agg #[vI p0.fPlaces,.slice Ab K cb],vI p1,vI p2,vI p3].toArray W fun e W2=>∃x:((Option Addr × Nat × Nat) × (List (Hd × TJ)) × Res),(x.1.2.1=res.length∧NestP (fun z:TJ=>z.fLegs) x.2.1 res∧PvL (fun z:TJ=>z.fLegs) TLeg_cells wb (fun W4=>Hb W4∧Res.holds x.2.2 W4) x.2.1)∧e=.returned (.slice x.1.1 x.1.2.1 x.1.2.2)∧Ext W W2 [aR x.1.1 x.1.2.2 29 3 x.1.2.1 (encL TJourney_cells2 x.2.1),x.2.2]:=by
 subst q
 unfold hY at h
 refine aj (m:=41) Tryz.func119 E E (nB E) (cS (cR ?_))
 refine aN [vI p0.fPlaces,.slice Ab p0.fTracks.length cb] E E E (fun b1=>?_)
 refine oY E (yAS E) (oN (eT (cS (cR (oY E (yN 0 [vI p0.fPlaces,.slice Ab p0.fTracks.length cb] dG E E E) (oY E (yMI E) (oY E (yMI E) ?_)))))))
 obtain⟨y2,fr,h⟩:=bOs h
 refine mD [.agg #[vI p0.fPlaces,.slice Ab p0.fTracks.length cb],vI p1,vI p3] _ _ E go_110 E (fun W2 u=>l5 p0 p1 p3 y2 fr W2 Ab p0.fTracks.length cb d E ((RdL.arg p) W2 u) (NestL.at (NestL.arg n) W2 u)) ?_
 rintro t
 refine oY E (eX E) (oN (eT (cS (cR (oY E (cU E) (oY E (yMI E) ?_))))))
 obtain⟨a,fd,h⟩:=bOs h
 refine oC [.map (some t),vI p2] _ _ _ E go_111 E (fun W2 u=>kQ y2 p2 a fd W2 t ((MpL.own 1 E) W2 u)) ?_
 rintro-l
 try dsimp only[List.append_nil]
 refine aF qe E (fun b8=>?_)
 refine cy E (ru 2 (xs:=(List.replicate 61 0)) (xs':=a) se List.length_replicate l E E E) (oN (eT (cS (cR (oY E (yAS E) (oN (eT (cS (cR (oY E (yAI E) (oN (eT (cS (cS (cR (oY E (yN 2 (encL cI a) (aggA pF l) E E (takeA _)) (oY E (yMI E) (oN (eT (cB ?_))))))))))))))))))))
 obtain⟨i,j,h⟩:=bOs h
 refine dr 29 3 (q8 ?_)
 refine bj (fun(s:(Int × Int × (List TJ))) L tm=>∃(fD:Nat→Value) (T:Option Addr) (S:Nat) (M:Nat) (w:List (Hd × TJ)) (F3_s:Res),M=s.2.2.length∧NestP (fun z:TJ=>z.fLegs) w s.2.2∧PvL (fun z:TJ=>z.fLegs) TLeg_cells wb (fun W4=>Hb W4∧Res.holds F3_s W4) w∧L=[ak b1 24 [vI p0.fPlaces,.slice Ab p0.fTracks.length cb],mapV Tryz.prog 191 cv aW cn (Tl.mk 0 (Ts.mk 0 0) (TLeg.mk 0 0) false) t y2,ak b8 160 (encL cI a),aR T S 29 3 M (encL TJourney_cells2 w),F3_s]∧tm=(upd (upd (upd (upd (upd (upd (upd fD 2 (vI p2)) 8 (.slice none 0 0)) 9 (.map (some t))) 11 (.slice T M S)) 12 (vI s.1)) 22 (.agg (encL cI a).toArray)) 23 (vI s.2.1))) 0 j ⟨_,none,0,0,([]:List (Hd × TJ)),noR,E,NestP.nil,(PvL.mono (Hb:=Hb) PvL.nil (fun _ _ h=>h.1)),E,(kp4 (kp (kp (kp E))))⟩ ?_ ?_
 ·rintro I L tm st ⟨k,D,F,f2,f,F3_s11,rfl,g,o,rfl,rfl⟩ h
  unfold gJ at h
  refine cS (cR (oY E (be E E) (oN (eT (cS ?_)))))
  rcases iOs h with⟨N,h⟩|⟨N,h⟩
  ·refine cT (vB N) (cK (eT (cS (cB (cS (cR (oY E (yMI E) ?_)))))))
   obtain⟨R,h⟩:=gOs h
   refine oY E (y_indexA sS aK l R.1 R.2 E E) (oY E (yAI E) (oY E (yAI E) (oN (eT (cS (cS (cR (oY E (yMI E) (oY E (yMI E) (oY E (cJ E E) (oN (eT ?_))))))))))))
   rcases iOs h with⟨O,h⟩|⟨O,h⟩
   ·refine cT (vB O) (cR (oY E (yMS E) (oY E (cU E) (oY E (yMI E) (oY E (yMI E) ?_)))))
    refine oY E (bn [vI p2,vI I.2.1] [(0,1),(1,1)] pb ql (by kernel_rfl)) ?_
    obtain⟨r,y,h⟩:=bOs h
    refine oC [.map (some t),.agg #[vI p2,vI I.2.1]] _ _ _ E go_157 E (fun W2 u=>o3 y2 (Ts.mk p2 I.2.1) r y W2 t ((MpL.own 1 E) W2 u)) ?_
    rintro⟨Z,fE,V⟩ Q
    replace Q:fE=r.fLegs.length:=Q;subst Q
    try dsimp only[lna,lca,lsz,lss]
    refine tH ?_
    refine oD 6 5 (by decide) E E ?_
    refine aP 1 (encL TJourney_cells2 [((Z,r.fLegs.length,V),r)]) _ mc_29_1 kg lr by_29 (by decide) (by decide) (by kernel_rfl) (eL aq E) E (fun fn=>?_)
    try dsimp only[lna,lca,lsz,lss]
    obtain⟨b,h⟩:=gOs h
    refine oD 4 6 (by decide) E E ?_
    refine cx 3 kg lr by_29 E E E (RdL.row 7 E) (eL aq (NestP.hn (NestP.cons (sel:=(fun z:TJ=>z.fLegs)) E NestP.nil) E)) (ef mg _) (eR b (by decide)) E (fun fG fH=>?_)
    refine oY E (yAS E) (oN (eT (cR (oY E (yMI E) (oY E (yAI E) (oN (aw (eT (cR (oY E (aL E E) (oY E (yMI E) (oN (aQ 5 ?_)))))))))))))
    obtain rfl:=sI h
    exact eN ⟨_,fG,fH,(I.2.2.length+1),(f++[((Z,r.fLegs.length,V),r)]),p8 F3_s11 (p8 noR (aR Z V 132 2 r.fLegs.length (encL TLeg_cells r.fLegs))),(jM E E),(NestP.app g (NestP.cons (sel:=(fun z:TJ=>z.fLegs)) E NestP.nil)),(PvL.app (PvL.mono (Hb:=(fun W4=>Hb W4∧Res.holds F3_s11 W4)) o (fun _ _ h=>⟨h.1,h.2.1⟩)) (PvL.mono (Hb:=(fun W4=>Hb W4∧Res.holds (p8 noR (aR Z V 132 2 r.fLegs.length (encL TLeg_cells r.fLegs))) W4)) (PvL.cons (fun _ _ h=>eZ h.2.2.1) (PvL.mono (Hb:=(fun W4=>Hb W4∧Res.holds noR W4)) PvL.nil (fun _ _ h=>⟨h.1,h.2.1⟩))) (fun _ _ h=>⟨h.1,h.2.2.1⟩))),E,(kp4 (kp (kp (kp E))))⟩
   ·refine cF (vB O) (cK (eT (cR (oY E (yMI E) (oY E (yAI E) (oN (aw (eT (cR (oY E (aL E E) (oY E (yMI E) (oN ?_))))))))))))
    obtain rfl:=sI h
    exact eN ⟨_,D,F,I.2.2.length,f,F3_s11,E,g,o,E,(kp4 (kp (kp (kp E))))⟩
  ·refine cF (vB N) (aD (ai ?_))
   obtain rfl:=sI h
   exact av ⟨E,_,D,F,I.2.2.length,f,F3_s11,E,g,o,E,(kp4 (kp (kp (kp E))))⟩
 ·intro e L tm hJ
  obtain⟨rfl,c,G,H,f3,U,F3_u12,rfl,X,Y,rfl,rfl⟩:=hJ
  refine⟨(by intro hc;cases hc),?_⟩
  refine ac (eT (cS (cR (oY E (yMS E) (oY E (yAS E) (oN (eT (ap ?_))))))))
  obtain rfl:=sI h
  exact am (.inl E) E (rVt (v:=.slice G i.2.2.length H) E) (fun W2 u=>⟨((G,i.2.2.length,H),U,F3_u12),⟨E,X,Y⟩,E,u.pickL [3,4] (by decide) E⟩)
theorem kZ (p0:TR) (p1:Int) (p2:Int) (p3:Int) (p4:Int) (res:(TJ × Bool)) (h:lj p0 p1 p2 p3 p4=some res) (W:World) (Ab:Option Addr) (M cb:Nat) (H:List (Hd × TT)) (X:M=p0.fTracks.length) (Y:Rd W Ab M cb (encL TTrack_cells2 H)) (Z:NestW W (fun z:TT=>z.fK) TSpan_cells H p0.fTracks) (wb:World) (Hb:World→Prop) (hB:∀W3,Below W.heap.size W W3→Below wb.heap.size wb W3∧Hb W3) :
  Calls Tryz.prog 71 [.agg #[vI p0.fPlaces,.slice Ab M cb],vI p1,vI p2,vI p3,vI p4].toArray W fun e W2=>∃x:(Hd × Res),(x.1.2.1=res.1.fLegs.length∧Pv TLeg_cells wb (fun W4=>Hb W4∧Res.holds x.2 W4) x.1 res.1.fLegs)∧e=.returned (.tuple #[.agg #[.slice x.1.1 x.1.2.1 x.1.2.2,vI res.1.fA,vI res.1.fToll],.bool res.2])∧Ext W W2 [x.2]:=by
 subst X
 unfold lj at h
 refine aj (m:=34) Tryz.func71 E E (nB E) (cS (cR ?_))
 refine aN [vI p0.fPlaces,.slice Ab p0.fTracks.length cb] E E E (fun k=>?_)
 refine aF lr E (fun t=>?_)
 refine oY E (yAB E) (oN (eT (cS (cR ?_))))
 refine aF lr E (fun a=>?_)
 refine oN (eT (cS (cR (oY E (yAB E) (oN (eT (cS (cS (cR (oY E (yN 0 [vI p0.fPlaces,.slice Ab p0.fTracks.length cb] dG E E E) (oY E (yMI E) (oY E (yMI E) (oY E (yMI E) ?_)))))))))))))
 obtain⟨F,q,h⟩:=bOs h
 refine oC [.agg #[vI p0.fPlaces,.slice Ab p0.fTracks.length cb],vI p1,vI p2,vI p3] _ _ _ E go_119 E (fun W2 N=>mP p0 p1 p2 p3 F q W2 Ab p0.fTracks.length cb H E ((RdL.arg Y) W2 N) (NestL.at (NestL.arg Z) W2 N) wb Hb (fun W3 hb=>hB W3 (fY N.below hb)) ) ?_
 rintro⟨⟨p,n,i⟩,g,F14⟩ ⟨O,G,V⟩
 replace O:n=F.length:=O;subst O
 refine oY E (bi (us:=[]) kg E) (oY E (yMI E) (oN (eT (cB ?_))))
 obtain⟨d,T,h⟩:=bOs h
 refine bj (fun(s:(Bool × Int × (List TLeg) × Int × Int)) L tm=>∃(l:Nat→Value) (I:Option Addr) (K:Nat),Pv TLeg_cells wb (fun W4=>Hb W4∧Res.holds F14 W4) (I,s.2.2.1.length,K) s.2.2.1∧L=[ak k 24 [vI p0.fPlaces,.slice Ab p0.fTracks.length cb],ak t 29 [.slice none 0 0,vI 0,vI 0],ak a 29 [.slice I s.2.2.1.length K,vI s.2.2.2.1,vI s.2.2.2.2],aR p i 29 3 F.length (encL TJourney_cells2 g),F14]∧tm=(upd (upd (upd (upd (upd (upd (upd (upd l 4 (vI p4)) 10 (.pointer (some ⟨t,0,none⟩))) 11 (.bool false)) 12 (.pointer (some ⟨a,0,none⟩))) 13 (.bool s.1)) 20 (.slice p F.length i)) 21 (vI (F.length:Int))) 22 (vI s.2.1))) 0 T ⟨_,none,0,(Pv.mono (Hb:=Hb) (Pv.nil E) (fun _ _ h=>h.1)),E,(kp4 (kp4 E))⟩ ?_ ?_
 ·rintro f L tm st ⟨S,w,D,hR2_0_s18,rfl,rfl⟩ h
  unfold nV at h
  refine cS (cR (oY E (be E E) (oN (eT (cS ?_)))))
  rcases iOs h with⟨Q,h⟩|⟨Q,h⟩
  ·refine cT (vB Q) (cK (eT (cS (cB (cS (cR ?_))))))
   obtain⟨u,h⟩:=gOs h
   refine oY E (yI gH (by decide) u.1 u.2 (RdL.row 3 E) (eL aq (NestP.hn G E)) E E) ?_
   refine oY E (yM (A:=p) (j:=(Int.toNat f.2.1*3)) [.slice ((rdL g f.2.1).1.1) ((rdL F f.2.1).fLegs.length) ((rdL g f.2.1).1.2.2),vI ((rdL F f.2.1).fA),vI ((rdL F f.2.1).fToll)] lX (Nat.succ_pos _) (RdL.row 3 E) E (fN (cA (NestP.snd G f.2.1) (NestP.len G u.1 (ah u.2 E))).symm (bc aq u.1 (ah u.2 (NestP.hn G E))))) ?_
   refine aF lr E (fun y=>?_)
   try dsimp only[lna,lca,lsz,lss]
   refine cy E (yS 5 [.slice ((rdL g f.2.1).1.1) ((rdL F f.2.1).fLegs.length) ((rdL g f.2.1).1.2.2),vI ((rdL F f.2.1).fA),vI ((rdL F f.2.1).fToll)] m6 E (nB E) E E E) (oN (eT (cS (cR (oY E (yFA iN E) (oY E (yL 5 aK E E E) (oY E (yMI E) (oY E (gV E E) (oN (eT ?_))))))))))
   rcases iOs h with⟨U,h⟩|⟨U,h⟩
   ·refine cT (vB U) (cR (oY E (yN 5 [.slice ((rdL g f.2.1).1.1) ((rdL F f.2.1).fLegs.length) ((rdL g f.2.1).1.2.2),vI ((rdL F f.2.1).fA),vI ((rdL F f.2.1).fToll)] lX E E E) (cy E (yS 2 [.slice ((rdL g f.2.1).1.1) ((rdL F f.2.1).fLegs.length) ((rdL g f.2.1).1.2.2),vI ((rdL F f.2.1).fA),vI ((rdL F f.2.1).fToll)] m6 E (nB E) E E E) (oY E (yAB E) (oN (aw (eT (cR (oY E (aL E E) (oY E (yMI E) (oN (aQ 5 ?_))))))))))))
    obtain rfl:=sI h
    exact eN ⟨_,(rdL g f.2.1).1.1,(rdL g f.2.1).1.2.2,(PvL.get V G u.1 (ah u.2 E)),E,(kp4 (kp4 E))⟩
   ·refine cF (vB U) (cK (aw (eT (cR (oY E (aL E E) (oY E (yMI E) (oN (aQ 5 ?_))))))))
    obtain rfl:=sI h
    exact eN ⟨_,w,D,hR2_0_s18,E,(kp4 (kp4 E))⟩
  ·refine cF (vB Q) (aD (ai ?_))
   obtain rfl:=sI h
   exact av ⟨E,_,w,D,hR2_0_s18,E,(kp4 (kp4 E))⟩
 ·intro e L tm hJ
  obtain⟨rfl,R,o,r,hR2_0_u19,rfl,rfl⟩:=hJ
  refine⟨(by intro hc;cases hc),?_⟩
  refine ac (eT (cS (cR (oY E (yN 2 [.slice o d.2.2.1.length r,vI d.2.2.2.1,vI d.2.2.2.2] lX E E E) (oY E (yMB E) (cy E (yS 1 [.slice o d.2.2.1.length r,vI d.2.2.2.1,vI d.2.2.2.2] m6 E (nB E) E E E) (oY E (yAB E) (oN (eT (ap ?_))))))))))
  obtain rfl:=sI h
  exact bT (.inl E) E (cf 1 [.slice o d.2.2.1.length r,vI d.2.2.2.1,vI d.2.2.2.2] lX E E E) (rVt (v:=.bool d.1) E) (fun W2 N=>⟨((o,d.2.2.1.length,r),F14),⟨E,hR2_0_u19⟩,E,N.pickL [4] (by decide) E⟩)
theorem nI (p0:TR) (p1:Int) (p2:Int) (p3:Int) (p4:Int) (res:(TJ × Int)) (h:kW p0 p1 p2 p3 p4=some res) (W:World) (Ab:Option Addr) (r cb:Nat) (g:List (Hd × TT)) (H:r=p0.fTracks.length) (u:Rd W Ab r cb (encL TTrack_cells2 g)) (d:NestW W (fun z:TT=>z.fK) TSpan_cells g p0.fTracks) (wb:World) (Hb:World→Prop) (hB:∀W3,Below W.heap.size W W3→Below wb.heap.size wb W3∧Hb W3) :
  Calls Tryz.prog 18 [.agg #[vI p0.fPlaces,.slice Ab r cb],vI p1,vI p2,vI p3,vI p4].toArray W fun e W2=>∃x:(Hd × Res),(x.1.2.1=res.1.fLegs.length∧Pv TLeg_cells wb (fun W4=>Hb W4∧Res.holds x.2 W4) x.1 res.1.fLegs)∧e=.returned (.tuple #[.agg #[.slice x.1.1 x.1.2.1 x.1.2.2,vI res.1.fA,vI res.1.fToll],vI res.2])∧Ext W W2 [x.2]:=by
 subst H
 unfold kW at h
 refine aj (m:=38) Tryz.func18 E E (nB E) (cS (cR ?_))
 refine aN [vI p0.fPlaces,.slice Ab p0.fTracks.length cb] E E E (fun X=>?_)
 refine aF lr E (fun Y=>?_)
 refine oY E (yAI E) (oN (eT (cS (cS (cR (oY E (yN 0 [vI p0.fPlaces,.slice Ab p0.fTracks.length cb] dG E E E) (oY E (yMI E) (oY E (yMI E) (oY E (yMI E) (oY E (yMI E) ?_))))))))))
 obtain⟨Q,M,h⟩:=bOs h
 refine oY E (yC [.agg #[vI p0.fPlaces,.slice Ab p0.fTracks.length cb],vI p1,vI p2,vI p3,vI p4] go_70 E (fun W2 f=>gA p0 p1 p2 p3 p4 Q M W2 Ab p0.fTracks.length cb g E ((RdL.arg u) W2 f) (NestL.at (NestL.arg d) W2 f)) E) (oY E (yAI E) (oN (eT (cS (cR (oY E (yMI E) (oY E (cJ E E) (oN (eT ?_)))))))))
 rcases iOs h with⟨I,h⟩|⟨I,h⟩
 ·refine cT (vB I) (cS (cR ?_))
  refine oY E (bn [.slice none 0 0,vI 0,vI 0] [(0,1),(1,1),(2,1)] ust_29 lr (by kernel_rfl)) ?_
  refine oY E (yMI E) (cy E (yS 1 [.slice none 0 0,vI 0,vI 0] m6 E (nB E) E E E) (oY E (yAI E) (oN (eT (ap (ab ?_))))))
  obtain rfl:=sI h
  exact bT (.inl E) E (cf 1 [.slice none 0 0,vI 0,vI 0] lX E E E) (rVt (v:=vI Q) E) (fun W2 f=>⟨((none,0,0),noR),⟨E,(Pv.mono (Hb:=Hb) (Pv.nil E) (fun _ _ h=>h.1))⟩,E,f.addNo.pickL [2] (by decide) E⟩)
 ·refine cF (vB I) (cK (eT (cS (cR (oY E (yN 0 [vI p0.fPlaces,.slice Ab p0.fTracks.length cb] dG E E E) (oY E (yMI E) (oY E (yMI E) (oY E (yMI E) (oY E (yMI E) ?_)))))))))
  obtain⟨o,N,h⟩:=bOs h
  refine oC [.agg #[vI p0.fPlaces,.slice Ab p0.fTracks.length cb],vI p1,vI p2,vI p3,vI p4] _ _ _ E go_71 E (fun W2 f=>kZ p0 p1 p2 p3 p4 o N W2 Ab p0.fTracks.length cb g E ((RdL.arg u) W2 f) (NestL.at (NestL.arg d) W2 f) wb Hb (fun W3 hb=>hB W3 (fY f.below hb)) ) ?_
  rintro⟨⟨w,O,D⟩,F14⟩ ⟨F,K⟩
  replace F:O=o.1.fLegs.length:=F;subst F
  refine oY E (aY E) (oY E (yE E E) (oY E (yE E E) ?_))
  refine aF lr E (fun U=>?_)
  refine cy E (yS 3 [.slice w o.1.fLegs.length D,vI o.1.fA,vI o.1.fToll] m6 E (nB E) E E E) (oY E (yAB E) (oN (eT (cS (cS (cR (oY E (yMB E) (oY E (bD E) (oN (eT ?_))))))))))
  rcases iOs h with⟨G,h⟩|⟨G,h⟩
  ·refine cT (vB G) (cS (cR ?_))
   refine oY E (bn [.slice none 0 0,vI 0,vI 0] [(0,1),(1,1),(2,1)] ust_29 lr (by kernel_rfl)) ?_
   refine cy E (yS 1 [.slice none 0 0,vI 0,vI 0] m6 E (nB E) E E E) (oY E (yAI E) (oN (eT (ap (ab ?_)))))
   obtain rfl:=sI h
   exact bT (.inl E) E (cf 1 [.slice none 0 0,vI 0,vI 0] lX E E E) (rVt (v:=vI 5) E) (fun W2 f=>⟨((none,0,0),noR),⟨E,(Pv.mono (Hb:=Hb) (Pv.nil E) (fun _ _ h=>h.1))⟩,E,f.addNo.pickL [4] (by decide) E⟩)
  ·refine cF (vB G) (cK (eT (cS (cR (oY E (yN 3 [.slice w o.1.fLegs.length D,vI o.1.fA,vI o.1.fToll] lX E E E) (cy E (yS 1 [.slice w o.1.fLegs.length D,vI o.1.fA,vI o.1.fToll] m6 E (nB E) E E E) (oY E (yAI E) (oN (eT (ap ?_))))))))))
   obtain rfl:=sI h
   exact bT (.inl E) E (cf 1 [.slice w o.1.fLegs.length D,vI o.1.fA,vI o.1.fToll] lX E E E) (rVt (v:=vI 0) E) (fun W2 f=>⟨((w,o.1.fLegs.length,D),F14),⟨E,K⟩,E,f.pickL [2] (by decide) E⟩)
theorem oc (p0:Int) (g:TR) (w:Int) (D:Int) (F:Int) (G:Int) (res:Bool) (h:kn p0 g w D F G=some res) (W:World) (O:Nat) (o:Option Addr) (d r:Nat) (u:List (Hd × TT)) (H:d=g.fTracks.length) (I:Rd W o d r (encL TTrack_cells2 u)) (K:NestW W (fun z:TT=>z.fK) TSpan_cells u g.fTracks) (Q:Rd W (some ⟨O,0,none⟩) 1 1 [vI g.fPlaces,.slice o d r]) (U:Nat) (X:Rd W (some ⟨U,0,none⟩) 1 1 (cI w)) (Y:Nat) (Z:Rd W (some ⟨Y,0,none⟩) 1 1 (cI D)) (V:Nat) (T:Rd W (some ⟨V,0,none⟩) 1 1 (cI F)) (S:Nat) (R:Rd W (some ⟨S,0,none⟩) 1 1 (cI G)) :
  Calls Tryz.prog 72 [vI p0,.pointer (some ⟨O,0,none⟩),.pointer (some ⟨U,0,none⟩),.pointer (some ⟨Y,0,none⟩),.pointer (some ⟨V,0,none⟩),.pointer (some ⟨S,0,none⟩)].toArray W fun e W2=>e=.returned (.bool res)∧Ext W W2 []:=by
 subst H
 unfold kn at h
 refine aj (m:=26) Tryz.func72 E E (nB E) (cS (cR (oY E (yAB E) (oN (eT (cS (cR (oY E (yM (A:=(some ⟨O,0,none⟩)) (j:=0) [vI g.fPlaces,.slice o g.fTracks.length r] dG (Nat.succ_pos _) (RdL.arg Q) E (oh E)) (oY E (yR (A:=(some ⟨U,0,none⟩)) (j:=0) (v:=vI w) aK (RdL.arg X) E E) (oY E (yR (A:=(some ⟨Y,0,none⟩)) (j:=0) (v:=vI D) aK (RdL.arg Z) E E) (oY E (yMI E) (oY E (yR (A:=(some ⟨V,0,none⟩)) (j:=0) (v:=vI F) aK (RdL.arg T) E E) ?_))))))))))))
 obtain⟨N,n,h⟩:=bOs h
 refine oC [.agg #[vI g.fPlaces,.slice o g.fTracks.length r],vI w,vI D,vI p0,vI F] _ _ _ E go_71 E (fun W2 M=>kZ g w D p0 F N n W2 o g.fTracks.length r u E ((RdL.arg I) W2 M) (NestL.at (NestL.arg K) W2 M) W (fun _=>True) (fun W3 hb=>⟨fY M.below hb,trivial⟩) ) ?_
 rintro⟨⟨t,a,i⟩,F9⟩ ⟨q,l⟩
 replace q:a=N.1.fLegs.length:=q;subst q
 refine oY E (aY E) (oY E (yE E E) (oY E (yE E E) ?_))
 refine aF lr E (fun k=>?_)
 refine cy E (yS 1 [.slice t N.1.fLegs.length i,vI N.1.fA,vI N.1.fToll] m6 E (nB E) E E E) (oY E (yAB E) (oN (eT (cS (cR (oY E (yMB E) (oY E (yMB E) ?_)))))))
 refine oJ 5 (fun p=>(upd (upd p 7 (.bool false)) 25 (.bool (N.2&&(decide (N.1.fA≤G)))))) (fun p=>?_) (fun key=>?_)
 ·refine oY E (yAB E) (oN (eT (ap ?_)))
  obtain rfl:=sI h
  exact am (.inl E) E (rVt (v:=.bool (N.2&&(decide (N.1.fA≤G)))) E) (fun W2 M=>⟨E,M.none⟩)
 ·rcases ar N.2 with f|f
  ·refine oY (sT E E E E f) (yFA gN E) (oY (sT E E E E f) (yL 1 aK E E E) (oY (sT E E E E f) (yR (A:=(some ⟨S,0,none⟩)) (j:=0) (v:=vI G) aK (RdL.arg R) E E) (oY (sT E E E E f) (gV E E) (oY E (ad (vB f) E) ?_))))
   exact key _ _ (keep (keep E E) (vB (fF f)))
  ·refine oSk (sF E E E E f) (oSk (sF E E E E f) (oSk (sF E E E E f) (oSk (sF E E E E f) (oY E (ag (vB f) E) ?_))))
   exact key _ _ (keep (keep E E) (vB (fy f)))
theorem pL (p0:TR) (p1:Int) (p2:Int) (p3:Int) (p4:Int) (res:(Int × Int)) (h:mq p0 p1 p2 p3 p4=some res) (W:World) (Ab:Option Addr) (o cb:Nat) (g:List (Hd × TT)) (G:o=p0.fTracks.length) (r:Rd W Ab o cb (encL TTrack_cells2 g)) (u:NestW W (fun z:TT=>z.fK) TSpan_cells g p0.fTracks) :
  Calls Tryz.prog 19 [.agg #[vI p0.fPlaces,.slice Ab o cb],vI p1,vI p2,vI p3,vI p4].toArray W fun e W2=>e=.returned (.tuple #[vI res.1,vI res.2])∧Ext W W2 []:=by
 subst G
 unfold mq at h
 refine aj (m:=45) Tryz.func19 E E (nB E) (cS (cR ?_))
 refine aN [vI p0.fPlaces,.slice Ab p0.fTracks.length cb] E E E (fun I=>?_)
 refine aN [vI p1] E E E (fun K=>?_)
 refine aN [vI p2] E E E (fun M=>?_)
 refine aN [vI p3] E E E (fun N=>?_)
 refine aN [vI p4] E E E (fun O=>?_)
 refine oY E (yAI E) (oY E (yAI E) (oN (eT (cS (cS (cR (oY E (yN 0 [vI p0.fPlaces,.slice Ab p0.fTracks.length cb] dG E E E) (oY E (yL 1 aK E E E) (oY E (yL 2 aK E E E) (oY E (yL 3 aK E E E) (oY E (yL 4 aK E E E) ?_)))))))))))
 obtain⟨R,Z,h⟩:=bOs h
 refine oY E (yC [.agg #[vI p0.fPlaces,.slice Ab p0.fTracks.length cb],vI p1,vI p2,vI p3,vI p4] go_70 E (fun W2 f=>gA p0 p1 p2 p3 p4 R Z W2 Ab p0.fTracks.length cb g E ((RdL.arg r) W2 f) (NestL.at (NestL.arg u) W2 f)) E) (oY E (yAI E) (oN (eT (cS (cR (oY E (yMI E) (oY E (cJ E E) (oN (eT ?_)))))))))
 rcases iOs h with⟨H,h⟩|⟨H,h⟩
 ·refine cT (vB H) (cS (cR (oY E (yMI E) (oY E (yAI E) (oY E (yAI E) (oN (eT (ap (ab ?_)))))))))
  obtain rfl:=sI h
  exact bT (.inl E) E (rVt (v:=vI 0) E) (rVt (v:=vI R) E) (fun W2 f=>⟨E,f.none⟩)
 ·refine cF (vB H) (cK (eT (cS (cR (oY E (bZ [.pointer (some ⟨I,0,none⟩),.pointer (some ⟨K,0,none⟩),.pointer (some ⟨M,0,none⟩),.pointer (some ⟨O,0,none⟩),.pointer (some ⟨N,0,none⟩)] E E) (oY E (fI E) (oN (eT (cS ?_)))))))))
  refine aS 3 bW (by kernel_rfl) (by kernel_rfl) ?_
  refine qY E (yL 3 aK E E E) (qY E (yAI E) (qY E (yAI E) (bF (oN (eT (cS (cB ?_)))))))
  obtain⟨V,Q,h⟩:=bOs h
  refine bj (fun(s:(Int × Int)) L tm=>∃(T:Nat→Value),L=[ak I 24 [vI p0.fPlaces,.slice Ab p0.fTracks.length cb],ak K 3 [vI p1],ak M 3 [vI p2],ak N 3 [vI p3],ak O 3 [vI p4]]∧tm=(upd (upd (upd (upd (upd T 10 (vI 0)) 11 (vI 0)) 13 (.func (.func 72) #[] #[.pointer (some ⟨I,0,none⟩),.pointer (some ⟨K,0,none⟩),.pointer (some ⟨M,0,none⟩),.pointer (some ⟨O,0,none⟩),.pointer (some ⟨N,0,none⟩)])) 14 (vI s.1)) 15 (vI s.2))) 0 Q ⟨_,E,(kp4 (kp E))⟩ ?_ ?_
  ·rintro F L tm st ⟨U,rfl,rfl⟩ h
   unfold l8 at h
   refine cS (cS (cR (oY E (yMI E) (oY E (yMI E) (oY E (gV E E) (oN (eT ?_)))))))
   rcases iOs h with⟨d,h⟩|⟨d,h⟩
   ·refine cT (vB d) (cK (eT (cB (cS (cR (oY E (yMI E) (oY E (yMI E) (oY E (aL E E) ?_))))))))
    refine oY E (y_quo (by decide) E E) ?_
    refine oY E (yAI E) (oN (eT (cS (cR (oY E (dD E) (oY E (yMI E) ?_))))))
    obtain⟨S,X,h⟩:=bOs h
    refine oY E (pe (caps:=[.pointer (some ⟨I,0,none⟩),.pointer (some ⟨K,0,none⟩),.pointer (some ⟨M,0,none⟩),.pointer (some ⟨O,0,none⟩),.pointer (some ⟨N,0,none⟩)]) [vI (w64 (Int.tdiv (w64 (F.1+F.2)) 2))] go_72 E E (fun W2 f=>oc (w64 (Int.tdiv (w64 (F.1+F.2)) 2)) p0 p1 p2 p4 p3 S X W2 I Ab p0.fTracks.length cb g E ((RdL.arg r) W2 f) (NestL.at (NestL.arg u) W2 f) ((RdL.cells 0 E) W2 f) K ((RdL.cells 1 E) W2 f) M ((RdL.cells 2 E) W2 f) O ((RdL.cells 4 E) W2 f) N ((RdL.cells 3 E) W2 f))) (oN (eT ?_))
    rcases iOs h with⟨w,h⟩|⟨w,h⟩
    ·refine cT (vB w) (cR (oY E (yMI E) (oY E (aL E E) (oY E (yAI E) (oN (aw ?_))))))
     obtain rfl:=sI h
     exact eN ⟨_,E,(kp4 (kp E))⟩
    ·refine cF (vB w) (cR (oY E (yMI E) (oY E (ex E E) (oY E (yAI E) (oN (aw ?_))))))
     obtain rfl:=sI h
     exact eN ⟨_,E,(kp4 (kp E))⟩
   ·refine cF (vB d) (aD (ai ?_))
    obtain rfl:=sI h
    exact av ⟨E,_,E,(kp4 (kp E))⟩
  ·intro e L tm hJ
   obtain⟨rfl,Y,rfl,rfl⟩:=hJ
   refine⟨(by intro hc;cases hc),?_⟩
   refine ac (eT (cS (cS (cR (oY E (yMI E) (oY E (be E E) (oN (eT ?_))))))))
   rcases iOs h with⟨D,h⟩|⟨D,h⟩
   ·refine cT (vB D) (cS (cR (oY E (yAI E) (oY E (yAI E) (oN (eT (ap (ab ?_))))))))
    obtain rfl:=sI h
    exact bT (.inl E) E (rVt (v:=vI 0) E) (rVt (v:=vI 5) E) (fun W2 f=>⟨E,f.none⟩)
   ·refine cF (vB D) (cK (eT (cS (cR (oY E (yMI E) (oY E (yAI E) (oY E (yAI E) (oN (eT (ap ?_))))))))))
    obtain rfl:=sI h
    exact bT (.inl E) E (rVt (v:=vI V.2) E) (rVt (v:=vI 0) E) (fun W2 f=>⟨E,f.none⟩)
theorem jb (p0:(List TT)) (p1:Int) (p2:Int) (res:(List TT)) (h:dA p0 p1 p2=some res) (W:World) (H:World) (R:Res) (Aa:Option Addr) (u ca:Nat) (f:List (Hd × TT)) (D:u=p0.length) (g:NestP (fun z:TT=>z.fK) f p0) (I:PvL (fun z:TT=>z.fK) TSpan_cells H (fun W4=>Res.holds R W4) f) (hW:Ext H W [R,aR Aa ca 120 6 u (encL TTrack_cells2 f)]) :
  Calls Tryz.prog 79 [.slice Aa u ca,vI p1,vI p2].toArray W fun e W2=>∃x:Nat × List (Hd × TT),(x.1=res.length∧NestP (fun z:TT=>z.fK) x.2 res∧∀y∈x.2,y∈f)∧e=.returned (.slice Aa x.1 ca)∧Ext H W2 [R,aR Aa ca 120 6 x.1 (encL TTrack_cells2 x.2)]:=by
 subst D
 unfold dA at h
 refine bh (m:=33) Tryz.func79 E E (nB E) hW (cS (cR (oY E (yAS E) (oN (eT (cS (cR (oY E (yMS E) (oY E (yMI E) (oY E (yMI E) (oY E (yMS E) (oY E (bi (us:=[]) i6 E) ?_))))))))))))
 obtain⟨d,h⟩:=gOs h
 refine oY E (y_cut3 jE d.1 d.2.1 d.2.2.1 d.2.2.2 (RdL.row 1 E) E E E E) (oN (eT (cS (cS (cR (oY E (yMI E) (oY E (yMI E) (oY E (cZ E E) (oN (eT ?_))))))))))
 rcases iOs h with⟨F,h⟩|⟨F,h⟩
 ·refine cT (vB F) (cS (cR (oY E (yMS E) (oY E (yAS E) (oN (eT (ap (ab ?_))))))))
  obtain rfl:=sI h
  exact am (.inl E) E (rVt (v:=.slice Aa p0.length ca) E) (fun W2 G=>⟨(p0.length,f),⟨E,g,(fun y hy=>hy)⟩,E,G.take 2⟩)
 ·refine cF (vB F) (cK (eT (cS (cR (oY E (yMS E) (oY E (bi (us:=[]) i6 E) (oY E (yAI E) (oN (eT (cS ?_))))))))))
  refine aS 6 bW (by kernel_rfl) (by kernel_rfl) ?_
  refine qY E (yMS E) (qY E (yMI E) ?_)
  obtain⟨o,h⟩:=gOs h
  refine qY E (y_cutH jE o.1 o.2 (RdL.row 1 E) E E) (qY E (yMS E) (qY E (yMI E) ?_))
  obtain⟨r,h⟩:=gOs h
  refine qY E (y_cutL jE r.1 r.2 (RdL.row 1 E) E E) (bF ?_)
  obtain⟨w,h⟩:=gOs h
  refine nL 1 au kh i6 ip tD E (NestP.hn g E) o.1 w r.2 E E E (oY E (yAS E) (oN (eT (cS (cR (oY E (yMS E) (oY E (yMS E) (oY E (bi (us:=[]) i6 E) (oY E (yMI E) ?_)))))))))
  refine oY E (y_cutO jE (by omega) (by have h8:=(mV o.1 w r.2);omega) (by have h9:=(eZ (hW.mem (i:=1) E)).cap;omega) E E E) ?_
  refine cy E (tl 1 i6 ip E (by decide) E E (by have h8:=(mV o.1 w r.2);have h9:=(eZ (hW.mem (i:=1) E)).cap;simp only[Int.toNat_natCast];omega) E) ?_
  refine oN (eT (cS (cR (oY E (yMS E) (oY E (yAS E) (oN (eT (ap ?_))))))))
  obtain rfl:=sI h
  exact am (.inl E) E (rVt (v:=.slice Aa (Int.toNat p1+(p0.length-Int.toNat p2)) ca) E) (fun W2 G=>⟨((Int.toNat p1+(p0.length-Int.toNat p2)),(f.take (Int.toNat p1)++f.drop (Int.toNat p2))),⟨(qf o.1 w r.2 E),(NestP.app (NestP.take _ g) (NestP.drop _ g)),(fun y hy=>(fun y hy=>hy) y (mem_cutOut y hy))⟩,E,G.take 2⟩)
theorem jq (p0:(List TT)) (res:(List TT)) (h:bP p0=some res) (W:World) (Aa:Option Addr) (o ca:Nat) (f:List (Hd × TT)) (d:o=p0.length) (r:Rd W Aa o ca (encL TTrack_cells2 f)) (g:NestW W (fun z:TT=>z.fK) TSpan_cells f p0) :
  Calls Tryz.prog 80 [.slice Aa o ca].toArray W fun e W2=>∃x:(Option Addr × Nat × Nat),(x.2.1=res.length∧NestP (fun z:TT=>z.fK) f res)∧e=.returned (.slice x.1 x.2.1 x.2.2)∧Ext W W2 [aR x.1 x.2.2 120 6 x.2.1 (encL TTrack_cells2 f)]:=by
 subst d
 unfold bP at h
 refine aj (m:=8) Tryz.func80 E E (nB E) (cS (cR (oY E (yAS E) (oN (eT (cS (cS (cR (oY E (yMS E) (oY E (qN i6 E E) (oN (eT ?_))))))))))))
 rcases ar (Option.isNone Aa)with u|u
 ·refine cT (vB u) ?_
  have z6:=qU (Option.isNone_iff_eq_none.1 u▸r) au (by decide)
  replace h:=(gOs h).2
  subst z6
  have z2:p0=[]:=g.p.eq.symm
  subst z2
  refine cS (cR (oY E (yAS E) (oN (eT (ap (ab ?_))))))
  obtain rfl:=sI h
  exact am (.inl E) E (rVt (v:=.slice none 0 0) E) (fun W2 w=>⟨(none,0,0),⟨E,NestP.nil⟩,E,(w.nilrow 120 6).pickL [0] (by decide) E⟩)
 ·refine cF (vB u) (cK (eT (cS (cR ?_))))
  refine ib TTrack_cells2 i6 ip tD E (fun H=>?_)
  refine oY E (yMS E) ?_
  obtain⟨D,h⟩:=gOs h
  refine cx 0 i6 ip tD E E E (RdL.arg r) (eL au (NestP.hn g.p E)) (ef kh _) (eR D (by decide)) E (fun F G=>?_)
  refine oY E (yAS E) (oN (eT (ap ?_)))
  obtain rfl:=sI h
  exact am (.inl E) E (rVt (v:=.slice F (0+p0.length) G) E) (fun W2 w=>⟨(F,(0+p0.length),G),⟨(jM E E),(NestP.app NestP.nil g.p)⟩,E,w.pickL [0] (by decide) E⟩)
theorem jm {p:List TT} {res:List TT} {ys:List (Hd × TT)} {sel:TT→List TSpan} (h:bP p=some res) (hN:NestP sel ys p):NestP sel ys res:=by
 unfold bP at h
 have h2:=Option.some.inj (gOs h).2
 rw[lna]at h2
 exact h2▸hN
theorem gc (p0:Int) (res:Bool) (h:eh p0=some res) (W:World)  :
  Calls Tryz.prog 176 [vI p0].toArray W fun e W2=>e=.returned (.bool res)∧Ext W W2 []:=by
 unfold eh at h
 refine aj (m:=6) Tryz.func176 E E (nB E) (cS (cR (oY E (yAB E) (oN (eT (cS (cR (oY E (yMI E) (oY E (yMI E) (oY E (cJ E E) (oY E (yAB E) (oN (eT (ap ?_))))))))))))))
 obtain rfl:=sI h
 exact am (.inl E) E (rVt (v:=.bool (p0 !=p0)) E) (fun W2 f=>⟨E,f.none⟩)
theorem pg (p0:Int) (p1:Int) (res:Bool) (h:io p0 p1=some res) (W:World)  :
  Calls Tryz.prog 168 [vI p0,vI p1].toArray W fun e W2=>e=.returned (.bool res)∧Ext W W2 []:=by
 unfold io at h
 refine aj (m:=17) Tryz.func168 E E (nB E) (cS (cR (oY E (yAB E) (oN (eT (cS (cR (oY E (yMI E) ?_))))))))
 obtain⟨F,d,h⟩:=bOs h
 refine oY E (yC [vI p0] go_176 E (fun W2 r=>gc p0 F d W2 ) E) (oY E (yMB E) ?_)
 obtain⟨u,w,h⟩:=bOs h
 refine oJ 4 (fun o=>(upd (upd (upd (upd o 0 (vI p0)) 1 (vI p1)) 4 (.bool false)) 11 (.bool u))) (fun o=>?_) (fun key=>?_)
 ·refine oY E (yMB E) ?_
  refine oJ 4 (fun o=>(upd (upd o 4 (.bool false)) 16 (.bool (u||(decide (p0<p1)))))) (fun o=>?_) (fun key=>?_)
  ·refine oY E (yAB E) (oN (eT (ap ?_)))
   obtain rfl:=sI h
   exact am (.inl E) E (rVt (v:=.bool (u||(decide (p0<p1)))) E) (fun W2 r=>⟨E,r.none⟩)
  ·rcases ar u with f|f
   ·refine oSk (sF E E E E f) (oSk (sF E E E E f) (oSk (sF E E E E f) (oY E (ad (vB f) E) ?_)))
    exact key _ _ (keep (keep E E) (vB (iQ f)))
   ·refine oY (sT E E E E f) (yMI E) (oY (sT E E E E f) (yMI E) (oY (sT E E E E f) (be E E) (oY E (ag (vB f) E) ?_)))
    exact key _ _ (keep (keep E E) (vB (iR f)))
 ·clear h;rcases iOs w with⟨g,h⟩|⟨g,h⟩
  ·refine oY (sT E E E E g) (yMI E) ?_
   obtain⟨G,D,h⟩:=bOs h
   refine oY (sT E E E E g) (yC [vI p1] go_176 E (fun W2 r=>gc p1 G D W2 ) E) (oY (sT E E E E g) (bD E) (oY E (ad (vB g) E) ?_))
   obtain rfl:=sI h
   exact key _ _ (kp4 E)
  ·refine oSk (sF E E E E g) (oSk (sF E E E E g) (oSk (sF E E E E g) (oY E (ag (vB g) E) ?_)))
   obtain rfl:=sI h
   exact key _ _ (kp4 E)
end Go.Proofs.YthndghnkebboaaaGreat
set_option maxHeartbeats 4000000
set_option maxRecDepth 100000
namespace Go.Proofs.YthndghnkebboaaaGreat
open Go.RowKit (Below)
attribute [local irreducible] OX QX CX EX OpY Calls CallsIn
theorem gw (p0:(List Int)) (p1:Int) (p2:Int) (res:(List Int)) (h:bv p0 p1 p2=some res) (W:World) (a:World) (R:Res) (Aa:Option Addr) (r ca:Nat) (O:r=p0.length) (hW:Ext a W [R,aR Aa ca 3 1 r (encL cI p0)]) :
  Calls Tryz.prog 162 [.slice Aa r ca,vI p1,vI p2].toArray W fun e W2=>e=.returned (.tuple #[])∧r=res.length∧Ext a W2 [R,aR Aa ca 3 1 r (encL cI res)]:=by
 subst O
 unfold bv at h
 refine bh (m:=49) Tryz.func162 E E (nB E) hW (cS (cR (oY E (yMI E) (oY E (aL E E) (oY E (yAI E) (oN (eT (cB ?_))))))))
 obtain⟨z,U,h⟩:=bOs h
 refine bj (fun(s:(Int × (List Int))) L tm=>∃(I:Nat→Value),p0.length=s.2.length∧L=[R,aR Aa ca 3 1 p0.length (encL cI s.2)]∧tm=(upd (upd (upd (upd I 0 (.slice Aa p0.length ca)) 1 (vI p1)) 2 (vI p2)) 6 (vI s.1))) 0 U ⟨_,E,E,(kp4 E)⟩ ?_ ?_
 ·rintro T L tm st ⟨S,u,rfl,rfl⟩ h
  unfold aI at h
  refine cS (cS (cR (oY E (yMI E) (oY E (yMI E) (oY E (be E E) (oN (eT ?_)))))))
  rcases iOs h with⟨Q,h⟩|⟨Q,h⟩
  ·refine cT (vB Q) (cK (eT (cS (cB (cS (cR (oY E (yMI E) (oY E (yAI E) (oN (eT (cB ?_)))))))))))
   obtain⟨i,X,h⟩:=bOs h
   refine bj (fun(s:(Int × (List Int))) L tm=>∃(I:Nat→Value),p0.length=s.2.length∧L=[R,aR Aa ca 3 1 p0.length (encL cI s.2)]∧tm=(upd (upd (upd (upd (upd (upd I 0 (.slice Aa p0.length ca)) 1 (vI p1)) 2 (vI p2)) 6 (vI T.1)) 12 (.bool (decide (T.1<p2)))) 7 (vI s.1))) 2 X ⟨_,u,E,(kp4 (kp (kp E)))⟩ ?_ ?_
   ·rintro o L tm st ⟨q,f,rfl,rfl⟩ h
    unfold ba at h
    refine cS (cS ?_)
    refine aS 15 bW (by kernel_rfl) (by kernel_rfl) ?_
    refine qY E (yMI E) (qY E (yMI E) (qY E (eu E E) (qY E (yMB E) ?_)))
    obtain⟨l,Y,h⟩:=bOs h
    refine qJ 11 (fun I=>(upd (upd (upd (upd (upd (upd (upd I 0 (.slice Aa p0.length ca)) 1 (vI p1)) 2 (vI p2)) 6 (vI T.1)) 12 (.bool (decide (T.1<p2)))) 7 (vI o.1)) 30 (.bool l))) (fun I=>?_) (fun key=>?_)
    ·refine bF (oN (eT ?_))
     rcases iOs h with⟨K,h⟩|⟨K,h⟩
     ·refine cT (vB K) (cK (eT (cS (cB ?_))))
      obtain⟨d,h⟩:=gOs h
      obtain⟨w,h⟩:=gOs h
      obtain⟨D,h⟩:=gOs h
      obtain⟨F,h⟩:=gOs h
      refine gI [[],[],[],[],[3],[],[],[6],[5,6,7],[5,6,7,8],[],[],[10,11],[10,11,12],[0,1,5,6,7,8,9,10,11,12,13],[0,1,5,6,7,8,9,10,11,12,13,14],[0,1,2,3,4,5,6,7,8,9,10,11,12,13,14,15],[0,1,2,3,4,5,6,7,8,9,10,11,12,13,14,15,16]] [(none,0,[true,true]),(none,0,[true,true]),(none,0,[true,false]),(none,0,[true,false]),(none,0,[true,false]),(none,0,[true,true]),(none,0,[true,true]),(none,0,[true,true]),(none,0,[true,true]),(none,0,[true,true]),(none,0,[true,true]),(none,0,[true,true]),(none,0,[true,true]),(none,0,[true,true]),(none,0,[true,true]),(some 1,0,[true,true]),(none,0,[true,true]),(some 1,0,[true,true])] [⟨fun _=>.slice Aa p0.length ca,fun _=>noR,fun _=>[]⟩,⟨fun _=>vI o.1,fun _=>noR,fun _=>[]⟩,⟨fun _=>.slice Aa p0.length ca,fun _=>noR,fun _=>[]⟩,⟨fun _=>vI o.1,fun _=>noR,fun _=>[]⟩,⟨fun _=>vI (w64 (o.1-1)),fun _=>noR,fun _=>[]⟩,⟨fun _=>.slice Aa p0.length ca,fun _=>noR,fun _=>[]⟩,⟨fun _=>vI o.1,fun _=>noR,fun _=>[]⟩,⟨fun _=>vI (w64 (o.1-1)),fun _=>noR,fun _=>[]⟩,⟨fun _=>slA Aa (Int.toNat (w64 (o.1-1))*1),fun _=>noR,fun _=>[]⟩,⟨fun _=>vI (rdL o.2 (w64 (o.1-1))),fun _=>noR,fun _=>[]⟩,⟨fun _=>.slice Aa p0.length ca,fun _=>noR,fun _=>[]⟩,⟨fun _=>vI o.1,fun _=>noR,fun _=>[]⟩,⟨fun _=>slA Aa (Int.toNat o.1*1),fun _=>noR,fun _=>[]⟩,⟨fun _=>vI (rdL o.2 o.1),fun _=>noR,fun _=>[]⟩,⟨fun _=>slA Aa (Int.toNat o.1*1),fun _=>noR,fun _=>[]⟩,⟨fun _=>undef,fun _=>aR Aa ca 3 1 p0.length (encL cI (o.2.set (Int.toNat o.1) (rdL o.2 (w64 (o.1-1))))),fun _=>[]⟩,⟨fun _=>slA Aa (Int.toNat (w64 (o.1-1))*1),fun _=>noR,fun _=>[]⟩,⟨fun _=>undef,fun _=>aR Aa ca 3 1 p0.length (encL cI ((o.2.set (Int.toNat o.1) (rdL o.2 (w64 (o.1-1)))).set (Int.toNat (w64 (o.1-1))) (rdL o.2 o.1))),fun _=>[]⟩] 2 bW (by kernel_rfl) (by kernel_rfl) ⟨⟨fun ξ14 ξ14' h=>⟨E,E,E⟩,fun _=>E⟩,⟨fun ξ14 ξ14' h=>⟨E,E,E⟩,fun _=>E⟩,⟨fun ξ14 ξ14' h=>⟨E,E,E⟩,fun _=>E⟩,⟨fun ξ14 ξ14' h=>⟨E,E,E⟩,fun _=>E⟩,⟨fun ξ14 ξ14' h=>⟨E,E,E⟩,fun _=>E⟩,⟨fun ξ14 ξ14' h=>⟨E,E,E⟩,fun _=>E⟩,⟨fun ξ14 ξ14' h=>⟨E,E,E⟩,fun _=>E⟩,⟨fun ξ14 ξ14' h=>⟨E,E,E⟩,fun _=>E⟩,⟨fun ξ14 ξ14' h=>⟨E,E,E⟩,fun _=>E⟩,⟨fun ξ14 ξ14' h=>⟨E,E,E⟩,fun _=>E⟩,⟨fun ξ14 ξ14' h=>⟨E,E,E⟩,fun _=>E⟩,⟨fun ξ14 ξ14' h=>⟨E,E,E⟩,fun _=>E⟩,⟨fun ξ14 ξ14' h=>⟨E,E,E⟩,fun _=>E⟩,⟨fun ξ14 ξ14' h=>⟨E,E,E⟩,fun _=>E⟩,⟨fun ξ14 ξ14' h=>⟨E,E,E⟩,fun _=>E⟩,⟨fun ξ14 ξ14' h=>⟨E,E,E⟩,fun _=>E⟩,⟨fun ξ14 ξ14' h=>⟨E,E,E⟩,fun _=>E⟩,⟨fun ξ14 ξ14' h=>⟨E,E,E⟩,fun _=>E⟩,trivial⟩ E (fun ξ14=>?_)
      refine cW E (fun L2=>?_) ?_
      ·dsimp only[aM,lca,lna]
       refine oY E (yMS E) (oN ?_)
       exact az (fun _=>(none,0,0,[],noR)) E (List.append_nil _)
      dsimp only[cg,lsz,lss,lna,lca,List.append_nil]
      refine cW E (fun L2=>?_) ?_
      ·dsimp only[aM,lca,lna]
       refine oY E (yMI E) (oN ?_)
       exact az (fun _=>(none,0,0,[],noR)) E (List.append_nil _)
      dsimp only[cg,lsz,lss,lna,lca,List.append_nil]
      refine cW E (fun L2=>?_) ?_
      ·dsimp only[aM,lca,lna]
       refine oY E (yMS E) (oN ?_)
       exact az (fun _=>(none,0,0,[],noR)) E (List.append_nil _)
      dsimp only[cg,lsz,lss,lna,lca,List.append_nil]
      refine cW E (fun L2=>?_) ?_
      ·dsimp only[aM,lca,lna]
       refine oY E (yMI E) (oN ?_)
       exact az (fun _=>(none,0,0,[],noR)) E (List.append_nil _)
      dsimp only[cg,lsz,lss,lna,lca,List.append_nil]
      refine cW E (fun L2=>?_) ?_
      ·dsimp only[aM,lca,lna]
       refine oY E (ex E E) (oN ?_)
       exact az (fun _=>(none,0,0,[],noR)) E (List.append_nil _)
      dsimp only[cg,lsz,lss,lna,lca,List.append_nil]
      refine cW E (fun L2=>?_) ?_
      ·dsimp only[aM,lca,lna]
       refine oY E (yMS E) (oN ?_)
       exact az (fun _=>(none,0,0,[],noR)) E (List.append_nil _)
      dsimp only[cg,lsz,lss,lna,lca,List.append_nil]
      refine cW E (fun L2=>?_) ?_
      ·dsimp only[aM,lca,lna]
       refine oY E (yMI E) (oN ?_)
       exact az (fun _=>(none,0,0,[],noR)) E (List.append_nil _)
      dsimp only[cg,lsz,lss,lna,lca,List.append_nil]
      refine cW E (fun L2=>?_) ?_
      ·dsimp only[aM,lca,lna]
       refine oY E (ex E E) (oN ?_)
       exact az (fun _=>(none,0,0,[],noR)) E (List.append_nil _)
      dsimp only[cg,lsz,lss,lna,lca,List.append_nil]
      refine cW E (fun L2=>?_) ?_
      ·dsimp only[aM,lca,lna]
       refine oY E (yI bS (by decide) d.1 d.2 (RdL.row 1 E) (eL aB f) E E) ?_
       refine oN ?_
       exact az (fun _=>(none,0,0,[],noR)) E (List.append_nil _)
      dsimp only[cg,lsz,lss,lna,lca,List.append_nil]
      refine cW E (fun L2=>?_) ?_
      ·dsimp only[aM,lca,lna]
       refine oY E (yR (A:=Aa) (j:=(Int.toNat (w64 (o.1-1))*1)) (v:=vI (rdL o.2 (w64 (o.1-1)))) aK (RdL.row 1 E) E (ay aB d.1 (ah d.2 f) E)) (oN ?_)
       exact az (fun _=>(none,0,0,[],noR)) E (List.append_nil _)
      dsimp only[cg,lsz,lss,lna,lca,List.append_nil]
      refine cW E (fun L2=>?_) ?_
      ·dsimp only[aM,lca,lna]
       refine oY E (yMS E) (oN ?_)
       exact az (fun _=>(none,0,0,[],noR)) E (List.append_nil _)
      dsimp only[cg,lsz,lss,lna,lca,List.append_nil]
      refine cW E (fun L2=>?_) ?_
      ·dsimp only[aM,lca,lna]
       refine oY E (yMI E) (oN ?_)
       exact az (fun _=>(none,0,0,[],noR)) E (List.append_nil _)
      dsimp only[cg,lsz,lss,lna,lca,List.append_nil]
      refine cW E (fun L2=>?_) ?_
      ·dsimp only[aM,lca,lna]
       refine oY E (yI bS (by decide) w.1 w.2 (RdL.row 1 E) (eL aB f) E E) ?_
       refine oN ?_
       exact az (fun _=>(none,0,0,[],noR)) E (List.append_nil _)
      dsimp only[cg,lsz,lss,lna,lca,List.append_nil]
      refine cW E (fun L2=>?_) ?_
      ·dsimp only[aM,lca,lna]
       refine oY E (yR (A:=Aa) (j:=(Int.toNat o.1*1)) (v:=vI (rdL o.2 o.1)) aK (RdL.row 1 E) E (ay aB w.1 (ah w.2 f) E)) (oN ?_)
       exact az (fun _=>(none,0,0,[],noR)) E (List.append_nil _)
      dsimp only[cg,lsz,lss,lna,lca,List.append_nil]
      refine cW E (fun L2=>?_) ?_
      ·dsimp only[aM,lca,lna]
       refine oY E (yI bS (by decide) D.1 D.2 (RdL.row 1 E) (eL aB f) E E) ?_
       refine oN ?_
       exact az (fun _=>(none,0,0,[],noR)) E (List.append_nil _)
      dsimp only[cg,lsz,lss,lna,lca,List.append_nil]
      refine gx_n E (fun L2=>?_) ?_
      ·dsimp only[aM,lca,lna]
       refine cy E (iD 1 (xs:=o.2) aB (rdL o.2 (w64 (o.1-1))) px E D.1 (ah D.2 f) E E E E) (oN ?_)
       first|exact ci (fun _=>(none,0,0,[],noR)) E|exact ci (fun _=>(none,0,0,[],noR)) (List.append_nil _)
      dsimp only[cg,lsz,lss,lna,lca,List.append_nil]
      refine cW E (fun L2=>?_) ?_
      ·dsimp only[aM,lca,lna]
       refine oY E (yI bS (by decide) F.1 F.2 (RdL.row 1 E) (eL aB (cY f)) E E) ?_
       refine oN ?_
       exact az (fun _=>(none,0,0,[],noR)) E (List.append_nil _)
      dsimp only[cg,lsz,lss,lna,lca,List.append_nil]
      refine gx_n E (fun L2=>?_) ?_
      ·dsimp only[aM,lca,lna]
       refine cy E (iD 1 (xs:=(o.2.set (Int.toNat o.1) (rdL o.2 (w64 (o.1-1))))) aB (rdL o.2 o.1) px E F.1 (ah F.2 (cY f)) E E E E) (oN ?_)
       first|exact ci (fun _=>(none,0,0,[],noR)) E|exact ci (fun _=>(none,0,0,[],noR)) (List.append_nil _)
      dsimp only[cg,lsz,lss,lna,lca,List.append_nil]
      refine my (aw (eT (cR (oY E (yMI E) (oY E (ex E E) (oY E (yAI E) (oN ?_)))))))
      obtain rfl:=sI h
      exact eN ⟨_,(cY (cY f)),E,(kp4 (kp (kp E)))⟩
     ·refine cF (vB K) (aD (ai ?_))
      obtain rfl:=sI h
      exact av ⟨E,_,f,E,(kp4 (kp (kp E)))⟩
    ·clear h;rcases iOs Y with⟨g,h⟩|⟨g,h⟩
     ·refine qY (sT E E E E g) (yMS E) (qY (sT E E E E g) (yMI E) ?_)
      obtain⟨G,h⟩:=gOs h
      refine qY (sT E E E E g) (yI bS (by decide) G.1 G.2 (RdL.row 1 E) (eL aB f) E E) ?_
      refine qY (sT E E E E g) (yR (A:=Aa) (j:=(Int.toNat o.1*1)) (v:=vI (rdL o.2 o.1)) aK (RdL.row 1 E) E (ay aB G.1 (ah G.2 f) E)) (qY (sT E E E E g) (yMS E) (qY (sT E E E E g) (yMI E) (qY (sT E E E E g) (ex E E) ?_)))
      obtain⟨H,h⟩:=gOs h
      refine qY (sT E E E E g) (yI bS (by decide) H.1 H.2 (RdL.row 1 E) (eL aB f) E E) ?_
      refine qY (sT E E E E g) (yR (A:=Aa) (j:=(Int.toNat (w64 (o.1-1))*1)) (v:=vI (rdL o.2 (w64 (o.1-1)))) aK (RdL.row 1 E) E (ay aB H.1 (ah H.2 f) E)) ?_
      obtain⟨t,Z,h⟩:=bOs h
      refine qY (sT E E E E g) (yC [vI (rdL o.2 o.1),vI (rdL o.2 (w64 (o.1-1)))] go_168 E (fun W2 V=>pg (rdL o.2 o.1) (rdL o.2 (w64 (o.1-1))) t Z W2 ) E) (qY E (ad (vB g) E) ?_)
      obtain rfl:=sI h
      exact key _ _ (kp4 (kp (kp (kp E))))
     ·refine aa (sF E E E E g) (aa (sF E E E E g) (aa (sF E E E E g) (aa (sF E E E E g) (aa (sF E E E E g) (aa (sF E E E E g) (aa (sF E E E E g) (aa (sF E E E E g) (aa (sF E E E E g) (aa (sF E E E E g) (qY E (ag (vB g) E) ?_))))))))))
      obtain rfl:=sI h
      exact key _ _ (kp4 (kp (kp (kp E))))
   ·intro e L tm hJ
    obtain⟨rfl,p,M,rfl,rfl⟩:=hJ
    refine⟨(by intro hc;cases hc),?_⟩
    refine ac (aw (eT (cR (oY E (yMI E) (oY E (aL E E) (oY E (yAI E) (oN ?_)))))))
    obtain rfl:=sI h
    exact eN ⟨_,M,E,(kp4 E)⟩
  ·refine cF (vB Q) (aD (ai ?_))
   obtain rfl:=sI h
   exact av ⟨E,_,u,E,(kp4 E)⟩
 ·intro e L tm hJ
  obtain⟨rfl,n,N,rfl,rfl⟩:=hJ
  refine⟨(by intro hc;cases hc),?_⟩
  refine ac ?_
  obtain rfl:=sI h
  exact cO (.inr E) E  (fun W2 V=>⟨E,N,V.take 2⟩)
theorem nq {x:Int} (h:0≤x∧x<16):x=0∨x=1∨x=2∨x=3∨x=4∨x=5∨x=6∨x=7∨x=8∨x=9∨x=10∨x=11∨x=12∨x=13∨x=14∨x=15:=by omega
theorem mG (p0:Int) (res:Int) (h:gO p0=some res) (W:World) :
  Calls Tryz.prog 172 [.int .u64 p0].toArray W fun e W2=>e=.returned (vI res)∧Ext W W2 []:=by
 unfold gO at h
 obtain⟨hg,h⟩:=gOs h
 refine aj (m:=25) Tryz.func172 E E (nB E) ?_
 have h1:decide ((4294967296:Int)≤p0)=false:=decide_eq_false (by omega)
 have h2:decide ((65536:Int)≤p0)=false:=decide_eq_false (by omega)
 have h3:decide ((256:Int)≤p0)=false:=decide_eq_false (by omega)
 refine cS (cR (oY E (yAI E) (oN (eT (cS (cS (cR (oY E (yMI E) (oY E (lu E E) (oN (eT (cF (vB h1) (cK (eT (cS (cS (cR (oY E (yMI E) (oY E (lu E E) (oN (eT (cF (vB h2) (cK (eT (cS (cS (cR (oY E (yMI E) (oY E (lu E E) (oN (eT (cF (vB h3) (cK (eT (cS (cR (oY E (yMI E) (oY E (yMI E) ?_))))))))))))))))))))))))))))))))))))))
 refine oY E (y_convQ (a':=p0) (q':=.u8) ui_220 ui_5 (by rcases nq hg with rfl|rfl|rfl|rfl|rfl|rfl|rfl|rfl|rfl|rfl|rfl|rfl|rfl|rfl|rfl|rfl <;> decide) E) ?_
 refine oY E (y_indexStr (b:=UInt8.ofNat (lenv p0).toNat) us_s9 hg.1 (by rcases nq hg with rfl|rfl|rfl|rfl|rfl|rfl|rfl|rfl|rfl|rfl|rfl|rfl|rfl|rfl|rfl|rfl <;> rfl) E E) ?_
 refine oY E (y_convQ (a':=lenv p0) (q':=.i64) ui_5 ui_3 (by rcases nq hg with rfl|rfl|rfl|rfl|rfl|rfl|rfl|rfl|rfl|rfl|rfl|rfl|rfl|rfl|rfl|rfl <;> decide) E) ?_
 refine oY E (aL E E) (oY E (yAI E) (oN (eT (ap ?_))))
 obtain rfl:=sI h
 exact am (.inl E) E (rVt (v:=vI (w64 (0+lenv p0))) E) (fun W2 f=>⟨E,f.none⟩)
theorem nY (p0:Int) (res:Int) (h:jd p0=some res) (W:World)  :
  Calls Tryz.prog 129 [.int .u64 p0].toArray W fun e W2=>e=.returned (vI res)∧Ext W W2 []:=by
 unfold jd at h
 refine aj (m:=8) Tryz.func129 E E (nB E) (cS (cR (oY E (yAI E) (oN (eT (cS (cF E (cK (eT (cS (cR (oY E (yMI E) ?_))))))))))))
 obtain⟨o,g,h⟩:=bOs h
 refine oY E (yC [.int .u64 p0] go_172 E (fun W2 f=>mG p0 o g W2 ) E) (oY E (yAI E) (oN (eT (ap ?_))))
 obtain rfl:=sI h
 exact am (.inl E) E (rVt (v:=vI o) E) (fun W2 f=>⟨E,f.none⟩)
theorem iW (p0:(List Int)) (p1:Int) (p2:Int) (p3:Int) (res:(List Int)) (h:cr p0 p1 p2 p3=some res) (W:World) (N:World) (R:Res) (Aa:Option Addr) (f ca:Nat) (r:f=p0.length) (hW:Ext N W [R,aR Aa ca 3 1 f (encL cI p0)]) :
  Calls Tryz.prog 128 [.slice Aa f ca,vI p1,vI p2,vI p3].toArray W fun e W2=>e=.returned (.tuple #[])∧f=res.length∧Ext N W2 [R,aR Aa ca 3 1 f (encL cI res)]:=by
 subst r
 unfold cr at h
 refine bh (m:=134) Tryz.func128 E E (nB E) hW (cS (cR (oY E (yAB E) (oN (eT (cS (cR (oY E (yAB E) (oN (eT (cB ?_)))))))))))
 obtain⟨O,G,h⟩:=bOs h
 refine sf (fun(s:(Int × Int × Int × Bool × Bool × (List Int))) L tm=>∃(u:Nat→Value),p0.length=s.2.2.2.2.2.length∧L=[R,aR Aa ca 3 1 p0.length (encL cI s.2.2.2.2.2)]∧tm=(upd (upd (upd (upd (upd (upd u 0 (.slice Aa p0.length ca)) 1 (vI s.1)) 2 (vI s.2.1)) 3 (vI s.2.2.1)) 8 (.bool s.2.2.2.1)) 9 (.bool s.2.2.2.2.1))) (fun s e L tm=>e=.ret∧∃(u:Nat→Value),p0.length=s.2.2.2.2.2.length∧L=[R,aR Aa ca 3 1 p0.length (encL cI s.2.2.2.2.2)]∧tm=(upd (upd (upd (upd (upd (upd u 0 (.slice Aa p0.length ca)) 1 (vI s.1)) 2 (vI s.2.1)) 3 (vI s.2.2.1)) 8 (.bool s.2.2.2.1)) 9 (.bool s.2.2.2.2.1))) G ⟨_,E,E,(kp4 (kp (kp E)))⟩ ?_ ?_
 ·rintro w L tm st ⟨D,g,rfl,rfl⟩ h
  unfold bR at h
  refine cB (cS (cR (oY E (yMI E) (oY E (yMI E) (oY E (ex E E) (oY E (yAI E) (oN (eT (cS (cS (cR (oY E (yMI E) (oY E (gV E E) (oN (eT ?_)))))))))))))))
  obtain⟨H,h⟩:=gOs h
  refine cT (vB H) (cS (cR (oY E (yMS E) (oY E (yMI E) (oY E (yMI E) ?_)))))
  obtain⟨I,K,h⟩:=bOs h
  refine f9 1 [.slice Aa p0.length ca,vI w.1,vI w.2.1] (fun(_:Unit)=>p0.length=I.length) (fun _=>.tuple #[]) (fun _=>aR Aa ca 3 1 p0.length (encL cI I)) (fun _=>[]) E E go_162 E (fun W2 d=>(gw w.2.2.2.2.2 w.1 w.2.1 I K W2 _ (bH [R,aR Aa ca 3 1 p0.length (encL cI w.2.2.2.2.2)] [1]) Aa p0.length ca (g) d).mono (fun e W3 h3=>⟨(),h3.2.1,h3.1,h3.2.2⟩)) ?_
  rintro-M
  try dsimp only[lsz,lss,List.append_nil]
  refine oN (eT (ap (ab (ae ?_))))
  obtain rfl:=sI h
  exact av ⟨E,_,M,E,(kp4 (kp (kp E)))⟩
 ·intro e L tm hJ
  obtain⟨rfl,F,o,rfl,rfl⟩:=hJ
  refine⟨(by intro hc;cases hc),?_⟩
  refine ae ?_
  obtain rfl:=sI h
  exact cO (.inl E) E  (fun W2 d=>⟨E,o,d.take 2⟩)
theorem insO_l2 {n:Nat} {data0:List Int} (h0:data0.length=n) (hn:n<1000000) (x:Int) :
  ∀(k:Nat) (f T:List Int),f.length=k→f.length+1+T.length=n→∃B1 B2:List Int,f=B1++B2∧aJ (ba data0 0) ((f.length:Int),f++x::T)=some ((B1.length:Int),B1++x::(B2++T))∧(∀y∈B2,x<y)∧(∀y,B1.getLast? = some y→¬x<y):=by
 intro k
 induction k with
 | zero =>
  intro f T hk hl
  have:f=[]:=List.eq_nil_of_length_eq_zero hk
  subst this
  refine⟨[],[],E,?_,by simp,by simp⟩
  refine eC ?_
  unfold ba;dsimp only
  rfl
 | succ k ih =>
  intro f T hk hl
  obtain⟨A,y,rfl⟩:∃A y,f=A++[y]:=⟨f.dropLast,f.getLast (by intro h;rw[h]at hk;cases hk),(List.dropLast_concat_getLast _).symm⟩
  have hA:A.length=k:=by simpa using hk
  simp only[List.length_append,List.length_cons,List.length_nil]at hl
  have e1:A++[y]++x::T=A++y::x::T:=by simp
  have hi:(((A++[y]).length:Nat):Int)=(A.length:Int)+1:=by simp
  have hj1:w64 ((((A++[y]).length:Nat):Int)-1)=(A.length:Int):=by rw[bV (by simp only[List.length_append,List.length_cons,List.length_nil];omega) (by simp only[List.length_append,List.length_cons,List.length_nil];omega)];simp
  have r1:rdL (A++[y]++x::T) (((A++[y]).length:Nat):Int)=x:=rdL_midI _ _ _ _ E
  have r2:rdL (A++[y]++x::T) (A.length:Int)=y:=by rw[e1];exact rdL_midI _ _ _ _ E
  have g1:(0:Int)≤(((A++[y]).length:Nat):Int)∧(((A++[y]).length:Nat):Int)<(data0.length:Int):=by rw[h0];simp only[List.length_append,List.length_cons,List.length_nil];omega
  have g2:(0:Int)≤(A.length:Int)∧(A.length:Int)<(data0.length:Int):=by rw[h0];omega
  have hd:decide ((0:Int)<(((A++[y]).length:Nat):Int))=true:=decide_eq_true (by rw[hi];omega)
  have hless:io x y=some (decide (x<y)):=by
   unfold io eh
   simp
  have step:ba data0 0 ((((A++[y]).length:Nat):Int),A++[y]++x::T)=if x<y then some (.inl ((A.length:Int),A++x::([y]++T)))else some (.inr ((((A++[y]).length:Nat):Int),A++[y]++x::T)):=by
   unfold ba;dsimp only
   simp only[hj1,r1,r2,hd,if_true,gPo g1,gPo g2,hless,Option.bind_some,decide_eq_true_eq]
   by_cases hlt:x<y
   ·rw[if_pos hlt,if_pos hlt]
    refine congrArg some (congrArg Sum.inl (Prod.ext E ?_))
    show((A++[y]++x::T).set (Int.toNat (((A++[y]).length:Nat):Int)) y).set (Int.toNat (A.length:Int)) x=_
    rw[Int.toNat_natCast,Int.toNat_natCast,tK (A++[y]) x y T _ E]
    have e3:A++[y]++y::T=A++y::(y::T):=by simp
    rw[e3,tK A y x (y::T) _ E]
    simp
   ·rw[if_neg hlt,if_neg hlt]
  by_cases hlt:x<y
  ·rw[if_pos hlt]at step
   obtain⟨B1,B2,hB,hr,h2,h3⟩:=ih A ([y]++T) hA (by simp;omega)
   refine⟨B1,B2++[y],by rw[hB,List.append_assoc],?_,?_,h3⟩
   ·rw[je step,hr]
    simp
   ·intro z hz
    rcases List.mem_append.1 hz with hz|hz
    ·exact h2 z hz
    ·rw[List.mem_singleton.1 hz];exact hlt
  ·rw[if_neg hlt]at step
   refine⟨A++[y],[],by simp,?_,by simp,?_⟩
   ·rw[eC step];simp
   ·intro z hz
    simp at hz
    rw[←hz]
    exact hlt
theorem insO_all {l:List Int} (hl:l.length<1000000):bv l 0 (l.length:Int)=some (pv l):=by
 unfold bv
 have e1:w64 (0+1)=1:=rfl
 rw[e1]
 have main:∀(R A:List Int),(A++R).Perm l→eM A→∃s,aJ (aI l 0 (l.length:Int)) ((A.length:Int),A++R)=some ((l.length:Int),s)∧s.Perm l∧eM s:=by
  intro R
  induction R with
  | nil =>
   intro A hp hs
   have hlen:A.length=l.length:=by have:=hp.length_eq;simpa using this
   refine⟨A,?_,by simpa using hp,hs⟩
   rw[List.append_nil,hlen]
   refine eC ?_
   unfold aI;dsimp only
   rw[show decide ((l.length:Int)<(l.length:Int))=false from decide_eq_false (by omega)]
   rfl
  | cons x T ih =>
   intro A hp hs
   have hlen:A.length+(T.length+1)=l.length:=by have:=hp.length_eq;simpa using this
   obtain⟨B1,B2,hB,hr,h2,h3⟩:=insO_l2 (data0:=l) E hl x A.length A T E (by omega)
   have hstep:aI l 0 (l.length:Int) ((A.length:Int),A++x::T)=some (.inl (((B1++x::B2).length:Int),(B1++x::B2)++T)):=by
    unfold aI;dsimp only
    rw[show decide ((A.length:Int)<(l.length:Int))=true from decide_eq_true (by omega)]
    rw[if_pos E,hr,Option.bind_some]
    have hw:w64 ((A.length:Int)+1)=(A.length:Int)+1:=bV (by omega) (by omega)
    simp only[hw]
    refine congrArg some (congrArg Sum.inl (Prod.ext ?_ ?_))
    ·simp[hB];omega
    ·simp
   have hs':eM (B1++x::B2):=by
    unfold eM at hs ⊢
    rw[hB,List.pairwise_append]at hs
    obtain⟨f,g,o⟩:=hs
    have hle:∀y∈B1,y≤x:=by
     intro y hy
     rcases List.eq_nil_or_concat B1 with rfl|⟨B,z,rfl⟩
     ·cases hy
     ·have hz:=h3 z (by simp)
      rw[List.concat_eq_append]at hy f
      rcases List.mem_append.1 hy with hy|hy
      ·rw[List.pairwise_append]at f
       have:=f.2.2 y hy z (by simp);omega
      ·rw[List.mem_singleton.1 hy];omega
    rw[List.pairwise_append]
    refine⟨f,List.pairwise_cons.2 ⟨fun y hy=>by have:=h2 y hy;omega,g⟩,fun a ha b hb=>?_⟩
    rcases List.mem_cons.1 hb with rfl|hb
    ·exact hle a ha
    ·exact o a ha b hb
   have hp':((B1++x::B2)++T).Perm l:=by
    refine List.Perm.trans ?_ hp
    rw[hB]
    simp only[List.append_assoc,lca]
    exact List.Perm.append_left B1 (List.perm_middle).symm
   obtain⟨s,h4,h5,h6⟩:=ih (B1++x::B2) hp' hs'
   exact⟨s,by rw[je hstep];exact h4,h5,h6⟩
 rcases l with _|⟨x,T⟩
 ·have:aJ (aI [] 0 (([]:List Int).length:Int)) (1,[])=some (1,[]):=by
   refine eC ?_
   unfold aI
   rfl
  rw[this]
  rfl
 ·obtain⟨s,h1,h2,h3⟩:=main T [x] (by simp) (by simp[eM])
  have h1':aJ (aI (x::T) 0 ((x::T).length:Int)) (1,x::T)=some (((x::T).length:Int),s):=h1
  rw[h1',Option.bind_some,sy h2 h3]
theorem pdqO_all {l:List Int} (hl:l.length≤12) (v:Int):cr l 0 (l.length:Int) v=some (pv l):=by
 unfold cr
 have hstep:bR (0,(l.length:Int),v,true,true,l)=some (.inr (0,(l.length:Int),v,true,true,pv l)):=by
  unfold bR;dsimp only
  have hw:w64 ((l.length:Int)-0)=(l.length:Int):=by rw[bV (by omega) (by omega)];omega
  rw[hw,gPo (decide_eq_true (by omega)),insO_all (by omega)]
  rfl
 rw[eC hstep]
 rfl
theorem eO (p0:(List Int)) (res:(List Int)) (h:cX p0=some res) (W:World) (F:World) (R:Res) (Aa:Option Addr) (f ca:Nat) (o:f=p0.length) (hW:Ext F W [R,aR Aa ca 3 1 f (encL cI p0)]) :
  Calls Tryz.prog 81 [.slice Aa f ca].toArray W fun e W2=>e=.returned (.tuple #[])∧f=res.length∧Ext F W2 [R,aR Aa ca 3 1 f (encL cI res)]:=by
 subst o
 unfold cX at h
 obtain⟨u,h⟩:=gOs h
 obtain rfl:=sI h
 have hlen:p0.length=(pv p0).length:=(tb p0).symm
 refine bh (m:=11) Tryz.func81 E E (nB E) hW (cS (cR (oY E (yMS E) (oY E (bi (us:=[]) cQ E) (oY E (yAI E) (oN (eT (cR (oY E (yMS E) (oY E (yMI E) (oY E (yMI E) ?_)))))))))))
 have d:(0:Int)≤(p0.length:Int)∧(p0.length:Int)≤9223372036854775807:=by omega
 refine oY E (y_convertU ui_3 ui_176 d E) ?_
 obtain⟨r,w⟩:∃r,jd (p0.length:Int)=some r:=by
  unfold jd gO
  rw[gPo (by omega)]
  exact⟨_,E⟩
 refine oY E (yC [.int .u64 (p0.length:Int)] go_129 E (fun W2 g=>nY (p0.length:Int) r w W2 ) E) ?_
 have D:=pdqO_all u r
 refine f9 1 [.slice Aa p0.length ca,vI 0,vI (p0.length:Int),vI r] (fun(_:Unit)=>p0.length=(pv p0).length) (fun _=>.tuple #[]) (fun _=>aR Aa ca 3 1 p0.length (encL cI (pv p0))) (fun _=>[]) E E go_128 E (fun W2 g=>(iW p0 0 (p0.length:Int) r (pv p0) D W2 _ (bH [R,aR Aa ca 3 1 p0.length (encL cI p0)] [1]) Aa p0.length ca E g).mono (fun e W3 h3=>⟨(),h3.2.1,h3.1,h3.2.2⟩)) ?_
 rintro-G
 try dsimp only[lsz,lss,List.append_nil]
 refine oN ?_
 exact cO (.inr E) E  (fun W2 g=>⟨E,hlen,g.take 2⟩)
theorem ma (p0:TR) (p1:Int) (p2:Int) (p3:Int) (p4:Int) (res:((List Int) × Int)) (h:kC p0 p1 p2 p3 p4=some res) (W:World) (Ab:Option Addr) (X cb:Nat) (g:List (Hd × TT)) (k:X=p0.fTracks.length) (G:Rd W Ab X cb (encL TTrack_cells2 g)) (d:NestW W (fun z:TT=>z.fK) TSpan_cells g p0.fTracks) :
  Calls Tryz.prog 23 [.agg #[vI p0.fPlaces,.slice Ab X cb],vI p1,vI p2,vI p3,vI p4].toArray W fun e W2=>∃x:Option Addr × Nat × Nat,x.2.1=res.1.length∧e=.returned (.tuple #[.slice x.1 x.2.1 x.2.2,vI res.2])∧Ext W W2 [aR x.1 x.2.2 3 1 x.2.1 (encL cI res.1)]:=by
 subst k
 unfold kC at h
 refine aj (m:=77) Tryz.func23 E E (nB E) (cS (cR ?_))
 refine aN [vI p0.fPlaces,.slice Ab p0.fTracks.length cb] E E E (fun b1=>?_)
 refine oY E (yAS E) (oY E (yAI E) (oN (eT (cS (cR (oY E (yN 0 [vI p0.fPlaces,.slice Ab p0.fTracks.length cb] dG E E E) (oY E (yMI E) (oY E (yMI E) (oY E (yMI E) (oY E (yMI E) ?_))))))))))
 obtain⟨U,fl,h⟩:=bOs h
 refine oC [.agg #[vI p0.fPlaces,.slice Ab p0.fTracks.length cb],vI p1,vI p2,vI p3,vI p4] _ _ _ E go_18 E (fun W2 u=>nI p0 p1 p2 p3 p4 U fl W2 Ab p0.fTracks.length cb g E ((RdL.arg G) W2 u) (NestL.at (NestL.arg d) W2 u) W (fun _=>True) (fun W3 hb=>⟨fY u.below hb,trivial⟩) ) ?_
 rintro⟨⟨A6,n8,c7⟩,F10⟩ ⟨b,om⟩
 replace b:n8=U.1.fLegs.length:=b;subst b
 refine oY E (aY E) (oY E (yE E E) (oY E (yE E E) ?_))
 refine aF lr E (fun n=>?_)
 refine cy E (yS 2 [.slice A6 U.1.fLegs.length c7,vI U.1.fA,vI U.1.fToll] m6 E (nB E) E E E) (oY E (yAI E) (oN (eT (cS (cS (cR (oY E (yMI E) (oY E (cJ E E) (oN (eT ?_))))))))))
 rcases iOs h with⟨Y,h⟩|⟨Y,h⟩
 ·refine cT (vB Y) (cS (cR (oY E (yMI E) (oY E (yAS E) (oY E (yAI E) (oN (eT (ap (ab ?_)))))))))
  obtain rfl:=sI h
  exact bT (.inl E) E (rVt (v:=.slice none 0 0) E) (rVt (v:=vI U.2) E) (fun W2 u=>⟨(none,0,0),E,E,((u.nilrow 3 1).pick 3 E)⟩)
 ·refine cF (vB Y) (cK (eT (cS (cR (oY E (yAS E) (oN (eT (cS (cS (cR (oY E (yFA bU E) (oY E (yL 0 gv E E E) (oY E (bi (us:=[]) i6 E) (oY E (yMI E) (oN (eT (cB ?_)))))))))))))))))
  obtain⟨H,f2,h⟩:=bOs h
  refine dr 3 1 ?_
  refine bj (fun(s:(Int × (List Int))) L tm=>∃(l:Nat→Value) (t:Option Addr) (a:Nat) (Z:Nat),Z=s.2.length∧L=[ak b1 24 [vI p0.fPlaces,.slice Ab p0.fTracks.length cb],F10,ak n 29 [.slice A6 U.1.fLegs.length c7,vI U.1.fA,vI U.1.fToll],aR t a 3 1 Z (encL cI s.2)]∧tm=(upd (upd (upd (upd (upd (upd (upd (upd (upd (upd (upd (upd l 1 (vI p1)) 2 (vI p2)) 3 (vI p3)) 4 (vI p4)) 5 (.pointer (some ⟨b1,0,none⟩))) 10 (.slice none 0 0)) 11 (vI 0)) 12 (.pointer (some ⟨n,0,none⟩))) 14 (.slice t Z a)) 33 (.slice Ab p0.fTracks.length cb)) 34 (vI (p0.fTracks.length:Int))) 35 (vI s.1))) 0 f2 ⟨_,none,0,0,E,E,(kp4 (kp4 (kp4 E)))⟩ ?_ ?_
  ·rintro f L tm st ⟨f3,I,K,fR,rfl,rfl,rfl⟩ h
   unfold lZ at h
   refine cS (cR (oY E (be E E) (oN (eT (cS ?_)))))
   rcases iOs h with⟨V,h⟩|⟨V,h⟩
   ·refine cT (vB V) (cK (eT (cS (cB (cS (cR (oY E (yMI E) ?_)))))))
    obtain⟨F,h⟩:=gOs h
    refine oY E (yI jE (by decide) F.1 F.2 (RdL.arg G) (eL au (NestP.hn d.p E)) E E) ?_
    refine oY E (yM (A:=Ab) (j:=(Int.toNat f.1*6)) [vI ((rdL p0.fTracks f.1).fID),vI ((rdL p0.fTracks f.1).fFrom),vI ((rdL p0.fTracks f.1).fTo),vI ((rdL p0.fTracks f.1).fLong),vI ((rdL p0.fTracks f.1).fToll),.slice ((rdL g f.1).1.1) ((rdL p0.fTracks f.1).fK.length) ((rdL g f.1).1.2.2)] gS (Nat.succ_pos _) (RdL.arg G) E (fN (bI (NestP.snd d.p f.1) (NestP.len d.p F.1 (ah F.2 E))).symm (bc au F.1 (ah F.2 (NestP.hn d.p E))))) ?_
    refine aF ip E (fun g2=>?_)
    refine oY E (yAI E) (cy E (yS 4 [vI ((rdL p0.fTracks f.1).fID),vI ((rdL p0.fTracks f.1).fFrom),vI ((rdL p0.fTracks f.1).fTo),vI ((rdL p0.fTracks f.1).fLong),vI ((rdL p0.fTracks f.1).fToll),.slice ((rdL g f.1).1.1) ((rdL p0.fTracks f.1).fK.length) ((rdL g f.1).1.2.2)] nU E (nB E) E E E) (oN (eT (cS ?_))))
    obtain⟨O,i,h⟩:=bOs h
    have hPc_y22:=jm i d.p
    obtain⟨o,fr,h⟩:=bOs h
    refine gI [[],[0],[],[2],[2,3],[],[],[6],[2,3,4,5,6,7],[0,1,2,3,4,5,6,7,8],[],[0,1,2,3,4,5,6,7,8,9,10]] [(none,0,[true,true,true,true,true]),(none,0,[true,true,true,true,true]),(none,0,[true,true,true,true,true]),(none,0,[true,true,true,true,true]),(none,1,[true,true,true,true,true]),(none,0,[true,true,true,true,true,false]),(none,0,[true,true,true,true,true,false]),(none,0,[true,true,true,true,true,false]),(some 5,1,[true,true,true,true,true,true]),(none,0,[true,true,true,true,true,true,true]),(none,1,[true,true,true,true,true,false,false]),(some 7,0,[true,true,true,true,true,true,true,true])] [⟨fun _=>.pointer (some ⟨b1,0+0,none⟩),fun _=>noR,fun _=>[]⟩,⟨fun _=>vI p0.fPlaces,fun _=>noR,fun _=>[]⟩,⟨fun _=>.pointer (some ⟨b1,0+1,none⟩),fun _=>noR,fun _=>[]⟩,⟨fun _=>.slice Ab p0.fTracks.length cb,fun _=>noR,fun _=>[]⟩,⟨fun ξ21=>.slice (ξ21 4 0).1 O.length (ξ21 4 0).2.2.1,fun _=>noR,fun ξ21=>[aR (ξ21 4 0).1 (ξ21 4 0).2.2.1 120 6 O.length (encL TTrack_cells2 g)]⟩,⟨fun _=>vI f.1,fun _=>noR,fun _=>[]⟩,⟨fun _=>vI f.1,fun _=>noR,fun _=>[]⟩,⟨fun _=>vI (w64 (f.1+1)),fun _=>noR,fun _=>[]⟩,⟨fun ξ21=>.slice (ξ21 4 0).1 o.length (ξ21 4 0).2.2.1,fun ξ21=>aR (ξ21 4 0).1 (ξ21 4 0).2.2.1 120 6 o.length (encL TTrack_cells2 (List.zip (ξ21 8 0).2.2.2.1 o)),fun ξ21=>[factR (NestP (fun z:TT=>z.fK) (List.zip (ξ21 8 0).2.2.2.1 o) o∧∀y∈(List.zip (ξ21 8 0).2.2.2.1 o),y∈g)]⟩,⟨fun ξ21=>.agg #[vI p0.fPlaces,.slice (ξ21 4 0).1 o.length (ξ21 4 0).2.2.1],fun _=>noR,fun _=>[]⟩,⟨fun ξ21=>.pointer (some ⟨(ξ21 10 0).2.1,0,none⟩),fun _=>noR,fun ξ21=>[ak (ξ21 10 0).2.1 24 [vI 0,.slice none 0 0]]⟩,⟨fun _=>undef,fun ξ21=>ak (ξ21 10 0).2.1 24 [vI p0.fPlaces,.slice (ξ21 4 0).1 o.length (ξ21 4 0).2.2.1],fun _=>[]⟩] 5 bW (by kernel_rfl) (by kernel_rfl) ⟨⟨fun ξ21 ξ21' h=>⟨E,E,E⟩,fun _=>E⟩,⟨fun ξ21 ξ21' h=>⟨E,E,E⟩,fun _=>E⟩,⟨fun ξ21 ξ21' h=>⟨E,E,E⟩,fun _=>E⟩,⟨fun ξ21 ξ21' h=>⟨E,E,E⟩,fun _=>E⟩,⟨fun ξ21 ξ21' h=>⟨by simp only[h 4 (.inl E)],E,by simp only[h 4 (.inl E)]⟩,fun _=>E⟩,⟨fun ξ21 ξ21' h=>⟨E,E,E⟩,fun _=>E⟩,⟨fun ξ21 ξ21' h=>⟨E,E,E⟩,fun _=>E⟩,⟨fun ξ21 ξ21' h=>⟨E,E,E⟩,fun _=>E⟩,⟨fun ξ21 ξ21' h=>⟨by simp only[h 4 (.inr E)],by simp only[h 4 (.inr E),h 8 (.inl E)],by simp only[h 8 (.inl E)]⟩,fun _=>E⟩,⟨fun ξ21 ξ21' h=>⟨by simp only[h 4 (.inr E)],E,E⟩,fun _=>E⟩,⟨fun ξ21 ξ21' h=>⟨by simp only[h 10 (.inl E)],E,by simp only[h 10 (.inl E)]⟩,fun _=>E⟩,⟨fun ξ21 ξ21' h=>⟨E,by simp only[h 4 (.inr E),h 10 (.inr E)],E⟩,fun _=>E⟩,trivial⟩ E (fun ξ21=>?_)
    refine cW E (fun L2=>?_) ?_
    ·dsimp only[aM,lca,lna]
     refine oY E (yFA dW E) (oN ?_)
     exact az (fun _=>(none,0,0,[],noR)) E (List.append_nil _)
    dsimp only[cg,lsz,lss,lna,lca,List.append_nil]
    refine cW E (fun L2=>?_) ?_
    ·dsimp only[aM,lca,lna]
     refine oY E (yL 0 aK E E E) (oN ?_)
     exact az (fun _=>(none,0,0,[],noR)) E (List.append_nil _)
    dsimp only[cg,lsz,lss,lna,lca,List.append_nil]
    refine cW E (fun L2=>?_) ?_
    ·dsimp only[aM,lca,lna]
     refine oY E (yFA bU E) (oN ?_)
     exact az (fun _=>(none,0,0,[],noR)) E (List.append_nil _)
    dsimp only[cg,lsz,lss,lna,lca,List.append_nil]
    refine cW E (fun L2=>?_) ?_
    ·dsimp only[aM,lca,lna]
     refine oY E (yL 0 gv E E E) (oN ?_)
     exact az (fun _=>(none,0,0,[],noR)) E (List.append_nil _)
    dsimp only[cg,lsz,lss,lna,lca,List.append_nil]
    refine cW E (fun L2=>?_) ?_
    ·dsimp only[aM,lca,lna]
     refine oC [.slice Ab p0.fTracks.length cb] _ _ _ E go_80 E (fun W2 u=>jq p0.fTracks O i W2 Ab p0.fTracks.length cb g E ((RdL.arg G) W2 u) (NestL.at (NestL.arg d) W2 u)) ?_
     rintro⟨g3,g4,gf⟩ ⟨T,ot⟩
     replace T:g4=O.length:=T;subst T
     refine oN ?_
     exact az (fun _=>(g3,0,gf,[],noR)) E E
    dsimp only[cg,lsz,lss,lna,lca,List.append_nil]
    refine cW E (fun L2=>?_) ?_
    ·dsimp only[aM,lca,lna]
     refine oY E (yMI E) (oN ?_)
     exact az (fun _=>(none,0,0,[],noR)) E (List.append_nil _)
    dsimp only[cg,lsz,lss,lna,lca,List.append_nil]
    refine cW E (fun L2=>?_) ?_
    ·dsimp only[aM,lca,lna]
     refine oY E (yMI E) (oN ?_)
     exact az (fun _=>(none,0,0,[],noR)) E (List.append_nil _)
    dsimp only[cg,lsz,lss,lna,lca,List.append_nil]
    refine cW E (fun L2=>?_) ?_
    ·dsimp only[aM,lca,lna]
     refine oY E (aL E E) (oN ?_)
     exact az (fun _=>(none,0,0,[],noR)) E (List.append_nil _)
    dsimp only[cg,lsz,lss,lna,lca,List.append_nil]
    refine cW E (fun L2=>?_) ?_
    ·dsimp only[aM,lca,lna]
     refine f9 5 [.slice (ξ21 4 0).1 O.length (ξ21 4 0).2.2.1,vI f.1,vI (w64 (f.1+1))] (fun x:Nat × List (Hd × TT)=>x.1=o.length∧NestP (fun z:TT=>z.fK) x.2 o∧∀y∈x.2,y∈g) (fun x=>.slice (ξ21 4 0).1 x.1 (ξ21 4 0).2.2.1) (fun x=>aR (ξ21 4 0).1 (ξ21 4 0).2.2.1 120 6 x.1 (encL TTrack_cells2 x.2)) (fun _=>[]) E E go_79 E (fun W2 u=>(jb O f.1 (w64 (f.1+1)) o fr W2 _ _ (ξ21 4 0).1 O.length (ξ21 4 0).2.2.1 g E hPc_y22 (fun y hy W3 hb hR=>(PvL.of_nest d) y hy W3 hb trivial) u).mono (fun e W3 h3=>h3)) ?_
     rintro⟨k33,fd⟩ ⟨S,Q,hS37⟩
     replace S:k33=o.length:=S
     subst S
     try dsimp only[lsz,lss,List.append_nil]
     obtain⟨N,rfl⟩:∃N:List Hd,fd=List.zip N o:=⟨_,NestP.zip Q⟩
     refine ox_addFact (p:=(NestP (fun z:TT=>z.fK) (List.zip N o) o∧∀y∈(List.zip N o),y∈g)) ⟨Q,hS37⟩ ?_
     try dsimp only[lna,lca]
     try rw[List.append_nil L2]
     refine oN ?_
     exact az (fun _=>(none,0,0,N,noR)) E E
    dsimp only[cg,lsz,lss,lna,lca,List.append_nil]
    refine cW E (fun L2=>?_) ?_
    ·dsimp only[aM,lca,lna]
     refine oY E (bn [vI p0.fPlaces,.slice (ξ21 4 0).1 o.length (ξ21 4 0).2.2.1] [(0,1),(1,1)] ust_24 ze_24 (by kernel_rfl)) ?_
     refine oN ?_
     exact az (fun _=>(none,0,0,[],noR)) E (List.append_nil _)
    dsimp only[cg,lsz,lss,lna,lca,List.append_nil]
    refine cW E (fun L2=>?_) ?_
    ·dsimp only[aM,lca,lna]
     refine aF ze_24 E (fun go=>?_)
     refine oN ?_
     exact az (fun _=>(none,go,0,[],noR)) E E
    dsimp only[cg,lsz,lss,lna,lca,List.append_nil]
    refine gx_n E (fun L2=>?_) ?_
    ·dsimp only[aM,lca,lna]
     refine cy E (yS 7 [vI p0.fPlaces,.slice (ξ21 4 0).1 o.length (ξ21 4 0).2.2.1] sz_24 E (nB E) E E E) (oN ?_)
     first|exact ci (fun _=>(none,0,0,[],noR)) E|exact ci (fun _=>(none,0,0,[],noR)) (List.append_nil _)
    dsimp only[cg,lsz,lss,lna,lca,List.append_nil]
    refine my ?_
    refine ex_fact 6 E (fun hF=>?_)
    obtain⟨Q,hS37⟩:=hF
    refine eT (cS (cR ?_))
    try dsimp only[lna,lca,lsz,lss]
    refine oY E (yN 7 [vI p0.fPlaces,.slice (ξ21 4 0).1 o.length (ξ21 4 0).2.2.1] dG E E E) (oY E (yMI E) (oY E (yMI E) (oY E (yMI E) (oY E (yMI E) ?_))))
    obtain⟨M,fD,h⟩:=bOs h
    refine oC [.agg #[vI p0.fPlaces,.slice (ξ21 4 0).1 o.length (ξ21 4 0).2.2.1],vI p1,vI p2,vI p3,vI p4] _ _ _ E go_71 E (fun W2 u=>kZ (TR.mk p0.fPlaces o) p1 p2 p3 p4 M fD W2 (ξ21 4 0).1 o.length (ξ21 4 0).2.2.1 (List.zip (ξ21 8 0).2.2.2.1 o) E ((RdL.row 5 E) W2 u) (NestL.at (PvL.nestL Q (PvL.sub (PvL.of_nest d) hS37) (fun W2 u=>⟨u.below,trivial⟩)) W2 u) W (fun _=>True) (fun W3 hb=>⟨fY u.below hb,trivial⟩) ) ?_
    rintro⟨⟨o0,o1,o2⟩,F48⟩ ⟨R,oa⟩
    replace R:o1=M.1.fLegs.length:=R;subst R
    try dsimp only[lna,lca,lsz,lss]
    refine oY E (aY E) (oY E (yE E E) (oY E (yE E E) ?_))
    refine aF lr E (fun oX=>?_)
    try dsimp only[lna,lca,lsz,lss]
    refine cy E (yS 9 [.slice o0 M.1.fLegs.length o2,vI M.1.fA,vI M.1.fToll] m6 E (nB E) E E E) (oY E (yAB E) (oN (eT (cS (cR (oY E (yMB E) (oY E (bD E) (oY E (yMB E) ?_))))))))
    refine oJ 6 (fun l=>(upd (upd (upd (upd (upd (upd (upd (upd (upd (upd (upd (upd (upd (upd (upd (upd (upd (upd (upd l 1 (vI p1)) 2 (vI p2)) 3 (vI p3)) 4 (vI p4)) 5 (.pointer (some ⟨b1,0,none⟩))) 10 (.slice none 0 0)) 11 (vI 0)) 12 (.pointer (some ⟨n,0,none⟩))) 14 (.slice I f.2.length K)) 33 (.slice Ab p0.fTracks.length cb)) 34 (vI (p0.fTracks.length:Int))) 35 (vI f.1)) 36 (.bool (decide (f.1<(p0.fTracks.length:Int))))) 16 (.pointer (some ⟨g2,0,none⟩))) 15 (vI f.1)) 17 (.pointer (some ⟨(ξ21 10 0).2.1,0,none⟩))) 18 (.pointer (some ⟨oX,0,none⟩))) 19 (.bool M.2)) 67 (.bool ((!M.2)||(M.1.fA !=U.1.fA))))) (fun l=>?_) (fun key=>?_)
    ·refine oN (eT ?_)
     rcases iOs h with⟨q,h⟩|⟨q,h⟩
     ·refine cT (vB q) (cR (oY E (yMS E) (oY E (yFA iU E) (oY E (yL 4 aK E E E) ?_))))
      refine aP 1 (encL cI [(rdL p0.fTracks f.1).fID]) _ o4 cQ nD qa (by decide) (by decide) (by kernel_rfl) (eL aB E) E (fun oj=>?_)
      try dsimp only[lna,lca,lsz,lss]
      obtain⟨fE,h⟩:=gOs h
      refine cx 3 cQ nD qa E E E (RdL.row 10 E) (eL aB E) (ef qs _) (eR fE (by decide)) E (fun oq op=>?_)
      refine oY E (yAS E) (oN (aw (eT (cR (oY E (aL E E) (oY E (yMI E) (oN (aQ 4 ?_))))))))
      obtain rfl:=sI h
      exact eN ⟨_,oq,op,(f.2.length+1),(jM E E),E,(kp4 (kp4 (kp4 E)))⟩
     ·refine cF (vB q) (cK (aw (eT (cR (oY E (aL E E) (oY E (yMI E) (oN (aQ 4 ?_))))))))
      obtain rfl:=sI h
      exact eN ⟨_,I,K,f.2.length,E,E,(kp4 (kp4 (kp4 E)))⟩
    ·rcases ar (!M.2)with r|r
     ·refine oSk (sF E E E E r) (oSk (sF E E E E r) (oSk (sF E E E E r) (oSk (sF E E E E r) (oSk (sF E E E E r) (oY E (ad (vB r) E) ?_)))))
      exact key _ _ (keep (keep (keep (keep (keep (keep (keep (keep (keep (keep (keep (keep (keep (keep (keep (keep (keep (keep (keep E E) E) E) E) E) E) E) E) E) E) E) E) E) E) E) E) E) E) (vB (iQ r)))
     ·refine oY (sT E E E E r) (yFA gN E) (oY (sT E E E E r) (yL 9 aK E E E) (oY (sT E E E E r) (yFA gN E) (oY (sT E E E E r) (yL 2 aK E E E) (oY (sT E E E E r) (cJ E E) (oY E (ag (vB r) E) ?_)))))
      exact key _ _ (keep (keep (keep (keep (keep (keep (keep (keep (keep (keep (keep (keep (keep (keep (keep (keep (keep (keep (keep E E) E) E) E) E) E) E) E) E) E) E) E) E) E) E) E) E) E) (vB (iR r)))
   ·refine cF (vB V) (aD (ai ?_))
    obtain rfl:=sI h
    exact av ⟨E,_,I,K,f.2.length,E,E,(kp4 (kp4 (kp4 E)))⟩
  ·intro e L tm hJ
   obtain⟨rfl,fG,w,D,fn,rfl,rfl,rfl⟩:=hJ
   refine⟨(by intro hc;cases hc),?_⟩
   refine ac (eT (cS (cR (oY E (yMS E) ?_))))
   obtain⟨c,fH,h⟩:=bOs h
   refine f9 3 [.slice w H.2.length D] (fun(_:Unit)=>H.2.length=c.length) (fun _=>.tuple #[]) (fun _=>aR w D 3 1 H.2.length (encL cI c)) (fun _=>[]) E E go_81 E (fun W2 u=>(eO H.2 c fH W2 _ (bH [ak b1 24 [vI p0.fPlaces,.slice Ab p0.fTracks.length cb],F10,ak n 29 [.slice A6 U.1.fLegs.length c7,vI U.1.fA,vI U.1.fToll],aR w D 3 1 H.2.length (encL cI H.2)] [3]) w H.2.length D E u).mono (fun e W3 h3=>⟨(),h3.2.1,h3.1,h3.2.2⟩)) ?_
   rintro-fT
   try dsimp only[lsz,lss,List.append_nil]
   refine oN (eT (cS (cR (oY E (yMS E) (oY E (yAS E) (oY E (yAI E) (oN (eT (ap ?_)))))))))
   obtain rfl:=sI h
   exact bT (.inl E) E (rVt (v:=.slice w H.2.length D) E) (rVt (v:=vI 0) E) (fun W2 u=>⟨(w,H.2.length,D),fT,E,(u.pick 3 E)⟩)
theorem dO (p0:(List Int)) (p1:(List Int)) (res:Bool) (h:dC p0 p1=some res) (W:World) (Aa:Option Addr) (f ca:Nat) (D:f=p0.length) (g:Rd W Aa f ca (encL cI p0)) (Ac:Option Addr) (o cc:Nat) (F:o=p1.length) (r:Rd W Ac o cc (encL cI p1)) :
  Calls Tryz.prog 25 [.slice Aa f ca,.slice Ac o cc].toArray W fun e W2=>e=.returned (.bool res)∧Ext W W2 []:=by
 subst D
 subst F
 unfold dC at h
 refine aj (m:=26) Tryz.func25 E E (nB E) (cS (cR (oY E (yAB E) (oN (eT (cS (cS (cR (oY E (yMS E) (oY E (bi (us:=[]) cQ E) (oY E (yMS E) (oY E (bi (us:=[]) cQ E) (oY E (cJ E E) (oN (eT ?_)))))))))))))))
 rcases iOs h with⟨G,h⟩|⟨G,h⟩
 ·refine cT (vB G) (cS (cR (oY E (yAB E) (oN (eT (ap (ab ?_)))))))
  obtain rfl:=sI h
  exact am (.inl E) E (rVt (v:=.bool false) E) (fun W2 u=>⟨E,u.none⟩)
 ·refine cF (vB G) (cK (eT (cS (cS (cR (oY E (yAI E) (oN (eT (cB ?_)))))))))
  obtain⟨Y,Q,h⟩:=bOs h
  refine a8 (fun(s:(Bool × Int)) L tm=>∃(U:Nat→Value),L=[]∧tm=(upd (upd (upd (upd U 0 (.slice Aa p0.length ca)) 1 (.slice Ac p1.length cc)) 4 (.bool s.1)) 5 (vI s.2))) 0 Q ⟨_,E,(kp4 E)⟩ ?_ ?_
  ·rintro N L tm st ⟨O,rfl,rfl⟩ h
   unfold j8 at h
   refine cS (cS (cR (oY E (yMI E) (oY E (yMS E) (oY E (bi (us:=[]) cQ E) (oY E (be E E) (oN (eT ?_))))))))
   rcases iOs h with⟨H,h⟩|⟨H,h⟩
   ·refine cT (vB H) (cK (eT (cS (cB (cS ?_)))))
    refine aS 9 bW (by kernel_rfl) (by kernel_rfl) ?_
    refine qY E (yMS E) (qY E (yMI E) ?_)
    obtain⟨d,h⟩:=gOs h
    refine qY E (yI bS (by decide) d.1 d.2 (RdL.arg g) (eL aB E) E E) ?_
    refine qY E (yR (A:=Aa) (j:=(Int.toNat N.2*1)) (v:=vI (rdL p0 N.2)) aK (RdL.arg g) E (ay aB d.1 (ah d.2 E) E)) (qY E (yMS E) (qY E (yMI E) ?_))
    obtain⟨w,h⟩:=gOs h
    refine qY E (yI bS (by decide) w.1 w.2 (RdL.arg r) (eL aB E) E E) ?_
    refine qY E (yR (A:=Ac) (j:=(Int.toNat N.2*1)) (v:=vI (rdL p1 N.2)) aK (RdL.arg r) E (ay aB w.1 (ah w.2 E) E)) (qY E (cJ E E) (bF (oN (eT ?_))))
    rcases iOs h with⟨I,h⟩|⟨I,h⟩
    ·refine cT (vB I) (cS (cR (oY E (yAB E) (oN (eT (ap (ae (ab ?_))))))))
     obtain rfl:=sI h
     exact av ⟨E,_,E,(kp4 E)⟩
    ·refine cF (vB I) (cK (aw (eT (cR (oY E (yMI E) (oY E (aL E E) (oY E (yAI E) (oN ?_))))))))
     obtain rfl:=sI h
     exact eN ⟨_,E,(kp4 E)⟩
   ·refine cF (vB H) (aD (ai ?_))
    obtain rfl:=sI h
    exact av ⟨E,_,E,(kp4 E)⟩
  ·intro e L tm hJ
   rcases Y with X|Z
   ·dsimp only at h hJ
    obtain⟨rfl,K,rfl,rfl⟩:=hJ
    refine⟨(by intro hc;cases hc),?_⟩
    refine ae (ab ?_)
    obtain rfl:=sI h
    exact am (.inl E) E (rVt (v:=.bool X.1) E) (fun W2 u=>⟨E,u.none⟩)
   ·dsimp only at h hJ
    obtain⟨rfl,M,rfl,rfl⟩:=hJ
    refine⟨(by intro hc;cases hc),?_⟩
    refine ac (eT (cS (cR (oY E (yAB E) (oN (eT (ap ?_)))))))
    obtain rfl:=sI h
    exact am (.inl E) E (rVt (v:=.bool true) E) (fun W2 u=>⟨E,u.none⟩)
theorem gZ (p0:(List TO)) (p1:TO→Option Bool) (res:Int) (h:cG p0 p1=some res) (W:World) (Aa:Option Addr) (g ca:Nat) (d:g=p0.length) (o:Rd W Aa g ca (encL aE p0)) (fid1:Nat) (fst1 caps1:List Value) (F:bA Tryz.prog fid1=true) (G:∀W2,Below W.heap.size W W2→∀x,∀y,p1 x=some y→Calls Tryz.prog fid1 (fst1++(([.agg #[vI x.fID,vI x.fH.fLo,vI x.fH.fHi,vI x.fD,vI x.fW]]:List Value)++caps1)).toArray W2 fun e W3=>e=.returned (.bool y)∧Ext W2 W3 []) :
  Calls Tryz.prog 173 [.slice Aa g ca,.func (.func fid1) fst1.toArray caps1.toArray].toArray W fun e W2=>e=.returned (vI res)∧Ext W W2 []:=by
 subst d
 unfold cG at h
 refine aj (m:=19) Tryz.func173 E E (nB E) (cS (cR (oY E (yAI E) (oN (eT (cS (cS (cR (oY E (yMS E) (oY E (bi (us:=[]) mi E) (oY E (yMI E) (oN (eT (cB ?_))))))))))))))
 obtain⟨U,M,h⟩:=bOs h
 refine a8 (fun(s:(Int × Int)) L tm=>∃(N:Nat→Value),L=[]∧tm=(upd (upd (upd (upd (upd N 0 (.slice Aa p0.length ca)) 1 (.func (.func fid1) fst1.toArray caps1.toArray)) 4 (vI s.1)) 7 (vI (p0.length:Int))) 8 (vI s.2))) 0 M ⟨_,E,(kp4 (kp E))⟩ ?_ ?_
 ·rintro f L tm st ⟨K,rfl,rfl⟩ h
  unfold d7 at h
  refine cS (cR (oY E (be E E) (oN (eT (cS ?_)))))
  rcases iOs h with⟨w,h⟩|⟨w,h⟩
  ·refine cT (vB w) (cK (eT (cS (cB (cS (cR (oY E (yMI E) (oY E (yAI E) (oN (eT (cS (cR (oY E (bK (v:=.func (.func fid1) fst1.toArray caps1.toArray) E) (oY E (yMS E) (oY E (yMI E) ?_)))))))))))))))
   obtain⟨u,h⟩:=gOs h
   refine oY E (yI lC (by decide) u.1 u.2 (RdL.arg o) (eL ax E) E E) ?_
   refine oY E (yM (A:=Aa) (j:=(Int.toNat f.2*5)) [vI ((rdL p0 f.2).fID),vI ((rdL p0 f.2).fH.fLo),vI ((rdL p0 f.2).fH.fHi),vI ((rdL p0 f.2).fD),vI ((rdL p0 f.2).fW)] rC (Nat.succ_pos _) (RdL.arg o) E (bc ax u.1 (ah u.2 E))) ?_
   obtain⟨X,O,h⟩:=bOs h
   refine oY E (gx [.agg #[vI ((rdL p0 f.2).fID),vI ((rdL p0 f.2).fH.fLo),vI ((rdL p0 f.2).fH.fHi),vI ((rdL p0 f.2).fD),vI ((rdL p0 f.2).fW)]] F E E (fun W2 r=>G W2 r.below (TO.mk ((rdL p0 f.2).fID) (TSpan.mk ((rdL p0 f.2).fH.fLo) ((rdL p0 f.2).fH.fHi)) ((rdL p0 f.2).fD) ((rdL p0 f.2).fW)) X O)) (oN (eT ?_))
   rcases iOs h with⟨D,h⟩|⟨D,h⟩
   ·refine cT (vB D) (cS (cR (oY E (yMI E) (oY E (yAI E) (oN (eT (ap (ae (ab ?_)))))))))
    obtain rfl:=sI h
    exact av ⟨E,_,E,(kp4 (kp E))⟩
   ·refine cF (vB D) (cK (aw (eT (cR (oY E (aL E E) (oY E (yMI E) (oN ?_)))))))
    obtain rfl:=sI h
    exact eN ⟨_,E,(kp4 (kp E))⟩
  ·refine cF (vB w) (aD (ai ?_))
   obtain rfl:=sI h
   exact av ⟨E,_,E,(kp4 (kp E))⟩
 ·intro e L tm hJ
  rcases U with Q|Y
  ·dsimp only at h hJ
   obtain⟨rfl,H,rfl,rfl⟩:=hJ
   refine⟨(by intro hc;cases hc),?_⟩
   refine ae (ab ?_)
   obtain rfl:=sI h
   exact am (.inl E) E (rVt (v:=vI Q.1) E) (fun W2 r=>⟨E,r.none⟩)
  ·dsimp only at h hJ
   obtain⟨rfl,I,rfl,rfl⟩:=hJ
   refine⟨(by intro hc;cases hc),?_⟩
   refine ac (eT (cS (cR (oY E (yAI E) (oN (eT (ap ?_)))))))
   obtain rfl:=sI h
   exact am (.inl E) E (rVt (v:=vI (-1)) E) (fun W2 r=>⟨E,r.none⟩)
theorem i7 (p0:(List TO)) (p1:TO→Option Bool) (res:Int) (h:dB p0 p1=some res) (W:World) (Aa:Option Addr) (f ca:Nat) (o:f=p0.length) (r:Rd W Aa f ca (encL aE p0)) (fid1:Nat) (fst1 caps1:List Value) (u:bA Tryz.prog fid1=true) (d:∀W2,Below W.heap.size W W2→∀x,∀y,p1 x=some y→Calls Tryz.prog fid1 (fst1++(([.agg #[vI x.fID,vI x.fH.fLo,vI x.fH.fHi,vI x.fD,vI x.fW]]:List Value)++caps1)).toArray W2 fun e W3=>e=.returned (.bool y)∧Ext W2 W3 []) :
  Calls Tryz.prog 134 [.slice Aa f ca,.func (.func fid1) fst1.toArray caps1.toArray].toArray W fun e W2=>e=.returned (vI res)∧Ext W W2 []:=by
 subst o
 unfold dB at h
 refine aj (m:=8) Tryz.func134 E E (nB E) (cS (cR (oY E (yAI E) (oN (eT (cS (cR (oY E (yMS E) (oY E (bK (v:=.func (.func fid1) fst1.toArray caps1.toArray) E) ?_)))))))))
 obtain⟨D,w,h⟩:=bOs h
 refine oY E (yC [.slice Aa p0.length ca,.func (.func fid1) fst1.toArray caps1.toArray] go_173 E (fun W2 g=>gZ p0 p1 D w W2 Aa p0.length ca E ((RdL.arg r) W2 g) fid1 fst1 caps1 u (fun W3 hb=>d W3 (fY g.below hb))) E) (oY E (yAI E) (oN (eT (ap ?_))))
 obtain rfl:=sI h
 exact am (.inl E) E (rVt (v:=vI D) E) (fun W2 g=>⟨E,g.none⟩)
theorem o7 (p0:TO) (f:Int) (res:Bool) (h:jK p0 f=some res) (W:World) (g:Nat) (o:Rd W (some ⟨g,0,none⟩) 1 1 (cI f)) :
  Calls Tryz.prog 135 [.agg #[vI p0.fID,vI p0.fH.fLo,vI p0.fH.fHi,vI p0.fD,vI p0.fW],.pointer (some ⟨g,0,none⟩)].toArray W fun e W2=>e=.returned (.bool res)∧Ext W W2 []:=by
 unfold jK at h
 refine aj (m:=8) Tryz.func135 E E (nB E) (cS (cR ?_))
 refine aN [vI p0.fID,vI p0.fH.fLo,vI p0.fH.fHi,vI p0.fD,vI p0.fW] E E E (fun u=>?_)
 refine oY E (yAB E) (oN (eT (cS (cR (oY E (yFA k7 E) (oY E (yL 0 aK E E E) (oY E (yR (A:=(some ⟨g,0,none⟩)) (j:=0) (v:=vI f) aK (RdL.arg o) E E) (oY E (cZ E E) (oY E (yAB E) (oN (eT (ap ?_))))))))))))
 obtain rfl:=sI h
 exact am (.inl E) E (rVt (v:=.bool (p0.fID==f)) E) (fun W2 r=>⟨E,r.none⟩)
theorem kE (p0:TY) (p1:Int) (res:Int) (h:j5 p0 p1=some res) (W:World) (Aa:Option Addr) (f ca:Nat) (r:f=p0.fB.length) (D:Rd W Aa f ca (encL aH p0.fB)) (Ab:Option Addr) (g cb:Nat) (u:g=p0.fR.length) (d:Rd W Ab g cb (encL aE p0.fR)) :
  Calls Tryz.prog 90 [.agg #[.slice Aa f ca,.slice Ab g cb],vI p1].toArray W fun e W2=>e=.returned (vI res)∧Ext W W2 []:=by
 subst r
 subst u
 unfold j5 at h
 refine aj (m:=9) Tryz.func90 E E (nB E) (cS (cR ?_))
 refine aN [.slice Aa p0.fB.length ca,.slice Ab p0.fR.length cb] E E E (fun I=>?_)
 refine aN [vI p1] E E E (fun w=>?_)
 refine oY E (yAI E) (oN (eT (cS (cR (oY E (yFA cw E) (oY E (yL 0 iG E E E) (oY E (bZ [.pointer (some ⟨w,0,none⟩)] E E) ?_)))))))
 obtain⟨G,F,h⟩:=bOs h
 refine oY E (yC [.slice Ab p0.fR.length cb,.func (.func 135) #[] #[.pointer (some ⟨w,0,none⟩)]] go_134 E (fun W2 o=>i7 p0.fR (fun H=>jK H p1) G F W2 Ab p0.fR.length cb E ((RdL.arg d) W2 o) 135 [] [.pointer (some ⟨w,0,none⟩)] go_135 (fun W3 hb x y hxy=>o7  x p1 y hxy W3 w (((RdL.cells 1 E) W2 o).later hb))) E) (oY E (yAI E) (oN (eT (ap ?_))))
 obtain rfl:=sI h
 exact am (.inl E) E (rVt (v:=vI G) E) (fun W2 o=>⟨E,o.none⟩)
theorem jp (p0:(List TBay)) (p1:TBay→Option Bool) (res:Int) (h:d6 p0 p1=some res) (W:World) (Aa:Option Addr) (f ca:Nat) (d:f=p0.length) (g:Rd W Aa f ca (encL aH p0)) (fid1:Nat) (fst1 caps1:List Value) (F:bA Tryz.prog fid1=true) (G:∀W2,Below W.heap.size W W2→∀x,∀y,p1 x=some y→Calls Tryz.prog fid1 (fst1++(([.agg #[vI x.fID,vI x.fHour,vI x.fD]]:List Value)++caps1)).toArray W2 fun e W3=>e=.returned (.bool y)∧Ext W2 W3 []) :
  Calls Tryz.prog 174 [.slice Aa f ca,.func (.func fid1) fst1.toArray caps1.toArray].toArray W fun e W2=>e=.returned (vI res)∧Ext W W2 []:=by
 subst d
 unfold d6 at h
 refine aj (m:=19) Tryz.func174 E E (nB E) (cS (cR (oY E (yAI E) (oN (eT (cS (cS (cR (oY E (yMS E) (oY E (bi (us:=[]) kS E) (oY E (yMI E) (oN (eT (cB ?_))))))))))))))
 obtain⟨U,M,h⟩:=bOs h
 refine a8 (fun(s:(Int × Int)) L tm=>∃(N:Nat→Value),L=[]∧tm=(upd (upd (upd (upd (upd N 0 (.slice Aa p0.length ca)) 1 (.func (.func fid1) fst1.toArray caps1.toArray)) 4 (vI s.1)) 7 (vI (p0.length:Int))) 8 (vI s.2))) 0 M ⟨_,E,(kp4 (kp E))⟩ ?_ ?_
 ·rintro r L tm st ⟨K,rfl,rfl⟩ h
  unfold fc at h
  refine cS (cR (oY E (be E E) (oN (eT (cS ?_)))))
  rcases iOs h with⟨w,h⟩|⟨w,h⟩
  ·refine cT (vB w) (cK (eT (cS (cB (cS (cR (oY E (yMI E) (oY E (yAI E) (oN (eT (cS (cR (oY E (bK (v:=.func (.func fid1) fst1.toArray caps1.toArray) E) (oY E (yMS E) (oY E (yMI E) ?_)))))))))))))))
   obtain⟨u,h⟩:=gOs h
   refine oY E (yI ni (by decide) u.1 u.2 (RdL.arg g) (eL aO E) E E) ?_
   refine oY E (yM (A:=Aa) (j:=(Int.toNat r.2*3)) [vI ((rdL p0 r.2).fID),vI ((rdL p0 r.2).fHour),vI ((rdL p0 r.2).fD)] ag_69 (Nat.succ_pos _) (RdL.arg g) E (bc aO u.1 (ah u.2 E))) ?_
   obtain⟨X,O,h⟩:=bOs h
   refine oY E (gx [.agg #[vI ((rdL p0 r.2).fID),vI ((rdL p0 r.2).fHour),vI ((rdL p0 r.2).fD)]] F E E (fun W2 o=>G W2 o.below (TBay.mk ((rdL p0 r.2).fID) ((rdL p0 r.2).fHour) ((rdL p0 r.2).fD)) X O)) (oN (eT ?_))
   rcases iOs h with⟨D,h⟩|⟨D,h⟩
   ·refine cT (vB D) (cS (cR (oY E (yMI E) (oY E (yAI E) (oN (eT (ap (ae (ab ?_)))))))))
    obtain rfl:=sI h
    exact av ⟨E,_,E,(kp4 (kp E))⟩
   ·refine cF (vB D) (cK (aw (eT (cR (oY E (aL E E) (oY E (yMI E) (oN ?_)))))))
    obtain rfl:=sI h
    exact eN ⟨_,E,(kp4 (kp E))⟩
  ·refine cF (vB w) (aD (ai ?_))
   obtain rfl:=sI h
   exact av ⟨E,_,E,(kp4 (kp E))⟩
 ·intro e L tm hJ
  rcases U with Q|Y
  ·dsimp only at h hJ
   obtain⟨rfl,H,rfl,rfl⟩:=hJ
   refine⟨(by intro hc;cases hc),?_⟩
   refine ae (ab ?_)
   obtain rfl:=sI h
   exact am (.inl E) E (rVt (v:=vI Q.1) E) (fun W2 o=>⟨E,o.none⟩)
  ·dsimp only at h hJ
   obtain⟨rfl,I,rfl,rfl⟩:=hJ
   refine⟨(by intro hc;cases hc),?_⟩
   refine ac (eT (cS (cR (oY E (yAI E) (oN (eT (ap ?_)))))))
   obtain rfl:=sI h
   exact am (.inl E) E (rVt (v:=vI (-1)) E) (fun W2 o=>⟨E,o.none⟩)
theorem jF (p0:(List TBay)) (p1:TBay→Option Bool) (res:Int) (h:em p0 p1=some res) (W:World) (Aa:Option Addr) (f ca:Nat) (o:f=p0.length) (r:Rd W Aa f ca (encL aH p0)) (fid1:Nat) (fst1 caps1:List Value) (u:bA Tryz.prog fid1=true) (d:∀W2,Below W.heap.size W W2→∀x,∀y,p1 x=some y→Calls Tryz.prog fid1 (fst1++(([.agg #[vI x.fID,vI x.fHour,vI x.fD]]:List Value)++caps1)).toArray W2 fun e W3=>e=.returned (.bool y)∧Ext W2 W3 []) :
  Calls Tryz.prog 139 [.slice Aa f ca,.func (.func fid1) fst1.toArray caps1.toArray].toArray W fun e W2=>e=.returned (vI res)∧Ext W W2 []:=by
 subst o
 unfold em at h
 refine aj (m:=8) Tryz.func139 E E (nB E) (cS (cR (oY E (yAI E) (oN (eT (cS (cR (oY E (yMS E) (oY E (bK (v:=.func (.func fid1) fst1.toArray caps1.toArray) E) ?_)))))))))
 obtain⟨D,w,h⟩:=bOs h
 refine oY E (yC [.slice Aa p0.length ca,.func (.func fid1) fst1.toArray caps1.toArray] go_174 E (fun W2 g=>jp p0 p1 D w W2 Aa p0.length ca E ((RdL.arg r) W2 g) fid1 fst1 caps1 u (fun W3 hb=>d W3 (fY g.below hb))) E) (oY E (yAI E) (oN (eT (ap ?_))))
 obtain rfl:=sI h
 exact am (.inl E) E (rVt (v:=vI D) E) (fun W2 g=>⟨E,g.none⟩)
theorem qu (p0:TBay) (f:Int) (res:Bool) (h:lP p0 f=some res) (W:World) (g:Nat) (o:Rd W (some ⟨g,0,none⟩) 1 1 (cI f)) :
  Calls Tryz.prog 140 [.agg #[vI p0.fID,vI p0.fHour,vI p0.fD],.pointer (some ⟨g,0,none⟩)].toArray W fun e W2=>e=.returned (.bool res)∧Ext W W2 []:=by
 unfold lP at h
 refine aj (m:=8) Tryz.func140 E E (nB E) (cS (cR ?_))
 refine aN [vI p0.fID,vI p0.fHour,vI p0.fD] E E E (fun u=>?_)
 refine oY E (yAB E) (oN (eT (cS (cR (oY E (yFA ld E) (oY E (yL 0 aK E E E) (oY E (yR (A:=(some ⟨g,0,none⟩)) (j:=0) (v:=vI f) aK (RdL.arg o) E E) (oY E (cZ E E) (oY E (yAB E) (oN (eT (ap ?_))))))))))))
 obtain rfl:=sI h
 exact am (.inl E) E (rVt (v:=.bool (p0.fID==f)) E) (fun W2 r=>⟨E,r.none⟩)
theorem pH (p0:TY) (p1:Int) (res:Int) (h:og p0 p1=some res) (W:World) (Aa:Option Addr) (f ca:Nat) (r:f=p0.fB.length) (u:Rd W Aa f ca (encL aH p0.fB)) (Ab:Option Addr) (g cb:Nat) (d:g=p0.fR.length) (D:Rd W Ab g cb (encL aE p0.fR)) :
  Calls Tryz.prog 96 [.agg #[.slice Aa f ca,.slice Ab g cb],vI p1].toArray W fun e W2=>e=.returned (vI res)∧Ext W W2 []:=by
 subst r
 subst d
 unfold og at h
 refine aj (m:=9) Tryz.func96 E E (nB E) (cS (cR ?_))
 refine aN [.slice Aa p0.fB.length ca,.slice Ab p0.fR.length cb] E E E (fun I=>?_)
 refine aN [vI p1] E E E (fun w=>?_)
 refine oY E (yAI E) (oN (eT (cS (cR (oY E (yFA fm E) (oY E (yL 0 ly E E E) (oY E (bZ [.pointer (some ⟨w,0,none⟩)] E E) ?_)))))))
 obtain⟨G,F,h⟩:=bOs h
 refine oY E (yC [.slice Aa p0.fB.length ca,.func (.func 140) #[] #[.pointer (some ⟨w,0,none⟩)]] go_139 E (fun W2 o=>jF p0.fB (fun H=>lP H p1) G F W2 Aa p0.fB.length ca E ((RdL.arg u) W2 o) 140 [] [.pointer (some ⟨w,0,none⟩)] go_140 (fun W3 hb x y hxy=>qu  x p1 y hxy W3 w (((RdL.cells 1 E) W2 o).later hb))) E) (oY E (yAI E) (oN (eT (ap ?_))))
 obtain rfl:=sI h
 exact am (.inl E) E (rVt (v:=vI G) E) (fun W2 o=>⟨E,o.none⟩)
end Go.Proofs.YthndghnkebboaaaGreat
