import Derived.Test.YthndghnkebboaaaGreatF
import Derived.Test.YthndghnkebboaaaGreatGF
import Derived.Test.YthndghnkebboaaaGreatGy
import Derived.Test.YthndghnkebboaaaGreatGz
import Derived.Test.YthndghnkebboaaaGreatC0
set_option maxHeartbeats 4000000
set_option maxRecDepth 100000
set_option linter.unusedVariables false
namespace Go.Proofs.YthndghnkebboaaaGreat
open Go.RowKit (Below)
attribute [local irreducible] OX QX CX EX OpY Calls CallsIn
theorem lc (p0:TR) (p1:Int) (p2:Int) (res:(List (Ts × Tl))) (h:fM p0 p1 p2=some res) (W:World) (Ab:Option Addr) (j cb:Nat) (X:List (Hd × TT)) (fl:j=p0.fTracks.length) (b:Rd W Ab j cb (encL TTrack_cells2 X)) (Y:NestW W (fun z:TT=>z.fK) TSpan_cells X p0.fTracks) :
  Calls Tryz.prog 110 [.agg #[vI p0.fPlaces,.slice Ab j cb],vI p1,vI p2].toArray W fun e W2=>∃x:Nat,e=.returned (.map (some x))∧Ext W W2 [mapV Tryz.prog 191 cj a5 bW (Tl.mk 0 (Ts.mk 0 0) (TLeg.mk 0 0) false) x res]:=by
 subst fl
 unfold fM at h
 refine q7 (m:=122) Tryz.func110 E E (nB E) (cS (cR ?_))
 refine aI [vI p0.fPlaces,.slice Ab p0.fTracks.length cb] E E E (fun n=>?_)
 refine oY E (ex E) (oN (eT (cS (cR ?_))))
 refine jQ 191 cj a5 bW (Tl.mk 0 (Ts.mk 0 0) (TLeg.mk 0 0) false) E (fun S=>?_)
 refine oY E (yMI E) ?_
 refine oY E (bc [vI p1,vI 0] [(0,1),(1,1)] oV pz (by kernel_rfl)) ?_
 refine oY E (yMI E) ?_
 refine oY E (bc [vI p2,vI 0,vI 0,vI 0,vI 0,.bool true] [(0,1),(1,2),(3,2),(5,1)] ust_193 j5 (by kernel_rfl)) ?_
 obtain⟨u2,h⟩:=gOs h
 refine co E (y_insertV 1 (k:=(Ts.mk p1 0)) (v:=(Tl.mk p2 (Ts.mk 0 0) (TLeg.mk 0 0) true)) E m9 m6 E E E u2) (oY E (cw E) ?_)
 refine aF ze_157 E (fun l=>?_)
 refine co E (dq 2 (v:=.map (some S)) sz_157 E (Nat.lt_of_lt_of_le (Nat.lt_succ_self _) (nB E)) E E E) (oN (eT (cS (cR (oY E (yMI E) (oY E (yMI E) ?_))))))
 refine oY E (bc [vI p1,vI 0] [(0,1),(1,1)] oV pz (by kernel_rfl)) ?_
 refine oY E (bc [vI p2,vI p1,vI 0] [(0,1),(1,2)] ust_196 oA (by kernel_rfl)) ?_
 refine aR 1 (encL ay [(Twait.mk p2 (Ts.mk p1 0))]) _ sc pt oA by_196 (by decide) (by decide) (by kernel_rfl) (eL aS E) E (fun b5=>?_)
 refine aI [.slice (some ⟨b5,0,none⟩) 1 1] E E E (fun Z=>?_)
 refine aF ze_194 E (fun a=>?_)
 try dsimp only[lna,lca,lsz,lss]
 refine co E (dq 5 (v:=.pointer (some ⟨Z,0,none⟩)) sz_194 E (Nat.lt_of_lt_of_le (Nat.lt_succ_self _) (nB E)) E E E) (oN (eT (cS (cB ?_))))
 obtain⟨uf,g2,h⟩:=bOs h
 refine cx_addDfs ?_
 refine cx_loopD (fun(s:((List Twait) × (List (Ts × Tl)))) L tm d=>∃(U:Nat→Value) (O:Option Addr) (Q:Nat) (G:Nat) (Ds_s:List Nat),Ds_s.Nodup∧G=s.1.length∧L=[al n 24 [vI p0.fPlaces,.slice Ab p0.fTracks.length cb],mapV Tryz.prog 191 cj a5 bW (Tl.mk 0 (Ts.mk 0 0) (TLeg.mk 0 0) false) S s.2,al l 157 [.map (some S)],aP O Q 196 3 G (encL ay s.1),al Z 198 [.slice O G Q],al a 194 [.pointer (some ⟨Z,0,none⟩)],mA Ds_s]∧tm=(upd (upd (upd (upd U 3 (.pointer (some ⟨n,0,none⟩))) 6 (.map none)) 7 (.pointer (some ⟨l,0,none⟩))) 8 (.pointer (some ⟨a,0,none⟩)))∧d=colD Ds_s) (fun s e L tm d=>e=.exit 0∧∃(U:Nat→Value) (O:Option Addr) (Q:Nat) (G:Nat) (Ds_s:List Nat),Ds_s.Nodup∧G=s.1.length∧L=[al n 24 [vI p0.fPlaces,.slice Ab p0.fTracks.length cb],mapV Tryz.prog 191 cj a5 bW (Tl.mk 0 (Ts.mk 0 0) (TLeg.mk 0 0) false) S s.2,al l 157 [.map (some S)],aP O Q 196 3 G (encL ay s.1),al Z 198 [.slice O G Q],al a 194 [.pointer (some ⟨Z,0,none⟩)],mA Ds_s]∧tm=(upd (upd (upd (upd U 3 (.pointer (some ⟨n,0,none⟩))) 6 (.map none)) 7 (.pointer (some ⟨l,0,none⟩))) 8 (.pointer (some ⟨a,0,none⟩)))∧d=colD Ds_s) g2 ⟨_,(some ⟨b5,0,none⟩),1,1,[],List.nodup_nil,E,E,(kp4 E),E⟩ ?_ ?_
 ·rintro H L tm d st ⟨gf,M,N,r4,Ds_s10,hd_s10,rfl,rfl,rfl,rfl⟩ h
  unfold dV at h
  refine cS (cS (cR ?_))
  try dsimp only[lna,lca,lsz,lss]
  refine oY E (yL 5 sc_194 E E E) (oY E (jt E) (oY E (yL 4 jr E E E) ?_))
  obtain⟨fG,go,h⟩:=bOs h
  refine oY E (yC [.slice M H.1.length N] go_147 E (fun W2 I=>gy H.1 fG go W2 M H.1.length N E ((RdL.row 3 E) W2 I)) E) (oY E (eW E E) (oN (eT ?_)))
  rcases iOs h with⟨c,h⟩|⟨c,h⟩
  ·refine cT (vB c) (cK (eT (cB (cS (cR (oY E (yL 5 sc_194 E E E) (oY E (jT nif_194 E) ?_)))))))
   obtain⟨g,o0,h⟩:=bOs h
   refine gj [4,3] [] [.iface 194 (.pointer (some ⟨Z,0,none⟩))] [] (fun(x:(Option Addr × Nat × Nat))=>x.2.1=g.2.length) (fun _=>.iface 196 (.agg #[vI g.1.f_at,vI g.1.f_stop.f_place,vI g.1.f_stop.f_toll])) (fun x=>[al Z 198 [.slice x.1 x.2.1 x.2.2],aP x.1 x.2.2 196 3 x.2.1 (encL ay g.2)]) (fun _=>[]) (Foc.c2 E E) (by decide) E go_148 E E (fun _=>E) (fun W2 I=>kN H.1 g o0 W2 _ (bA [al n 24 [vI p0.fPlaces,.slice Ab p0.fTracks.length cb],mapV Tryz.prog 191 cj a5 bW (Tl.mk 0 (Ts.mk 0 0) (TLeg.mk 0 0) false) S H.2,al l 157 [.map (some S)],aP M N 196 3 H.1.length (encL ay H.1),al Z 198 [.slice M H.1.length N],al a 194 [.pointer (some ⟨Z,0,none⟩)],mA Ds_s10] [4,3]) Z M H.1.length N E I) ?_
   rintro⟨o1,u3,o2⟩ f1
   replace f1:u3=g.2.length:=f1;subst f1
   try dsimp only[lz,lsz,lss,List.append_nil]
   refine oY E (m4 qm E) ?_
   refine aF oA E (fun R=>?_)
   try dsimp only[lna,lca,lsz,lss]
   refine co E (yS 7 [vI g.1.f_at,vI g.1.f_stop.f_place,vI g.1.f_stop.f_toll] su E (nB E) E E E) (oN (eT (cS (cS ?_))))
   refine aX 8 bZ (by kernel_rfl) (by kernel_rfl) ?_
   refine qY E (yL 2 sj E E E) (qY E (yFA nD E) (qY E (yN 7 [vI g.1.f_stop.f_place,vI g.1.f_stop.f_toll] mZ E E E) ?_))
   obtain⟨oX,h⟩:=gOs h
   refine qY E (kO (k:=g.1.f_stop) (MpL.own 1 E) m9 m6 j5 E E oX) (qY E (sB [vI ((aA (Tl.mk 0 (Ts.mk 0 0) (TLeg.mk 0 0) false) H.2 g.1.f_stop).f_at),vI ((aA (Tl.mk 0 (Ts.mk 0 0) (TLeg.mk 0 0) false) H.2 g.1.f_stop).f_from.f_place),vI ((aA (Tl.mk 0 (Ts.mk 0 0) (TLeg.mk 0 0) false) H.2 g.1.f_stop).f_from.f_toll),vI ((aA (Tl.mk 0 (Ts.mk 0 0) (TLeg.mk 0 0) false) H.2 g.1.f_stop).f_leg.fTrack),vI ((aA (Tl.mk 0 (Ts.mk 0 0) (TLeg.mk 0 0) false) H.2 g.1.f_stop).f_leg.fHour),.bool ((aA (Tl.mk 0 (Ts.mk 0 0) (TLeg.mk 0 0) false) H.2 g.1.f_stop).f_begin)] (v:=vI ((aA (Tl.mk 0 (Ts.mk 0 0) (TLeg.mk 0 0) false) H.2 g.1.f_stop).f_at)) sG aN E E) (qY E (yFA nF E) (qY E (yL 7 aN E E E) (qY E (a6 E E) (bF (oN (eT ?_)))))))
   rcases iOs h with⟨f2,h⟩|⟨f2,h⟩
   ·refine cT (vB f2) (aD (aj (ae (aT 7 ?_))))
    obtain rfl:=sI h
    exact r6 ⟨_,o1,o2,g.2.length,Ds_s10,hd_s10,E,E,(kp4 E),E⟩
   ·refine cF (vB f2) (cK (eT (cS (cR (oY E (yN 0 [vI p0.fPlaces,.slice Ab p0.fTracks.length cb] dh E E E) (oY E (yFA nD E) (oY E (yFA fo_191_0 E) (oY E (yL 7 aN E E E) ?_))))))))
    obtain⟨u4,oq,h⟩:=bOs h
    refine lT [.agg #[vI p0.fPlaces,.slice Ab p0.fTracks.length cb],vI g.1.f_stop.f_place] _ _ E go_149 E (fun W2 I=>o9 p0 g.1.f_stop.f_place u4 oq W2 Ab p0.fTracks.length cb X E ((RdL.arg b) W2 I) (NestL.at (NestL.arg Y) W2 I)) ?_
    rintro⟨V,T⟩
    try dsimp only[lna,lca,lsz,lss]
    refine oN (eT (cB ?_))
    obtain⟨hok65,h⟩:=gOs h
    obtain⟨ug,op,h⟩:=bOs h
    refine cx_rangeH (enc:=fun y:{y:Hd × TT // y∈X}=>.agg #[vI y.1.2.fID,vI y.1.2.fFrom,vI y.1.2.fTo,vI y.1.2.fLong,vI y.1.2.fToll,.slice y.1.1.1 y.1.1.2.1 y.1.1.2.2]) (bodyf:=fun s y=>ct g s y.1.2) (caps:=[.pointer (some ⟨V,0,none⟩),.pointer (some ⟨T,0,none⟩)]) (fun(s:((List (Ts × Tl)) × (List Twait))) L=>∃(O:Option Addr) (Q:Nat) (G:Nat),G=s.2.length∧L=[al n 24 [vI p0.fPlaces,.slice Ab p0.fTracks.length cb],mapV Tryz.prog 191 cj a5 bW (Tl.mk 0 (Ts.mk 0 0) (TLeg.mk 0 0) false) S s.1,al l 157 [.map (some S)],aP O Q 196 3 G (encL ay s.2),al Z 198 [.slice O G Q],al a 194 [.pointer (some ⟨Z,0,none⟩)],mA Ds_s10,al R 196 [vI g.1.f_at,vI g.1.f_stop.f_place,vI g.1.f_stop.f_toll],al V 24 [vI p0.fPlaces,.slice Ab p0.fTracks.length cb],al T 3 [vI g.1.f_stop.f_place]]) (fun(_:Unit) _ _=>False) (tl (xs:=p0.fTracks) Y.p.eq op) E go_178 (mX (p0,g.1.f_stop.f_place) hok65 V T Ab p0.fTracks.length cb X E Y.p) (fun W2 s L hI I=>by obtain⟨O,Q,G,rfl,rfl⟩:=hI;exact⟨I.mem (i:=8) E,I.mem (i:=9) E,(RdL.arg b) W2 I⟩) ⟨o1,o2,g.2.length,E,E⟩ (fun W2 I s L hI=>by obtain⟨O,Q,G,rfl,rfl⟩:=hI;exact(.cons Cy.cells (.cons (Cy.mapV (Res.inb (mapV Tryz.prog 191 cj a5 bW (Tl.mk 0 (Ts.mk 0 0) (TLeg.mk 0 0) false) S _) W2 (I.mem (i:=1) E) _ E)) (.cons Cy.cells (.cons Cy.row (.cons Cy.cells (.cons Cy.cells (.cons Cy.dfs (.cons Cy.cells (.cons Cy.cells (.cons Cy.cells CyL.nil))))))))))) (fun _ _ _ _ _ h=>h.elim) (fun _ _ _ h=>h.elim) ?_ ?_ ?_
    ·rintro D28 l29 rec30 o ⟨⟨⟨f3,u5,fr⟩,f⟩,hm32⟩ L st hrec31 ⟨u,w,r5,rfl,rfl⟩ h
     have om:u5=f.fK.length:=NestP.ln Y.p _ hm32
     subst om
     replace h:ct g o f=_:=h
     unfold ct at h
     refine cR ?_
     try dsimp only[lna,lca,lsz,lss]
     refine aF g0 E (fun fH=>?_)
     try dsimp only[lna,lca,lsz,lss]
     refine co E (yS 12 [vI f.fID,vI f.fFrom,vI f.fTo,vI f.fLong,vI f.fToll,.slice f3 f.fK.length fr] nh E (nB E) E E E) (oN (ex_begin 11 E hrec31 (cB (cS (cR (oY E (yN 12 [vI f.fID,vI f.fFrom,vI f.fTo,vI f.fLong,vI f.fToll,.slice f3 f.fK.length fr] gl E E E) (oY E (yFA nF E) (oY E (yL 7 aN E E E) ?_))))))))
     obtain⟨D,ot,h⟩:=bOs h
     refine oY E (yC [.agg #[vI f.fID,vI f.fFrom,vI f.fTo,vI f.fLong,vI f.fToll,.slice f3 f.fK.length fr],vI g.1.f_at] si E (fun W2 I=>ia f g.1.f_at D ot W2 f3 f.fK.length fr E ((NestL.inn (NestL.arg Y) _ hm32) W2 I)) E) (oY E (aU E) (oY E (yE E E) (oY E (yE E E) (oY E (yAI E) (oY E (yAB E) (oN (eT (cS (cR (oY E (yFA gg E) (oY E (yL 12 aN E E E) (oY E (yFA nD E) (oY E (yFA pO E) (oY E (yL 7 aN E E E) (oY E (yFA fw E) (oY E (yL 12 aN E E E) (oY E (aM E E) ?_)))))))))))))))))
     refine oY E (bc [vI f.fTo,vI (w64 (g.1.f_stop.f_toll+f.fToll))] [(0,1),(1,1)] oV pz (by kernel_rfl)) ?_
     refine aF pz E (fun fT=>?_)
     try dsimp only[lna,lca,lsz,lss]
     refine co E (yS 13 [vI f.fTo,vI (w64 (g.1.f_stop.f_toll+f.fToll))] sz_191 E (nB E) E E E) (oN (eT (cS (cS (cR (oY E (yMB E) (oY E (bw E) (oY E (yMB E) ?_))))))))
     refine oJ 4 (fun U=>(upd (upd (upd (upd (upd (upd (upd (upd (upd (upd (upd (upd (upd U 3 (.pointer (some ⟨n,0,none⟩))) 6 (.map none)) 7 (.pointer (some ⟨l,0,none⟩))) 8 (.pointer (some ⟨a,0,none⟩))) 32 (.bool (decide (0<fG)))) 9 (.pointer (some ⟨R,0,none⟩))) 44 (.bool (decide ((aA (Tl.mk 0 (Ts.mk 0 0) (TLeg.mk 0 0) false) H.2 g.1.f_stop).f_at<g.1.f_at)))) 49 (.func (.func 178) #[] #[.pointer (some ⟨V,0,none⟩),.pointer (some ⟨T,0,none⟩)])) 10 (.pointer (some ⟨fH,0,none⟩))) 11 (vI D.1)) 12 (.bool D.2)) 13 (.pointer (some ⟨fT,0,none⟩))) 73 (.bool ((!D.2)||(decide (60<w64 (g.1.f_stop.f_toll+f.fToll))))))) (fun U=>?_) (fun key=>?_)
     ·refine oY E (yMB E) ?_
      obtain⟨oa,oi,h⟩:=bOs h
      refine oJ 7 (fun U=>(upd (upd (upd (upd (upd (upd (upd (upd (upd (upd (upd (upd (upd U 3 (.pointer (some ⟨n,0,none⟩))) 6 (.map none)) 7 (.pointer (some ⟨l,0,none⟩))) 8 (.pointer (some ⟨a,0,none⟩))) 32 (.bool (decide (0<fG)))) 9 (.pointer (some ⟨R,0,none⟩))) 44 (.bool (decide ((aA (Tl.mk 0 (Ts.mk 0 0) (TLeg.mk 0 0) false) H.2 g.1.f_stop).f_at<g.1.f_at)))) 49 (.func (.func 178) #[] #[.pointer (some ⟨V,0,none⟩),.pointer (some ⟨T,0,none⟩)])) 10 (.pointer (some ⟨fH,0,none⟩))) 11 (vI D.1)) 12 (.bool D.2)) 13 (.pointer (some ⟨fT,0,none⟩))) 81 (.bool oa))) (fun U=>?_) (fun key=>?_)
      ·refine oN (eT ?_)
       rcases iOs h with⟨fd,h⟩|⟨fd,h⟩
       ·refine cT (vB fd) (aD (aj (ae (aT 12 ?_))))
        obtain rfl:=sI h
        exact qE [al n 24 [vI p0.fPlaces,.slice Ab p0.fTracks.length cb],mapV Tryz.prog 191 cj a5 bW (Tl.mk 0 (Ts.mk 0 0) (TLeg.mk 0 0) false) S o.1,al l 157 [.map (some S)],aP u w 196 3 o.2.length (encL ay o.2),al Z 198 [.slice u o.2.length w],al a 194 [.pointer (some ⟨Z,0,none⟩)],mA Ds_s10,al R 196 [vI g.1.f_at,vI g.1.f_stop.f_place,vI g.1.f_stop.f_toll],al V 24 [vI p0.fPlaces,.slice Ab p0.fTracks.length cb],al T 3 [vI g.1.f_stop.f_place]] ⟨u,w,o.2.length,E,E⟩
       ·refine cF (vB fd) (cK (eT (cS (cS (cR (oY E (yL 2 sj E E E) (oY E (yN 13 [vI f.fTo,vI (w64 (g.1.f_stop.f_toll+f.fToll))] mZ E E E) ?_)))))))
        obtain⟨oj,h⟩:=gOs h
        refine oY E (mD (k:=(Ts.mk f.fTo (w64 (g.1.f_stop.f_toll+f.fToll)))) (MpL.own 1 E) m9 m6 j5 E E oj) (oY E (aU E) (oY E (yE E E) (oY E (yE E E) ?_)))
        refine aF j5 E (fun ok=>?_)
        try dsimp only[lna,lca,lsz,lss]
        refine co E (yS 14 [vI ((aA (Tl.mk 0 (Ts.mk 0 0) (TLeg.mk 0 0) false) o.1 (Ts.mk f.fTo (w64 (g.1.f_stop.f_toll+f.fToll)))).f_at),vI ((aA (Tl.mk 0 (Ts.mk 0 0) (TLeg.mk 0 0) false) o.1 (Ts.mk f.fTo (w64 (g.1.f_stop.f_toll+f.fToll)))).f_from.f_place),vI ((aA (Tl.mk 0 (Ts.mk 0 0) (TLeg.mk 0 0) false) o.1 (Ts.mk f.fTo (w64 (g.1.f_stop.f_toll+f.fToll)))).f_from.f_toll),vI ((aA (Tl.mk 0 (Ts.mk 0 0) (TLeg.mk 0 0) false) o.1 (Ts.mk f.fTo (w64 (g.1.f_stop.f_toll+f.fToll)))).f_leg.fTrack),vI ((aA (Tl.mk 0 (Ts.mk 0 0) (TLeg.mk 0 0) false) o.1 (Ts.mk f.fTo (w64 (g.1.f_stop.f_toll+f.fToll)))).f_leg.fHour),.bool ((aA (Tl.mk 0 (Ts.mk 0 0) (TLeg.mk 0 0) false) o.1 (Ts.mk f.fTo (w64 (g.1.f_stop.f_toll+f.fToll)))).f_begin)] qM E (nB E) E E E) (oY E (yAB E) (oN (eT (cS (cR (oY E (yMB E) (oY E (yMB E) ?_)))))))
        refine oJ 8 (fun U=>(upd (upd (upd (upd (upd (upd (upd (upd (upd (upd (upd (upd (upd (upd (upd (upd U 3 (.pointer (some ⟨n,0,none⟩))) 6 (.map none)) 7 (.pointer (some ⟨l,0,none⟩))) 8 (.pointer (some ⟨a,0,none⟩))) 32 (.bool (decide (0<fG)))) 9 (.pointer (some ⟨R,0,none⟩))) 44 (.bool (decide ((aA (Tl.mk 0 (Ts.mk 0 0) (TLeg.mk 0 0) false) H.2 g.1.f_stop).f_at<g.1.f_at)))) 49 (.func (.func 178) #[] #[.pointer (some ⟨V,0,none⟩),.pointer (some ⟨T,0,none⟩)])) 10 (.pointer (some ⟨fH,0,none⟩))) 11 (vI D.1)) 12 (.bool D.2)) 13 (.pointer (some ⟨fT,0,none⟩))) 81 (.bool oa)) 14 (.pointer (some ⟨ok,0,none⟩))) 15 (.bool (bm o.1 (Ts.mk f.fTo (w64 (g.1.f_stop.f_toll+f.fToll)))))) 97 (.bool ((bm o.1 (Ts.mk f.fTo (w64 (g.1.f_stop.f_toll+f.fToll))))&&(decide ((aA (Tl.mk 0 (Ts.mk 0 0) (TLeg.mk 0 0) false) o.1 (Ts.mk f.fTo (w64 (g.1.f_stop.f_toll+f.fToll)))).f_at≤w64 (D.1+f.fLong))))))) (fun U=>?_) (fun key=>?_)
        ·refine oN (eT ?_)
         rcases iOs h with⟨fD,h⟩|⟨fD,h⟩
         ·refine cT (vB fD) (aD (aj (ae (aT 12 ?_))))
          obtain rfl:=sI h
          exact qE [al n 24 [vI p0.fPlaces,.slice Ab p0.fTracks.length cb],mapV Tryz.prog 191 cj a5 bW (Tl.mk 0 (Ts.mk 0 0) (TLeg.mk 0 0) false) S o.1,al l 157 [.map (some S)],aP u w 196 3 o.2.length (encL ay o.2),al Z 198 [.slice u o.2.length w],al a 194 [.pointer (some ⟨Z,0,none⟩)],mA Ds_s10,al R 196 [vI g.1.f_at,vI g.1.f_stop.f_place,vI g.1.f_stop.f_toll],al V 24 [vI p0.fPlaces,.slice Ab p0.fTracks.length cb],al T 3 [vI g.1.f_stop.f_place]] ⟨u,w,o.2.length,E,E⟩
         ·refine cF (vB fD) (cK (eT (cS (cR (oY E (yL 2 sj E E E) (oY E (yN 13 [vI f.fTo,vI (w64 (g.1.f_stop.f_toll+f.fToll))] mZ E E E) (oY E (yMI E) (oY E (yFA fy E) (oY E (yL 12 aN E E E) (oY E (aM E E) (oY E (yFA nD E) (oY E (yN 7 [vI g.1.f_stop.f_place,vI g.1.f_stop.f_toll] mZ E E E) (oY E (yFA im E) (oY E (yL 12 aN E E E) (oY E (yMI E) ?_)))))))))))))))
          refine oY E (bc [vI f.fID,vI D.1] [(0,1),(1,1)] ust_132 sS (by kernel_rfl)) ?_
          refine oY E (bc [vI (w64 (D.1+f.fLong)),vI g.1.f_stop.f_place,vI g.1.f_stop.f_toll,vI f.fID,vI D.1,.bool false] [(0,1),(1,2),(3,2),(5,1)] ust_193 j5 (by kernel_rfl)) ?_
          obtain⟨r0,h⟩:=gOs h
          refine co E (kx 1 (k:=(Ts.mk f.fTo (w64 (g.1.f_stop.f_toll+f.fToll)))) (v:=(Tl.mk (w64 (D.1+f.fLong)) g.1.f_stop (TLeg.mk f.fID D.1) false)) E m9 m6 E E E r0) (oN (eT (cR (oY E (yL 5 sc_194 E E E) (oY E (jT nif_194 E) (oY E (yMI E) (oY E (yFA fy E) (oY E (yL 12 aN E E E) (oY E (aM E E) (oY E (yN 13 [vI f.fTo,vI (w64 (g.1.f_stop.f_toll+f.fToll))] mZ E E E) ?_))))))))))
          refine oY E (bc [vI (w64 (D.1+f.fLong)),vI f.fTo,vI (w64 (g.1.f_stop.f_toll+f.fToll))] [(0,1),(1,2)] ust_196 oA (by kernel_rfl)) ?_
          refine oY E (jT qm E) ?_
          obtain⟨q,r1,h⟩:=bOs h
          refine gj [4,3] [] [.iface 194 (.pointer (some ⟨Z,0,none⟩)),.iface 196 (.agg #[vI (w64 (D.1+f.fLong)),vI f.fTo,vI (w64 (g.1.f_stop.f_toll+f.fToll))])] [] (fun(x:(Option Addr × Nat × Nat))=>x.2.1=q.length) (fun _=>.tuple #[]) (fun x=>[al Z 198 [.slice x.1 x.2.1 x.2.2],aP x.1 x.2.2 196 3 x.2.1 (encL ay q)]) (fun _=>[]) (Foc.c2 E E) (by decide) E go_150 E E (fun _=>E) (fun W2 I=>ke o.2 (Twait.mk (w64 (D.1+f.fLong)) (Ts.mk f.fTo (w64 (g.1.f_stop.f_toll+f.fToll)))) q r1 W2 _ (bA [al n 24 [vI p0.fPlaces,.slice Ab p0.fTracks.length cb],mapV Tryz.prog 191 cj a5 bW (Tl.mk 0 (Ts.mk 0 0) (TLeg.mk 0 0) false) S (((Ts.mk f.fTo (w64 (g.1.f_stop.f_toll+f.fToll))),(Tl.mk (w64 (D.1+f.fLong)) g.1.f_stop (TLeg.mk f.fID D.1) false))::o.1),al l 157 [.map (some S)],aP u w 196 3 o.2.length (encL ay o.2),al Z 198 [.slice u o.2.length w],al a 194 [.pointer (some ⟨Z,0,none⟩)],mA Ds_s10,al R 196 [vI g.1.f_at,vI g.1.f_stop.f_place,vI g.1.f_stop.f_toll],al V 24 [vI p0.fPlaces,.slice Ab p0.fTracks.length cb],al T 3 [vI g.1.f_stop.f_place],dfR D28,lpR l29 { rec30 with state:=.busy },al fH 120 [vI f.fID,vI f.fFrom,vI f.fTo,vI f.fLong,vI f.fToll,.slice f3 f.fK.length fr],al fT 191 [vI f.fTo,vI (w64 (g.1.f_stop.f_toll+f.fToll))],al ok 193 [vI ((aA (Tl.mk 0 (Ts.mk 0 0) (TLeg.mk 0 0) false) o.1 (Ts.mk f.fTo (w64 (g.1.f_stop.f_toll+f.fToll)))).f_at),vI ((aA (Tl.mk 0 (Ts.mk 0 0) (TLeg.mk 0 0) false) o.1 (Ts.mk f.fTo (w64 (g.1.f_stop.f_toll+f.fToll)))).f_from.f_place),vI ((aA (Tl.mk 0 (Ts.mk 0 0) (TLeg.mk 0 0) false) o.1 (Ts.mk f.fTo (w64 (g.1.f_stop.f_toll+f.fToll)))).f_from.f_toll),vI ((aA (Tl.mk 0 (Ts.mk 0 0) (TLeg.mk 0 0) false) o.1 (Ts.mk f.fTo (w64 (g.1.f_stop.f_toll+f.fToll)))).f_leg.fTrack),vI ((aA (Tl.mk 0 (Ts.mk 0 0) (TLeg.mk 0 0) false) o.1 (Ts.mk f.fTo (w64 (g.1.f_stop.f_toll+f.fToll)))).f_leg.fHour),.bool ((aA (Tl.mk 0 (Ts.mk 0 0) (TLeg.mk 0 0) false) o.1 (Ts.mk f.fTo (w64 (g.1.f_stop.f_toll+f.fToll)))).f_begin)]] [4,3]) Z u o.2.length w E I) ?_
          rintro⟨ft,u6,g1⟩ fE
          replace fE:u6=q.length:=fE;subst fE
          try dsimp only[lz,lsz,lss,List.append_nil]
          refine oN (aw (aT 12 ?_))
          obtain rfl:=sI h
          exact qE [al n 24 [vI p0.fPlaces,.slice Ab p0.fTracks.length cb],mapV Tryz.prog 191 cj a5 bW (Tl.mk 0 (Ts.mk 0 0) (TLeg.mk 0 0) false) S (((Ts.mk f.fTo (w64 (g.1.f_stop.f_toll+f.fToll))),(Tl.mk (w64 (D.1+f.fLong)) g.1.f_stop (TLeg.mk f.fID D.1) false))::o.1),al l 157 [.map (some S)],aP ft g1 196 3 q.length (encL ay q),al Z 198 [.slice ft q.length g1],al a 194 [.pointer (some ⟨Z,0,none⟩)],mA Ds_s10,al R 196 [vI g.1.f_at,vI g.1.f_stop.f_place,vI g.1.f_stop.f_toll],al V 24 [vI p0.fPlaces,.slice Ab p0.fTracks.length cb],al T 3 [vI g.1.f_stop.f_place]] ⟨ft,g1,q.length,E,E⟩
        ·rcases aq (bm o.1 (Ts.mk f.fTo (w64 (g.1.f_stop.f_toll+f.fToll))))with r|r
         ·refine oY (sT E E E E r) (yFA pN E) (oY (sT E E E E r) (yL 14 aN E E E) (oY (sT E E E E r) (yMI E) (oY (sT E E E E r) (yFA fy E) (oY (sT E E E E r) (yL 12 aN E E E) (oY (sT E E E E r) (aM E E) (oY (sT E E E E r) (iA E E) (oY E (ac (vB r) E) ?_)))))))
          exact key _ _ (keep (keep (keep (keep (keep (keep (keep (keep (keep (keep (keep (keep (keep (keep (keep (keep E E) E) E) E) E) E) E) E) E) E) E) E) E) E) E) (vB (eU r)))
         ·refine oSk (sF E E E E r) (oSk (sF E E E E r) (oSk (sF E E E E r) (oSk (sF E E E E r) (oSk (sF E E E E r) (oSk (sF E E E E r) (oSk (sF E E E E r) (oY E (ad (vB r) E) ?_)))))))
          exact key _ _ (keep (keep (keep (keep (keep (keep (keep (keep (keep (keep (keep (keep (keep (keep (keep (keep E E) E) E) E) E) E) E) E) E) E) E) E) E) E) E) (vB (eY r)))
      ·clear h;rcases iOs oi with⟨F,h⟩|⟨F,h⟩
       ·refine oSk (sF E E E E F) (oSk (sF E E E E F) (oSk (sF E E E E F) (oSk (sF E E E E F) (oSk (sF E E E E F) (oSk (sF E E E E F) (oY E (ac (vB F) E) ?_))))))
        obtain rfl:=sI h
        exact key _ _ (kp4 (kp4 (kp4 (kp E))))
       ·refine oY (sT E E E E F) (yMI E) (oY (sT E E E E F) (yFA fy E) (oY (sT E E E E F) (yL 12 aN E E E) (oY (sT E E E E F) (aM E E) ?_)))
        obtain⟨u7,r2,h⟩:=bOs h
        refine oY (sT E E E E F) (yC [vI (w64 (D.1+f.fLong))] ld E (fun W2 I=>cv (w64 (D.1+f.fLong)) u7 r2 W2 ) E) (oY (sT E E E E F) (bw E) (oY E (ad (vB F) E) ?_))
        obtain rfl:=sI h
        exact key _ _ (kp4 (kp4 (kp4 (kp E))))
     ·rcases aq (!D.2)with K|K
      ·refine oSk (sF E E E E K) (oSk (sF E E E E K) (oSk (sF E E E E K) (oY E (ac (vB K) E) ?_)))
       exact key _ _ (keep (keep (keep (keep (keep (keep (keep (keep (keep (keep (keep (keep (keep E E) E) E) E) E) E) E) E) E) E) E) E) (vB (iy K)))
      ·refine oY (sT E E E E K) (yFA pO E) (oY (sT E E E E K) (yL 13 aN E E E) (oY (sT E E E E K) (eW E E) (oY E (ad (vB K) E) ?_)))
       exact key _ _ (keep (keep (keep (keep (keep (keep (keep (keep (keep (keep (keep (keep (keep E E) E) E) E) E) E) E) E) E) E) E) E) (vB (iw K)))
    ·rintro D28 u8 L hst ⟨fR,fn,rd,rfl,rfl⟩
     subst hst
     dsimp only at h
     refine aw (aw ?_)
     refine ex_dfs 6 10 (by decide) E E (fun hd69=>?_)
     try dsimp only[lsz,lss]
     refine aT 7 ?_
     obtain rfl:=sI h
     exact r6 ⟨_,fR,fn,u8.2.length,(D28::Ds_s10),(List.nodup_cons.2 ⟨hd69,hd_s10⟩),E,E,(kp4 E),E⟩
    ·intro D28 t e L _ hh
     exact hh.elim
  ·refine cF (vB c) (aD (aj ?_))
   obtain rfl:=sI h
   exact ex_stopD ⟨E,_,M,N,H.1.length,Ds_s10,hd_s10,E,E,(kp4 E),E⟩
 ·intro e L tm d hJ
  obtain⟨rfl,r3,rx,u0,u1,Ds_u11,hd_u11,rfl,rfl,rfl,rfl⟩:=hJ
  refine⟨(by intro hc;cases hc),?_⟩
  refine ae (eT (cS (cR ?_)))
  try dsimp only[lna,lca,lsz,lss]
  refine oY E (yL 2 sj E E E) (oY E (ex E) (oN (eT (am (ex_MN 6 E hd_u11 (.inl E) ?_)))))
  obtain rfl:=sI h
  exact ak (.inl E) E (rVt (v:=.map (some S)) E) (fun W2 I=>⟨S,E,(I.pick 1 E)⟩)
theorem jY (p0:(List (Ts × Tl))) (p1:Int) (res:(List Int)) (h:eP p0 p1=some res) (W:World) (d:Nat) (hm0_0:(mapV Tryz.prog 191 cj a5 bW (Tl.mk 0 (Ts.mk 0 0) (TLeg.mk 0 0) false) d p0).holds W) :
  Calls Tryz.prog 111 [.map (some d),vI p1].toArray W fun e W2=>∃x:Unit,res.length=61∧e=.returned (.agg (encL cI res).toArray)∧Ext W W2 []:=by
 unfold eP at h
 refine ag (m:=39) Tryz.func111 E E (nB E) (cS (cR ?_))
 refine aF sA E (fun K=>?_)
 refine oN (eT (cS (cR ?_)))
 refine aF sA E (fun M=>?_)
 refine oN (eT (cS (cR (oY E (yAI E) (oN (eT (cS (cS (cR (oY E (yMI E) (oN (eT (cB ?_)))))))))))))
 obtain⟨X,I,h⟩:=bOs h
 refine bi (fun(s:(Int × Int × (List Int))) L tm=>∃(w:Nat→Value),s.2.2.length=61∧L=[al K 160 (encL cI (List.replicate 61 0)),al M 160 (encL cI s.2.2)]∧tm=(upd (upd (upd (upd (upd (upd w 0 (.map (some d))) 1 (vI p1)) 4 (.pointer (some ⟨K,0,none⟩))) 5 (.pointer (some ⟨M,0,none⟩))) 6 (vI s.1)) 10 (vI s.2.1))) 0 I ⟨_,List.length_replicate,E,(kp4 (kp (kp E)))⟩ ?_ ?_
 ·rintro o L tm st ⟨N,r,rfl,rfl⟩ h
  unfold cX at h
  refine cS (cR (oY E (a6 E E) (oN (eT (cS ?_)))))
  rcases iOs h with⟨H,h⟩|⟨H,h⟩
  ·refine cT (vB H) (cK (eT (cS (cB (cS (cR (oY E (yMI E) (oY E (yAI E) (oN (eT (cS (cS (cR (oY E (cw E) (oY E (yMI E) (oY E (yMI E) ?_))))))))))))))))
   refine oY E (bc [vI p1,vI o.2.1] [(0,1),(1,1)] oV pz (by kernel_rfl)) ?_
   obtain⟨Q,h⟩:=gOs h
   refine oY E (mD (k:=(Ts.mk p1 o.2.1)) (MpL.arg hm0_0) m9 m6 j5 E E Q) (oY E (aU E) (oY E (yE E E) (oY E (yE E E) ?_)))
   refine aF j5 E (fun Y=>?_)
   refine co E (yS 2 [vI ((aA (Tl.mk 0 (Ts.mk 0 0) (TLeg.mk 0 0) false) p0 (Ts.mk p1 o.2.1)).f_at),vI ((aA (Tl.mk 0 (Ts.mk 0 0) (TLeg.mk 0 0) false) p0 (Ts.mk p1 o.2.1)).f_from.f_place),vI ((aA (Tl.mk 0 (Ts.mk 0 0) (TLeg.mk 0 0) false) p0 (Ts.mk p1 o.2.1)).f_from.f_toll),vI ((aA (Tl.mk 0 (Ts.mk 0 0) (TLeg.mk 0 0) false) p0 (Ts.mk p1 o.2.1)).f_leg.fTrack),vI ((aA (Tl.mk 0 (Ts.mk 0 0) (TLeg.mk 0 0) false) p0 (Ts.mk p1 o.2.1)).f_leg.fHour),.bool ((aA (Tl.mk 0 (Ts.mk 0 0) (TLeg.mk 0 0) false) p0 (Ts.mk p1 o.2.1)).f_begin)] qM E (nB E) E E E) (oY E (yAB E) (oN (eT (cS (cR (oY E (yMB E) (oY E (yMB E) ?_)))))))
   refine oJ 9 (fun w=>(upd (upd (upd (upd (upd (upd (upd (upd (upd (upd (upd w 0 (.map (some d))) 1 (vI p1)) 4 (.pointer (some ⟨K,0,none⟩))) 5 (.pointer (some ⟨M,0,none⟩))) 6 (vI o.1)) 10 (vI o.2.1)) 11 (.bool (decide (o.2.1<61)))) 7 (vI o.2.1)) 8 (.pointer (some ⟨Y,0,none⟩))) 9 (.bool (bm p0 (Ts.mk p1 o.2.1)))) 31 (.bool ((bm p0 (Ts.mk p1 o.2.1))&&((decide (o.1<0))||(decide ((aA (Tl.mk 0 (Ts.mk 0 0) (TLeg.mk 0 0) false) p0 (Ts.mk p1 o.2.1)).f_at<o.1))))))) (fun w=>?_) (fun key=>?_)
   ·refine oN (eT ?_)
    rcases iOs h with⟨G,h⟩|⟨G,h⟩
    ·refine cT (vB G) (cR (oY E (yFA pN E) (oY E (yL 2 aN E E E) (oY E (yAI E) (oN (eT (cR (oY E (yMI E) (oY E (yMI E) ?_)))))))))
     obtain⟨D,h⟩:=gOs h
     refine oY E (px ar_160 D.1 D.2 E E) (co E (qO 1 (encL cI (o.2.2.set (Int.toNat o.2.1) ((aA (Tl.mk 0 (Ts.mk 0 0) (TLeg.mk 0 0) false) p0 (Ts.mk p1 o.2.1)).f_at))) qb E (ltA r D.1 D.2) setA' E E E) (oN (aw (eT (cR (oY E (aM E E) (oY E (yMI E) (oN (aT 2 ?_)))))))))
     obtain rfl:=sI h
     exact eN ⟨_,(lenSetA r),E,(kp4 (kp (kp E)))⟩
    ·refine cF (vB G) (cK (eT (cR (oY E (yMI E) (oY E (yMI E) ?_)))))
     obtain⟨F,h⟩:=gOs h
     refine oY E (px ar_160 F.1 F.2 E E) (co E (qO 1 (encL cI (o.2.2.set (Int.toNat o.2.1) o.1)) qb E (ltA r F.1 F.2) setA' E E E) (oN (aw (eT (cR (oY E (aM E E) (oY E (yMI E) (oN (aT 2 ?_)))))))))
     obtain rfl:=sI h
     exact eN ⟨_,(lenSetA r),E,(kp4 (kp (kp E)))⟩
   ·rcases aq (bm p0 (Ts.mk p1 o.2.1))with f|f
    ·refine oY (sT E E E E f) (yMI E) (oY (sT E E E E f) (a6 E E) (oY (sT E E E E f) (yMB E) ?_))
     refine oJ 5 (fun w=>(upd (upd (upd (upd (upd (upd (upd (upd (upd (upd (upd (upd w 0 (.map (some d))) 1 (vI p1)) 4 (.pointer (some ⟨K,0,none⟩))) 5 (.pointer (some ⟨M,0,none⟩))) 6 (vI o.1)) 10 (vI o.2.1)) 11 (.bool (decide (o.2.1<61)))) 7 (vI o.2.1)) 8 (.pointer (some ⟨Y,0,none⟩))) 9 (.bool (bm p0 (Ts.mk p1 o.2.1)))) 22 (.bool (bm p0 (Ts.mk p1 o.2.1)))) 30 (.bool ((decide (o.1<0))||(decide ((aA (Tl.mk 0 (Ts.mk 0 0) (TLeg.mk 0 0) false) p0 (Ts.mk p1 o.2.1)).f_at<o.1)))))) (fun w=>?_) (fun key=>?_)
     ·refine oY E (ac (vB f) E) ?_
      exact key _ _ (keep (keep (keep (keep (keep (keep (keep (keep (keep (keep (keep E E) E) E) E) E) E) E) E) E) E) (vB (eU f)))
     ·rcases aq (decide (o.1<0))with g|g
      ·refine oSk (sF E E E E g) (oSk (sF E E E E g) (oSk (sF E E E E g) (oSk (sF E E E E g) (oY (sT E E E E f) (ac (vB g) E) ?_))))
       exact key _ _ (keep (keep (keep (keep (keep (keep (keep (keep (keep (keep (keep (keep E E) E) E) E) E) E) E) E) E) E) E) (vB (iy g)))
      ·refine oY (sT E E E E g) (yFA pN E) (oY (sT E E E E g) (yL 2 aN E E E) (oY (sT E E E E g) (yMI E) (oY (sT E E E E g) (a6 E E) (oY (sT E E E E f) (ad (vB g) E) ?_))))
       exact key _ _ (keep (keep (keep (keep (keep (keep (keep (keep (keep (keep (keep (keep E E) E) E) E) E) E) E) E) E) E) E) (vB (iw g)))
    ·refine oSk (sF E E E E f) (oSk (sF E E E E f) (oSk (sF E E E E f) (oSk E (oSk E (oSk E (oSk E (oSk (sF E E E E f) (oY E (ad (vB f) E) ?_))))))))
     exact key _ _ (keep (keep (keep (keep (keep (keep (keep (keep (keep (keep (keep E E) E) E) E) E) E) E) E) E) E) (vB (eY f)))
  ·refine cF (vB H) (aD (aj ?_))
   obtain rfl:=sI h
   exact au ⟨E,_,r,E,(kp4 (kp (kp E)))⟩
 ·intro e L tm hJ
  obtain⟨rfl,O,u,rfl,rfl⟩:=hJ
  refine⟨(by intro hc;cases hc),?_⟩
  refine ae (eT (cS (cR (oY E (yN 1 (encL cI X.2.2) (aggA rv u) E E (takeA _)) (co E (pW 0 (xs:=(List.replicate 61 0)) (xs':=X.2.2) rE List.length_replicate u E E E) (oN (eT (am ?_))))))))
  obtain rfl:=sI h
  exact ak (.inl E) E (td 0 rv u E E) (fun W2 U=>⟨(),u,E,U.none⟩)
theorem jm (p0:(List TLeg)) (res:(List TLeg)) (h:d8 p0=some res) (W:World) (O:World) (R:Res) (Aa:Option Addr) (o ca:Nat) (F:o=p0.length) (hW:Ext O W [R,aP Aa ca 132 2 o (encL TLeg_cells p0)]) :
  Calls Tryz.prog 183 [.slice Aa o ca].toArray W fun e W2=>e=.returned (.tuple #[])∧o=res.length∧Ext O W2 [R,aP Aa ca 132 2 o (encL TLeg_cells res)]:=by
 subst F
 unfold d8 at h
 refine a4 (m:=28) Tryz.func183 E E (nB E) hW (cS (cR (oY E (yMS E) (oY E (bg (us:=[]) th E) (oY E (fe E E) (oY E (yAI E) (oY E (yAI E) (oN (eT (cB ?_))))))))))
 obtain⟨Q,H,h⟩:=bOs h
 refine bi (fun(s:(Int × Int × (List TLeg))) L tm=>∃(M:Nat→Value),p0.length=s.2.2.length∧L=[R,aP Aa ca 132 2 p0.length (encL TLeg_cells s.2.2)]∧tm=(upd (upd (upd M 0 (.slice Aa p0.length ca)) 2 (vI s.1)) 3 (vI s.2.1))) 0 H ⟨_,E,E,(kp (kp (kp E)))⟩ ?_ ?_
 ·rintro g L tm st ⟨I,f,rfl,rfl⟩ h
  unfold fg at h
  refine cS (cS (cR (oY E (yMI E) (oY E (yMI E) (oY E (a6 E E) (oN (eT ?_)))))))
  rcases iOs h with⟨G,h⟩|⟨G,h⟩
  ·refine cT (vB G) (cK (eT (cS (cB ?_))))
   refine rh [2,3] 13 bZ (by kernel_rfl) (by kernel_rfl) ?_
   refine qY E (yMS E) (qY E (yMI E) (qY E (yMS E) (qY E (yMI E) (qY E (yMS E) (qY E (yMI E) ?_)))))
   obtain⟨r,h⟩:=gOs h
   refine qY E (yI rz (by decide) r.1 r.2 (RdL.row 1 E) (eL bd f) E E) ?_
   refine qY E (yM (A:=Aa) (j:=(Int.toNat g.2.1*2)) [vI ((rdL g.2.2 g.2.1).fTrack),vI ((rdL g.2.2 g.2.1).fHour)] sE (Nat.succ_pos _) (RdL.row 1 E) E (be bd r.1 (ai r.2 f))) (qY E (yMS E) (qY E (yMI E) ?_))
   obtain⟨u,h⟩:=gOs h
   refine qY E (yI rz (by decide) u.1 u.2 (RdL.row 1 E) (eL bd f) E E) ?_
   refine qY E (yM (A:=Aa) (j:=(Int.toNat g.1*2)) [vI ((rdL g.2.2 g.1).fTrack),vI ((rdL g.2.2 g.1).fHour)] sE (Nat.succ_pos _) (RdL.row 1 E) E (be bd u.1 (ai u.2 f))) ?_
   obtain⟨d,h⟩:=gOs h
   refine qY E (yI rz (by decide) d.1 d.2 (RdL.row 1 E) (eL bd f) E E) ?_
   refine bF (co E (mo 1 (xs:=g.2.2) [vI ((rdL g.2.2 g.2.1).fTrack),vI ((rdL g.2.2 g.2.1).fHour)] bd (Nat.succ_pos _) (rdL g.2.2 g.2.1) sz_132 E d.1 (ai d.2 f) E E E E) ?_)
   obtain⟨w,h⟩:=gOs h
   refine oY E (yI rz (by decide) w.1 w.2 (RdL.row 1 E) (eL bd (cH f)) E E) ?_
   refine co E (mo 1 (xs:=(g.2.2.set (Int.toNat g.1) (rdL g.2.2 g.2.1))) [vI ((rdL g.2.2 g.1).fTrack),vI ((rdL g.2.2 g.1).fHour)] bd (Nat.succ_pos _) (rdL g.2.2 g.1) sz_132 E w.1 (ai w.2 (cH f)) E E E E) (oN (qt (aw (eT (cR (oY E (yMI E) (oY E (aM E E) (oY E (yMI E) (oY E (fe E E) (oY E (yAI E) (oY E (yAI E) (oN ?_))))))))))))
   obtain rfl:=sI h
   exact eN ⟨_,(cH (cH f)),E,(kp (kp (kp E)))⟩
  ·refine cF (vB G) (aD (aj ?_))
   obtain rfl:=sI h
   exact au ⟨E,_,f,E,(kp (kp (kp E)))⟩
 ·intro e L tm hJ
  obtain⟨rfl,K,D,rfl,rfl⟩:=hJ
  refine⟨(by intro hc;cases hc),?_⟩
  refine ae ?_
  obtain rfl:=sI h
  exact cD (.inr E) E  (fun W2 N=>⟨E,D,N.take 2⟩)
theorem oo (p0:(List (Ts × Tl))) (p1:Ts) (res:TJ) (h:kC p0 p1=some res) (W:World) (u:Nat) (hm0_0:(mapV Tryz.prog 191 cj a5 bW (Tl.mk 0 (Ts.mk 0 0) (TLeg.mk 0 0) false) u p0).holds W) :
  Calls Tryz.prog 157 [.map (some u),.agg #[vI p1.f_place,vI p1.f_toll]].toArray W fun e W2=>∃x:Option Addr × Nat × Nat,x.2.1=res.fLegs.length∧e=.returned (.agg #[.slice x.1 x.2.1 x.2.2,vI res.fA,vI res.fToll])∧Ext W W2 [aP x.1 x.2.2 132 2 x.2.1 (encL TLeg_cells res.fLegs)]:=by
 unfold kC at h
 refine ag (m:=36) Tryz.func157 E E (nB E) (cS (cR ?_))
 refine aI [vI p1.f_place,vI p1.f_toll] E E E (fun j=>?_)
 refine aF la E (fun p=>?_)
 refine oN (eT (cS ?_))
 refine cx_drawsA 7 bZ (by kernel_rfl) (by kernel_rfl) (by kernel_rfl) ?_
 refine ax_y E (fun _=>cw E) (ax_y E (fun _=>yN 0 [vI p1.f_place,vI p1.f_toll] mZ E E E) ?_)
 obtain⟨n,h⟩:=gOs h
 refine ax_y E (fun _=>kO (k:=p1) (MpL.arg hm0_0) m9 m6 j5 E E n) (ax_y E (fun _=>sB [vI ((aA (Tl.mk 0 (Ts.mk 0 0) (TLeg.mk 0 0) false) p0 p1).f_at),vI ((aA (Tl.mk 0 (Ts.mk 0 0) (TLeg.mk 0 0) false) p0 p1).f_from.f_place),vI ((aA (Tl.mk 0 (Ts.mk 0 0) (TLeg.mk 0 0) false) p0 p1).f_from.f_toll),vI ((aA (Tl.mk 0 (Ts.mk 0 0) (TLeg.mk 0 0) false) p0 p1).f_leg.fTrack),vI ((aA (Tl.mk 0 (Ts.mk 0 0) (TLeg.mk 0 0) false) p0 p1).f_leg.fHour),.bool ((aA (Tl.mk 0 (Ts.mk 0 0) (TLeg.mk 0 0) false) p0 p1).f_begin)] (v:=vI ((aA (Tl.mk 0 (Ts.mk 0 0) (TLeg.mk 0 0) false) p0 p1).f_at)) sG aN E E) (ax_y E (fun _=>yFA pO E) (ax_y E (fun _=>yL 0 (v:=vI p1.f_toll) aN E E E) ?_)))
 refine ax_y E (fun _=>bc [.slice none 0 0,vI ((aA (Tl.mk 0 (Ts.mk 0 0) (TLeg.mk 0 0) false) p0 p1).f_at),vI p1.f_toll] [(0,1),(1,1),(2,1)] ust_29 la (by kernel_rfl)) ?_
 refine ax_nil E la (fun l=>?_)
 refine co E (yS 2 [.slice none 0 0,vI ((aA (Tl.mk 0 (Ts.mk 0 0) (TLeg.mk 0 0) false) p0 p1).f_at),vI p1.f_toll] mz E (nB E) E E E) (oN (qt (eT (cS (cS (cR (oY E (cw E) (oY E (yN 0 [vI p1.f_place,vI p1.f_toll] mZ E E E) ?_))))))))
 obtain⟨t,h⟩:=gOs h
 refine oY E (kO (k:=p1) (MpL.arg hm0_0) m9 m6 j5 E E t) ?_
 refine aF j5 E (fun y=>?_)
 refine co E (yS 3 [vI ((aA (Tl.mk 0 (Ts.mk 0 0) (TLeg.mk 0 0) false) p0 p1).f_at),vI ((aA (Tl.mk 0 (Ts.mk 0 0) (TLeg.mk 0 0) false) p0 p1).f_from.f_place),vI ((aA (Tl.mk 0 (Ts.mk 0 0) (TLeg.mk 0 0) false) p0 p1).f_from.f_toll),vI ((aA (Tl.mk 0 (Ts.mk 0 0) (TLeg.mk 0 0) false) p0 p1).f_leg.fTrack),vI ((aA (Tl.mk 0 (Ts.mk 0 0) (TLeg.mk 0 0) false) p0 p1).f_leg.fHour),.bool ((aA (Tl.mk 0 (Ts.mk 0 0) (TLeg.mk 0 0) false) p0 p1).f_begin)] qM E (nB E) E E E) (oN (eT (cB ?_)))
 obtain⟨o,Q,h⟩:=bOs h
 refine dA 132 2 (dA 132 2 ?_)
 refine bi (fun(s:(Tl × (List TLeg))) L tm=>∃(a:Nat→Value) (F:Option Addr) (G:Nat) (d:Nat) (H:Nat),d=s.2.length∧L=[al j 191 [vI p1.f_place,vI p1.f_toll],al p 29 [.slice none 0 0,vI 0,vI 0],al l 29 [.slice F d G,vI ((aA (Tl.mk 0 (Ts.mk 0 0) (TLeg.mk 0 0) false) p0 p1).f_at),vI p1.f_toll],al H 193 [vI s.1.f_at,vI s.1.f_from.f_place,vI s.1.f_from.f_toll,vI s.1.f_leg.fTrack,vI s.1.f_leg.fHour,.bool s.1.f_begin],aP none 0 132 2 0 (encL TLeg_cells ([]:List TLeg)),aP F G 132 2 d (encL TLeg_cells s.2)]∧tm=(upd (upd (upd (upd a 0 (.map (some u))) 4 (.pointer (some ⟨p,0,none⟩))) 5 (.pointer (some ⟨l,0,none⟩))) 6 (.pointer (some ⟨H,0,none⟩)))) 0 Q ⟨_,none,0,0,y,E,E,(kp4 E)⟩ ?_ ?_
 ·rintro r L tm st ⟨R,I,K,z,M,rfl,rfl,rfl⟩ h
  unfold kg at h
  refine cS (cS (cR ?_))
  try dsimp only[lna,lca,lsz,lss]
  refine oY E (yFA fo_193_3 E) (oY E (yL 3 sc_4 E E E) (oY E (bw E) (oN (eT ?_))))
  rcases iOs h with⟨w,h⟩|⟨w,h⟩
  ·refine cT (vB w) (cK (eT (cS (cB (cR (oY E (yFA kJ E) (oY E (yL 2 rK E E E) (oY E (yFA fo_193_2 E) (oY E (yN 3 [vI r.1.f_leg.fTrack,vI r.1.f_leg.fHour] sE E E E) ?_)))))))))
   refine aR 1 (encL TLeg_cells [r.1.f_leg]) _ mc_132_1 th sS by_132 (by decide) (by decide) (by kernel_rfl) (eL bd E) E (fun b=>?_)
   try dsimp only[lna,lca,lsz,lss]
   obtain⟨U,h⟩:=gOs h
   refine cC 5 th sS by_132 E E E (RdL.row 6 E) (eL bd E) (eh pc _) (eS U (by decide)) E (fun X Y=>?_)
   refine oY E (yFA kJ E) (co E (dq 2 (v:=.slice X (r.2.length+1) Y) sz_27 E (Nat.lt_of_lt_of_le (Nat.lt_succ_self _) (nB E)) E E E) (oN (aw (eT (cS (cS (cR (oY E (yN 3 [vI r.1.f_at,vI r.1.f_from.f_place,vI r.1.f_from.f_toll,vI r.1.f_leg.fTrack,vI r.1.f_leg.fHour,.bool r.1.f_begin] ag_193 E E E) (oN (eT (cR ?_)))))))))))
   refine aF j5 E (fun i=>?_)
   try dsimp only[lna,lca,lsz,lss]
   refine co E (yS 7 [vI r.1.f_at,vI r.1.f_from.f_place,vI r.1.f_from.f_toll,vI r.1.f_leg.fTrack,vI r.1.f_leg.fHour,.bool r.1.f_begin] qM E (nB E) E E E) (oN (eT (cR (oY E (cw E) (oY E (yFA fo_193_1 E) (oY E (yN 7 [vI r.1.f_from.f_place,vI r.1.f_from.f_toll] mZ E E E) ?_))))))
   obtain⟨Z,h⟩:=gOs h
   refine oY E (kO (k:=r.1.f_from) (MpL.arg hm0_0) m9 m6 j5 E E Z) (co E (yS 7 [vI ((aA (Tl.mk 0 (Ts.mk 0 0) (TLeg.mk 0 0) false) p0 r.1.f_from).f_at),vI ((aA (Tl.mk 0 (Ts.mk 0 0) (TLeg.mk 0 0) false) p0 r.1.f_from).f_from.f_place),vI ((aA (Tl.mk 0 (Ts.mk 0 0) (TLeg.mk 0 0) false) p0 r.1.f_from).f_from.f_toll),vI ((aA (Tl.mk 0 (Ts.mk 0 0) (TLeg.mk 0 0) false) p0 r.1.f_from).f_leg.fTrack),vI ((aA (Tl.mk 0 (Ts.mk 0 0) (TLeg.mk 0 0) false) p0 r.1.f_from).f_leg.fHour),.bool ((aA (Tl.mk 0 (Ts.mk 0 0) (TLeg.mk 0 0) false) p0 r.1.f_from).f_begin)] qM E (nB E) E E E) (oN ?_))
   refine ex_mv 3 7 (by decide) E ?_
   try dsimp only[lsz,lss]
   refine aT 6 ?_
   obtain rfl:=sI h
   exact eN ⟨_,X,Y,(r.2.length+1),i,(ju E E),E,(kp4 E)⟩
  ·refine cF (vB w) (aD (aj ?_))
   obtain rfl:=sI h
   exact au ⟨E,_,I,K,r.2.length,M,E,E,(kp4 E)⟩
 ·intro e L tm hJ
  obtain⟨rfl,V,f,g,q,D,rfl,rfl,rfl⟩:=hJ
  refine⟨(by intro hc;cases hc),?_⟩
  refine ae (eT (cS (cR ?_)))
  try dsimp only[lna,lca,lsz,lss]
  refine oY E (yFA kJ E) (oY E (yL 2 rK E E E) ?_)
  obtain⟨N,T,h⟩:=bOs h
  refine fz 5 [.slice f o.2.length g] (fun(_:Unit)=>o.2.length=N.length) (fun _=>.tuple #[]) (fun _=>aP f g 132 2 o.2.length (encL TLeg_cells N)) (fun _=>[]) E E go_183 E (fun W2 O=>(jm o.2 N T W2 _ (bA [al j 191 [vI p1.f_place,vI p1.f_toll],al p 29 [.slice none 0 0,vI 0,vI 0],al l 29 [.slice f o.2.length g,vI ((aA (Tl.mk 0 (Ts.mk 0 0) (TLeg.mk 0 0) false) p0 p1).f_at),vI p1.f_toll],al D 193 [vI o.1.f_at,vI o.1.f_from.f_place,vI o.1.f_from.f_toll,vI o.1.f_leg.fTrack,vI o.1.f_leg.fHour,.bool o.1.f_begin],aP none 0 132 2 0 (encL TLeg_cells ([]:List TLeg)),aP f g 132 2 o.2.length (encL TLeg_cells o.2)] [5]) f o.2.length g E O).mono (fun e W3 h3=>⟨(),h3.2.1,h3.1,h3.2.2⟩)) ?_
  rintro-S
  try dsimp only[lsz,lss,List.append_nil]
  refine oN (eT (cS (cR (oY E (yN 2 [.slice f o.2.length g,vI ((aA (Tl.mk 0 (Ts.mk 0 0) (TLeg.mk 0 0) false) p0 p1).f_at),vI p1.f_toll] lE E E E) (co E (yS 1 [.slice f o.2.length g,vI ((aA (Tl.mk 0 (Ts.mk 0 0) (TLeg.mk 0 0) false) p0 p1).f_at),vI p1.f_toll] mz E (nB E) E E E) (oN (eT (am ?_))))))))
  obtain rfl:=sI h
  exact ak (.inl E) E (bO 1 [.slice f o.2.length g,vI ((aA (Tl.mk 0 (Ts.mk 0 0) (TLeg.mk 0 0) false) p0 p1).f_at),vI p1.f_toll] lE E E E) (fun W2 O=>⟨(f,o.2.length,g),S,E,(O.pick 5 E)⟩)
theorem mj (p0:TR) (p1:Int) (p2:Int) (p3:Int) (res:(List TJ)) (h:kX p0 p1 p2 p3=some res) (W:World) (Ab:Option Addr) (K cb:Nat) (d:List (Hd × TT)) (q:K=p0.fTracks.length) (p:Rd W Ab K cb (encL TTrack_cells2 d)) (n:NestW W (fun z:TT=>z.fK) TSpan_cells d p0.fTracks) (wb:World) (Hb:World→Prop) (hB:∀W3,Below W.heap.size W W3→Below wb.heap.size wb W3∧Hb W3) :
  Calls Tryz.prog 119 [.agg #[vI p0.fPlaces,.slice Ab K cb],vI p1,vI p2,vI p3].toArray W fun e W2=>∃x:((Option Addr × Nat × Nat) × (List (Hd × TJ)) × Res),(x.1.2.1=res.length∧NestP (fun z:TJ=>z.fLegs) x.2.1 res∧PvL (fun z:TJ=>z.fLegs) TLeg_cells wb (fun W4=>Hb W4∧Res.holds x.2.2 W4) x.2.1)∧e=.returned (.slice x.1.1 x.1.2.1 x.1.2.2)∧Ext W W2 [aP x.1.1 x.1.2.2 29 3 x.1.2.1 (encL cf x.2.1),x.2.2]:=by
 subst q
 unfold kX at h
 refine ag (m:=41) Tryz.func119 E E (nB E) (cS (cR ?_))
 refine aI [vI p0.fPlaces,.slice Ab p0.fTracks.length cb] E E E (fun b1=>?_)
 refine oY E (yAS E) (oN (eT (cS (cR (oY E (yN 0 [vI p0.fPlaces,.slice Ab p0.fTracks.length cb] dh E E E) (oY E (yMI E) (oY E (yMI E) ?_)))))))
 obtain⟨y2,fr,h⟩:=bOs h
 refine lT [.agg #[vI p0.fPlaces,.slice Ab p0.fTracks.length cb],vI p1,vI p3] _ _ E go_110 E (fun W2 u=>lc p0 p1 p3 y2 fr W2 Ab p0.fTracks.length cb d E ((RdL.arg p) W2 u) (NestL.at (NestL.arg n) W2 u)) ?_
 rintro t
 refine oY E (ex E) (oN (eT (cS (cR (oY E (cw E) (oY E (yMI E) ?_))))))
 obtain⟨a,fd,h⟩:=bOs h
 refine oC [.map (some t),vI p2] _ _ _ E go_111 E (fun W2 u=>jY y2 p2 a fd W2 t ((MpL.own 1 E) W2 u)) ?_
 rintro-l
 try dsimp only[List.append_nil]
 refine aF sA E (fun b8=>?_)
 refine co E (pW 2 (xs:=(List.replicate 61 0)) (xs':=a) rE List.length_replicate l E E E) (oN (eT (cS (cR (oY E (yAS E) (oN (eT (cS (cR (oY E (yAI E) (oN (eT (cS (cS (cR (oY E (yN 2 (encL cI a) (aggA rv l) E E (takeA _)) (oY E (yMI E) (oN (eT (cB ?_))))))))))))))))))))
 obtain⟨i,j,h⟩:=bOs h
 refine dA 29 3 (qk ?_)
 refine bi (fun(s:(Int × Int × (List TJ))) L tm=>∃(fD:Nat→Value) (T:Option Addr) (S:Nat) (M:Nat) (w:List (Hd × TJ)) (F3_s:Res),M=s.2.2.length∧NestP (fun z:TJ=>z.fLegs) w s.2.2∧PvL (fun z:TJ=>z.fLegs) TLeg_cells wb (fun W4=>Hb W4∧Res.holds F3_s W4) w∧L=[al b1 24 [vI p0.fPlaces,.slice Ab p0.fTracks.length cb],mapV Tryz.prog 191 cj a5 bW (Tl.mk 0 (Ts.mk 0 0) (TLeg.mk 0 0) false) t y2,al b8 160 (encL cI a),aP T S 29 3 M (encL cf w),F3_s]∧tm=(upd (upd (upd (upd (upd (upd (upd fD 2 (vI p2)) 8 (.slice none 0 0)) 9 (.map (some t))) 11 (.slice T M S)) 12 (vI s.1)) 22 (.agg (encL cI a).toArray)) 23 (vI s.2.1))) 0 j ⟨_,none,0,0,([]:List (Hd × TJ)),noR,E,NestP.nil,(PvL.mono (Hb:=Hb) PvL.nil (fun _ _ h=>h.1)),E,(kp4 (kp (kp (kp E))))⟩ ?_ ?_
 ·rintro I L tm st ⟨k,D,F,f2,f,F3_s11,rfl,g,o,rfl,rfl⟩ h
  unfold mq at h
  refine cS (cR (oY E (a6 E E) (oN (eT (cS ?_)))))
  rcases iOs h with⟨N,h⟩|⟨N,h⟩
  ·refine cT (vB N) (cK (eT (cS (cB (cS (cR (oY E (yMI E) ?_)))))))
   obtain⟨R,h⟩:=gOs h
   refine oY E (y_indexA ua_160 aN l R.1 R.2 E E) (oY E (yAI E) (oY E (yAI E) (oN (eT (cS (cS (cR (oY E (yMI E) (oY E (yMI E) (oY E (cU E E) (oN (eT ?_))))))))))))
   rcases iOs h with⟨O,h⟩|⟨O,h⟩
   ·refine cT (vB O) (cR (oY E (yMS E) (oY E (cw E) (oY E (yMI E) (oY E (yMI E) ?_)))))
    refine oY E (bc [vI p2,vI I.2.1] [(0,1),(1,1)] oV pz (by kernel_rfl)) ?_
    obtain⟨r,y,h⟩:=bOs h
    refine oC [.map (some t),.agg #[vI p2,vI I.2.1]] _ _ _ E go_157 E (fun W2 u=>oo y2 (Ts.mk p2 I.2.1) r y W2 t ((MpL.own 1 E) W2 u)) ?_
    rintro⟨Z,fE,V⟩ Q
    replace Q:fE=r.fLegs.length:=Q;subst Q
    try dsimp only[lna,lca,lsz,lss]
    refine sR ?_
    refine nx 6 5 (by decide) E E ?_
    refine aR 1 (encL cf [((Z,r.fLegs.length,V),r)]) _ mc_29_1 sD la by_29 (by decide) (by decide) (by kernel_rfl) (eL bk E) E (fun fn=>?_)
    try dsimp only[lna,lca,lsz,lss]
    obtain⟨b,h⟩:=gOs h
    refine nx 4 6 (by decide) E E ?_
    refine cC 3 sD la by_29 E E E (RdL.row 7 E) (eL bk (NestP.hn (NestP.cons (sel:=(fun z:TJ=>z.fLegs)) E NestP.nil) E)) (eh lr _) (eS b (by decide)) E (fun fG fH=>?_)
    refine oY E (yAS E) (oN (eT (cR (oY E (yMI E) (oY E (yAI E) (oN (aw (eT (cR (oY E (aM E E) (oY E (yMI E) (oN (aT 5 ?_)))))))))))))
    obtain rfl:=sI h
    exact eN ⟨_,fG,fH,(I.2.2.length+1),(f++[((Z,r.fLegs.length,V),r)]),pg F3_s11 (pg noR (aP Z V 132 2 r.fLegs.length (encL TLeg_cells r.fLegs))),(ju E E),(NestP.app g (NestP.cons (sel:=(fun z:TJ=>z.fLegs)) E NestP.nil)),(PvL.app (PvL.mono (Hb:=(fun W4=>Hb W4∧Res.holds F3_s11 W4)) o (fun _ _ h=>⟨h.1,h.2.1⟩)) (PvL.mono (Hb:=(fun W4=>Hb W4∧Res.holds (pg noR (aP Z V 132 2 r.fLegs.length (encL TLeg_cells r.fLegs))) W4)) (PvL.cons (fun _ _ h=>eE h.2.2.1) (PvL.mono (Hb:=(fun W4=>Hb W4∧Res.holds noR W4)) PvL.nil (fun _ _ h=>⟨h.1,h.2.1⟩))) (fun _ _ h=>⟨h.1,h.2.2.1⟩))),E,(kp4 (kp (kp (kp E))))⟩
   ·refine cF (vB O) (cK (eT (cR (oY E (yMI E) (oY E (yAI E) (oN (aw (eT (cR (oY E (aM E E) (oY E (yMI E) (oN ?_))))))))))))
    obtain rfl:=sI h
    exact eN ⟨_,D,F,I.2.2.length,f,F3_s11,E,g,o,E,(kp4 (kp (kp (kp E))))⟩
  ·refine cF (vB N) (aD (aj ?_))
   obtain rfl:=sI h
   exact au ⟨E,_,D,F,I.2.2.length,f,F3_s11,E,g,o,E,(kp4 (kp (kp (kp E))))⟩
 ·intro e L tm hJ
  obtain⟨rfl,c,G,H,f3,U,F3_u12,rfl,X,Y,rfl,rfl⟩:=hJ
  refine⟨(by intro hc;cases hc),?_⟩
  refine ae (eT (cS (cR (oY E (yMS E) (oY E (yAS E) (oN (eT (am ?_))))))))
  obtain rfl:=sI h
  exact ak (.inl E) E (rVt (v:=.slice G i.2.2.length H) E) (fun W2 u=>⟨((G,i.2.2.length,H),U,F3_u12),⟨E,X,Y⟩,E,u.pickL [3,4] (by decide) E⟩)
theorem kq (p0:TR) (p1:Int) (p2:Int) (p3:Int) (p4:Int) (res:(TJ × Bool)) (h:kM p0 p1 p2 p3 p4=some res) (W:World) (Ab:Option Addr) (M cb:Nat) (H:List (Hd × TT)) (X:M=p0.fTracks.length) (Y:Rd W Ab M cb (encL TTrack_cells2 H)) (Z:NestW W (fun z:TT=>z.fK) TSpan_cells H p0.fTracks) (wb:World) (Hb:World→Prop) (hB:∀W3,Below W.heap.size W W3→Below wb.heap.size wb W3∧Hb W3) :
  Calls Tryz.prog 71 [.agg #[vI p0.fPlaces,.slice Ab M cb],vI p1,vI p2,vI p3,vI p4].toArray W fun e W2=>∃x:(Hd × Res),(x.1.2.1=res.1.fLegs.length∧Pv TLeg_cells wb (fun W4=>Hb W4∧Res.holds x.2 W4) x.1 res.1.fLegs)∧e=.returned (.tuple #[.agg #[.slice x.1.1 x.1.2.1 x.1.2.2,vI res.1.fA,vI res.1.fToll],.bool res.2])∧Ext W W2 [x.2]:=by
 subst X
 unfold kM at h
 refine ag (m:=34) Tryz.func71 E E (nB E) (cS (cR ?_))
 refine aI [vI p0.fPlaces,.slice Ab p0.fTracks.length cb] E E E (fun k=>?_)
 refine aF la E (fun t=>?_)
 refine oY E (yAB E) (oN (eT (cS (cR ?_))))
 refine aF la E (fun a=>?_)
 refine oN (eT (cS (cR (oY E (yAB E) (oN (eT (cS (cS (cR (oY E (yN 0 [vI p0.fPlaces,.slice Ab p0.fTracks.length cb] dh E E E) (oY E (yMI E) (oY E (yMI E) (oY E (yMI E) ?_)))))))))))))
 obtain⟨F,q,h⟩:=bOs h
 refine oC [.agg #[vI p0.fPlaces,.slice Ab p0.fTracks.length cb],vI p1,vI p2,vI p3] _ _ _ E go_119 E (fun W2 N=>mj p0 p1 p2 p3 F q W2 Ab p0.fTracks.length cb H E ((RdL.arg Y) W2 N) (NestL.at (NestL.arg Z) W2 N) wb Hb (fun W3 hb=>hB W3 (f0 N.below hb)) ) ?_
 rintro⟨⟨p,n,i⟩,g,F14⟩ ⟨O,G,V⟩
 replace O:n=F.length:=O;subst O
 refine oY E (bg (us:=[]) sD E) (oY E (yMI E) (oN (eT (cB ?_))))
 obtain⟨d,T,h⟩:=bOs h
 refine bi (fun(s:(Bool × Int × (List TLeg) × Int × Int)) L tm=>∃(l:Nat→Value) (I:Option Addr) (K:Nat),Pv TLeg_cells wb (fun W4=>Hb W4∧Res.holds F14 W4) (I,s.2.2.1.length,K) s.2.2.1∧L=[al k 24 [vI p0.fPlaces,.slice Ab p0.fTracks.length cb],al t 29 [.slice none 0 0,vI 0,vI 0],al a 29 [.slice I s.2.2.1.length K,vI s.2.2.2.1,vI s.2.2.2.2],aP p i 29 3 F.length (encL cf g),F14]∧tm=(upd (upd (upd (upd (upd (upd (upd (upd l 4 (vI p4)) 10 (.pointer (some ⟨t,0,none⟩))) 11 (.bool false)) 12 (.pointer (some ⟨a,0,none⟩))) 13 (.bool s.1)) 20 (.slice p F.length i)) 21 (vI (F.length:Int))) 22 (vI s.2.1))) 0 T ⟨_,none,0,(Pv.mono (Hb:=Hb) (Pv.nil E) (fun _ _ h=>h.1)),E,(kp4 (kp4 E))⟩ ?_ ?_
 ·rintro f L tm st ⟨S,w,D,hR2_0_s18,rfl,rfl⟩ h
  unfold ng at h
  refine cS (cR (oY E (a6 E E) (oN (eT (cS ?_)))))
  rcases iOs h with⟨Q,h⟩|⟨Q,h⟩
  ·refine cT (vB Q) (cK (eT (cS (cB (cS (cR ?_))))))
   obtain⟨u,h⟩:=gOs h
   refine oY E (yI sk (by decide) u.1 u.2 (RdL.row 3 E) (eL bk (NestP.hn G E)) E E) ?_
   refine oY E (yM (A:=p) (j:=(Int.toNat f.2.1*3)) [.slice ((rdL g f.2.1).1.1) ((rdL F f.2.1).fLegs.length) ((rdL g f.2.1).1.2.2),vI ((rdL F f.2.1).fA),vI ((rdL F f.2.1).fToll)] lE (Nat.succ_pos _) (RdL.row 3 E) E (iM (lO (NestP.snd G f.2.1) (NestP.len G u.1 (ai u.2 E))).symm (be bk u.1 (ai u.2 (NestP.hn G E))))) ?_
   refine aF la E (fun y=>?_)
   try dsimp only[lna,lca,lsz,lss]
   refine co E (yS 5 [.slice ((rdL g f.2.1).1.1) ((rdL F f.2.1).fLegs.length) ((rdL g f.2.1).1.2.2),vI ((rdL F f.2.1).fA),vI ((rdL F f.2.1).fToll)] mz E (nB E) E E E) (oN (eT (cS (cR (oY E (yFA n2 E) (oY E (yL 5 aN E E E) (oY E (yMI E) (oY E (iA E E) (oN (eT ?_))))))))))
   rcases iOs h with⟨U,h⟩|⟨U,h⟩
   ·refine cT (vB U) (cR (oY E (yN 5 [.slice ((rdL g f.2.1).1.1) ((rdL F f.2.1).fLegs.length) ((rdL g f.2.1).1.2.2),vI ((rdL F f.2.1).fA),vI ((rdL F f.2.1).fToll)] lE E E E) (co E (yS 2 [.slice ((rdL g f.2.1).1.1) ((rdL F f.2.1).fLegs.length) ((rdL g f.2.1).1.2.2),vI ((rdL F f.2.1).fA),vI ((rdL F f.2.1).fToll)] mz E (nB E) E E E) (oY E (yAB E) (oN (aw (eT (cR (oY E (aM E E) (oY E (yMI E) (oN (aT 5 ?_))))))))))))
    obtain rfl:=sI h
    exact eN ⟨_,(rdL g f.2.1).1.1,(rdL g f.2.1).1.2.2,(PvL.get V G u.1 (ai u.2 E)),E,(kp4 (kp4 E))⟩
   ·refine cF (vB U) (cK (aw (eT (cR (oY E (aM E E) (oY E (yMI E) (oN (aT 5 ?_))))))))
    obtain rfl:=sI h
    exact eN ⟨_,w,D,hR2_0_s18,E,(kp4 (kp4 E))⟩
  ·refine cF (vB Q) (aD (aj ?_))
   obtain rfl:=sI h
   exact au ⟨E,_,w,D,hR2_0_s18,E,(kp4 (kp4 E))⟩
 ·intro e L tm hJ
  obtain⟨rfl,R,o,r,hR2_0_u19,rfl,rfl⟩:=hJ
  refine⟨(by intro hc;cases hc),?_⟩
  refine ae (eT (cS (cR (oY E (yN 2 [.slice o d.2.2.1.length r,vI d.2.2.2.1,vI d.2.2.2.2] lE E E E) (oY E (yMB E) (co E (yS 1 [.slice o d.2.2.1.length r,vI d.2.2.2.1,vI d.2.2.2.2] mz E (nB E) E E E) (oY E (yAB E) (oN (eT (am ?_))))))))))
  obtain rfl:=sI h
  exact bJ (.inl E) E (bO 1 [.slice o d.2.2.1.length r,vI d.2.2.2.1,vI d.2.2.2.2] lE E E E) (rVt (v:=.bool d.1) E) (fun W2 N=>⟨((o,d.2.2.1.length,r),F14),⟨E,hR2_0_u19⟩,E,N.pickL [4] (by decide) E⟩)
theorem m3 (p0:TR) (p1:Int) (p2:Int) (p3:Int) (p4:Int) (res:(TJ × Int)) (h:lQ p0 p1 p2 p3 p4=some res) (W:World) (Ab:Option Addr) (r cb:Nat) (g:List (Hd × TT)) (H:r=p0.fTracks.length) (u:Rd W Ab r cb (encL TTrack_cells2 g)) (d:NestW W (fun z:TT=>z.fK) TSpan_cells g p0.fTracks) (wb:World) (Hb:World→Prop) (hB:∀W3,Below W.heap.size W W3→Below wb.heap.size wb W3∧Hb W3) :
  Calls Tryz.prog 18 [.agg #[vI p0.fPlaces,.slice Ab r cb],vI p1,vI p2,vI p3,vI p4].toArray W fun e W2=>∃x:(Hd × Res),(x.1.2.1=res.1.fLegs.length∧Pv TLeg_cells wb (fun W4=>Hb W4∧Res.holds x.2 W4) x.1 res.1.fLegs)∧e=.returned (.tuple #[.agg #[.slice x.1.1 x.1.2.1 x.1.2.2,vI res.1.fA,vI res.1.fToll],vI res.2])∧Ext W W2 [x.2]:=by
 subst H
 unfold lQ at h
 refine ag (m:=38) Tryz.func18 E E (nB E) (cS (cR ?_))
 refine aI [vI p0.fPlaces,.slice Ab p0.fTracks.length cb] E E E (fun X=>?_)
 refine aF la E (fun Y=>?_)
 refine oY E (yAI E) (oN (eT (cS (cS (cR (oY E (yN 0 [vI p0.fPlaces,.slice Ab p0.fTracks.length cb] dh E E E) (oY E (yMI E) (oY E (yMI E) (oY E (yMI E) (oY E (yMI E) ?_))))))))))
 obtain⟨Q,M,h⟩:=bOs h
 refine oY E (yC [.agg #[vI p0.fPlaces,.slice Ab p0.fTracks.length cb],vI p1,vI p2,vI p3,vI p4] tj E (fun W2 f=>eR p0 p1 p2 p3 p4 Q M W2 Ab p0.fTracks.length cb g E ((RdL.arg u) W2 f) (NestL.at (NestL.arg d) W2 f)) E) (oY E (yAI E) (oN (eT (cS (cR (oY E (yMI E) (oY E (cU E E) (oN (eT ?_)))))))))
 rcases iOs h with⟨I,h⟩|⟨I,h⟩
 ·refine cT (vB I) (cS (cR ?_))
  refine oY E (bc [.slice none 0 0,vI 0,vI 0] [(0,1),(1,1),(2,1)] ust_29 la (by kernel_rfl)) ?_
  refine oY E (yMI E) (co E (yS 1 [.slice none 0 0,vI 0,vI 0] mz E (nB E) E E E) (oY E (yAI E) (oN (eT (am (aa ?_))))))
  obtain rfl:=sI h
  exact bJ (.inl E) E (bO 1 [.slice none 0 0,vI 0,vI 0] lE E E E) (rVt (v:=vI Q) E) (fun W2 f=>⟨((none,0,0),noR),⟨E,(Pv.mono (Hb:=Hb) (Pv.nil E) (fun _ _ h=>h.1))⟩,E,f.addNo.pickL [2] (by decide) E⟩)
 ·refine cF (vB I) (cK (eT (cS (cR (oY E (yN 0 [vI p0.fPlaces,.slice Ab p0.fTracks.length cb] dh E E E) (oY E (yMI E) (oY E (yMI E) (oY E (yMI E) (oY E (yMI E) ?_)))))))))
  obtain⟨o,N,h⟩:=bOs h
  refine oC [.agg #[vI p0.fPlaces,.slice Ab p0.fTracks.length cb],vI p1,vI p2,vI p3,vI p4] _ _ _ E go_71 E (fun W2 f=>kq p0 p1 p2 p3 p4 o N W2 Ab p0.fTracks.length cb g E ((RdL.arg u) W2 f) (NestL.at (NestL.arg d) W2 f) wb Hb (fun W3 hb=>hB W3 (f0 f.below hb)) ) ?_
  rintro⟨⟨w,O,D⟩,F14⟩ ⟨F,K⟩
  replace F:O=o.1.fLegs.length:=F;subst F
  refine oY E (aU E) (oY E (yE E E) (oY E (yE E E) ?_))
  refine aF la E (fun U=>?_)
  refine co E (yS 3 [.slice w o.1.fLegs.length D,vI o.1.fA,vI o.1.fToll] mz E (nB E) E E E) (oY E (yAB E) (oN (eT (cS (cS (cR (oY E (yMB E) (oY E (bw E) (oN (eT ?_))))))))))
  rcases iOs h with⟨G,h⟩|⟨G,h⟩
  ·refine cT (vB G) (cS (cR ?_))
   refine oY E (bc [.slice none 0 0,vI 0,vI 0] [(0,1),(1,1),(2,1)] ust_29 la (by kernel_rfl)) ?_
   refine co E (yS 1 [.slice none 0 0,vI 0,vI 0] mz E (nB E) E E E) (oY E (yAI E) (oN (eT (am (aa ?_)))))
   obtain rfl:=sI h
   exact bJ (.inl E) E (bO 1 [.slice none 0 0,vI 0,vI 0] lE E E E) (rVt (v:=vI 5) E) (fun W2 f=>⟨((none,0,0),noR),⟨E,(Pv.mono (Hb:=Hb) (Pv.nil E) (fun _ _ h=>h.1))⟩,E,f.addNo.pickL [4] (by decide) E⟩)
  ·refine cF (vB G) (cK (eT (cS (cR (oY E (yN 3 [.slice w o.1.fLegs.length D,vI o.1.fA,vI o.1.fToll] lE E E E) (co E (yS 1 [.slice w o.1.fLegs.length D,vI o.1.fA,vI o.1.fToll] mz E (nB E) E E E) (oY E (yAI E) (oN (eT (am ?_))))))))))
   obtain rfl:=sI h
   exact bJ (.inl E) E (bO 1 [.slice w o.1.fLegs.length D,vI o.1.fA,vI o.1.fToll] lE E E E) (rVt (v:=vI 0) E) (fun W2 f=>⟨((w,o.1.fLegs.length,D),F14),⟨E,K⟩,E,f.pickL [2] (by decide) E⟩)
theorem nn (p0:Int) (g:TR) (w:Int) (D:Int) (F:Int) (G:Int) (res:Bool) (h:jJ p0 g w D F G=some res) (W:World) (O:Nat) (o:Option Addr) (d r:Nat) (u:List (Hd × TT)) (H:d=g.fTracks.length) (I:Rd W o d r (encL TTrack_cells2 u)) (K:NestW W (fun z:TT=>z.fK) TSpan_cells u g.fTracks) (Q:Rd W (some ⟨O,0,none⟩) 1 1 [vI g.fPlaces,.slice o d r]) (U:Nat) (X:Rd W (some ⟨U,0,none⟩) 1 1 (cI w)) (Y:Nat) (Z:Rd W (some ⟨Y,0,none⟩) 1 1 (cI D)) (V:Nat) (T:Rd W (some ⟨V,0,none⟩) 1 1 (cI F)) (S:Nat) (R:Rd W (some ⟨S,0,none⟩) 1 1 (cI G)) :
  Calls Tryz.prog 72 [vI p0,.pointer (some ⟨O,0,none⟩),.pointer (some ⟨U,0,none⟩),.pointer (some ⟨Y,0,none⟩),.pointer (some ⟨V,0,none⟩),.pointer (some ⟨S,0,none⟩)].toArray W fun e W2=>e=.returned (.bool res)∧Ext W W2 []:=by
 subst H
 unfold jJ at h
 refine ag (m:=26) Tryz.func72 E E (nB E) (cS (cR (oY E (yAB E) (oN (eT (cS (cR (oY E (yM (A:=(some ⟨O,0,none⟩)) (j:=0) [vI g.fPlaces,.slice o g.fTracks.length r] dh (Nat.succ_pos _) (RdL.arg Q) E (pP E)) (oY E (yR (A:=(some ⟨U,0,none⟩)) (j:=0) (v:=vI w) aN (RdL.arg X) E E) (oY E (yR (A:=(some ⟨Y,0,none⟩)) (j:=0) (v:=vI D) aN (RdL.arg Z) E E) (oY E (yMI E) (oY E (yR (A:=(some ⟨V,0,none⟩)) (j:=0) (v:=vI F) aN (RdL.arg T) E E) ?_))))))))))))
 obtain⟨N,n,h⟩:=bOs h
 refine oC [.agg #[vI g.fPlaces,.slice o g.fTracks.length r],vI w,vI D,vI p0,vI F] _ _ _ E go_71 E (fun W2 M=>kq g w D p0 F N n W2 o g.fTracks.length r u E ((RdL.arg I) W2 M) (NestL.at (NestL.arg K) W2 M) W (fun _=>True) (fun W3 hb=>⟨f0 M.below hb,trivial⟩) ) ?_
 rintro⟨⟨t,a,i⟩,F9⟩ ⟨q,l⟩
 replace q:a=N.1.fLegs.length:=q;subst q
 refine oY E (aU E) (oY E (yE E E) (oY E (yE E E) ?_))
 refine aF la E (fun k=>?_)
 refine co E (yS 1 [.slice t N.1.fLegs.length i,vI N.1.fA,vI N.1.fToll] mz E (nB E) E E E) (oY E (yAB E) (oN (eT (cS (cR (oY E (yMB E) (oY E (yMB E) ?_)))))))
 refine oJ 5 (fun p=>(upd (upd p 7 (.bool false)) 25 (.bool (N.2&&(decide (N.1.fA≤G)))))) (fun p=>?_) (fun key=>?_)
 ·refine oY E (yAB E) (oN (eT (am ?_)))
  obtain rfl:=sI h
  exact ak (.inl E) E (rVt (v:=.bool (N.2&&(decide (N.1.fA≤G)))) E) (fun W2 M=>⟨E,M.none⟩)
 ·rcases aq N.2 with f|f
  ·refine oY (sT E E E E f) (yFA lv E) (oY (sT E E E E f) (yL 1 aN E E E) (oY (sT E E E E f) (yR (A:=(some ⟨S,0,none⟩)) (j:=0) (v:=vI G) aN (RdL.arg R) E E) (oY (sT E E E E f) (iA E E) (oY E (ac (vB f) E) ?_))))
   exact key _ _ (keep (keep E E) (vB (eU f)))
  ·refine oSk (sF E E E E f) (oSk (sF E E E E f) (oSk (sF E E E E f) (oSk (sF E E E E f) (oY E (ad (vB f) E) ?_))))
   exact key _ _ (keep (keep E E) (vB (eY f)))
theorem pe (p0:TR) (p1:Int) (p2:Int) (p3:Int) (p4:Int) (res:(Int × Int)) (h:lq p0 p1 p2 p3 p4=some res) (W:World) (Ab:Option Addr) (o cb:Nat) (g:List (Hd × TT)) (G:o=p0.fTracks.length) (r:Rd W Ab o cb (encL TTrack_cells2 g)) (u:NestW W (fun z:TT=>z.fK) TSpan_cells g p0.fTracks) :
  Calls Tryz.prog 19 [.agg #[vI p0.fPlaces,.slice Ab o cb],vI p1,vI p2,vI p3,vI p4].toArray W fun e W2=>e=.returned (.tuple #[vI res.1,vI res.2])∧Ext W W2 []:=by
 subst G
 unfold lq at h
 refine ag (m:=45) Tryz.func19 E E (nB E) (cS (cR ?_))
 refine aI [vI p0.fPlaces,.slice Ab p0.fTracks.length cb] E E E (fun I=>?_)
 refine aI [vI p1] E E E (fun K=>?_)
 refine aI [vI p2] E E E (fun M=>?_)
 refine aI [vI p3] E E E (fun N=>?_)
 refine aI [vI p4] E E E (fun O=>?_)
 refine oY E (yAI E) (oY E (yAI E) (oN (eT (cS (cS (cR (oY E (yN 0 [vI p0.fPlaces,.slice Ab p0.fTracks.length cb] dh E E E) (oY E (yL 1 aN E E E) (oY E (yL 2 aN E E E) (oY E (yL 3 aN E E E) (oY E (yL 4 aN E E E) ?_)))))))))))
 obtain⟨R,Z,h⟩:=bOs h
 refine oY E (yC [.agg #[vI p0.fPlaces,.slice Ab p0.fTracks.length cb],vI p1,vI p2,vI p3,vI p4] tj E (fun W2 f=>eR p0 p1 p2 p3 p4 R Z W2 Ab p0.fTracks.length cb g E ((RdL.arg r) W2 f) (NestL.at (NestL.arg u) W2 f)) E) (oY E (yAI E) (oN (eT (cS (cR (oY E (yMI E) (oY E (cU E E) (oN (eT ?_)))))))))
 rcases iOs h with⟨H,h⟩|⟨H,h⟩
 ·refine cT (vB H) (cS (cR (oY E (yMI E) (oY E (yAI E) (oY E (yAI E) (oN (eT (am (aa ?_)))))))))
  obtain rfl:=sI h
  exact bJ (.inl E) E (rVt (v:=vI 0) E) (rVt (v:=vI R) E) (fun W2 f=>⟨E,f.none⟩)
 ·refine cF (vB H) (cK (eT (cS (cR (oY E (bV [.pointer (some ⟨I,0,none⟩),.pointer (some ⟨K,0,none⟩),.pointer (some ⟨M,0,none⟩),.pointer (some ⟨O,0,none⟩),.pointer (some ⟨N,0,none⟩)] E E) (oY E (eZ E) (oN (eT (cS ?_)))))))))
  refine aX 3 bZ (by kernel_rfl) (by kernel_rfl) ?_
  refine qY E (yL 3 aN E E E) (qY E (yAI E) (qY E (yAI E) (bF (oN (eT (cS (cB ?_)))))))
  obtain⟨V,Q,h⟩:=bOs h
  refine bi (fun(s:(Int × Int)) L tm=>∃(T:Nat→Value),L=[al I 24 [vI p0.fPlaces,.slice Ab p0.fTracks.length cb],al K 3 [vI p1],al M 3 [vI p2],al N 3 [vI p3],al O 3 [vI p4]]∧tm=(upd (upd (upd (upd (upd T 10 (vI 0)) 11 (vI 0)) 13 (.func (.func 72) #[] #[.pointer (some ⟨I,0,none⟩),.pointer (some ⟨K,0,none⟩),.pointer (some ⟨M,0,none⟩),.pointer (some ⟨O,0,none⟩),.pointer (some ⟨N,0,none⟩)])) 14 (vI s.1)) 15 (vI s.2))) 0 Q ⟨_,E,(kp4 (kp E))⟩ ?_ ?_
  ·rintro F L tm st ⟨U,rfl,rfl⟩ h
   unfold ll at h
   refine cS (cS (cR (oY E (yMI E) (oY E (yMI E) (oY E (iA E E) (oN (eT ?_)))))))
   rcases iOs h with⟨d,h⟩|⟨d,h⟩
   ·refine cT (vB d) (cK (eT (cB (cS (cR (oY E (yMI E) (oY E (yMI E) (oY E (aM E E) ?_))))))))
    refine oY E (y_quo (by decide) E E) ?_
    refine oY E (yAI E) (oN (eT (cS (cR (oY E (di E) (oY E (yMI E) ?_))))))
    obtain⟨S,X,h⟩:=bOs h
    refine oY E (ol (caps:=[.pointer (some ⟨I,0,none⟩),.pointer (some ⟨K,0,none⟩),.pointer (some ⟨M,0,none⟩),.pointer (some ⟨O,0,none⟩),.pointer (some ⟨N,0,none⟩)]) [vI (w64 (Int.tdiv (w64 (F.1+F.2)) 2))] go_72 E E (fun W2 f=>nn (w64 (Int.tdiv (w64 (F.1+F.2)) 2)) p0 p1 p2 p4 p3 S X W2 I Ab p0.fTracks.length cb g E ((RdL.arg r) W2 f) (NestL.at (NestL.arg u) W2 f) ((RdL.cells 0 E) W2 f) K ((RdL.cells 1 E) W2 f) M ((RdL.cells 2 E) W2 f) O ((RdL.cells 4 E) W2 f) N ((RdL.cells 3 E) W2 f))) (oN (eT ?_))
    rcases iOs h with⟨w,h⟩|⟨w,h⟩
    ·refine cT (vB w) (cR (oY E (yMI E) (oY E (aM E E) (oY E (yAI E) (oN (aw ?_))))))
     obtain rfl:=sI h
     exact eN ⟨_,E,(kp4 (kp E))⟩
    ·refine cF (vB w) (cR (oY E (yMI E) (oY E (fe E E) (oY E (yAI E) (oN (aw ?_))))))
     obtain rfl:=sI h
     exact eN ⟨_,E,(kp4 (kp E))⟩
   ·refine cF (vB d) (aD (aj ?_))
    obtain rfl:=sI h
    exact au ⟨E,_,E,(kp4 (kp E))⟩
  ·intro e L tm hJ
   obtain⟨rfl,Y,rfl,rfl⟩:=hJ
   refine⟨(by intro hc;cases hc),?_⟩
   refine ae (eT (cS (cS (cR (oY E (yMI E) (oY E (a6 E E) (oN (eT ?_))))))))
   rcases iOs h with⟨D,h⟩|⟨D,h⟩
   ·refine cT (vB D) (cS (cR (oY E (yAI E) (oY E (yAI E) (oN (eT (am (aa ?_))))))))
    obtain rfl:=sI h
    exact bJ (.inl E) E (rVt (v:=vI 0) E) (rVt (v:=vI 5) E) (fun W2 f=>⟨E,f.none⟩)
   ·refine cF (vB D) (cK (eT (cS (cR (oY E (yMI E) (oY E (yAI E) (oY E (yAI E) (oN (eT (am ?_))))))))))
    obtain rfl:=sI h
    exact bJ (.inl E) E (rVt (v:=vI V.2) E) (rVt (v:=vI 0) E) (fun W2 f=>⟨E,f.none⟩)
theorem io (p0:(List TT)) (p1:Int) (p2:Int) (res:(List TT)) (h:de p0 p1 p2=some res) (W:World) (H:World) (R:Res) (Aa:Option Addr) (u ca:Nat) (f:List (Hd × TT)) (D:u=p0.length) (g:NestP (fun z:TT=>z.fK) f p0) (I:PvL (fun z:TT=>z.fK) TSpan_cells H (fun W4=>Res.holds R W4) f) (hW:Ext H W [R,aP Aa ca 120 6 u (encL TTrack_cells2 f)]) :
  Calls Tryz.prog 79 [.slice Aa u ca,vI p1,vI p2].toArray W fun e W2=>∃x:Nat × List (Hd × TT),(x.1=res.length∧NestP (fun z:TT=>z.fK) x.2 res∧∀y∈x.2,y∈f)∧e=.returned (.slice Aa x.1 ca)∧Ext H W2 [R,aP Aa ca 120 6 x.1 (encL TTrack_cells2 x.2)]:=by
 subst D
 unfold de at h
 refine a4 (m:=33) Tryz.func79 E E (nB E) hW (cS (cR (oY E (yAS E) (oN (eT (cS (cR (oY E (yMS E) (oY E (yMI E) (oY E (yMI E) (oY E (yMS E) (oY E (bg (us:=[]) ij E) ?_))))))))))))
 obtain⟨d,h⟩:=gOs h
 refine oY E (y_cut3 iI d.1 d.2.1 d.2.2.1 d.2.2.2 (RdL.row 1 E) E E E E) (oN (eT (cS (cS (cR (oY E (yMI E) (oY E (yMI E) (oY E (cL E E) (oN (eT ?_))))))))))
 rcases iOs h with⟨F,h⟩|⟨F,h⟩
 ·refine cT (vB F) (cS (cR (oY E (yMS E) (oY E (yAS E) (oN (eT (am (aa ?_))))))))
  obtain rfl:=sI h
  exact ak (.inl E) E (rVt (v:=.slice Aa p0.length ca) E) (fun W2 G=>⟨(p0.length,f),⟨E,g,(fun y hy=>hy)⟩,E,G.take 2⟩)
 ·refine cF (vB F) (cK (eT (cS (cR (oY E (yMS E) (oY E (bg (us:=[]) ij E) (oY E (yAI E) (oN (eT (cS ?_))))))))))
  refine aX 6 bZ (by kernel_rfl) (by kernel_rfl) ?_
  refine qY E (yMS E) (qY E (yMI E) ?_)
  obtain⟨o,h⟩:=gOs h
  refine qY E (y_cutH iI o.1 o.2 (RdL.row 1 E) E E) (qY E (yMS E) (qY E (yMI E) ?_))
  obtain⟨r,h⟩:=gOs h
  refine qY E (y_cutL iI r.1 r.2 (RdL.row 1 E) E E) (bF ?_)
  obtain⟨w,h⟩:=gOs h
  refine nb 1 ar jA ij g0 sh E (NestP.hn g E) o.1 w r.2 E E E (oY E (yAS E) (oN (eT (cS (cR (oY E (yMS E) (oY E (yMS E) (oY E (bg (us:=[]) ij E) (oY E (yMI E) ?_)))))))))
  refine oY E (y_cutO iI (by omega) (by have h8:=(l9 o.1 w r.2);omega) (by have h9:=(eE (hW.mem (i:=1) E)).cap;omega) E E E) ?_
  refine co E (rZ 1 ij g0 E (by decide) E E (by have h8:=(l9 o.1 w r.2);have h9:=(eE (hW.mem (i:=1) E)).cap;simp only[Int.toNat_natCast];omega) E) ?_
  refine oN (eT (cS (cR (oY E (yMS E) (oY E (yAS E) (oN (eT (am ?_))))))))
  obtain rfl:=sI h
  exact ak (.inl E) E (rVt (v:=.slice Aa (Int.toNat p1+(p0.length-Int.toNat p2)) ca) E) (fun W2 G=>⟨((Int.toNat p1+(p0.length-Int.toNat p2)),(f.take (Int.toNat p1)++f.drop (Int.toNat p2))),⟨(pA o.1 w r.2 E),(NestP.app (NestP.take _ g) (NestP.drop _ g)),(fun y hy=>(fun y hy=>hy) y (ti y hy))⟩,E,G.take 2⟩)
theorem iB (p0:(List TT)) (res:(List TT)) (h:bG p0=some res) (W:World) (Aa:Option Addr) (o ca:Nat) (f:List (Hd × TT)) (d:o=p0.length) (r:Rd W Aa o ca (encL TTrack_cells2 f)) (g:NestW W (fun z:TT=>z.fK) TSpan_cells f p0) :
  Calls Tryz.prog 80 [.slice Aa o ca].toArray W fun e W2=>∃x:(Option Addr × Nat × Nat),(x.2.1=res.length∧NestP (fun z:TT=>z.fK) f res)∧e=.returned (.slice x.1 x.2.1 x.2.2)∧Ext W W2 [aP x.1 x.2.2 120 6 x.2.1 (encL TTrack_cells2 f)]:=by
 subst d
 unfold bG at h
 refine ag (m:=8) Tryz.func80 E E (nB E) (cS (cR (oY E (yAS E) (oN (eT (cS (cS (cR (oY E (yMS E) (oY E (qD ij E E) (oN (eT ?_))))))))))))
 rcases aq (Option.isNone Aa)with u|u
 ·refine cT (vB u) ?_
  have z6:=pV (Option.isNone_iff_eq_none.1 u▸r) ar (by decide)
  replace h:=(gOs h).2
  subst z6
  have z2:p0=[]:=g.p.eq.symm
  subst z2
  refine cS (cR (oY E (yAS E) (oN (eT (am (aa ?_))))))
  obtain rfl:=sI h
  exact ak (.inl E) E (rVt (v:=.slice none 0 0) E) (fun W2 w=>⟨(none,0,0),⟨E,NestP.nil⟩,E,(w.nilrow 120 6).pickL [0] (by decide) E⟩)
 ·refine cF (vB u) (cK (eT (cS (cR ?_))))
  refine gL TTrack_cells2 ij g0 sh E (fun H=>?_)
  refine oY E (yMS E) ?_
  obtain⟨D,h⟩:=gOs h
  refine cC 0 ij g0 sh E E E (RdL.arg r) (eL ar (NestP.hn g.p E)) (eh jA _) (eS D (by decide)) E (fun F G=>?_)
  refine oY E (yAS E) (oN (eT (am ?_)))
  obtain rfl:=sI h
  exact ak (.inl E) E (rVt (v:=.slice F (0+p0.length) G) E) (fun W2 w=>⟨(F,(0+p0.length),G),⟨(ju E E),(NestP.app NestP.nil g.p)⟩,E,w.pickL [0] (by decide) E⟩)
theorem iV {p:List TT} {res:List TT} {ys:List (Hd × TT)} {sel:TT→List TSpan} (h:bG p=some res) (hN:NestP sel ys p):NestP sel ys res:=by
 unfold bG at h
 have h2:=Option.some.inj (gOs h).2
 rw[lna]at h2
 exact h2▸hN
theorem fI (p0:Int) (res:Bool) (h:dQ p0=some res) (W:World)  :
  Calls Tryz.prog 176 [vI p0].toArray W fun e W2=>e=.returned (.bool res)∧Ext W W2 []:=by
 unfold dQ at h
 refine ag (m:=6) Tryz.func176 E E (nB E) (cS (cR (oY E (yAB E) (oN (eT (cS (cR (oY E (yMI E) (oY E (yMI E) (oY E (cU E E) (oY E (yAB E) (oN (eT (am ?_))))))))))))))
 obtain rfl:=sI h
 exact ak (.inl E) E (rVt (v:=.bool (p0 !=p0)) E) (fun W2 f=>⟨E,f.none⟩)
theorem n5 (p0:Int) (p1:Int) (res:Bool) (h:gZ p0 p1=some res) (W:World)  :
  Calls Tryz.prog 168 [vI p0,vI p1].toArray W fun e W2=>e=.returned (.bool res)∧Ext W W2 []:=by
 unfold gZ at h
 refine ag (m:=17) Tryz.func168 E E (nB E) (cS (cR (oY E (yAB E) (oN (eT (cS (cR (oY E (yMI E) ?_))))))))
 obtain⟨F,d,h⟩:=bOs h
 refine oY E (yC [vI p0] rY E (fun W2 r=>fI p0 F d W2 ) E) (oY E (yMB E) ?_)
 obtain⟨u,w,h⟩:=bOs h
 refine oJ 4 (fun o=>(upd (upd (upd (upd o 0 (vI p0)) 1 (vI p1)) 4 (.bool false)) 11 (.bool u))) (fun o=>?_) (fun key=>?_)
 ·refine oY E (yMB E) ?_
  refine oJ 4 (fun o=>(upd (upd o 4 (.bool false)) 16 (.bool (u||(decide (p0<p1)))))) (fun o=>?_) (fun key=>?_)
  ·refine oY E (yAB E) (oN (eT (am ?_)))
   obtain rfl:=sI h
   exact ak (.inl E) E (rVt (v:=.bool (u||(decide (p0<p1)))) E) (fun W2 r=>⟨E,r.none⟩)
  ·rcases aq u with f|f
   ·refine oSk (sF E E E E f) (oSk (sF E E E E f) (oSk (sF E E E E f) (oY E (ac (vB f) E) ?_)))
    exact key _ _ (keep (keep E E) (vB (iy f)))
   ·refine oY (sT E E E E f) (yMI E) (oY (sT E E E E f) (yMI E) (oY (sT E E E E f) (a6 E E) (oY E (ad (vB f) E) ?_)))
    exact key _ _ (keep (keep E E) (vB (iw f)))
 ·clear h;rcases iOs w with⟨g,h⟩|⟨g,h⟩
  ·refine oY (sT E E E E g) (yMI E) ?_
   obtain⟨G,D,h⟩:=bOs h
   refine oY (sT E E E E g) (yC [vI p1] rY E (fun W2 r=>fI p1 G D W2 ) E) (oY (sT E E E E g) (bw E) (oY E (ac (vB g) E) ?_))
   obtain rfl:=sI h
   exact key _ _ (kp4 E)
  ·refine oSk (sF E E E E g) (oSk (sF E E E E g) (oSk (sF E E E E g) (oY E (ad (vB g) E) ?_)))
   obtain rfl:=sI h
   exact key _ _ (kp4 E)
end Go.Proofs.YthndghnkebboaaaGreat
set_option maxHeartbeats 4000000
set_option maxRecDepth 100000
namespace Go.Proofs.YthndghnkebboaaaGreat
open Go.RowKit (Below)
attribute [local irreducible] OX QX CX EX OpY Calls CallsIn
theorem f8 (p0:(List Int)) (p1:Int) (p2:Int) (res:(List Int)) (h:bo p0 p1 p2=some res) (W:World) (a:World) (R:Res) (Aa:Option Addr) (r ca:Nat) (O:r=p0.length) (hW:Ext a W [R,aP Aa ca 3 1 r (encL cI p0)]) :
  Calls Tryz.prog 162 [.slice Aa r ca,vI p1,vI p2].toArray W fun e W2=>e=.returned (.tuple #[])∧r=res.length∧Ext a W2 [R,aP Aa ca 3 1 r (encL cI res)]:=by
 subst O
 unfold bo at h
 refine a4 (m:=49) Tryz.func162 E E (nB E) hW (cS (cR (oY E (yMI E) (oY E (aM E E) (oY E (yAI E) (oN (eT (cB ?_))))))))
 obtain⟨z,U,h⟩:=bOs h
 refine bi (fun(s:(Int × (List Int))) L tm=>∃(I:Nat→Value),p0.length=s.2.length∧L=[R,aP Aa ca 3 1 p0.length (encL cI s.2)]∧tm=(upd (upd (upd (upd I 0 (.slice Aa p0.length ca)) 1 (vI p1)) 2 (vI p2)) 6 (vI s.1))) 0 U ⟨_,E,E,(kp4 E)⟩ ?_ ?_
 ·rintro T L tm st ⟨S,u,rfl,rfl⟩ h
  unfold aH at h
  refine cS (cS (cR (oY E (yMI E) (oY E (yMI E) (oY E (a6 E E) (oN (eT ?_)))))))
  rcases iOs h with⟨Q,h⟩|⟨Q,h⟩
  ·refine cT (vB Q) (cK (eT (cS (cB (cS (cR (oY E (yMI E) (oY E (yAI E) (oN (eT (cB ?_)))))))))))
   obtain⟨i,X,h⟩:=bOs h
   refine bi (fun(s:(Int × (List Int))) L tm=>∃(I:Nat→Value),p0.length=s.2.length∧L=[R,aP Aa ca 3 1 p0.length (encL cI s.2)]∧tm=(upd (upd (upd (upd (upd (upd I 0 (.slice Aa p0.length ca)) 1 (vI p1)) 2 (vI p2)) 6 (vI T.1)) 12 (.bool (decide (T.1<p2)))) 7 (vI s.1))) 2 X ⟨_,u,E,(kp4 (kp (kp E)))⟩ ?_ ?_
   ·rintro o L tm st ⟨q,f,rfl,rfl⟩ h
    unfold aV at h
    refine cS (cS ?_)
    refine aX 15 bZ (by kernel_rfl) (by kernel_rfl) ?_
    refine qY E (yMI E) (qY E (yMI E) (qY E (eW E E) (qY E (yMB E) ?_)))
    obtain⟨l,Y,h⟩:=bOs h
    refine qJ 11 (fun I=>(upd (upd (upd (upd (upd (upd (upd I 0 (.slice Aa p0.length ca)) 1 (vI p1)) 2 (vI p2)) 6 (vI T.1)) 12 (.bool (decide (T.1<p2)))) 7 (vI o.1)) 30 (.bool l))) (fun I=>?_) (fun key=>?_)
    ·refine bF (oN (eT ?_))
     rcases iOs h with⟨K,h⟩|⟨K,h⟩
     ·refine cT (vB K) (cK (eT (cS (cB ?_))))
      obtain⟨d,h⟩:=gOs h
      obtain⟨w,h⟩:=gOs h
      obtain⟨D,h⟩:=gOs h
      obtain⟨F,h⟩:=gOs h
      refine gm [[],[],[],[],[3],[],[],[6],[5,6,7],[5,6,7,8],[],[],[10,11],[10,11,12],[0,1,5,6,7,8,9,10,11,12,13],[0,1,5,6,7,8,9,10,11,12,13,14],[0,1,2,3,4,5,6,7,8,9,10,11,12,13,14,15],[0,1,2,3,4,5,6,7,8,9,10,11,12,13,14,15,16]] [(none,0,[true,true]),(none,0,[true,true]),(none,0,[true,false]),(none,0,[true,false]),(none,0,[true,false]),(none,0,[true,true]),(none,0,[true,true]),(none,0,[true,true]),(none,0,[true,true]),(none,0,[true,true]),(none,0,[true,true]),(none,0,[true,true]),(none,0,[true,true]),(none,0,[true,true]),(none,0,[true,true]),(some 1,0,[true,true]),(none,0,[true,true]),(some 1,0,[true,true])] [⟨fun _=>.slice Aa p0.length ca,fun _=>noR,fun _=>[]⟩,⟨fun _=>vI o.1,fun _=>noR,fun _=>[]⟩,⟨fun _=>.slice Aa p0.length ca,fun _=>noR,fun _=>[]⟩,⟨fun _=>vI o.1,fun _=>noR,fun _=>[]⟩,⟨fun _=>vI (w64 (o.1-1)),fun _=>noR,fun _=>[]⟩,⟨fun _=>.slice Aa p0.length ca,fun _=>noR,fun _=>[]⟩,⟨fun _=>vI o.1,fun _=>noR,fun _=>[]⟩,⟨fun _=>vI (w64 (o.1-1)),fun _=>noR,fun _=>[]⟩,⟨fun _=>slA Aa (Int.toNat (w64 (o.1-1))*1),fun _=>noR,fun _=>[]⟩,⟨fun _=>vI (rdL o.2 (w64 (o.1-1))),fun _=>noR,fun _=>[]⟩,⟨fun _=>.slice Aa p0.length ca,fun _=>noR,fun _=>[]⟩,⟨fun _=>vI o.1,fun _=>noR,fun _=>[]⟩,⟨fun _=>slA Aa (Int.toNat o.1*1),fun _=>noR,fun _=>[]⟩,⟨fun _=>vI (rdL o.2 o.1),fun _=>noR,fun _=>[]⟩,⟨fun _=>slA Aa (Int.toNat o.1*1),fun _=>noR,fun _=>[]⟩,⟨fun _=>undef,fun _=>aP Aa ca 3 1 p0.length (encL cI (o.2.set (Int.toNat o.1) (rdL o.2 (w64 (o.1-1))))),fun _=>[]⟩,⟨fun _=>slA Aa (Int.toNat (w64 (o.1-1))*1),fun _=>noR,fun _=>[]⟩,⟨fun _=>undef,fun _=>aP Aa ca 3 1 p0.length (encL cI ((o.2.set (Int.toNat o.1) (rdL o.2 (w64 (o.1-1)))).set (Int.toNat (w64 (o.1-1))) (rdL o.2 o.1))),fun _=>[]⟩] 2 bZ (by kernel_rfl) (by kernel_rfl) ⟨⟨fun ξ14 ξ14' h=>⟨E,E,E⟩,fun _=>E⟩,⟨fun ξ14 ξ14' h=>⟨E,E,E⟩,fun _=>E⟩,⟨fun ξ14 ξ14' h=>⟨E,E,E⟩,fun _=>E⟩,⟨fun ξ14 ξ14' h=>⟨E,E,E⟩,fun _=>E⟩,⟨fun ξ14 ξ14' h=>⟨E,E,E⟩,fun _=>E⟩,⟨fun ξ14 ξ14' h=>⟨E,E,E⟩,fun _=>E⟩,⟨fun ξ14 ξ14' h=>⟨E,E,E⟩,fun _=>E⟩,⟨fun ξ14 ξ14' h=>⟨E,E,E⟩,fun _=>E⟩,⟨fun ξ14 ξ14' h=>⟨E,E,E⟩,fun _=>E⟩,⟨fun ξ14 ξ14' h=>⟨E,E,E⟩,fun _=>E⟩,⟨fun ξ14 ξ14' h=>⟨E,E,E⟩,fun _=>E⟩,⟨fun ξ14 ξ14' h=>⟨E,E,E⟩,fun _=>E⟩,⟨fun ξ14 ξ14' h=>⟨E,E,E⟩,fun _=>E⟩,⟨fun ξ14 ξ14' h=>⟨E,E,E⟩,fun _=>E⟩,⟨fun ξ14 ξ14' h=>⟨E,E,E⟩,fun _=>E⟩,⟨fun ξ14 ξ14' h=>⟨E,E,E⟩,fun _=>E⟩,⟨fun ξ14 ξ14' h=>⟨E,E,E⟩,fun _=>E⟩,⟨fun ξ14 ξ14' h=>⟨E,E,E⟩,fun _=>E⟩,trivial⟩ E (fun ξ14=>?_)
      refine cy E (fun L2=>?_) ?_
      ·dsimp only[aJ,lca,lna]
       refine oY E (yMS E) (oN ?_)
       exact az (fun _=>(none,0,0,[],noR)) E (List.append_nil _)
      dsimp only[bQ,lsz,lss,lna,lca,List.append_nil]
      refine cy E (fun L2=>?_) ?_
      ·dsimp only[aJ,lca,lna]
       refine oY E (yMI E) (oN ?_)
       exact az (fun _=>(none,0,0,[],noR)) E (List.append_nil _)
      dsimp only[bQ,lsz,lss,lna,lca,List.append_nil]
      refine cy E (fun L2=>?_) ?_
      ·dsimp only[aJ,lca,lna]
       refine oY E (yMS E) (oN ?_)
       exact az (fun _=>(none,0,0,[],noR)) E (List.append_nil _)
      dsimp only[bQ,lsz,lss,lna,lca,List.append_nil]
      refine cy E (fun L2=>?_) ?_
      ·dsimp only[aJ,lca,lna]
       refine oY E (yMI E) (oN ?_)
       exact az (fun _=>(none,0,0,[],noR)) E (List.append_nil _)
      dsimp only[bQ,lsz,lss,lna,lca,List.append_nil]
      refine cy E (fun L2=>?_) ?_
      ·dsimp only[aJ,lca,lna]
       refine oY E (fe E E) (oN ?_)
       exact az (fun _=>(none,0,0,[],noR)) E (List.append_nil _)
      dsimp only[bQ,lsz,lss,lna,lca,List.append_nil]
      refine cy E (fun L2=>?_) ?_
      ·dsimp only[aJ,lca,lna]
       refine oY E (yMS E) (oN ?_)
       exact az (fun _=>(none,0,0,[],noR)) E (List.append_nil _)
      dsimp only[bQ,lsz,lss,lna,lca,List.append_nil]
      refine cy E (fun L2=>?_) ?_
      ·dsimp only[aJ,lca,lna]
       refine oY E (yMI E) (oN ?_)
       exact az (fun _=>(none,0,0,[],noR)) E (List.append_nil _)
      dsimp only[bQ,lsz,lss,lna,lca,List.append_nil]
      refine cy E (fun L2=>?_) ?_
      ·dsimp only[aJ,lca,lna]
       refine oY E (fe E E) (oN ?_)
       exact az (fun _=>(none,0,0,[],noR)) E (List.append_nil _)
      dsimp only[bQ,lsz,lss,lna,lca,List.append_nil]
      refine cy E (fun L2=>?_) ?_
      ·dsimp only[aJ,lca,lna]
       refine oY E (yI bS (by decide) d.1 d.2 (RdL.row 1 E) (eL aB f) E E) ?_
       refine oN ?_
       exact az (fun _=>(none,0,0,[],noR)) E (List.append_nil _)
      dsimp only[bQ,lsz,lss,lna,lca,List.append_nil]
      refine cy E (fun L2=>?_) ?_
      ·dsimp only[aJ,lca,lna]
       refine oY E (yR (A:=Aa) (j:=(Int.toNat (w64 (o.1-1))*1)) (v:=vI (rdL o.2 (w64 (o.1-1)))) aN (RdL.row 1 E) E (ax aB d.1 (ai d.2 f) E)) (oN ?_)
       exact az (fun _=>(none,0,0,[],noR)) E (List.append_nil _)
      dsimp only[bQ,lsz,lss,lna,lca,List.append_nil]
      refine cy E (fun L2=>?_) ?_
      ·dsimp only[aJ,lca,lna]
       refine oY E (yMS E) (oN ?_)
       exact az (fun _=>(none,0,0,[],noR)) E (List.append_nil _)
      dsimp only[bQ,lsz,lss,lna,lca,List.append_nil]
      refine cy E (fun L2=>?_) ?_
      ·dsimp only[aJ,lca,lna]
       refine oY E (yMI E) (oN ?_)
       exact az (fun _=>(none,0,0,[],noR)) E (List.append_nil _)
      dsimp only[bQ,lsz,lss,lna,lca,List.append_nil]
      refine cy E (fun L2=>?_) ?_
      ·dsimp only[aJ,lca,lna]
       refine oY E (yI bS (by decide) w.1 w.2 (RdL.row 1 E) (eL aB f) E E) ?_
       refine oN ?_
       exact az (fun _=>(none,0,0,[],noR)) E (List.append_nil _)
      dsimp only[bQ,lsz,lss,lna,lca,List.append_nil]
      refine cy E (fun L2=>?_) ?_
      ·dsimp only[aJ,lca,lna]
       refine oY E (yR (A:=Aa) (j:=(Int.toNat o.1*1)) (v:=vI (rdL o.2 o.1)) aN (RdL.row 1 E) E (ax aB w.1 (ai w.2 f) E)) (oN ?_)
       exact az (fun _=>(none,0,0,[],noR)) E (List.append_nil _)
      dsimp only[bQ,lsz,lss,lna,lca,List.append_nil]
      refine cy E (fun L2=>?_) ?_
      ·dsimp only[aJ,lca,lna]
       refine oY E (yI bS (by decide) D.1 D.2 (RdL.row 1 E) (eL aB f) E E) ?_
       refine oN ?_
       exact az (fun _=>(none,0,0,[],noR)) E (List.append_nil _)
      dsimp only[bQ,lsz,lss,lna,lca,List.append_nil]
      refine gx_n E (fun L2=>?_) ?_
      ·dsimp only[aJ,lca,lna]
       refine co E (gS 1 (xs:=o.2) aB (rdL o.2 (w64 (o.1-1))) qb E D.1 (ai D.2 f) E E E E) (oN ?_)
       first|exact bR (fun _=>(none,0,0,[],noR)) E|exact bR (fun _=>(none,0,0,[],noR)) (List.append_nil _)
      dsimp only[bQ,lsz,lss,lna,lca,List.append_nil]
      refine cy E (fun L2=>?_) ?_
      ·dsimp only[aJ,lca,lna]
       refine oY E (yI bS (by decide) F.1 F.2 (RdL.row 1 E) (eL aB (cH f)) E E) ?_
       refine oN ?_
       exact az (fun _=>(none,0,0,[],noR)) E (List.append_nil _)
      dsimp only[bQ,lsz,lss,lna,lca,List.append_nil]
      refine gx_n E (fun L2=>?_) ?_
      ·dsimp only[aJ,lca,lna]
       refine co E (gS 1 (xs:=(o.2.set (Int.toNat o.1) (rdL o.2 (w64 (o.1-1))))) aB (rdL o.2 o.1) qb E F.1 (ai F.2 (cH f)) E E E E) (oN ?_)
       first|exact bR (fun _=>(none,0,0,[],noR)) E|exact bR (fun _=>(none,0,0,[],noR)) (List.append_nil _)
      dsimp only[bQ,lsz,lss,lna,lca,List.append_nil]
      refine lJ (aw (eT (cR (oY E (yMI E) (oY E (fe E E) (oY E (yAI E) (oN ?_)))))))
      obtain rfl:=sI h
      exact eN ⟨_,(cH (cH f)),E,(kp4 (kp (kp E)))⟩
     ·refine cF (vB K) (aD (aj ?_))
      obtain rfl:=sI h
      exact au ⟨E,_,f,E,(kp4 (kp (kp E)))⟩
    ·clear h;rcases iOs Y with⟨g,h⟩|⟨g,h⟩
     ·refine qY (sT E E E E g) (yMS E) (qY (sT E E E E g) (yMI E) ?_)
      obtain⟨G,h⟩:=gOs h
      refine qY (sT E E E E g) (yI bS (by decide) G.1 G.2 (RdL.row 1 E) (eL aB f) E E) ?_
      refine qY (sT E E E E g) (yR (A:=Aa) (j:=(Int.toNat o.1*1)) (v:=vI (rdL o.2 o.1)) aN (RdL.row 1 E) E (ax aB G.1 (ai G.2 f) E)) (qY (sT E E E E g) (yMS E) (qY (sT E E E E g) (yMI E) (qY (sT E E E E g) (fe E E) ?_)))
      obtain⟨H,h⟩:=gOs h
      refine qY (sT E E E E g) (yI bS (by decide) H.1 H.2 (RdL.row 1 E) (eL aB f) E E) ?_
      refine qY (sT E E E E g) (yR (A:=Aa) (j:=(Int.toNat (w64 (o.1-1))*1)) (v:=vI (rdL o.2 (w64 (o.1-1)))) aN (RdL.row 1 E) E (ax aB H.1 (ai H.2 f) E)) ?_
      obtain⟨t,Z,h⟩:=bOs h
      refine qY (sT E E E E g) (yC [vI (rdL o.2 o.1),vI (rdL o.2 (w64 (o.1-1)))] go_168 E (fun W2 V=>n5 (rdL o.2 o.1) (rdL o.2 (w64 (o.1-1))) t Z W2 ) E) (qY E (ac (vB g) E) ?_)
      obtain rfl:=sI h
      exact key _ _ (kp4 (kp (kp (kp E))))
     ·refine ab (sF E E E E g) (ab (sF E E E E g) (ab (sF E E E E g) (ab (sF E E E E g) (ab (sF E E E E g) (ab (sF E E E E g) (ab (sF E E E E g) (ab (sF E E E E g) (ab (sF E E E E g) (ab (sF E E E E g) (qY E (ad (vB g) E) ?_))))))))))
      obtain rfl:=sI h
      exact key _ _ (kp4 (kp (kp (kp E))))
   ·intro e L tm hJ
    obtain⟨rfl,p,M,rfl,rfl⟩:=hJ
    refine⟨(by intro hc;cases hc),?_⟩
    refine ae (aw (eT (cR (oY E (yMI E) (oY E (aM E E) (oY E (yAI E) (oN ?_)))))))
    obtain rfl:=sI h
    exact eN ⟨_,M,E,(kp4 E)⟩
  ·refine cF (vB Q) (aD (aj ?_))
   obtain rfl:=sI h
   exact au ⟨E,_,u,E,(kp4 E)⟩
 ·intro e L tm hJ
  obtain⟨rfl,n,N,rfl,rfl⟩:=hJ
  refine⟨(by intro hc;cases hc),?_⟩
  refine ae ?_
  obtain rfl:=sI h
  exact cD (.inr E) E  (fun W2 V=>⟨E,N,V.take 2⟩)
theorem mJ {x:Int} (h:0≤x∧x<16):x=0∨x=1∨x=2∨x=3∨x=4∨x=5∨x=6∨x=7∨x=8∨x=9∨x=10∨x=11∨x=12∨x=13∨x=14∨x=15:=by omega
theorem lL (p0:Int) (res:Int) (h:gr p0=some res) (W:World) :
  Calls Tryz.prog 172 [.int .u64 p0].toArray W fun e W2=>e=.returned (vI res)∧Ext W W2 []:=by
 unfold gr at h
 obtain⟨hg,h⟩:=gOs h
 refine ag (m:=25) Tryz.func172 E E (nB E) ?_
 have h1:decide ((4294967296:Int)≤p0)=false:=decide_eq_false (by omega)
 have h2:decide ((65536:Int)≤p0)=false:=decide_eq_false (by omega)
 have h3:decide ((256:Int)≤p0)=false:=decide_eq_false (by omega)
 refine cS (cR (oY E (yAI E) (oN (eT (cS (cS (cR (oY E (yMI E) (oY E (mW E E) (oN (eT (cF (vB h1) (cK (eT (cS (cS (cR (oY E (yMI E) (oY E (mW E E) (oN (eT (cF (vB h2) (cK (eT (cS (cS (cR (oY E (yMI E) (oY E (mW E E) (oN (eT (cF (vB h3) (cK (eT (cS (cR (oY E (yMI E) (oY E (yMI E) ?_))))))))))))))))))))))))))))))))))))))
 refine oY E (y_convQ (a':=p0) (q':=.u8) ui_220 ui_5 (by rcases mJ hg with rfl|rfl|rfl|rfl|rfl|rfl|rfl|rfl|rfl|rfl|rfl|rfl|rfl|rfl|rfl|rfl <;> decide) E) ?_
 refine oY E (sZ (b:=UInt8.ofNat (lenv p0).toNat) us_s9 hg.1 (by rcases mJ hg with rfl|rfl|rfl|rfl|rfl|rfl|rfl|rfl|rfl|rfl|rfl|rfl|rfl|rfl|rfl|rfl <;> rfl) E E) ?_
 refine oY E (y_convQ (a':=lenv p0) (q':=.i64) ui_5 ui_3 (by rcases mJ hg with rfl|rfl|rfl|rfl|rfl|rfl|rfl|rfl|rfl|rfl|rfl|rfl|rfl|rfl|rfl|rfl <;> decide) E) ?_
 refine oY E (aM E E) (oY E (yAI E) (oN (eT (am ?_))))
 obtain rfl:=sI h
 exact ak (.inl E) E (rVt (v:=vI (w64 (0+lenv p0))) E) (fun W2 f=>⟨E,f.none⟩)
theorem nm (p0:Int) (res:Int) (h:ip p0=some res) (W:World)  :
  Calls Tryz.prog 129 [.int .u64 p0].toArray W fun e W2=>e=.returned (vI res)∧Ext W W2 []:=by
 unfold ip at h
 refine ag (m:=8) Tryz.func129 E E (nB E) (cS (cR (oY E (yAI E) (oN (eT (cS (cF E (cK (eT (cS (cR (oY E (yMI E) ?_))))))))))))
 obtain⟨o,g,h⟩:=bOs h
 refine oY E (yC [.int .u64 p0] go_172 E (fun W2 f=>lL p0 o g W2 ) E) (oY E (yAI E) (oN (eT (am ?_))))
 obtain rfl:=sI h
 exact ak (.inl E) E (rVt (v:=vI o) E) (fun W2 f=>⟨E,f.none⟩)
theorem ii (p0:(List Int)) (p1:Int) (p2:Int) (p3:Int) (res:(List Int)) (h:bX p0 p1 p2 p3=some res) (W:World) (N:World) (R:Res) (Aa:Option Addr) (f ca:Nat) (r:f=p0.length) (hW:Ext N W [R,aP Aa ca 3 1 f (encL cI p0)]) :
  Calls Tryz.prog 128 [.slice Aa f ca,vI p1,vI p2,vI p3].toArray W fun e W2=>e=.returned (.tuple #[])∧f=res.length∧Ext N W2 [R,aP Aa ca 3 1 f (encL cI res)]:=by
 subst r
 unfold bX at h
 refine a4 (m:=134) Tryz.func128 E E (nB E) hW (cS (cR (oY E (yAB E) (oN (eT (cS (cR (oY E (yAB E) (oN (eT (cB ?_)))))))))))
 obtain⟨O,G,h⟩:=bOs h
 refine rM (fun(s:(Int × Int × Int × Bool × Bool × (List Int))) L tm=>∃(u:Nat→Value),p0.length=s.2.2.2.2.2.length∧L=[R,aP Aa ca 3 1 p0.length (encL cI s.2.2.2.2.2)]∧tm=(upd (upd (upd (upd (upd (upd u 0 (.slice Aa p0.length ca)) 1 (vI s.1)) 2 (vI s.2.1)) 3 (vI s.2.2.1)) 8 (.bool s.2.2.2.1)) 9 (.bool s.2.2.2.2.1))) (fun s e L tm=>e=.ret∧∃(u:Nat→Value),p0.length=s.2.2.2.2.2.length∧L=[R,aP Aa ca 3 1 p0.length (encL cI s.2.2.2.2.2)]∧tm=(upd (upd (upd (upd (upd (upd u 0 (.slice Aa p0.length ca)) 1 (vI s.1)) 2 (vI s.2.1)) 3 (vI s.2.2.1)) 8 (.bool s.2.2.2.1)) 9 (.bool s.2.2.2.2.1))) G ⟨_,E,E,(kp4 (kp (kp E)))⟩ ?_ ?_
 ·rintro w L tm st ⟨D,g,rfl,rfl⟩ h
  unfold bH at h
  refine cB (cS (cR (oY E (yMI E) (oY E (yMI E) (oY E (fe E E) (oY E (yAI E) (oN (eT (cS (cS (cR (oY E (yMI E) (oY E (iA E E) (oN (eT ?_)))))))))))))))
  obtain⟨H,h⟩:=gOs h
  refine cT (vB H) (cS (cR (oY E (yMS E) (oY E (yMI E) (oY E (yMI E) ?_)))))
  obtain⟨I,K,h⟩:=bOs h
  refine fz 1 [.slice Aa p0.length ca,vI w.1,vI w.2.1] (fun(_:Unit)=>p0.length=I.length) (fun _=>.tuple #[]) (fun _=>aP Aa ca 3 1 p0.length (encL cI I)) (fun _=>[]) E E go_162 E (fun W2 d=>(f8 w.2.2.2.2.2 w.1 w.2.1 I K W2 _ (bA [R,aP Aa ca 3 1 p0.length (encL cI w.2.2.2.2.2)] [1]) Aa p0.length ca (g) d).mono (fun e W3 h3=>⟨(),h3.2.1,h3.1,h3.2.2⟩)) ?_
  rintro-M
  try dsimp only[lsz,lss,List.append_nil]
  refine oN (eT (am (aa (ah ?_))))
  obtain rfl:=sI h
  exact au ⟨E,_,M,E,(kp4 (kp (kp E)))⟩
 ·intro e L tm hJ
  obtain⟨rfl,F,o,rfl,rfl⟩:=hJ
  refine⟨(by intro hc;cases hc),?_⟩
  refine ah ?_
  obtain rfl:=sI h
  exact cD (.inl E) E  (fun W2 d=>⟨E,o,d.take 2⟩)
theorem insO_l2 {n:Nat} {data0:List Int} (h0:data0.length=n) (hn:n<1000000) (x:Int) :
  ∀(k:Nat) (f T:List Int),f.length=k→f.length+1+T.length=n→∃B1 B2:List Int,f=B1++B2∧aK (aV data0 0) ((f.length:Int),f++x::T)=some ((B1.length:Int),B1++x::(B2++T))∧(∀y∈B2,x<y)∧(∀y,B1.getLast? = some y→¬x<y):=by
 intro k
 induction k with
 | zero =>
  intro f T hk hl
  have:f=[]:=List.eq_nil_of_length_eq_zero hk
  subst this
  refine⟨[],[],E,?_,by simp,by simp⟩
  refine eX ?_
  unfold aV;dsimp only
  rfl
 | succ k ih =>
  intro f T hk hl
  obtain⟨A,y,rfl⟩:∃A y,f=A++[y]:=⟨f.dropLast,f.getLast (by intro h;rw[h]at hk;cases hk),(List.dropLast_concat_getLast _).symm⟩
  have hA:A.length=k:=by simpa using hk
  simp only[List.length_append,List.length_cons,List.length_nil]at hl
  have e1:A++[y]++x::T=A++y::x::T:=by simp
  have hi:(((A++[y]).length:Nat):Int)=(A.length:Int)+1:=by simp
  have hj1:w64 ((((A++[y]).length:Nat):Int)-1)=(A.length:Int):=by rw[ci (by simp only[List.length_append,List.length_cons,List.length_nil];omega) (by simp only[List.length_append,List.length_cons,List.length_nil];omega)];simp
  have r1:rdL (A++[y]++x::T) (((A++[y]).length:Nat):Int)=x:=sg _ _ _ _ E
  have r2:rdL (A++[y]++x::T) (A.length:Int)=y:=by rw[e1];exact sg _ _ _ _ E
  have g1:(0:Int)≤(((A++[y]).length:Nat):Int)∧(((A++[y]).length:Nat):Int)<(data0.length:Int):=by rw[h0];simp only[List.length_append,List.length_cons,List.length_nil];omega
  have g2:(0:Int)≤(A.length:Int)∧(A.length:Int)<(data0.length:Int):=by rw[h0];omega
  have hd:decide ((0:Int)<(((A++[y]).length:Nat):Int))=true:=decide_eq_true (by rw[hi];omega)
  have hless:gZ x y=some (decide (x<y)):=by
   unfold gZ dQ
   simp
  have step:aV data0 0 ((((A++[y]).length:Nat):Int),A++[y]++x::T)=if x<y then some (.inl ((A.length:Int),A++x::([y]++T)))else some (.inr ((((A++[y]).length:Nat):Int),A++[y]++x::T)):=by
   unfold aV;dsimp only
   simp only[hj1,r1,r2,hd,if_true,gPo g1,gPo g2,hless,Option.bind_some,decide_eq_true_eq]
   by_cases hlt:x<y
   ·rw[if_pos hlt,if_pos hlt]
    refine congrArg some (congrArg Sum.inl (Prod.ext E ?_))
    show((A++[y]++x::T).set (Int.toNat (((A++[y]).length:Nat):Int)) y).set (Int.toNat (A.length:Int)) x=_
    rw[Int.toNat_natCast,Int.toNat_natCast,sP (A++[y]) x y T _ E]
    have e3:A++[y]++y::T=A++y::(y::T):=by simp
    rw[e3,sP A y x (y::T) _ E]
    simp
   ·rw[if_neg hlt,if_neg hlt]
  by_cases hlt:x<y
  ·rw[if_pos hlt]at step
   obtain⟨B1,B2,hB,hr,h2,h3⟩:=ih A ([y]++T) hA (by simp;omega)
   refine⟨B1,B2++[y],by rw[hB,List.append_assoc],?_,?_,h3⟩
   ·rw[jE step,hr]
    simp
   ·intro z hz
    rcases List.mem_append.1 hz with hz|hz
    ·exact h2 z hz
    ·rw[List.mem_singleton.1 hz];exact hlt
  ·rw[if_neg hlt]at step
   refine⟨A++[y],[],by simp,?_,by simp,?_⟩
   ·rw[eX step];simp
   ·intro z hz
    simp at hz
    rw[←hz]
    exact hlt
theorem insO_all {l:List Int} (hl:l.length<1000000):bo l 0 (l.length:Int)=some (oe l):=by
 unfold bo
 have e1:w64 (0+1)=1:=rfl
 rw[e1]
 have main:∀(R A:List Int),(A++R).Perm l→d7 A→∃s,aK (aH l 0 (l.length:Int)) ((A.length:Int),A++R)=some ((l.length:Int),s)∧s.Perm l∧d7 s:=by
  intro R
  induction R with
  | nil =>
   intro A hp hs
   have hlen:A.length=l.length:=by have:=hp.length_eq;simpa using this
   refine⟨A,?_,by simpa using hp,hs⟩
   rw[List.append_nil,hlen]
   refine eX ?_
   unfold aH;dsimp only
   rw[show decide ((l.length:Int)<(l.length:Int))=false from decide_eq_false (by omega)]
   rfl
  | cons x T ih =>
   intro A hp hs
   have hlen:A.length+(T.length+1)=l.length:=by have:=hp.length_eq;simpa using this
   obtain⟨B1,B2,hB,hr,h2,h3⟩:=insO_l2 (data0:=l) E hl x A.length A T E (by omega)
   have hstep:aH l 0 (l.length:Int) ((A.length:Int),A++x::T)=some (.inl (((B1++x::B2).length:Int),(B1++x::B2)++T)):=by
    unfold aH;dsimp only
    rw[show decide ((A.length:Int)<(l.length:Int))=true from decide_eq_true (by omega)]
    rw[if_pos E,hr,Option.bind_some]
    have hw:w64 ((A.length:Int)+1)=(A.length:Int)+1:=ci (by omega) (by omega)
    simp only[hw]
    refine congrArg some (congrArg Sum.inl (Prod.ext ?_ ?_))
    ·simp[hB];omega
    ·simp
   have hs':d7 (B1++x::B2):=by
    unfold d7 at hs ⊢
    rw[hB,List.pairwise_append]at hs
    obtain⟨f,g,o⟩:=hs
    have hle:∀y∈B1,y≤x:=by
     intro y hy
     rcases List.eq_nil_or_concat B1 with rfl|⟨B,z,rfl⟩
     ·cases hy
     ·have hz:=h3 z (by simp)
      rw[List.concat_eq_append]at hy f
      rcases List.mem_append.1 hy with hy|hy
      ·rw[List.pairwise_append]at f
       have:=f.2.2 y hy z (by simp);omega
      ·rw[List.mem_singleton.1 hy];omega
    rw[List.pairwise_append]
    refine⟨f,List.pairwise_cons.2 ⟨fun y hy=>by have:=h2 y hy;omega,g⟩,fun a ha b hb=>?_⟩
    rcases List.mem_cons.1 hb with rfl|hb
    ·exact hle a ha
    ·exact o a ha b hb
   have hp':((B1++x::B2)++T).Perm l:=by
    refine List.Perm.trans ?_ hp
    rw[hB]
    simp only[List.append_assoc,lca]
    exact List.Perm.append_left B1 (List.perm_middle).symm
   obtain⟨s,h4,h5,h6⟩:=ih (B1++x::B2) hp' hs'
   exact⟨s,by rw[jE hstep];exact h4,h5,h6⟩
 rcases l with _|⟨x,T⟩
 ·have:aK (aH [] 0 (([]:List Int).length:Int)) (1,[])=some (1,[]):=by
   refine eX ?_
   unfold aH
   rfl
  rw[this]
  rfl
 ·obtain⟨s,h1,h2,h3⟩:=main T [x] (by simp) (by simp[d7])
  have h1':aK (aH (x::T) 0 ((x::T).length:Int)) (1,x::T)=some (((x::T).length:Int),s):=h1
  rw[h1',Option.bind_some,rn h2 h3]
theorem pdqO_all {l:List Int} (hl:l.length≤12) (v:Int):bX l 0 (l.length:Int) v=some (oe l):=by
 unfold bX
 have hstep:bH (0,(l.length:Int),v,true,true,l)=some (.inr (0,(l.length:Int),v,true,true,oe l)):=by
  unfold bH;dsimp only
  have hw:w64 ((l.length:Int)-0)=(l.length:Int):=by rw[ci (by omega) (by omega)];omega
  rw[hw,gPo (decide_eq_true (by omega)),insO_all (by omega)]
  rfl
 rw[eX hstep]
 rfl
theorem d9 (p0:(List Int)) (res:(List Int)) (h:cJ p0=some res) (W:World) (F:World) (R:Res) (Aa:Option Addr) (f ca:Nat) (o:f=p0.length) (hW:Ext F W [R,aP Aa ca 3 1 f (encL cI p0)]) :
  Calls Tryz.prog 81 [.slice Aa f ca].toArray W fun e W2=>e=.returned (.tuple #[])∧f=res.length∧Ext F W2 [R,aP Aa ca 3 1 f (encL cI res)]:=by
 subst o
 unfold cJ at h
 obtain⟨u,h⟩:=gOs h
 obtain rfl:=sI h
 have hlen:p0.length=(oe p0).length:=(sf p0).symm
 refine a4 (m:=11) Tryz.func81 E E (nB E) hW (cS (cR (oY E (yMS E) (oY E (bg (us:=[]) cO E) (oY E (yAI E) (oN (eT (cR (oY E (yMS E) (oY E (yMI E) (oY E (yMI E) ?_)))))))))))
 have d:(0:Int)≤(p0.length:Int)∧(p0.length:Int)≤9223372036854775807:=by omega
 refine oY E (tv ui_3 ui_176 d E) ?_
 obtain⟨r,w⟩:∃r,ip (p0.length:Int)=some r:=by
  unfold ip gr
  rw[gPo (by omega)]
  exact⟨_,E⟩
 refine oY E (yC [.int .u64 (p0.length:Int)] go_129 E (fun W2 g=>nm (p0.length:Int) r w W2 ) E) ?_
 have D:=pdqO_all u r
 refine fz 1 [.slice Aa p0.length ca,vI 0,vI (p0.length:Int),vI r] (fun(_:Unit)=>p0.length=(oe p0).length) (fun _=>.tuple #[]) (fun _=>aP Aa ca 3 1 p0.length (encL cI (oe p0))) (fun _=>[]) E E go_128 E (fun W2 g=>(ii p0 0 (p0.length:Int) r (oe p0) D W2 _ (bA [R,aP Aa ca 3 1 p0.length (encL cI p0)] [1]) Aa p0.length ca E g).mono (fun e W3 h3=>⟨(),h3.2.1,h3.1,h3.2.2⟩)) ?_
 rintro-G
 try dsimp only[lsz,lss,List.append_nil]
 refine oN ?_
 exact cD (.inr E) E  (fun W2 g=>⟨E,hlen,g.take 2⟩)
theorem lh (p0:TR) (p1:Int) (p2:Int) (p3:Int) (p4:Int) (res:((List Int) × Int)) (h:jR p0 p1 p2 p3 p4=some res) (W:World) (Ab:Option Addr) (X cb:Nat) (g:List (Hd × TT)) (k:X=p0.fTracks.length) (G:Rd W Ab X cb (encL TTrack_cells2 g)) (d:NestW W (fun z:TT=>z.fK) TSpan_cells g p0.fTracks) :
  Calls Tryz.prog 23 [.agg #[vI p0.fPlaces,.slice Ab X cb],vI p1,vI p2,vI p3,vI p4].toArray W fun e W2=>∃x:Option Addr × Nat × Nat,x.2.1=res.1.length∧e=.returned (.tuple #[.slice x.1 x.2.1 x.2.2,vI res.2])∧Ext W W2 [aP x.1 x.2.2 3 1 x.2.1 (encL cI res.1)]:=by
 subst k
 unfold jR at h
 refine ag (m:=77) Tryz.func23 E E (nB E) (cS (cR ?_))
 refine aI [vI p0.fPlaces,.slice Ab p0.fTracks.length cb] E E E (fun b1=>?_)
 refine oY E (yAS E) (oY E (yAI E) (oN (eT (cS (cR (oY E (yN 0 [vI p0.fPlaces,.slice Ab p0.fTracks.length cb] dh E E E) (oY E (yMI E) (oY E (yMI E) (oY E (yMI E) (oY E (yMI E) ?_))))))))))
 obtain⟨U,fl,h⟩:=bOs h
 refine oC [.agg #[vI p0.fPlaces,.slice Ab p0.fTracks.length cb],vI p1,vI p2,vI p3,vI p4] _ _ _ E go_18 E (fun W2 u=>m3 p0 p1 p2 p3 p4 U fl W2 Ab p0.fTracks.length cb g E ((RdL.arg G) W2 u) (NestL.at (NestL.arg d) W2 u) W (fun _=>True) (fun W3 hb=>⟨f0 u.below hb,trivial⟩) ) ?_
 rintro⟨⟨A6,n8,c7⟩,F10⟩ ⟨b,oa⟩
 replace b:n8=U.1.fLegs.length:=b;subst b
 refine oY E (aU E) (oY E (yE E E) (oY E (yE E E) ?_))
 refine aF la E (fun n=>?_)
 refine co E (yS 2 [.slice A6 U.1.fLegs.length c7,vI U.1.fA,vI U.1.fToll] mz E (nB E) E E E) (oY E (yAI E) (oN (eT (cS (cS (cR (oY E (yMI E) (oY E (cU E E) (oN (eT ?_))))))))))
 rcases iOs h with⟨Y,h⟩|⟨Y,h⟩
 ·refine cT (vB Y) (cS (cR (oY E (yMI E) (oY E (yAS E) (oY E (yAI E) (oN (eT (am (aa ?_)))))))))
  obtain rfl:=sI h
  exact bJ (.inl E) E (rVt (v:=.slice none 0 0) E) (rVt (v:=vI U.2) E) (fun W2 u=>⟨(none,0,0),E,E,((u.nilrow 3 1).pick 3 E)⟩)
 ·refine cF (vB Y) (cK (eT (cS (cR (oY E (yAS E) (oN (eT (cS (cS (cR (oY E (yFA bI E) (oY E (yL 0 f7 E E E) (oY E (bg (us:=[]) ij E) (oY E (yMI E) (oN (eT (cB ?_)))))))))))))))))
  obtain⟨H,f2,h⟩:=bOs h
  refine dA 3 1 ?_
  refine bi (fun(s:(Int × (List Int))) L tm=>∃(l:Nat→Value) (t:Option Addr) (a:Nat) (Z:Nat),Z=s.2.length∧L=[al b1 24 [vI p0.fPlaces,.slice Ab p0.fTracks.length cb],F10,al n 29 [.slice A6 U.1.fLegs.length c7,vI U.1.fA,vI U.1.fToll],aP t a 3 1 Z (encL cI s.2)]∧tm=(upd (upd (upd (upd (upd (upd (upd (upd (upd (upd (upd (upd l 1 (vI p1)) 2 (vI p2)) 3 (vI p3)) 4 (vI p4)) 5 (.pointer (some ⟨b1,0,none⟩))) 10 (.slice none 0 0)) 11 (vI 0)) 12 (.pointer (some ⟨n,0,none⟩))) 14 (.slice t Z a)) 33 (.slice Ab p0.fTracks.length cb)) 34 (vI (p0.fTracks.length:Int))) 35 (vI s.1))) 0 f2 ⟨_,none,0,0,E,E,(kp4 (kp4 (kp4 E)))⟩ ?_ ?_
  ·rintro f L tm st ⟨f3,I,K,fR,rfl,rfl,rfl⟩ h
   unfold lg at h
   refine cS (cR (oY E (a6 E E) (oN (eT (cS ?_)))))
   rcases iOs h with⟨V,h⟩|⟨V,h⟩
   ·refine cT (vB V) (cK (eT (cS (cB (cS (cR (oY E (yMI E) ?_)))))))
    obtain⟨F,h⟩:=gOs h
    refine oY E (yI iI (by decide) F.1 F.2 (RdL.arg G) (eL ar (NestP.hn d.p E)) E E) ?_
    refine oY E (yM (A:=Ab) (j:=(Int.toNat f.1*6)) [vI ((rdL p0.fTracks f.1).fID),vI ((rdL p0.fTracks f.1).fFrom),vI ((rdL p0.fTracks f.1).fTo),vI ((rdL p0.fTracks f.1).fLong),vI ((rdL p0.fTracks f.1).fToll),.slice ((rdL g f.1).1.1) ((rdL p0.fTracks f.1).fK.length) ((rdL g f.1).1.2.2)] gl (Nat.succ_pos _) (RdL.arg G) E (iM (bB (NestP.snd d.p f.1) (NestP.len d.p F.1 (ai F.2 E))).symm (be ar F.1 (ai F.2 (NestP.hn d.p E))))) ?_
    refine aF g0 E (fun g2=>?_)
    refine oY E (yAI E) (co E (yS 4 [vI ((rdL p0.fTracks f.1).fID),vI ((rdL p0.fTracks f.1).fFrom),vI ((rdL p0.fTracks f.1).fTo),vI ((rdL p0.fTracks f.1).fLong),vI ((rdL p0.fTracks f.1).fToll),.slice ((rdL g f.1).1.1) ((rdL p0.fTracks f.1).fK.length) ((rdL g f.1).1.2.2)] nh E (nB E) E E E) (oN (eT (cS ?_))))
    obtain⟨O,i,h⟩:=bOs h
    have hPc_y22:=iV i d.p
    obtain⟨o,fr,h⟩:=bOs h
    refine gm [[],[0],[],[2],[2,3],[],[],[6],[2,3,4,5,6,7],[0,1,2,3,4,5,6,7,8],[],[0,1,2,3,4,5,6,7,8,9,10]] [(none,0,[true,true,true,true,true]),(none,0,[true,true,true,true,true]),(none,0,[true,true,true,true,true]),(none,0,[true,true,true,true,true]),(none,1,[true,true,true,true,true]),(none,0,[true,true,true,true,true,false]),(none,0,[true,true,true,true,true,false]),(none,0,[true,true,true,true,true,false]),(some 5,1,[true,true,true,true,true,true]),(none,0,[true,true,true,true,true,true,true]),(none,1,[true,true,true,true,true,false,false]),(some 7,0,[true,true,true,true,true,true,true,true])] [⟨fun _=>.pointer (some ⟨b1,0+0,none⟩),fun _=>noR,fun _=>[]⟩,⟨fun _=>vI p0.fPlaces,fun _=>noR,fun _=>[]⟩,⟨fun _=>.pointer (some ⟨b1,0+1,none⟩),fun _=>noR,fun _=>[]⟩,⟨fun _=>.slice Ab p0.fTracks.length cb,fun _=>noR,fun _=>[]⟩,⟨fun ξ21=>.slice (ξ21 4 0).1 O.length (ξ21 4 0).2.2.1,fun _=>noR,fun ξ21=>[aP (ξ21 4 0).1 (ξ21 4 0).2.2.1 120 6 O.length (encL TTrack_cells2 g)]⟩,⟨fun _=>vI f.1,fun _=>noR,fun _=>[]⟩,⟨fun _=>vI f.1,fun _=>noR,fun _=>[]⟩,⟨fun _=>vI (w64 (f.1+1)),fun _=>noR,fun _=>[]⟩,⟨fun ξ21=>.slice (ξ21 4 0).1 o.length (ξ21 4 0).2.2.1,fun ξ21=>aP (ξ21 4 0).1 (ξ21 4 0).2.2.1 120 6 o.length (encL TTrack_cells2 (List.zip (ξ21 8 0).2.2.2.1 o)),fun ξ21=>[factR (NestP (fun z:TT=>z.fK) (List.zip (ξ21 8 0).2.2.2.1 o) o∧∀y∈(List.zip (ξ21 8 0).2.2.2.1 o),y∈g)]⟩,⟨fun ξ21=>.agg #[vI p0.fPlaces,.slice (ξ21 4 0).1 o.length (ξ21 4 0).2.2.1],fun _=>noR,fun _=>[]⟩,⟨fun ξ21=>.pointer (some ⟨(ξ21 10 0).2.1,0,none⟩),fun _=>noR,fun ξ21=>[al (ξ21 10 0).2.1 24 [vI 0,.slice none 0 0]]⟩,⟨fun _=>undef,fun ξ21=>al (ξ21 10 0).2.1 24 [vI p0.fPlaces,.slice (ξ21 4 0).1 o.length (ξ21 4 0).2.2.1],fun _=>[]⟩] 5 bZ (by kernel_rfl) (by kernel_rfl) ⟨⟨fun ξ21 ξ21' h=>⟨E,E,E⟩,fun _=>E⟩,⟨fun ξ21 ξ21' h=>⟨E,E,E⟩,fun _=>E⟩,⟨fun ξ21 ξ21' h=>⟨E,E,E⟩,fun _=>E⟩,⟨fun ξ21 ξ21' h=>⟨E,E,E⟩,fun _=>E⟩,⟨fun ξ21 ξ21' h=>⟨by simp only[h 4 (.inl E)],E,by simp only[h 4 (.inl E)]⟩,fun _=>E⟩,⟨fun ξ21 ξ21' h=>⟨E,E,E⟩,fun _=>E⟩,⟨fun ξ21 ξ21' h=>⟨E,E,E⟩,fun _=>E⟩,⟨fun ξ21 ξ21' h=>⟨E,E,E⟩,fun _=>E⟩,⟨fun ξ21 ξ21' h=>⟨by simp only[h 4 (.inr E)],by simp only[h 4 (.inr E),h 8 (.inl E)],by simp only[h 8 (.inl E)]⟩,fun _=>E⟩,⟨fun ξ21 ξ21' h=>⟨by simp only[h 4 (.inr E)],E,E⟩,fun _=>E⟩,⟨fun ξ21 ξ21' h=>⟨by simp only[h 10 (.inl E)],E,by simp only[h 10 (.inl E)]⟩,fun _=>E⟩,⟨fun ξ21 ξ21' h=>⟨E,by simp only[h 4 (.inr E),h 10 (.inr E)],E⟩,fun _=>E⟩,trivial⟩ E (fun ξ21=>?_)
    refine cy E (fun L2=>?_) ?_
    ·dsimp only[aJ,lca,lna]
     refine oY E (yFA dE E) (oN ?_)
     exact az (fun _=>(none,0,0,[],noR)) E (List.append_nil _)
    dsimp only[bQ,lsz,lss,lna,lca,List.append_nil]
    refine cy E (fun L2=>?_) ?_
    ·dsimp only[aJ,lca,lna]
     refine oY E (yL 0 aN E E E) (oN ?_)
     exact az (fun _=>(none,0,0,[],noR)) E (List.append_nil _)
    dsimp only[bQ,lsz,lss,lna,lca,List.append_nil]
    refine cy E (fun L2=>?_) ?_
    ·dsimp only[aJ,lca,lna]
     refine oY E (yFA bI E) (oN ?_)
     exact az (fun _=>(none,0,0,[],noR)) E (List.append_nil _)
    dsimp only[bQ,lsz,lss,lna,lca,List.append_nil]
    refine cy E (fun L2=>?_) ?_
    ·dsimp only[aJ,lca,lna]
     refine oY E (yL 0 f7 E E E) (oN ?_)
     exact az (fun _=>(none,0,0,[],noR)) E (List.append_nil _)
    dsimp only[bQ,lsz,lss,lna,lca,List.append_nil]
    refine cy E (fun L2=>?_) ?_
    ·dsimp only[aJ,lca,lna]
     refine oC [.slice Ab p0.fTracks.length cb] _ _ _ E go_80 E (fun W2 u=>iB p0.fTracks O i W2 Ab p0.fTracks.length cb g E ((RdL.arg G) W2 u) (NestL.at (NestL.arg d) W2 u)) ?_
     rintro⟨gf,go,o0⟩ ⟨T,oi⟩
     replace T:go=O.length:=T;subst T
     refine oN ?_
     exact az (fun _=>(gf,0,o0,[],noR)) E E
    dsimp only[bQ,lsz,lss,lna,lca,List.append_nil]
    refine cy E (fun L2=>?_) ?_
    ·dsimp only[aJ,lca,lna]
     refine oY E (yMI E) (oN ?_)
     exact az (fun _=>(none,0,0,[],noR)) E (List.append_nil _)
    dsimp only[bQ,lsz,lss,lna,lca,List.append_nil]
    refine cy E (fun L2=>?_) ?_
    ·dsimp only[aJ,lca,lna]
     refine oY E (yMI E) (oN ?_)
     exact az (fun _=>(none,0,0,[],noR)) E (List.append_nil _)
    dsimp only[bQ,lsz,lss,lna,lca,List.append_nil]
    refine cy E (fun L2=>?_) ?_
    ·dsimp only[aJ,lca,lna]
     refine oY E (aM E E) (oN ?_)
     exact az (fun _=>(none,0,0,[],noR)) E (List.append_nil _)
    dsimp only[bQ,lsz,lss,lna,lca,List.append_nil]
    refine cy E (fun L2=>?_) ?_
    ·dsimp only[aJ,lca,lna]
     refine fz 5 [.slice (ξ21 4 0).1 O.length (ξ21 4 0).2.2.1,vI f.1,vI (w64 (f.1+1))] (fun x:Nat × List (Hd × TT)=>x.1=o.length∧NestP (fun z:TT=>z.fK) x.2 o∧∀y∈x.2,y∈g) (fun x=>.slice (ξ21 4 0).1 x.1 (ξ21 4 0).2.2.1) (fun x=>aP (ξ21 4 0).1 (ξ21 4 0).2.2.1 120 6 x.1 (encL TTrack_cells2 x.2)) (fun _=>[]) E E go_79 E (fun W2 u=>(io O f.1 (w64 (f.1+1)) o fr W2 _ _ (ξ21 4 0).1 O.length (ξ21 4 0).2.2.1 g E hPc_y22 (fun y hy W3 hb hR=>(PvL.of_nest d) y hy W3 hb trivial) u).mono (fun e W3 h3=>h3)) ?_
     rintro⟨k33,fd⟩ ⟨S,Q,hS37⟩
     replace S:k33=o.length:=S
     subst S
     try dsimp only[lsz,lss,List.append_nil]
     obtain⟨N,rfl⟩:∃N:List Hd,fd=List.zip N o:=⟨_,NestP.zip Q⟩
     refine tw (p:=(NestP (fun z:TT=>z.fK) (List.zip N o) o∧∀y∈(List.zip N o),y∈g)) ⟨Q,hS37⟩ ?_
     try dsimp only[lna,lca]
     try rw[List.append_nil L2]
     refine oN ?_
     exact az (fun _=>(none,0,0,N,noR)) E E
    dsimp only[bQ,lsz,lss,lna,lca,List.append_nil]
    refine cy E (fun L2=>?_) ?_
    ·dsimp only[aJ,lca,lna]
     refine oY E (bc [vI p0.fPlaces,.slice (ξ21 4 0).1 o.length (ξ21 4 0).2.2.1] [(0,1),(1,1)] ust_24 ze_24 (by kernel_rfl)) ?_
     refine oN ?_
     exact az (fun _=>(none,0,0,[],noR)) E (List.append_nil _)
    dsimp only[bQ,lsz,lss,lna,lca,List.append_nil]
    refine cy E (fun L2=>?_) ?_
    ·dsimp only[aJ,lca,lna]
     refine aF ze_24 E (fun o1=>?_)
     refine oN ?_
     exact az (fun _=>(none,o1,0,[],noR)) E E
    dsimp only[bQ,lsz,lss,lna,lca,List.append_nil]
    refine gx_n E (fun L2=>?_) ?_
    ·dsimp only[aJ,lca,lna]
     refine co E (yS 7 [vI p0.fPlaces,.slice (ξ21 4 0).1 o.length (ξ21 4 0).2.2.1] sz_24 E (nB E) E E E) (oN ?_)
     first|exact bR (fun _=>(none,0,0,[],noR)) E|exact bR (fun _=>(none,0,0,[],noR)) (List.append_nil _)
    dsimp only[bQ,lsz,lss,lna,lca,List.append_nil]
    refine lJ ?_
    refine ex_fact 6 E (fun hF=>?_)
    obtain⟨Q,hS37⟩:=hF
    refine eT (cS (cR ?_))
    try dsimp only[lna,lca,lsz,lss]
    refine oY E (yN 7 [vI p0.fPlaces,.slice (ξ21 4 0).1 o.length (ξ21 4 0).2.2.1] dh E E E) (oY E (yMI E) (oY E (yMI E) (oY E (yMI E) (oY E (yMI E) ?_))))
    obtain⟨M,fD,h⟩:=bOs h
    refine oC [.agg #[vI p0.fPlaces,.slice (ξ21 4 0).1 o.length (ξ21 4 0).2.2.1],vI p1,vI p2,vI p3,vI p4] _ _ _ E go_71 E (fun W2 u=>kq (TR.mk p0.fPlaces o) p1 p2 p3 p4 M fD W2 (ξ21 4 0).1 o.length (ξ21 4 0).2.2.1 (List.zip (ξ21 8 0).2.2.2.1 o) E ((RdL.row 5 E) W2 u) (NestL.at (PvL.nestL Q (PvL.sub (PvL.of_nest d) hS37) (fun W2 u=>⟨u.below,trivial⟩)) W2 u) W (fun _=>True) (fun W3 hb=>⟨f0 u.below hb,trivial⟩) ) ?_
    rintro⟨⟨o2,oX,oq⟩,F48⟩ ⟨R,oj⟩
    replace R:oX=M.1.fLegs.length:=R;subst R
    try dsimp only[lna,lca,lsz,lss]
    refine oY E (aU E) (oY E (yE E E) (oY E (yE E E) ?_))
    refine aF la E (fun op=>?_)
    try dsimp only[lna,lca,lsz,lss]
    refine co E (yS 9 [.slice o2 M.1.fLegs.length oq,vI M.1.fA,vI M.1.fToll] mz E (nB E) E E E) (oY E (yAB E) (oN (eT (cS (cR (oY E (yMB E) (oY E (bw E) (oY E (yMB E) ?_))))))))
    refine oJ 6 (fun l=>(upd (upd (upd (upd (upd (upd (upd (upd (upd (upd (upd (upd (upd (upd (upd (upd (upd (upd (upd l 1 (vI p1)) 2 (vI p2)) 3 (vI p3)) 4 (vI p4)) 5 (.pointer (some ⟨b1,0,none⟩))) 10 (.slice none 0 0)) 11 (vI 0)) 12 (.pointer (some ⟨n,0,none⟩))) 14 (.slice I f.2.length K)) 33 (.slice Ab p0.fTracks.length cb)) 34 (vI (p0.fTracks.length:Int))) 35 (vI f.1)) 36 (.bool (decide (f.1<(p0.fTracks.length:Int))))) 16 (.pointer (some ⟨g2,0,none⟩))) 15 (vI f.1)) 17 (.pointer (some ⟨(ξ21 10 0).2.1,0,none⟩))) 18 (.pointer (some ⟨op,0,none⟩))) 19 (.bool M.2)) 67 (.bool ((!M.2)||(M.1.fA !=U.1.fA))))) (fun l=>?_) (fun key=>?_)
    ·refine oN (eT ?_)
     rcases iOs h with⟨q,h⟩|⟨q,h⟩
     ·refine cT (vB q) (cR (oY E (yMS E) (oY E (yFA im E) (oY E (yL 4 aN E E E) ?_))))
      refine aR 1 (encL cI [(rdL p0.fTracks f.1).fID]) _ ob cO mF pu (by decide) (by decide) (by kernel_rfl) (eL aB E) E (fun r0=>?_)
      try dsimp only[lna,lca,lsz,lss]
      obtain⟨fE,h⟩:=gOs h
      refine cC 3 cO mF pu E E E (RdL.row 10 E) (eL aB E) (eh pE _) (eS fE (by decide)) E (fun om ot=>?_)
      refine oY E (yAS E) (oN (aw (eT (cR (oY E (aM E E) (oY E (yMI E) (oN (aT 4 ?_))))))))
      obtain rfl:=sI h
      exact eN ⟨_,om,ot,(f.2.length+1),(ju E E),E,(kp4 (kp4 (kp4 E)))⟩
     ·refine cF (vB q) (cK (aw (eT (cR (oY E (aM E E) (oY E (yMI E) (oN (aT 4 ?_))))))))
      obtain rfl:=sI h
      exact eN ⟨_,I,K,f.2.length,E,E,(kp4 (kp4 (kp4 E)))⟩
    ·rcases aq (!M.2)with r|r
     ·refine oSk (sF E E E E r) (oSk (sF E E E E r) (oSk (sF E E E E r) (oSk (sF E E E E r) (oSk (sF E E E E r) (oY E (ac (vB r) E) ?_)))))
      exact key _ _ (keep (keep (keep (keep (keep (keep (keep (keep (keep (keep (keep (keep (keep (keep (keep (keep (keep (keep (keep E E) E) E) E) E) E) E) E) E) E) E) E) E) E) E) E) E) E) (vB (iy r)))
     ·refine oY (sT E E E E r) (yFA lv E) (oY (sT E E E E r) (yL 9 aN E E E) (oY (sT E E E E r) (yFA lv E) (oY (sT E E E E r) (yL 2 aN E E E) (oY (sT E E E E r) (cU E E) (oY E (ad (vB r) E) ?_)))))
      exact key _ _ (keep (keep (keep (keep (keep (keep (keep (keep (keep (keep (keep (keep (keep (keep (keep (keep (keep (keep (keep E E) E) E) E) E) E) E) E) E) E) E) E) E) E) E) E) E) E) (vB (iw r)))
   ·refine cF (vB V) (aD (aj ?_))
    obtain rfl:=sI h
    exact au ⟨E,_,I,K,f.2.length,E,E,(kp4 (kp4 (kp4 E)))⟩
  ·intro e L tm hJ
   obtain⟨rfl,fG,w,D,fn,rfl,rfl,rfl⟩:=hJ
   refine⟨(by intro hc;cases hc),?_⟩
   refine ae (eT (cS (cR (oY E (yMS E) ?_))))
   obtain⟨c,fH,h⟩:=bOs h
   refine fz 3 [.slice w H.2.length D] (fun(_:Unit)=>H.2.length=c.length) (fun _=>.tuple #[]) (fun _=>aP w D 3 1 H.2.length (encL cI c)) (fun _=>[]) E E go_81 E (fun W2 u=>(d9 H.2 c fH W2 _ (bA [al b1 24 [vI p0.fPlaces,.slice Ab p0.fTracks.length cb],F10,al n 29 [.slice A6 U.1.fLegs.length c7,vI U.1.fA,vI U.1.fToll],aP w D 3 1 H.2.length (encL cI H.2)] [3]) w H.2.length D E u).mono (fun e W3 h3=>⟨(),h3.2.1,h3.1,h3.2.2⟩)) ?_
   rintro-fT
   try dsimp only[lsz,lss,List.append_nil]
   refine oN (eT (cS (cR (oY E (yMS E) (oY E (yAS E) (oY E (yAI E) (oN (eT (am ?_)))))))))
   obtain rfl:=sI h
   exact bJ (.inl E) E (rVt (v:=.slice w H.2.length D) E) (rVt (v:=vI 0) E) (fun W2 u=>⟨(w,H.2.length,D),fT,E,(u.pick 3 E)⟩)
theorem cz (p0:(List Int)) (p1:(List Int)) (res:Bool) (h:bK p0 p1=some res) (W:World) (Aa:Option Addr) (f ca:Nat) (D:f=p0.length) (g:Rd W Aa f ca (encL cI p0)) (Ac:Option Addr) (o cc:Nat) (F:o=p1.length) (r:Rd W Ac o cc (encL cI p1)) :
  Calls Tryz.prog 25 [.slice Aa f ca,.slice Ac o cc].toArray W fun e W2=>e=.returned (.bool res)∧Ext W W2 []:=by
 subst D
 subst F
 unfold bK at h
 refine ag (m:=26) Tryz.func25 E E (nB E) (cS (cR (oY E (yAB E) (oN (eT (cS (cS (cR (oY E (yMS E) (oY E (bg (us:=[]) cO E) (oY E (yMS E) (oY E (bg (us:=[]) cO E) (oY E (cU E E) (oN (eT ?_)))))))))))))))
 rcases iOs h with⟨G,h⟩|⟨G,h⟩
 ·refine cT (vB G) (cS (cR (oY E (yAB E) (oN (eT (am (aa ?_)))))))
  obtain rfl:=sI h
  exact ak (.inl E) E (rVt (v:=.bool false) E) (fun W2 u=>⟨E,u.none⟩)
 ·refine cF (vB G) (cK (eT (cS (cS (cR (oY E (yAI E) (oN (eT (cB ?_)))))))))
  obtain⟨Y,Q,h⟩:=bOs h
  refine ba (fun(s:(Bool × Int)) L tm=>∃(U:Nat→Value),L=[]∧tm=(upd (upd (upd (upd U 0 (.slice Aa p0.length ca)) 1 (.slice Ac p1.length cc)) 4 (.bool s.1)) 5 (vI s.2))) 0 Q ⟨_,E,(kp4 E)⟩ ?_ ?_
  ·rintro N L tm st ⟨O,rfl,rfl⟩ h
   unfold cx at h
   refine cS (cS (cR (oY E (yMI E) (oY E (yMS E) (oY E (bg (us:=[]) cO E) (oY E (a6 E E) (oN (eT ?_))))))))
   rcases iOs h with⟨H,h⟩|⟨H,h⟩
   ·refine cT (vB H) (cK (eT (cS (cB (cS ?_)))))
    refine aX 9 bZ (by kernel_rfl) (by kernel_rfl) ?_
    refine qY E (yMS E) (qY E (yMI E) ?_)
    obtain⟨d,h⟩:=gOs h
    refine qY E (yI bS (by decide) d.1 d.2 (RdL.arg g) (eL aB E) E E) ?_
    refine qY E (yR (A:=Aa) (j:=(Int.toNat N.2*1)) (v:=vI (rdL p0 N.2)) aN (RdL.arg g) E (ax aB d.1 (ai d.2 E) E)) (qY E (yMS E) (qY E (yMI E) ?_))
    obtain⟨w,h⟩:=gOs h
    refine qY E (yI bS (by decide) w.1 w.2 (RdL.arg r) (eL aB E) E E) ?_
    refine qY E (yR (A:=Ac) (j:=(Int.toNat N.2*1)) (v:=vI (rdL p1 N.2)) aN (RdL.arg r) E (ax aB w.1 (ai w.2 E) E)) (qY E (cU E E) (bF (oN (eT ?_))))
    rcases iOs h with⟨I,h⟩|⟨I,h⟩
    ·refine cT (vB I) (cS (cR (oY E (yAB E) (oN (eT (am (ah (aa ?_))))))))
     obtain rfl:=sI h
     exact au ⟨E,_,E,(kp4 E)⟩
    ·refine cF (vB I) (cK (aw (eT (cR (oY E (yMI E) (oY E (aM E E) (oY E (yAI E) (oN ?_))))))))
     obtain rfl:=sI h
     exact eN ⟨_,E,(kp4 E)⟩
   ·refine cF (vB H) (aD (aj ?_))
    obtain rfl:=sI h
    exact au ⟨E,_,E,(kp4 E)⟩
  ·intro e L tm hJ
   rcases Y with X|Z
   ·dsimp only at h hJ
    obtain⟨rfl,K,rfl,rfl⟩:=hJ
    refine⟨(by intro hc;cases hc),?_⟩
    refine ah (aa ?_)
    obtain rfl:=sI h
    exact ak (.inl E) E (rVt (v:=.bool X.1) E) (fun W2 u=>⟨E,u.none⟩)
   ·dsimp only at h hJ
    obtain⟨rfl,M,rfl,rfl⟩:=hJ
    refine⟨(by intro hc;cases hc),?_⟩
    refine ae (eT (cS (cR (oY E (yAB E) (oN (eT (am ?_)))))))
    obtain rfl:=sI h
    exact ak (.inl E) E (rVt (v:=.bool true) E) (fun W2 u=>⟨E,u.none⟩)
theorem gD (p0:(List TO)) (p1:TO→Option Bool) (res:Int) (h:cr p0 p1=some res) (W:World) (Aa:Option Addr) (g ca:Nat) (d:g=p0.length) (o:Rd W Aa g ca (encL aC p0)) (fid1:Nat) (fst1 caps1:List Value) (F:bu Tryz.prog fid1=true) (G:∀W2,Below W.heap.size W W2→∀x,∀y,p1 x=some y→Calls Tryz.prog fid1 (fst1++(([.agg #[vI x.fID,vI x.fH.fLo,vI x.fH.fHi,vI x.fD,vI x.fW]]:List Value)++caps1)).toArray W2 fun e W3=>e=.returned (.bool y)∧Ext W2 W3 []) :
  Calls Tryz.prog 173 [.slice Aa g ca,.func (.func fid1) fst1.toArray caps1.toArray].toArray W fun e W2=>e=.returned (vI res)∧Ext W W2 []:=by
 subst d
 unfold cr at h
 refine ag (m:=19) Tryz.func173 E E (nB E) (cS (cR (oY E (yAI E) (oN (eT (cS (cS (cR (oY E (yMS E) (oY E (bg (us:=[]) lD E) (oY E (yMI E) (oN (eT (cB ?_))))))))))))))
 obtain⟨U,M,h⟩:=bOs h
 refine ba (fun(s:(Int × Int)) L tm=>∃(N:Nat→Value),L=[]∧tm=(upd (upd (upd (upd (upd N 0 (.slice Aa p0.length ca)) 1 (.func (.func fid1) fst1.toArray caps1.toArray)) 4 (vI s.1)) 7 (vI (p0.length:Int))) 8 (vI s.2))) 0 M ⟨_,E,(kp4 (kp E))⟩ ?_ ?_
 ·rintro f L tm st ⟨K,rfl,rfl⟩ h
  unfold dv at h
  refine cS (cR (oY E (a6 E E) (oN (eT (cS ?_)))))
  rcases iOs h with⟨w,h⟩|⟨w,h⟩
  ·refine cT (vB w) (cK (eT (cS (cB (cS (cR (oY E (yMI E) (oY E (yAI E) (oN (eT (cS (cR (oY E (bE (v:=.func (.func fid1) fst1.toArray caps1.toArray) E) (oY E (yMS E) (oY E (yMI E) ?_)))))))))))))))
   obtain⟨u,h⟩:=gOs h
   refine oY E (yI kz (by decide) u.1 u.2 (RdL.arg o) (eL av E) E E) ?_
   refine oY E (yM (A:=Aa) (j:=(Int.toNat f.2*5)) [vI ((rdL p0 f.2).fID),vI ((rdL p0 f.2).fH.fLo),vI ((rdL p0 f.2).fH.fHi),vI ((rdL p0 f.2).fD),vI ((rdL p0 f.2).fW)] qR (Nat.succ_pos _) (RdL.arg o) E (be av u.1 (ai u.2 E))) ?_
   obtain⟨X,O,h⟩:=bOs h
   refine oY E (gN [.agg #[vI ((rdL p0 f.2).fID),vI ((rdL p0 f.2).fH.fLo),vI ((rdL p0 f.2).fH.fHi),vI ((rdL p0 f.2).fD),vI ((rdL p0 f.2).fW)]] F E E (fun W2 r=>G W2 r.below (TO.mk ((rdL p0 f.2).fID) (TSpan.mk ((rdL p0 f.2).fH.fLo) ((rdL p0 f.2).fH.fHi)) ((rdL p0 f.2).fD) ((rdL p0 f.2).fW)) X O)) (oN (eT ?_))
   rcases iOs h with⟨D,h⟩|⟨D,h⟩
   ·refine cT (vB D) (cS (cR (oY E (yMI E) (oY E (yAI E) (oN (eT (am (ah (aa ?_)))))))))
    obtain rfl:=sI h
    exact au ⟨E,_,E,(kp4 (kp E))⟩
   ·refine cF (vB D) (cK (aw (eT (cR (oY E (aM E E) (oY E (yMI E) (oN ?_)))))))
    obtain rfl:=sI h
    exact eN ⟨_,E,(kp4 (kp E))⟩
  ·refine cF (vB w) (aD (aj ?_))
   obtain rfl:=sI h
   exact au ⟨E,_,E,(kp4 (kp E))⟩
 ·intro e L tm hJ
  rcases U with Q|Y
  ·dsimp only at h hJ
   obtain⟨rfl,H,rfl,rfl⟩:=hJ
   refine⟨(by intro hc;cases hc),?_⟩
   refine ah (aa ?_)
   obtain rfl:=sI h
   exact ak (.inl E) E (rVt (v:=vI Q.1) E) (fun W2 r=>⟨E,r.none⟩)
  ·dsimp only at h hJ
   obtain⟨rfl,I,rfl,rfl⟩:=hJ
   refine⟨(by intro hc;cases hc),?_⟩
   refine ae (eT (cS (cR (oY E (yAI E) (oN (eT (am ?_)))))))
   obtain rfl:=sI h
   exact ak (.inl E) E (rVt (v:=vI (-1)) E) (fun W2 r=>⟨E,r.none⟩)
theorem il (p0:(List TO)) (p1:TO→Option Bool) (res:Int) (h:df p0 p1=some res) (W:World) (Aa:Option Addr) (f ca:Nat) (o:f=p0.length) (r:Rd W Aa f ca (encL aC p0)) (fid1:Nat) (fst1 caps1:List Value) (u:bu Tryz.prog fid1=true) (d:∀W2,Below W.heap.size W W2→∀x,∀y,p1 x=some y→Calls Tryz.prog fid1 (fst1++(([.agg #[vI x.fID,vI x.fH.fLo,vI x.fH.fHi,vI x.fD,vI x.fW]]:List Value)++caps1)).toArray W2 fun e W3=>e=.returned (.bool y)∧Ext W2 W3 []) :
  Calls Tryz.prog 134 [.slice Aa f ca,.func (.func fid1) fst1.toArray caps1.toArray].toArray W fun e W2=>e=.returned (vI res)∧Ext W W2 []:=by
 subst o
 unfold df at h
 refine ag (m:=8) Tryz.func134 E E (nB E) (cS (cR (oY E (yAI E) (oN (eT (cS (cR (oY E (yMS E) (oY E (bE (v:=.func (.func fid1) fst1.toArray caps1.toArray) E) ?_)))))))))
 obtain⟨D,w,h⟩:=bOs h
 refine oY E (yC [.slice Aa p0.length ca,.func (.func fid1) fst1.toArray caps1.toArray] go_173 E (fun W2 g=>gD p0 p1 D w W2 Aa p0.length ca E ((RdL.arg r) W2 g) fid1 fst1 caps1 u (fun W3 hb=>d W3 (f0 g.below hb))) E) (oY E (yAI E) (oN (eT (am ?_))))
 obtain rfl:=sI h
 exact ak (.inl E) E (rVt (v:=vI D) E) (fun W2 g=>⟨E,g.none⟩)
theorem oy (p0:TO) (f:Int) (res:Bool) (h:jh p0 f=some res) (W:World) (g:Nat) (o:Rd W (some ⟨g,0,none⟩) 1 1 (cI f)) :
  Calls Tryz.prog 135 [.agg #[vI p0.fID,vI p0.fH.fLo,vI p0.fH.fHi,vI p0.fD,vI p0.fW],.pointer (some ⟨g,0,none⟩)].toArray W fun e W2=>e=.returned (.bool res)∧Ext W W2 []:=by
 unfold jh at h
 refine ag (m:=8) Tryz.func135 E E (nB E) (cS (cR ?_))
 refine aI [vI p0.fID,vI p0.fH.fLo,vI p0.fH.fHi,vI p0.fD,vI p0.fW] E E E (fun u=>?_)
 refine oY E (yAB E) (oN (eT (cS (cR (oY E (yFA kw E) (oY E (yL 0 aN E E E) (oY E (yR (A:=(some ⟨g,0,none⟩)) (j:=0) (v:=vI f) aN (RdL.arg o) E E) (oY E (cL E E) (oY E (yAB E) (oN (eT (am ?_))))))))))))
 obtain rfl:=sI h
 exact ak (.inl E) E (rVt (v:=.bool (p0.fID==f)) E) (fun W2 r=>⟨E,r.none⟩)
theorem jP (p0:TY) (p1:Int) (res:Int) (h:jp p0 p1=some res) (W:World) (Aa:Option Addr) (f ca:Nat) (r:f=p0.fB.length) (D:Rd W Aa f ca (encL aG p0.fB)) (Ab:Option Addr) (g cb:Nat) (u:g=p0.fR.length) (d:Rd W Ab g cb (encL aC p0.fR)) :
  Calls Tryz.prog 90 [.agg #[.slice Aa f ca,.slice Ab g cb],vI p1].toArray W fun e W2=>e=.returned (vI res)∧Ext W W2 []:=by
 subst r
 subst u
 unfold jp at h
 refine ag (m:=9) Tryz.func90 E E (nB E) (cS (cR ?_))
 refine aI [.slice Aa p0.fB.length ca,.slice Ab p0.fR.length cb] E E E (fun I=>?_)
 refine aI [vI p1] E E E (fun w=>?_)
 refine oY E (yAI E) (oN (eT (cS (cR (oY E (yFA cg E) (oY E (yL 0 gT E E E) (oY E (bV [.pointer (some ⟨w,0,none⟩)] E E) ?_)))))))
 obtain⟨G,F,h⟩:=bOs h
 refine oY E (yC [.slice Ab p0.fR.length cb,.func (.func 135) #[] #[.pointer (some ⟨w,0,none⟩)]] go_134 E (fun W2 o=>il p0.fR (fun H=>jh H p1) G F W2 Ab p0.fR.length cb E ((RdL.arg d) W2 o) 135 [] [.pointer (some ⟨w,0,none⟩)] go_135 (fun W3 hb x y hxy=>oy  x p1 y hxy W3 w (((RdL.cells 1 E) W2 o).later hb))) E) (oY E (yAI E) (oN (eT (am ?_))))
 obtain rfl:=sI h
 exact ak (.inl E) E (rVt (v:=vI G) E) (fun W2 o=>⟨E,o.none⟩)
theorem iT (p0:(List TBay)) (p1:TBay→Option Bool) (res:Int) (h:dw p0 p1=some res) (W:World) (Aa:Option Addr) (f ca:Nat) (d:f=p0.length) (g:Rd W Aa f ca (encL aG p0)) (fid1:Nat) (fst1 caps1:List Value) (F:bu Tryz.prog fid1=true) (G:∀W2,Below W.heap.size W W2→∀x,∀y,p1 x=some y→Calls Tryz.prog fid1 (fst1++(([.agg #[vI x.fID,vI x.fHour,vI x.fD]]:List Value)++caps1)).toArray W2 fun e W3=>e=.returned (.bool y)∧Ext W2 W3 []) :
  Calls Tryz.prog 174 [.slice Aa f ca,.func (.func fid1) fst1.toArray caps1.toArray].toArray W fun e W2=>e=.returned (vI res)∧Ext W W2 []:=by
 subst d
 unfold dw at h
 refine ag (m:=19) Tryz.func174 E E (nB E) (cS (cR (oY E (yAI E) (oN (eT (cS (cS (cR (oY E (yMS E) (oY E (bg (us:=[]) kc E) (oY E (yMI E) (oN (eT (cB ?_))))))))))))))
 obtain⟨U,M,h⟩:=bOs h
 refine ba (fun(s:(Int × Int)) L tm=>∃(N:Nat→Value),L=[]∧tm=(upd (upd (upd (upd (upd N 0 (.slice Aa p0.length ca)) 1 (.func (.func fid1) fst1.toArray caps1.toArray)) 4 (vI s.1)) 7 (vI (p0.length:Int))) 8 (vI s.2))) 0 M ⟨_,E,(kp4 (kp E))⟩ ?_ ?_
 ·rintro r L tm st ⟨K,rfl,rfl⟩ h
  unfold eo at h
  refine cS (cR (oY E (a6 E E) (oN (eT (cS ?_)))))
  rcases iOs h with⟨w,h⟩|⟨w,h⟩
  ·refine cT (vB w) (cK (eT (cS (cB (cS (cR (oY E (yMI E) (oY E (yAI E) (oN (eT (cS (cR (oY E (bE (v:=.func (.func fid1) fst1.toArray caps1.toArray) E) (oY E (yMS E) (oY E (yMI E) ?_)))))))))))))))
   obtain⟨u,h⟩:=gOs h
   refine oY E (yI mV (by decide) u.1 u.2 (RdL.arg g) (eL aL E) E E) ?_
   refine oY E (yM (A:=Aa) (j:=(Int.toNat r.2*3)) [vI ((rdL p0 r.2).fID),vI ((rdL p0 r.2).fHour),vI ((rdL p0 r.2).fD)] ag_69 (Nat.succ_pos _) (RdL.arg g) E (be aL u.1 (ai u.2 E))) ?_
   obtain⟨X,O,h⟩:=bOs h
   refine oY E (gN [.agg #[vI ((rdL p0 r.2).fID),vI ((rdL p0 r.2).fHour),vI ((rdL p0 r.2).fD)]] F E E (fun W2 o=>G W2 o.below (TBay.mk ((rdL p0 r.2).fID) ((rdL p0 r.2).fHour) ((rdL p0 r.2).fD)) X O)) (oN (eT ?_))
   rcases iOs h with⟨D,h⟩|⟨D,h⟩
   ·refine cT (vB D) (cS (cR (oY E (yMI E) (oY E (yAI E) (oN (eT (am (ah (aa ?_)))))))))
    obtain rfl:=sI h
    exact au ⟨E,_,E,(kp4 (kp E))⟩
   ·refine cF (vB D) (cK (aw (eT (cR (oY E (aM E E) (oY E (yMI E) (oN ?_)))))))
    obtain rfl:=sI h
    exact eN ⟨_,E,(kp4 (kp E))⟩
  ·refine cF (vB w) (aD (aj ?_))
   obtain rfl:=sI h
   exact au ⟨E,_,E,(kp4 (kp E))⟩
 ·intro e L tm hJ
  rcases U with Q|Y
  ·dsimp only at h hJ
   obtain⟨rfl,H,rfl,rfl⟩:=hJ
   refine⟨(by intro hc;cases hc),?_⟩
   refine ah (aa ?_)
   obtain rfl:=sI h
   exact ak (.inl E) E (rVt (v:=vI Q.1) E) (fun W2 o=>⟨E,o.none⟩)
  ·dsimp only at h hJ
   obtain⟨rfl,I,rfl,rfl⟩:=hJ
   refine⟨(by intro hc;cases hc),?_⟩
   refine ae (eT (cS (cR (oY E (yAI E) (oN (eT (am ?_)))))))
   obtain rfl:=sI h
   exact ak (.inl E) E (rVt (v:=vI (-1)) E) (fun W2 o=>⟨E,o.none⟩)
theorem i8 (p0:(List TBay)) (p1:TBay→Option Bool) (res:Int) (h:dM p0 p1=some res) (W:World) (Aa:Option Addr) (f ca:Nat) (o:f=p0.length) (r:Rd W Aa f ca (encL aG p0)) (fid1:Nat) (fst1 caps1:List Value) (u:bu Tryz.prog fid1=true) (d:∀W2,Below W.heap.size W W2→∀x,∀y,p1 x=some y→Calls Tryz.prog fid1 (fst1++(([.agg #[vI x.fID,vI x.fHour,vI x.fD]]:List Value)++caps1)).toArray W2 fun e W3=>e=.returned (.bool y)∧Ext W2 W3 []) :
  Calls Tryz.prog 139 [.slice Aa f ca,.func (.func fid1) fst1.toArray caps1.toArray].toArray W fun e W2=>e=.returned (vI res)∧Ext W W2 []:=by
 subst o
 unfold dM at h
 refine ag (m:=8) Tryz.func139 E E (nB E) (cS (cR (oY E (yAI E) (oN (eT (cS (cR (oY E (yMS E) (oY E (bE (v:=.func (.func fid1) fst1.toArray caps1.toArray) E) ?_)))))))))
 obtain⟨D,w,h⟩:=bOs h
 refine oY E (yC [.slice Aa p0.length ca,.func (.func fid1) fst1.toArray caps1.toArray] go_174 E (fun W2 g=>iT p0 p1 D w W2 Aa p0.length ca E ((RdL.arg r) W2 g) fid1 fst1 caps1 u (fun W3 hb=>d W3 (f0 g.below hb))) E) (oY E (yAI E) (oN (eT (am ?_))))
 obtain rfl:=sI h
 exact ak (.inl E) E (rVt (v:=vI D) E) (fun W2 g=>⟨E,g.none⟩)
theorem qC (p0:TBay) (f:Int) (res:Bool) (h:kP p0 f=some res) (W:World) (g:Nat) (o:Rd W (some ⟨g,0,none⟩) 1 1 (cI f)) :
  Calls Tryz.prog 140 [.agg #[vI p0.fID,vI p0.fHour,vI p0.fD],.pointer (some ⟨g,0,none⟩)].toArray W fun e W2=>e=.returned (.bool res)∧Ext W W2 []:=by
 unfold kP at h
 refine ag (m:=8) Tryz.func140 E E (nB E) (cS (cR ?_))
 refine aI [vI p0.fID,vI p0.fHour,vI p0.fD] E E E (fun u=>?_)
 refine oY E (yAB E) (oN (eT (cS (cR (oY E (yFA kH E) (oY E (yL 0 aN E E E) (oY E (yR (A:=(some ⟨g,0,none⟩)) (j:=0) (v:=vI f) aN (RdL.arg o) E E) (oY E (cL E E) (oY E (yAB E) (oN (eT (am ?_))))))))))))
 obtain rfl:=sI h
 exact ak (.inl E) E (rVt (v:=.bool (p0.fID==f)) E) (fun W2 r=>⟨E,r.none⟩)
theorem o5 (p0:TY) (p1:Int) (res:Int) (h:nH p0 p1=some res) (W:World) (Aa:Option Addr) (f ca:Nat) (r:f=p0.fB.length) (u:Rd W Aa f ca (encL aG p0.fB)) (Ab:Option Addr) (g cb:Nat) (d:g=p0.fR.length) (D:Rd W Ab g cb (encL aC p0.fR)) :
  Calls Tryz.prog 96 [.agg #[.slice Aa f ca,.slice Ab g cb],vI p1].toArray W fun e W2=>e=.returned (vI res)∧Ext W W2 []:=by
 subst r
 subst d
 unfold nH at h
 refine ag (m:=9) Tryz.func96 E E (nB E) (cS (cR ?_))
 refine aI [.slice Aa p0.fB.length ca,.slice Ab p0.fR.length cb] E E E (fun I=>?_)
 refine aI [vI p1] E E E (fun w=>?_)
 refine oY E (yAI E) (oN (eT (cS (cR (oY E (yFA en E) (oY E (yL 0 ku E E E) (oY E (bV [.pointer (some ⟨w,0,none⟩)] E E) ?_)))))))
 obtain⟨G,F,h⟩:=bOs h
 refine oY E (yC [.slice Aa p0.fB.length ca,.func (.func 140) #[] #[.pointer (some ⟨w,0,none⟩)]] go_139 E (fun W2 o=>i8 p0.fB (fun H=>kP H p1) G F W2 Aa p0.fB.length ca E ((RdL.arg u) W2 o) 140 [] [.pointer (some ⟨w,0,none⟩)] go_140 (fun W3 hb x y hxy=>qC  x p1 y hxy W3 w (((RdL.cells 1 E) W2 o).later hb))) E) (oY E (yAI E) (oN (eT (am ?_))))
 obtain rfl:=sI h
 exact ak (.inl E) E (rVt (v:=vI G) E) (fun W2 o=>⟨E,o.none⟩)
end Go.Proofs.YthndghnkebboaaaGreat
