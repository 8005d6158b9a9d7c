import Derived.Test.YthndghnkebboaaaGreatF
import Derived.Test.YthndghnkebboaaaGreatGy
import Derived.Test.YthndghnkebboaaaGreatC2
import Derived.Test.YthndghnkebboaaaGreatC6
import Derived.Test.YthndghnkebboaaaGreatC11
import Derived.Test.YthndghnkebboaaaGreatC23
set_option maxHeartbeats 4000000
set_option maxRecDepth 100000
set_option linter.unusedVariables false
namespace Go.Proofs.YthndghnkebboaaaGreat
open Go.RowKit (Below)
attribute [local irreducible] OX QX CX EX OpY Calls CallsIn
theorem mE (p0:TR) (p1:Int) (p2:Int) (res:TTimed) (h:d6 p0 p1 p2=some res) (W:World) (Ab:Option Addr) (o cb:Nat) (g:List (Hd × TT)) (F:o=p0.fTracks.length) (r:Rd W Ab o cb (encL TTrack_cells2 g)) (u:NestW W (fun z:TT=>z.fK) TSpan_cells g p0.fTracks) (wb:World) (Hb:World→Prop) (hB:∀W3,Below W.heap.size W W3→Below wb.heap.size wb W3∧Hb W3) :
  Calls Tryz.prog 54 [.agg #[vI p0.fPlaces,.slice Ab o cb],vI p1,vI p2].toArray W fun e W2=>∃x:((Option Addr × Nat × Nat) × (List (Hd × (List Int))) × Res),(x.1.2.1=res.fT.fH.length∧NestP (fun z:(List Int)=>z) x.2.1 res.fT.fH∧PvL (fun z:(List Int)=>z) cI wb (fun W4=>Hb W4∧Res.holds x.2.2 W4) x.2.1)∧e=.returned (.agg #[.slice x.1.1 x.1.2.1 x.1.2.2,vI res.fE])∧Ext W W2 [aP x.1.1 x.1.2.2 42 1 x.1.2.1 (encL SlInt_cells2 x.2.1),x.2.2]:=by
 subst F
 unfold d6 at h
 refine ag (m:=22) Tryz.func54 E E (nB E) (cS (cR ?_))
 refine aI [vI p0.fPlaces,.slice Ab p0.fTracks.length cb] E E E (fun X=>?_)
 refine aF ze_98 E (fun Y=>?_)
 refine oN (eT (cS (cR (oY E (yN 0 [vI p0.fPlaces,.slice Ab p0.fTracks.length cb] dh E E E) (oY E (yMI E) (oY E (yMI E) ?_))))))
 obtain⟨N,O,h⟩:=bOs h
 refine oY E (yC [.agg #[vI p0.fPlaces,.slice Ab p0.fTracks.length cb],vI p1,vI 0,vI p2,vI 0] go_73 E (fun W2 f=>jk p0 p1 0 p2 0 N O W2 Ab p0.fTracks.length cb g E ((RdL.arg r) W2 f) (NestL.at (NestL.arg u) W2 f)) E) (oY E (yAI E) (oN (eT (cS (cS (cR (oY E (yMI E) (oY E (cU E E) (oN (eT ?_))))))))))
 rcases iOs h with⟨G,h⟩|⟨G,h⟩
 ·refine cT (vB G) (cS (cR (oY E (yMI E) ?_)))
  refine oY E (bc [.slice none 0 0,vI N] [(0,1),(1,1)] ust_98 ze_98 (by kernel_rfl)) ?_
  refine co E (yS 1 [.slice none 0 0,vI N] sz_98 E (nB E) E E E) (oN (eT (am (aa ?_))))
  obtain rfl:=sI h
  exact ak (.inl E) E (bO 1 [.slice none 0 0,vI N] ag_98 E E E) (fun W2 f=>⟨((none,0,0),[],noR),⟨E,NestP.nil,PvL.nil⟩,E,(f.nilrow 42 1).addNo.pickL [2,3] (by decide) E⟩)
 ·refine cF (vB G) (cK (eT (cS (cR (oY E (yN 0 [vI p0.fPlaces,.slice Ab p0.fTracks.length cb] dh E E E) (oY E (yMI E) (oY E (yMI E) ?_)))))))
  obtain⟨H,Q,h⟩:=bOs h
  refine oC [.agg #[vI p0.fPlaces,.slice Ab p0.fTracks.length cb],vI p1,vI p2] _ _ _ E go_75 E (fun W2 f=>mC p0 p1 p2 H Q W2 Ab p0.fTracks.length cb g E ((RdL.arg r) W2 f) (NestL.at (NestL.arg u) W2 f) wb Hb (fun W3 hb=>hB W3 (f0 f.below hb)) ) ?_
  rintro⟨⟨d,U,w⟩,I,F16⟩ ⟨D,K,M⟩
  replace D:U=H.length:=D;subst D
  refine oY E (bc [.slice d H.length w] [(0,1)] ust_87 tt (by kernel_rfl)) ?_
  refine oY E (bc [.slice d H.length w,vI 0] [(0,1),(1,1)] ust_98 ze_98 (by kernel_rfl)) ?_
  refine co E (yS 1 [.slice d H.length w,vI 0] sz_98 E (nB E) E E E) (oN (eT (am ?_)))
  obtain rfl:=sI h
  exact ak (.inl E) E (bO 1 [.slice d H.length w,vI 0] ag_98 E E E) (fun W2 f=>⟨((d,H.length,w),I,F16),⟨E,K,M⟩,E,f.pickL [2,3] (by decide) E⟩)
theorem km (p0:TR) (p1:Int) (p2:Int) (p3:Int) (p4:TJ) (res:Int) (h:cZ p0 p1 p2 p3 p4=some res) (W:World) (Ab:Option Addr) (u cb:Nat) (r:List (Hd × TT)) (F:u=p0.fTracks.length) (d:Rd W Ab u cb (encL TTrack_cells2 r)) (w:NestW W (fun z:TT=>z.fK) TSpan_cells r p0.fTracks) (g:Option Addr) (D o:Nat) (G:D=p4.fLegs.length) (H:Rd W g D o (encL TLeg_cells p4.fLegs)) :
  Calls Tryz.prog 55 [.agg #[vI p0.fPlaces,.slice Ab u cb],vI p1,vI p2,vI p3,.agg #[.slice g D o,vI p4.fA,vI p4.fToll]].toArray W fun e W2=>e=.returned (vI res)∧Ext W W2 []:=by
 subst F
 subst G
 unfold cZ at h
 refine ag (m:=29) Tryz.func55 E E (nB E) (cS (cR ?_))
 refine aI [vI p0.fPlaces,.slice Ab p0.fTracks.length cb] E E E (fun U=>?_)
 refine aI [.slice g p4.fLegs.length o,vI p4.fA,vI p4.fToll] E E E (fun X=>?_)
 refine oY E (yAI E) (oN (eT (cS (cR (oY E (yN 0 [vI p0.fPlaces,.slice Ab p0.fTracks.length cb] dh E E E) (oY E (yMI E) (oY E (yMI E) (oY E (yMI E) ?_))))))))
 obtain⟨O,M,h⟩:=bOs h
 refine oY E (yC [.agg #[vI p0.fPlaces,.slice Ab p0.fTracks.length cb],vI p1,vI p2,vI p3,vI 0] go_73 E (fun W2 f=>jk p0 p1 p2 p3 0 O M W2 Ab p0.fTracks.length cb r E ((RdL.arg d) W2 f) (NestL.at (NestL.arg w) W2 f)) E) (oY E (yAI E) (oN (eT (cS (cS (cR (oY E (yMI E) (oY E (cU E E) (oN (eT ?_))))))))))
 rcases iOs h with⟨I,h⟩|⟨I,h⟩
 ·refine cT (vB I) (cS (cR (oY E (yMI E) (oY E (yAI E) (oN (eT (am (aa ?_))))))))
  obtain rfl:=sI h
  exact ak (.inl E) E (rVt (v:=vI O) E) (fun W2 f=>⟨E,f.none⟩)
 ·refine cF (vB I) (cK (eT (cS (cR (oY E (yN 0 [vI p0.fPlaces,.slice Ab p0.fTracks.length cb] dh E E E) (oY E (yMI E) (oY E (yMI E) (oY E (yMI E) (oY E (yN 1 [.slice g p4.fLegs.length o,vI p4.fA,vI p4.fToll] lE E E E) ?_)))))))))
  obtain⟨Q,N,h⟩:=bOs h
  refine oY E (yC [.agg #[vI p0.fPlaces,.slice Ab p0.fTracks.length cb],vI p1,vI p2,vI p3,.agg #[.slice g p4.fLegs.length o,vI p4.fA,vI p4.fToll]] go_21 E (fun W2 f=>nt p0 p1 p2 p3 p4 Q N W2 Ab p0.fTracks.length cb r E ((RdL.arg d) W2 f) (NestL.at (NestL.arg w) W2 f) g p4.fLegs.length o E ((RdL.arg H) W2 f)) E) (oY E (yAB E) (oN (eT (cS (cS (cR (oY E (yMB E) (oY E (bw E) (oN (eT ?_))))))))))
  rcases iOs h with⟨K,h⟩|⟨K,h⟩
  ·refine cT (vB K) (cS (cR (oY E (yAI E) (oN (eT (am (aa ?_)))))))
   obtain rfl:=sI h
   exact ak (.inl E) E (rVt (v:=vI 8) E) (fun W2 f=>⟨E,f.none⟩)
  ·refine cF (vB K) (cK (eT (cS (cR (oY E (yAI E) (oN (eT (am ?_))))))))
   obtain rfl:=sI h
   exact ak (.inl E) E (rVt (v:=vI 0) E) (fun W2 f=>⟨E,f.none⟩)
theorem md (p0:TTimes) (p1:TTimes) (res:Bool) (h:dB p0 p1=some res) (W:World) (Aa:Option Addr) (F ca:Nat) (f:List (Hd × (List Int))) (M:F=p0.fH.length) (G:Rd W Aa F ca (encL SlInt_cells2 f)) (r:NestW W (fun z:(List Int)=>z) cI f p0.fH) (Ac:Option Addr) (H cc:Nat) (g:List (Hd × (List Int))) (N:H=p1.fH.length) (I:Rd W Ac H cc (encL SlInt_cells2 g)) (u:NestW W (fun z:(List Int)=>z) cI g p1.fH) :
  Calls Tryz.prog 56 [.agg #[.slice Aa F ca],.agg #[.slice Ac H cc]].toArray W fun e W2=>e=.returned (.bool res)∧Ext W W2 []:=by
 subst M
 subst N
 unfold dB at h
 refine ag (m:=34) Tryz.func56 E E (nB E) (cS (cR ?_))
 refine aI [.slice Aa p0.fH.length ca] E E E (fun q=>?_)
 refine aI [.slice Ac p1.fH.length cc] E E E (fun l=>?_)
 refine oY E (yAB E) (oN (eT (cS (cS (cR (oY E (yFA cq E) (oY E (yL 0 iE E E E) (oY E (bg (us:=[]) nq E) (oY E (yFA cq E) (oY E (yL 1 iE E E E) (oY E (bg (us:=[]) nq E) (oY E (cU E E) (oN (eT ?_))))))))))))))
 rcases iOs h with⟨O,h⟩|⟨O,h⟩
 ·refine cT (vB O) (cS (cR (oY E (yAB E) (oN (eT (am (aa ?_)))))))
  obtain rfl:=sI h
  exact ak (.inl E) E (rVt (v:=.bool false) E) (fun W2 d=>⟨E,d.none⟩)
 ·refine cF (vB O) (cK (eT (cS (cS (cR (oY E (yAI E) (oN (eT (cB ?_)))))))))
  obtain⟨t,U,h⟩:=bOs h
  refine ba (fun(s:(Bool × Int)) L tm=>∃(T:Nat→Value),L=[al q 87 [.slice Aa p0.fH.length ca],al l 87 [.slice Ac p1.fH.length cc]]∧tm=(upd (upd (upd (upd T 2 (.pointer (some ⟨q,0,none⟩))) 3 (.pointer (some ⟨l,0,none⟩))) 4 (.bool s.1)) 5 (vI s.2))) 0 U ⟨_,E,(kp4 E)⟩ ?_ ?_
  ·rintro o L tm st ⟨V,rfl,rfl⟩ h
   unfold cl at h
   refine cS (cS (cR (oY E (yMI E) (oY E (yFA cq E) (oY E (yL 0 iE E E E) (oY E (bg (us:=[]) nq E) (oY E (a6 E E) (oN (eT ?_)))))))))
   rcases iOs h with⟨Q,h⟩|⟨Q,h⟩
   ·refine cT (vB Q) (cK (eT (cS (cB (cS ?_)))))
    refine aX 12 bZ (by kernel_rfl) (by kernel_rfl) ?_
    refine qY E (yFA cq E) (qY E (yL 0 iE E E E) (qY E (yMI E) ?_))
    obtain⟨w,h⟩:=gOs h
    refine qY E (yI iq (by decide) w.1 w.2 (RdL.arg G) (eL ao (NestP.hn r.p E)) E E) ?_
    refine qY E (yR (A:=Aa) (j:=(Int.toNat o.2*1)) (v:=.slice ((rdL f o.2).1.1) ((rdL p0.fH o.2).length) ((rdL f o.2).1.2.2)) gH (RdL.arg G) E (ax ao w.1 (ai w.2 (NestP.hn r.p E)) (congrArg (fun n:Nat=>some (Value.slice (rdL f o.2).1.1 n (rdL f o.2).1.2.2)) (NestP.len r.p w.1 (ai w.2 E))))) (qY E (yFA cq E) (qY E (yL 1 iE E E E) (qY E (yMI E) ?_)))
    obtain⟨D,h⟩:=gOs h
    refine qY E (yI iq (by decide) D.1 D.2 (RdL.arg I) (eL ao (NestP.hn u.p E)) E E) ?_
    refine qY E (yR (A:=Ac) (j:=(Int.toNat o.2*1)) (v:=.slice ((rdL g o.2).1.1) ((rdL p1.fH o.2).length) ((rdL g o.2).1.2.2)) gH (RdL.arg I) E (ax ao D.1 (ai D.2 (NestP.hn u.p E)) (congrArg (fun n:Nat=>some (Value.slice (rdL g o.2).1.1 n (rdL g o.2).1.2.2)) (NestP.len u.p D.1 (ai D.2 E))))) ?_
    obtain⟨S,X,h⟩:=bOs h
    refine qY E (yC [.slice ((rdL f o.2).1.1) ((rdL p0.fH o.2).length) ((rdL f o.2).1.2.2),.slice ((rdL g o.2).1.1) ((rdL p1.fH o.2).length) ((rdL g o.2).1.2.2)] sW E (fun W2 d=>cz (rdL p0.fH o.2) (rdL p1.fH o.2) S X W2 ((rdL f o.2).1.1) ((rdL p0.fH o.2).length) ((rdL f o.2).1.2.2) E ((NestL.rd (NestL.arg r) w.1 (ai w.2 E)) W2 d) ((rdL g o.2).1.1) ((rdL p1.fH o.2).length) ((rdL g o.2).1.2.2) E ((NestL.rd (NestL.arg u) D.1 (ai D.2 E)) W2 d)) E) (qY E (yAB E) (bF (oN (eT (cS (cR (oY E (yMB E) (oY E (bw E) (oN (eT ?_))))))))))
    rcases iOs h with⟨K,h⟩|⟨K,h⟩
    ·refine cT (vB K) (cS (cR (oY E (yAB E) (oN (eT (am (ah (aa ?_))))))))
     obtain rfl:=sI h
     exact au ⟨E,_,E,(kp4 E)⟩
    ·refine cF (vB K) (cK (aw (eT (cR (oY E (yMI E) (oY E (aM E E) (oY E (yAI E) (oN ?_))))))))
     obtain rfl:=sI h
     exact eN ⟨_,E,(kp4 E)⟩
   ·refine cF (vB Q) (aD (aj ?_))
    obtain rfl:=sI h
    exact au ⟨E,_,E,(kp4 E)⟩
  ·intro e L tm hJ
   rcases t with R|a
   ·dsimp only at h hJ
    obtain⟨rfl,Y,rfl,rfl⟩:=hJ
    refine⟨(by intro hc;cases hc),?_⟩
    refine ah (aa ?_)
    obtain rfl:=sI h
    exact ak (.inl E) E (rVt (v:=.bool R.1) E) (fun W2 d=>⟨E,d.none⟩)
   ·dsimp only at h hJ
    obtain⟨rfl,Z,rfl,rfl⟩:=hJ
    refine⟨(by intro hc;cases hc),?_⟩
    refine ae (eT (cS (cR (oY E (yAB E) (oN (eT (am ?_)))))))
    obtain rfl:=sI h
    exact ak (.inl E) E (rVt (v:=.bool true) E) (fun W2 d=>⟨E,d.none⟩)
theorem lA (p0:TR) (p1:Int) (p2:Int) (p3:TTimes) (res:Int) (h:dT p0 p1 p2 p3=some res) (W:World) (Ab:Option Addr) (d cb:Nat) (r:List (Hd × TT)) (G:d=p0.fTracks.length) (w:Rd W Ab d cb (encL TTrack_cells2 r)) (D:NestW W (fun z:TT=>z.fK) TSpan_cells r p0.fTracks) (g:Option Addr) (F o:Nat) (u:List (Hd × (List Int))) (H:F=p3.fH.length) (I:Rd W g F o (encL SlInt_cells2 u)) (K:NestW W (fun z:(List Int)=>z) cI u p3.fH) :
  Calls Tryz.prog 57 [.agg #[vI p0.fPlaces,.slice Ab d cb],vI p1,vI p2,.agg #[.slice g F o]].toArray W fun e W2=>e=.returned (vI res)∧Ext W W2 []:=by
 subst G
 subst H
 unfold dT at h
 refine ag (m:=25) Tryz.func57 E E (nB E) (cS (cR ?_))
 refine aI [vI p0.fPlaces,.slice Ab p0.fTracks.length cb] E E E (fun Y=>?_)
 refine aI [.slice g p3.fH.length o] E E E (fun Z=>?_)
 refine oY E (yAI E) (oN (eT (cS (cR (oY E (yN 0 [vI p0.fPlaces,.slice Ab p0.fTracks.length cb] dh E E E) (oY E (yMI E) (oY E (yMI E) ?_)))))))
 obtain⟨U,O,h⟩:=bOs h
 refine oY E (yC [.agg #[vI p0.fPlaces,.slice Ab p0.fTracks.length cb],vI p1,vI 0,vI p2,vI 0] go_73 E (fun W2 f=>jk p0 p1 0 p2 0 U O W2 Ab p0.fTracks.length cb r E ((RdL.arg w) W2 f) (NestL.at (NestL.arg D) W2 f)) E) (oY E (yAI E) (oN (eT (cS (cS (cR (oY E (yMI E) (oY E (cU E E) (oN (eT ?_))))))))))
 rcases iOs h with⟨M,h⟩|⟨M,h⟩
 ·refine cT (vB M) (cS (cR (oY E (yMI E) (oY E (yAI E) (oN (eT (am (aa ?_))))))))
  obtain rfl:=sI h
  exact ak (.inl E) E (rVt (v:=vI U) E) (fun W2 f=>⟨E,f.none⟩)
 ·refine cF (vB M) (cK (eT (cS (cR (oY E (yN 0 [vI p0.fPlaces,.slice Ab p0.fTracks.length cb] dh E E E) (oY E (yMI E) (oY E (yMI E) (oY E (yN 1 [.slice g p3.fH.length o] pd E E E) ?_))))))))
  obtain⟨X,Q,h⟩:=bOs h
  refine oY E (yC [.agg #[vI p0.fPlaces,.slice Ab p0.fTracks.length cb],vI p1,vI p2,.agg #[.slice g p3.fH.length o]] go_114 E (fun W2 f=>pp p0 p1 p2 p3 X Q W2 Ab p0.fTracks.length cb r E ((RdL.arg w) W2 f) (NestL.at (NestL.arg D) W2 f) g p3.fH.length o u E ((RdL.arg I) W2 f) (NestL.at (NestL.arg K) W2 f)) E) (oY E (yAB E) (oN (eT (cS (cS (cR (oY E (yMB E) (oY E (bw E) (oN (eT ?_))))))))))
  rcases iOs h with⟨N,h⟩|⟨N,h⟩
  ·refine cT (vB N) (cS (cR (oY E (yAI E) (oN (eT (am (aa ?_)))))))
   obtain rfl:=sI h
   exact ak (.inl E) E (rVt (v:=vI 8) E) (fun W2 f=>⟨E,f.none⟩)
  ·refine cF (vB N) (cK (eT (cS (cR (oY E (yAI E) (oN (eT (am ?_))))))))
   obtain rfl:=sI h
   exact ak (.inl E) E (rVt (v:=vI 0) E) (fun W2 f=>⟨E,f.none⟩)
theorem calxlaw05_CartTimes_ok (p0:TR) (p1:Int) (p2:Int) (p3:Int) (p4:TJ) (p5:TTimes) (res:Bool) (h:dN p0 p1 p2 p3 p4 p5=some res) (W:World) (Ab:Option Addr) (V cb:Nat) (u:List (Hd × TT)) (j:V=p0.fTracks.length) (I:Rd W Ab V cb (encL TTrack_cells2 u)) (K:NestW W (fun z:TT=>z.fK) TSpan_cells u p0.fTracks) (d:Option Addr) (T w:Nat) (k:T=p4.fLegs.length) (X:Rd W d T w (encL TLeg_cells p4.fLegs)) (D:Option Addr) (S F:Nat) (M:List (Hd × (List Int))) (x:S=p5.fH.length) (Y:Rd W D S F (encL SlInt_cells2 M)) (Z:NestW W (fun z:(List Int)=>z) cI M p5.fH) :
  Calls Tryz.prog 12 [.agg #[vI p0.fPlaces,.slice Ab V cb],vI p1,vI p2,vI p3,.agg #[.slice d T w,vI p4.fA,vI p4.fToll],.agg #[.slice D S F]].toArray W fun e W2=>e=.returned (.bool res)∧Ext W W2 []:=by
 subst j
 subst k
 subst x
 unfold dN at h
 refine ag (m:=82) Tryz.func12 E E (nB E) (cS (cR ?_))
 refine aI [vI p0.fPlaces,.slice Ab p0.fTracks.length cb] E E E (fun b=>?_)
 refine aI [.slice d p4.fLegs.length w,vI p4.fA,vI p4.fToll] E E E (fun b2=>?_)
 refine aI [.slice D p5.fH.length F] E E E (fun c=>?_)
 refine oY E (yAB E) (oN (eT (cS (cS (cR (oY E (yN 0 [vI p0.fPlaces,.slice Ab p0.fTracks.length cb] dh E E E) ?_))))))
 obtain⟨y4,oi,h⟩:=bOs h
 refine oY E (yC [.agg #[vI p0.fPlaces,.slice Ab p0.fTracks.length cb]] go_16 E (fun W2 f=>nu p0 y4 oi W2 Ab p0.fTracks.length cb u E ((RdL.arg I) W2 f) (NestL.at (NestL.arg K) W2 f)) E) (oY E (bw E) (oY E (yMB E) ?_))
 obtain⟨b7,oj,h⟩:=bOs h
 refine oJ 4 (fun G=>(upd (upd (upd (upd (upd (upd (upd (upd G 1 (vI p1)) 2 (vI p2)) 3 (vI p3)) 6 (.pointer (some ⟨b,0,none⟩))) 10 (.pointer (some ⟨b2,0,none⟩))) 11 (.pointer (some ⟨c,0,none⟩))) 12 (.bool false)) 23 (.bool b7))) (fun G=>?_) (fun key=>?_)
 ·refine oY E (yMB E) ?_
  obtain⟨ok,f1,h⟩:=bOs h
  refine oJ 4 (fun G=>(upd (upd (upd (upd (upd (upd (upd (upd G 1 (vI p1)) 2 (vI p2)) 3 (vI p3)) 6 (.pointer (some ⟨b,0,none⟩))) 10 (.pointer (some ⟨b2,0,none⟩))) 11 (.pointer (some ⟨c,0,none⟩))) 12 (.bool false)) 28 (.bool ok))) (fun G=>?_) (fun key=>?_)
  ·refine oN (eT ?_)
   rcases iOs h with⟨R,h⟩|⟨R,h⟩
   ·refine cT (vB R) (cS (cR ?_))
    obtain⟨f2,f3,h⟩:=bOs h
    refine oY E (yC [] go_17 E (fun W2 f=>iz  f2 f3 W2 ) E) (oY E (yAB E) (oN (eT (am (aa ?_)))))
    obtain rfl:=sI h
    exact ak (.inl E) E (rVt (v:=.bool f2) E) (fun W2 f=>⟨E,f.none⟩)
   ·refine cF (vB R) (cK (eT (cS (cR (oY E (yN 0 [vI p0.fPlaces,.slice Ab p0.fTracks.length cb] dh E E E) (oY E (yMI E) (oY E (yMI E) ?_)))))))
    obtain⟨N,fr,h⟩:=bOs h
    refine oC [.agg #[vI p0.fPlaces,.slice Ab p0.fTracks.length cb],vI p1,vI p3] _ _ _ E go_49 E (fun W2 f=>j6 p0 p1 p3 N fr W2 Ab p0.fTracks.length cb u E ((RdL.arg I) W2 f) (NestL.at (NestL.arg K) W2 f) W (fun _=>True) (fun W3 hb=>⟨f0 f.below hb,trivial⟩) ) ?_
    rintro⟨⟨n,r0,l⟩,fd,F25⟩ ⟨q,fD,fG⟩
    replace q:r0=N.1.fH.length:=q;subst q
    refine oY E (aU E) (oY E (yE E E) (oY E (yE E E) ?_))
    refine aF tt E (fun r1=>?_)
    try dsimp only[lna,lca,lsz,lss]
    refine co E (yS 5 [.slice n N.1.fH.length l] sz_87 E (nB E) E E E) (oY E (yAI E) (oN (eT (cS (cR (oY E (yN 0 [vI p0.fPlaces,.slice Ab p0.fTracks.length cb] dh E E E) (oY E (yMI E) (oY E (yMI E) ?_))))))))
    obtain⟨O,fR,h⟩:=bOs h
    refine oC [.agg #[vI p0.fPlaces,.slice Ab p0.fTracks.length cb],vI p1,vI p3] _ _ _ E go_54 E (fun W2 f=>mE p0 p1 p3 O fR W2 Ab p0.fTracks.length cb u E ((RdL.arg I) W2 f) (NestL.at (NestL.arg K) W2 f) W (fun _=>True) (fun W3 hb=>⟨f0 f.below hb,trivial⟩) ) ?_
    rintro⟨⟨t,r2,a⟩,fn,F38⟩ ⟨p,fl,ft⟩
    replace p:r2=O.fT.fH.length:=p;subst p
    try dsimp only[lna,lca,lsz,lss]
    refine aF ze_98 E (fun g1=>?_)
    try dsimp only[lna,lca,lsz,lss]
    refine co E (yS 8 [.slice t O.fT.fH.length a,vI O.fE] sz_98 E (nB E) E E E) (oN (eT (cS ?_)))
    refine aX 42 bZ (by kernel_rfl) (by kernel_rfl) ?_
    obtain⟨r3,g2,h⟩:=bOs h
    refine qY E (yC [] go_17 E (fun W2 f=>iz  r3 g2 W2 ) E) (qY E (yMB E) ?_)
    obtain⟨r4,gf,h⟩:=bOs h
    refine qJ 14 (fun G=>(upd (upd (upd (upd (upd (upd (upd (upd (upd G 1 (vI p1)) 3 (vI p3)) 6 (.pointer (some ⟨b,0,none⟩))) 11 (.pointer (some ⟨c,0,none⟩))) 12 (.bool false)) 13 (.pointer (some ⟨r1,0,none⟩))) 14 (vI N.2)) 15 (.pointer (some ⟨g1,0,none⟩))) 56 (.bool r4))) (fun G=>?_) (fun key=>?_)
    ·refine qY E (yMB E) ?_
     obtain⟨y,go,h⟩:=bOs h
     refine qJ 5 (fun G=>(upd (upd (upd (upd (upd (upd (upd (upd G 1 (vI p1)) 3 (vI p3)) 6 (.pointer (some ⟨b,0,none⟩))) 11 (.pointer (some ⟨c,0,none⟩))) 12 (.bool false)) 14 (vI N.2)) 15 (.pointer (some ⟨g1,0,none⟩))) 62 (.bool y))) (fun G=>?_) (fun key=>?_)
     ·refine qY E (yMB E) ?_
      refine qJ 5 (fun G=>(upd (upd (upd (upd (upd (upd G 1 (vI p1)) 3 (vI p3)) 6 (.pointer (some ⟨b,0,none⟩))) 11 (.pointer (some ⟨c,0,none⟩))) 12 (.bool false)) 68 (.bool (y&&(N.2==O.fE))))) (fun G=>?_) (fun key=>?_)
      ·refine qY E (yMB E) ?_
       obtain⟨o0,o1,h⟩:=bOs h
       refine qJ 12 (fun G=>(upd (upd G 12 (.bool false)) 81 (.bool o0))) (fun G=>?_) (fun key=>?_)
       ·refine qY E (yAB E) (bF (oN (eT (am ?_))))
        obtain rfl:=sI h
        exact ak (.inl E) E (rVt (v:=.bool o0) E) (fun W2 f=>⟨E,f.none⟩)
       ·clear h;rcases iOs o1 with⟨o,h⟩|⟨o,h⟩
        ·refine qY (sT E E E E o) (yN 0 [vI p0.fPlaces,.slice Ab p0.fTracks.length cb] dh E E E) (qY (sT E E E E o) (yMI E) (qY (sT E E E E o) (yMI E) (qY (sT E E E E o) (yN 2 [.slice D p5.fH.length F] pd E E E) ?_)))
         obtain⟨r5,o2,h⟩:=bOs h
         refine qY (sT E E E E o) (yC [.agg #[vI p0.fPlaces,.slice Ab p0.fTracks.length cb],vI p1,vI p3,.agg #[.slice D p5.fH.length F]] go_50 E (fun W2 f=>lR p0 p1 p3 p5 r5 o2 W2 Ab p0.fTracks.length cb u E ((RdL.arg I) W2 f) (NestL.at (NestL.arg K) W2 f) D p5.fH.length F M E ((RdL.arg Y) W2 f) (NestL.at (NestL.arg Z) W2 f)) E) (qY (sT E E E E o) (yN 0 [vI p0.fPlaces,.slice Ab p0.fTracks.length cb] dh E E E) (qY (sT E E E E o) (yMI E) (qY (sT E E E E o) (yMI E) (qY (sT E E E E o) (yN 2 [.slice D p5.fH.length F] pd E E E) ?_))))
         obtain⟨rd,oX,h⟩:=bOs h
         refine qY (sT E E E E o) (yC [.agg #[vI p0.fPlaces,.slice Ab p0.fTracks.length cb],vI p1,vI p3,.agg #[.slice D p5.fH.length F]] go_57 E (fun W2 f=>lA p0 p1 p3 p5 rd oX W2 Ab p0.fTracks.length cb u E ((RdL.arg I) W2 f) (NestL.at (NestL.arg K) W2 f) D p5.fH.length F M E ((RdL.arg Y) W2 f) (NestL.at (NestL.arg Z) W2 f)) E) (qY (sT E E E E o) (cL E E) (qY E (ac (vB o) E) ?_))
         obtain rfl:=sI h
         exact key _ _ (kp (kp E))
        ·refine ab (sF E E E E o) (ab (sF E E E E o) (ab (sF E E E E o) (ab (sF E E E E o) (ab (sF E E E E o) (ab (sF E E E E o) (ab (sF E E E E o) (ab (sF E E E E o) (ab (sF E E E E o) (ab (sF E E E E o) (ab (sF E E E E o) (qY E (ad (vB o) E) ?_)))))))))))
         obtain rfl:=sI h
         exact key _ _ (kp (kp E))
      ·rcases aq y with r|r
       ·refine qY (sT E E E E r) (yMI E) (qY (sT E E E E r) (yFA fo_98_1 E) (qY (sT E E E E r) (yL 8 sc_30 E E E) (qY (sT E E E E r) (cL E E) (qY E (ac (vB r) E) ?_))))
        exact key _ _ (keep (keep (keep (keep (keep (keep E E) E) E) E) E) (vB (eU r)))
       ·refine ab (sF E E E E r) (ab (sF E E E E r) (ab (sF E E E E r) (ab (sF E E E E r) (qY E (ad (vB r) E) ?_))))
        exact key _ _ (keep (keep (keep (keep (keep (keep E E) E) E) E) E) (vB (eY r)))
     ·clear h;rcases iOs go with⟨H,h⟩|⟨H,h⟩
      ·refine qY (sT E E E E H) (yN 5 [.slice n N.1.fH.length l] pd E E E) (qY (sT E E E E H) (yFA fo_98_0 E) (qY (sT E E E E H) (yN 8 [.slice t O.fT.fH.length a] pd E E E) ?_))
       obtain⟨rx,oq,h⟩:=bOs h
       refine qY (sT E E E E H) (yC [.agg #[.slice n N.1.fH.length l],.agg #[.slice t O.fT.fH.length a]] go_56 E (fun W2 f=>md N.1 O.fT rx oq W2 n N.1.fH.length l fd E ((RdL.row 3 E) W2 f) (NestL.at (PvL.nestL fD fG (fun W2 f=>⟨f.below,trivial,f.mem (i:=4) E⟩)) W2 f) t O.fT.fH.length a fn E ((RdL.row 6 E) W2 f) (NestL.at (PvL.nestL fl ft (fun W2 f=>⟨f.below,trivial,f.mem (i:=7) E⟩)) W2 f)) E) (qY E (ac (vB H) E) ?_)
       obtain rfl:=sI h
       exact key _ _ (kp4 (kp4 E))
      ·refine ab (sF E E E E H) (ab (sF E E E E H) (ab (sF E E E E H) (ab (sF E E E E H) (qY E (ad (vB H) E) ?_))))
       obtain rfl:=sI h
       exact key _ _ (kp4 (kp4 E))
    ·clear h;rcases iOs gf with⟨g,h⟩|⟨g,h⟩
     ·refine qY (sT E E E E g) (yN 0 [vI p0.fPlaces,.slice Ab p0.fTracks.length cb] dh E E E) (qY (sT E E E E g) (yMI E) (qY (sT E E E E g) (yMI E) (qY (sT E E E E g) (yMI E) (qY (sT E E E E g) (yN 1 [.slice d p4.fLegs.length w,vI p4.fA,vI p4.fToll] lE E E E) ?_))))
      obtain⟨u0,op,h⟩:=bOs h
      refine qY (sT E E E E g) (yC [.agg #[vI p0.fPlaces,.slice Ab p0.fTracks.length cb],vI p1,vI p2,vI p3,.agg #[.slice d p4.fLegs.length w,vI p4.fA,vI p4.fToll]] go_51 E (fun W2 f=>kY p0 p1 p2 p3 p4 u0 op W2 Ab p0.fTracks.length cb u E ((RdL.arg I) W2 f) (NestL.at (NestL.arg K) W2 f) d p4.fLegs.length w E ((RdL.arg X) W2 f)) E) (qY (sT E E E E g) (yN 0 [vI p0.fPlaces,.slice Ab p0.fTracks.length cb] dh E E E) (qY (sT E E E E g) (yMI E) (qY (sT E E E E g) (yMI E) (qY (sT E E E E g) (yMI E) (qY (sT E E E E g) (yN 1 [.slice d p4.fLegs.length w,vI p4.fA,vI p4.fToll] lE E E E) ?_)))))
      obtain⟨u1,om,h⟩:=bOs h
      refine qY (sT E E E E g) (yC [.agg #[vI p0.fPlaces,.slice Ab p0.fTracks.length cb],vI p1,vI p2,vI p3,.agg #[.slice d p4.fLegs.length w,vI p4.fA,vI p4.fToll]] go_55 E (fun W2 f=>km p0 p1 p2 p3 p4 u1 om W2 Ab p0.fTracks.length cb u E ((RdL.arg I) W2 f) (NestL.at (NestL.arg K) W2 f) d p4.fLegs.length w E ((RdL.arg X) W2 f)) E) (qY (sT E E E E g) (cL E E) (qY E (ac (vB g) E) ?_))
      obtain rfl:=sI h
      exact key _ _ (kp4 (kp4 (kp E)))
     ·refine ab (sF E E E E g) (ab (sF E E E E g) (ab (sF E E E E g) (ab (sF E E E E g) (ab (sF E E E E g) (ab (sF E E E E g) (ab (sF E E E E g) (ab (sF E E E E g) (ab (sF E E E E g) (ab (sF E E E E g) (ab (sF E E E E g) (ab (sF E E E E g) (ab (sF E E E E g) (qY E (ad (vB g) E) ?_)))))))))))))
      obtain rfl:=sI h
      exact key _ _ (kp4 (kp4 (kp E)))
  ·clear h;rcases iOs f1 with⟨Q,h⟩|⟨Q,h⟩
   ·refine oSk (sF E E E E Q) (oSk (sF E E E E Q) (oSk (sF E E E E Q) (oY E (ac (vB Q) E) ?_)))
    obtain rfl:=sI h
    exact key _ _ (kp4 (kp4 E))
   ·refine oY (sT E E E E Q) (yN 2 [.slice D p5.fH.length F] pd E E E) ?_
    obtain⟨u2,ot,h⟩:=bOs h
    refine oY (sT E E E E Q) (yC [.agg #[.slice D p5.fH.length F]] go_48 E (fun W2 f=>mU p5 u2 ot W2 D p5.fH.length F M E ((RdL.arg Y) W2 f) (NestL.at (NestL.arg Z) W2 f)) E) (oY (sT E E E E Q) (bw E) (oY E (ad (vB Q) E) ?_))
    obtain rfl:=sI h
    exact key _ _ (kp4 (kp4 E))
 ·clear h;rcases iOs oj with⟨U,h⟩|⟨U,h⟩
  ·refine oSk (sF E E E E U) (oSk (sF E E E E U) (oSk (sF E E E E U) (oY E (ac (vB U) E) ?_)))
   obtain rfl:=sI h
   exact key _ _ (kp4 (kp4 E))
  ·refine oY (sT E E E E U) (yN 1 [.slice d p4.fLegs.length w,vI p4.fA,vI p4.fToll] lE E E E) ?_
   obtain⟨u3,oa,h⟩:=bOs h
   refine oY (sT E E E E U) (yC [.agg #[.slice d p4.fLegs.length w,vI p4.fA,vI p4.fToll]] go_47 E (fun W2 f=>mu p4 u3 oa W2 d p4.fLegs.length w E ((RdL.arg X) W2 f)) E) (oY (sT E E E E U) (bw E) (oY E (ad (vB U) E) ?_))
   obtain rfl:=sI h
   exact key _ _ (kp4 (kp4 E))
end Go.Proofs.YthndghnkebboaaaGreat
