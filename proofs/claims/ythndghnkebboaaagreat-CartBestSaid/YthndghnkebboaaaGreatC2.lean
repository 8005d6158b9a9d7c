import Derived.Test.YthndghnkebboaaaGreatF
import Derived.Test.YthndghnkebboaaaGreatGF
import Derived.Test.YthndghnkebboaaaGreatGy
import Derived.Test.YthndghnkebboaaaGreatGz
import Derived.Test.YthndghnkebboaaaGreatC0
set_option maxHeartbeats 4000000
set_option maxRecDepth 100000
set_option linter.unusedVariables false
namespace Go.Proofs.YthndghnkebboaaaGreat
open Go.RowKit (Below)
attribute [local irreducible] OX QX CX EX OpY Calls CallsIn
theorem lg (p0:TR) (p1:Int) (p2:Int) (res:(List (Ts × Tl))) (h:fx p0 p1 p2 = some res) (W:World) (Ab:Option Addr) (n0_1 cb : Nat) (ys0_1:List (Hd × TT)) (hn0_1:n0_1 = p0.fTracks.length) (hr0_1:Rd W Ab n0_1 cb (encL TTrack_cells2 ys0_1)) (hN0_1:NestW W (fun z : TT => z.fK) TSpan_cells ys0_1 p0.fTracks) :
  Calls Tryz.prog 110 [.agg #[vI p0.fPlaces,.slice Ab n0_1 cb],vI p1,vI p2].toArray W fun e W2 => ∃ x : Nat,e = .returned (.map (some x)) ∧ Ext W W2 [mapV Tryz.prog 191 co aQ bY (Tl.mk 0 (Ts.mk 0 0) (TLeg.mk 0 0) false) x res]:=by
 subst hn0_1
 unfold fx at h
 refine qR (m:=122) Tryz.func110 rfl rfl (nB rfl) (cS (cR ?_))
 refine aW [vI p0.fPlaces,.slice Ab p0.fTracks.length cb] rfl rfl rfl (fun b1 => ?_)
 refine oY rfl (eo rfl) (oN (eT (cS (cR ?_))))
 refine jR 191 co aQ bY (Tl.mk 0 (Ts.mk 0 0) (TLeg.mk 0 0) false) rfl (fun b2 => ?_)
 refine oY rfl (yMI rfl) ?_
 refine oY rfl (aY [vI p1,vI 0] [(0,1),(1,1)] ow o3 (by kernel_rfl)) ?_
 refine oY rfl (yMI rfl) ?_
 refine oY rfl (aY [vI p2,vI 0,vI 0,vI 0,vI 0,.bool true] [(0,1),(1,2),(3,2),(5,1)] ust_193 kc (by kernel_rfl)) ?_
 obtain ⟨hg3,h⟩:=gOs h
 refine cr rfl (y_insertV 1 (k:=(Ts.mk p1 0)) (v:=(Tl.mk p2 (Ts.mk 0 0) (TLeg.mk 0 0) true)) rfl mQ mG rfl rfl rfl hg3) (oY rfl (cN rfl) ?_)
 refine aE ze_157 rfl (fun b4 => ?_)
 refine cr rfl (dt 2 (v:=.map (some b2)) sz_157 rfl (Nat.lt_of_lt_of_le (Nat.lt_succ_self _) (nB rfl)) rfl rfl rfl) (oN (eT (cS (cR (oY rfl (yMI rfl) (oY rfl (yMI rfl) ?_))))))
 refine oY rfl (aY [vI p1,vI 0] [(0,1),(1,1)] ow o3 (by kernel_rfl)) ?_
 refine oY rfl (aY [vI p2,vI p1,vI 0] [(0,1),(1,2)] ust_196 oo (by kernel_rfl)) ?_
 refine aJ 1 (encL ay [(Twait.mk p2 (Ts.mk p1 0))]) _ se o5 oo by_196 (by decide) (by decide) (by kernel_rfl) (eL aS rfl) rfl (fun b5 => ?_)
 refine aW [.slice (some ⟨b5,0,none⟩) 1 1] rfl rfl rfl (fun b6 => ?_)
 refine aE ze_194 rfl (fun b7 => ?_)
 try dsimp only [lna,lca,lsz,lss]
 refine cr rfl (dt 5 (v:=.pointer (some ⟨b6,0,none⟩)) sz_194 rfl (Nat.lt_of_lt_of_le (Nat.lt_succ_self _) (nB rfl)) rfl rfl rfl) (oN (eT (cS (cB ?_))))
 obtain ⟨u11,hl70,h⟩:=bOs h
 refine cx_addDfs ?_
 refine cx_loopD (fun (s:((List Twait) × (List (Ts × Tl)))) L tm d => ∃ (tm0:Nat → Value) (A3_s:Option Addr) (c3_s:Nat) (n3_s:Nat) (Ds_s:List Nat),Ds_s.Nodup ∧ n3_s = s.1.length ∧ L = [ai b1 24 [vI p0.fPlaces,.slice Ab p0.fTracks.length cb],mapV Tryz.prog 191 co aQ bY (Tl.mk 0 (Ts.mk 0 0) (TLeg.mk 0 0) false) b2 s.2,ai b4 157 [.map (some b2)],aL A3_s c3_s 196 3 n3_s (encL ay s.1),ai b6 198 [.slice A3_s n3_s c3_s],ai b7 194 [.pointer (some ⟨b6,0,none⟩)],mo Ds_s] ∧ tm = (upd (upd (upd (upd tm0 3 (.pointer (some ⟨b1,0,none⟩))) 6 (.map none)) 7 (.pointer (some ⟨b4,0,none⟩))) 8 (.pointer (some ⟨b7,0,none⟩))) ∧ d = colD Ds_s) (fun s e L tm d => e = .exit 0 ∧ ∃ (tm0:Nat → Value) (A3_s:Option Addr) (c3_s:Nat) (n3_s:Nat) (Ds_s:List Nat),Ds_s.Nodup ∧ n3_s = s.1.length ∧ L = [ai b1 24 [vI p0.fPlaces,.slice Ab p0.fTracks.length cb],mapV Tryz.prog 191 co aQ bY (Tl.mk 0 (Ts.mk 0 0) (TLeg.mk 0 0) false) b2 s.2,ai b4 157 [.map (some b2)],aL A3_s c3_s 196 3 n3_s (encL ay s.1),ai b6 198 [.slice A3_s n3_s c3_s],ai b7 194 [.pointer (some ⟨b6,0,none⟩)],mo Ds_s] ∧ tm = (upd (upd (upd (upd tm0 3 (.pointer (some ⟨b1,0,none⟩))) 6 (.map none)) 7 (.pointer (some ⟨b4,0,none⟩))) 8 (.pointer (some ⟨b7,0,none⟩))) ∧ d = colD Ds_s) hl70 ⟨_,(some ⟨b5,0,none⟩),1,1,[],List.nodup_nil,rfl,rfl,(kp4 rfl),rfl⟩ ?_ ?_
 ·rintro s10 L tm d st ⟨tm0_s10,A3_s10,c3_s10,n3_s10,Ds_s10,hd_s10,rfl,rfl,rfl,rfl⟩ h
  unfold dU at h
  refine cS (cS (cR ?_))
  try dsimp only [lna,lca,lsz,lss]
  refine oY rfl (yL 5 sc_194 rfl rfl rfl) (oY rfl (jm rfl) (oY rfl (yL 4 jl rfl rfl rfl) ?_))
  obtain ⟨y12,hy13,h⟩:=bOs h
  refine oY rfl (yC [.slice A3_s10 s10.1.length c3_s10] go_147 rfl (fun W2 hW2 => gx s10.1 y12 hy13 W2 A3_s10 s10.1.length c3_s10 rfl ((RdL.row 3 rfl) W2 hW2)) rfl) (oY rfl (gK rfl rfl) (oN (eT ?_)))
  rcases iOs h with ⟨hp14,h⟩ | ⟨hp14,h⟩
  ·refine cT (vB hp14) (cK (eT (cB (cS (cR (oY rfl (yL 5 sc_194 rfl rfl rfl) (oY rfl (jJ nif_194 rfl) ?_)))))))
   obtain ⟨y15,hy16,h⟩:=bOs h
   refine gg [4,3] [] [.iface 194 (.pointer (some ⟨b6,0,none⟩))] [] (fun (x:(Option Addr × Nat × Nat)) => x.2.1 = y15.2.length) (fun _ => .iface 196 (.agg #[vI y15.1.f_at,vI y15.1.f_stop.f_place,vI y15.1.f_stop.f_toll])) (fun x => [ai b6 198 [.slice x.1 x.2.1 x.2.2],aL x.1 x.2.2 196 3 x.2.1 (encL ay y15.2)]) (fun _ => []) (Foc.c2 rfl rfl) (by decide) rfl go_148 rfl rfl (fun _ => rfl) (fun W2 hW2 => kk s10.1 y15 hy16 W2 _ (bB [ai b1 24 [vI p0.fPlaces,.slice Ab p0.fTracks.length cb],mapV Tryz.prog 191 co aQ bY (Tl.mk 0 (Ts.mk 0 0) (TLeg.mk 0 0) false) b2 s10.2,ai b4 157 [.map (some b2)],aL A3_s10 c3_s10 196 3 s10.1.length (encL ay s10.1),ai b6 198 [.slice A3_s10 s10.1.length c3_s10],ai b7 194 [.pointer (some ⟨b6,0,none⟩)],mo Ds_s10] [4,3]) b6 A3_s10 s10.1.length c3_s10 rfl hW2) ?_
   rintro ⟨A17,n18,c19⟩ hn20
   replace hn20 : n18 = y15.2.length:=hn20; subst hn20
   try dsimp only [ll,lsz,lss,List.append_nil]
   refine oY rfl (mO pI rfl) ?_
   refine aE oo rfl (fun b21 => ?_)
   try dsimp only [lna,lca,lsz,lss]
   refine cr rfl (yS 7 [vI y15.1.f_at,vI y15.1.f_stop.f_place,vI y15.1.f_stop.f_toll] r9 rfl (nB rfl) rfl rfl rfl) (oN (eT (cS (cS ?_))))
   refine bh 8 cD (by kernel_rfl) (by kernel_rfl) ?_
   refine qY rfl (yL 2 sk rfl rfl rfl) (qY rfl (yFA ni rfl) (qY rfl (yN 7 [vI y15.1.f_stop.f_place,vI y15.1.f_stop.f_toll] mN rfl rfl rfl) ?_))
   obtain ⟨hg22,h⟩:=gOs h
   refine qY rfl (kM (k:=y15.1.f_stop) (MpL.own 1 rfl) mQ mG kc rfl rfl hg22) (qY rfl (sx [vI ((az (Tl.mk 0 (Ts.mk 0 0) (TLeg.mk 0 0) false) s10.2 y15.1.f_stop).f_at),vI ((az (Tl.mk 0 (Ts.mk 0 0) (TLeg.mk 0 0) false) s10.2 y15.1.f_stop).f_from.f_place),vI ((az (Tl.mk 0 (Ts.mk 0 0) (TLeg.mk 0 0) false) s10.2 y15.1.f_stop).f_from.f_toll),vI ((az (Tl.mk 0 (Ts.mk 0 0) (TLeg.mk 0 0) false) s10.2 y15.1.f_stop).f_leg.fTrack),vI ((az (Tl.mk 0 (Ts.mk 0 0) (TLeg.mk 0 0) false) s10.2 y15.1.f_stop).f_leg.fHour),.bool ((az (Tl.mk 0 (Ts.mk 0 0) (TLeg.mk 0 0) false) s10.2 y15.1.f_stop).f_begin)] (v:=vI ((az (Tl.mk 0 (Ts.mk 0 0) (TLeg.mk 0 0) false) s10.2 y15.1.f_stop).f_at)) rV aV rfl rfl) (qY rfl (yFA ng rfl) (qY rfl (yL 7 aV rfl rfl rfl) (qY rfl (bj rfl rfl) (cd (oN (eT ?_)))))))
   rcases iOs h with ⟨hp23,h⟩ | ⟨hp23,h⟩
   ·refine cT (vB hp23) (aH (ag (ac (aU 7 ?_))))
    obtain rfl:=sI h
    exact rQ ⟨_,A17,c19,y15.2.length,Ds_s10,hd_s10,rfl,rfl,(kp4 rfl),rfl⟩
   ·refine cF (vB hp23) (cK (eT (cS (cR (oY rfl (yN 0 [vI p0.fPlaces,.slice Ab p0.fTracks.length cb] dM rfl rfl rfl) (oY rfl (yFA ni rfl) (oY rfl (yFA fo_191_0 rfl) (oY rfl (yL 7 aV rfl rfl rfl) ?_))))))))
    obtain ⟨y24,hy25,h⟩:=bOs h
    refine l6 [.agg #[vI p0.fPlaces,.slice Ab p0.fTracks.length cb],vI y15.1.f_stop.f_place] _ _ rfl go_149 rfl (fun W2 hW2 => oU p0 y15.1.f_stop.f_place y24 hy25 W2 Ab p0.fTracks.length cb ys0_1 rfl ((RdL.arg hr0_1) W2 hW2) (NestL.at (NestL.arg hN0_1) W2 hW2)) ?_
    rintro ⟨b26,b27⟩
    try dsimp only [lna,lca,lsz,lss]
    refine oN (eT (cB ?_))
    obtain ⟨hok65,h⟩:=gOs h
    obtain ⟨u41,hl64,h⟩:=bOs h
    refine cx_rangeH (enc:=fun y : {y : Hd × TT // y ∈ ys0_1} => .agg #[vI y.1.2.fID,vI y.1.2.fFrom,vI y.1.2.fTo,vI y.1.2.fLong,vI y.1.2.fToll,.slice y.1.1.1 y.1.1.2.1 y.1.1.2.2]) (bodyf:=fun s y => cE y15 s y.1.2) (caps:=[.pointer (some ⟨b26,0,none⟩),.pointer (some ⟨b27,0,none⟩)]) (fun (s:((List (Ts × Tl)) × (List Twait))) L => ∃ (A3_s:Option Addr) (c3_s:Nat) (n3_s:Nat),n3_s = s.2.length ∧ L = [ai b1 24 [vI p0.fPlaces,.slice Ab p0.fTracks.length cb],mapV Tryz.prog 191 co aQ bY (Tl.mk 0 (Ts.mk 0 0) (TLeg.mk 0 0) false) b2 s.1,ai b4 157 [.map (some b2)],aL A3_s c3_s 196 3 n3_s (encL ay s.2),ai b6 198 [.slice A3_s n3_s c3_s],ai b7 194 [.pointer (some ⟨b6,0,none⟩)],mo Ds_s10,ai b21 196 [vI y15.1.f_at,vI y15.1.f_stop.f_place,vI y15.1.f_stop.f_toll],ai b26 24 [vI p0.fPlaces,.slice Ab p0.fTracks.length cb],ai b27 3 [vI y15.1.f_stop.f_place]]) (fun (_:Unit) _ _ => False) (sY (xs:=p0.fTracks) hN0_1.p.eq hl64) rfl go_178 (mu (p0,y15.1.f_stop.f_place) hok65 b26 b27 Ab p0.fTracks.length cb ys0_1 rfl hN0_1.p) (fun W2 s L hI hW2 => by obtain ⟨A3_s,c3_s,n3_s,rfl,rfl⟩:=hI; exact ⟨hW2.mem (i:=8) rfl,hW2.mem (i:=9) rfl,(RdL.arg hr0_1) W2 hW2⟩) ⟨A17,c19,y15.2.length,rfl,rfl⟩ (fun W2 hW2 s L hI => by obtain ⟨A3_s,c3_s,n3_s,rfl,rfl⟩:=hI; exact (.cons Cy.cells (.cons (Cy.mapV (Res.inb (mapV Tryz.prog 191 co aQ bY (Tl.mk 0 (Ts.mk 0 0) (TLeg.mk 0 0) false) b2 _) W2 (hW2.mem (i:=1) rfl) _ rfl)) (.cons Cy.cells (.cons Cy.row (.cons Cy.cells (.cons Cy.cells (.cons Cy.dfs (.cons Cy.cells (.cons Cy.cells (.cons Cy.cells CyL.nil))))))))))) (fun _ _ _ _ _ h => h.elim) (fun _ _ _ h => h.elim) ?_ ?_ ?_
    ·rintro D28 l29 rec30 s39 ⟨⟨⟨A33,n66,c34⟩,x40⟩,hm32⟩ L st hrec31 ⟨A3_s39,c3_s39,n3_s39,rfl,rfl⟩ h
     have hn67 : n66 = x40.fK.length:=NestP.ln hN0_1.p _ hm32
     subst hn67
     replace h : cE y15 s39 x40 = _:=h
     unfold cE at h
     refine cR ?_
     try dsimp only [lna,lca,lsz,lss]
     refine aE gp rfl (fun b42 => ?_)
     try dsimp only [lna,lca,lsz,lss]
     refine cr rfl (yS 12 [vI x40.fID,vI x40.fFrom,vI x40.fTo,vI x40.fLong,vI x40.fToll,.slice A33 x40.fK.length c34] pk rfl (nB rfl) rfl rfl rfl) (oN (ex_begin 11 rfl hrec31 (cB (cS (cR (oY rfl (yN 12 [vI x40.fID,vI x40.fFrom,vI x40.fTo,vI x40.fLong,vI x40.fToll,.slice A33 x40.fK.length c34] i8 rfl rfl rfl) (oY rfl (yFA ng rfl) (oY rfl (yL 7 aV rfl rfl rfl) ?_))))))))
     obtain ⟨y43,hy44,h⟩:=bOs h
     refine oY rfl (yC [.agg #[vI x40.fID,vI x40.fFrom,vI x40.fTo,vI x40.fLong,vI x40.fToll,.slice A33 x40.fK.length c34],vI y15.1.f_at] go_123 rfl (fun W2 hW2 => mi x40 y15.1.f_at y43 hy44 W2 A33 x40.fK.length c34 rfl ((NestL.inn (NestL.arg hN0_1) _ hm32) W2 hW2)) rfl) (oY rfl (aN rfl) (oY rfl (yE rfl rfl) (oY rfl (yE rfl rfl) (oY rfl (yAI rfl) (oY rfl (yAB rfl) (oN (eT (cS (cR (oY rfl (yFA iV rfl) (oY rfl (yL 12 aV rfl rfl rfl) (oY rfl (yFA ni rfl) (oY rfl (yFA qg rfl) (oY rfl (yL 7 aV rfl rfl rfl) (oY rfl (yFA jK rfl) (oY rfl (yL 12 aV rfl rfl rfl) (oY rfl (aT rfl rfl) ?_)))))))))))))))))
     refine oY rfl (aY [vI x40.fTo,vI (w64 (y15.1.f_stop.f_toll + x40.fToll))] [(0,1),(1,1)] ow o3 (by kernel_rfl)) ?_
     refine aE o3 rfl (fun b45 => ?_)
     try dsimp only [lna,lca,lsz,lss]
     refine cr rfl (yS 13 [vI x40.fTo,vI (w64 (y15.1.f_stop.f_toll + x40.fToll))] sz_191 rfl (nB rfl) rfl rfl rfl) (oN (eT (cS (cS (cR (oY rfl (yMB rfl) (oY rfl (bQ rfl) (oY rfl (yMB rfl) ?_))))))))
     refine oJ 4 (fun tm0 => (upd (upd (upd (upd (upd (upd (upd (upd (upd (upd (upd (upd (upd tm0 3 (.pointer (some ⟨b1,0,none⟩))) 6 (.map none)) 7 (.pointer (some ⟨b4,0,none⟩))) 8 (.pointer (some ⟨b7,0,none⟩))) 32 (.bool (decide (0 < y12)))) 9 (.pointer (some ⟨b21,0,none⟩))) 44 (.bool (decide ((az (Tl.mk 0 (Ts.mk 0 0) (TLeg.mk 0 0) false) s10.2 y15.1.f_stop).f_at < y15.1.f_at)))) 49 (.func (.func 178) #[] #[.pointer (some ⟨b26,0,none⟩),.pointer (some ⟨b27,0,none⟩)])) 10 (.pointer (some ⟨b42,0,none⟩))) 11 (vI y43.1)) 12 (.bool y43.2)) 13 (.pointer (some ⟨b45,0,none⟩))) 73 (.bool ((!y43.2) || (decide (60 < w64 (y15.1.f_stop.f_toll + x40.fToll))))))) (fun tm0 => ?_) (fun key => ?_)
     ·refine oY rfl (yMB rfl) ?_
      obtain ⟨b48,hb49,h⟩:=bOs h
      refine oJ 7 (fun tm0 => (upd (upd (upd (upd (upd (upd (upd (upd (upd (upd (upd (upd (upd tm0 3 (.pointer (some ⟨b1,0,none⟩))) 6 (.map none)) 7 (.pointer (some ⟨b4,0,none⟩))) 8 (.pointer (some ⟨b7,0,none⟩))) 32 (.bool (decide (0 < y12)))) 9 (.pointer (some ⟨b21,0,none⟩))) 44 (.bool (decide ((az (Tl.mk 0 (Ts.mk 0 0) (TLeg.mk 0 0) false) s10.2 y15.1.f_stop).f_at < y15.1.f_at)))) 49 (.func (.func 178) #[] #[.pointer (some ⟨b26,0,none⟩),.pointer (some ⟨b27,0,none⟩)])) 10 (.pointer (some ⟨b42,0,none⟩))) 11 (vI y43.1)) 12 (.bool y43.2)) 13 (.pointer (some ⟨b45,0,none⟩))) 81 (.bool b48))) (fun tm0 => ?_) (fun key => ?_)
      ·refine oN (eT ?_)
       rcases iOs h with ⟨hp50,h⟩ | ⟨hp50,h⟩
       ·refine cT (vB hp50) (aH (ag (ac (aU 12 ?_))))
        obtain rfl:=sI h
        exact pE [ai b1 24 [vI p0.fPlaces,.slice Ab p0.fTracks.length cb],mapV Tryz.prog 191 co aQ bY (Tl.mk 0 (Ts.mk 0 0) (TLeg.mk 0 0) false) b2 s39.1,ai b4 157 [.map (some b2)],aL A3_s39 c3_s39 196 3 s39.2.length (encL ay s39.2),ai b6 198 [.slice A3_s39 s39.2.length c3_s39],ai b7 194 [.pointer (some ⟨b6,0,none⟩)],mo Ds_s10,ai b21 196 [vI y15.1.f_at,vI y15.1.f_stop.f_place,vI y15.1.f_stop.f_toll],ai b26 24 [vI p0.fPlaces,.slice Ab p0.fTracks.length cb],ai b27 3 [vI y15.1.f_stop.f_place]] ⟨A3_s39,c3_s39,s39.2.length,rfl,rfl⟩
       ·refine cF (vB hp50) (cK (eT (cS (cS (cR (oY rfl (yL 2 sk rfl rfl rfl) (oY rfl (yN 13 [vI x40.fTo,vI (w64 (y15.1.f_stop.f_toll + x40.fToll))] mN rfl rfl rfl) ?_)))))))
        obtain ⟨hg51,h⟩:=gOs h
        refine oY rfl (mA (k:=(Ts.mk x40.fTo (w64 (y15.1.f_stop.f_toll + x40.fToll)))) (MpL.own 1 rfl) mQ mG kc rfl rfl hg51) (oY rfl (aN rfl) (oY rfl (yE rfl rfl) (oY rfl (yE rfl rfl) ?_)))
        refine aE kc rfl (fun b52 => ?_)
        try dsimp only [lna,lca,lsz,lss]
        refine cr rfl (yS 14 [vI ((az (Tl.mk 0 (Ts.mk 0 0) (TLeg.mk 0 0) false) s39.1 (Ts.mk x40.fTo (w64 (y15.1.f_stop.f_toll + x40.fToll)))).f_at),vI ((az (Tl.mk 0 (Ts.mk 0 0) (TLeg.mk 0 0) false) s39.1 (Ts.mk x40.fTo (w64 (y15.1.f_stop.f_toll + x40.fToll)))).f_from.f_place),vI ((az (Tl.mk 0 (Ts.mk 0 0) (TLeg.mk 0 0) false) s39.1 (Ts.mk x40.fTo (w64 (y15.1.f_stop.f_toll + x40.fToll)))).f_from.f_toll),vI ((az (Tl.mk 0 (Ts.mk 0 0) (TLeg.mk 0 0) false) s39.1 (Ts.mk x40.fTo (w64 (y15.1.f_stop.f_toll + x40.fToll)))).f_leg.fTrack),vI ((az (Tl.mk 0 (Ts.mk 0 0) (TLeg.mk 0 0) false) s39.1 (Ts.mk x40.fTo (w64 (y15.1.f_stop.f_toll + x40.fToll)))).f_leg.fHour),.bool ((az (Tl.mk 0 (Ts.mk 0 0) (TLeg.mk 0 0) false) s39.1 (Ts.mk x40.fTo (w64 (y15.1.f_stop.f_toll + x40.fToll)))).f_begin)] qo rfl (nB rfl) rfl rfl rfl) (oY rfl (yAB rfl) (oN (eT (cS (cR (oY rfl (yMB rfl) (oY rfl (yMB rfl) ?_)))))))
        refine oJ 8 (fun tm0 => (upd (upd (upd (upd (upd (upd (upd (upd (upd (upd (upd (upd (upd (upd (upd (upd tm0 3 (.pointer (some ⟨b1,0,none⟩))) 6 (.map none)) 7 (.pointer (some ⟨b4,0,none⟩))) 8 (.pointer (some ⟨b7,0,none⟩))) 32 (.bool (decide (0 < y12)))) 9 (.pointer (some ⟨b21,0,none⟩))) 44 (.bool (decide ((az (Tl.mk 0 (Ts.mk 0 0) (TLeg.mk 0 0) false) s10.2 y15.1.f_stop).f_at < y15.1.f_at)))) 49 (.func (.func 178) #[] #[.pointer (some ⟨b26,0,none⟩),.pointer (some ⟨b27,0,none⟩)])) 10 (.pointer (some ⟨b42,0,none⟩))) 11 (vI y43.1)) 12 (.bool y43.2)) 13 (.pointer (some ⟨b45,0,none⟩))) 81 (.bool b48)) 14 (.pointer (some ⟨b52,0,none⟩))) 15 (.bool (bi s39.1 (Ts.mk x40.fTo (w64 (y15.1.f_stop.f_toll + x40.fToll)))))) 97 (.bool ((bi s39.1 (Ts.mk x40.fTo (w64 (y15.1.f_stop.f_toll + x40.fToll)))) && (decide ((az (Tl.mk 0 (Ts.mk 0 0) (TLeg.mk 0 0) false) s39.1 (Ts.mk x40.fTo (w64 (y15.1.f_stop.f_toll + x40.fToll)))).f_at ≤ w64 (y43.1 + x40.fLong))))))) (fun tm0 => ?_) (fun key => ?_)
        ·refine oN (eT ?_)
         rcases iOs h with ⟨hp54,h⟩ | ⟨hp54,h⟩
         ·refine cT (vB hp54) (aH (ag (ac (aU 12 ?_))))
          obtain rfl:=sI h
          exact pE [ai b1 24 [vI p0.fPlaces,.slice Ab p0.fTracks.length cb],mapV Tryz.prog 191 co aQ bY (Tl.mk 0 (Ts.mk 0 0) (TLeg.mk 0 0) false) b2 s39.1,ai b4 157 [.map (some b2)],aL A3_s39 c3_s39 196 3 s39.2.length (encL ay s39.2),ai b6 198 [.slice A3_s39 s39.2.length c3_s39],ai b7 194 [.pointer (some ⟨b6,0,none⟩)],mo Ds_s10,ai b21 196 [vI y15.1.f_at,vI y15.1.f_stop.f_place,vI y15.1.f_stop.f_toll],ai b26 24 [vI p0.fPlaces,.slice Ab p0.fTracks.length cb],ai b27 3 [vI y15.1.f_stop.f_place]] ⟨A3_s39,c3_s39,s39.2.length,rfl,rfl⟩
         ·refine cF (vB hp54) (cK (eT (cS (cR (oY rfl (yL 2 sk rfl rfl rfl) (oY rfl (yN 13 [vI x40.fTo,vI (w64 (y15.1.f_stop.f_toll + x40.fToll))] mN rfl rfl rfl) (oY rfl (yMI rfl) (oY rfl (yFA hQ rfl) (oY rfl (yL 12 aV rfl rfl rfl) (oY rfl (aT rfl rfl) (oY rfl (yFA ni rfl) (oY rfl (yN 7 [vI y15.1.f_stop.f_place,vI y15.1.f_stop.f_toll] mN rfl rfl rfl) (oY rfl (yFA gB rfl) (oY rfl (yL 12 aV rfl rfl rfl) (oY rfl (yMI rfl) ?_)))))))))))))))
          refine oY rfl (aY [vI x40.fID,vI y43.1] [(0,1),(1,1)] ust_132 tJ (by kernel_rfl)) ?_
          refine oY rfl (aY [vI (w64 (y43.1 + x40.fLong)),vI y15.1.f_stop.f_place,vI y15.1.f_stop.f_toll,vI x40.fID,vI y43.1,.bool false] [(0,1),(1,2),(3,2),(5,1)] ust_193 kc (by kernel_rfl)) ?_
          obtain ⟨hg55,h⟩:=gOs h
          refine cr rfl (kF 1 (k:=(Ts.mk x40.fTo (w64 (y15.1.f_stop.f_toll + x40.fToll)))) (v:=(Tl.mk (w64 (y43.1 + x40.fLong)) y15.1.f_stop (TLeg.mk x40.fID y43.1) false)) rfl mQ mG rfl rfl rfl hg55) (oN (eT (cR (oY rfl (yL 5 sc_194 rfl rfl rfl) (oY rfl (jJ nif_194 rfl) (oY rfl (yMI rfl) (oY rfl (yFA hQ rfl) (oY rfl (yL 12 aV rfl rfl rfl) (oY rfl (aT rfl rfl) (oY rfl (yN 13 [vI x40.fTo,vI (w64 (y15.1.f_stop.f_toll + x40.fToll))] mN rfl rfl rfl) ?_))))))))))
          refine oY rfl (aY [vI (w64 (y43.1 + x40.fLong)),vI x40.fTo,vI (w64 (y15.1.f_stop.f_toll + x40.fToll))] [(0,1),(1,2)] ust_196 oo (by kernel_rfl)) ?_
          refine oY rfl (jJ pI rfl) ?_
          obtain ⟨y56,hy57,h⟩:=bOs h
          refine gg [4,3] [] [.iface 194 (.pointer (some ⟨b6,0,none⟩)),.iface 196 (.agg #[vI (w64 (y43.1 + x40.fLong)),vI x40.fTo,vI (w64 (y15.1.f_stop.f_toll + x40.fToll))])] [] (fun (x:(Option Addr × Nat × Nat)) => x.2.1 = y56.length) (fun _ => .tuple #[]) (fun x => [ai b6 198 [.slice x.1 x.2.1 x.2.2],aL x.1 x.2.2 196 3 x.2.1 (encL ay y56)]) (fun _ => []) (Foc.c2 rfl rfl) (by decide) rfl go_150 rfl rfl (fun _ => rfl) (fun W2 hW2 => kf s39.2 (Twait.mk (w64 (y43.1 + x40.fLong)) (Ts.mk x40.fTo (w64 (y15.1.f_stop.f_toll + x40.fToll)))) y56 hy57 W2 _ (bB [ai b1 24 [vI p0.fPlaces,.slice Ab p0.fTracks.length cb],mapV Tryz.prog 191 co aQ bY (Tl.mk 0 (Ts.mk 0 0) (TLeg.mk 0 0) false) b2 (((Ts.mk x40.fTo (w64 (y15.1.f_stop.f_toll + x40.fToll))),(Tl.mk (w64 (y43.1 + x40.fLong)) y15.1.f_stop (TLeg.mk x40.fID y43.1) false)) :: s39.1),ai b4 157 [.map (some b2)],aL A3_s39 c3_s39 196 3 s39.2.length (encL ay s39.2),ai b6 198 [.slice A3_s39 s39.2.length c3_s39],ai b7 194 [.pointer (some ⟨b6,0,none⟩)],mo Ds_s10,ai b21 196 [vI y15.1.f_at,vI y15.1.f_stop.f_place,vI y15.1.f_stop.f_toll],ai b26 24 [vI p0.fPlaces,.slice Ab p0.fTracks.length cb],ai b27 3 [vI y15.1.f_stop.f_place],dfR D28,lpR l29 { rec30 with state:=.busy },ai b42 120 [vI x40.fID,vI x40.fFrom,vI x40.fTo,vI x40.fLong,vI x40.fToll,.slice A33 x40.fK.length c34],ai b45 191 [vI x40.fTo,vI (w64 (y15.1.f_stop.f_toll + x40.fToll))],ai b52 193 [vI ((az (Tl.mk 0 (Ts.mk 0 0) (TLeg.mk 0 0) false) s39.1 (Ts.mk x40.fTo (w64 (y15.1.f_stop.f_toll + x40.fToll)))).f_at),vI ((az (Tl.mk 0 (Ts.mk 0 0) (TLeg.mk 0 0) false) s39.1 (Ts.mk x40.fTo (w64 (y15.1.f_stop.f_toll + x40.fToll)))).f_from.f_place),vI ((az (Tl.mk 0 (Ts.mk 0 0) (TLeg.mk 0 0) false) s39.1 (Ts.mk x40.fTo (w64 (y15.1.f_stop.f_toll + x40.fToll)))).f_from.f_toll),vI ((az (Tl.mk 0 (Ts.mk 0 0) (TLeg.mk 0 0) false) s39.1 (Ts.mk x40.fTo (w64 (y15.1.f_stop.f_toll + x40.fToll)))).f_leg.fTrack),vI ((az (Tl.mk 0 (Ts.mk 0 0) (TLeg.mk 0 0) false) s39.1 (Ts.mk x40.fTo (w64 (y15.1.f_stop.f_toll + x40.fToll)))).f_leg.fHour),.bool ((az (Tl.mk 0 (Ts.mk 0 0) (TLeg.mk 0 0) false) s39.1 (Ts.mk x40.fTo (w64 (y15.1.f_stop.f_toll + x40.fToll)))).f_begin)]] [4,3]) b6 A3_s39 s39.2.length c3_s39 rfl hW2) ?_
          rintro ⟨A58,n59,c60⟩ hn61
          replace hn61 : n59 = y56.length:=hn61; subst hn61
          try dsimp only [ll,lsz,lss,List.append_nil]
          refine oN (aw (aU 12 ?_))
          obtain rfl:=sI h
          exact pE [ai b1 24 [vI p0.fPlaces,.slice Ab p0.fTracks.length cb],mapV Tryz.prog 191 co aQ bY (Tl.mk 0 (Ts.mk 0 0) (TLeg.mk 0 0) false) b2 (((Ts.mk x40.fTo (w64 (y15.1.f_stop.f_toll + x40.fToll))),(Tl.mk (w64 (y43.1 + x40.fLong)) y15.1.f_stop (TLeg.mk x40.fID y43.1) false)) :: s39.1),ai b4 157 [.map (some b2)],aL A58 c60 196 3 y56.length (encL ay y56),ai b6 198 [.slice A58 y56.length c60],ai b7 194 [.pointer (some ⟨b6,0,none⟩)],mo Ds_s10,ai b21 196 [vI y15.1.f_at,vI y15.1.f_stop.f_place,vI y15.1.f_stop.f_toll],ai b26 24 [vI p0.fPlaces,.slice Ab p0.fTracks.length cb],ai b27 3 [vI y15.1.f_stop.f_place]] ⟨A58,c60,y56.length,rfl,rfl⟩
        ·rcases ao (bi s39.1 (Ts.mk x40.fTo (w64 (y15.1.f_stop.f_toll + x40.fToll)))) with hp53 | hp53
         ·refine oY (sT rfl rfl rfl rfl hp53) (yFA pX rfl) (oY (sT rfl rfl rfl rfl hp53) (yL 14 aV rfl rfl rfl) (oY (sT rfl rfl rfl rfl hp53) (yMI rfl) (oY (sT rfl rfl rfl rfl hp53) (yFA hQ rfl) (oY (sT rfl rfl rfl rfl hp53) (yL 12 aV rfl rfl rfl) (oY (sT rfl rfl rfl rfl hp53) (aT rfl rfl) (oY (sT rfl rfl rfl rfl hp53) (jw rfl rfl) (oY rfl (ab (vB hp53) rfl) ?_)))))))
          exact key _ _ (keep (keep (keep (keep (keep (keep (keep (keep (keep (keep (keep (keep (keep (keep (keep (keep rfl rfl) rfl) rfl) rfl) rfl) rfl) rfl) rfl) rfl) rfl) rfl) rfl) rfl) rfl) rfl) (vB (fc hp53)))
         ·refine oSk (sF rfl rfl rfl rfl hp53) (oSk (sF rfl rfl rfl rfl hp53) (oSk (sF rfl rfl rfl rfl hp53) (oSk (sF rfl rfl rfl rfl hp53) (oSk (sF rfl rfl rfl rfl hp53) (oSk (sF rfl rfl rfl rfl hp53) (oSk (sF rfl rfl rfl rfl hp53) (oY rfl (ad (vB hp53) rfl) ?_)))))))
          exact key _ _ (keep (keep (keep (keep (keep (keep (keep (keep (keep (keep (keep (keep (keep (keep (keep (keep rfl rfl) rfl) rfl) rfl) rfl) rfl) rfl) rfl) rfl) rfl) rfl) rfl) rfl) rfl) rfl) (vB (fa hp53)))
      ·clear h; rcases iOs hb49 with ⟨hp47,h⟩ | ⟨hp47,h⟩
       ·refine oSk (sF rfl rfl rfl rfl hp47) (oSk (sF rfl rfl rfl rfl hp47) (oSk (sF rfl rfl rfl rfl hp47) (oSk (sF rfl rfl rfl rfl hp47) (oSk (sF rfl rfl rfl rfl hp47) (oSk (sF rfl rfl rfl rfl hp47) (oY rfl (ab (vB hp47) rfl) ?_))))))
        obtain rfl:=sI h
        exact key _ _ (kp4 (kp4 (kp4 (kp rfl))))
       ·refine oY (sT rfl rfl rfl rfl hp47) (yMI rfl) (oY (sT rfl rfl rfl rfl hp47) (yFA hQ rfl) (oY (sT rfl rfl rfl rfl hp47) (yL 12 aV rfl rfl rfl) (oY (sT rfl rfl rfl rfl hp47) (aT rfl rfl) ?_)))
        obtain ⟨y62,hy63,h⟩:=bOs h
        refine oY (sT rfl rfl rfl rfl hp47) (yC [vI (w64 (y43.1 + x40.fLong))] nZ rfl (fun W2 hW2 => eJ (w64 (y43.1 + x40.fLong)) y62 hy63 W2 ) rfl) (oY (sT rfl rfl rfl rfl hp47) (bQ rfl) (oY rfl (ad (vB hp47) rfl) ?_))
        obtain rfl:=sI h
        exact key _ _ (kp4 (kp4 (kp4 (kp rfl))))
     ·rcases ao (!y43.2) with hp46 | hp46
      ·refine oSk (sF rfl rfl rfl rfl hp46) (oSk (sF rfl rfl rfl rfl hp46) (oSk (sF rfl rfl rfl rfl hp46) (oY rfl (ab (vB hp46) rfl) ?_)))
       exact key _ _ (keep (keep (keep (keep (keep (keep (keep (keep (keep (keep (keep (keep (keep rfl rfl) rfl) rfl) rfl) rfl) rfl) rfl) rfl) rfl) rfl) rfl) rfl) (vB (jf hp46)))
      ·refine oY (sT rfl rfl rfl rfl hp46) (yFA qg rfl) (oY (sT rfl rfl rfl rfl hp46) (yL 13 aV rfl rfl rfl) (oY (sT rfl rfl rfl rfl hp46) (gK rfl rfl) (oY rfl (ad (vB hp46) rfl) ?_)))
       exact key _ _ (keep (keep (keep (keep (keep (keep (keep (keep (keep (keep (keep (keep (keep rfl rfl) rfl) rfl) rfl) rfl) rfl) rfl) rfl) rfl) rfl) rfl) rfl) (vB (jg hp46)))
    ·rintro D28 u68 L hst ⟨A3_u68,c3_u68,n3_u68,rfl,rfl⟩
     subst hst
     dsimp only at h
     refine aw (aw ?_)
     refine ex_dfs 6 10 (by decide) rfl rfl (fun hd69 => ?_)
     try dsimp only [lsz,lss]
     refine aU 7 ?_
     obtain rfl:=sI h
     exact rQ ⟨_,A3_u68,c3_u68,u68.2.length,(D28 :: Ds_s10),(List.nodup_cons.2 ⟨hd69,hd_s10⟩),rfl,rfl,(kp4 rfl),rfl⟩
    ·intro D28 t e L _ hh
     exact hh.elim
  ·refine cF (vB hp14) (aH (ag ?_))
   obtain rfl:=sI h
   exact ex_stopD ⟨rfl,_,A3_s10,c3_s10,s10.1.length,Ds_s10,hd_s10,rfl,rfl,(kp4 rfl),rfl⟩
 ·intro e L tm d hJ
  obtain ⟨rfl,tm0_u11,A3_u11,c3_u11,n3_u11,Ds_u11,hd_u11,rfl,rfl,rfl,rfl⟩:=hJ
  refine ⟨(by intro hc; cases hc),?_⟩
  refine ac (eT (cS (cR ?_)))
  try dsimp only [lna,lca,lsz,lss]
  refine oY rfl (yL 2 sk rfl rfl rfl) (oY rfl (eo rfl) (oN (eT (am (ex_MN 6 rfl hd_u11 (.inl rfl) ?_)))))
  obtain rfl:=sI h
  exact al (.inl rfl) rfl (rVt (v:=.map (some b2)) rfl) (fun W2 hW2 => ⟨b2,rfl,(hW2.pick 1 rfl)⟩)
theorem kd (p0:(List (Ts × Tl))) (p1:Int) (res:(List Int)) (h:eP p0 p1 = some res) (W:World) (bm0_0:Nat) (hm0_0:(mapV Tryz.prog 191 co aQ bY (Tl.mk 0 (Ts.mk 0 0) (TLeg.mk 0 0) false) bm0_0 p0).holds W) :
  Calls Tryz.prog 111 [.map (some bm0_0),vI p1].toArray W fun e W2 => ∃ x : Unit,res.length = 61 ∧ e = .returned (.agg (encL cI res).toArray) ∧ Ext W W2 []:=by
 unfold eP at h
 refine ae (m:=39) Tryz.func111 rfl rfl (nB rfl) (cS (cR ?_))
 refine aE rS rfl (fun b1 => ?_)
 refine oN (eT (cS (cR ?_)))
 refine aE rS rfl (fun b2 => ?_)
 refine oN (eT (cS (cR (oY rfl (yAI rfl) (oN (eT (cS (cS (cR (oY rfl (yMI rfl) (oN (eT (cB ?_)))))))))))))
 obtain ⟨u6,hl15,h⟩:=bOs h
 refine ba (fun (s:(Int × Int × (List Int))) L tm => ∃ (tm0:Nat → Value),s.2.2.length = 61 ∧ L = [ai b1 160 (encL cI (List.replicate 61 0)),ai b2 160 (encL cI s.2.2)] ∧ tm = (upd (upd (upd (upd (upd (upd tm0 0 (.map (some bm0_0))) 1 (vI p1)) 4 (.pointer (some ⟨b1,0,none⟩))) 5 (.pointer (some ⟨b2,0,none⟩))) 6 (vI s.1)) 10 (vI s.2.1))) 0 hl15 ⟨_,List.length_replicate,rfl,(kp4 (kp (kp rfl)))⟩ ?_ ?_
 ·rintro s5 L tm st ⟨tm0_s5,hl1_s5,rfl,rfl⟩ h
  unfold db at h
  refine cS (cR (oY rfl (bj rfl rfl) (oN (eT (cS ?_)))))
  rcases iOs h with ⟨hp7,h⟩ | ⟨hp7,h⟩
  ·refine cT (vB hp7) (cK (eT (cS (cB (cS (cR (oY rfl (yMI rfl) (oY rfl (yAI rfl) (oN (eT (cS (cS (cR (oY rfl (cN rfl) (oY rfl (yMI rfl) (oY rfl (yMI rfl) ?_))))))))))))))))
   refine oY rfl (aY [vI p1,vI s5.2.1] [(0,1),(1,1)] ow o3 (by kernel_rfl)) ?_
   obtain ⟨hg8,h⟩:=gOs h
   refine oY rfl (mA (k:=(Ts.mk p1 s5.2.1)) (MpL.arg hm0_0) mQ mG kc rfl rfl hg8) (oY rfl (aN rfl) (oY rfl (yE rfl rfl) (oY rfl (yE rfl rfl) ?_)))
   refine aE kc rfl (fun b9 => ?_)
   refine cr rfl (yS 2 [vI ((az (Tl.mk 0 (Ts.mk 0 0) (TLeg.mk 0 0) false) p0 (Ts.mk p1 s5.2.1)).f_at),vI ((az (Tl.mk 0 (Ts.mk 0 0) (TLeg.mk 0 0) false) p0 (Ts.mk p1 s5.2.1)).f_from.f_place),vI ((az (Tl.mk 0 (Ts.mk 0 0) (TLeg.mk 0 0) false) p0 (Ts.mk p1 s5.2.1)).f_from.f_toll),vI ((az (Tl.mk 0 (Ts.mk 0 0) (TLeg.mk 0 0) false) p0 (Ts.mk p1 s5.2.1)).f_leg.fTrack),vI ((az (Tl.mk 0 (Ts.mk 0 0) (TLeg.mk 0 0) false) p0 (Ts.mk p1 s5.2.1)).f_leg.fHour),.bool ((az (Tl.mk 0 (Ts.mk 0 0) (TLeg.mk 0 0) false) p0 (Ts.mk p1 s5.2.1)).f_begin)] qo rfl (nB rfl) rfl rfl rfl) (oY rfl (yAB rfl) (oN (eT (cS (cR (oY rfl (yMB rfl) (oY rfl (yMB rfl) ?_)))))))
   refine oJ 9 (fun tm0 => (upd (upd (upd (upd (upd (upd (upd (upd (upd (upd (upd tm0 0 (.map (some bm0_0))) 1 (vI p1)) 4 (.pointer (some ⟨b1,0,none⟩))) 5 (.pointer (some ⟨b2,0,none⟩))) 6 (vI s5.1)) 10 (vI s5.2.1)) 11 (.bool (decide (s5.2.1 < 61)))) 7 (vI s5.2.1)) 8 (.pointer (some ⟨b9,0,none⟩))) 9 (.bool (bi p0 (Ts.mk p1 s5.2.1)))) 31 (.bool ((bi p0 (Ts.mk p1 s5.2.1)) && ((decide (s5.1 < 0)) || (decide ((az (Tl.mk 0 (Ts.mk 0 0) (TLeg.mk 0 0) false) p0 (Ts.mk p1 s5.2.1)).f_at < s5.1))))))) (fun tm0 => ?_) (fun key => ?_)
   ·refine oN (eT ?_)
    rcases iOs h with ⟨hp11,h⟩ | ⟨hp11,h⟩
    ·refine cT (vB hp11) (cR (oY rfl (yFA pX rfl) (oY rfl (yL 2 aV rfl rfl rfl) (oY rfl (yAI rfl) (oN (eT (cR (oY rfl (yMI rfl) (oY rfl (yMI rfl) ?_)))))))))
     obtain ⟨hg12,h⟩:=gOs h
     refine oY rfl (o8 ar_160 hg12.1 hg12.2 rfl rfl) (cr rfl (qy 1 (encL cI (s5.2.2.set (Int.toNat s5.2.1) ((az (Tl.mk 0 (Ts.mk 0 0) (TLeg.mk 0 0) false) p0 (Ts.mk p1 s5.2.1)).f_at))) qk rfl (ltA hl1_s5 hg12.1 hg12.2) setA' rfl rfl rfl) (oN (aw (eT (cR (oY rfl (aT rfl rfl) (oY rfl (yMI rfl) (oN (aU 2 ?_)))))))))
     obtain rfl:=sI h
     exact eN ⟨_,(lenSetA hl1_s5),rfl,(kp4 (kp (kp rfl)))⟩
    ·refine cF (vB hp11) (cK (eT (cR (oY rfl (yMI rfl) (oY rfl (yMI rfl) ?_)))))
     obtain ⟨hg13,h⟩:=gOs h
     refine oY rfl (o8 ar_160 hg13.1 hg13.2 rfl rfl) (cr rfl (qy 1 (encL cI (s5.2.2.set (Int.toNat s5.2.1) s5.1)) qk rfl (ltA hl1_s5 hg13.1 hg13.2) setA' rfl rfl rfl) (oN (aw (eT (cR (oY rfl (aT rfl rfl) (oY rfl (yMI rfl) (oN (aU 2 ?_)))))))))
     obtain rfl:=sI h
     exact eN ⟨_,(lenSetA hl1_s5),rfl,(kp4 (kp (kp rfl)))⟩
   ·rcases ao (bi p0 (Ts.mk p1 s5.2.1)) with hp10 | hp10
    ·refine oY (sT rfl rfl rfl rfl hp10) (yMI rfl) (oY (sT rfl rfl rfl rfl hp10) (bj rfl rfl) (oY (sT rfl rfl rfl rfl hp10) (yMB rfl) ?_))
     refine oJ 5 (fun tm0 => (upd (upd (upd (upd (upd (upd (upd (upd (upd (upd (upd (upd tm0 0 (.map (some bm0_0))) 1 (vI p1)) 4 (.pointer (some ⟨b1,0,none⟩))) 5 (.pointer (some ⟨b2,0,none⟩))) 6 (vI s5.1)) 10 (vI s5.2.1)) 11 (.bool (decide (s5.2.1 < 61)))) 7 (vI s5.2.1)) 8 (.pointer (some ⟨b9,0,none⟩))) 9 (.bool (bi p0 (Ts.mk p1 s5.2.1)))) 22 (.bool (bi p0 (Ts.mk p1 s5.2.1)))) 30 (.bool ((decide (s5.1 < 0)) || (decide ((az (Tl.mk 0 (Ts.mk 0 0) (TLeg.mk 0 0) false) p0 (Ts.mk p1 s5.2.1)).f_at < s5.1)))))) (fun tm0 => ?_) (fun key => ?_)
     ·refine oY rfl (ab (vB hp10) rfl) ?_
      exact key _ _ (keep (keep (keep (keep (keep (keep (keep (keep (keep (keep (keep rfl rfl) rfl) rfl) rfl) rfl) rfl) rfl) rfl) rfl) rfl) (vB (fc hp10)))
     ·rcases ao (decide (s5.1 < 0)) with hp14 | hp14
      ·refine oSk (sF rfl rfl rfl rfl hp14) (oSk (sF rfl rfl rfl rfl hp14) (oSk (sF rfl rfl rfl rfl hp14) (oSk (sF rfl rfl rfl rfl hp14) (oY (sT rfl rfl rfl rfl hp10) (ab (vB hp14) rfl) ?_))))
       exact key _ _ (keep (keep (keep (keep (keep (keep (keep (keep (keep (keep (keep (keep rfl rfl) rfl) rfl) rfl) rfl) rfl) rfl) rfl) rfl) rfl) rfl) (vB (jf hp14)))
      ·refine oY (sT rfl rfl rfl rfl hp14) (yFA pX rfl) (oY (sT rfl rfl rfl rfl hp14) (yL 2 aV rfl rfl rfl) (oY (sT rfl rfl rfl rfl hp14) (yMI rfl) (oY (sT rfl rfl rfl rfl hp14) (bj rfl rfl) (oY (sT rfl rfl rfl rfl hp10) (ad (vB hp14) rfl) ?_))))
       exact key _ _ (keep (keep (keep (keep (keep (keep (keep (keep (keep (keep (keep (keep rfl rfl) rfl) rfl) rfl) rfl) rfl) rfl) rfl) rfl) rfl) rfl) (vB (jg hp14)))
    ·refine oSk (sF rfl rfl rfl rfl hp10) (oSk (sF rfl rfl rfl rfl hp10) (oSk (sF rfl rfl rfl rfl hp10) (oSk rfl (oSk rfl (oSk rfl (oSk rfl (oSk (sF rfl rfl rfl rfl hp10) (oY rfl (ad (vB hp10) rfl) ?_))))))))
     exact key _ _ (keep (keep (keep (keep (keep (keep (keep (keep (keep (keep (keep rfl rfl) rfl) rfl) rfl) rfl) rfl) rfl) rfl) rfl) rfl) (vB (fa hp10)))
  ·refine cF (vB hp7) (aH (ag ?_))
   obtain rfl:=sI h
   exact ax ⟨rfl,_,hl1_s5,rfl,(kp4 (kp (kp rfl)))⟩
 ·intro e L tm hJ
  obtain ⟨rfl,tm0_u6,hl1_u6,rfl,rfl⟩:=hJ
  refine ⟨(by intro hc; cases hc),?_⟩
  refine ac (eT (cS (cR (oY rfl (yN 1 (encL cI u6.2.2) (aggA rr hl1_u6) rfl rfl (takeA _)) (cr rfl (qd 0 (xs:=(List.replicate 61 0)) (xs':=u6.2.2) rm List.length_replicate hl1_u6 rfl rfl rfl) (oN (eT (am ?_))))))))
  obtain rfl:=sI h
  exact al (.inl rfl) rfl (tf 0 rr hl1_u6 rfl rfl) (fun W2 hW2 => ⟨(),hl1_u6,rfl,hW2.none⟩)
theorem jh (p0:(List TLeg)) (res:(List TLeg)) (h:bW p0 = some res) (W:World) (w0:World) (R:Res) (Aa:Option Addr) (n0_0 ca : Nat) (hn0_0:n0_0 = p0.length) (hW:Ext w0 W [R,aL Aa ca 132 2 n0_0 (encL bt p0)]) :
  Calls Tryz.prog 183 [.slice Aa n0_0 ca].toArray W fun e W2 => e = .returned (.tuple #[]) ∧ n0_0 = res.length ∧ Ext w0 W2 [R,aL Aa ca 132 2 n0_0 (encL bt res)]:=by
 subst hn0_0
 unfold bW at h
 refine a8 (m:=28) Tryz.func183 rfl rfl (nB rfl) hW (cS (cR (oY rfl (yMS rfl) (oY rfl (bp (us:=[]) tP rfl) (oY rfl (eH rfl rfl) (oY rfl (yAI rfl) (oY rfl (yAI rfl) (oN (eT (cB ?_))))))))))
 obtain ⟨u4,hl10,h⟩:=bOs h
 refine ba (fun (s:(Int × Int × (List TLeg))) L tm => ∃ (tm0:Nat → Value),p0.length = s.2.2.length ∧ L = [R,aL Aa ca 132 2 p0.length (encL bt s.2.2)] ∧ tm = (upd (upd (upd tm0 0 (.slice Aa p0.length ca)) 2 (vI s.1)) 3 (vI s.2.1))) 0 hl10 ⟨_,rfl,rfl,(kp (kp (kp rfl)))⟩ ?_ ?_
 ·rintro s3 L tm st ⟨tm0_s3,hn1_s3,rfl,rfl⟩ h
  unfold bK at h
  refine cS (cS (cR (oY rfl (yMI rfl) (oY rfl (yMI rfl) (oY rfl (bj rfl rfl) (oN (eT ?_)))))))
  rcases iOs h with ⟨hp5,h⟩ | ⟨hp5,h⟩
  ·refine cT (vB hp5) (cK (eT (cS (cB ?_))))
   refine qP [2,3] 13 cD (by kernel_rfl) (by kernel_rfl) ?_
   refine qY rfl (yMS rfl) (qY rfl (yMI rfl) (qY rfl (yMS rfl) (qY rfl (yMI rfl) (qY rfl (yMS rfl) (qY rfl (yMI rfl) ?_)))))
   obtain ⟨hg6,h⟩:=gOs h
   refine qY rfl (yI tj (by decide) hg6.1 hg6.2 (RdL.row 1 rfl) (eL bo hn1_s3) rfl rfl) ?_
   refine qY rfl (yM (A:=Aa) (j:=(Int.toNat s3.2.1 * 2)) [vI ((rdL s3.2.2 s3.2.1).fTrack),vI ((rdL s3.2.2 s3.2.1).fHour)] ag_132 (Nat.succ_pos _) (RdL.row 1 rfl) rfl (bl bo hg6.1 (ah hg6.2 hn1_s3))) (qY rfl (yMS rfl) (qY rfl (yMI rfl) ?_))
   obtain ⟨hg7,h⟩:=gOs h
   refine qY rfl (yI tj (by decide) hg7.1 hg7.2 (RdL.row 1 rfl) (eL bo hn1_s3) rfl rfl) ?_
   refine qY rfl (yM (A:=Aa) (j:=(Int.toNat s3.1 * 2)) [vI ((rdL s3.2.2 s3.1).fTrack),vI ((rdL s3.2.2 s3.1).fHour)] ag_132 (Nat.succ_pos _) (RdL.row 1 rfl) rfl (bl bo hg7.1 (ah hg7.2 hn1_s3))) ?_
   obtain ⟨hg8,h⟩:=gOs h
   refine qY rfl (yI tj (by decide) hg8.1 hg8.2 (RdL.row 1 rfl) (eL bo hn1_s3) rfl rfl) ?_
   refine cd (cr rfl (lU 1 (xs:=s3.2.2) [vI ((rdL s3.2.2 s3.2.1).fTrack),vI ((rdL s3.2.2 s3.2.1).fHour)] bo (Nat.succ_pos _) (rdL s3.2.2 s3.2.1) sz_132 rfl hg8.1 (ah hg8.2 hn1_s3) rfl rfl rfl rfl) ?_)
   obtain ⟨hg9,h⟩:=gOs h
   refine oY rfl (yI tj (by decide) hg9.1 hg9.2 (RdL.row 1 rfl) (eL bo (cP hn1_s3)) rfl rfl) ?_
   refine cr rfl (lU 1 (xs:=(s3.2.2.set (Int.toNat s3.1) (rdL s3.2.2 s3.2.1))) [vI ((rdL s3.2.2 s3.1).fTrack),vI ((rdL s3.2.2 s3.1).fHour)] bo (Nat.succ_pos _) (rdL s3.2.2 s3.1) sz_132 rfl hg9.1 (ah hg9.2 (cP hn1_s3)) rfl rfl rfl rfl) (oN (qa (aw (eT (cR (oY rfl (yMI rfl) (oY rfl (aT rfl rfl) (oY rfl (yMI rfl) (oY rfl (eH rfl rfl) (oY rfl (yAI rfl) (oY rfl (yAI rfl) (oN ?_))))))))))))
   obtain rfl:=sI h
   exact eN ⟨_,(cP (cP hn1_s3)),rfl,(kp (kp (kp rfl)))⟩
  ·refine cF (vB hp5) (aH (ag ?_))
   obtain rfl:=sI h
   exact ax ⟨rfl,_,hn1_s3,rfl,(kp (kp (kp rfl)))⟩
 ·intro e L tm hJ
  obtain ⟨rfl,tm0_u4,hn1_u4,rfl,rfl⟩:=hJ
  refine ⟨(by intro hc; cases hc),?_⟩
  refine ac ?_
  obtain rfl:=sI h
  exact cH (.inr rfl) rfl  (fun W2 hW2 => ⟨rfl,hn1_u4,hW2.take 2⟩)
theorem nD (p0:(List (Ts × Tl))) (p1:Ts) (res:TJ) (h:gT p0 p1 = some res) (W:World) (bm0_0:Nat) (hm0_0:(mapV Tryz.prog 191 co aQ bY (Tl.mk 0 (Ts.mk 0 0) (TLeg.mk 0 0) false) bm0_0 p0).holds W) :
  Calls Tryz.prog 157 [.map (some bm0_0),.agg #[vI p1.f_place,vI p1.f_toll]].toArray W fun e W2 => ∃ x : Option Addr × Nat × Nat,x.2.1 = res.fLegs.length ∧ e = .returned (.agg #[.slice x.1 x.2.1 x.2.2,vI res.fA,vI res.fToll]) ∧ Ext W W2 [aL x.1 x.2.2 132 2 x.2.1 (encL bt res.fLegs)]:=by
 unfold gT at h
 refine ae (m:=36) Tryz.func157 rfl rfl (nB rfl) (cS (cR ?_))
 refine aW [vI p1.f_place,vI p1.f_toll] rfl rfl rfl (fun b1 => ?_)
 refine aE ko rfl (fun b2 => ?_)
 refine oN (eT (cS ?_))
 refine tH 7 cD (by kernel_rfl) (by kernel_rfl) (by kernel_rfl) ?_
 refine ax_y rfl (fun _ => cN rfl) (ax_y rfl (fun _ => yN 0 [vI p1.f_place,vI p1.f_toll] mN rfl rfl rfl) ?_)
 obtain ⟨hg3,h⟩:=gOs h
 refine ax_y rfl (fun _ => kM (k:=p1) (MpL.arg hm0_0) mQ mG kc rfl rfl hg3) (ax_y rfl (fun _ => sx [vI ((az (Tl.mk 0 (Ts.mk 0 0) (TLeg.mk 0 0) false) p0 p1).f_at),vI ((az (Tl.mk 0 (Ts.mk 0 0) (TLeg.mk 0 0) false) p0 p1).f_from.f_place),vI ((az (Tl.mk 0 (Ts.mk 0 0) (TLeg.mk 0 0) false) p0 p1).f_from.f_toll),vI ((az (Tl.mk 0 (Ts.mk 0 0) (TLeg.mk 0 0) false) p0 p1).f_leg.fTrack),vI ((az (Tl.mk 0 (Ts.mk 0 0) (TLeg.mk 0 0) false) p0 p1).f_leg.fHour),.bool ((az (Tl.mk 0 (Ts.mk 0 0) (TLeg.mk 0 0) false) p0 p1).f_begin)] (v:=vI ((az (Tl.mk 0 (Ts.mk 0 0) (TLeg.mk 0 0) false) p0 p1).f_at)) rV aV rfl rfl) (ax_y rfl (fun _ => yFA qg rfl) (ax_y rfl (fun _ => yL 0 (v:=vI p1.f_toll) aV rfl rfl rfl) ?_)))
 refine ax_y rfl (fun _ => aY [.slice none 0 0,vI ((az (Tl.mk 0 (Ts.mk 0 0) (TLeg.mk 0 0) false) p0 p1).f_at),vI p1.f_toll] [(0,1),(1,1),(2,1)] ust_29 ko (by kernel_rfl)) ?_
 refine ax_nil rfl ko (fun b4 => ?_)
 refine cr rfl (yS 2 [.slice none 0 0,vI ((az (Tl.mk 0 (Ts.mk 0 0) (TLeg.mk 0 0) false) p0 p1).f_at),vI p1.f_toll] lD rfl (nB rfl) rfl rfl rfl) (oN (qa (eT (cS (cS (cR (oY rfl (cN rfl) (oY rfl (yN 0 [vI p1.f_place,vI p1.f_toll] mN rfl rfl rfl) ?_))))))))
 obtain ⟨hg5,h⟩:=gOs h
 refine oY rfl (kM (k:=p1) (MpL.arg hm0_0) mQ mG kc rfl rfl hg5) ?_
 refine aE kc rfl (fun b6 => ?_)
 refine cr rfl (yS 3 [vI ((az (Tl.mk 0 (Ts.mk 0 0) (TLeg.mk 0 0) false) p0 p1).f_at),vI ((az (Tl.mk 0 (Ts.mk 0 0) (TLeg.mk 0 0) false) p0 p1).f_from.f_place),vI ((az (Tl.mk 0 (Ts.mk 0 0) (TLeg.mk 0 0) false) p0 p1).f_from.f_toll),vI ((az (Tl.mk 0 (Ts.mk 0 0) (TLeg.mk 0 0) false) p0 p1).f_leg.fTrack),vI ((az (Tl.mk 0 (Ts.mk 0 0) (TLeg.mk 0 0) false) p0 p1).f_leg.fHour),.bool ((az (Tl.mk 0 (Ts.mk 0 0) (TLeg.mk 0 0) false) p0 p1).f_begin)] qo rfl (nB rfl) rfl rfl rfl) (oN (eT (cB ?_)))
 obtain ⟨u10,hl18,h⟩:=bOs h
 refine cQ 132 2 (cQ 132 2 ?_)
 refine ba (fun (s:(Tl × (List TLeg))) L tm => ∃ (tm0:Nat → Value) (A5_s:Option Addr) (c5_s:Nat) (n5_s:Nat) (b3_s:Nat),n5_s = s.2.length ∧ L = [ai b1 191 [vI p1.f_place,vI p1.f_toll],ai b2 29 [.slice none 0 0,vI 0,vI 0],ai b4 29 [.slice A5_s n5_s c5_s,vI ((az (Tl.mk 0 (Ts.mk 0 0) (TLeg.mk 0 0) false) p0 p1).f_at),vI p1.f_toll],ai b3_s 193 [vI s.1.f_at,vI s.1.f_from.f_place,vI s.1.f_from.f_toll,vI s.1.f_leg.fTrack,vI s.1.f_leg.fHour,.bool s.1.f_begin],aL none 0 132 2 0 (encL bt ([]:List TLeg)),aL A5_s c5_s 132 2 n5_s (encL bt s.2)] ∧ tm = (upd (upd (upd (upd tm0 0 (.map (some bm0_0))) 4 (.pointer (some ⟨b2,0,none⟩))) 5 (.pointer (some ⟨b4,0,none⟩))) 6 (.pointer (some ⟨b3_s,0,none⟩)))) 0 hl18 ⟨_,none,0,0,b6,rfl,rfl,(kp4 rfl)⟩ ?_ ?_
 ·rintro s9 L tm st ⟨tm0_s9,A5_s9,c5_s9,n5_s9,b3_s9,rfl,rfl,rfl⟩ h
  unfold cO at h
  refine cS (cS (cR ?_))
  try dsimp only [lna,lca,lsz,lss]
  refine oY rfl (yFA fo_193_3 rfl) (oY rfl (yL 3 sc_4 rfl rfl rfl) (oY rfl (bQ rfl) (oN (eT ?_))))
  rcases iOs h with ⟨hp11,h⟩ | ⟨hp11,h⟩
  ·refine cT (vB hp11) (cK (eT (cS (cB (cR (oY rfl (yFA lz rfl) (oY rfl (yL 2 ta rfl rfl rfl) (oY rfl (yFA fo_193_2 rfl) (oY rfl (yN 3 [vI s9.1.f_leg.fTrack,vI s9.1.f_leg.fHour] ag_132 rfl rfl rfl) ?_)))))))))
   refine aJ 1 (encL bt [s9.1.f_leg]) _ mc_132_1 tP tJ by_132 (by decide) (by decide) (by kernel_rfl) (eL bo rfl) rfl (fun b12 => ?_)
   try dsimp only [lna,lca,lsz,lss]
   obtain ⟨hg15,h⟩:=gOs h
   refine bE 5 tP tJ by_132 rfl rfl rfl (RdL.row 6 rfl) (eL bo rfl) (cv oM _) (cA hg15 (by decide)) rfl (fun A13 c14 => ?_)
   refine oY rfl (yFA lz rfl) (cr rfl (dt 2 (v:=.slice A13 (s9.2.length + 1) c14) sz_27 rfl (Nat.lt_of_lt_of_le (Nat.lt_succ_self _) (nB rfl)) rfl rfl rfl) (oN (aw (eT (cS (cS (cR (oY rfl (yN 3 [vI s9.1.f_at,vI s9.1.f_from.f_place,vI s9.1.f_from.f_toll,vI s9.1.f_leg.fTrack,vI s9.1.f_leg.fHour,.bool s9.1.f_begin] ag_193 rfl rfl rfl) (oN (eT (cR ?_)))))))))))
   refine aE kc rfl (fun b16 => ?_)
   try dsimp only [lna,lca,lsz,lss]
   refine cr rfl (yS 7 [vI s9.1.f_at,vI s9.1.f_from.f_place,vI s9.1.f_from.f_toll,vI s9.1.f_leg.fTrack,vI s9.1.f_leg.fHour,.bool s9.1.f_begin] qo rfl (nB rfl) rfl rfl rfl) (oN (eT (cR (oY rfl (cN rfl) (oY rfl (yFA fo_193_1 rfl) (oY rfl (yN 7 [vI s9.1.f_from.f_place,vI s9.1.f_from.f_toll] mN rfl rfl rfl) ?_))))))
   obtain ⟨hg17,h⟩:=gOs h
   refine oY rfl (kM (k:=s9.1.f_from) (MpL.arg hm0_0) mQ mG kc rfl rfl hg17) (cr rfl (yS 7 [vI ((az (Tl.mk 0 (Ts.mk 0 0) (TLeg.mk 0 0) false) p0 s9.1.f_from).f_at),vI ((az (Tl.mk 0 (Ts.mk 0 0) (TLeg.mk 0 0) false) p0 s9.1.f_from).f_from.f_place),vI ((az (Tl.mk 0 (Ts.mk 0 0) (TLeg.mk 0 0) false) p0 s9.1.f_from).f_from.f_toll),vI ((az (Tl.mk 0 (Ts.mk 0 0) (TLeg.mk 0 0) false) p0 s9.1.f_from).f_leg.fTrack),vI ((az (Tl.mk 0 (Ts.mk 0 0) (TLeg.mk 0 0) false) p0 s9.1.f_from).f_leg.fHour),.bool ((az (Tl.mk 0 (Ts.mk 0 0) (TLeg.mk 0 0) false) p0 s9.1.f_from).f_begin)] qo rfl (nB rfl) rfl rfl rfl) (oN ?_))
   refine ex_mv 3 7 (by decide) rfl ?_
   try dsimp only [lsz,lss]
   refine aU 6 ?_
   obtain rfl:=sI h
   exact eN ⟨_,A13,c14,(s9.2.length + 1),b16,(gb rfl rfl),rfl,(kp4 rfl)⟩
  ·refine cF (vB hp11) (aH (ag ?_))
   obtain rfl:=sI h
   exact ax ⟨rfl,_,A5_s9,c5_s9,s9.2.length,b3_s9,rfl,rfl,(kp4 rfl)⟩
 ·intro e L tm hJ
  obtain ⟨rfl,tm0_u10,A5_u10,c5_u10,n5_u10,b3_u10,rfl,rfl,rfl⟩:=hJ
  refine ⟨(by intro hc; cases hc),?_⟩
  refine ac (eT (cS (cR ?_)))
  try dsimp only [lna,lca,lsz,lss]
  refine oY rfl (yFA lz rfl) (oY rfl (yL 2 ta rfl rfl rfl) ?_)
  obtain ⟨y19,hy20,h⟩:=bOs h
  refine fu 5 [.slice A5_u10 u10.2.length c5_u10] (fun (_:Unit) => u10.2.length = y19.length) (fun _ => .tuple #[]) (fun _ => aL A5_u10 c5_u10 132 2 u10.2.length (encL bt y19)) (fun _ => []) rfl rfl go_183 rfl (fun W2 hW2 => (jh u10.2 y19 hy20 W2 _ (bB [ai b1 191 [vI p1.f_place,vI p1.f_toll],ai b2 29 [.slice none 0 0,vI 0,vI 0],ai b4 29 [.slice A5_u10 u10.2.length c5_u10,vI ((az (Tl.mk 0 (Ts.mk 0 0) (TLeg.mk 0 0) false) p0 p1).f_at),vI p1.f_toll],ai b3_u10 193 [vI u10.1.f_at,vI u10.1.f_from.f_place,vI u10.1.f_from.f_toll,vI u10.1.f_leg.fTrack,vI u10.1.f_leg.fHour,.bool u10.1.f_begin],aL none 0 132 2 0 (encL bt ([]:List TLeg)),aL A5_u10 c5_u10 132 2 u10.2.length (encL bt u10.2)] [5]) A5_u10 u10.2.length c5_u10 rfl hW2).mono (fun e W3 h3 => ⟨(),h3.2.1,h3.1,h3.2.2⟩)) ?_
  rintro - hn21
  try dsimp only [lsz,lss,List.append_nil]
  refine oN (eT (cS (cR (oY rfl (yN 2 [.slice A5_u10 u10.2.length c5_u10,vI ((az (Tl.mk 0 (Ts.mk 0 0) (TLeg.mk 0 0) false) p0 p1).f_at),vI p1.f_toll] nY rfl rfl rfl) (cr rfl (yS 1 [.slice A5_u10 u10.2.length c5_u10,vI ((az (Tl.mk 0 (Ts.mk 0 0) (TLeg.mk 0 0) false) p0 p1).f_at),vI p1.f_toll] lD rfl (nB rfl) rfl rfl rfl) (oN (eT (am ?_))))))))
  obtain rfl:=sI h
  exact al (.inl rfl) rfl (bz 1 [.slice A5_u10 u10.2.length c5_u10,vI ((az (Tl.mk 0 (Ts.mk 0 0) (TLeg.mk 0 0) false) p0 p1).f_at),vI p1.f_toll] nY rfl rfl rfl) (fun W2 hW2 => ⟨(A5_u10,u10.2.length,c5_u10),hn21,rfl,(hW2.pick 5 rfl)⟩)
theorem lY (p0:TR) (p1:Int) (p2:Int) (p3:Int) (res:(List TJ)) (h:ir p0 p1 p2 p3 = some res) (W:World) (Ab:Option Addr) (n0_1 cb : Nat) (ys0_1:List (Hd × TT)) (hn0_1:n0_1 = p0.fTracks.length) (hr0_1:Rd W Ab n0_1 cb (encL TTrack_cells2 ys0_1)) (hN0_1:NestW W (fun z : TT => z.fK) TSpan_cells ys0_1 p0.fTracks) (wb:World) (Hb:World → Prop) (hB:∀ W3,Below W.heap.size W W3 → Below wb.heap.size wb W3 ∧ Hb W3) :
  Calls Tryz.prog 119 [.agg #[vI p0.fPlaces,.slice Ab n0_1 cb],vI p1,vI p2,vI p3].toArray W fun e W2 => ∃ x : ((Option Addr × Nat × Nat) × (List (Hd × TJ)) × Res),(x.1.2.1 = res.length ∧ NestP (fun z : TJ => z.fLegs) x.2.1 res ∧ PvL (fun z : TJ => z.fLegs) bt wb (fun W4 => Hb W4 ∧ Res.holds x.2.2 W4) x.2.1) ∧ e = .returned (.slice x.1.1 x.1.2.1 x.1.2.2) ∧ Ext W W2 [aL x.1.1 x.1.2.2 29 3 x.1.2.1 (encL cl x.2.1),x.2.2]:=by
 subst hn0_1
 unfold ir at h
 refine ae (m:=41) Tryz.func119 rfl rfl (nB rfl) (cS (cR ?_))
 refine aW [vI p0.fPlaces,.slice Ab p0.fTracks.length cb] rfl rfl rfl (fun b1 => ?_)
 refine oY rfl (yAS rfl) (oN (eT (cS (cR (oY rfl (yN 0 [vI p0.fPlaces,.slice Ab p0.fTracks.length cb] dM rfl rfl rfl) (oY rfl (yMI rfl) (oY rfl (yMI rfl) ?_)))))))
 obtain ⟨y2,hy3,h⟩:=bOs h
 refine l6 [.agg #[vI p0.fPlaces,.slice Ab p0.fTracks.length cb],vI p1,vI p3] _ _ rfl go_110 rfl (fun W2 hW2 => lg p0 p1 p3 y2 hy3 W2 Ab p0.fTracks.length cb ys0_1 rfl ((RdL.arg hr0_1) W2 hW2) (NestL.at (NestL.arg hN0_1) W2 hW2)) ?_
 rintro b4
 refine oY rfl (eo rfl) (oN (eT (cS (cR (oY rfl (cN rfl) (oY rfl (yMI rfl) ?_))))))
 obtain ⟨y5,hy6,h⟩:=bOs h
 refine oC [.map (some b4),vI p2] _ _ _ rfl go_111 rfl (fun W2 hW2 => kd y2 p2 y5 hy6 W2 b4 ((MpL.own 1 rfl) W2 hW2)) ?_
 rintro - hl7
 try dsimp only [List.append_nil]
 refine aE rS rfl (fun b8 => ?_)
 refine cr rfl (qd 2 (xs:=(List.replicate 61 0)) (xs':=y5) rm List.length_replicate hl7 rfl rfl rfl) (oN (eT (cS (cR (oY rfl (yAS rfl) (oN (eT (cS (cR (oY rfl (yAI rfl) (oN (eT (cS (cS (cR (oY rfl (yN 2 (encL cI y5) (aggA rr hl7) rfl rfl (takeA _)) (oY rfl (yMI rfl) (oN (eT (cB ?_))))))))))))))))))))
 obtain ⟨u12,hl26,h⟩:=bOs h
 refine cQ 29 3 (pV ?_)
 refine ba (fun (s:(Int × Int × (List TJ))) L tm => ∃ (tm0:Nat → Value) (A3_s:Option Addr) (c3_s:Nat) (n3_s:Nat) (ys3_s:List (Hd × TJ)) (F3_s:Res),n3_s = s.2.2.length ∧ NestP (fun z : TJ => z.fLegs) ys3_s s.2.2 ∧ PvL (fun z : TJ => z.fLegs) bt wb (fun W4 => Hb W4 ∧ Res.holds F3_s W4) ys3_s ∧ L = [ai b1 24 [vI p0.fPlaces,.slice Ab p0.fTracks.length cb],mapV Tryz.prog 191 co aQ bY (Tl.mk 0 (Ts.mk 0 0) (TLeg.mk 0 0) false) b4 y2,ai b8 160 (encL cI y5),aL A3_s c3_s 29 3 n3_s (encL cl ys3_s),F3_s] ∧ tm = (upd (upd (upd (upd (upd (upd (upd tm0 2 (vI p2)) 8 (.slice none 0 0)) 9 (.map (some b4))) 11 (.slice A3_s n3_s c3_s)) 12 (vI s.1)) 22 (.agg (encL cI y5).toArray)) 23 (vI s.2.1))) 0 hl26 ⟨_,none,0,0,([]:List (Hd × TJ)),noR,rfl,NestP.nil,(PvL.mono (Hb:=Hb) PvL.nil (fun _ _ h => h.1)),rfl,(kp4 (kp (kp (kp rfl))))⟩ ?_ ?_
 ·rintro s11 L tm st ⟨tm0_s11,A3_s11,c3_s11,n3_s11,ys3_s11,F3_s11,rfl,hP3_s11,hV3_s11,rfl,rfl⟩ h
  unfold gl at h
  refine cS (cR (oY rfl (bj rfl rfl) (oN (eT (cS ?_)))))
  rcases iOs h with ⟨hp13,h⟩ | ⟨hp13,h⟩
  ·refine cT (vB hp13) (cK (eT (cS (cB (cS (cR (oY rfl (yMI rfl) ?_)))))))
   obtain ⟨hg14,h⟩:=gOs h
   refine oY rfl (y_indexA ua_160 aV hl7 hg14.1 hg14.2 rfl rfl) (oY rfl (yAI rfl) (oY rfl (yAI rfl) (oN (eT (cS (cS (cR (oY rfl (yMI rfl) (oY rfl (yMI rfl) (oY rfl (dl rfl rfl) (oN (eT ?_))))))))))))
   rcases iOs h with ⟨hp15,h⟩ | ⟨hp15,h⟩
   ·refine cT (vB hp15) (cR (oY rfl (yMS rfl) (oY rfl (cN rfl) (oY rfl (yMI rfl) (oY rfl (yMI rfl) ?_)))))
    refine oY rfl (aY [vI p2,vI s11.2.1] [(0,1),(1,1)] ow o3 (by kernel_rfl)) ?_
    obtain ⟨y16,hy17,h⟩:=bOs h
    refine oC [.map (some b4),.agg #[vI p2,vI s11.2.1]] _ _ _ rfl go_157 rfl (fun W2 hW2 => nD y2 (Ts.mk p2 s11.2.1) y16 hy17 W2 b4 ((MpL.own 1 rfl) W2 hW2)) ?_
    rintro ⟨A18,n20,c19⟩ hn21
    replace hn21 : n20 = y16.fLegs.length:=hn21; subst hn21
    try dsimp only [lna,lca,lsz,lss]
    refine rU ?_
    refine nr 6 5 (by decide) rfl rfl ?_
    refine aJ 1 (encL cl [((A18,y16.fLegs.length,c19),y16)]) _ mc_29_1 rN ko by_29 (by decide) (by decide) (by kernel_rfl) (eL bg rfl) rfl (fun b22 => ?_)
    try dsimp only [lna,lca,lsz,lss]
    obtain ⟨hg25,h⟩:=gOs h
    refine nr 4 6 (by decide) rfl rfl ?_
    refine bE 3 rN ko by_29 rfl rfl rfl (RdL.row 7 rfl) (eL bg (NestP.hn (NestP.cons (sel:=(fun z : TJ => z.fLegs)) rfl NestP.nil) rfl)) (cv lv _) (cA hg25 (by decide)) rfl (fun A23 c24 => ?_)
    refine oY rfl (yAS rfl) (oN (eT (cR (oY rfl (yMI rfl) (oY rfl (yAI rfl) (oN (aw (eT (cR (oY rfl (aT rfl rfl) (oY rfl (yMI rfl) (oN (aU 5 ?_)))))))))))))
    obtain rfl:=sI h
    exact eN ⟨_,A23,c24,(s11.2.2.length + 1),(ys3_s11 ++ [((A18,y16.fLegs.length,c19),y16)]),oW F3_s11 (oW noR (aL A18 c19 132 2 y16.fLegs.length (encL bt y16.fLegs))),(gb rfl rfl),(NestP.app hP3_s11 (NestP.cons (sel:=(fun z : TJ => z.fLegs)) rfl NestP.nil)),(PvL.app (PvL.mono (Hb:=(fun W4 => Hb W4 ∧ Res.holds F3_s11 W4)) hV3_s11 (fun _ _ h => ⟨h.1,h.2.1⟩)) (PvL.mono (Hb:=(fun W4 => Hb W4 ∧ Res.holds (oW noR (aL A18 c19 132 2 y16.fLegs.length (encL bt y16.fLegs))) W4)) (PvL.cons (fun _ _ h => eO h.2.2.1) (PvL.mono (Hb:=(fun W4 => Hb W4 ∧ Res.holds noR W4)) PvL.nil (fun _ _ h => ⟨h.1,h.2.1⟩))) (fun _ _ h => ⟨h.1,h.2.2.1⟩))),rfl,(kp4 (kp (kp (kp rfl))))⟩
   ·refine cF (vB hp15) (cK (eT (cR (oY rfl (yMI rfl) (oY rfl (yAI rfl) (oN (aw (eT (cR (oY rfl (aT rfl rfl) (oY rfl (yMI rfl) (oN ?_))))))))))))
    obtain rfl:=sI h
    exact eN ⟨_,A3_s11,c3_s11,s11.2.2.length,ys3_s11,F3_s11,rfl,hP3_s11,hV3_s11,rfl,(kp4 (kp (kp (kp rfl))))⟩
  ·refine cF (vB hp13) (aH (ag ?_))
   obtain rfl:=sI h
   exact ax ⟨rfl,_,A3_s11,c3_s11,s11.2.2.length,ys3_s11,F3_s11,rfl,hP3_s11,hV3_s11,rfl,(kp4 (kp (kp (kp rfl))))⟩
 ·intro e L tm hJ
  obtain ⟨rfl,tm0_u12,A3_u12,c3_u12,n3_u12,ys3_u12,F3_u12,rfl,hP3_u12,hV3_u12,rfl,rfl⟩:=hJ
  refine ⟨(by intro hc; cases hc),?_⟩
  refine ac (eT (cS (cR (oY rfl (yMS rfl) (oY rfl (yAS rfl) (oN (eT (am ?_))))))))
  obtain rfl:=sI h
  exact al (.inl rfl) rfl (rVt (v:=.slice A3_u12 u12.2.2.length c3_u12) rfl) (fun W2 hW2 => ⟨((A3_u12,u12.2.2.length,c3_u12),ys3_u12,F3_u12),⟨rfl,hP3_u12,hV3_u12⟩,rfl,hW2.pickL [3,4] (by decide) rfl⟩)
theorem kn (p0:TR) (p1:Int) (p2:Int) (p3:Int) (p4:Int) (res:(TJ × Bool)) (h:iN p0 p1 p2 p3 p4 = some res) (W:World) (Ab:Option Addr) (n0_1 cb : Nat) (ys0_1:List (Hd × TT)) (hn0_1:n0_1 = p0.fTracks.length) (hr0_1:Rd W Ab n0_1 cb (encL TTrack_cells2 ys0_1)) (hN0_1:NestW W (fun z : TT => z.fK) TSpan_cells ys0_1 p0.fTracks) (wb:World) (Hb:World → Prop) (hB:∀ W3,Below W.heap.size W W3 → Below wb.heap.size wb W3 ∧ Hb W3) :
  Calls Tryz.prog 71 [.agg #[vI p0.fPlaces,.slice Ab n0_1 cb],vI p1,vI p2,vI p3,vI p4].toArray W fun e W2 => ∃ x : (Hd × Res),(x.1.2.1 = res.1.fLegs.length ∧ Pv bt wb (fun W4 => Hb W4 ∧ Res.holds x.2 W4) x.1 res.1.fLegs) ∧ e = .returned (.tuple #[.agg #[.slice x.1.1 x.1.2.1 x.1.2.2,vI res.1.fA,vI res.1.fToll],.bool res.2]) ∧ Ext W W2 [x.2]:=by
 subst hn0_1
 unfold iN at h
 refine ae (m:=34) Tryz.func71 rfl rfl (nB rfl) (cS (cR ?_))
 refine aW [vI p0.fPlaces,.slice Ab p0.fTracks.length cb] rfl rfl rfl (fun b1 => ?_)
 refine aE ko rfl (fun b2 => ?_)
 refine oY rfl (yAB rfl) (oN (eT (cS (cR ?_))))
 refine aE ko rfl (fun b3 => ?_)
 refine oN (eT (cS (cR (oY rfl (yAB rfl) (oN (eT (cS (cS (cR (oY rfl (yN 0 [vI p0.fPlaces,.slice Ab p0.fTracks.length cb] dM rfl rfl rfl) (oY rfl (yMI rfl) (oY rfl (yMI rfl) (oY rfl (yMI rfl) ?_)))))))))))))
 obtain ⟨y4,hy5,h⟩:=bOs h
 refine oC [.agg #[vI p0.fPlaces,.slice Ab p0.fTracks.length cb],vI p1,vI p2,vI p3] _ _ _ rfl go_119 rfl (fun W2 hW2 => lY p0 p1 p2 p3 y4 hy5 W2 Ab p0.fTracks.length cb ys0_1 rfl ((RdL.arg hr0_1) W2 hW2) (NestL.at (NestL.arg hN0_1) W2 hW2) wb Hb (fun W3 hb => hB W3 (fV hW2.below hb)) ) ?_
 rintro ⟨⟨A8,n10,c9⟩,ys13,F14⟩ ⟨hn11,hP12,hV15⟩
 replace hn11 : n10 = y4.length:=hn11; subst hn11
 refine oY rfl (bp (us:=[]) rN rfl) (oY rfl (yMI rfl) (oN (eT (cB ?_))))
 obtain ⟨u19,hl24,h⟩:=bOs h
 refine ba (fun (s:(Bool × Int × (List TLeg) × Int × Int)) L tm => ∃ (tm0:Nat → Value) (A2_0_s:Option Addr) (c2_0_s:Nat),Pv bt wb (fun W4 => Hb W4 ∧ Res.holds F14 W4) (A2_0_s,s.2.2.1.length,c2_0_s) s.2.2.1 ∧ L = [ai b1 24 [vI p0.fPlaces,.slice Ab p0.fTracks.length cb],ai b2 29 [.slice none 0 0,vI 0,vI 0],ai b3 29 [.slice A2_0_s s.2.2.1.length c2_0_s,vI s.2.2.2.1,vI s.2.2.2.2],aL A8 c9 29 3 y4.length (encL cl ys13),F14] ∧ tm = (upd (upd (upd (upd (upd (upd (upd (upd tm0 4 (vI p4)) 10 (.pointer (some ⟨b2,0,none⟩))) 11 (.bool false)) 12 (.pointer (some ⟨b3,0,none⟩))) 13 (.bool s.1)) 20 (.slice A8 y4.length c9)) 21 (vI (y4.length:Int))) 22 (vI s.2.1))) 0 hl24 ⟨_,none,0,(Pv.mono (Hb:=Hb) (Pv.nil rfl) (fun _ _ h => h.1)),rfl,(kp4 (kp4 rfl))⟩ ?_ ?_
 ·rintro s18 L tm st ⟨tm0_s18,A2_0_s18,c2_0_s18,hR2_0_s18,rfl,rfl⟩ h
  unfold gS at h
  refine cS (cR (oY rfl (bj rfl rfl) (oN (eT (cS ?_)))))
  rcases iOs h with ⟨hp20,h⟩ | ⟨hp20,h⟩
  ·refine cT (vB hp20) (cK (eT (cS (cB (cS (cR ?_))))))
   obtain ⟨hg21,h⟩:=gOs h
   refine oY rfl (yI rL (by decide) hg21.1 hg21.2 (RdL.row 3 rfl) (eL bg (NestP.hn hP12 rfl)) rfl rfl) ?_
   refine oY rfl (yM (A:=A8) (j:=(Int.toNat s18.2.1 * 3)) [.slice ((rdL ys13 s18.2.1).1.1) ((rdL y4 s18.2.1).fLegs.length) ((rdL ys13 s18.2.1).1.2.2),vI ((rdL y4 s18.2.1).fA),vI ((rdL y4 s18.2.1).fToll)] nY (Nat.succ_pos _) (RdL.row 3 rfl) rfl (kw (lH (NestP.snd hP12 s18.2.1) (NestP.len hP12 hg21.1 (ah hg21.2 rfl))).symm (bl bg hg21.1 (ah hg21.2 (NestP.hn hP12 rfl))))) ?_
   refine aE ko rfl (fun b22 => ?_)
   try dsimp only [lna,lca,lsz,lss]
   refine cr rfl (yS 5 [.slice ((rdL ys13 s18.2.1).1.1) ((rdL y4 s18.2.1).fLegs.length) ((rdL ys13 s18.2.1).1.2.2),vI ((rdL y4 s18.2.1).fA),vI ((rdL y4 s18.2.1).fToll)] lD rfl (nB rfl) rfl rfl rfl) (oN (eT (cS (cR (oY rfl (yFA nv rfl) (oY rfl (yL 5 aV rfl rfl rfl) (oY rfl (yMI rfl) (oY rfl (jw rfl rfl) (oN (eT ?_))))))))))
   rcases iOs h with ⟨hp23,h⟩ | ⟨hp23,h⟩
   ·refine cT (vB hp23) (cR (oY rfl (yN 5 [.slice ((rdL ys13 s18.2.1).1.1) ((rdL y4 s18.2.1).fLegs.length) ((rdL ys13 s18.2.1).1.2.2),vI ((rdL y4 s18.2.1).fA),vI ((rdL y4 s18.2.1).fToll)] nY rfl rfl rfl) (cr rfl (yS 2 [.slice ((rdL ys13 s18.2.1).1.1) ((rdL y4 s18.2.1).fLegs.length) ((rdL ys13 s18.2.1).1.2.2),vI ((rdL y4 s18.2.1).fA),vI ((rdL y4 s18.2.1).fToll)] lD rfl (nB rfl) rfl rfl rfl) (oY rfl (yAB rfl) (oN (aw (eT (cR (oY rfl (aT rfl rfl) (oY rfl (yMI rfl) (oN (aU 5 ?_))))))))))))
    obtain rfl:=sI h
    exact eN ⟨_,(rdL ys13 s18.2.1).1.1,(rdL ys13 s18.2.1).1.2.2,(PvL.get hV15 hP12 hg21.1 (ah hg21.2 rfl)),rfl,(kp4 (kp4 rfl))⟩
   ·refine cF (vB hp23) (cK (aw (eT (cR (oY rfl (aT rfl rfl) (oY rfl (yMI rfl) (oN (aU 5 ?_))))))))
    obtain rfl:=sI h
    exact eN ⟨_,A2_0_s18,c2_0_s18,hR2_0_s18,rfl,(kp4 (kp4 rfl))⟩
  ·refine cF (vB hp20) (aH (ag ?_))
   obtain rfl:=sI h
   exact ax ⟨rfl,_,A2_0_s18,c2_0_s18,hR2_0_s18,rfl,(kp4 (kp4 rfl))⟩
 ·intro e L tm hJ
  obtain ⟨rfl,tm0_u19,A2_0_u19,c2_0_u19,hR2_0_u19,rfl,rfl⟩:=hJ
  refine ⟨(by intro hc; cases hc),?_⟩
  refine ac (eT (cS (cR (oY rfl (yN 2 [.slice A2_0_u19 u19.2.2.1.length c2_0_u19,vI u19.2.2.2.1,vI u19.2.2.2.2] nY rfl rfl rfl) (oY rfl (yMB rfl) (cr rfl (yS 1 [.slice A2_0_u19 u19.2.2.1.length c2_0_u19,vI u19.2.2.2.1,vI u19.2.2.2.2] lD rfl (nB rfl) rfl rfl rfl) (oY rfl (yAB rfl) (oN (eT (am ?_))))))))))
  obtain rfl:=sI h
  exact bI (.inl rfl) rfl (bz 1 [.slice A2_0_u19 u19.2.2.1.length c2_0_u19,vI u19.2.2.2.1,vI u19.2.2.2.2] nY rfl rfl rfl) (rVt (v:=.bool u19.1) rfl) (fun W2 hW2 => ⟨((A2_0_u19,u19.2.2.1.length,c2_0_u19),F14),⟨rfl,hR2_0_u19⟩,rfl,hW2.pickL [4] (by decide) rfl⟩)
theorem kH (p0:TR) (p1:Int) (p2:Int) (p3:Int) (p4:Int) (res:(TJ × Int)) (h:fg p0 p1 p2 p3 p4 = some res) (W:World) (Ab:Option Addr) (n0_1 cb : Nat) (ys0_1:List (Hd × TT)) (hn0_1:n0_1 = p0.fTracks.length) (hr0_1:Rd W Ab n0_1 cb (encL TTrack_cells2 ys0_1)) (hN0_1:NestW W (fun z : TT => z.fK) TSpan_cells ys0_1 p0.fTracks) (wb:World) (Hb:World → Prop) (hB:∀ W3,Below W.heap.size W W3 → Below wb.heap.size wb W3 ∧ Hb W3) :
  Calls Tryz.prog 18 [.agg #[vI p0.fPlaces,.slice Ab n0_1 cb],vI p1,vI p2,vI p3,vI p4].toArray W fun e W2 => ∃ x : (Hd × Res),(x.1.2.1 = res.1.fLegs.length ∧ Pv bt wb (fun W4 => Hb W4 ∧ Res.holds x.2 W4) x.1 res.1.fLegs) ∧ e = .returned (.tuple #[.agg #[.slice x.1.1 x.1.2.1 x.1.2.2,vI res.1.fA,vI res.1.fToll],vI res.2]) ∧ Ext W W2 [x.2]:=by
 subst hn0_1
 unfold fg at h
 refine ae (m:=38) Tryz.func18 rfl rfl (nB rfl) (cS (cR ?_))
 refine aW [vI p0.fPlaces,.slice Ab p0.fTracks.length cb] rfl rfl rfl (fun b1 => ?_)
 refine aE ko rfl (fun b2 => ?_)
 refine oY rfl (yAI rfl) (oN (eT (cS (cS (cR (oY rfl (yN 0 [vI p0.fPlaces,.slice Ab p0.fTracks.length cb] dM rfl rfl rfl) (oY rfl (yMI rfl) (oY rfl (yMI rfl) (oY rfl (yMI rfl) (oY rfl (yMI rfl) ?_))))))))))
 obtain ⟨y3,hy4,h⟩:=bOs h
 refine oY rfl (yC [.agg #[vI p0.fPlaces,.slice Ab p0.fTracks.length cb],vI p1,vI p2,vI p3,vI p4] go_70 rfl (fun W2 hW2 => ij p0 p1 p2 p3 p4 y3 hy4 W2 Ab p0.fTracks.length cb ys0_1 rfl ((RdL.arg hr0_1) W2 hW2) (NestL.at (NestL.arg hN0_1) W2 hW2)) rfl) (oY rfl (yAI rfl) (oN (eT (cS (cR (oY rfl (yMI rfl) (oY rfl (dl rfl rfl) (oN (eT ?_)))))))))
 rcases iOs h with ⟨hp5,h⟩ | ⟨hp5,h⟩
 ·refine cT (vB hp5) (cS (cR ?_))
  refine oY rfl (aY [.slice none 0 0,vI 0,vI 0] [(0,1),(1,1),(2,1)] ust_29 ko (by kernel_rfl)) ?_
  refine oY rfl (yMI rfl) (cr rfl (yS 1 [.slice none 0 0,vI 0,vI 0] lD rfl (nB rfl) rfl rfl rfl) (oY rfl (yAI rfl) (oN (eT (am (aa ?_))))))
  obtain rfl:=sI h
  exact bI (.inl rfl) rfl (bz 1 [.slice none 0 0,vI 0,vI 0] nY rfl rfl rfl) (rVt (v:=vI y3) rfl) (fun W2 hW2 => ⟨((none,0,0),noR),⟨rfl,(Pv.mono (Hb:=Hb) (Pv.nil rfl) (fun _ _ h => h.1))⟩,rfl,hW2.addNo.pickL [2] (by decide) rfl⟩)
 ·refine cF (vB hp5) (cK (eT (cS (cR (oY rfl (yN 0 [vI p0.fPlaces,.slice Ab p0.fTracks.length cb] dM rfl rfl rfl) (oY rfl (yMI rfl) (oY rfl (yMI rfl) (oY rfl (yMI rfl) (oY rfl (yMI rfl) ?_)))))))))
  obtain ⟨y6,hy7,h⟩:=bOs h
  refine oC [.agg #[vI p0.fPlaces,.slice Ab p0.fTracks.length cb],vI p1,vI p2,vI p3,vI p4] _ _ _ rfl go_71 rfl (fun W2 hW2 => kn p0 p1 p2 p3 p4 y6 hy7 W2 Ab p0.fTracks.length cb ys0_1 rfl ((RdL.arg hr0_1) W2 hW2) (NestL.at (NestL.arg hN0_1) W2 hW2) wb Hb (fun W3 hb => hB W3 (fV hW2.below hb)) ) ?_
  rintro ⟨⟨A10,n12,c11⟩,F14⟩ ⟨hn13,hV15⟩
  replace hn13 : n12 = y6.1.fLegs.length:=hn13; subst hn13
  refine oY rfl (aN rfl) (oY rfl (yE rfl rfl) (oY rfl (yE rfl rfl) ?_))
  refine aE ko rfl (fun b16 => ?_)
  refine cr rfl (yS 3 [.slice A10 y6.1.fLegs.length c11,vI y6.1.fA,vI y6.1.fToll] lD rfl (nB rfl) rfl rfl rfl) (oY rfl (yAB rfl) (oN (eT (cS (cS (cR (oY rfl (yMB rfl) (oY rfl (bQ rfl) (oN (eT ?_))))))))))
  rcases iOs h with ⟨hp17,h⟩ | ⟨hp17,h⟩
  ·refine cT (vB hp17) (cS (cR ?_))
   refine oY rfl (aY [.slice none 0 0,vI 0,vI 0] [(0,1),(1,1),(2,1)] ust_29 ko (by kernel_rfl)) ?_
   refine cr rfl (yS 1 [.slice none 0 0,vI 0,vI 0] lD rfl (nB rfl) rfl rfl rfl) (oY rfl (yAI rfl) (oN (eT (am (aa ?_)))))
   obtain rfl:=sI h
   exact bI (.inl rfl) rfl (bz 1 [.slice none 0 0,vI 0,vI 0] nY rfl rfl rfl) (rVt (v:=vI 5) rfl) (fun W2 hW2 => ⟨((none,0,0),noR),⟨rfl,(Pv.mono (Hb:=Hb) (Pv.nil rfl) (fun _ _ h => h.1))⟩,rfl,hW2.addNo.pickL [4] (by decide) rfl⟩)
  ·refine cF (vB hp17) (cK (eT (cS (cR (oY rfl (yN 3 [.slice A10 y6.1.fLegs.length c11,vI y6.1.fA,vI y6.1.fToll] nY rfl rfl rfl) (cr rfl (yS 1 [.slice A10 y6.1.fLegs.length c11,vI y6.1.fA,vI y6.1.fToll] lD rfl (nB rfl) rfl rfl rfl) (oY rfl (yAI rfl) (oN (eT (am ?_))))))))))
   obtain rfl:=sI h
   exact bI (.inl rfl) rfl (bz 1 [.slice A10 y6.1.fLegs.length c11,vI y6.1.fA,vI y6.1.fToll] nY rfl rfl rfl) (rVt (v:=vI 0) rfl) (fun W2 hW2 => ⟨((A10,y6.1.fLegs.length,c11),F14),⟨rfl,hV15⟩,rfl,hW2.pickL [2] (by decide) rfl⟩)
theorem mX (p0:Int) (cap0:TR) (cap1:Int) (cap2:Int) (cap3:Int) (cap4:Int) (res:Bool) (h:gj p0 cap0 cap1 cap2 cap3 cap4 = some res) (W:World) (bc0:Nat) (A100_1:Option Addr) (n100_1 c100_1 : Nat) (ys100_1:List (Hd × TT)) (hn100_1:n100_1 = cap0.fTracks.length) (hr100_1:Rd W A100_1 n100_1 c100_1 (encL TTrack_cells2 ys100_1)) (hN100_1:NestW W (fun z : TT => z.fK) TSpan_cells ys100_1 cap0.fTracks) (hcap0:Rd W (some ⟨bc0,0,none⟩) 1 1 [vI cap0.fPlaces,.slice A100_1 n100_1 c100_1]) (bc1:Nat) (hcap1:Rd W (some ⟨bc1,0,none⟩) 1 1 (cI cap1)) (bc2:Nat) (hcap2:Rd W (some ⟨bc2,0,none⟩) 1 1 (cI cap2)) (bc3:Nat) (hcap3:Rd W (some ⟨bc3,0,none⟩) 1 1 (cI cap3)) (bc4:Nat) (hcap4:Rd W (some ⟨bc4,0,none⟩) 1 1 (cI cap4)) :
  Calls Tryz.prog 72 [vI p0,.pointer (some ⟨bc0,0,none⟩),.pointer (some ⟨bc1,0,none⟩),.pointer (some ⟨bc2,0,none⟩),.pointer (some ⟨bc3,0,none⟩),.pointer (some ⟨bc4,0,none⟩)].toArray W fun e W2 => e = .returned (.bool res) ∧ Ext W W2 []:=by
 subst hn100_1
 unfold gj at h
 refine ae (m:=26) Tryz.func72 rfl rfl (nB rfl) (cS (cR (oY rfl (yAB rfl) (oN (eT (cS (cR (oY rfl (yM (A:=(some ⟨bc0,0,none⟩)) (j:=0) [vI cap0.fPlaces,.slice A100_1 cap0.fTracks.length c100_1] dM (Nat.succ_pos _) (RdL.arg hcap0) rfl (pw rfl)) (oY rfl (yR (A:=(some ⟨bc1,0,none⟩)) (j:=0) (v:=vI cap1) aV (RdL.arg hcap1) rfl rfl) (oY rfl (yR (A:=(some ⟨bc2,0,none⟩)) (j:=0) (v:=vI cap2) aV (RdL.arg hcap2) rfl rfl) (oY rfl (yMI rfl) (oY rfl (yR (A:=(some ⟨bc3,0,none⟩)) (j:=0) (v:=vI cap3) aV (RdL.arg hcap3) rfl rfl) ?_))))))))))))
 obtain ⟨y1,hy2,h⟩:=bOs h
 refine oC [.agg #[vI cap0.fPlaces,.slice A100_1 cap0.fTracks.length c100_1],vI cap1,vI cap2,vI p0,vI cap3] _ _ _ rfl go_71 rfl (fun W2 hW2 => kn cap0 cap1 cap2 p0 cap3 y1 hy2 W2 A100_1 cap0.fTracks.length c100_1 ys100_1 rfl ((RdL.arg hr100_1) W2 hW2) (NestL.at (NestL.arg hN100_1) W2 hW2) W (fun _ => True) (fun W3 hb => ⟨fV hW2.below hb,trivial⟩) ) ?_
 rintro ⟨⟨A5,n7,c6⟩,F9⟩ ⟨hn8,hV10⟩
 replace hn8 : n7 = y1.1.fLegs.length:=hn8; subst hn8
 refine oY rfl (aN rfl) (oY rfl (yE rfl rfl) (oY rfl (yE rfl rfl) ?_))
 refine aE ko rfl (fun b11 => ?_)
 refine cr rfl (yS 1 [.slice A5 y1.1.fLegs.length c6,vI y1.1.fA,vI y1.1.fToll] lD rfl (nB rfl) rfl rfl rfl) (oY rfl (yAB rfl) (oN (eT (cS (cR (oY rfl (yMB rfl) (oY rfl (yMB rfl) ?_)))))))
 refine oJ 5 (fun tm0 => (upd (upd tm0 7 (.bool false)) 25 (.bool (y1.2 && (decide (y1.1.fA ≤ cap4)))))) (fun tm0 => ?_) (fun key => ?_)
 ·refine oY rfl (yAB rfl) (oN (eT (am ?_)))
  obtain rfl:=sI h
  exact al (.inl rfl) rfl (rVt (v:=.bool (y1.2 && (decide (y1.1.fA ≤ cap4)))) rfl) (fun W2 hW2 => ⟨rfl,hW2.none⟩)
 ·rcases ao y1.2 with hp12 | hp12
  ·refine oY (sT rfl rfl rfl rfl hp12) (yFA ly rfl) (oY (sT rfl rfl rfl rfl hp12) (yL 1 aV rfl rfl rfl) (oY (sT rfl rfl rfl rfl hp12) (yR (A:=(some ⟨bc4,0,none⟩)) (j:=0) (v:=vI cap4) aV (RdL.arg hcap4) rfl rfl) (oY (sT rfl rfl rfl rfl hp12) (jw rfl rfl) (oY rfl (ab (vB hp12) rfl) ?_))))
   exact key _ _ (keep (keep rfl rfl) (vB (fc hp12)))
  ·refine oSk (sF rfl rfl rfl rfl hp12) (oSk (sF rfl rfl rfl rfl hp12) (oSk (sF rfl rfl rfl rfl hp12) (oSk (sF rfl rfl rfl rfl hp12) (oY rfl (ad (vB hp12) rfl) ?_))))
   exact key _ _ (keep (keep rfl rfl) (vB (fa hp12)))
theorem lh (p0:TR) (p1:Int) (p2:Int) (p3:Int) (p4:Int) (res:(Int × Int)) (h:ei p0 p1 p2 p3 p4 = some res) (W:World) (Ab:Option Addr) (n0_1 cb : Nat) (ys0_1:List (Hd × TT)) (hn0_1:n0_1 = p0.fTracks.length) (hr0_1:Rd W Ab n0_1 cb (encL TTrack_cells2 ys0_1)) (hN0_1:NestW W (fun z : TT => z.fK) TSpan_cells ys0_1 p0.fTracks) :
  Calls Tryz.prog 19 [.agg #[vI p0.fPlaces,.slice Ab n0_1 cb],vI p1,vI p2,vI p3,vI p4].toArray W fun e W2 => e = .returned (.tuple #[vI res.1,vI res.2]) ∧ Ext W W2 []:=by
 subst hn0_1
 unfold ei at h
 refine ae (m:=45) Tryz.func19 rfl rfl (nB rfl) (cS (cR ?_))
 refine aW [vI p0.fPlaces,.slice Ab p0.fTracks.length cb] rfl rfl rfl (fun b1 => ?_)
 refine aW [vI p1] rfl rfl rfl (fun b2 => ?_)
 refine aW [vI p2] rfl rfl rfl (fun b3 => ?_)
 refine aW [vI p3] rfl rfl rfl (fun b4 => ?_)
 refine aW [vI p4] rfl rfl rfl (fun b5 => ?_)
 refine oY rfl (yAI rfl) (oY rfl (yAI rfl) (oN (eT (cS (cS (cR (oY rfl (yN 0 [vI p0.fPlaces,.slice Ab p0.fTracks.length cb] dM rfl rfl rfl) (oY rfl (yL 1 aV rfl rfl rfl) (oY rfl (yL 2 aV rfl rfl rfl) (oY rfl (yL 3 aV rfl rfl rfl) (oY rfl (yL 4 aV rfl rfl rfl) ?_)))))))))))
 obtain ⟨y6,hy7,h⟩:=bOs h
 refine oY rfl (yC [.agg #[vI p0.fPlaces,.slice Ab p0.fTracks.length cb],vI p1,vI p2,vI p3,vI p4] go_70 rfl (fun W2 hW2 => ij p0 p1 p2 p3 p4 y6 hy7 W2 Ab p0.fTracks.length cb ys0_1 rfl ((RdL.arg hr0_1) W2 hW2) (NestL.at (NestL.arg hN0_1) W2 hW2)) rfl) (oY rfl (yAI rfl) (oN (eT (cS (cR (oY rfl (yMI rfl) (oY rfl (dl rfl rfl) (oN (eT ?_)))))))))
 rcases iOs h with ⟨hp8,h⟩ | ⟨hp8,h⟩
 ·refine cT (vB hp8) (cS (cR (oY rfl (yMI rfl) (oY rfl (yAI rfl) (oY rfl (yAI rfl) (oN (eT (am (aa ?_)))))))))
  obtain rfl:=sI h
  exact bI (.inl rfl) rfl (rVt (v:=vI 0) rfl) (rVt (v:=vI y6) rfl) (fun W2 hW2 => ⟨rfl,hW2.none⟩)
 ·refine cF (vB hp8) (cK (eT (cS (cR (oY rfl (ct [.pointer (some ⟨b1,0,none⟩),.pointer (some ⟨b2,0,none⟩),.pointer (some ⟨b3,0,none⟩),.pointer (some ⟨b5,0,none⟩),.pointer (some ⟨b4,0,none⟩)] rfl rfl) (oY rfl (eV rfl) (oN (eT (cS ?_)))))))))
  refine bh 3 cD (by kernel_rfl) (by kernel_rfl) ?_
  refine qY rfl (yL 3 aV rfl rfl rfl) (qY rfl (yAI rfl) (qY rfl (yAI rfl) (cd (oN (eT (cS (cB ?_)))))))
  obtain ⟨u11,hl16,h⟩:=bOs h
  refine ba (fun (s:(Int × Int)) L tm => ∃ (tm0:Nat → Value),L = [ai b1 24 [vI p0.fPlaces,.slice Ab p0.fTracks.length cb],ai b2 3 [vI p1],ai b3 3 [vI p2],ai b4 3 [vI p3],ai b5 3 [vI p4]] ∧ tm = (upd (upd (upd (upd (upd tm0 10 (vI 0)) 11 (vI 0)) 13 (.func (.func 72) #[] #[.pointer (some ⟨b1,0,none⟩),.pointer (some ⟨b2,0,none⟩),.pointer (some ⟨b3,0,none⟩),.pointer (some ⟨b5,0,none⟩),.pointer (some ⟨b4,0,none⟩)])) 14 (vI s.1)) 15 (vI s.2))) 0 hl16 ⟨_,rfl,(kp4 (kp rfl))⟩ ?_ ?_
  ·rintro s10 L tm st ⟨tm0_s10,rfl,rfl⟩ h
   unfold gD at h
   refine cS (cS (cR (oY rfl (yMI rfl) (oY rfl (yMI rfl) (oY rfl (jw rfl rfl) (oN (eT ?_)))))))
   rcases iOs h with ⟨hp12,h⟩ | ⟨hp12,h⟩
   ·refine cT (vB hp12) (cK (eT (cB (cS (cR (oY rfl (yMI rfl) (oY rfl (yMI rfl) (oY rfl (aT rfl rfl) ?_))))))))
    refine oY rfl (y_quo (by decide) rfl rfl) ?_
    refine oY rfl (yAI rfl) (oN (eT (cS (cR (oY rfl (di rfl) (oY rfl (yMI rfl) ?_))))))
    obtain ⟨y13,hy14,h⟩:=bOs h
    refine oY rfl (nR (caps:=[.pointer (some ⟨b1,0,none⟩),.pointer (some ⟨b2,0,none⟩),.pointer (some ⟨b3,0,none⟩),.pointer (some ⟨b5,0,none⟩),.pointer (some ⟨b4,0,none⟩)]) [vI (w64 (Int.tdiv (w64 (s10.1 + s10.2)) 2))] go_72 rfl rfl (fun W2 hW2 => mX (w64 (Int.tdiv (w64 (s10.1 + s10.2)) 2)) p0 p1 p2 p4 p3 y13 hy14 W2 b1 Ab p0.fTracks.length cb ys0_1 rfl ((RdL.arg hr0_1) W2 hW2) (NestL.at (NestL.arg hN0_1) W2 hW2) ((RdL.cells 0 rfl) W2 hW2) b2 ((RdL.cells 1 rfl) W2 hW2) b3 ((RdL.cells 2 rfl) W2 hW2) b5 ((RdL.cells 4 rfl) W2 hW2) b4 ((RdL.cells 3 rfl) W2 hW2))) (oN (eT ?_))
    rcases iOs h with ⟨hp15,h⟩ | ⟨hp15,h⟩
    ·refine cT (vB hp15) (cR (oY rfl (yMI rfl) (oY rfl (aT rfl rfl) (oY rfl (yAI rfl) (oN (aw ?_))))))
     obtain rfl:=sI h
     exact eN ⟨_,rfl,(kp4 (kp rfl))⟩
    ·refine cF (vB hp15) (cR (oY rfl (yMI rfl) (oY rfl (eH rfl rfl) (oY rfl (yAI rfl) (oN (aw ?_))))))
     obtain rfl:=sI h
     exact eN ⟨_,rfl,(kp4 (kp rfl))⟩
   ·refine cF (vB hp12) (aH (ag ?_))
    obtain rfl:=sI h
    exact ax ⟨rfl,_,rfl,(kp4 (kp rfl))⟩
  ·intro e L tm hJ
   obtain ⟨rfl,tm0_u11,rfl,rfl⟩:=hJ
   refine ⟨(by intro hc; cases hc),?_⟩
   refine ac (eT (cS (cS (cR (oY rfl (yMI rfl) (oY rfl (bj rfl rfl) (oN (eT ?_))))))))
   rcases iOs h with ⟨hp17,h⟩ | ⟨hp17,h⟩
   ·refine cT (vB hp17) (cS (cR (oY rfl (yAI rfl) (oY rfl (yAI rfl) (oN (eT (am (aa ?_))))))))
    obtain rfl:=sI h
    exact bI (.inl rfl) rfl (rVt (v:=vI 0) rfl) (rVt (v:=vI 5) rfl) (fun W2 hW2 => ⟨rfl,hW2.none⟩)
   ·refine cF (vB hp17) (cK (eT (cS (cR (oY rfl (yMI rfl) (oY rfl (yAI rfl) (oY rfl (yAI rfl) (oN (eT (am ?_))))))))))
    obtain rfl:=sI h
    exact bI (.inl rfl) rfl (rVt (v:=vI u11.2) rfl) (rVt (v:=vI 0) rfl) (fun W2 hW2 => ⟨rfl,hW2.none⟩)
theorem ib (p0:(List TT)) (p1:Int) (p2:Int) (res:(List TT)) (h:cf p0 p1 p2 = some res) (W:World) (w0:World) (R:Res) (Aa:Option Addr) (n0_0 ca : Nat) (ys0_0:List (Hd × TT)) (hn0_0:n0_0 = p0.length) (hP0_0:NestP (fun z : TT => z.fK) ys0_0 p0) (hv0_0:PvL (fun z : TT => z.fK) TSpan_cells w0 (fun W4 => Res.holds R W4) ys0_0) (hW:Ext w0 W [R,aL Aa ca 120 6 n0_0 (encL TTrack_cells2 ys0_0)]) :
  Calls Tryz.prog 79 [.slice Aa n0_0 ca,vI p1,vI p2].toArray W fun e W2 => ∃ x : Nat × List (Hd × TT),(x.1 = res.length ∧ NestP (fun z : TT => z.fK) x.2 res ∧ ∀ y ∈ x.2,y ∈ ys0_0) ∧ e = .returned (.slice Aa x.1 ca) ∧ Ext w0 W2 [R,aL Aa ca 120 6 x.1 (encL TTrack_cells2 x.2)]:=by
 subst hn0_0
 unfold cf at h
 refine a8 (m:=33) Tryz.func79 rfl rfl (nB rfl) hW (cS (cR (oY rfl (yAS rfl) (oN (eT (cS (cR (oY rfl (yMS rfl) (oY rfl (yMI rfl) (oY rfl (yMI rfl) (oY rfl (yMS rfl) (oY rfl (bp (us:=[]) gF rfl) ?_))))))))))))
 obtain ⟨hg1,h⟩:=gOs h
 refine oY rfl (y_cut3 jP hg1.1 hg1.2.1 hg1.2.2.1 hg1.2.2.2 (RdL.row 1 rfl) rfl rfl rfl rfl) (oN (eT (cS (cS (cR (oY rfl (yMI rfl) (oY rfl (yMI rfl) (oY rfl (da rfl rfl) (oN (eT ?_))))))))))
 rcases iOs h with ⟨hp2,h⟩ | ⟨hp2,h⟩
 ·refine cT (vB hp2) (cS (cR (oY rfl (yMS rfl) (oY rfl (yAS rfl) (oN (eT (am (aa ?_))))))))
  obtain rfl:=sI h
  exact al (.inl rfl) rfl (rVt (v:=.slice Aa p0.length ca) rfl) (fun W2 hW2 => ⟨(p0.length,ys0_0),⟨rfl,hP0_0,(fun y hy => hy)⟩,rfl,hW2.take 2⟩)
 ·refine cF (vB hp2) (cK (eT (cS (cR (oY rfl (yMS rfl) (oY rfl (bp (us:=[]) gF rfl) (oY rfl (yAI rfl) (oN (eT (cS ?_))))))))))
  refine bh 6 cD (by kernel_rfl) (by kernel_rfl) ?_
  refine qY rfl (yMS rfl) (qY rfl (yMI rfl) ?_)
  obtain ⟨hg3,h⟩:=gOs h
  refine qY rfl (o9 jP hg3.1 hg3.2 (RdL.row 1 rfl) rfl rfl) (qY rfl (yMS rfl) (qY rfl (yMI rfl) ?_))
  obtain ⟨hg4,h⟩:=gOs h
  refine qY rfl (qS jP hg4.1 hg4.2 (RdL.row 1 rfl) rfl rfl) (cd ?_)
  obtain ⟨hg5,h⟩:=gOs h
  refine mP 1 au eU gF gp og rfl (NestP.hn hP0_0 rfl) hg3.1 hg5 hg4.2 rfl rfl rfl (oY rfl (yAS rfl) (oN (eT (cS (cR (oY rfl (yMS rfl) (oY rfl (yMS rfl) (oY rfl (bp (us:=[]) gF rfl) (oY rfl (yMI rfl) ?_)))))))))
  refine oY rfl (y_cutO jP (by omega) (by have h8:=(lZ hg3.1 hg5 hg4.2); omega) (by have h9:=(eO (hW.mem (i:=1) rfl)).cap; omega) rfl rfl rfl) ?_
  refine cr rfl (rK 1 gF gp rfl (by decide) rfl rfl (by have h8:=(lZ hg3.1 hg5 hg4.2); have h9:=(eO (hW.mem (i:=1) rfl)).cap; simp only [Int.toNat_natCast]; omega) rfl) ?_
  refine oN (eT (cS (cR (oY rfl (yMS rfl) (oY rfl (yAS rfl) (oN (eT (am ?_))))))))
  obtain rfl:=sI h
  exact al (.inl rfl) rfl (rVt (v:=.slice Aa (Int.toNat p1 + (p0.length - Int.toNat p2)) ca) rfl) (fun W2 hW2 => ⟨((Int.toNat p1 + (p0.length - Int.toNat p2)),(ys0_0.take (Int.toNat p1) ++ ys0_0.drop (Int.toNat p2))),⟨(pb hg3.1 hg5 hg4.2 rfl),(NestP.app (NestP.take _ hP0_0) (NestP.drop _ hP0_0)),(fun y hy => (fun y hy => hy) y (sR y hy))⟩,rfl,hW2.take 2⟩)
theorem iz (p0:(List TT)) (res:(List TT)) (h:bA p0 = some res) (W:World) (Aa:Option Addr) (n0_0 ca : Nat) (ys0_0:List (Hd × TT)) (hn0_0:n0_0 = p0.length) (hr0_0:Rd W Aa n0_0 ca (encL TTrack_cells2 ys0_0)) (hN0_0:NestW W (fun z : TT => z.fK) TSpan_cells ys0_0 p0) :
  Calls Tryz.prog 80 [.slice Aa n0_0 ca].toArray W fun e W2 => ∃ x : (Option Addr × Nat × Nat),(x.2.1 = res.length ∧ NestP (fun z : TT => z.fK) ys0_0 res) ∧ e = .returned (.slice x.1 x.2.1 x.2.2) ∧ Ext W W2 [aL x.1 x.2.2 120 6 x.2.1 (encL TTrack_cells2 ys0_0)]:=by
 subst hn0_0
 unfold bA at h
 refine ae (m:=8) Tryz.func80 rfl rfl (nB rfl) (cS (cR (oY rfl (yAS rfl) (oN (eT (cS (cS (cR (oY rfl (yMS rfl) (oY rfl (qe gF rfl rfl) (oN (eT ?_))))))))))))
 rcases ao (Option.isNone Aa) with hp1 | hp1
 ·refine cT (vB hp1) ?_
  have z6:=pO (Option.isNone_iff_eq_none.1 hp1 ▸ hr0_0) au (by decide)
  replace h:=(gOs h).2
  subst z6
  have z2 : p0 = []:=hN0_0.p.eq.symm
  subst z2
  refine cS (cR (oY rfl (yAS rfl) (oN (eT (am (aa ?_))))))
  obtain rfl:=sI h
  exact al (.inl rfl) rfl (rVt (v:=.slice none 0 0) rfl) (fun W2 hW2 => ⟨(none,0,0),⟨rfl,NestP.nil⟩,rfl,(hW2.nilrow 120 6).pickL [0] (by decide) rfl⟩)
 ·refine cF (vB hp1) (cK (eT (cS (cR ?_))))
  refine dZ TTrack_cells2 gF gp og rfl (fun b2 => ?_)
  refine oY rfl (yMS rfl) ?_
  obtain ⟨hg5,h⟩:=gOs h
  refine bE 0 gF gp og rfl rfl rfl (RdL.arg hr0_0) (eL au (NestP.hn hN0_0.p rfl)) (cv eU _) (cA hg5 (by decide)) rfl (fun A3 c4 => ?_)
  refine oY rfl (yAS rfl) (oN (eT (am ?_)))
  obtain rfl:=sI h
  exact al (.inl rfl) rfl (rVt (v:=.slice A3 (0 + p0.length) c4) rfl) (fun W2 hW2 => ⟨(A3,(0 + p0.length),c4),⟨(gb rfl rfl),(NestP.app NestP.nil hN0_0.p)⟩,rfl,hW2.pickL [0] (by decide) rfl⟩)
theorem iw {p : List TT} {res : List TT} {ys : List (Hd × TT)} {sel : TT → List TSpan} (h:bA p = some res) (hN:NestP sel ys p) : NestP sel ys res:=by
 unfold bA at h
 have h2:=Option.some.inj (gOs h).2
 rw [lna] at h2
 exact h2 ▸ hN
theorem fm (p0:Int) (res:Bool) (h:dP p0 = some res) (W:World)  :
  Calls Tryz.prog 176 [vI p0].toArray W fun e W2 => e = .returned (.bool res) ∧ Ext W W2 []:=by
 unfold dP at h
 refine ae (m:=6) Tryz.func176 rfl rfl (nB rfl) (cS (cR (oY rfl (yAB rfl) (oN (eT (cS (cR (oY rfl (yMI rfl) (oY rfl (yMI rfl) (oY rfl (dl rfl rfl) (oY rfl (yAB rfl) (oN (eT (am ?_))))))))))))))
 obtain rfl:=sI h
 exact al (.inl rfl) rfl (rVt (v:=.bool (p0 != p0)) rfl) (fun W2 hW2 => ⟨rfl,hW2.none⟩)
theorem oe (p0:Int) (p1:Int) (res:Bool) (h:gJ p0 p1 = some res) (W:World)  :
  Calls Tryz.prog 168 [vI p0,vI p1].toArray W fun e W2 => e = .returned (.bool res) ∧ Ext W W2 []:=by
 unfold gJ at h
 refine ae (m:=17) Tryz.func168 rfl rfl (nB rfl) (cS (cR (oY rfl (yAB rfl) (oN (eT (cS (cR (oY rfl (yMI rfl) ?_))))))))
 obtain ⟨y1,hy2,h⟩:=bOs h
 refine oY rfl (yC [vI p0] sh rfl (fun W2 hW2 => fm p0 y1 hy2 W2 ) rfl) (oY rfl (yMB rfl) ?_)
 obtain ⟨b4,hb5,h⟩:=bOs h
 refine oJ 4 (fun tm0 => (upd (upd (upd (upd tm0 0 (vI p0)) 1 (vI p1)) 4 (.bool false)) 11 (.bool b4))) (fun tm0 => ?_) (fun key => ?_)
 ·refine oY rfl (yMB rfl) ?_
  refine oJ 4 (fun tm0 => (upd (upd tm0 4 (.bool false)) 16 (.bool (b4 || (decide (p0 < p1)))))) (fun tm0 => ?_) (fun key => ?_)
  ·refine oY rfl (yAB rfl) (oN (eT (am ?_)))
   obtain rfl:=sI h
   exact al (.inl rfl) rfl (rVt (v:=.bool (b4 || (decide (p0 < p1)))) rfl) (fun W2 hW2 => ⟨rfl,hW2.none⟩)
  ·rcases ao b4 with hp6 | hp6
   ·refine oSk (sF rfl rfl rfl rfl hp6) (oSk (sF rfl rfl rfl rfl hp6) (oSk (sF rfl rfl rfl rfl hp6) (oY rfl (ab (vB hp6) rfl) ?_)))
    exact key _ _ (keep (keep rfl rfl) (vB (jf hp6)))
   ·refine oY (sT rfl rfl rfl rfl hp6) (yMI rfl) (oY (sT rfl rfl rfl rfl hp6) (yMI rfl) (oY (sT rfl rfl rfl rfl hp6) (bj rfl rfl) (oY rfl (ad (vB hp6) rfl) ?_)))
    exact key _ _ (keep (keep rfl rfl) (vB (jg hp6)))
 ·clear h; rcases iOs hb5 with ⟨hp3,h⟩ | ⟨hp3,h⟩
  ·refine oY (sT rfl rfl rfl rfl hp3) (yMI rfl) ?_
   obtain ⟨y7,hy8,h⟩:=bOs h
   refine oY (sT rfl rfl rfl rfl hp3) (yC [vI p1] sh rfl (fun W2 hW2 => fm p1 y7 hy8 W2 ) rfl) (oY (sT rfl rfl rfl rfl hp3) (bQ rfl) (oY rfl (ab (vB hp3) rfl) ?_))
   obtain rfl:=sI h
   exact key _ _ (kp4 rfl)
  ·refine oSk (sF rfl rfl rfl rfl hp3) (oSk (sF rfl rfl rfl rfl hp3) (oSk (sF rfl rfl rfl rfl hp3) (oY rfl (ad (vB hp3) rfl) ?_)))
   obtain rfl:=sI h
   exact key _ _ (kp4 rfl)
end Go.Proofs.YthndghnkebboaaaGreat
set_option maxHeartbeats 4000000
set_option maxRecDepth 100000
namespace Go.Proofs.YthndghnkebboaaaGreat
open Go.RowKit (Below)
attribute [local irreducible] OX QX CX EX OpY Calls CallsIn
theorem fY (p0:(List Int)) (p1:Int) (p2:Int) (res:(List Int)) (h:bm p0 p1 p2 = some res) (W:World) (w0:World) (R:Res) (Aa:Option Addr) (n0_0 ca : Nat) (hn0_0:n0_0 = p0.length) (hW:Ext w0 W [R,aL Aa ca 3 1 n0_0 (encL cI p0)]) :
  Calls Tryz.prog 162 [.slice Aa n0_0 ca,vI p1,vI p2].toArray W fun e W2 => e = .returned (.tuple #[]) ∧ n0_0 = res.length ∧ Ext w0 W2 [R,aL Aa ca 3 1 n0_0 (encL cI res)]:=by
 subst hn0_0
 unfold bm at h
 refine a8 (m:=49) Tryz.func162 rfl rfl (nB rfl) hW (cS (cR (oY rfl (yMI rfl) (oY rfl (aT rfl rfl) (oY rfl (yAI rfl) (oN (eT (cB ?_))))))))
 obtain ⟨u4,hl24,h⟩:=bOs h
 refine ba (fun (s:(Int × (List Int))) L tm => ∃ (tm0:Nat → Value),p0.length = s.2.length ∧ L = [R,aL Aa ca 3 1 p0.length (encL cI s.2)] ∧ tm = (upd (upd (upd (upd tm0 0 (.slice Aa p0.length ca)) 1 (vI p1)) 2 (vI p2)) 6 (vI s.1))) 0 hl24 ⟨_,rfl,rfl,(kp4 rfl)⟩ ?_ ?_
 ·rintro s3 L tm st ⟨tm0_s3,hn1_s3,rfl,rfl⟩ h
  unfold aI at h
  refine cS (cS (cR (oY rfl (yMI rfl) (oY rfl (yMI rfl) (oY rfl (bj rfl rfl) (oN (eT ?_)))))))
  rcases iOs h with ⟨hp5,h⟩ | ⟨hp5,h⟩
  ·refine cT (vB hp5) (cK (eT (cS (cB (cS (cR (oY rfl (yMI rfl) (oY rfl (yAI rfl) (oN (eT (cB ?_)))))))))))
   obtain ⟨u9,hl23,h⟩:=bOs h
   refine ba (fun (s:(Int × (List Int))) L tm => ∃ (tm0:Nat → Value),p0.length = s.2.length ∧ L = [R,aL Aa ca 3 1 p0.length (encL cI s.2)] ∧ tm = (upd (upd (upd (upd (upd (upd tm0 0 (.slice Aa p0.length ca)) 1 (vI p1)) 2 (vI p2)) 6 (vI s3.1)) 12 (.bool (decide (s3.1 < p2)))) 7 (vI s.1))) 2 hl23 ⟨_,hn1_s3,rfl,(kp4 (kp (kp rfl)))⟩ ?_ ?_
   ·rintro s8 L tm st ⟨tm0_s8,hn1_s8,rfl,rfl⟩ h
    unfold aX at h
    refine cS (cS ?_)
    refine bh 15 cD (by kernel_rfl) (by kernel_rfl) ?_
    refine qY rfl (yMI rfl) (qY rfl (yMI rfl) (qY rfl (gK rfl rfl) (qY rfl (yMB rfl) ?_)))
    obtain ⟨b11,hb12,h⟩:=bOs h
    refine qJ 11 (fun tm0 => (upd (upd (upd (upd (upd (upd (upd tm0 0 (.slice Aa p0.length ca)) 1 (vI p1)) 2 (vI p2)) 6 (vI s3.1)) 12 (.bool (decide (s3.1 < p2)))) 7 (vI s8.1)) 30 (.bool b11))) (fun tm0 => ?_) (fun key => ?_)
    ·refine cd (oN (eT ?_))
     rcases iOs h with ⟨hp13,h⟩ | ⟨hp13,h⟩
     ·refine cT (vB hp13) (cK (eT (cS (cB ?_))))
      obtain ⟨hg15,h⟩:=gOs h
      obtain ⟨hg16,h⟩:=gOs h
      obtain ⟨hg17,h⟩:=gOs h
      obtain ⟨hg18,h⟩:=gOs h
      refine eF [[],[],[],[],[3],[],[],[6],[5,6,7],[5,6,7,8],[],[],[10,11],[10,11,12],[0,1,5,6,7,8,9,10,11,12,13],[0,1,5,6,7,8,9,10,11,12,13,14],[0,1,2,3,4,5,6,7,8,9,10,11,12,13,14,15],[0,1,2,3,4,5,6,7,8,9,10,11,12,13,14,15,16]] [(none,0,[true,true]),(none,0,[true,true]),(none,0,[true,false]),(none,0,[true,false]),(none,0,[true,false]),(none,0,[true,true]),(none,0,[true,true]),(none,0,[true,true]),(none,0,[true,true]),(none,0,[true,true]),(none,0,[true,true]),(none,0,[true,true]),(none,0,[true,true]),(none,0,[true,true]),(none,0,[true,true]),(some 1,0,[true,true]),(none,0,[true,true]),(some 1,0,[true,true])] [⟨fun _ => .slice Aa p0.length ca,fun _ => noR,fun _ => []⟩,⟨fun _ => vI s8.1,fun _ => noR,fun _ => []⟩,⟨fun _ => .slice Aa p0.length ca,fun _ => noR,fun _ => []⟩,⟨fun _ => vI s8.1,fun _ => noR,fun _ => []⟩,⟨fun _ => vI (w64 (s8.1 - 1)),fun _ => noR,fun _ => []⟩,⟨fun _ => .slice Aa p0.length ca,fun _ => noR,fun _ => []⟩,⟨fun _ => vI s8.1,fun _ => noR,fun _ => []⟩,⟨fun _ => vI (w64 (s8.1 - 1)),fun _ => noR,fun _ => []⟩,⟨fun _ => slA Aa (Int.toNat (w64 (s8.1 - 1)) * 1),fun _ => noR,fun _ => []⟩,⟨fun _ => vI (rdL s8.2 (w64 (s8.1 - 1))),fun _ => noR,fun _ => []⟩,⟨fun _ => .slice Aa p0.length ca,fun _ => noR,fun _ => []⟩,⟨fun _ => vI s8.1,fun _ => noR,fun _ => []⟩,⟨fun _ => slA Aa (Int.toNat s8.1 * 1),fun _ => noR,fun _ => []⟩,⟨fun _ => vI (rdL s8.2 s8.1),fun _ => noR,fun _ => []⟩,⟨fun _ => slA Aa (Int.toNat s8.1 * 1),fun _ => noR,fun _ => []⟩,⟨fun _ => undef,fun _ => aL Aa ca 3 1 p0.length (encL cI (s8.2.set (Int.toNat s8.1) (rdL s8.2 (w64 (s8.1 - 1))))),fun _ => []⟩,⟨fun _ => slA Aa (Int.toNat (w64 (s8.1 - 1)) * 1),fun _ => noR,fun _ => []⟩,⟨fun _ => undef,fun _ => aL Aa ca 3 1 p0.length (encL cI ((s8.2.set (Int.toNat s8.1) (rdL s8.2 (w64 (s8.1 - 1)))).set (Int.toNat (w64 (s8.1 - 1))) (rdL s8.2 s8.1))),fun _ => []⟩] 2 cD (by kernel_rfl) (by kernel_rfl) ⟨⟨fun ξ14 ξ14' h => ⟨rfl,rfl,rfl⟩,fun _ => rfl⟩,⟨fun ξ14 ξ14' h => ⟨rfl,rfl,rfl⟩,fun _ => rfl⟩,⟨fun ξ14 ξ14' h => ⟨rfl,rfl,rfl⟩,fun _ => rfl⟩,⟨fun ξ14 ξ14' h => ⟨rfl,rfl,rfl⟩,fun _ => rfl⟩,⟨fun ξ14 ξ14' h => ⟨rfl,rfl,rfl⟩,fun _ => rfl⟩,⟨fun ξ14 ξ14' h => ⟨rfl,rfl,rfl⟩,fun _ => rfl⟩,⟨fun ξ14 ξ14' h => ⟨rfl,rfl,rfl⟩,fun _ => rfl⟩,⟨fun ξ14 ξ14' h => ⟨rfl,rfl,rfl⟩,fun _ => rfl⟩,⟨fun ξ14 ξ14' h => ⟨rfl,rfl,rfl⟩,fun _ => rfl⟩,⟨fun ξ14 ξ14' h => ⟨rfl,rfl,rfl⟩,fun _ => rfl⟩,⟨fun ξ14 ξ14' h => ⟨rfl,rfl,rfl⟩,fun _ => rfl⟩,⟨fun ξ14 ξ14' h => ⟨rfl,rfl,rfl⟩,fun _ => rfl⟩,⟨fun ξ14 ξ14' h => ⟨rfl,rfl,rfl⟩,fun _ => rfl⟩,⟨fun ξ14 ξ14' h => ⟨rfl,rfl,rfl⟩,fun _ => rfl⟩,⟨fun ξ14 ξ14' h => ⟨rfl,rfl,rfl⟩,fun _ => rfl⟩,⟨fun ξ14 ξ14' h => ⟨rfl,rfl,rfl⟩,fun _ => rfl⟩,⟨fun ξ14 ξ14' h => ⟨rfl,rfl,rfl⟩,fun _ => rfl⟩,⟨fun ξ14 ξ14' h => ⟨rfl,rfl,rfl⟩,fun _ => rfl⟩,trivial⟩ rfl (fun ξ14 => ?_)
      refine bN rfl (fun L2 => ?_) ?_
      ·dsimp only [aF,lca,lna]
       refine oY rfl (yMS rfl) (oN ?_)
       exact ap (fun _ => (none,0,0,[],noR)) rfl (List.append_nil _)
      dsimp only [bx,lsz,lss,lna,lca,List.append_nil]
      refine bN rfl (fun L2 => ?_) ?_
      ·dsimp only [aF,lca,lna]
       refine oY rfl (yMI rfl) (oN ?_)
       exact ap (fun _ => (none,0,0,[],noR)) rfl (List.append_nil _)
      dsimp only [bx,lsz,lss,lna,lca,List.append_nil]
      refine bN rfl (fun L2 => ?_) ?_
      ·dsimp only [aF,lca,lna]
       refine oY rfl (yMS rfl) (oN ?_)
       exact ap (fun _ => (none,0,0,[],noR)) rfl (List.append_nil _)
      dsimp only [bx,lsz,lss,lna,lca,List.append_nil]
      refine bN rfl (fun L2 => ?_) ?_
      ·dsimp only [aF,lca,lna]
       refine oY rfl (yMI rfl) (oN ?_)
       exact ap (fun _ => (none,0,0,[],noR)) rfl (List.append_nil _)
      dsimp only [bx,lsz,lss,lna,lca,List.append_nil]
      refine bN rfl (fun L2 => ?_) ?_
      ·dsimp only [aF,lca,lna]
       refine oY rfl (eH rfl rfl) (oN ?_)
       exact ap (fun _ => (none,0,0,[],noR)) rfl (List.append_nil _)
      dsimp only [bx,lsz,lss,lna,lca,List.append_nil]
      refine bN rfl (fun L2 => ?_) ?_
      ·dsimp only [aF,lca,lna]
       refine oY rfl (yMS rfl) (oN ?_)
       exact ap (fun _ => (none,0,0,[],noR)) rfl (List.append_nil _)
      dsimp only [bx,lsz,lss,lna,lca,List.append_nil]
      refine bN rfl (fun L2 => ?_) ?_
      ·dsimp only [aF,lca,lna]
       refine oY rfl (yMI rfl) (oN ?_)
       exact ap (fun _ => (none,0,0,[],noR)) rfl (List.append_nil _)
      dsimp only [bx,lsz,lss,lna,lca,List.append_nil]
      refine bN rfl (fun L2 => ?_) ?_
      ·dsimp only [aF,lca,lna]
       refine oY rfl (eH rfl rfl) (oN ?_)
       exact ap (fun _ => (none,0,0,[],noR)) rfl (List.append_nil _)
      dsimp only [bx,lsz,lss,lna,lca,List.append_nil]
      refine bN rfl (fun L2 => ?_) ?_
      ·dsimp only [aF,lca,lna]
       refine oY rfl (yI bZ (by decide) hg15.1 hg15.2 (RdL.row 1 rfl) (eL aA hn1_s8) rfl rfl) ?_
       refine oN ?_
       exact ap (fun _ => (none,0,0,[],noR)) rfl (List.append_nil _)
      dsimp only [bx,lsz,lss,lna,lca,List.append_nil]
      refine bN rfl (fun L2 => ?_) ?_
      ·dsimp only [aF,lca,lna]
       refine oY rfl (yR (A:=Aa) (j:=(Int.toNat (w64 (s8.1 - 1)) * 1)) (v:=vI (rdL s8.2 (w64 (s8.1 - 1)))) aV (RdL.row 1 rfl) rfl (aC aA hg15.1 (ah hg15.2 hn1_s8) rfl)) (oN ?_)
       exact ap (fun _ => (none,0,0,[],noR)) rfl (List.append_nil _)
      dsimp only [bx,lsz,lss,lna,lca,List.append_nil]
      refine bN rfl (fun L2 => ?_) ?_
      ·dsimp only [aF,lca,lna]
       refine oY rfl (yMS rfl) (oN ?_)
       exact ap (fun _ => (none,0,0,[],noR)) rfl (List.append_nil _)
      dsimp only [bx,lsz,lss,lna,lca,List.append_nil]
      refine bN rfl (fun L2 => ?_) ?_
      ·dsimp only [aF,lca,lna]
       refine oY rfl (yMI rfl) (oN ?_)
       exact ap (fun _ => (none,0,0,[],noR)) rfl (List.append_nil _)
      dsimp only [bx,lsz,lss,lna,lca,List.append_nil]
      refine bN rfl (fun L2 => ?_) ?_
      ·dsimp only [aF,lca,lna]
       refine oY rfl (yI bZ (by decide) hg16.1 hg16.2 (RdL.row 1 rfl) (eL aA hn1_s8) rfl rfl) ?_
       refine oN ?_
       exact ap (fun _ => (none,0,0,[],noR)) rfl (List.append_nil _)
      dsimp only [bx,lsz,lss,lna,lca,List.append_nil]
      refine bN rfl (fun L2 => ?_) ?_
      ·dsimp only [aF,lca,lna]
       refine oY rfl (yR (A:=Aa) (j:=(Int.toNat s8.1 * 1)) (v:=vI (rdL s8.2 s8.1)) aV (RdL.row 1 rfl) rfl (aC aA hg16.1 (ah hg16.2 hn1_s8) rfl)) (oN ?_)
       exact ap (fun _ => (none,0,0,[],noR)) rfl (List.append_nil _)
      dsimp only [bx,lsz,lss,lna,lca,List.append_nil]
      refine bN rfl (fun L2 => ?_) ?_
      ·dsimp only [aF,lca,lna]
       refine oY rfl (yI bZ (by decide) hg17.1 hg17.2 (RdL.row 1 rfl) (eL aA hn1_s8) rfl rfl) ?_
       refine oN ?_
       exact ap (fun _ => (none,0,0,[],noR)) rfl (List.append_nil _)
      dsimp only [bx,lsz,lss,lna,lca,List.append_nil]
      refine tr rfl (fun L2 => ?_) ?_
      ·dsimp only [aF,lca,lna]
       refine cr rfl (gO 1 (xs:=s8.2) aA (rdL s8.2 (w64 (s8.1 - 1))) qk rfl hg17.1 (ah hg17.2 hn1_s8) rfl rfl rfl rfl) (oN ?_)
       first | exact bP (fun _ => (none,0,0,[],noR)) rfl | exact bP (fun _ => (none,0,0,[],noR)) (List.append_nil _)
      dsimp only [bx,lsz,lss,lna,lca,List.append_nil]
      refine bN rfl (fun L2 => ?_) ?_
      ·dsimp only [aF,lca,lna]
       refine oY rfl (yI bZ (by decide) hg18.1 hg18.2 (RdL.row 1 rfl) (eL aA (cP hn1_s8)) rfl rfl) ?_
       refine oN ?_
       exact ap (fun _ => (none,0,0,[],noR)) rfl (List.append_nil _)
      dsimp only [bx,lsz,lss,lna,lca,List.append_nil]
      refine tr rfl (fun L2 => ?_) ?_
      ·dsimp only [aF,lca,lna]
       refine cr rfl (gO 1 (xs:=(s8.2.set (Int.toNat s8.1) (rdL s8.2 (w64 (s8.1 - 1))))) aA (rdL s8.2 s8.1) qk rfl hg18.1 (ah hg18.2 (cP hn1_s8)) rfl rfl rfl rfl) (oN ?_)
       first | exact bP (fun _ => (none,0,0,[],noR)) rfl | exact bP (fun _ => (none,0,0,[],noR)) (List.append_nil _)
      dsimp only [bx,lsz,lss,lna,lca,List.append_nil]
      refine kx (aw (eT (cR (oY rfl (yMI rfl) (oY rfl (eH rfl rfl) (oY rfl (yAI rfl) (oN ?_)))))))
      obtain rfl:=sI h
      exact eN ⟨_,(cP (cP hn1_s8)),rfl,(kp4 (kp (kp rfl)))⟩
     ·refine cF (vB hp13) (aH (ag ?_))
      obtain rfl:=sI h
      exact ax ⟨rfl,_,hn1_s8,rfl,(kp4 (kp (kp rfl)))⟩
    ·clear h; rcases iOs hb12 with ⟨hp10,h⟩ | ⟨hp10,h⟩
     ·refine qY (sT rfl rfl rfl rfl hp10) (yMS rfl) (qY (sT rfl rfl rfl rfl hp10) (yMI rfl) ?_)
      obtain ⟨hg19,h⟩:=gOs h
      refine qY (sT rfl rfl rfl rfl hp10) (yI bZ (by decide) hg19.1 hg19.2 (RdL.row 1 rfl) (eL aA hn1_s8) rfl rfl) ?_
      refine qY (sT rfl rfl rfl rfl hp10) (yR (A:=Aa) (j:=(Int.toNat s8.1 * 1)) (v:=vI (rdL s8.2 s8.1)) aV (RdL.row 1 rfl) rfl (aC aA hg19.1 (ah hg19.2 hn1_s8) rfl)) (qY (sT rfl rfl rfl rfl hp10) (yMS rfl) (qY (sT rfl rfl rfl rfl hp10) (yMI rfl) (qY (sT rfl rfl rfl rfl hp10) (eH rfl rfl) ?_)))
      obtain ⟨hg20,h⟩:=gOs h
      refine qY (sT rfl rfl rfl rfl hp10) (yI bZ (by decide) hg20.1 hg20.2 (RdL.row 1 rfl) (eL aA hn1_s8) rfl rfl) ?_
      refine qY (sT rfl rfl rfl rfl hp10) (yR (A:=Aa) (j:=(Int.toNat (w64 (s8.1 - 1)) * 1)) (v:=vI (rdL s8.2 (w64 (s8.1 - 1)))) aV (RdL.row 1 rfl) rfl (aC aA hg20.1 (ah hg20.2 hn1_s8) rfl)) ?_
      obtain ⟨y21,hy22,h⟩:=bOs h
      refine qY (sT rfl rfl rfl rfl hp10) (yC [vI (rdL s8.2 s8.1),vI (rdL s8.2 (w64 (s8.1 - 1)))] go_168 rfl (fun W2 hW2 => oe (rdL s8.2 s8.1) (rdL s8.2 (w64 (s8.1 - 1))) y21 hy22 W2 ) rfl) (qY rfl (ab (vB hp10) rfl) ?_)
      obtain rfl:=sI h
      exact key _ _ (kp4 (kp (kp (kp rfl))))
     ·refine av (sF rfl rfl rfl rfl hp10) (av (sF rfl rfl rfl rfl hp10) (av (sF rfl rfl rfl rfl hp10) (av (sF rfl rfl rfl rfl hp10) (av (sF rfl rfl rfl rfl hp10) (av (sF rfl rfl rfl rfl hp10) (av (sF rfl rfl rfl rfl hp10) (av (sF rfl rfl rfl rfl hp10) (av (sF rfl rfl rfl rfl hp10) (av (sF rfl rfl rfl rfl hp10) (qY rfl (ad (vB hp10) rfl) ?_))))))))))
      obtain rfl:=sI h
      exact key _ _ (kp4 (kp (kp (kp rfl))))
   ·intro e L tm hJ
    obtain ⟨rfl,tm0_u9,hn1_u9,rfl,rfl⟩:=hJ
    refine ⟨(by intro hc; cases hc),?_⟩
    refine ac (aw (eT (cR (oY rfl (yMI rfl) (oY rfl (aT rfl rfl) (oY rfl (yAI rfl) (oN ?_)))))))
    obtain rfl:=sI h
    exact eN ⟨_,hn1_u9,rfl,(kp4 rfl)⟩
  ·refine cF (vB hp5) (aH (ag ?_))
   obtain rfl:=sI h
   exact ax ⟨rfl,_,hn1_s3,rfl,(kp4 rfl)⟩
 ·intro e L tm hJ
  obtain ⟨rfl,tm0_u4,hn1_u4,rfl,rfl⟩:=hJ
  refine ⟨(by intro hc; cases hc),?_⟩
  refine ac ?_
  obtain rfl:=sI h
  exact cH (.inr rfl) rfl  (fun W2 hW2 => ⟨rfl,hn1_u4,hW2.take 2⟩)
theorem mp {x : Int} (h:0 ≤ x ∧ x < 16) : x = 0 ∨ x = 1 ∨ x = 2 ∨ x = 3 ∨ x = 4 ∨ x = 5 ∨ x = 6 ∨ x = 7 ∨ x = 8 ∨ x = 9 ∨ x = 10 ∨ x = 11 ∨ x = 12 ∨ x = 13 ∨ x = 14 ∨ x = 15:=by omega
theorem lS (p0:Int) (res:Int) (h:f9 p0 = some res) (W:World) :
  Calls Tryz.prog 172 [.int .u64 p0].toArray W fun e W2 => e = .returned (vI res) ∧ Ext W W2 []:=by
 unfold f9 at h
 obtain ⟨hg,h⟩:=gOs h
 refine ae (m:=25) Tryz.func172 rfl rfl (nB rfl) ?_
 have h1 : decide ((4294967296:Int) ≤ p0) = false:=decide_eq_false (by omega)
 have h2 : decide ((65536:Int) ≤ p0) = false:=decide_eq_false (by omega)
 have h3 : decide ((256:Int) ≤ p0) = false:=decide_eq_false (by omega)
 refine cS (cR (oY rfl (yAI rfl) (oN (eT (cS (cS (cR (oY rfl (yMI rfl) (oY rfl (oR rfl rfl) (oN (eT (cF (vB h1) (cK (eT (cS (cS (cR (oY rfl (yMI rfl) (oY rfl (oR rfl rfl) (oN (eT (cF (vB h2) (cK (eT (cS (cS (cR (oY rfl (yMI rfl) (oY rfl (oR rfl rfl) (oN (eT (cF (vB h3) (cK (eT (cS (cR (oY rfl (yMI rfl) (oY rfl (yMI rfl) ?_))))))))))))))))))))))))))))))))))))))
 refine oY rfl (y_convQ (a':=p0) (q':=.u8) ui_220 ui_5 (by rcases mp hg with rfl | rfl | rfl | rfl | rfl | rfl | rfl | rfl | rfl | rfl | rfl | rfl | rfl | rfl | rfl | rfl <;> decide) rfl) ?_
 refine oY rfl (sO (b:=UInt8.ofNat (lenv p0).toNat) us_s9 hg.1 (by rcases mp hg with rfl | rfl | rfl | rfl | rfl | rfl | rfl | rfl | rfl | rfl | rfl | rfl | rfl | rfl | rfl | rfl <;> rfl) rfl rfl) ?_
 refine oY rfl (y_convQ (a':=lenv p0) (q':=.i64) ui_5 ui_3 (by rcases mp hg with rfl | rfl | rfl | rfl | rfl | rfl | rfl | rfl | rfl | rfl | rfl | rfl | rfl | rfl | rfl | rfl <;> decide) rfl) ?_
 refine oY rfl (aT rfl rfl) (oY rfl (yAI rfl) (oN (eT (am ?_))))
 obtain rfl:=sI h
 exact al (.inl rfl) rfl (rVt (v:=vI (w64 (0 + lenv p0))) rfl) (fun W2 hW2 => ⟨rfl,hW2.none⟩)
theorem mZ (p0:Int) (res:Int) (h:hU p0 = some res) (W:World)  :
  Calls Tryz.prog 129 [.int .u64 p0].toArray W fun e W2 => e = .returned (vI res) ∧ Ext W W2 []:=by
 unfold hU at h
 refine ae (m:=8) Tryz.func129 rfl rfl (nB rfl) (cS (cR (oY rfl (yAI rfl) (oN (eT (cS (cF rfl (cK (eT (cS (cR (oY rfl (yMI rfl) ?_))))))))))))
 obtain ⟨y1,hy2,h⟩:=bOs h
 refine oY rfl (yC [.int .u64 p0] go_172 rfl (fun W2 hW2 => lS p0 y1 hy2 W2 ) rfl) (oY rfl (yAI rfl) (oN (eT (am ?_))))
 obtain rfl:=sI h
 exact al (.inl rfl) rfl (rVt (v:=vI y1) rfl) (fun W2 hW2 => ⟨rfl,hW2.none⟩)
theorem ig (p0:(List Int)) (p1:Int) (p2:Int) (p3:Int) (res:(List Int)) (h:cg p0 p1 p2 p3 = some res) (W:World) (w0:World) (R:Res) (Aa:Option Addr) (n0_0 ca : Nat) (hn0_0:n0_0 = p0.length) (hW:Ext w0 W [R,aL Aa ca 3 1 n0_0 (encL cI p0)]) :
  Calls Tryz.prog 128 [.slice Aa n0_0 ca,vI p1,vI p2,vI p3].toArray W fun e W2 => e = .returned (.tuple #[]) ∧ n0_0 = res.length ∧ Ext w0 W2 [R,aL Aa ca 3 1 n0_0 (encL cI res)]:=by
 subst hn0_0
 unfold cg at h
 refine a8 (m:=134) Tryz.func128 rfl rfl (nB rfl) hW (cS (cR (oY rfl (yAB rfl) (oN (eT (cS (cR (oY rfl (yAB rfl) (oN (eT (cB ?_)))))))))))
 obtain ⟨u4,hl9,h⟩:=bOs h
 refine rE (fun (s:(Int × Int × Int × Bool × Bool × (List Int))) L tm => ∃ (tm0:Nat → Value),p0.length = s.2.2.2.2.2.length ∧ L = [R,aL Aa ca 3 1 p0.length (encL cI s.2.2.2.2.2)] ∧ tm = (upd (upd (upd (upd (upd (upd tm0 0 (.slice Aa p0.length ca)) 1 (vI s.1)) 2 (vI s.2.1)) 3 (vI s.2.2.1)) 8 (.bool s.2.2.2.1)) 9 (.bool s.2.2.2.2.1))) (fun s e L tm => e = .ret ∧ ∃ (tm0:Nat → Value),p0.length = s.2.2.2.2.2.length ∧ L = [R,aL Aa ca 3 1 p0.length (encL cI s.2.2.2.2.2)] ∧ tm = (upd (upd (upd (upd (upd (upd tm0 0 (.slice Aa p0.length ca)) 1 (vI s.1)) 2 (vI s.2.1)) 3 (vI s.2.2.1)) 8 (.bool s.2.2.2.1)) 9 (.bool s.2.2.2.2.1))) hl9 ⟨_,rfl,rfl,(kp4 (kp (kp rfl)))⟩ ?_ ?_
 ·rintro s3 L tm st ⟨tm0_s3,hn1_s3,rfl,rfl⟩ h
  unfold bO at h
  refine cB (cS (cR (oY rfl (yMI rfl) (oY rfl (yMI rfl) (oY rfl (eH rfl rfl) (oY rfl (yAI rfl) (oN (eT (cS (cS (cR (oY rfl (yMI rfl) (oY rfl (jw rfl rfl) (oN (eT ?_)))))))))))))))
  obtain ⟨hp5,h⟩:=gOs h
  refine cT (vB hp5) (cS (cR (oY rfl (yMS rfl) (oY rfl (yMI rfl) (oY rfl (yMI rfl) ?_)))))
  obtain ⟨y6,hy7,h⟩:=bOs h
  refine fu 1 [.slice Aa p0.length ca,vI s3.1,vI s3.2.1] (fun (_:Unit) => p0.length = y6.length) (fun _ => .tuple #[]) (fun _ => aL Aa ca 3 1 p0.length (encL cI y6)) (fun _ => []) rfl rfl go_162 rfl (fun W2 hW2 => (fY s3.2.2.2.2.2 s3.1 s3.2.1 y6 hy7 W2 _ (bB [R,aL Aa ca 3 1 p0.length (encL cI s3.2.2.2.2.2)] [1]) Aa p0.length ca (hn1_s3) hW2).mono (fun e W3 h3 => ⟨(),h3.2.1,h3.1,h3.2.2⟩)) ?_
  rintro - hn8
  try dsimp only [lsz,lss,List.append_nil]
  refine oN (eT (am (aa (ak ?_))))
  obtain rfl:=sI h
  exact ax ⟨rfl,_,hn8,rfl,(kp4 (kp (kp rfl)))⟩
 ·intro e L tm hJ
  obtain ⟨rfl,tm0_u4,hn1_u4,rfl,rfl⟩:=hJ
  refine ⟨(by intro hc; cases hc),?_⟩
  refine ak ?_
  obtain rfl:=sI h
  exact cH (.inl rfl) rfl  (fun W2 hW2 => ⟨rfl,hn1_u4,hW2.take 2⟩)
theorem insO_l2 {n : Nat} {data0 : List Int} (h0:data0.length = n) (hn:n < 1000000) (x:Int) :
  ∀ (k:Nat) (A1 T : List Int),A1.length = k → A1.length + 1 + T.length = n → ∃ B1 B2 : List Int,A1 = B1 ++ B2 ∧ aM (aX data0 0) ((A1.length:Int),A1 ++ x :: T) = some ((B1.length:Int),B1 ++ x :: (B2 ++ T)) ∧ (∀ y ∈ B2,x < y) ∧ (∀ y,B1.getLast? = some y → ¬ x < y):=by
 intro k
 induction k with
 | zero =>
  intro A1 T hk hl
  have : A1 = []:=List.eq_nil_of_length_eq_zero hk
  subst this
  refine ⟨[],[],rfl,?_,by simp,by simp⟩
  refine dY ?_
  unfold aX; dsimp only
  rfl
 | succ k ih =>
  intro A1 T hk hl
  obtain ⟨A,y,rfl⟩ : ∃ A y,A1 = A ++ [y]:=⟨A1.dropLast,A1.getLast (by intro h; rw [h] at hk; cases hk),(List.dropLast_concat_getLast _).symm⟩
  have hA : A.length = k:=by simpa using hk
  simp only [List.length_append,List.length_cons,List.length_nil] at hl
  have e1 : A ++ [y] ++ x :: T = A ++ y :: x :: T:=by simp
  have hi : (((A ++ [y]).length : Nat) : Int) = (A.length:Int) + 1:=by simp
  have hj1 : w64 ((((A ++ [y]).length : Nat) : Int) - 1) = (A.length:Int):=by rw [bL (by simp only [List.length_append,List.length_cons,List.length_nil]; omega) (by simp only [List.length_append,List.length_cons,List.length_nil]; omega)]; simp
  have r1 : rdL (A ++ [y] ++ x :: T) (((A ++ [y]).length : Nat) : Int) = x:=so _ _ _ _ rfl
  have r2 : rdL (A ++ [y] ++ x :: T) (A.length:Int) = y:=by rw [e1]; exact so _ _ _ _ rfl
  have g1 : (0:Int) ≤ (((A ++ [y]).length : Nat) : Int) ∧ (((A ++ [y]).length : Nat) : Int) < (data0.length:Int):=by rw [h0]; simp only [List.length_append,List.length_cons,List.length_nil]; omega
  have g2 : (0:Int) ≤ (A.length:Int) ∧ (A.length:Int) < (data0.length:Int):=by rw [h0]; omega
  have hd : decide ((0:Int) < (((A ++ [y]).length : Nat) : Int)) = true:=decide_eq_true (by rw [hi]; omega)
  have hless : gJ x y = some (decide (x < y)):=by
   unfold gJ dP
   simp
  have step : aX data0 0 ((((A ++ [y]).length : Nat) : Int),A ++ [y] ++ x :: T) = if x < y then some (.inl ((A.length:Int),A ++ x :: ([y] ++ T))) else some (.inr ((((A ++ [y]).length : Nat) : Int),A ++ [y] ++ x :: T)):=by
   unfold aX; dsimp only
   simp only [hj1,r1,r2,hd,if_true,gPo g1,gPo g2,hless,Option.bind_some,decide_eq_true_eq]
   by_cases hlt : x < y
   ·rw [if_pos hlt,if_pos hlt]
    refine congrArg some (congrArg Sum.inl (Prod.ext rfl ?_))
    show ((A ++ [y] ++ x :: T).set (Int.toNat (((A ++ [y]).length : Nat) : Int)) y).set (Int.toNat (A.length:Int)) x = _
    rw [Int.toNat_natCast,Int.toNat_natCast,sq (A ++ [y]) x y T _ rfl]
    have e3 : A ++ [y] ++ y :: T = A ++ y :: (y :: T):=by simp
    rw [e3,sq A y x (y :: T) _ rfl]
    simp
   ·rw [if_neg hlt,if_neg hlt]
  by_cases hlt : x < y
  ·rw [if_pos hlt] at step
   obtain ⟨B1,B2,hB,hr,h2,h3⟩:=ih A ([y] ++ T) hA (by simp; omega)
   refine ⟨B1,B2 ++ [y],by rw [hB,List.append_assoc],?_,?_,h3⟩
   ·rw [iq step,hr]
    simp
   ·intro z hz
    rcases List.mem_append.1 hz with hz | hz
    ·exact h2 z hz
    ·rw [List.mem_singleton.1 hz]; exact hlt
  ·rw [if_neg hlt] at step
   refine ⟨A ++ [y],[],by simp,?_,by simp,?_⟩
   ·rw [dY step]; simp
   ·intro z hz
    simp at hz
    rw [← hz]
    exact hlt
theorem insO_all {l : List Int} (hl:l.length < 1000000) : bm l 0 (l.length:Int) = some (mD l):=by
 unfold bm
 have e1 : w64 (0 + 1) = 1:=rfl
 rw [e1]
 have main : ∀ (R A : List Int),(A ++ R).Perm l → d7 A → ∃ s,aM (aI l 0 (l.length:Int)) ((A.length:Int),A ++ R) = some ((l.length:Int),s) ∧ s.Perm l ∧ d7 s:=by
  intro R
  induction R with
  | nil =>
   intro A hp hs
   have hlen : A.length = l.length:=by have:=hp.length_eq; simpa using this
   refine ⟨A,?_,by simpa using hp,hs⟩
   rw [List.append_nil,hlen]
   refine dY ?_
   unfold aI; dsimp only
   rw [show decide ((l.length:Int) < (l.length:Int)) = false from decide_eq_false (by omega)]
   rfl
  | cons x T ih =>
   intro A hp hs
   have hlen : A.length + (T.length + 1) = l.length:=by have:=hp.length_eq; simpa using this
   obtain ⟨B1,B2,hB,hr,h2,h3⟩:=insO_l2 (data0:=l) rfl hl x A.length A T rfl (by omega)
   have hstep : aI l 0 (l.length:Int) ((A.length:Int),A ++ x :: T) = some (.inl (((B1 ++ x :: B2).length : Int),(B1 ++ x :: B2) ++ T)):=by
    unfold aI; dsimp only
    rw [show decide ((A.length:Int) < (l.length:Int)) = true from decide_eq_true (by omega)]
    rw [if_pos rfl,hr,Option.bind_some]
    have hw : w64 ((A.length:Int) + 1) = (A.length:Int) + 1:=bL (by omega) (by omega)
    simp only [hw]
    refine congrArg some (congrArg Sum.inl (Prod.ext ?_ ?_))
    ·simp [hB]; omega
    ·simp
   have hs' : d7 (B1 ++ x :: B2):=by
    unfold d7 at hs ⊢
    rw [hB,List.pairwise_append] at hs
    obtain ⟨s1,s2,s3⟩:=hs
    have hle : ∀ y ∈ B1,y ≤ x:=by
     intro y hy
     rcases List.eq_nil_or_concat B1 with rfl | ⟨B,z,rfl⟩
     ·cases hy
     ·have hz:=h3 z (by simp)
      rw [List.concat_eq_append] at hy s1
      rcases List.mem_append.1 hy with hy | hy
      ·rw [List.pairwise_append] at s1
       have:=s1.2.2 y hy z (by simp); omega
      ·rw [List.mem_singleton.1 hy]; omega
    rw [List.pairwise_append]
    refine ⟨s1,List.pairwise_cons.2 ⟨fun y hy => by have:=h2 y hy; omega,s2⟩,fun a ha b hb => ?_⟩
    rcases List.mem_cons.1 hb with rfl | hb
    ·exact hle a ha
    ·exact s3 a ha b hb
   have hp' : ((B1 ++ x :: B2) ++ T).Perm l:=by
    refine List.Perm.trans ?_ hp
    rw [hB]
    simp only [List.append_assoc,lca]
    exact List.Perm.append_left B1 (List.perm_middle).symm
   obtain ⟨s,h4,h5,h6⟩:=ih (B1 ++ x :: B2) hp' hs'
   exact ⟨s,by rw [iq hstep]; exact h4,h5,h6⟩
 rcases l with _ | ⟨x,T⟩
 ·have : aM (aI [] 0 (([]:List Int).length : Int)) (1,[]) = some (1,[]):=by
   refine dY ?_
   unfold aI
   rfl
  rw [this]
  rfl
 ·obtain ⟨s,h1,h2,h3⟩:=main T [x] (by simp) (by simp [d7])
  have h1' : aM (aI (x :: T) 0 ((x :: T).length : Int)) (1,x :: T) = some (((x :: T).length : Int),s):=h1
  rw [h1',Option.bind_some,ra h2 h3]
theorem pdqO_all {l : List Int} (hl:l.length ≤ 12) (v:Int) : cg l 0 (l.length:Int) v = some (mD l):=by
 unfold cg
 have hstep : bO (0,(l.length:Int),v,true,true,l) = some (.inr (0,(l.length:Int),v,true,true,mD l)):=by
  unfold bO; dsimp only
  have hw : w64 ((l.length:Int) - 0) = (l.length:Int):=by rw [bL (by omega) (by omega)]; omega
  rw [hw,gPo (decide_eq_true (by omega)),insO_all (by omega)]
  rfl
 rw [dY hstep]
 rfl
theorem d6 (p0:(List Int)) (res:(List Int)) (h:bM p0 = some res) (W:World) (w0:World) (R:Res) (Aa:Option Addr) (n0_0 ca : Nat) (hn0_0:n0_0 = p0.length) (hW:Ext w0 W [R,aL Aa ca 3 1 n0_0 (encL cI p0)]) :
  Calls Tryz.prog 81 [.slice Aa n0_0 ca].toArray W fun e W2 => e = .returned (.tuple #[]) ∧ n0_0 = res.length ∧ Ext w0 W2 [R,aL Aa ca 3 1 n0_0 (encL cI res)]:=by
 subst hn0_0
 unfold bM at h
 obtain ⟨hg0,h⟩:=gOs h
 obtain rfl:=sI h
 have hlen : p0.length = (mD p0).length:=(sn p0).symm
 refine a8 (m:=11) Tryz.func81 rfl rfl (nB rfl) hW (cS (cR (oY rfl (yMS rfl) (oY rfl (bp (us:=[]) cV rfl) (oY rfl (yAI rfl) (oN (eT (cR (oY rfl (yMS rfl) (oY rfl (yMI rfl) (oY rfl (yMI rfl) ?_)))))))))))
 have hg1 : (0:Int) ≤ (p0.length:Int) ∧ (p0.length:Int) ≤ 9223372036854775807:=by omega
 refine oY rfl (sL ui_3 ui_176 hg1 rfl) ?_
 obtain ⟨y2,hy3⟩ : ∃ y2,hU (p0.length:Int) = some y2:=by
  unfold hU f9
  rw [gPo (by omega)]
  exact ⟨_,rfl⟩
 refine oY rfl (yC [.int .u64 (p0.length:Int)] go_129 rfl (fun W2 hW2 => mZ (p0.length:Int) y2 hy3 W2 ) rfl) ?_
 have hy5:=pdqO_all hg0 y2
 refine fu 1 [.slice Aa p0.length ca,vI 0,vI (p0.length:Int),vI y2] (fun (_:Unit) => p0.length = (mD p0).length) (fun _ => .tuple #[]) (fun _ => aL Aa ca 3 1 p0.length (encL cI (mD p0))) (fun _ => []) rfl rfl go_128 rfl (fun W2 hW2 => (ig p0 0 (p0.length:Int) y2 (mD p0) hy5 W2 _ (bB [R,aL Aa ca 3 1 p0.length (encL cI p0)] [1]) Aa p0.length ca rfl hW2).mono (fun e W3 h3 => ⟨(),h3.2.1,h3.1,h3.2.2⟩)) ?_
 rintro - hn6
 try dsimp only [lsz,lss,List.append_nil]
 refine oN ?_
 exact cH (.inr rfl) rfl  (fun W2 hW2 => ⟨rfl,hlen,hW2.take 2⟩)
theorem jj (p0:TR) (p1:Int) (p2:Int) (p3:Int) (p4:Int) (res:((List Int) × Int)) (h:cW p0 p1 p2 p3 p4 = some res) (W:World) (Ab:Option Addr) (n0_1 cb : Nat) (ys0_1:List (Hd × TT)) (hn0_1:n0_1 = p0.fTracks.length) (hr0_1:Rd W Ab n0_1 cb (encL TTrack_cells2 ys0_1)) (hN0_1:NestW W (fun z : TT => z.fK) TSpan_cells ys0_1 p0.fTracks) :
  Calls Tryz.prog 23 [.agg #[vI p0.fPlaces,.slice Ab n0_1 cb],vI p1,vI p2,vI p3,vI p4].toArray W fun e W2 => ∃ x : Option Addr × Nat × Nat,x.2.1 = res.1.length ∧ e = .returned (.tuple #[.slice x.1 x.2.1 x.2.2,vI res.2]) ∧ Ext W W2 [aL x.1 x.2.2 3 1 x.2.1 (encL cI res.1)]:=by
 subst hn0_1
 unfold cW at h
 refine ae (m:=77) Tryz.func23 rfl rfl (nB rfl) (cS (cR ?_))
 refine aW [vI p0.fPlaces,.slice Ab p0.fTracks.length cb] rfl rfl rfl (fun b1 => ?_)
 refine oY rfl (yAS rfl) (oY rfl (yAI rfl) (oN (eT (cS (cR (oY rfl (yN 0 [vI p0.fPlaces,.slice Ab p0.fTracks.length cb] dM rfl rfl rfl) (oY rfl (yMI rfl) (oY rfl (yMI rfl) (oY rfl (yMI rfl) (oY rfl (yMI rfl) ?_))))))))))
 obtain ⟨y2,hy3,h⟩:=bOs h
 refine oC [.agg #[vI p0.fPlaces,.slice Ab p0.fTracks.length cb],vI p1,vI p2,vI p3,vI p4] _ _ _ rfl go_18 rfl (fun W2 hW2 => kH p0 p1 p2 p3 p4 y2 hy3 W2 Ab p0.fTracks.length cb ys0_1 rfl ((RdL.arg hr0_1) W2 hW2) (NestL.at (NestL.arg hN0_1) W2 hW2) W (fun _ => True) (fun W3 hb => ⟨fV hW2.below hb,trivial⟩) ) ?_
 rintro ⟨⟨A6,n8,c7⟩,F10⟩ ⟨hn9,hV11⟩
 replace hn9 : n8 = y2.1.fLegs.length:=hn9; subst hn9
 refine oY rfl (aN rfl) (oY rfl (yE rfl rfl) (oY rfl (yE rfl rfl) ?_))
 refine aE ko rfl (fun b12 => ?_)
 refine cr rfl (yS 2 [.slice A6 y2.1.fLegs.length c7,vI y2.1.fA,vI y2.1.fToll] lD rfl (nB rfl) rfl rfl rfl) (oY rfl (yAI rfl) (oN (eT (cS (cS (cR (oY rfl (yMI rfl) (oY rfl (dl rfl rfl) (oN (eT ?_))))))))))
 rcases iOs h with ⟨hp13,h⟩ | ⟨hp13,h⟩
 ·refine cT (vB hp13) (cS (cR (oY rfl (yMI rfl) (oY rfl (yAS rfl) (oY rfl (yAI rfl) (oN (eT (am (aa ?_)))))))))
  obtain rfl:=sI h
  exact bI (.inl rfl) rfl (rVt (v:=.slice none 0 0) rfl) (rVt (v:=vI y2.2) rfl) (fun W2 hW2 => ⟨(none,0,0),rfl,rfl,((hW2.nilrow 3 1).pick 3 rfl)⟩)
 ·refine cF (vB hp13) (cK (eT (cS (cR (oY rfl (yAS rfl) (oN (eT (cS (cS (cR (oY rfl (yFA cq rfl) (oY rfl (yL 0 gG rfl rfl rfl) (oY rfl (bp (us:=[]) gF rfl) (oY rfl (yMI rfl) (oN (eT (cB ?_)))))))))))))))))
  obtain ⟨u17,hl57,h⟩:=bOs h
  refine cQ 3 1 ?_
  refine ba (fun (s:(Int × (List Int))) L tm => ∃ (tm0:Nat → Value) (A3_s:Option Addr) (c3_s:Nat) (n3_s:Nat),n3_s = s.2.length ∧ L = [ai b1 24 [vI p0.fPlaces,.slice Ab p0.fTracks.length cb],F10,ai b12 29 [.slice A6 y2.1.fLegs.length c7,vI y2.1.fA,vI y2.1.fToll],aL A3_s c3_s 3 1 n3_s (encL cI s.2)] ∧ tm = (upd (upd (upd (upd (upd (upd (upd (upd (upd (upd (upd (upd tm0 1 (vI p1)) 2 (vI p2)) 3 (vI p3)) 4 (vI p4)) 5 (.pointer (some ⟨b1,0,none⟩))) 10 (.slice none 0 0)) 11 (vI 0)) 12 (.pointer (some ⟨b12,0,none⟩))) 14 (.slice A3_s n3_s c3_s)) 33 (.slice Ab p0.fTracks.length cb)) 34 (vI (p0.fTracks.length:Int))) 35 (vI s.1))) 0 hl57 ⟨_,none,0,0,rfl,rfl,(kp4 (kp4 (kp4 rfl)))⟩ ?_ ?_
  ·rintro s16 L tm st ⟨tm0_s16,A3_s16,c3_s16,n3_s16,rfl,rfl,rfl⟩ h
   unfold fj at h
   refine cS (cR (oY rfl (bj rfl rfl) (oN (eT (cS ?_)))))
   rcases iOs h with ⟨hp18,h⟩ | ⟨hp18,h⟩
   ·refine cT (vB hp18) (cK (eT (cS (cB (cS (cR (oY rfl (yMI rfl) ?_)))))))
    obtain ⟨hg19,h⟩:=gOs h
    refine oY rfl (yI jP (by decide) hg19.1 hg19.2 (RdL.arg hr0_1) (eL au (NestP.hn hN0_1.p rfl)) rfl rfl) ?_
    refine oY rfl (yM (A:=Ab) (j:=(Int.toNat s16.1 * 6)) [vI ((rdL p0.fTracks s16.1).fID),vI ((rdL p0.fTracks s16.1).fFrom),vI ((rdL p0.fTracks s16.1).fTo),vI ((rdL p0.fTracks s16.1).fLong),vI ((rdL p0.fTracks s16.1).fToll),.slice ((rdL ys0_1 s16.1).1.1) ((rdL p0.fTracks s16.1).fK.length) ((rdL ys0_1 s16.1).1.2.2)] i8 (Nat.succ_pos _) (RdL.arg hr0_1) rfl (kw (cx (NestP.snd hN0_1.p s16.1) (NestP.len hN0_1.p hg19.1 (ah hg19.2 rfl))).symm (bl au hg19.1 (ah hg19.2 (NestP.hn hN0_1.p rfl))))) ?_
    refine aE gp rfl (fun b20 => ?_)
    refine oY rfl (yAI rfl) (cr rfl (yS 4 [vI ((rdL p0.fTracks s16.1).fID),vI ((rdL p0.fTracks s16.1).fFrom),vI ((rdL p0.fTracks s16.1).fTo),vI ((rdL p0.fTracks s16.1).fLong),vI ((rdL p0.fTracks s16.1).fToll),.slice ((rdL ys0_1 s16.1).1.1) ((rdL p0.fTracks s16.1).fK.length) ((rdL ys0_1 s16.1).1.2.2)] pk rfl (nB rfl) rfl rfl rfl) (oN (eT (cS ?_))))
    obtain ⟨y22,hy23,h⟩:=bOs h
    have hPc_y22:=iw hy23 hN0_1.p
    obtain ⟨y31,hy32,h⟩:=bOs h
    refine eF [[],[0],[],[2],[2,3],[],[],[6],[2,3,4,5,6,7],[0,1,2,3,4,5,6,7,8],[],[0,1,2,3,4,5,6,7,8,9,10]] [(none,0,[true,true,true,true,true]),(none,0,[true,true,true,true,true]),(none,0,[true,true,true,true,true]),(none,0,[true,true,true,true,true]),(none,1,[true,true,true,true,true]),(none,0,[true,true,true,true,true,false]),(none,0,[true,true,true,true,true,false]),(none,0,[true,true,true,true,true,false]),(some 5,1,[true,true,true,true,true,true]),(none,0,[true,true,true,true,true,true,true]),(none,1,[true,true,true,true,true,false,false]),(some 7,0,[true,true,true,true,true,true,true,true])] [⟨fun _ => .pointer (some ⟨b1,0 + 0,none⟩),fun _ => noR,fun _ => []⟩,⟨fun _ => vI p0.fPlaces,fun _ => noR,fun _ => []⟩,⟨fun _ => .pointer (some ⟨b1,0 + 1,none⟩),fun _ => noR,fun _ => []⟩,⟨fun _ => .slice Ab p0.fTracks.length cb,fun _ => noR,fun _ => []⟩,⟨fun ξ21 => .slice (ξ21 4 0).1 y22.length (ξ21 4 0).2.2.1,fun _ => noR,fun ξ21 => [aL (ξ21 4 0).1 (ξ21 4 0).2.2.1 120 6 y22.length (encL TTrack_cells2 ys0_1)]⟩,⟨fun _ => vI s16.1,fun _ => noR,fun _ => []⟩,⟨fun _ => vI s16.1,fun _ => noR,fun _ => []⟩,⟨fun _ => vI (w64 (s16.1 + 1)),fun _ => noR,fun _ => []⟩,⟨fun ξ21 => .slice (ξ21 4 0).1 y31.length (ξ21 4 0).2.2.1,fun ξ21 => aL (ξ21 4 0).1 (ξ21 4 0).2.2.1 120 6 y31.length (encL TTrack_cells2 (List.zip (ξ21 8 0).2.2.2.1 y31)),fun ξ21 => [factR (NestP (fun z : TT => z.fK) (List.zip (ξ21 8 0).2.2.2.1 y31) y31 ∧ ∀ y ∈ (List.zip (ξ21 8 0).2.2.2.1 y31),y ∈ ys0_1)]⟩,⟨fun ξ21 => .agg #[vI p0.fPlaces,.slice (ξ21 4 0).1 y31.length (ξ21 4 0).2.2.1],fun _ => noR,fun _ => []⟩,⟨fun ξ21 => .pointer (some ⟨(ξ21 10 0).2.1,0,none⟩),fun _ => noR,fun ξ21 => [ai (ξ21 10 0).2.1 24 [vI 0,.slice none 0 0]]⟩,⟨fun _ => undef,fun ξ21 => ai (ξ21 10 0).2.1 24 [vI p0.fPlaces,.slice (ξ21 4 0).1 y31.length (ξ21 4 0).2.2.1],fun _ => []⟩] 5 cD (by kernel_rfl) (by kernel_rfl) ⟨⟨fun ξ21 ξ21' h => ⟨rfl,rfl,rfl⟩,fun _ => rfl⟩,⟨fun ξ21 ξ21' h => ⟨rfl,rfl,rfl⟩,fun _ => rfl⟩,⟨fun ξ21 ξ21' h => ⟨rfl,rfl,rfl⟩,fun _ => rfl⟩,⟨fun ξ21 ξ21' h => ⟨rfl,rfl,rfl⟩,fun _ => rfl⟩,⟨fun ξ21 ξ21' h => ⟨by simp only [h 4 (.inl rfl)],rfl,by simp only [h 4 (.inl rfl)]⟩,fun _ => rfl⟩,⟨fun ξ21 ξ21' h => ⟨rfl,rfl,rfl⟩,fun _ => rfl⟩,⟨fun ξ21 ξ21' h => ⟨rfl,rfl,rfl⟩,fun _ => rfl⟩,⟨fun ξ21 ξ21' h => ⟨rfl,rfl,rfl⟩,fun _ => rfl⟩,⟨fun ξ21 ξ21' h => ⟨by simp only [h 4 (.inr rfl)],by simp only [h 4 (.inr rfl),h 8 (.inl rfl)],by simp only [h 8 (.inl rfl)]⟩,fun _ => rfl⟩,⟨fun ξ21 ξ21' h => ⟨by simp only [h 4 (.inr rfl)],rfl,rfl⟩,fun _ => rfl⟩,⟨fun ξ21 ξ21' h => ⟨by simp only [h 10 (.inl rfl)],rfl,by simp only [h 10 (.inl rfl)]⟩,fun _ => rfl⟩,⟨fun ξ21 ξ21' h => ⟨rfl,by simp only [h 4 (.inr rfl),h 10 (.inr rfl)],rfl⟩,fun _ => rfl⟩,trivial⟩ rfl (fun ξ21 => ?_)
    refine bN rfl (fun L2 => ?_) ?_
    ·dsimp only [aF,lca,lna]
     refine oY rfl (yFA d8 rfl) (oN ?_)
     exact ap (fun _ => (none,0,0,[],noR)) rfl (List.append_nil _)
    dsimp only [bx,lsz,lss,lna,lca,List.append_nil]
    refine bN rfl (fun L2 => ?_) ?_
    ·dsimp only [aF,lca,lna]
     refine oY rfl (yL 0 aV rfl rfl rfl) (oN ?_)
     exact ap (fun _ => (none,0,0,[],noR)) rfl (List.append_nil _)
    dsimp only [bx,lsz,lss,lna,lca,List.append_nil]
    refine bN rfl (fun L2 => ?_) ?_
    ·dsimp only [aF,lca,lna]
     refine oY rfl (yFA cq rfl) (oN ?_)
     exact ap (fun _ => (none,0,0,[],noR)) rfl (List.append_nil _)
    dsimp only [bx,lsz,lss,lna,lca,List.append_nil]
    refine bN rfl (fun L2 => ?_) ?_
    ·dsimp only [aF,lca,lna]
     refine oY rfl (yL 0 gG rfl rfl rfl) (oN ?_)
     exact ap (fun _ => (none,0,0,[],noR)) rfl (List.append_nil _)
    dsimp only [bx,lsz,lss,lna,lca,List.append_nil]
    refine bN rfl (fun L2 => ?_) ?_
    ·dsimp only [aF,lca,lna]
     refine oC [.slice Ab p0.fTracks.length cb] _ _ _ rfl go_80 rfl (fun W2 hW2 => iz p0.fTracks y22 hy23 W2 Ab p0.fTracks.length cb ys0_1 rfl ((RdL.arg hr0_1) W2 hW2) (NestL.at (NestL.arg hN0_1) W2 hW2)) ?_
     rintro ⟨A26,n28,c27⟩ ⟨hn29,hP30⟩
     replace hn29 : n28 = y22.length:=hn29; subst hn29
     refine oN ?_
     exact ap (fun _ => (A26,0,c27,[],noR)) rfl rfl
    dsimp only [bx,lsz,lss,lna,lca,List.append_nil]
    refine bN rfl (fun L2 => ?_) ?_
    ·dsimp only [aF,lca,lna]
     refine oY rfl (yMI rfl) (oN ?_)
     exact ap (fun _ => (none,0,0,[],noR)) rfl (List.append_nil _)
    dsimp only [bx,lsz,lss,lna,lca,List.append_nil]
    refine bN rfl (fun L2 => ?_) ?_
    ·dsimp only [aF,lca,lna]
     refine oY rfl (yMI rfl) (oN ?_)
     exact ap (fun _ => (none,0,0,[],noR)) rfl (List.append_nil _)
    dsimp only [bx,lsz,lss,lna,lca,List.append_nil]
    refine bN rfl (fun L2 => ?_) ?_
    ·dsimp only [aF,lca,lna]
     refine oY rfl (aT rfl rfl) (oN ?_)
     exact ap (fun _ => (none,0,0,[],noR)) rfl (List.append_nil _)
    dsimp only [bx,lsz,lss,lna,lca,List.append_nil]
    refine bN rfl (fun L2 => ?_) ?_
    ·dsimp only [aF,lca,lna]
     refine fu 5 [.slice (ξ21 4 0).1 y22.length (ξ21 4 0).2.2.1,vI s16.1,vI (w64 (s16.1 + 1))] (fun x : Nat × List (Hd × TT) => x.1 = y31.length ∧ NestP (fun z : TT => z.fK) x.2 y31 ∧ ∀ y ∈ x.2,y ∈ ys0_1) (fun x => .slice (ξ21 4 0).1 x.1 (ξ21 4 0).2.2.1) (fun x => aL (ξ21 4 0).1 (ξ21 4 0).2.2.1 120 6 x.1 (encL TTrack_cells2 x.2)) (fun _ => []) rfl rfl go_79 rfl (fun W2 hW2 => (ib y22 s16.1 (w64 (s16.1 + 1)) y31 hy32 W2 _ _ (ξ21 4 0).1 y22.length (ξ21 4 0).2.2.1 ys0_1 rfl hPc_y22 (fun y hy W3 hb hR => (PvL.of_nest hN0_1) y hy W3 hb trivial) hW2).mono (fun e W3 h3 => h3)) ?_
     rintro ⟨k33,ys35⟩ ⟨hn34,hP36,hS37⟩
     replace hn34 : k33 = y31.length:=hn34
     subst hn34
     try dsimp only [lsz,lss,List.append_nil]
     obtain ⟨hs38,rfl⟩ : ∃ hs38 : List Hd,ys35 = List.zip hs38 y31:=⟨_,NestP.zip hP36⟩
     refine sB (p:=(NestP (fun z : TT => z.fK) (List.zip hs38 y31) y31 ∧ ∀ y ∈ (List.zip hs38 y31),y ∈ ys0_1)) ⟨hP36,hS37⟩ ?_
     try dsimp only [lna,lca]
     try rw [List.append_nil L2]
     refine oN ?_
     exact ap (fun _ => (none,0,0,hs38,noR)) rfl rfl
    dsimp only [bx,lsz,lss,lna,lca,List.append_nil]
    refine bN rfl (fun L2 => ?_) ?_
    ·dsimp only [aF,lca,lna]
     refine oY rfl (aY [vI p0.fPlaces,.slice (ξ21 4 0).1 y31.length (ξ21 4 0).2.2.1] [(0,1),(1,1)] ust_24 ry (by kernel_rfl)) ?_
     refine oN ?_
     exact ap (fun _ => (none,0,0,[],noR)) rfl (List.append_nil _)
    dsimp only [bx,lsz,lss,lna,lca,List.append_nil]
    refine bN rfl (fun L2 => ?_) ?_
    ·dsimp only [aF,lca,lna]
     refine aE ry rfl (fun b39 => ?_)
     refine oN ?_
     exact ap (fun _ => (none,b39,0,[],noR)) rfl rfl
    dsimp only [bx,lsz,lss,lna,lca,List.append_nil]
    refine tr rfl (fun L2 => ?_) ?_
    ·dsimp only [aF,lca,lna]
     refine cr rfl (yS 7 [vI p0.fPlaces,.slice (ξ21 4 0).1 y31.length (ξ21 4 0).2.2.1] sz_24 rfl (nB rfl) rfl rfl rfl) (oN ?_)
     first | exact bP (fun _ => (none,0,0,[],noR)) rfl | exact bP (fun _ => (none,0,0,[],noR)) (List.append_nil _)
    dsimp only [bx,lsz,lss,lna,lca,List.append_nil]
    refine kx ?_
    refine ex_fact 6 rfl (fun hF => ?_)
    obtain ⟨hP36,hS37⟩:=hF
    refine eT (cS (cR ?_))
    try dsimp only [lna,lca,lsz,lss]
    refine oY rfl (yN 7 [vI p0.fPlaces,.slice (ξ21 4 0).1 y31.length (ξ21 4 0).2.2.1] dM rfl rfl rfl) (oY rfl (yMI rfl) (oY rfl (yMI rfl) (oY rfl (yMI rfl) (oY rfl (yMI rfl) ?_))))
    obtain ⟨y40,hy41,h⟩:=bOs h
    refine oC [.agg #[vI p0.fPlaces,.slice (ξ21 4 0).1 y31.length (ξ21 4 0).2.2.1],vI p1,vI p2,vI p3,vI p4] _ _ _ rfl go_71 rfl (fun W2 hW2 => kn (TR.mk p0.fPlaces y31) p1 p2 p3 p4 y40 hy41 W2 (ξ21 4 0).1 y31.length (ξ21 4 0).2.2.1 (List.zip (ξ21 8 0).2.2.2.1 y31) rfl ((RdL.row 5 rfl) W2 hW2) (NestL.at (PvL.nestL hP36 (PvL.sub (PvL.of_nest hN0_1) hS37) (fun W2 hW2 => ⟨hW2.below,trivial⟩)) W2 hW2) W (fun _ => True) (fun W3 hb => ⟨fV hW2.below hb,trivial⟩) ) ?_
    rintro ⟨⟨A44,n46,c45⟩,F48⟩ ⟨hn47,hV49⟩
    replace hn47 : n46 = y40.1.fLegs.length:=hn47; subst hn47
    try dsimp only [lna,lca,lsz,lss]
    refine oY rfl (aN rfl) (oY rfl (yE rfl rfl) (oY rfl (yE rfl rfl) ?_))
    refine aE ko rfl (fun b50 => ?_)
    try dsimp only [lna,lca,lsz,lss]
    refine cr rfl (yS 9 [.slice A44 y40.1.fLegs.length c45,vI y40.1.fA,vI y40.1.fToll] lD rfl (nB rfl) rfl rfl rfl) (oY rfl (yAB rfl) (oN (eT (cS (cR (oY rfl (yMB rfl) (oY rfl (bQ rfl) (oY rfl (yMB rfl) ?_))))))))
    refine oJ 6 (fun tm0 => (upd (upd (upd (upd (upd (upd (upd (upd (upd (upd (upd (upd (upd (upd (upd (upd (upd (upd (upd tm0 1 (vI p1)) 2 (vI p2)) 3 (vI p3)) 4 (vI p4)) 5 (.pointer (some ⟨b1,0,none⟩))) 10 (.slice none 0 0)) 11 (vI 0)) 12 (.pointer (some ⟨b12,0,none⟩))) 14 (.slice A3_s16 s16.2.length c3_s16)) 33 (.slice Ab p0.fTracks.length cb)) 34 (vI (p0.fTracks.length:Int))) 35 (vI s16.1)) 36 (.bool (decide (s16.1 < (p0.fTracks.length:Int))))) 16 (.pointer (some ⟨b20,0,none⟩))) 15 (vI s16.1)) 17 (.pointer (some ⟨(ξ21 10 0).2.1,0,none⟩))) 18 (.pointer (some ⟨b50,0,none⟩))) 19 (.bool y40.2)) 67 (.bool ((!y40.2) || (y40.1.fA != y2.1.fA))))) (fun tm0 => ?_) (fun key => ?_)
    ·refine oN (eT ?_)
     rcases iOs h with ⟨hp52,h⟩ | ⟨hp52,h⟩
     ·refine cT (vB hp52) (cR (oY rfl (yMS rfl) (oY rfl (yFA gB rfl) (oY rfl (yL 4 aV rfl rfl rfl) ?_))))
      refine aJ 1 (encL cI [(rdL p0.fTracks s16.1).fID]) _ mM cV lj m4 (by decide) (by decide) (by kernel_rfl) (eL aA rfl) rfl (fun b53 => ?_)
      try dsimp only [lna,lca,lsz,lss]
      obtain ⟨hg56,h⟩:=gOs h
      refine bE 3 cV lj m4 rfl rfl rfl (RdL.row 10 rfl) (eL aA rfl) (cv lG _) (cA hg56 (by decide)) rfl (fun A54 c55 => ?_)
      refine oY rfl (yAS rfl) (oN (aw (eT (cR (oY rfl (aT rfl rfl) (oY rfl (yMI rfl) (oN (aU 4 ?_))))))))
      obtain rfl:=sI h
      exact eN ⟨_,A54,c55,(s16.2.length + 1),(gb rfl rfl),rfl,(kp4 (kp4 (kp4 rfl)))⟩
     ·refine cF (vB hp52) (cK (aw (eT (cR (oY rfl (aT rfl rfl) (oY rfl (yMI rfl) (oN (aU 4 ?_))))))))
      obtain rfl:=sI h
      exact eN ⟨_,A3_s16,c3_s16,s16.2.length,rfl,rfl,(kp4 (kp4 (kp4 rfl)))⟩
    ·rcases ao (!y40.2) with hp51 | hp51
     ·refine oSk (sF rfl rfl rfl rfl hp51) (oSk (sF rfl rfl rfl rfl hp51) (oSk (sF rfl rfl rfl rfl hp51) (oSk (sF rfl rfl rfl rfl hp51) (oSk (sF rfl rfl rfl rfl hp51) (oY rfl (ab (vB hp51) rfl) ?_)))))
      exact key _ _ (keep (keep (keep (keep (keep (keep (keep (keep (keep (keep (keep (keep (keep (keep (keep (keep (keep (keep (keep rfl rfl) rfl) rfl) rfl) rfl) rfl) rfl) rfl) rfl) rfl) rfl) rfl) rfl) rfl) rfl) rfl) rfl) rfl) (vB (jf hp51)))
     ·refine oY (sT rfl rfl rfl rfl hp51) (yFA ly rfl) (oY (sT rfl rfl rfl rfl hp51) (yL 9 aV rfl rfl rfl) (oY (sT rfl rfl rfl rfl hp51) (yFA ly rfl) (oY (sT rfl rfl rfl rfl hp51) (yL 2 aV rfl rfl rfl) (oY (sT rfl rfl rfl rfl hp51) (dl rfl rfl) (oY rfl (ad (vB hp51) rfl) ?_)))))
      exact key _ _ (keep (keep (keep (keep (keep (keep (keep (keep (keep (keep (keep (keep (keep (keep (keep (keep (keep (keep (keep rfl rfl) rfl) rfl) rfl) rfl) rfl) rfl) rfl) rfl) rfl) rfl) rfl) rfl) rfl) rfl) rfl) rfl) rfl) (vB (jg hp51)))
   ·refine cF (vB hp18) (aH (ag ?_))
    obtain rfl:=sI h
    exact ax ⟨rfl,_,A3_s16,c3_s16,s16.2.length,rfl,rfl,(kp4 (kp4 (kp4 rfl)))⟩
  ·intro e L tm hJ
   obtain ⟨rfl,tm0_u17,A3_u17,c3_u17,n3_u17,rfl,rfl,rfl⟩:=hJ
   refine ⟨(by intro hc; cases hc),?_⟩
   refine ac (eT (cS (cR (oY rfl (yMS rfl) ?_))))
   obtain ⟨y58,hy59,h⟩:=bOs h
   refine fu 3 [.slice A3_u17 u17.2.length c3_u17] (fun (_:Unit) => u17.2.length = y58.length) (fun _ => .tuple #[]) (fun _ => aL A3_u17 c3_u17 3 1 u17.2.length (encL cI y58)) (fun _ => []) rfl rfl go_81 rfl (fun W2 hW2 => (d6 u17.2 y58 hy59 W2 _ (bB [ai b1 24 [vI p0.fPlaces,.slice Ab p0.fTracks.length cb],F10,ai b12 29 [.slice A6 y2.1.fLegs.length c7,vI y2.1.fA,vI y2.1.fToll],aL A3_u17 c3_u17 3 1 u17.2.length (encL cI u17.2)] [3]) A3_u17 u17.2.length c3_u17 rfl hW2).mono (fun e W3 h3 => ⟨(),h3.2.1,h3.1,h3.2.2⟩)) ?_
   rintro - hn60
   try dsimp only [lsz,lss,List.append_nil]
   refine oN (eT (cS (cR (oY rfl (yMS rfl) (oY rfl (yAS rfl) (oY rfl (yAI rfl) (oN (eT (am ?_)))))))))
   obtain rfl:=sI h
   exact bI (.inl rfl) rfl (rVt (v:=.slice A3_u17 u17.2.length c3_u17) rfl) (rVt (v:=vI 0) rfl) (fun W2 hW2 => ⟨(A3_u17,u17.2.length,c3_u17),hn60,rfl,(hW2.pick 3 rfl)⟩)
theorem cM (p0:(List Int)) (p1:(List Int)) (res:Bool) (h:bS p0 p1 = some res) (W:World) (Aa:Option Addr) (n0_0 ca : Nat) (hn0_0:n0_0 = p0.length) (hr0_0:Rd W Aa n0_0 ca (encL cI p0)) (Ac:Option Addr) (n1_0 cc : Nat) (hn1_0:n1_0 = p1.length) (hr1_0:Rd W Ac n1_0 cc (encL cI p1)) :
  Calls Tryz.prog 25 [.slice Aa n0_0 ca,.slice Ac n1_0 cc].toArray W fun e W2 => e = .returned (.bool res) ∧ Ext W W2 []:=by
 subst hn0_0
 subst hn1_0
 unfold bS at h
 refine ae (m:=26) Tryz.func25 rfl rfl (nB rfl) (cS (cR (oY rfl (yAB rfl) (oN (eT (cS (cS (cR (oY rfl (yMS rfl) (oY rfl (bp (us:=[]) cV rfl) (oY rfl (yMS rfl) (oY rfl (bp (us:=[]) cV rfl) (oY rfl (dl rfl rfl) (oN (eT ?_)))))))))))))))
 rcases iOs h with ⟨hp1,h⟩ | ⟨hp1,h⟩
 ·refine cT (vB hp1) (cS (cR (oY rfl (yAB rfl) (oN (eT (am (aa ?_)))))))
  obtain rfl:=sI h
  exact al (.inl rfl) rfl (rVt (v:=.bool false) rfl) (fun W2 hW2 => ⟨rfl,hW2.none⟩)
 ·refine cF (vB hp1) (cK (eT (cS (cS (cR (oY rfl (yAI rfl) (oN (eT (cB ?_)))))))))
  obtain ⟨u4,hl9,h⟩:=bOs h
  refine bF (fun (s:(Bool × Int)) L tm => ∃ (tm0:Nat → Value),L = [] ∧ tm = (upd (upd (upd (upd tm0 0 (.slice Aa p0.length ca)) 1 (.slice Ac p1.length cc)) 4 (.bool s.1)) 5 (vI s.2))) 0 hl9 ⟨_,rfl,(kp4 rfl)⟩ ?_ ?_
  ·rintro s3 L tm st ⟨tm0_s3,rfl,rfl⟩ h
   unfold cL at h
   refine cS (cS (cR (oY rfl (yMI rfl) (oY rfl (yMS rfl) (oY rfl (bp (us:=[]) cV rfl) (oY rfl (bj rfl rfl) (oN (eT ?_))))))))
   rcases iOs h with ⟨hp5,h⟩ | ⟨hp5,h⟩
   ·refine cT (vB hp5) (cK (eT (cS (cB (cS ?_)))))
    refine bh 9 cD (by kernel_rfl) (by kernel_rfl) ?_
    refine qY rfl (yMS rfl) (qY rfl (yMI rfl) ?_)
    obtain ⟨hg6,h⟩:=gOs h
    refine qY rfl (yI bZ (by decide) hg6.1 hg6.2 (RdL.arg hr0_0) (eL aA rfl) rfl rfl) ?_
    refine qY rfl (yR (A:=Aa) (j:=(Int.toNat s3.2 * 1)) (v:=vI (rdL p0 s3.2)) aV (RdL.arg hr0_0) rfl (aC aA hg6.1 (ah hg6.2 rfl) rfl)) (qY rfl (yMS rfl) (qY rfl (yMI rfl) ?_))
    obtain ⟨hg7,h⟩:=gOs h
    refine qY rfl (yI bZ (by decide) hg7.1 hg7.2 (RdL.arg hr1_0) (eL aA rfl) rfl rfl) ?_
    refine qY rfl (yR (A:=Ac) (j:=(Int.toNat s3.2 * 1)) (v:=vI (rdL p1 s3.2)) aV (RdL.arg hr1_0) rfl (aC aA hg7.1 (ah hg7.2 rfl) rfl)) (qY rfl (dl rfl rfl) (cd (oN (eT ?_))))
    rcases iOs h with ⟨hp8,h⟩ | ⟨hp8,h⟩
    ·refine cT (vB hp8) (cS (cR (oY rfl (yAB rfl) (oN (eT (am (ak (aa ?_))))))))
     obtain rfl:=sI h
     exact ax ⟨rfl,_,rfl,(kp4 rfl)⟩
    ·refine cF (vB hp8) (cK (aw (eT (cR (oY rfl (yMI rfl) (oY rfl (aT rfl rfl) (oY rfl (yAI rfl) (oN ?_))))))))
     obtain rfl:=sI h
     exact eN ⟨_,rfl,(kp4 rfl)⟩
   ·refine cF (vB hp5) (aH (ag ?_))
    obtain rfl:=sI h
    exact ax ⟨rfl,_,rfl,(kp4 rfl)⟩
  ·intro e L tm hJ
   rcases u4 with u10 | u11
   ·dsimp only at h hJ
    obtain ⟨rfl,tm0_u10,rfl,rfl⟩:=hJ
    refine ⟨(by intro hc; cases hc),?_⟩
    refine ak (aa ?_)
    obtain rfl:=sI h
    exact al (.inl rfl) rfl (rVt (v:=.bool u10.1) rfl) (fun W2 hW2 => ⟨rfl,hW2.none⟩)
   ·dsimp only at h hJ
    obtain ⟨rfl,tm0_u11,rfl,rfl⟩:=hJ
    refine ⟨(by intro hc; cases hc),?_⟩
    refine ac (eT (cS (cR (oY rfl (yAB rfl) (oN (eT (am ?_)))))))
    obtain rfl:=sI h
    exact al (.inl rfl) rfl (rVt (v:=.bool true) rfl) (fun W2 hW2 => ⟨rfl,hW2.none⟩)
theorem gw (p0:(List TO)) (p1:TO → Option Bool) (res:Int) (h:cC p0 p1 = some res) (W:World) (Aa:Option Addr) (n0_0 ca : Nat) (hn0_0:n0_0 = p0.length) (hr0_0:Rd W Aa n0_0 ca (encL aB p0)) (fid1:Nat) (fst1 caps1 : List Value) (hgo1:bC Tryz.prog fid1 = true) (hof1:∀ W2,Below W.heap.size W W2 → ∀ x,∀ y,p1 x = some y → Calls Tryz.prog fid1 (fst1 ++ (([.agg #[vI x.fID,vI x.fH.fLo,vI x.fH.fHi,vI x.fD,vI x.fW]] : List Value) ++ caps1)).toArray W2 fun e W3 => e = .returned (.bool y) ∧ Ext W2 W3 []) :
  Calls Tryz.prog 173 [.slice Aa n0_0 ca,.func (.func fid1) fst1.toArray caps1.toArray].toArray W fun e W2 => e = .returned (vI res) ∧ Ext W W2 []:=by
 subst hn0_0
 unfold cC at h
 refine ae (m:=19) Tryz.func173 rfl rfl (nB rfl) (cS (cR (oY rfl (yAI rfl) (oN (eT (cS (cS (cR (oY rfl (yMS rfl) (oY rfl (bp (us:=[]) lC rfl) (oY rfl (yMI rfl) (oN (eT (cB ?_))))))))))))))
 obtain ⟨u3,hl9,h⟩:=bOs h
 refine bF (fun (s:(Int × Int)) L tm => ∃ (tm0:Nat → Value),L = [] ∧ tm = (upd (upd (upd (upd (upd tm0 0 (.slice Aa p0.length ca)) 1 (.func (.func fid1) fst1.toArray caps1.toArray)) 4 (vI s.1)) 7 (vI (p0.length:Int))) 8 (vI s.2))) 0 hl9 ⟨_,rfl,(kp4 (kp rfl))⟩ ?_ ?_
 ·rintro s2 L tm st ⟨tm0_s2,rfl,rfl⟩ h
  unfold dE at h
  refine cS (cR (oY rfl (bj rfl rfl) (oN (eT (cS ?_)))))
  rcases iOs h with ⟨hp4,h⟩ | ⟨hp4,h⟩
  ·refine cT (vB hp4) (cK (eT (cS (cB (cS (cR (oY rfl (yMI rfl) (oY rfl (yAI rfl) (oN (eT (cS (cR (oY rfl (bR (v:=.func (.func fid1) fst1.toArray caps1.toArray) rfl) (oY rfl (yMS rfl) (oY rfl (yMI rfl) ?_)))))))))))))))
   obtain ⟨hg5,h⟩:=gOs h
   refine oY rfl (yI kC (by decide) hg5.1 hg5.2 (RdL.arg hr0_0) (eL ar rfl) rfl rfl) ?_
   refine oY rfl (yM (A:=Aa) (j:=(Int.toNat s2.2 * 5)) [vI ((rdL p0 s2.2).fID),vI ((rdL p0 s2.2).fH.fLo),vI ((rdL p0 s2.2).fH.fHi),vI ((rdL p0 s2.2).fD),vI ((rdL p0 s2.2).fW)] qV (Nat.succ_pos _) (RdL.arg hr0_0) rfl (bl ar hg5.1 (ah hg5.2 rfl))) ?_
   obtain ⟨y6,hy7,h⟩:=bOs h
   refine oY rfl (ie [.agg #[vI ((rdL p0 s2.2).fID),vI ((rdL p0 s2.2).fH.fLo),vI ((rdL p0 s2.2).fH.fHi),vI ((rdL p0 s2.2).fD),vI ((rdL p0 s2.2).fW)]] hgo1 rfl rfl (fun W2 hW2 => hof1 W2 hW2.below (TO.mk ((rdL p0 s2.2).fID) (TSpan.mk ((rdL p0 s2.2).fH.fLo) ((rdL p0 s2.2).fH.fHi)) ((rdL p0 s2.2).fD) ((rdL p0 s2.2).fW)) y6 hy7)) (oN (eT ?_))
   rcases iOs h with ⟨hp8,h⟩ | ⟨hp8,h⟩
   ·refine cT (vB hp8) (cS (cR (oY rfl (yMI rfl) (oY rfl (yAI rfl) (oN (eT (am (ak (aa ?_)))))))))
    obtain rfl:=sI h
    exact ax ⟨rfl,_,rfl,(kp4 (kp rfl))⟩
   ·refine cF (vB hp8) (cK (aw (eT (cR (oY rfl (aT rfl rfl) (oY rfl (yMI rfl) (oN ?_)))))))
    obtain rfl:=sI h
    exact eN ⟨_,rfl,(kp4 (kp rfl))⟩
  ·refine cF (vB hp4) (aH (ag ?_))
   obtain rfl:=sI h
   exact ax ⟨rfl,_,rfl,(kp4 (kp rfl))⟩
 ·intro e L tm hJ
  rcases u3 with u10 | u11
  ·dsimp only at h hJ
   obtain ⟨rfl,tm0_u10,rfl,rfl⟩:=hJ
   refine ⟨(by intro hc; cases hc),?_⟩
   refine ak (aa ?_)
   obtain rfl:=sI h
   exact al (.inl rfl) rfl (rVt (v:=vI u10.1) rfl) (fun W2 hW2 => ⟨rfl,hW2.none⟩)
  ·dsimp only at h hJ
   obtain ⟨rfl,tm0_u11,rfl,rfl⟩:=hJ
   refine ⟨(by intro hc; cases hc),?_⟩
   refine ac (eT (cS (cR (oY rfl (yAI rfl) (oN (eT (am ?_)))))))
   obtain rfl:=sI h
   exact al (.inl rfl) rfl (rVt (v:=vI (-1)) rfl) (fun W2 hW2 => ⟨rfl,hW2.none⟩)
theorem ik (p0:(List TO)) (p1:TO → Option Bool) (res:Int) (h:dh p0 p1 = some res) (W:World) (Aa:Option Addr) (n0_0 ca : Nat) (hn0_0:n0_0 = p0.length) (hr0_0:Rd W Aa n0_0 ca (encL aB p0)) (fid1:Nat) (fst1 caps1 : List Value) (hgo1:bC Tryz.prog fid1 = true) (hof1:∀ W2,Below W.heap.size W W2 → ∀ x,∀ y,p1 x = some y → Calls Tryz.prog fid1 (fst1 ++ (([.agg #[vI x.fID,vI x.fH.fLo,vI x.fH.fHi,vI x.fD,vI x.fW]] : List Value) ++ caps1)).toArray W2 fun e W3 => e = .returned (.bool y) ∧ Ext W2 W3 []) :
  Calls Tryz.prog 134 [.slice Aa n0_0 ca,.func (.func fid1) fst1.toArray caps1.toArray].toArray W fun e W2 => e = .returned (vI res) ∧ Ext W W2 []:=by
 subst hn0_0
 unfold dh at h
 refine ae (m:=8) Tryz.func134 rfl rfl (nB rfl) (cS (cR (oY rfl (yAI rfl) (oN (eT (cS (cR (oY rfl (yMS rfl) (oY rfl (bR (v:=.func (.func fid1) fst1.toArray caps1.toArray) rfl) ?_)))))))))
 obtain ⟨y1,hy2,h⟩:=bOs h
 refine oY rfl (yC [.slice Aa p0.length ca,.func (.func fid1) fst1.toArray caps1.toArray] go_173 rfl (fun W2 hW2 => gw p0 p1 y1 hy2 W2 Aa p0.length ca rfl ((RdL.arg hr0_0) W2 hW2) fid1 fst1 caps1 hgo1 (fun W3 hb => hof1 W3 (fV hW2.below hb))) rfl) (oY rfl (yAI rfl) (oN (eT (am ?_))))
 obtain rfl:=sI h
 exact al (.inl rfl) rfl (rVt (v:=vI y1) rfl) (fun W2 hW2 => ⟨rfl,hW2.none⟩)
theorem nU (p0:TO) (cap0:Int) (res:Bool) (h:iZ p0 cap0 = some res) (W:World) (bc0:Nat) (hcap0:Rd W (some ⟨bc0,0,none⟩) 1 1 (cI cap0)) :
  Calls Tryz.prog 135 [.agg #[vI p0.fID,vI p0.fH.fLo,vI p0.fH.fHi,vI p0.fD,vI p0.fW],.pointer (some ⟨bc0,0,none⟩)].toArray W fun e W2 => e = .returned (.bool res) ∧ Ext W W2 []:=by
 unfold iZ at h
 refine ae (m:=8) Tryz.func135 rfl rfl (nB rfl) (cS (cR ?_))
 refine aW [vI p0.fID,vI p0.fH.fLo,vI p0.fH.fHi,vI p0.fD,vI p0.fW] rfl rfl rfl (fun b1 => ?_)
 refine oY rfl (yAB rfl) (oN (eT (cS (cR (oY rfl (yFA ku rfl) (oY rfl (yL 0 aV rfl rfl rfl) (oY rfl (yR (A:=(some ⟨bc0,0,none⟩)) (j:=0) (v:=vI cap0) aV (RdL.arg hcap0) rfl rfl) (oY rfl (da rfl rfl) (oY rfl (yAB rfl) (oN (eT (am ?_))))))))))))
 obtain rfl:=sI h
 exact al (.inl rfl) rfl (rVt (v:=.bool (p0.fID == cap0)) rfl) (fun W2 hW2 => ⟨rfl,hW2.none⟩)
theorem jM (p0:TY) (p1:Int) (res:Int) (h:jy p0 p1 = some res) (W:World) (Aa:Option Addr) (n0_0 ca : Nat) (hn0_0:n0_0 = p0.fB.length) (hr0_0:Rd W Aa n0_0 ca (encL aG p0.fB)) (Ab:Option Addr) (n0_1 cb : Nat) (hn0_1:n0_1 = p0.fR.length) (hr0_1:Rd W Ab n0_1 cb (encL aB p0.fR)) :
  Calls Tryz.prog 90 [.agg #[.slice Aa n0_0 ca,.slice Ab n0_1 cb],vI p1].toArray W fun e W2 => e = .returned (vI res) ∧ Ext W W2 []:=by
 subst hn0_0
 subst hn0_1
 unfold jy at h
 refine ae (m:=9) Tryz.func90 rfl rfl (nB rfl) (cS (cR ?_))
 refine aW [.slice Aa p0.fB.length ca,.slice Ab p0.fR.length cb] rfl rfl rfl (fun b1 => ?_)
 refine aW [vI p1] rfl rfl rfl (fun b2 => ?_)
 refine oY rfl (yAI rfl) (oN (eT (cS (cR (oY rfl (yFA cn rfl) (oY rfl (yL 0 gP rfl rfl rfl) (oY rfl (ct [.pointer (some ⟨b2,0,none⟩)] rfl rfl) ?_)))))))
 obtain ⟨y4,hy5,h⟩:=bOs h
 refine oY rfl (yC [.slice Ab p0.fR.length cb,.func (.func 135) #[] #[.pointer (some ⟨b2,0,none⟩)]] go_134 rfl (fun W2 hW2 => ik p0.fR (fun x3 => iZ x3 p1) y4 hy5 W2 Ab p0.fR.length cb rfl ((RdL.arg hr0_1) W2 hW2) 135 [] [.pointer (some ⟨b2,0,none⟩)] go_135 (fun W3 hb x y hxy => nU  x p1 y hxy W3 b2 (((RdL.cells 1 rfl) W2 hW2).later hb))) rfl) (oY rfl (yAI rfl) (oN (eT (am ?_))))
 obtain rfl:=sI h
 exact al (.inl rfl) rfl (rVt (v:=vI y4) rfl) (fun W2 hW2 => ⟨rfl,hW2.none⟩)
theorem iA (p0:(List TBay)) (p1:TBay → Option Bool) (res:Int) (h:dJ p0 p1 = some res) (W:World) (Aa:Option Addr) (n0_0 ca : Nat) (hn0_0:n0_0 = p0.length) (hr0_0:Rd W Aa n0_0 ca (encL aG p0)) (fid1:Nat) (fst1 caps1 : List Value) (hgo1:bC Tryz.prog fid1 = true) (hof1:∀ W2,Below W.heap.size W W2 → ∀ x,∀ y,p1 x = some y → Calls Tryz.prog fid1 (fst1 ++ (([.agg #[vI x.fID,vI x.fHour,vI x.fD]] : List Value) ++ caps1)).toArray W2 fun e W3 => e = .returned (.bool y) ∧ Ext W2 W3 []) :
  Calls Tryz.prog 174 [.slice Aa n0_0 ca,.func (.func fid1) fst1.toArray caps1.toArray].toArray W fun e W2 => e = .returned (vI res) ∧ Ext W W2 []:=by
 subst hn0_0
 unfold dJ at h
 refine ae (m:=19) Tryz.func174 rfl rfl (nB rfl) (cS (cR (oY rfl (yAI rfl) (oN (eT (cS (cS (cR (oY rfl (yMS rfl) (oY rfl (bp (us:=[]) kg rfl) (oY rfl (yMI rfl) (oN (eT (cB ?_))))))))))))))
 obtain ⟨u3,hl9,h⟩:=bOs h
 refine bF (fun (s:(Int × Int)) L tm => ∃ (tm0:Nat → Value),L = [] ∧ tm = (upd (upd (upd (upd (upd tm0 0 (.slice Aa p0.length ca)) 1 (.func (.func fid1) fst1.toArray caps1.toArray)) 4 (vI s.1)) 7 (vI (p0.length:Int))) 8 (vI s.2))) 0 hl9 ⟨_,rfl,(kp4 (kp rfl))⟩ ?_ ?_
 ·rintro s2 L tm st ⟨tm0_s2,rfl,rfl⟩ h
  unfold eI at h
  refine cS (cR (oY rfl (bj rfl rfl) (oN (eT (cS ?_)))))
  rcases iOs h with ⟨hp4,h⟩ | ⟨hp4,h⟩
  ·refine cT (vB hp4) (cK (eT (cS (cB (cS (cR (oY rfl (yMI rfl) (oY rfl (yAI rfl) (oN (eT (cS (cR (oY rfl (bR (v:=.func (.func fid1) fst1.toArray caps1.toArray) rfl) (oY rfl (yMS rfl) (oY rfl (yMI rfl) ?_)))))))))))))))
   obtain ⟨hg5,h⟩:=gOs h
   refine oY rfl (yI mF (by decide) hg5.1 hg5.2 (RdL.arg hr0_0) (eL aK rfl) rfl rfl) ?_
   refine oY rfl (yM (A:=Aa) (j:=(Int.toNat s2.2 * 3)) [vI ((rdL p0 s2.2).fID),vI ((rdL p0 s2.2).fHour),vI ((rdL p0 s2.2).fD)] ag_69 (Nat.succ_pos _) (RdL.arg hr0_0) rfl (bl aK hg5.1 (ah hg5.2 rfl))) ?_
   obtain ⟨y6,hy7,h⟩:=bOs h
   refine oY rfl (ie [.agg #[vI ((rdL p0 s2.2).fID),vI ((rdL p0 s2.2).fHour),vI ((rdL p0 s2.2).fD)]] hgo1 rfl rfl (fun W2 hW2 => hof1 W2 hW2.below (TBay.mk ((rdL p0 s2.2).fID) ((rdL p0 s2.2).fHour) ((rdL p0 s2.2).fD)) y6 hy7)) (oN (eT ?_))
   rcases iOs h with ⟨hp8,h⟩ | ⟨hp8,h⟩
   ·refine cT (vB hp8) (cS (cR (oY rfl (yMI rfl) (oY rfl (yAI rfl) (oN (eT (am (ak (aa ?_)))))))))
    obtain rfl:=sI h
    exact ax ⟨rfl,_,rfl,(kp4 (kp rfl))⟩
   ·refine cF (vB hp8) (cK (aw (eT (cR (oY rfl (aT rfl rfl) (oY rfl (yMI rfl) (oN ?_)))))))
    obtain rfl:=sI h
    exact eN ⟨_,rfl,(kp4 (kp rfl))⟩
  ·refine cF (vB hp4) (aH (ag ?_))
   obtain rfl:=sI h
   exact ax ⟨rfl,_,rfl,(kp4 (kp rfl))⟩
 ·intro e L tm hJ
  rcases u3 with u10 | u11
  ·dsimp only at h hJ
   obtain ⟨rfl,tm0_u10,rfl,rfl⟩:=hJ
   refine ⟨(by intro hc; cases hc),?_⟩
   refine ak (aa ?_)
   obtain rfl:=sI h
   exact al (.inl rfl) rfl (rVt (v:=vI u10.1) rfl) (fun W2 hW2 => ⟨rfl,hW2.none⟩)
  ·dsimp only at h hJ
   obtain ⟨rfl,tm0_u11,rfl,rfl⟩:=hJ
   refine ⟨(by intro hc; cases hc),?_⟩
   refine ac (eT (cS (cR (oY rfl (yAI rfl) (oN (eT (am ?_)))))))
   obtain rfl:=sI h
   exact al (.inl rfl) rfl (rVt (v:=vI (-1)) rfl) (fun W2 hW2 => ⟨rfl,hW2.none⟩)
theorem iS (p0:(List TBay)) (p1:TBay → Option Bool) (res:Int) (h:dR p0 p1 = some res) (W:World) (Aa:Option Addr) (n0_0 ca : Nat) (hn0_0:n0_0 = p0.length) (hr0_0:Rd W Aa n0_0 ca (encL aG p0)) (fid1:Nat) (fst1 caps1 : List Value) (hgo1:bC Tryz.prog fid1 = true) (hof1:∀ W2,Below W.heap.size W W2 → ∀ x,∀ y,p1 x = some y → Calls Tryz.prog fid1 (fst1 ++ (([.agg #[vI x.fID,vI x.fHour,vI x.fD]] : List Value) ++ caps1)).toArray W2 fun e W3 => e = .returned (.bool y) ∧ Ext W2 W3 []) :
  Calls Tryz.prog 139 [.slice Aa n0_0 ca,.func (.func fid1) fst1.toArray caps1.toArray].toArray W fun e W2 => e = .returned (vI res) ∧ Ext W W2 []:=by
 subst hn0_0
 unfold dR at h
 refine ae (m:=8) Tryz.func139 rfl rfl (nB rfl) (cS (cR (oY rfl (yAI rfl) (oN (eT (cS (cR (oY rfl (yMS rfl) (oY rfl (bR (v:=.func (.func fid1) fst1.toArray caps1.toArray) rfl) ?_)))))))))
 obtain ⟨y1,hy2,h⟩:=bOs h
 refine oY rfl (yC [.slice Aa p0.length ca,.func (.func fid1) fst1.toArray caps1.toArray] go_174 rfl (fun W2 hW2 => iA p0 p1 y1 hy2 W2 Aa p0.length ca rfl ((RdL.arg hr0_0) W2 hW2) fid1 fst1 caps1 hgo1 (fun W3 hb => hof1 W3 (fV hW2.below hb))) rfl) (oY rfl (yAI rfl) (oN (eT (am ?_))))
 obtain rfl:=sI h
 exact al (.inl rfl) rfl (rVt (v:=vI y1) rfl) (fun W2 hW2 => ⟨rfl,hW2.none⟩)
theorem pz (p0:TBay) (cap0:Int) (res:Bool) (h:kW p0 cap0 = some res) (W:World) (bc0:Nat) (hcap0:Rd W (some ⟨bc0,0,none⟩) 1 1 (cI cap0)) :
  Calls Tryz.prog 140 [.agg #[vI p0.fID,vI p0.fHour,vI p0.fD],.pointer (some ⟨bc0,0,none⟩)].toArray W fun e W2 => e = .returned (.bool res) ∧ Ext W W2 []:=by
 unfold kW at h
 refine ae (m:=8) Tryz.func140 rfl rfl (nB rfl) (cS (cR ?_))
 refine aW [vI p0.fID,vI p0.fHour,vI p0.fD] rfl rfl rfl (fun b1 => ?_)
 refine oY rfl (yAB rfl) (oN (eT (cS (cR (oY rfl (yFA kL rfl) (oY rfl (yL 0 aV rfl rfl rfl) (oY rfl (yR (A:=(some ⟨bc0,0,none⟩)) (j:=0) (v:=vI cap0) aV (RdL.arg hcap0) rfl rfl) (oY rfl (da rfl rfl) (oY rfl (yAB rfl) (oN (eT (am ?_))))))))))))
 obtain rfl:=sI h
 exact al (.inl rfl) rfl (rVt (v:=.bool (p0.fID == cap0)) rfl) (fun W2 hW2 => ⟨rfl,hW2.none⟩)
theorem ny (p0:TY) (p1:Int) (res:Int) (h:nf p0 p1 = some res) (W:World) (Aa:Option Addr) (n0_0 ca : Nat) (hn0_0:n0_0 = p0.fB.length) (hr0_0:Rd W Aa n0_0 ca (encL aG p0.fB)) (Ab:Option Addr) (n0_1 cb : Nat) (hn0_1:n0_1 = p0.fR.length) (hr0_1:Rd W Ab n0_1 cb (encL aB p0.fR)) :
  Calls Tryz.prog 96 [.agg #[.slice Aa n0_0 ca,.slice Ab n0_1 cb],vI p1].toArray W fun e W2 => e = .returned (vI res) ∧ Ext W W2 []:=by
 subst hn0_0
 subst hn0_1
 unfold nf at h
 refine ae (m:=9) Tryz.func96 rfl rfl (nB rfl) (cS (cR ?_))
 refine aW [.slice Aa p0.fB.length ca,.slice Ab p0.fR.length cb] rfl rfl rfl (fun b1 => ?_)
 refine aW [vI p1] rfl rfl rfl (fun b2 => ?_)
 refine oY rfl (yAI rfl) (oN (eT (cS (cR (oY rfl (yFA eM rfl) (oY rfl (yL 0 ky rfl rfl rfl) (oY rfl (ct [.pointer (some ⟨b2,0,none⟩)] rfl rfl) ?_)))))))
 obtain ⟨y4,hy5,h⟩:=bOs h
 refine oY rfl (yC [.slice Aa p0.fB.length ca,.func (.func 140) #[] #[.pointer (some ⟨b2,0,none⟩)]] go_139 rfl (fun W2 hW2 => iS p0.fB (fun x3 => kW x3 p1) y4 hy5 W2 Aa p0.fB.length ca rfl ((RdL.arg hr0_0) W2 hW2) 140 [] [.pointer (some ⟨b2,0,none⟩)] go_140 (fun W3 hb x y hxy => pz  x p1 y hxy W3 b2 (((RdL.cells 1 rfl) W2 hW2).later hb))) rfl) (oY rfl (yAI rfl) (oN (eT (am ?_))))
 obtain rfl:=sI h
 exact al (.inl rfl) rfl (rVt (v:=vI y4) rfl) (fun W2 hW2 => ⟨rfl,hW2.none⟩)
end Go.Proofs.YthndghnkebboaaaGreat
