import Derived.Test.YthndghnkebboaaaGreatGz
set_option linter.unusedVariables false
namespace Go.Proofs.YthndghnkebboaaaGreat
noncomputable section
structure TSpan where
 fLo : Int
 fHi : Int
 deriving DecidableEq
instance : Inhabited TSpan:=⟨⟨default,default⟩⟩
def TSpan_rg (x:TSpan) : Prop:=Rg_i64 x.fLo ∧ Rg_i64 x.fHi
structure TT where
 fID : Int
 fFrom : Int
 fTo : Int
 fLong : Int
 fToll : Int
 fK : (List TSpan)
 deriving DecidableEq
instance : Inhabited TT:=⟨⟨default,default,default,default,default,default⟩⟩
def TTrack_rg (x:TT) : Prop:=Rg_i64 x.fID ∧ Rg_i64 x.fFrom ∧ Rg_i64 x.fTo ∧ Rg_i64 x.fLong ∧ Rg_i64 x.fToll ∧ (Rg_list TSpan_rg x.fK)
structure TR where
 fPlaces : Int
 fTracks : (List TT)
 deriving DecidableEq
instance : Inhabited TR:=⟨⟨default,default⟩⟩
def TRoads_rg (x:TR) : Prop:=Rg_i64 x.fPlaces ∧ (Rg_list TTrack_rg x.fTracks)
structure Ts where
 f_place : Int
 f_toll : Int
 deriving DecidableEq
instance : Inhabited Ts:=⟨⟨default,default⟩⟩
def Tstop_rg (x:Ts) : Prop:=Rg_i64 x.f_place ∧ Rg_i64 x.f_toll
structure Twait where
 f_at : Int
 f_stop : Ts
 deriving DecidableEq
instance : Inhabited Twait:=⟨⟨default,default⟩⟩
def Twait_rg (x:Twait) : Prop:=Rg_i64 x.f_at ∧ Rg_i64 x.f_stop.f_place ∧ Rg_i64 x.f_stop.f_toll
structure TLeg where
 fTrack : Int
 fHour : Int
 deriving DecidableEq
instance : Inhabited TLeg:=⟨⟨default,default⟩⟩
def TLeg_rg (x:TLeg) : Prop:=Rg_i64 x.fTrack ∧ Rg_i64 x.fHour
structure Tl where
 f_at : Int
 f_from : Ts
 f_leg : TLeg
 f_begin : Bool
 deriving DecidableEq
instance : Inhabited Tl:=⟨⟨default,default,default,default⟩⟩
def Tlabel_rg (x:Tl) : Prop:=Rg_i64 x.f_at ∧ Rg_i64 x.f_from.f_place ∧ Rg_i64 x.f_from.f_toll ∧ Rg_i64 x.f_leg.fTrack ∧ Rg_i64 x.f_leg.fHour
structure TJ where
 fLegs : (List TLeg)
 fA : Int
 fToll : Int
 deriving DecidableEq
instance : Inhabited TJ:=⟨⟨default,default,default⟩⟩
def TJourney_rg (x:TJ) : Prop:=(Rg_list TLeg_rg x.fLegs) ∧ Rg_i64 x.fA ∧ Rg_i64 x.fToll
structure TO where
 fID : Int
 fH : TSpan
 fD : Int
 fW : Int
 deriving DecidableEq
instance : Inhabited TO:=⟨⟨default,default,default,default⟩⟩
def sY (x:TO) : Prop:=Rg_i64 x.fID ∧ Rg_i64 x.fH.fLo ∧ Rg_i64 x.fH.fHi ∧ Rg_i64 x.fD ∧ Rg_i64 x.fW
structure TBay where
 fID : Int
 fHour : Int
 fD : Int
 deriving DecidableEq
instance : Inhabited TBay:=⟨⟨default,default,default⟩⟩
def TBay_rg (x:TBay) : Prop:=Rg_i64 x.fID ∧ Rg_i64 x.fHour ∧ Rg_i64 x.fD
structure TY where
 fB : (List TBay)
 fR : (List TO)
 deriving DecidableEq
instance : Inhabited TY:=⟨⟨default,default⟩⟩
def TYard_rg (x:TY) : Prop:=(Rg_list TBay_rg x.fB) ∧ (Rg_list sY x.fR)
structure TPlan where
 fG : (List Int)
 fW : Int
 fPrices : (List Int)
 deriving DecidableEq
instance : Inhabited TPlan:=⟨⟨default,default,default⟩⟩
def TPlan_rg (x:TPlan) : Prop:=(Rg_list Rg_i64 x.fG) ∧ Rg_i64 x.fW ∧ (Rg_list Rg_i64 x.fPrices)
structure TTimes where
 fH : (List (List Int))
 deriving DecidableEq
instance : Inhabited TTimes:=⟨⟨default⟩⟩
def TTimes_rg (x:TTimes) : Prop:=(Rg_list (Rg_list Rg_i64) x.fH)
structure TPoint where
 fToll : Int
 fA : Int
 deriving DecidableEq
instance : Inhabited TPoint:=⟨⟨default,default⟩⟩
def TPoint_rg (x:TPoint) : Prop:=Rg_i64 x.fToll ∧ Rg_i64 x.fA
structure TPointed where
 fP : TPoint
 fE : Int
 deriving DecidableEq
instance : Inhabited TPointed:=⟨⟨default,default⟩⟩
def TPointed_rg (x:TPointed) : Prop:=Rg_i64 x.fP.fToll ∧ Rg_i64 x.fP.fA ∧ Rg_i64 x.fE
structure TInts where
 fL : (List Int)
 fE : Int
 deriving DecidableEq
instance : Inhabited TInts:=⟨⟨default,default⟩⟩
def TInts_rg (x:TInts) : Prop:=(Rg_list Rg_i64 x.fL) ∧ Rg_i64 x.fE
structure TTimed where
 fT : TTimes
 fE : Int
 deriving DecidableEq
instance : Inhabited TTimed:=⟨⟨default,default⟩⟩
def TTimed_rg (x:TTimed) : Prop:=(Rg_list (Rg_list Rg_i64) x.fT.fH) ∧ Rg_i64 x.fE
structure TFronted where
 fL : (List TPoint)
 fE : Int
 deriving DecidableEq
instance : Inhabited TFronted:=⟨⟨default,default⟩⟩
def TFronted_rg (x:TFronted) : Prop:=(Rg_list TPoint_rg x.fL) ∧ Rg_i64 x.fE
def aO (x:Ts) : Bool:=dP x.f_place && dP x.f_toll
def eY (p0:TR) (s3:(Bool × Int)) : Option ((Bool × Int) ⊕ ((Bool × Int) ⊕ (Bool × Int))) :=
 (if decide (s3.2 < (p0.fTracks.length:Int)) = true then al ((0:Int) ≤ s3.2 ∧ s3.2 < (p0.fTracks.length:Int)) ((if decide (12 < (((rdL p0.fTracks s3.2).fK.length : Nat) : Int)) = true then some (.inr (.inl (false,s3.2))) else some (.inl (s3.1,w64 (s3.2 + 1))))) else some (.inr (.inr (s3.1,s3.2))))
def fV (p0:TR) : Option Bool :=
 ((aR (eY p0) (false,0)).bind fun u4 => match u4 with | (.inl u9) => some u9.1 | (.inr u10) => some (((decide (p0.fPlaces ≤ 8)) || (decide (16 < p0.fPlaces))) && ((decide ((p0.fTracks.length:Int) ≤ 16)) || ((decide (48 < (p0.fTracks.length:Int))) && (decide ((p0.fTracks.length:Int) ≤ 60))))))
def be (p0:Int) (p1:Int) (p2:Int) : Option Bool :=
 some ((decide (p1 ≤ p0)) && (decide (p0 ≤ p2)))
def c3 (p0:Int) : Option Bool :=
 ((be p0 0 16384).bind fun y1 => some y1)
def eU (p0:(List TSpan)) (s2:(Bool × Int × Int)) : Option ((Bool × Int × Int) ⊕ ((Bool × Int × Int) ⊕ (Bool × Int × Int))) :=
 (if decide (s2.2.2 < (p0.length:Int)) = true then al ((0:Int) ≤ s2.2.2 ∧ s2.2.2 < (p0.length:Int)) ((if (((decide ((rdL p0 s2.2.2).fLo < w64 (s2.2.1 + 2))) || (decide ((rdL p0 s2.2.2).fHi < (rdL p0 s2.2.2).fLo))) || (decide (16384 < (rdL p0 s2.2.2).fHi))) = true then some (.inr (.inl (false,s2.2.1,s2.2.2))) else some (.inl (s2.1,(rdL p0 s2.2.2).fHi,w64 (s2.2.2 + 1))))) else some (.inr (.inr (s2.1,s2.2.1,s2.2.2))))
def gd (p0:(List TSpan)) : Option Bool :=
 ((aR (eU p0) (false,(-2),0)).bind fun u3 => match u3 with | (.inl u11) => some u11.1 | (.inr u12) => some (decide ((p0.length:Int) ≤ 4)))
def bb (p0:(List TT)) (p1:TT → Option Bool) (s2:(Int × Int)) : Option ((Int × Int) ⊕ ((Int × Int) ⊕ (Int × Int))) :=
 (if decide (s2.2 < (p0.length:Int)) = true then al ((0:Int) ≤ s2.2 ∧ s2.2 < (p0.length:Int)) (((p1 (TT.mk ((rdL p0 s2.2).fID) ((rdL p0 s2.2).fFrom) ((rdL p0 s2.2).fTo) ((rdL p0 s2.2).fLong) ((rdL p0 s2.2).fToll) ((rdL p0 s2.2).fK))).bind fun y6 => (if y6 = true then some (.inr (.inl (s2.2,s2.2))) else some (.inl (s2.1,w64 (s2.2 + 1)))))) else some (.inr (.inr (s2.1,s2.2))))
def bu (p0:(List TT)) (p1:TT → Option Bool) : Option Int :=
 ((aR (bb p0 p1) (0,0)).bind fun u3 => match u3 with | (.inl u10) => some u10.1 | (.inr u11) => some (-1))
def bZ (p0:(List TT)) (p1:TT → Option Bool) : Option Int :=
 ((bu p0 p1).bind fun y1 => some y1)
def gC (p0:TT) (cap0:Int) : Option Bool :=
 some (p0.fID == cap0)
def gW (p0:TR) (p1:Int) : Option Int :=
 ((bZ p0.fTracks (fun x3 => gC x3 p1)).bind fun y4 => some y4)
def gu (p0:Int) (cap0:TR) : Option Bool :=
 ((be p0 0 (w64 (cap0.fPlaces - 1))).bind fun y1 => some y1)
def fU (p0:TR) (s7:(Int × Int)) : Option ((Int × Int) ⊕ ((Int × Int) ⊕ (Int × Int))) :=
 (if decide (s7.2 < (p0.fTracks.length:Int)) = true then al ((0:Int) ≤ s7.2 ∧ s7.2 < (p0.fTracks.length:Int)) (((be ((rdL p0.fTracks s7.2).fID) 1 1099511627776).bind fun y12 => ((if (!y12) = true then (some (true)) else ((gu ((rdL p0.fTracks s7.2).fFrom) p0).bind fun y42 => some ((!y42)))).bind fun b15 => ((if b15 = true then (some (true)) else ((gu ((rdL p0.fTracks s7.2).fTo) p0).bind fun y40 => some ((!y40)))).bind fun b18 => ((if (b18 || (((rdL p0.fTracks s7.2).fFrom) == ((rdL p0.fTracks s7.2).fTo))) = true then (some (true)) else ((be ((rdL p0.fTracks s7.2).fLong) 1 72).bind fun y38 => some ((!y38)))).bind fun b22 => ((if b22 = true then (some (true)) else ((be ((rdL p0.fTracks s7.2).fToll) 0 40).bind fun y36 => some ((!y36)))).bind fun b25 => ((if b25 = true then (some (true)) else ((gd ((rdL p0.fTracks s7.2).fK)).bind fun y34 => some ((!y34)))).bind fun b28 => (if b28 = true then some (.inr (.inl (1,s7.2))) else ((gW p0 ((rdL p0.fTracks s7.2).fID)).bind fun y31 => (if decide (y31 < s7.2) = true then some (.inr (.inl (6,s7.2))) else some (.inl (s7.1,w64 (s7.2 + 1))))))))))))) else some (.inr (.inr (s7.1,s7.2))))
def ja (p0:TR) : Option Int :=
 ((be p0.fPlaces 1 16).bind fun y2 => (if (!y2) = true then some 1 else (if decide (48 < (p0.fTracks.length:Int)) = true then some 2 else ((aR (fU p0) (0,0)).bind fun u8 => match u8 with | (.inl u45) => some u45.1 | (.inr u46) => some 0))))
def dS (p0:TR) (p1:Int) (p2:Int) (p3:Int) (p4:Int) : Option Int :=
 ((ja p0).bind fun y2 => (if (y2 != 0) = true then some y2 else ((be p1 0 (w64 (p0.fPlaces - 1))).bind fun y5 => ((if (!y5) = true then (some (true)) else ((be p2 0 (w64 (p0.fPlaces - 1))).bind fun y21 => some ((!y21)))).bind fun b8 => ((if b8 = true then (some (true)) else ((c3 p3).bind fun y19 => some ((!y19)))).bind fun b11 => ((if b11 = true then (some (true)) else ((be p4 0 60).bind fun y17 => some ((!y17)))).bind fun b14 => (if b14 = true then some 1 else some 0)))))))
def eO (p0:TT) (s3:(Int × Int)) : Option ((Int × Int) ⊕ (Int × Int)) :=
 (if decide (s3.2 < (p0.fK.length:Int)) = true then al ((0:Int) ≤ s3.2 ∧ s3.2 < (p0.fK.length:Int)) (((be s3.1 ((rdL p0.fK s3.2).fLo) ((rdL p0.fK s3.2).fHi)).bind fun y8 => (if y8 = true then some (.inl (w64 (((rdL p0.fK s3.2).fHi) + 1),w64 (s3.2 + 1))) else some (.inl (s3.1,w64 (s3.2 + 1)))))) else some (.inr (s3.1,s3.2)))
def fm (p0:TT) (p1:Int) : Option (Int × Bool) :=
 ((aR (eO p0) (p1,0)).bind fun u4 => ((c3 u4.1).bind fun y12 => some (u4.1,y12)))
def cd (p0:(List Twait)) : Option Int :=
 some (p0.length:Int)
def ci (p0:(List Twait)) (p1:Int) (p2:Int) : Option Bool :=
 al ((0:Int) ≤ p1 ∧ p1 < (p0.length:Int)) (al ((0:Int) ≤ p2 ∧ p2 < (p0.length:Int)) (some (decide ((rdL p0 p1).f_at < (rdL p0 p2).f_at))))
def bO (p0:(List Twait)) (p1:Int) (p2:Int) : Option (List Twait) :=
 al ((0:Int) ≤ p2 ∧ p2 < (p0.length:Int)) (al ((0:Int) ≤ p1 ∧ p1 < (p0.length:Int)) (al ((0:Int) ≤ p1 ∧ p1 < (p0.length:Int)) (al ((0:Int) ≤ p2 ∧ p2 < (p0.length:Int)) (some ((p0.set (Int.toNat p1) (rdL p0 p2)).set (Int.toNat p2) (rdL p0 p1))))))
def cO (p2:Int) (s3:(Int × (List Twait))) : Option ((Int × (List Twait)) ⊕ (Int × (List Twait))) :=
 (if ((decide (p2 ≤ w64 ((w64 (2 * s3.1)) + 1))) || (decide (w64 ((w64 (2 * s3.1)) + 1) < 0))) = true then some (.inr (s3.1,s3.2)) else ((if decide (w64 ((w64 ((w64 (2 * s3.1)) + 1)) + 1) < p2) = true then ((ci s3.2 (w64 ((w64 ((w64 (2 * s3.1)) + 1)) + 1)) (w64 ((w64 (2 * s3.1)) + 1))).bind fun y23 => some (y23)) else (some (false))).bind fun b8 => (if b8 = true then ((ci s3.2 (w64 ((w64 ((w64 (2 * s3.1)) + 1)) + 1)) s3.1).bind fun y11 => (if (!y11) = true then some (.inr (s3.1,s3.2)) else ((bO s3.2 s3.1 (w64 ((w64 ((w64 (2 * s3.1)) + 1)) + 1))).bind fun y14 => some (.inl (w64 ((w64 ((w64 (2 * s3.1)) + 1)) + 1),y14))))) else ((ci s3.2 (w64 ((w64 (2 * s3.1)) + 1)) s3.1).bind fun y17 => (if (!y17) = true then some (.inr (s3.1,s3.2)) else ((bO s3.2 s3.1 (w64 ((w64 (2 * s3.1)) + 1))).bind fun y20 => some (.inl (w64 ((w64 (2 * s3.1)) + 1),y20))))))))
def cG (p0:(List Twait)) (p1:Int) (p2:Int) : Option (Bool × (List Twait)) :=
 ((aR (cO p2) (p1,p0)).bind fun u4 => some (decide (p1 < u4.1),u4.2))
def gl (p0:(List Twait)) : Option (Twait × (List Twait)) :=
 al ((0:Int) ≤ w64 ((p0.length:Int) - 1) ∧ w64 ((p0.length:Int) - 1) < (p0.length:Int)) (al ((0:Int) ≤ w64 ((p0.length:Int) - 1) ∧ w64 ((p0.length:Int) - 1) ≤ (p0.length:Int)) (some ((Twait.mk ((rdL p0 (w64 ((p0.length:Int) - 1))).f_at) (Ts.mk ((rdL p0 (w64 ((p0.length:Int) - 1))).f_stop.f_place) ((rdL p0 (w64 ((p0.length:Int) - 1))).f_stop.f_toll))),(p0.take (Int.toNat (w64 ((p0.length:Int) - 1)))))))
def da (p0:(List Twait)) : Option (Twait × (List Twait)) :=
 ((cd p0).bind fun y1 => ((bO p0 0 (w64 (y1 - 1))).bind fun y3 => ((cG y3 0 (w64 (y1 - 1))).bind fun y6 => ((gl y6.2).bind fun y12 => some (y12.1,y12.2)))))
def fp (x:TR × Int) : Prop:=x.1.fTracks.length ≤ 1000
instance (x:TR × Int) : Decidable (fp x):=by unfold fp; infer_instance
def nf (x:TR × Int) : List TT:=x.1.fTracks.filter fun z => z.fFrom == x.2
def ju (p0:TR) (p1:Int) : Option Unit :=
 some ()
def dr (s3:(Int × (List Twait))) : Option ((Int × (List Twait)) ⊕ (Int × (List Twait))) :=
 ((if ((w64 (Int.tdiv (w64 (s3.1 - 1)) 2)) == s3.1) = true then (some (true)) else ((ci s3.2 s3.1 (w64 (Int.tdiv (w64 (s3.1 - 1)) 2))).bind fun y12 => some ((!y12)))).bind fun b6 => (if b6 = true then some (.inr (s3.1,s3.2)) else ((bO s3.2 (w64 (Int.tdiv (w64 (s3.1 - 1)) 2)) s3.1).bind fun y9 => some (.inl (w64 (Int.tdiv (w64 (s3.1 - 1)) 2),y9)))))
def dv (p0:(List Twait)) (p1:Int) : Option (List Twait) :=
 ((aR (dr) (p1,p0)).bind fun u4 => some u4.2)
def fM (p0:(List Twait)) (p1:Twait) : Option (List Twait) :=
 al (p0.length + 1 ≤ 1000000000) (some (p0 ++ [p1]))
def cJ (p0:(List Twait)) (p1:Twait) : Option (List Twait) :=
 ((fM p0 p1).bind fun y1 => ((cd y1).bind fun y7 => ((dv y1 (w64 (y7 - 1))).bind fun y9 => some y9)))
def cv (y15:(Twait × (List Twait))) (s39:((List (Ts × Tl)) × (List Twait))) (x40:TT) : Option (((List (Ts × Tl)) × (List Twait)) ⊕ Unit) :=
 ((fm x40 y15.1.f_at).bind fun y43 => ((if ((!y43.2) || (decide (60 < w64 (y15.1.f_stop.f_toll + x40.fToll)))) = true then (some (true)) else ((c3 (w64 (y43.1 + x40.fLong))).bind fun y62 => some ((!y62)))).bind fun b48 => (if b48 = true then some (.inl (s39.1,s39.2)) else al (aO (Ts.mk x40.fTo (w64 (y15.1.f_stop.f_toll + x40.fToll))) = true) ((if ((bh s39.1 (Ts.mk x40.fTo (w64 (y15.1.f_stop.f_toll + x40.fToll)))) && (decide ((az (Tl.mk 0 (Ts.mk 0 0) (TLeg.mk 0 0) false) s39.1 (Ts.mk x40.fTo (w64 (y15.1.f_stop.f_toll + x40.fToll)))).f_at ≤ w64 (y43.1 + x40.fLong)))) = true then some (.inl (s39.1,s39.2)) else al (aO (Ts.mk x40.fTo (w64 (y15.1.f_stop.f_toll + x40.fToll))) = true ∧ List.length s39.1 < 1000000000) (((cJ s39.2 (Twait.mk (w64 (y43.1 + x40.fLong)) (Ts.mk x40.fTo (w64 (y15.1.f_stop.f_toll + x40.fToll))))).bind fun y56 => some (.inl ((((Ts.mk x40.fTo (w64 (y15.1.f_stop.f_toll + x40.fToll))),(Tl.mk (w64 (y43.1 + x40.fLong)) y15.1.f_stop (TLeg.mk x40.fID y43.1) false)) :: s39.1),y56)))))))))
def dQ (p0:TR) (s10:((List Twait) × (List (Ts × Tl)))) : Option (((List Twait) × (List (Ts × Tl))) ⊕ ((List Twait) × (List (Ts × Tl)))) :=
 ((cd s10.1).bind fun y12 => (if decide (0 < y12) = true then ((da s10.1).bind fun y15 => al (aO y15.1.f_stop = true) ((if decide ((az (Tl.mk 0 (Ts.mk 0 0) (TLeg.mk 0 0) false) s10.2 y15.1.f_stop).f_at < y15.1.f_at) = true then some (.inl (y15.2,s10.2)) else ((ju p0 y15.1.f_stop.f_place).bind fun y24 => (al (fp (p0,y15.1.f_stop.f_place)) ((gJ (cv y15) (nf (p0,y15.1.f_stop.f_place)) (s10.2,y15.2)).bind fun u41 => match u41 with | .inl u68 => some (.inl (u68.2,u68.1)) | .inr _ => none)))))) else some (.inr (s10.1,s10.2))))
def dL (p0:TR) (p1:Int) (p2:Int) : Option (List (Ts × Tl)) :=
 al (aO (Ts.mk p1 0) = true ∧ List.length ([]:(List (Ts × Tl))) < 1000000000) (((aR (dQ p0) ([(Twait.mk p2 (Ts.mk p1 0))],(((Ts.mk p1 0),(Tl.mk p2 (Ts.mk 0 0) (TLeg.mk 0 0) true)) :: ([]:(List (Ts × Tl)))))).bind fun u11 => some u11.2))
def cY (p0:(List (Ts × Tl))) (p1:Int) (s5:(Int × Int × (List Int))) : Option ((Int × Int × (List Int)) ⊕ (Int × Int × (List Int))) :=
 (if decide (s5.2.1 < 61) = true then al (aO (Ts.mk p1 s5.2.1) = true) ((if ((bh p0 (Ts.mk p1 s5.2.1)) && ((decide (s5.1 < 0)) || (decide ((az (Tl.mk 0 (Ts.mk 0 0) (TLeg.mk 0 0) false) p0 (Ts.mk p1 s5.2.1)).f_at < s5.1)))) = true then al ((0:Int) ≤ s5.2.1 ∧ s5.2.1 < 61) (some (.inl ((az (Tl.mk 0 (Ts.mk 0 0) (TLeg.mk 0 0) false) p0 (Ts.mk p1 s5.2.1)).f_at,w64 (s5.2.1 + 1),(s5.2.2.set (Int.toNat s5.2.1) ((az (Tl.mk 0 (Ts.mk 0 0) (TLeg.mk 0 0) false) p0 (Ts.mk p1 s5.2.1)).f_at))))) else al ((0:Int) ≤ s5.2.1 ∧ s5.2.1 < 61) (some (.inl (s5.1,w64 (s5.2.1 + 1),(s5.2.2.set (Int.toNat s5.2.1) s5.1)))))) else some (.inr (s5.1,s5.2.1,s5.2.2)))
def eD (p0:(List (Ts × Tl))) (p1:Int) : Option (List Int) :=
 ((aR (cY p0 p1) ((-1),0,(List.replicate 61 0))).bind fun u6 => some u6.2.2)
def bF (p0:(List TLeg)) (s3:(Int × Int × (List TLeg))) : Option ((Int × Int × (List TLeg)) ⊕ (Int × Int × (List TLeg))) :=
 (if decide (s3.1 < s3.2.1) = true then al ((0:Int) ≤ s3.2.1 ∧ s3.2.1 < (p0.length:Int)) (al ((0:Int) ≤ s3.1 ∧ s3.1 < (p0.length:Int)) (al ((0:Int) ≤ s3.1 ∧ s3.1 < (p0.length:Int)) (al ((0:Int) ≤ s3.2.1 ∧ s3.2.1 < (p0.length:Int)) (some (.inl (w64 (s3.1 + 1),w64 (s3.2.1 - 1),((s3.2.2.set (Int.toNat s3.1) (rdL s3.2.2 s3.2.1)).set (Int.toNat s3.2.1) (rdL s3.2.2 s3.1)))))))) else some (.inr (s3.1,s3.2.1,s3.2.2)))
def bV (p0:(List TLeg)) : Option (List TLeg) :=
 ((aR (bF p0) (0,w64 ((p0.length:Int) - 1),p0)).bind fun u4 => some u4.2.2)
def cM (p0:(List (Ts × Tl))) (s9:(Tl × (List TLeg))) : Option ((Tl × (List TLeg)) ⊕ (Tl × (List TLeg))) :=
 (if (!s9.1.f_begin) = true then al (s9.2.length + 1 ≤ 1000000000) (al (aO s9.1.f_from = true) (some (.inl ((Tl.mk ((az (Tl.mk 0 (Ts.mk 0 0) (TLeg.mk 0 0) false) p0 s9.1.f_from).f_at) (Ts.mk ((az (Tl.mk 0 (Ts.mk 0 0) (TLeg.mk 0 0) false) p0 s9.1.f_from).f_from.f_place) ((az (Tl.mk 0 (Ts.mk 0 0) (TLeg.mk 0 0) false) p0 s9.1.f_from).f_from.f_toll)) (TLeg.mk ((az (Tl.mk 0 (Ts.mk 0 0) (TLeg.mk 0 0) false) p0 s9.1.f_from).f_leg.fTrack) ((az (Tl.mk 0 (Ts.mk 0 0) (TLeg.mk 0 0) false) p0 s9.1.f_from).f_leg.fHour)) ((az (Tl.mk 0 (Ts.mk 0 0) (TLeg.mk 0 0) false) p0 s9.1.f_from).f_begin)),(s9.2 ++ [s9.1.f_leg]))))) else some (.inr (s9.1,s9.2)))
def gn (p0:(List (Ts × Tl))) (p1:Ts) : Option TJ :=
 al (aO p1 = true) (al (aO p1 = true) (((aR (cM p0) ((Tl.mk ((az (Tl.mk 0 (Ts.mk 0 0) (TLeg.mk 0 0) false) p0 p1).f_at) (Ts.mk ((az (Tl.mk 0 (Ts.mk 0 0) (TLeg.mk 0 0) false) p0 p1).f_from.f_place) ((az (Tl.mk 0 (Ts.mk 0 0) (TLeg.mk 0 0) false) p0 p1).f_from.f_toll)) (TLeg.mk ((az (Tl.mk 0 (Ts.mk 0 0) (TLeg.mk 0 0) false) p0 p1).f_leg.fTrack) ((az (Tl.mk 0 (Ts.mk 0 0) (TLeg.mk 0 0) false) p0 p1).f_leg.fHour)) ((az (Tl.mk 0 (Ts.mk 0 0) (TLeg.mk 0 0) false) p0 p1).f_begin)),([]:List TLeg))).bind fun u10 => ((bV u10.2).bind fun y19 => some (TJ.mk y19 ((az (Tl.mk 0 (Ts.mk 0 0) (TLeg.mk 0 0) false) p0 p1).f_at) p1.f_toll)))))
def fQ (p2:Int) (y2:(List (Ts × Tl))) (y5:(List Int)) (s11:(Int × Int × (List TJ))) : Option ((Int × Int × (List TJ)) ⊕ (Int × Int × (List TJ))) :=
 (if decide (s11.2.1 < 61) = true then al ((0:Int) ≤ s11.2.1 ∧ s11.2.1 < 61) ((if ((rdL y5 s11.2.1) != s11.1) = true then ((gn y2 (Ts.mk p2 s11.2.1)).bind fun y16 => al (s11.2.2.length + 1 ≤ 1000000000) (some (.inl ((rdL y5 s11.2.1),w64 (s11.2.1 + 1),(s11.2.2 ++ [y16]))))) else some (.inl ((rdL y5 s11.2.1),w64 (s11.2.1 + 1),s11.2.2)))) else some (.inr (s11.1,s11.2.1,s11.2.2)))
def fk (p0:TR) (p1:Int) (p2:Int) (p3:Int) : Option (List TJ) :=
 ((dL p0 p1 p3).bind fun y2 => ((eD y2 p2).bind fun y5 => ((aR (fQ p2 y2 y5) ((-1),0,([]:List TJ))).bind fun u12 => some u12.2.2)))
def gp (p4:Int) (y4:(List TJ)) (s18:(Bool × Int × (List TLeg) × Int × Int)) : Option ((Bool × Int × (List TLeg) × Int × Int) ⊕ (Bool × Int × (List TLeg) × Int × Int)) :=
 (if decide (s18.2.1 < (y4.length:Int)) = true then al ((0:Int) ≤ s18.2.1 ∧ s18.2.1 < (y4.length:Int)) ((if decide ((rdL y4 s18.2.1).fToll ≤ p4) = true then some (.inl (true,w64 (s18.2.1 + 1),(rdL y4 s18.2.1).fLegs,(rdL y4 s18.2.1).fA,(rdL y4 s18.2.1).fToll)) else some (.inl (s18.1,w64 (s18.2.1 + 1),s18.2.2.1,s18.2.2.2.1,s18.2.2.2.2)))) else some (.inr (s18.1,s18.2.1,s18.2.2.1,s18.2.2.2.1,s18.2.2.2.2)))
def gy (p0:TR) (p1:Int) (p2:Int) (p3:Int) (p4:Int) : Option (TJ × Bool) :=
 ((fk p0 p1 p2 p3).bind fun y4 => ((aR (gp p4 y4) (false,0,([]:(List TLeg)),0,0)).bind fun u19 => some ((TJ.mk u19.2.2.1 u19.2.2.2.1 u19.2.2.2.2),u19.1)))
def jf (p0:TR) (p1:Int) (p2:Int) (p3:Int) (p4:Int) : Option (TJ × Int) :=
 ((dS p0 p1 p2 p3 p4).bind fun y3 => (if (y3 != 0) = true then some ((TJ.mk ([]:(List TLeg)) 0 0),y3) else ((gy p0 p1 p2 p3 p4).bind fun y6 => (if (!y6.2) = true then some ((TJ.mk ([]:(List TLeg)) 0 0),5) else some (y6.1,0)))))
def jq (p0:Int) (cap0:TR) (cap1:Int) (cap2:Int) (cap3:Int) (cap4:Int) : Option Bool :=
 ((gy cap0 cap1 cap2 p0 cap3).bind fun y1 => some (y1.2 && (decide (y1.1.fA ≤ cap4))))
def kO (p0:TR) (p1:Int) (p2:Int) (p3:Int) (p4:Int) (s10:(Int × Int)) : Option ((Int × Int) ⊕ (Int × Int)) :=
 (if decide (s10.1 ≤ s10.2) = true then ((jq (w64 (Int.tdiv (w64 (s10.1 + s10.2)) 2)) p0 p1 p2 p4 p3).bind fun y13 => (if y13 = true then some (.inl (w64 ((w64 (Int.tdiv (w64 (s10.1 + s10.2)) 2)) + 1),s10.2)) else some (.inl (s10.1,w64 ((w64 (Int.tdiv (w64 (s10.1 + s10.2)) 2)) - 1))))) else some (.inr (s10.1,s10.2)))
def la (p0:TR) (p1:Int) (p2:Int) (p3:Int) (p4:Int) : Option (Int × Int) :=
 ((dS p0 p1 p2 p3 p4).bind fun y6 => (if (y6 != 0) = true then some (0,y6) else ((aR (kO p0 p1 p2 p3 p4) (0,p3)).bind fun u11 => (if decide (u11.2 < 0) = true then some (0,5) else some (u11.2,0)))))
def dg (p0:(List TT)) (p1:Int) (p2:Int) : Option (List TT) :=
 al ((0:Int) ≤ p1 ∧ p1 ≤ p2 ∧ p2 ≤ (p0.length:Int) ∧ (p0.length:Int) ≤ (p0.length:Int)) ((if (p1 == p2) = true then some p0 else al ((0:Int) ≤ p1 ∧ p1 ≤ (p0.length:Int)) (al ((0:Int) ≤ p2 ∧ p2 ≤ (p0.length:Int)) (al (p1 ≤ p2) (some (p0.take (Int.toNat p1) ++ p0.drop (Int.toNat p2)))))))
def bI (p0:(List TT)) : Option (List TT) :=
 al (0 + p0.length ≤ 1000000000) (some (([]:List TT) ++ p0))
def dK (p0:Int) : Option Bool :=
 some (p0 != p0)
def gv (p0:Int) (p1:Int) : Option Bool :=
 ((dK p0).bind fun y1 => ((if y1 = true then ((dK p1).bind fun y7 => some ((!y7))) else (some (false))).bind fun b4 => some (b4 || (decide (p0 < p1)))))
def aS (p0:(List Int)) (p1:Int) (s8:(Int × (List Int))) : Option ((Int × (List Int)) ⊕ (Int × (List Int))) :=
 ((if decide (p1 < s8.1) = true then (al ((0:Int) ≤ s8.1 ∧ s8.1 < (p0.length:Int)) (al ((0:Int) ≤ w64 (s8.1 - 1) ∧ w64 (s8.1 - 1) < (p0.length:Int)) (((gv (rdL s8.2 s8.1) (rdL s8.2 (w64 (s8.1 - 1)))).bind fun y21 => some (y21))))) else (some (false))).bind fun b11 => (if b11 = true then al ((0:Int) ≤ w64 (s8.1 - 1) ∧ w64 (s8.1 - 1) < (p0.length:Int)) (al ((0:Int) ≤ s8.1 ∧ s8.1 < (p0.length:Int)) (al ((0:Int) ≤ s8.1 ∧ s8.1 < (p0.length:Int)) (al ((0:Int) ≤ w64 (s8.1 - 1) ∧ w64 (s8.1 - 1) < (p0.length:Int)) (some (.inl (w64 (s8.1 - 1),((s8.2.set (Int.toNat s8.1) (rdL s8.2 (w64 (s8.1 - 1)))).set (Int.toNat (w64 (s8.1 - 1))) (rdL s8.2 s8.1)))))))) else some (.inr (s8.1,s8.2))))
def aD (p0:(List Int)) (p1:Int) (p2:Int) (s3:(Int × (List Int))) : Option ((Int × (List Int)) ⊕ (Int × (List Int))) :=
 (if decide (s3.1 < p2) = true then ((aR (aS p0 p1) (s3.1,s3.2)).bind fun u9 => some (.inl (w64 (s3.1 + 1),u9.2))) else some (.inr (s3.1,s3.2)))
def bi (p0:(List Int)) (p1:Int) (p2:Int) : Option (List Int) :=
 ((aR (aD p0 p1 p2) (w64 (p1 + 1),p0)).bind fun u4 => some u4.2)
def lenv (x:Int) : Int:=if x < 1 then 0 else if x < 2 then 1 else if x < 4 then 2 else if x < 8 then 3 else 4
def fY (p0:Int) : Option Int:=al (0 ≤ p0 ∧ p0 < 16) (some (w64 (0 + lenv p0)))
def gP (p0:Int) : Option Int :=
 ((fY p0).bind fun y1 => some y1)
def bL (s3:(Int × Int × Int × Bool × Bool × (List Int))) : Option ((Int × Int × Int × Bool × Bool × (List Int)) ⊕ (Int × Int × Int × Bool × Bool × (List Int))) :=
 al (decide (w64 (s3.2.1 - s3.1) ≤ 12) = true) (((bi s3.2.2.2.2.2 s3.1 s3.2.1).bind fun y6 => some (.inr (s3.1,s3.2.1,s3.2.2.1,s3.2.2.2.1,s3.2.2.2.2.1,y6))))
def cf (p0:(List Int)) (p1:Int) (p2:Int) (p3:Int) : Option (List Int) :=
 ((aR (bL) (p1,p2,p3,true,true,p0)).bind fun u4 => some u4.2.2.2.2.2)
def cE (p0:(List Int)) : Option (List Int):=al (p0.length ≤ 12) (some (sr p0))
def kM (p0:TR) (p1:Int) (p2:Int) (p3:Int) (p4:Int) (y2:(TJ × Int)) (s16:(Int × (List Int))) : Option ((Int × (List Int)) ⊕ (Int × (List Int))) :=
 (if decide (s16.1 < (p0.fTracks.length:Int)) = true then al ((0:Int) ≤ s16.1 ∧ s16.1 < (p0.fTracks.length:Int)) (((bI p0.fTracks).bind fun y22 => ((dg y22 s16.1 (w64 (s16.1 + 1))).bind fun y31 => ((gy (TR.mk p0.fPlaces y31) p1 p2 p3 p4).bind fun y40 => (if ((!y40.2) || (y40.1.fA != y2.1.fA)) = true then al (s16.2.length + 1 ≤ 1000000000) (some (.inl (w64 (s16.1 + 1),(s16.2 ++ [(rdL p0.fTracks s16.1).fID])))) else some (.inl (w64 (s16.1 + 1),s16.2))))))) else some (.inr (s16.1,s16.2)))
def jy (p0:TR) (p1:Int) (p2:Int) (p3:Int) (p4:Int) : Option ((List Int) × Int) :=
 ((jf p0 p1 p2 p3 p4).bind fun y2 => (if (y2.2 != 0) = true then some ([],y2.2) else ((aR (kM p0 p1 p2 p3 p4 y2) (0,([]:List Int))).bind fun u17 => ((cE u17.2).bind fun y58 => some (y58,0)))))
def jc (p0:(List Int)) (p1:(List Int)) (s3:(Bool × Int)) : Option ((Bool × Int) ⊕ ((Bool × Int) ⊕ (Bool × Int))) :=
 (if decide (s3.2 < (p0.length:Int)) = true then al ((0:Int) ≤ s3.2 ∧ s3.2 < (p0.length:Int)) (al ((0:Int) ≤ s3.2 ∧ s3.2 < (p1.length:Int)) ((if ((rdL p0 s3.2) != (rdL p1 s3.2)) = true then some (.inr (.inl (false,s3.2))) else some (.inl (s3.1,w64 (s3.2 + 1)))))) else some (.inr (.inr (s3.1,s3.2))))
def de (p0:(List Int)) (p1:(List Int)) : Option Bool :=
 (if ((p0.length:Int) != (p1.length:Int)) = true then some false else ((aR (jc p0 p1) (false,0)).bind fun u4 => match u4 with | (.inl u10) => some u10.1 | (.inr u11) => some true))
def dE (p0:(List TO)) (p1:TO → Option Bool) (s2:(Int × Int)) : Option ((Int × Int) ⊕ ((Int × Int) ⊕ (Int × Int))) :=
 (if decide (s2.2 < (p0.length:Int)) = true then al ((0:Int) ≤ s2.2 ∧ s2.2 < (p0.length:Int)) (((p1 (TO.mk ((rdL p0 s2.2).fID) (TSpan.mk ((rdL p0 s2.2).fH.fLo) ((rdL p0 s2.2).fH.fHi)) ((rdL p0 s2.2).fD) ((rdL p0 s2.2).fW))).bind fun y6 => (if y6 = true then some (.inr (.inl (s2.2,s2.2))) else some (.inl (s2.1,w64 (s2.2 + 1)))))) else some (.inr (.inr (s2.1,s2.2))))
def cr (p0:(List TO)) (p1:TO → Option Bool) : Option Int :=
 ((aR (dE p0 p1) (0,0)).bind fun u3 => match u3 with | (.inl u10) => some u10.1 | (.inr u11) => some (-1))
def dh (p0:(List TO)) (p1:TO → Option Bool) : Option Int :=
 ((cr p0 p1).bind fun y1 => some y1)
def iC (p0:TO) (cap0:Int) : Option Bool :=
 some (p0.fID == cap0)
def i9 (p0:TY) (p1:Int) : Option Int :=
 ((dh p0.fR (fun x3 => iC x3 p1)).bind fun y4 => some y4)
def eB (p0:(List TBay)) (p1:TBay → Option Bool) (s2:(Int × Int)) : Option ((Int × Int) ⊕ ((Int × Int) ⊕ (Int × Int))) :=
 (if decide (s2.2 < (p0.length:Int)) = true then al ((0:Int) ≤ s2.2 ∧ s2.2 < (p0.length:Int)) (((p1 (TBay.mk ((rdL p0 s2.2).fID) ((rdL p0 s2.2).fHour) ((rdL p0 s2.2).fD))).bind fun y6 => (if y6 = true then some (.inr (.inl (s2.2,s2.2))) else some (.inl (s2.1,w64 (s2.2 + 1)))))) else some (.inr (.inr (s2.1,s2.2))))
def dt (p0:(List TBay)) (p1:TBay → Option Bool) : Option Int :=
 ((aR (eB p0 p1) (0,0)).bind fun u3 => match u3 with | (.inl u10) => some u10.1 | (.inr u11) => some (-1))
def dH (p0:(List TBay)) (p1:TBay → Option Bool) : Option Int :=
 ((dt p0 p1).bind fun y1 => some y1)
def ky (p0:TBay) (cap0:Int) : Option Bool :=
 some (p0.fID == cap0)
def na (p0:TY) (p1:Int) : Option Int :=
 ((dH p0.fB (fun x3 => ky x3 p1)).bind fun y4 => some y4)
def je (p0:TY) (s5:(Int × Int)) : Option ((Int × Int) ⊕ ((Int × Int) ⊕ (Int × Int))) :=
 (if decide (s5.2 < (p0.fB.length:Int)) = true then al ((0:Int) ≤ s5.2 ∧ s5.2 < (p0.fB.length:Int)) (((be ((rdL p0.fB s5.2).fID) 1 1099511627776).bind fun y10 => ((if (!y10) = true then (some (true)) else ((c3 ((rdL p0.fB s5.2).fHour)).bind fun y24 => some ((!y24)))).bind fun b13 => ((if b13 = true then (some (true)) else ((be ((rdL p0.fB s5.2).fD) 0 9).bind fun y22 => some ((!y22)))).bind fun b16 => (if b16 = true then some (.inr (.inl (1,s5.2))) else ((na p0 ((rdL p0.fB s5.2).fID)).bind fun y19 => (if decide (y19 < s5.2) = true then some (.inr (.inl (6,s5.2))) else some (.inl (s5.1,w64 (s5.2 + 1)))))))))) else some (.inr (.inr (s5.1,s5.2))))
def iU (p0:TY) (s30:(Int × Int)) : Option ((Int × Int) ⊕ ((Int × Int) ⊕ (Int × Int))) :=
 (if decide (s30.2 < (p0.fR.length:Int)) = true then al ((0:Int) ≤ s30.2 ∧ s30.2 < (p0.fR.length:Int)) (((be ((rdL p0.fR s30.2).fID) 1 1099511627776).bind fun y35 => ((if (!y35) = true then (some (true)) else ((c3 ((rdL p0.fR s30.2).fH.fLo)).bind fun y60 => some ((!y60)))).bind fun b38 => ((if b38 = true then (some (true)) else ((c3 ((rdL p0.fR s30.2).fH.fHi)).bind fun y58 => some ((!y58)))).bind fun b41 => ((if (b41 || (decide ((rdL p0.fR s30.2).fH.fHi < (rdL p0.fR s30.2).fH.fLo))) = true then (some (true)) else ((be ((rdL p0.fR s30.2).fD) 0 9).bind fun y56 => some ((!y56)))).bind fun b45 => ((if b45 = true then (some (true)) else ((be ((rdL p0.fR s30.2).fW) 1 1000).bind fun y54 => some ((!y54)))).bind fun b48 => (if b48 = true then some (.inr (.inl (1,s30.2))) else ((i9 p0 ((rdL p0.fR s30.2).fID)).bind fun y51 => (if decide (y51 < s30.2) = true then some (.inr (.inl (6,s30.2))) else some (.inl (s30.1,w64 (s30.2 + 1)))))))))))) else some (.inr (.inr (s30.1,s30.2))))
def df (p0:TY) : Option Int :=
 (if ((decide (24 < (p0.fB.length:Int))) || (decide (24 < (p0.fR.length:Int)))) = true then some 2 else ((aR (je p0) (0,0)).bind fun u6 => match u6 with | (.inl u27) => some u27.1 | (.inr u28) => ((aR (iU p0) (u28.1,0)).bind fun u31 => match u31 with | (.inl u63) => some u63.1 | (.inr u64) => some 0)))
def iX (p0:TO) (p1:TBay) : Option Bool :=
 ((be p1.fHour p0.fH.fLo p0.fH.fHi).bind fun y3 => some (y3 && (decide (p0.fD ≤ p1.fD))))
def bR (p0:Int) (cap0:TY) (rec_:Int → TY → (List (Int × Bool)) → (List (Int × Int)) → Option (Bool × (List (Int × Bool)) × (List (Int × Int)))) (s3:(Bool × Int × (List (Int × Bool)) × (List (Int × Int)))) : Option ((Bool × Int × (List (Int × Bool)) × (List (Int × Int))) ⊕ ((Bool × Int × (List (Int × Bool)) × (List (Int × Int))) ⊕ (Bool × Int × (List (Int × Bool)) × (List (Int × Int))))) :=
 (if decide (s3.2.1 < (cap0.fB.length:Int)) = true then al ((0:Int) ≤ s3.2.1 ∧ s3.2.1 < (cap0.fB.length:Int)) (al (dP s3.2.1 = true) (((if az false s3.2.2.1 s3.2.1 = true then (some (true)) else (al ((0:Int) ≤ p0 ∧ p0 < (cap0.fR.length:Int)) (((iX (TO.mk ((rdL cap0.fR p0).fID) (TSpan.mk ((rdL cap0.fR p0).fH.fLo) ((rdL cap0.fR p0).fH.fHi)) ((rdL cap0.fR p0).fD) ((rdL cap0.fR p0).fW)) (TBay.mk ((rdL cap0.fB s3.2.1).fID) ((rdL cap0.fB s3.2.1).fHour) ((rdL cap0.fB s3.2.1).fD))).bind fun y22 => some ((!y22)))))).bind fun b10 => (if b10 = true then some (.inl (s3.1,w64 (s3.2.1 + 1),s3.2.2.1,s3.2.2.2)) else al (dP s3.2.1 = true ∧ List.length s3.2.2.1 < 1000000000) (al (dP s3.2.1 = true) ((if (!(bh s3.2.2.2 s3.2.1)) = true then (al (dP s3.2.1 = true ∧ List.length s3.2.2.2 < 1000000000) (some (.inr (.inl (true,s3.2.1,((s3.2.1,true) :: s3.2.2.1),((s3.2.1,p0) :: s3.2.2.2)))))) else ((rec_ (az 0 s3.2.2.2 s3.2.1) cap0 ((s3.2.1,true) :: s3.2.2.1) s3.2.2.2).bind fun y17 => (if y17.1 = true then al (dP s3.2.1 = true ∧ List.length y17.2.2 < 1000000000) (some (.inr (.inl (true,s3.2.1,y17.2.1,((s3.2.1,p0) :: y17.2.2))))) else some (.inl (s3.1,w64 (s3.2.1 + 1),y17.2.1,y17.2.2))))))))))) else some (.inr (.inr (s3.1,s3.2.1,s3.2.2.1,s3.2.2.2))))
def dM (rec_:Int → TY → (List (Int × Bool)) → (List (Int × Int)) → Option (Bool × (List (Int × Bool)) × (List (Int × Int)))) (p0:Int) (cap0:TY) (cap1:(List (Int × Bool))) (cap2:(List (Int × Int))) : Option (Bool × (List (Int × Bool)) × (List (Int × Int))) :=
 ((aR (bR p0 cap0 rec_) (false,0,cap1,cap2)).bind fun u4 => match u4 with | (.inl u25) => some (u25.1,u25.2.2.1,u25.2.2.2) | (.inr u26) => some (false,u26.2.2.1,u26.2.2.2))
def bt : Nat → Int → TY → (List (Int × Bool)) → (List (Int × Int)) → Option (Bool × (List (Int × Bool)) × (List (Int × Int)))
 | 0 => fun _ _ _ _ => none
 | fuel + 1 => dM (bt fuel)
def fz (p0:(List (Int × Int))) (p1:TY) (p2:Int) : Option (Bool × (List (Int × Int))) :=
 ((bt (p1.fB.length + 2) p2 p1 [] p0).bind fun y6 => some (y6.1,y6.2.2))
def cV (p0:(List Int)) (p1:Int) (p3:Int → Int → Option Int) (s8:(Int × (List Int))) : Option ((Int × (List Int)) ⊕ (Int × (List Int))) :=
 ((if decide (p1 < s8.1) = true then (al ((0:Int) ≤ s8.1 ∧ s8.1 < (p0.length:Int)) (al ((0:Int) ≤ w64 (s8.1 - 1) ∧ w64 (s8.1 - 1) < (p0.length:Int)) (((p3 (rdL s8.2 s8.1) (rdL s8.2 (w64 (s8.1 - 1)))).bind fun y21 => some (decide (y21 < 0)))))) else (some (false))).bind fun b11 => (if b11 = true then al ((0:Int) ≤ w64 (s8.1 - 1) ∧ w64 (s8.1 - 1) < (p0.length:Int)) (al ((0:Int) ≤ s8.1 ∧ s8.1 < (p0.length:Int)) (al ((0:Int) ≤ s8.1 ∧ s8.1 < (p0.length:Int)) (al ((0:Int) ≤ w64 (s8.1 - 1) ∧ w64 (s8.1 - 1) < (p0.length:Int)) (some (.inl (w64 (s8.1 - 1),((s8.2.set (Int.toNat s8.1) (rdL s8.2 (w64 (s8.1 - 1)))).set (Int.toNat (w64 (s8.1 - 1))) (rdL s8.2 s8.1)))))))) else some (.inr (s8.1,s8.2))))
def cU (p0:(List Int)) (p1:Int) (p2:Int) (p3:Int → Int → Option Int) (s3:(Int × (List Int))) : Option ((Int × (List Int)) ⊕ (Int × (List Int))) :=
 (if decide (s3.1 < p2) = true then ((aR (cV p0 p1 p3) (s3.1,s3.2)).bind fun u9 => some (.inl (w64 (s3.1 + 1),u9.2))) else some (.inr (s3.1,s3.2)))
def bX (p0:(List Int)) (p1:Int) (p2:Int) (p3:Int → Int → Option Int) : Option (List Int) :=
 ((aR (cU p0 p1 p2 p3) (w64 (p1 + 1),p0)).bind fun u4 => some u4.2)
def eh (p1:Int) (s2:(Int × Int)) : Option ((Int × Int) ⊕ (Int × Int)) :=
 al (decide (s2.2 ≤ p1) = false) (some (.inr (s2.1,s2.2)))
def em (p1:Int) (s10:(Int × Int × Int)) : Option ((Int × Int × Int) ⊕ (Int × Int × Int)) :=
 al (decide (s10.1 < p1) = false) (some (.inr (s10.1,s10.2.1,s10.2.2)))
def du (p0:(List Int)) (p1:Int) (p2:Int → Int → Option Int) : Option (List Int) :=
 ((aR (eh p1) (0,20)).bind fun u3 => ((bX p0 u3.1 p1 p2).bind fun y6 => ((aR (em p1) (20,u3.1,u3.2)).bind fun u11 => some y6)))
def cq (p0:(List Int)) (p1:Int → Int → Option Int) : Option (List Int) :=
 ((du p0 (p0.length:Int) p1).bind fun y1 => some y1)
def hU (p0:Int) (p1:Int) : Option Int :=
 ((dK p0).bind fun y1 => ((dK p1).bind fun y3 => (if y1 = true then (if y3 = true then some 0 else some (-1)) else (if y3 = true then some 1 else (if decide (p0 < p1) = true then some (-1) else (if decide (p1 < p0) = true then some 1 else some 0))))))
def iJ (p0:Int) (p1:Int) (cap0:TY) : Option Int :=
 al ((0:Int) ≤ p1 ∧ p1 < (cap0.fR.length:Int)) (al ((0:Int) ≤ p0 ∧ p0 < (cap0.fR.length:Int)) (((hU ((rdL cap0.fR p1).fW) ((rdL cap0.fR p0).fW)).bind fun y3 => some y3)))
def lH (p0:TY) (s4:(Int × (List Int))) : Option ((Int × (List Int)) ⊕ (Int × (List Int))) :=
 (if decide (s4.1 < (p0.fR.length:Int)) = true then al (s4.2.length + 1 ≤ 1000000000) (some (.inl (w64 (s4.1 + 1),(s4.2 ++ [s4.1])))) else some (.inr (s4.1,s4.2)))
def lg (p0:TY) (u5:(Int × (List Int))) (y14:(List Int)) (s20:(Int × (List (Int × Int)))) : Option ((Int × (List (Int × Int))) ⊕ (Int × (List (Int × Int)))) :=
 (if decide (s20.1 < (u5.2.length:Int)) = true then al ((0:Int) ≤ s20.1 ∧ s20.1 < (u5.2.length:Int)) (((fz s20.2 p0 (rdL y14 s20.1)).bind fun y24 => some (.inl (w64 (s20.1 + 1),y24.2)))) else some (.inr (s20.1,s20.2)))
def kz (p0:TY) : Option (List (Int × Int)) :=
 ((aR (lH p0) (0,([]:List Int))).bind fun u5 => ((cq u5.2 (fun x12 x13 => iJ x12 x13 p0)).bind fun y14 => ((aR (lg p0 u5 y14) (0,[])).bind fun u21 => some u21.2)))
def eZ (p0:(List (Int × Int))) (p1:TY) : Option Int :=
 al ((gI p0).all (fun y5 => dP y5 && decide (((0:Int) ≤ az 0 p0 y5 ∧ az 0 p0 y5 < (p1.fR.length:Int)))) = true) (some ((gI p0).foldl (fun a y5 => w64 (a + ((rdL p1.fR (az 0 p0 y5)).fW))) 0))
def fi (p0:TY) : Option Int :=
 ((kz p0).bind fun y2 => ((eZ y2 p0).bind fun y5 => some y5))
def jo (p0__:TO) (p1:Int → Option Int) (cap0:Int) : Option Bool :=
 ((p1 0).bind fun y2 => some (decide (y2 < cap0)))
def jR (p0:TO) (p1:Int → Option Int) (cap0:Int) : Option Bool :=
 ((p1 (w64 (p0.fW + 1))).bind fun y2 => some (y2 == cap0))
def dF (p0:(List TO)) : Option (List TO) :=
 al (0 + p0.length ≤ 1000000000) (some (([]:List TO) ++ p0))
def fo (p0:Int) (cap0:TY) (cap1:Int) : Option Int :=
 ((dF cap0.fR).bind fun y2 => al ((0:Int) ≤ cap1 ∧ cap1 < (y2.length:Int)) (((fi (TY.mk cap0.fB (y2.set (Int.toNat cap1) (TO.mk ((rdL y2 cap1).fID) (TSpan.mk ((rdL y2 cap1).fH.fLo) ((rdL y2 cap1).fH.fHi)) ((rdL y2 cap1).fD) p0)))).bind fun y10 => some y10)))
def gD (p0:TY) (cap0:Int) (s4:(Int × (List Int))) : Option ((Int × (List Int)) ⊕ (Int × (List Int))) :=
 (if decide (s4.1 < (p0.fR.length:Int)) = true then al ((0:Int) ≤ s4.1 ∧ s4.1 < (p0.fR.length:Int)) (((jo (TO.mk ((rdL p0.fR s4.1).fID) (TSpan.mk ((rdL p0.fR s4.1).fH.fLo) ((rdL p0.fR s4.1).fH.fHi)) ((rdL p0.fR s4.1).fD) ((rdL p0.fR s4.1).fW)) (fun x10 => fo x10 p0 s4.1) cap0).bind fun y11 => (if y11 = true then al (s4.2.length + 1 ≤ 1000000000) (some (.inl (w64 (s4.1 + 1),(s4.2 ++ [(rdL p0.fR s4.1).fID])))) else some (.inl (w64 (s4.1 + 1),s4.2))))) else some (.inr (s4.1,s4.2)))
def fx (p0:TY) (cap0:Int) : Option (List Int) :=
 ((aR (gD p0 cap0) (0,([]:List Int))).bind fun u5 => ((cE u5.2).bind fun y19 => some y19))
def gK (p0:TY) (cap0:Int) (s4:(Int × (List Int))) : Option ((Int × (List Int)) ⊕ (Int × (List Int))) :=
 (if decide (s4.1 < (p0.fR.length:Int)) = true then al ((0:Int) ≤ s4.1 ∧ s4.1 < (p0.fR.length:Int)) (((jR (TO.mk ((rdL p0.fR s4.1).fID) (TSpan.mk ((rdL p0.fR s4.1).fH.fLo) ((rdL p0.fR s4.1).fH.fHi)) ((rdL p0.fR s4.1).fD) ((rdL p0.fR s4.1).fW)) (fun x10 => fo x10 p0 s4.1) cap0).bind fun y11 => (if y11 = true then al (s4.2.length + 1 ≤ 1000000000) (some (.inl (w64 (s4.1 + 1),(s4.2 ++ [(rdL p0.fR s4.1).fID])))) else some (.inl (w64 (s4.1 + 1),s4.2))))) else some (.inr (s4.1,s4.2)))
def ge (p0:TY) (cap0:Int) : Option (List Int) :=
 ((aR (gK p0 cap0) (0,([]:List Int))).bind fun u5 => ((cE u5.2).bind fun y19 => some y19))
def kX (p0:TY) : Option ((List Int) × Int) :=
 ((df p0).bind fun y2 => (if (y2 != 0) = true then some ([],y2) else ((fi p0).bind fun y5 => ((fx p0 y5).bind fun y8 => some (y8,0)))))
def l9 (p0:TY) : Option ((List Int) × Int) :=
 ((df p0).bind fun y2 => (if (y2 != 0) = true then some ([],y2) else ((fi p0).bind fun y5 => ((ge p0 y5).bind fun y8 => some (y8,0)))))
def l8 (p0:Int) (cap0:(List (Int × Int))) (cap1:TY) : Option (Bool × (List (Int × Int))) :=
 ((i9 cap1 p0).bind fun y1 => ((fz cap0 cap1 y1).bind fun y3 => some ((!y3.1),y3.2)))
def dk (p0:(List Int)) (cap1:TY) (s3:(Int × Int × (List (Int × Int)))) : Option ((Int × Int × (List (Int × Int))) ⊕ ((Int × Int × (List (Int × Int))) ⊕ (Int × Int × (List (Int × Int))))) :=
 (if decide (s3.2.1 < (p0.length:Int)) = true then al ((0:Int) ≤ s3.2.1 ∧ s3.2.1 < (p0.length:Int)) (((l8 (rdL p0 s3.2.1) s3.2.2 cap1).bind fun y7 => (if y7.1 = true then some (.inr (.inl (s3.2.1,s3.2.1,y7.2))) else some (.inl (s3.1,w64 (s3.2.1 + 1),y7.2))))) else some (.inr (.inr (s3.1,s3.2.1,s3.2.2))))
def co (p0:(List Int)) (cap0:(List (Int × Int))) (cap1:TY) : Option (Int × (List (Int × Int))) :=
 ((aR (dk p0 cap1) (0,0,cap0)).bind fun u4 => match u4 with | (.inl u11) => some (u11.1,u11.2.2) | (.inr u12) => some ((-1),u12.2.2))
def bk (p0:(List Int)) (p1:Int → Option Bool) (s2:(Int × Int)) : Option ((Int × Int) ⊕ ((Int × Int) ⊕ (Int × Int))) :=
 (if decide (s2.2 < (p0.length:Int)) = true then al ((0:Int) ≤ s2.2 ∧ s2.2 < (p0.length:Int)) (((p1 (rdL p0 s2.2)).bind fun y6 => (if y6 = true then some (.inr (.inl (s2.2,s2.2))) else some (.inl (s2.1,w64 (s2.2 + 1)))))) else some (.inr (.inr (s2.1,s2.2))))
def bz (p0:(List Int)) (p1:Int → Option Bool) : Option Int :=
 ((aR (bk p0 p1) (0,0)).bind fun u3 => match u3 with | (.inl u10) => some u10.1 | (.inr u11) => some (-1))
def ff (p0:(List Int)) (cap0:(List (Int × Int))) (cap1:TY) : Option (Int × (List (Int × Int))) :=
 ((co p0 cap0 cap1).bind fun y1 => some (y1.1,y1.2))
def gi (p0:(List Int)) (p1:Int → Option Bool) : Option Int :=
 ((bz p0 p1).bind fun y1 => some y1)
def mW (p0:TY) (p1:(List Int)) : Option Bool :=
 ((ff p1 [] p0).bind fun y4 => some (decide (y4.1 < 0)))
def bP (p0:(List Int)) : Option (List Int) :=
 al (0 + p0.length ≤ 1000000000) (some (([]:List Int) ++ p0))
def dW (p0:(List Int)) (p1:Int → Option Bool) (s6:(Int × Int × (List Int))) : Option ((Int × Int × (List Int)) ⊕ (Int × Int × (List Int))) :=
 (if decide (s6.2.1 < (p0.length:Int)) = true then al ((0:Int) ≤ s6.2.1 ∧ s6.2.1 < (p0.length:Int)) (((p1 (rdL s6.2.2 s6.2.1)).bind fun y10 => (if (!y10) = true then al ((0:Int) ≤ s6.1 ∧ s6.1 < (p0.length:Int)) (some (.inl (w64 (s6.1 + 1),w64 (s6.2.1 + 1),(s6.2.2.set (Int.toNat s6.1) (rdL s6.2.2 s6.2.1))))) else some (.inl (s6.1,w64 (s6.2.1 + 1),s6.2.2))))) else some (.inr (s6.1,s6.2.1,s6.2.2)))
def dj (p0:(List Int)) (p1:Int → Option Bool) : Option (List Int) :=
 ((bz p0 p1).bind fun y1 => (if (y1 == (-1)) = true then some p0 else ((aR (dW p0 p1) (y1,w64 (y1 + 1),p0)).bind fun u7 => al ((0:Int) ≤ u7.1 ∧ u7.1 ≤ (p0.length:Int)) (al ((0:Int) ≤ u7.1 ∧ u7.1 ≤ (p0.length:Int)) (some (u7.2.2.take (Int.toNat u7.1)))))))
def gm (p0:Int) (cap0:Int) : Option Bool :=
 some (p0 == cap0)
def jT (p0:TY) (p1:(List Int)) (s6:(Int × Int)) : Option ((Int × Int) ⊕ ((Int × Int) ⊕ (Int × Int))) :=
 (if decide (s6.2 < (p1.length:Int)) = true then al ((0:Int) ≤ s6.2 ∧ s6.2 < (p1.length:Int)) (((i9 p0 (rdL p1 s6.2)).bind fun y10 => ((if decide (y10 < 0) = true then (some (true)) else ((if decide (0 < s6.2) = true then (al ((0:Int) ≤ w64 (s6.2 - 1) ∧ w64 (s6.2 - 1) < (p1.length:Int)) (some (decide ((rdL p1 s6.2) ≤ (rdL p1 (w64 (s6.2 - 1))))))) else (some (false))).bind fun b17 => some (b17))).bind fun b13 => (if b13 = true then some (.inr (.inl (1,s6.2))) else some (.inl (s6.1,w64 (s6.2 + 1))))))) else some (.inr (.inr (s6.1,s6.2))))
def j7 (p0:TY) (p1:(List Int)) (s34:(Int × (List Int))) : Option ((Int × (List Int)) ⊕ (Int × (List Int))) :=
 (if decide (s34.1 < (p1.length:Int)) = true then al ((0:Int) ≤ s34.1 ∧ s34.1 < (p1.length:Int)) (((bP s34.2).bind fun y39 => ((dj y39 (fun x45 => gm x45 (rdL p1 s34.1))).bind fun y46 => ((mW p0 y46).bind fun y50 => (if (!y50) = true then some (.inl (w64 (s34.1 + 1),y46)) else some (.inl (w64 (s34.1 + 1),s34.2))))))) else some (.inr (s34.1,s34.2)))
def kn (p0:TY) (p1:(List Int)) : Option ((List Int) × Int) :=
 ((df p0).bind fun y2 => (if (y2 != 0) = true then some ([],y2) else ((aR (jT p0 p1) (0,0)).bind fun u7 => match u7 with | (.inl u21) => some (([]:List Int),u21.1) | (.inr u22) => ((mW p0 p1).bind fun y23 => (if y23 = true then some ([],5) else ((bP p1).bind fun y26 => ((aR (j7 p0 p1) (0,y26)).bind fun u35 => some (u35.2,0))))))))
def ex (p0:(List TBay)) (p1:Int) (p2:Int) : Option (List TBay) :=
 al ((0:Int) ≤ p1 ∧ p1 ≤ p2 ∧ p2 ≤ (p0.length:Int) ∧ (p0.length:Int) ≤ (p0.length:Int)) ((if (p1 == p2) = true then some p0 else al ((0:Int) ≤ p1 ∧ p1 ≤ (p0.length:Int)) (al ((0:Int) ≤ p2 ∧ p2 ≤ (p0.length:Int)) (al (p1 ≤ p2) (some (p0.take (Int.toNat p1) ++ p0.drop (Int.toNat p2)))))))
def eP (p0:(List TBay)) : Option (List TBay) :=
 al (0 + p0.length ≤ 1000000000) (some (([]:List TBay) ++ p0))
def iF (p0:TY) (p1:Int) : Option TY :=
 ((eP p0.fB).bind fun y4 => ((ex y4 p1 (w64 (p1 + 1))).bind fun y10 => some (TY.mk y10 p0.fR)))
def nC (p0:TY) (p1:Int) : Option (Int × Int) :=
 ((df p0).bind fun y2 => (if (y2 != 0) = true then some (0,y2) else ((na p0 p1).bind fun y5 => (if decide (y5 < 0) = true then some (0,5) else ((fi p0).bind fun y8 => ((iF p0 y5).bind fun y10 => ((fi (TY.mk y10.fB p0.fR)).bind fun y20 => some (w64 (y8 - y20),0))))))))
def my (p0:TY) (y6:Int) (s27:(Int × (List Int))) : Option ((Int × (List Int)) ⊕ (Int × (List Int))) :=
 (if decide (s27.1 < (p0.fB.length:Int)) = true then ((iF p0 s27.1).bind fun y31 => ((fi (TY.mk y31.fB p0.fR)).bind fun y41 => al (s27.2.length + 1 ≤ 1000000000) (some (.inl (w64 (s27.1 + 1),(s27.2 ++ [w64 (y6 - y41)])))))) else some (.inr (s27.1,s27.2)))
def nK (p0:TY) (p1:(List (Int × Int))) : Option TPlan :=
 al ((0:Int) ≤ (p0.fR.length:Int) ∧ (p0.fR.length:Int) * 8 ≤ 281474976710656) (((eZ p1 p0).bind fun y6 => al ((gI p1).all (fun y12 => dP y12 && decide (((0:Int) ≤ y12 ∧ y12 < (p0.fB.length:Int)) ∧ ((0:Int) ≤ az 0 p1 y12 ∧ az 0 p1 y12 < ((Int.toNat (p0.fR.length:Int) : Nat) : Int)))) = true) (al (((gI p1).map (fun y12 => Int.toNat (az 0 p1 y12))).Nodup) (((aR (my p0 y6) (0,([]:List Int))).bind fun u28 => some (TPlan.mk ((gI p1).foldl (fun a y12 => a.set (Int.toNat (az 0 p1 y12)) ((rdL p0.fB y12).fID)) (List.replicate (Int.toNat (p0.fR.length:Int)) 0)) y6 u28.2))))))
def mh (p0:TY) : Option (TPlan × Int) :=
 ((df p0).bind fun y3 => (if (y3 != 0) = true then some ((TPlan.mk [] 0 []),y3) else ((kz p0).bind fun y6 => ((nK p0 y6).bind fun y9 => some (y9,0)))))
def ct (p0:Int) (p1:Int) (p2:Int) : Option Bool :=
 some ((decide (p1 ≤ p0)) && (decide (p0 ≤ p2)))
def i7 (p0:Int) : Option Bool :=
 ((ct p0 0 16384).bind fun y1 => some y1)
def iB (p0:TY) (s5:(Int × Int)) (s20:(Int × Int)) : Option ((Int × Int) ⊕ ((Int × Int) ⊕ (Int × Int))) :=
 (if decide (s20.2 < s5.2) = true then al ((0:Int) ≤ s20.2 ∧ s20.2 < (p0.fB.length:Int)) ((if (((rdL p0.fB s20.2).fID) == ((rdL p0.fB s5.2).fID)) = true then some (.inr (.inl (6,s20.2))) else some (.inl (s20.1,w64 (s20.2 + 1))))) else some (.inr (.inr (s20.1,s20.2))))
def iK (p0:TY) (s5:(Int × Int)) : Option ((Int × Int) ⊕ ((Int × Int) ⊕ (Int × Int))) :=
 (if decide (s5.2 < (p0.fB.length:Int)) = true then al ((0:Int) ≤ s5.2 ∧ s5.2 < (p0.fB.length:Int)) (((ct ((rdL p0.fB s5.2).fID) 1 1099511627776).bind fun y10 => ((i7 ((rdL p0.fB s5.2).fHour)).bind fun y12 => ((ct ((rdL p0.fB s5.2).fD) 0 9).bind fun y14 => (if (((!y10) || (!y12)) || (!y14)) = true then some (.inr (.inl (1,s5.2))) else ((aR (iB p0 s5) (s5.1,0)).bind fun u21 => match u21 with | (.inl u26) => some (.inr (.inl (u26.1,s5.2))) | (.inr u27) => some (.inl (u27.1,w64 (s5.2 + 1))))))))) else some (.inr (.inr (s5.1,s5.2))))
def iG (p0:TY) (s32:(Int × Int)) (s54:(Int × Int)) : Option ((Int × Int) ⊕ ((Int × Int) ⊕ (Int × Int))) :=
 (if decide (s54.2 < s32.2) = true then al ((0:Int) ≤ s54.2 ∧ s54.2 < (p0.fR.length:Int)) ((if (((rdL p0.fR s54.2).fID) == ((rdL p0.fR s32.2).fID)) = true then some (.inr (.inl (6,s54.2))) else some (.inl (s54.1,w64 (s54.2 + 1))))) else some (.inr (.inr (s54.1,s54.2))))
def iz (p0:TY) (s32:(Int × Int)) : Option ((Int × Int) ⊕ ((Int × Int) ⊕ (Int × Int))) :=
 (if decide (s32.2 < (p0.fR.length:Int)) = true then al ((0:Int) ≤ s32.2 ∧ s32.2 < (p0.fR.length:Int)) (((ct ((rdL p0.fR s32.2).fID) 1 1099511627776).bind fun y37 => ((i7 ((rdL p0.fR s32.2).fH.fLo)).bind fun y39 => ((i7 ((rdL p0.fR s32.2).fH.fHi)).bind fun y41 => ((ct ((rdL p0.fR s32.2).fD) 0 9).bind fun y43 => ((ct ((rdL p0.fR s32.2).fW) 1 1000).bind fun y45 => (if ((((((!y37) || (!y39)) || (!y41)) || (decide ((rdL p0.fR s32.2).fH.fHi < (rdL p0.fR s32.2).fH.fLo))) || (!y43)) || (!y45)) = true then some (.inr (.inl (1,s32.2))) else ((aR (iG p0 s32) (s32.1,0)).bind fun u55 => match u55 with | (.inl u60) => some (.inr (.inl (u60.1,s32.2))) | (.inr u61) => some (.inl (u61.1,w64 (s32.2 + 1))))))))))) else some (.inr (.inr (s32.1,s32.2))))
def ii (p0:TY) : Option Int :=
 (if ((decide (24 < (p0.fB.length:Int))) || (decide (24 < (p0.fR.length:Int)))) = true then some 2 else ((aR (iK p0) (0,0)).bind fun u6 => match u6 with | (.inl u29) => some u29.1 | (.inr u30) => ((aR (iz p0) (u30.1,0)).bind fun u33 => match u33 with | (.inl u63) => some u63.1 | (.inr u64) => some 0)))
def mJ (p0:TY) (p1:Int) (s3:(Int × Int)) : Option ((Int × Int) ⊕ ((Int × Int) ⊕ (Int × Int))) :=
 (if decide (s3.2 < (p0.fB.length:Int)) = true then al ((0:Int) ≤ s3.2 ∧ s3.2 < (p0.fB.length:Int)) ((if (((rdL p0.fB s3.2).fID) == p1) = true then some (.inr (.inl (s3.2,s3.2))) else some (.inl (s3.1,w64 (s3.2 + 1))))) else some (.inr (.inr (s3.1,s3.2))))
def nT (p0:TY) (p1:Int) : Option Int :=
 ((aR (mJ p0 p1) (0,0)).bind fun u4 => match u4 with | (.inl u9) => some u9.1 | (.inr u10) => some (-1))
def ig (p0:TY) (p1:Int) (p2:Int) : Option Bool :=
 al ((0:Int) ≤ p2 ∧ p2 < (p0.fB.length:Int)) (al ((0:Int) ≤ p1 ∧ p1 < (p0.fR.length:Int)) (al ((0:Int) ≤ p1 ∧ p1 < (p0.fR.length:Int)) (((ct ((rdL p0.fB p2).fHour) ((rdL p0.fR p1).fH.fLo) ((rdL p0.fR p1).fH.fHi)).bind fun y5 => ((if y5 = true then (al ((0:Int) ≤ p2 ∧ p2 < (p0.fB.length:Int)) (al ((0:Int) ≤ p1 ∧ p1 < (p0.fR.length:Int)) (some (decide ((rdL p0.fR p1).fD ≤ (rdL p0.fB p2).fD))))) else (some (false))).bind fun b8 => some b8)))))
def lT (p1:(List Int)) (s4:(Bool × Int × Int)) (s17:(Bool × Int)) : Option ((Bool × Int) ⊕ ((Bool × Int) ⊕ (Bool × Int))) :=
 (if decide (s17.2 < s4.2.2) = true then al ((0:Int) ≤ s17.2 ∧ s17.2 < (p1.length:Int)) (al ((0:Int) ≤ s4.2.2 ∧ s4.2.2 < (p1.length:Int)) ((if ((rdL p1 s17.2) == (rdL p1 s4.2.2)) = true then some (.inr (.inl (false,s17.2))) else some (.inl (s17.1,w64 (s17.2 + 1)))))) else some (.inr (.inr (s17.1,s17.2))))
def lI (p0:TY) (p1:(List Int)) (s4:(Bool × Int × Int)) : Option ((Bool × Int × Int) ⊕ ((Bool × Int × Int) ⊕ (Bool × Int × Int))) :=
 (if decide (s4.2.2 < (p1.length:Int)) = true then al ((0:Int) ≤ s4.2.2 ∧ s4.2.2 < (p1.length:Int)) ((if ((rdL p1 s4.2.2) == 0) = true then some (.inl (s4.1,s4.2.1,w64 (s4.2.2 + 1))) else al ((0:Int) ≤ s4.2.2 ∧ s4.2.2 < (p1.length:Int)) (((nT p0 (rdL p1 s4.2.2)).bind fun y10 => (if decide (y10 < 0) = true then some (.inr (.inl (false,s4.2.1,s4.2.2))) else ((ig p0 s4.2.2 y10).bind fun y13 => (if (!y13) = true then some (.inr (.inl (false,s4.2.1,s4.2.2))) else ((aR (lT p1 s4) (s4.1,0)).bind fun u18 => match u18 with | (.inl u24) => some (.inr (.inl (u24.1,s4.2.1,s4.2.2))) | (.inr u25) => al ((0:Int) ≤ s4.2.2 ∧ s4.2.2 < (p0.fR.length:Int)) (some (.inl (u25.1,w64 (s4.2.1 + ((rdL p0.fR s4.2.2).fW)),w64 (s4.2.2 + 1)))))))))))) else some (.inr (.inr (s4.1,s4.2.1,s4.2.2))))
def mm (p0:TY) (p1:(List Int)) (p2:Int) : Option Bool :=
 (if ((p1.length:Int) != (p0.fR.length:Int)) = true then some false else ((aR (lI p0 p1) (false,0,0)).bind fun u5 => match u5 with | (.inl u28) => some u28.1 | (.inr u29) => some (u29.2.1 == p2)))
def ko (p1:(List Int)) (s4:(Int × Int × Int)) : Option ((Int × Int × Int) ⊕ ((Int × Int × Int) ⊕ (Int × Int × Int))) :=
 (if decide (s4.2.2 < (p1.length:Int)) = true then al ((0:Int) ≤ s4.2.2 ∧ s4.2.2 < (p1.length:Int)) (((ct (rdL p1 s4.2.2) 0 1000).bind fun y8 => (if (!y8) = true then some (.inr (.inl ((-1),s4.2.1,s4.2.2))) else al ((0:Int) ≤ s4.2.2 ∧ s4.2.2 < (p1.length:Int)) (some (.inl (s4.1,w64 (s4.2.1 + (rdL p1 s4.2.2)),w64 (s4.2.2 + 1))))))) else some (.inr (.inr (s4.1,s4.2.1,s4.2.2))))
def kc (p0:TY) (p1:(List Int)) (s16:(Int × Int)) (s21:(Int × Int)) : Option ((Int × Int) ⊕ (Int × Int)) :=
 (if decide (s21.2 < (p1.length:Int)) = true then ((ig p0 s16.2 s21.2).bind fun y24 => (if y24 = true then al ((0:Int) ≤ s21.2 ∧ s21.2 < (p1.length:Int)) (some (.inl (min s21.1 (rdL p1 s21.2),w64 (s21.2 + 1)))) else some (.inl (s21.1,w64 (s21.2 + 1))))) else some (.inr (s21.1,s21.2)))
def kg (p0:TY) (p1:(List Int)) (s16:(Int × Int)) (s30:(Bool × Int)) : Option ((Bool × Int) ⊕ (Bool × Int)) :=
 (if decide (s30.2 < (p1.length:Int)) = true then ((ig p0 s16.2 s30.2).bind fun y33 => some (.inl ((s30.1 || y33),w64 (s30.2 + 1)))) else some (.inr (s30.1,s30.2)))
def jV (p0:TY) (p1:(List Int)) (s16:(Int × Int)) : Option ((Int × Int) ⊕ (Int × Int)) :=
 (if decide (s16.2 < (p0.fR.length:Int)) = true then al ((0:Int) ≤ s16.2 ∧ s16.2 < (p0.fR.length:Int)) (((aR (kc p0 p1 s16) ((rdL p0.fR s16.2).fW,0)).bind fun u22 => ((aR (kg p0 p1 s16) (false,0)).bind fun u31 => (if u31.1 = true then al ((0:Int) ≤ s16.2 ∧ s16.2 < (p0.fR.length:Int)) (some (.inl (w64 ((w64 (s16.1 + ((rdL p0.fR s16.2).fW))) - u22.1),w64 (s16.2 + 1)))) else some (.inl (s16.1,w64 (s16.2 + 1))))))) else some (.inr (s16.1,s16.2)))
def j8 (p0:TY) (p1:(List Int)) : Option Int :=
 (if ((p1.length:Int) != (p0.fB.length:Int)) = true then some (-1) else ((aR (ko p1) (0,0,0)).bind fun u5 => match u5 with | (.inl u13) => some u13.1 | (.inr u14) => ((aR (jV p0 p1) (u14.2.1,0)).bind fun u17 => some u17.1)))
def g5 (p0:TY) (p1:TPlan) : Option Int :=
 ((ii p0).bind fun y3 => (if (y3 != 0) = true then some y3 else ((mm p0 p1.fG p1.fW).bind fun y6 => ((if (!y6) = true then (some (true)) else ((j8 p0 p1.fPrices).bind fun y12 => some ((y12 != p1.fW)))).bind fun b9 => (if b9 = true then some 8 else some 0)))))
def cX (p0:TR) (y6:(List (Ts × Tl))) (s12:(Int × (List (List Int)))) : Option ((Int × (List (List Int))) ⊕ (Int × (List (List Int)))) :=
 (if decide (s12.1 < p0.fPlaces) = true then ((eD y6 s12.1).bind fun y15 => ((bP y15).bind fun y20 => al (s12.2.length + 1 ≤ 1000000000) (some (.inl (w64 (s12.1 + 1),(s12.2 ++ [y20])))))) else some (.inr (s12.1,s12.2)))
def eI (p0:TR) (p1:Int) (p2:Int) : Option (TTimes × Int) :=
 ((dS p0 p1 p1 p2 0).bind fun y3 => (if (y3 != 0) = true then some ((TTimes.mk []),y3) else ((dL p0 p1 p2).bind fun y6 => ((aR (cX p0 y6) (0,([]:List (List Int)))).bind fun u13 => some ((TTimes.mk u13.2),0)))))
def f8 (p0:TR) (p1:Int) (p2:Int) (p3:Int) : Option ((List TJ) × Int) :=
 ((dS p0 p1 p2 p3 0).bind fun y2 => (if (y2 != 0) = true then some ([],y2) else ((fk p0 p1 p2 p3).bind fun y5 => some (y5,0))))
def ir  : Option TR :=
 some (TR.mk 3 [(TT.mk 1 0 1 5 0 ([]:(List TSpan))),(TT.mk 2 1 2 5 0 [(TSpan.mk 8 20)]),(TT.mk 3 0 2 9 6 ([]:(List TSpan))),(TT.mk 4 1 2 8 2 ([]:(List TSpan)))])
def io  : Option TY :=
 some (TY.mk [(TBay.mk 1 10 3),(TBay.mk 2 11 5)] [(TO.mk 7 (TSpan.mk 10 11) 3 5),(TO.mk 8 (TSpan.mk 11 12) 4 9),(TO.mk 9 (TSpan.mk 10 11) 4 7)])
def mf (p0:TT) (p1:Int) : Option (Int × Int) :=
 ((gd p0.fK).bind fun y2 => ((if (!y2) = true then (some (true)) else ((c3 p1).bind fun y11 => some ((!y11)))).bind fun b5 => (if b5 = true then some (0,1) else ((fm p0 p1).bind fun y8 => (if (!y8.2) = true then some (0,5) else some (y8.1,0))))))
def bT  : Option Bool :=
 ((ir).bind fun y1 => ((io).bind fun y14 => al ((0:Int) ≤ 1 ∧ 1 < (y1.fTracks.length:Int)) (((mf (TT.mk ((rdL y1.fTracks 1).fID) ((rdL y1.fTracks 1).fFrom) ((rdL y1.fTracks 1).fTo) ((rdL y1.fTracks 1).fLong) ((rdL y1.fTracks 1).fToll) ((rdL y1.fTracks 1).fK)) 8).bind fun y26 => ((eI y1 0 4).bind fun y28 => ((f8 y1 0 2 4).bind fun y41 => ((jf y1 0 2 4 5).bind fun y53 => ((la y1 0 2 26 0).bind fun y64 => ((jy y1 0 2 4 0).bind fun y66 => ((jy y1 0 2 4 60).bind fun y72 => ((if (((((((((y26.2 != 0) || (y28.2 != 0)) || (y41.2 != 0)) || (y53.2 != 0)) || (y64.2 != 0)) || (y66.2 != 0)) || (y72.2 != 0)) || (y26.1 != 21)) || ((y28.1.fH.length:Int) != 3)) = true then (some (true)) else (al ((0:Int) ≤ 2 ∧ 2 < (y28.1.fH.length:Int)) (some (((((rdL y28.1.fH 2).length : Nat) : Int) != 61))))).bind fun b87 => (if (b87 || ((y41.1.length:Int) != 3)) = true then some false else al ((0:Int) ≤ 2 ∧ 2 < (y28.1.fH.length:Int)) (al ((0:Int) ≤ 0 ∧ 0 < (((rdL y28.1.fH 2).length : Nat) : Int)) (((if ((rdL (rdL y28.1.fH 2) 0) == 26) = true then (al ((0:Int) ≤ 2 ∧ 2 < (y28.1.fH.length:Int)) (al ((0:Int) ≤ 2 ∧ 2 < (((rdL y28.1.fH 2).length : Nat) : Int)) (some (((rdL (rdL y28.1.fH 2) 2) == 17))))) else (some (false))).bind fun b94 => ((if b94 = true then (al ((0:Int) ≤ 2 ∧ 2 < (y28.1.fH.length:Int)) (al ((0:Int) ≤ 6 ∧ 6 < (((rdL y28.1.fH 2).length : Nat) : Int)) (some (((rdL (rdL y28.1.fH 2) 6) == 13))))) else (some (false))).bind fun b97 => ((if b97 = true then (al ((0:Int) ≤ 0 ∧ 0 < (y41.1.length:Int)) (some ((((rdL y41.1 0).fToll) == 0)))) else (some (false))).bind fun b100 => ((if b100 = true then (al ((0:Int) ≤ 1 ∧ 1 < (y41.1.length:Int)) (some ((((rdL y41.1 1).fA) == 17)))) else (some (false))).bind fun b103 => ((if b103 = true then (al ((0:Int) ≤ 2 ∧ 2 < (y41.1.length:Int)) (some ((((rdL y41.1 2).fToll) == 6)))) else (some (false))).bind fun b106 => ((if ((b106 && (y53.1.fA == 17)) && (y64.1 == 16)) = true then ((de y66.1 [1,2]).bind fun y182 => some (y182)) else (some (false))).bind fun b111 => ((if b111 = true then ((de y72.1 [3]).bind fun y179 => some (y179)) else (some (false))).bind fun b114 => ((mh y14).bind fun y116 => ((kX y14).bind fun y127 => ((l9 y14).bind fun y133 => ((kn y14 [7,8,9]).bind fun y140 => ((nC y14 1).bind fun y146 => ((if ((y116.2 == 0) && (y116.1.fW == 14)) = true then ((g5 y14 y116.1).bind fun y176 => some ((y176 == 0))) else (some (false))).bind fun b150 => ((if (b150 && (y127.2 == 0)) = true then ((de y127.1 [7,8]).bind fun y174 => some (y174)) else (some (false))).bind fun b154 => ((if (b154 && (y133.2 == 0)) = true then ((de y133.1 [9]).bind fun y171 => some (y171)) else (some (false))).bind fun b158 => ((if ((b114 && b158) && (y140.2 == 0)) = true then ((de y140.1 [8,9]).bind fun y168 => some (y168)) else (some (false))).bind fun b163 => some ((b163 && (y146.2 == 0)) && (y146.1 == 5))))))))))))))))))))))))))))))))
def dD (p0:TJ) : Option Bool :=
 some (decide ((p0.fLegs.length:Int) ≤ 40))
def eJ (p0:TTimes) (s3:(Bool × Int)) : Option ((Bool × Int) ⊕ ((Bool × Int) ⊕ (Bool × Int))) :=
 (if decide (s3.2 < (p0.fH.length:Int)) = true then al ((0:Int) ≤ s3.2 ∧ s3.2 < (p0.fH.length:Int)) ((if decide (80 < (((rdL p0.fH s3.2).length : Nat) : Int)) = true then some (.inr (.inl (false,s3.2))) else some (.inl (s3.1,w64 (s3.2 + 1))))) else some (.inr (.inr (s3.1,s3.2))))
def eV (p0:TTimes) : Option Bool :=
 ((aR (eJ p0) (false,0)).bind fun u4 => match u4 with | (.inl u9) => some u9.1 | (.inr u10) => some (decide ((p0.fH.length:Int) ≤ 20)))
def aV (p0:(List (List Int))) (p1:(List Int) → Option Bool) (s2:(Int × Int)) : Option ((Int × Int) ⊕ ((Int × Int) ⊕ (Int × Int))) :=
 (if decide (s2.2 < (p0.length:Int)) = true then al ((0:Int) ≤ s2.2 ∧ s2.2 < (p0.length:Int)) (((p1 (rdL p0 s2.2)).bind fun y6 => (if y6 = true then some (.inr (.inl (s2.2,s2.2))) else some (.inl (s2.1,w64 (s2.2 + 1)))))) else some (.inr (.inr (s2.1,s2.2))))
def bm (p0:(List (List Int))) (p1:(List Int) → Option Bool) : Option Int :=
 ((aR (aV p0 p1) (0,0)).bind fun u3 => match u3 with | (.inl u10) => some u10.1 | (.inr u11) => some (-1))
def eF (p0:(List (List Int))) (p1:(List Int) → Option Bool) : Option Int :=
 ((bm p0 p1).bind fun y1 => some y1)
def fF (p0:(List Int)) (s2:(Bool × Int × Int)) : Option ((Bool × Int × Int) ⊕ ((Bool × Int × Int) ⊕ (Bool × Int × Int))) :=
 (if decide (s2.2.2 < (p0.length:Int)) = true then al ((0:Int) ≤ s2.2.2 ∧ s2.2.2 < (p0.length:Int)) (((be (rdL p0 s2.2.2) (-1) 16384).bind fun y6 => (if ((!y6) || ((decide (0 ≤ s2.2.1)) && ((decide ((rdL p0 s2.2.2) < 0)) || (decide (s2.2.1 < (rdL p0 s2.2.2)))))) = true then some (.inr (.inl (false,s2.2.1,s2.2.2))) else some (.inl (s2.1,(rdL p0 s2.2.2),w64 (s2.2.2 + 1)))))) else some (.inr (.inr (s2.1,s2.2.1,s2.2.2))))
def gz (p0:(List Int)) : Option Bool :=
 ((aR (fF p0) (false,(-1),0)).bind fun u3 => match u3 with | (.inl u13) => some u13.1 | (.inr u14) => some ((p0.length:Int) == 61))
def dR (p0:(List Int)) : Option Bool :=
 ((gz p0).bind fun y1 => some (!y1))
def eR (p0:Int) (cap0:Int) : Option Bool :=
 some ((decide (p0 < 0)) || (decide (cap0 < p0)))
def eu (p0:TR) (p3:TTimes) (s14:(Bool × Int)) (s21:(Bool × Int)) : Option ((Bool × Int) ⊕ ((Bool × Int) ⊕ (Bool × Int))) :=
 (if decide (s21.2 < (((rdL p3.fH ((rdL p0.fTracks s14.2).fFrom)).length : Nat) : Int)) = true then al ((0:Int) ≤ s21.2 ∧ s21.2 < (((rdL p3.fH ((rdL p0.fTracks s14.2).fFrom)).length : Nat) : Int)) ((if ((decide ((rdL (rdL p3.fH ((rdL p0.fTracks s14.2).fFrom)) s21.2) < 0)) || (decide (60 < w64 (s21.2 + ((rdL p0.fTracks s14.2).fToll))))) = true then some (.inl (s21.1,w64 (s21.2 + 1))) else ((fm (TT.mk ((rdL p0.fTracks s14.2).fID) ((rdL p0.fTracks s14.2).fFrom) ((rdL p0.fTracks s14.2).fTo) ((rdL p0.fTracks s14.2).fLong) ((rdL p0.fTracks s14.2).fToll) ((rdL p0.fTracks s14.2).fK)) (rdL (rdL p3.fH ((rdL p0.fTracks s14.2).fFrom)) s21.2)).bind fun y27 => ((if (!y27.2) = true then (some (true)) else ((c3 (w64 (y27.1 + ((rdL p0.fTracks s14.2).fLong)))).bind fun y37 => some ((!y37)))).bind fun b30 => (if b30 = true then some (.inl (s21.1,w64 (s21.2 + 1))) else al ((0:Int) ≤ (rdL p0.fTracks s14.2).fTo ∧ (rdL p0.fTracks s14.2).fTo < (p3.fH.length:Int)) (al ((0:Int) ≤ w64 (s21.2 + ((rdL p0.fTracks s14.2).fToll)) ∧ w64 (s21.2 + ((rdL p0.fTracks s14.2).fToll)) < (((rdL p3.fH ((rdL p0.fTracks s14.2).fTo)).length : Nat) : Int)) ((if ((decide ((rdL (rdL p3.fH ((rdL p0.fTracks s14.2).fTo)) (w64 (s21.2 + ((rdL p0.fTracks s14.2).fToll)))) < 0)) || (decide (w64 (y27.1 + ((rdL p0.fTracks s14.2).fLong)) < (rdL (rdL p3.fH ((rdL p0.fTracks s14.2).fTo)) (w64 (s21.2 + ((rdL p0.fTracks s14.2).fToll))))))) = true then some (.inr (.inl (false,s21.2))) else some (.inl (s21.1,w64 (s21.2 + 1))))))))))) else some (.inr (.inr (s21.1,s21.2))))
def fX (p0:TR) (p3:TTimes) (s14:(Bool × Int)) : Option ((Bool × Int) ⊕ ((Bool × Int) ⊕ (Bool × Int))) :=
 (if decide (s14.2 < (p0.fTracks.length:Int)) = true then al ((0:Int) ≤ s14.2 ∧ s14.2 < (p0.fTracks.length:Int)) (al ((0:Int) ≤ (rdL p0.fTracks s14.2).fFrom ∧ (rdL p0.fTracks s14.2).fFrom < (p3.fH.length:Int)) (((aR (eu p0 p3 s14) (s14.1,0)).bind fun u22 => match u22 with | (.inl u40) => some (.inr (.inl (u40.1,s14.2))) | (.inr u41) => some (.inl (u41.1,w64 (s14.2 + 1)))))) else some (.inr (.inr (s14.1,s14.2))))
def gw (p0:TR) (p1:Int) (p2:Int) (p3:TTimes) : Option Bool :=
 ((if ((p3.fH.length:Int) != p0.fPlaces) = true then (some (true)) else ((eF p3.fH (fun x45 => dR x45)).bind fun y46 => some (decide (0 ≤ y46)))).bind fun b5 => (if b5 = true then some false else al ((0:Int) ≤ p1 ∧ p1 < (p3.fH.length:Int)) (((gi (rdL p3.fH p1) (fun x9 => eR x9 p2)).bind fun y10 => (if decide (0 ≤ y10) = true then some false else ((aR (fX p0 p3) (false,0)).bind fun u15 => match u15 with | (.inl u43) => some u43.1 | (.inr u44) => some true))))))
def ee (p0:TR) (p4:TJ) (s4:(Int × Int × Bool × Int × Int)) : Option ((Int × Int × Bool × Int × Int) ⊕ ((Int × Int × Bool × Int × Int) ⊕ (Int × Int × Bool × Int × Int))) :=
 (if decide (s4.2.2.2.2 < (p4.fLegs.length:Int)) = true then al ((0:Int) ≤ s4.2.2.2.2 ∧ s4.2.2.2.2 < (p4.fLegs.length:Int)) (((gW p0 ((rdL p4.fLegs s4.2.2.2.2).fTrack)).bind fun y9 => ((if decide (y9 < 0) = true then (some (true)) else (al ((0:Int) ≤ y9 ∧ y9 < (p0.fTracks.length:Int)) (some ((((rdL p0.fTracks y9).fFrom) != s4.1))))).bind fun b12 => ((if (b12 || (decide ((rdL p4.fLegs s4.2.2.2.2).fHour < s4.2.1))) = true then (some (true)) else ((c3 ((rdL p4.fLegs s4.2.2.2.2).fHour)).bind fun y27 => some ((!y27)))).bind fun b16 => (if b16 = true then some (.inr (.inl (s4.1,s4.2.1,false,s4.2.2.2.1,s4.2.2.2.2))) else al ((0:Int) ≤ y9 ∧ y9 < (p0.fTracks.length:Int)) (((fm (TT.mk ((rdL p0.fTracks y9).fID) ((rdL p0.fTracks y9).fFrom) ((rdL p0.fTracks y9).fTo) ((rdL p0.fTracks y9).fLong) ((rdL p0.fTracks y9).fToll) ((rdL p0.fTracks y9).fK)) ((rdL p4.fLegs s4.2.2.2.2).fHour)).bind fun y20 => (if ((!y20.2) || (y20.1 != ((rdL p4.fLegs s4.2.2.2.2).fHour))) = true then some (.inr (.inl (s4.1,s4.2.1,false,s4.2.2.2.1,s4.2.2.2.2))) else al ((0:Int) ≤ y9 ∧ y9 < (p0.fTracks.length:Int)) (al ((0:Int) ≤ y9 ∧ y9 < (p0.fTracks.length:Int)) (al ((0:Int) ≤ y9 ∧ y9 < (p0.fTracks.length:Int)) (some (.inl ((rdL p0.fTracks y9).fTo,w64 (((rdL p4.fLegs s4.2.2.2.2).fHour) + ((rdL p0.fTracks y9).fLong)),s4.2.2.1,w64 (s4.2.2.2.1 + ((rdL p0.fTracks y9).fToll)),w64 (s4.2.2.2.2 + 1)))))))))))))) else some (.inr (.inr (s4.1,s4.2.1,s4.2.2.1,s4.2.2.2.1,s4.2.2.2.2))))
def ef (p0:TR) (p1:Int) (p2:Int) (p3:Int) (p4:TJ) : Option Bool :=
 ((aR (ee p0 p4) (p1,p3,false,0,0)).bind fun u5 => match u5 with | (.inl u31) => some u31.2.2.1 | (.inr u32) => ((if (((u32.1 == p2) && (u32.2.1 == p4.fA)) && (u32.2.2.2.1 == p4.fToll)) = true then ((c3 u32.2.1).bind fun y39 => some (y39)) else (some (false))).bind fun b36 => some (b36 && (decide (u32.2.2.2.1 ≤ 60)))))
def dw (p0:TR) (p1:Int) (p2:Int) (p3:Int) (p4:TJ) : Option Int :=
 ((dS p0 p1 p2 p3 0).bind fun y3 => (if (y3 != 0) = true then some y3 else ((ef p0 p1 p2 p3 p4).bind fun y6 => (if (!y6) = true then some 8 else some 0))))
def aQ (p0:(List TJ)) (p1:TJ → Option Bool) (s2:(Int × Int)) : Option ((Int × Int) ⊕ ((Int × Int) ⊕ (Int × Int))) :=
 (if decide (s2.2 < (p0.length:Int)) = true then al ((0:Int) ≤ s2.2 ∧ s2.2 < (p0.length:Int)) (((p1 (TJ.mk ((rdL p0 s2.2).fLegs) ((rdL p0 s2.2).fA) ((rdL p0 s2.2).fToll))).bind fun y6 => (if y6 = true then some (.inr (.inl (s2.2,s2.2))) else some (.inl (s2.1,w64 (s2.2 + 1)))))) else some (.inr (.inr (s2.1,s2.2))))
def bg (p0:(List TJ)) (p1:TJ → Option Bool) : Option Int :=
 ((aR (aQ p0 p1) (0,0)).bind fun u3 => match u3 with | (.inl u10) => some u10.1 | (.inr u11) => some (-1))
def bN (p0:(List TJ)) (p1:TJ → Option Bool) : Option Int :=
 ((bg p0 p1).bind fun y1 => some y1)
def cA (p0:TJ) (cap0:TR) (cap1:Int) (cap2:Int) (cap3:Int) : Option Bool :=
 ((ef cap0 cap1 cap2 cap3 p0).bind fun y2 => some (!y2))
def d9 (s21:(Int × (List Int))) : Option ((Int × (List Int)) ⊕ (Int × (List Int))) :=
 (if decide (s21.1 < 61) = true then al ((0:Int) ≤ s21.1 ∧ s21.1 < 61) (some (.inl (w64 (s21.1 + 1),(s21.2.set (Int.toNat s21.1) (-1))))) else some (.inr (s21.1,s21.2)))
def db (p4:(List TJ)) (s28:(Int × Int × (List Int))) (s39:(Int × (List Int))) : Option ((Int × (List Int)) ⊕ (Int × (List Int))) :=
 (if decide (s39.1 ≤ 60) = true then al ((0:Int) ≤ s39.1 ∧ s39.1 < 61) (some (.inl (w64 (s39.1 + 1),(s39.2.set (Int.toNat s39.1) ((rdL p4 s28.2.1).fA))))) else some (.inr (s39.1,s39.2)))
def cm (p4:(List TJ)) (s28:(Int × Int × (List Int))) : Option ((Int × Int × (List Int)) ⊕ ((Int × Int × (List Int)) ⊕ (Int × Int × (List Int)))) :=
 (if decide (s28.2.1 < (p4.length:Int)) = true then al ((0:Int) ≤ s28.2.1 ∧ s28.2.1 < (p4.length:Int)) (((if decide (0 < s28.2.1) = true then (al ((0:Int) ≤ w64 (s28.2.1 - 1) ∧ w64 (s28.2.1 - 1) < (p4.length:Int)) (((if decide ((rdL p4 s28.2.1).fToll ≤ (rdL p4 (w64 (s28.2.1 - 1))).fToll) = true then (some (true)) else (al ((0:Int) ≤ w64 (s28.2.1 - 1) ∧ w64 (s28.2.1 - 1) < (p4.length:Int)) (some (decide ((rdL p4 (w64 (s28.2.1 - 1))).fA ≤ (rdL p4 s28.2.1).fA))))).bind fun b46 => some (b46)))) else (some (false))).bind fun b34 => (if b34 = true then some (.inr (.inl (8,s28.2.1,s28.2.2))) else ((aR (db p4 s28) ((rdL p4 s28.2.1).fToll,s28.2.2)).bind fun u40 => some (.inl (s28.1,w64 (s28.2.1 + 1),u40.2)))))) else some (.inr (.inr (s28.1,s28.2.1,s28.2.2))))
def ck (p0:TR) (p1:Int) (p2:Int) (p3:Int) (p4:(List TJ)) (p5:TTimes) : Option Int :=
 ((dS p0 p1 p2 p3 0).bind fun y6 => (if (y6 != 0) = true then some y6 else ((gw p0 p1 p3 p5).bind fun y9 => ((if (!y9) = true then (some (true)) else ((bN p4 (fun x53 => cA x53 p0 p1 p2 p3)).bind fun y54 => some (decide (0 ≤ y54)))).bind fun b12 => (if b12 = true then some 8 else al ((0:Int) ≤ p2 ∧ p2 < (p5.fH.length:Int)) (al ((rdL p5.fH p2).length = 61) (((aR (d9) (0,(List.replicate 61 0))).bind fun u22 => ((aR (cm p4) (0,0,u22.2)).bind fun u29 => match u29 with | (.inl u50) => some u50.1 | (.inr u51) => (if (!decide ((rdL p5.fH p2) = u51.2.2)) = true then some 8 else some 0))))))))))
def dI (p0:(List TJ)) (p1:TJ) (s3:(Bool × Int)) : Option ((Bool × Int) ⊕ ((Bool × Int) ⊕ (Bool × Int))) :=
 (if decide (s3.2 < (p0.length:Int)) = true then al ((0:Int) ≤ s3.2 ∧ s3.2 < (p0.length:Int)) (((if decide ((rdL p0 s3.2).fToll ≤ p1.fToll) = true then (al ((0:Int) ≤ s3.2 ∧ s3.2 < (p0.length:Int)) (some (decide ((rdL p0 s3.2).fA ≤ p1.fA)))) else (some (false))).bind fun b8 => (if b8 = true then some (.inr (.inl (true,s3.2))) else some (.inl (s3.1,w64 (s3.2 + 1)))))) else some (.inr (.inr (s3.1,s3.2))))
def cW (p0:(List TJ)) (p1:TJ) : Option Bool :=
 ((aR (dI p0 p1) (false,0)).bind fun u4 => match u4 with | (.inl u13) => some u13.1 | (.inr u14) => some false)
def bD (p5:(List TJ)) (s17:(Bool × Int)) : Option ((Bool × Int) ⊕ ((Bool × Int) ⊕ (Bool × Int))) :=
 (if decide (s17.2 < (p5.length:Int)) = true then al ((0:Int) ≤ s17.2 ∧ s17.2 < (p5.length:Int)) (((dD (TJ.mk ((rdL p5 s17.2).fLegs) ((rdL p5 s17.2).fA) ((rdL p5 s17.2).fToll))).bind fun y21 => (if (!y21) = true then ((bT).bind fun y24 => some (.inr (.inl (y24,s17.2)))) else some (.inl (s17.1,w64 (s17.2 + 1)))))) else some (.inr (.inr (s17.1,s17.2))))
def bY (y29:((List TJ) × Int)) (y67:(TJ × Int)) (s82:(Bool × Int)) : Option ((Bool × Int) ⊕ (Bool × Int)) :=
 (if decide (s82.2 < (y29.1.length:Int)) = true then ((if s82.1 = true then (some (true)) else (al ((0:Int) ≤ s82.2 ∧ s82.2 < (y29.1.length:Int)) (((if (((rdL y29.1 s82.2).fToll) == y67.1.fToll) = true then (al ((0:Int) ≤ s82.2 ∧ s82.2 < (y29.1.length:Int)) (some ((((rdL y29.1 s82.2).fA) == y67.1.fA)))) else (some (false))).bind fun b90 => some (b90))))).bind fun b86 => some (.inl (b86,w64 (s82.2 + 1)))) else some (.inr (s82.1,s82.2)))
def cP (p0:TR) (p1:Int) (p2:Int) (p3:Int) (p4:TJ) (p5:(List TJ)) (p6:TTimes) (p7:Int) : Option Bool :=
 ((fV p0).bind fun y4 => ((if (!y4) = true then (some (true)) else ((dD p4).bind fun y114 => some ((!y114)))).bind fun b7 => ((if b7 = true then (some (true)) else ((eV p6).bind fun y112 => some ((!y112)))).bind fun b10 => (if (b10 || (decide (20 < (p5.length:Int)))) = true then ((bT).bind fun y14 => some y14) else ((aR (bD p5) (false,0)).bind fun u18 => match u18 with | (.inl u27) => some u27.1 | (.inr u28) => ((f8 p0 p1 p2 p3).bind fun y29 => (if (y29.2 != 0) = true then ((bT).bind fun y42 => some y42) else ((eI p0 p1 p3).bind fun y44 => ((if (y44.2 != 0) = true then (some (true)) else ((ck p0 p1 p2 p3 y29.1 y44.1).bind fun y110 => some ((y110 != 0)))).bind fun b58 => (if b58 = true then some false else ((dw p0 p1 p2 p3 p4).bind fun y61 => ((if (y61 == 0) = true then ((cW y29.1 p4).bind fun y98 => ((if (!y98) = true then (some (true)) else ((ck p0 p1 p2 p3 p5 p6).bind fun y103 => ((if (y103 == 0) = true then ((cW p5 p4).bind fun y108 => some ((!y108))) else (some (false))).bind fun b106 => some (b106)))).bind fun b101 => some (b101))) else (some (false))).bind fun b64 => (if b64 = true then some false else ((jf p0 p1 p2 p3 (Int.tmod (w64 p7) 61)).bind fun y67 => (if (y67.2 == 5) = true then ((bT).bind fun y79 => some y79) else ((aR (bY y29 y67) (false,0)).bind fun u83 => ((bT).bind fun y94 => some ((y94 && (y67.2 == 0)) && u83.1))))))))))))))))))
end
end Go.Proofs.YthndghnkebboaaaGreat
