import Derived.Test.YthndghnkebboaaaGreatGz
set_option linter.unusedVariables false
namespace Go.Proofs.YthndghnkebboaaaGreat
noncomputable section
structure TSpan where
 fLo : Int
 fHi : Int
 deriving DecidableEq
instance : Inhabited TSpan:=⟨⟨default,default⟩⟩
def TSpan_rg (x:TSpan) : Prop:=Rg_i64 x.fLo ∧ Rg_i64 x.fHi
structure TT where
 fID : Int
 fFrom : Int
 fTo : Int
 fLong : Int
 fToll : Int
 fK : (List TSpan)
 deriving DecidableEq
instance : Inhabited TT:=⟨⟨default,default,default,default,default,default⟩⟩
def TTrack_rg (x:TT) : Prop:=Rg_i64 x.fID ∧ Rg_i64 x.fFrom ∧ Rg_i64 x.fTo ∧ Rg_i64 x.fLong ∧ Rg_i64 x.fToll ∧ (Rg_list TSpan_rg x.fK)
structure TR where
 fPlaces : Int
 fTracks : (List TT)
 deriving DecidableEq
instance : Inhabited TR:=⟨⟨default,default⟩⟩
def tE (x:TR) : Prop:=Rg_i64 x.fPlaces ∧ (Rg_list TTrack_rg x.fTracks)
structure Ts where
 f_place : Int
 f_toll : Int
 deriving DecidableEq
instance : Inhabited Ts:=⟨⟨default,default⟩⟩
def Tstop_rg (x:Ts) : Prop:=Rg_i64 x.f_place ∧ Rg_i64 x.f_toll
structure Twait where
 f_at : Int
 f_stop : Ts
 deriving DecidableEq
instance : Inhabited Twait:=⟨⟨default,default⟩⟩
def Twait_rg (x:Twait) : Prop:=Rg_i64 x.f_at ∧ Rg_i64 x.f_stop.f_place ∧ Rg_i64 x.f_stop.f_toll
structure TLeg where
 fTrack : Int
 fHour : Int
 deriving DecidableEq
instance : Inhabited TLeg:=⟨⟨default,default⟩⟩
def TLeg_rg (x:TLeg) : Prop:=Rg_i64 x.fTrack ∧ Rg_i64 x.fHour
structure Tl where
 f_at : Int
 f_from : Ts
 f_leg : TLeg
 f_begin : Bool
 deriving DecidableEq
instance : Inhabited Tl:=⟨⟨default,default,default,default⟩⟩
def Tlabel_rg (x:Tl) : Prop:=Rg_i64 x.f_at ∧ Rg_i64 x.f_from.f_place ∧ Rg_i64 x.f_from.f_toll ∧ Rg_i64 x.f_leg.fTrack ∧ Rg_i64 x.f_leg.fHour
structure TJ where
 fLegs : (List TLeg)
 fA : Int
 fToll : Int
 deriving DecidableEq
instance : Inhabited TJ:=⟨⟨default,default,default⟩⟩
def qg (x:TJ) : Prop:=(Rg_list TLeg_rg x.fLegs) ∧ Rg_i64 x.fA ∧ Rg_i64 x.fToll
structure TO where
 fID : Int
 fH : TSpan
 fD : Int
 fW : Int
 deriving DecidableEq
instance : Inhabited TO:=⟨⟨default,default,default,default⟩⟩
def sB (x:TO) : Prop:=Rg_i64 x.fID ∧ Rg_i64 x.fH.fLo ∧ Rg_i64 x.fH.fHi ∧ Rg_i64 x.fD ∧ Rg_i64 x.fW
structure TBay where
 fID : Int
 fHour : Int
 fD : Int
 deriving DecidableEq
instance : Inhabited TBay:=⟨⟨default,default,default⟩⟩
def TBay_rg (x:TBay) : Prop:=Rg_i64 x.fID ∧ Rg_i64 x.fHour ∧ Rg_i64 x.fD
structure TY where
 fB : (List TBay)
 fR : (List TO)
 deriving DecidableEq
instance : Inhabited TY:=⟨⟨default,default⟩⟩
def TYard_rg (x:TY) : Prop:=(Rg_list TBay_rg x.fB) ∧ (Rg_list sB x.fR)
structure TPlan where
 fG : (List Int)
 fW : Int
 fPrices : (List Int)
 deriving DecidableEq
instance : Inhabited TPlan:=⟨⟨default,default,default⟩⟩
def TPlan_rg (x:TPlan) : Prop:=(Rg_list Rg_i64 x.fG) ∧ Rg_i64 x.fW ∧ (Rg_list Rg_i64 x.fPrices)
structure TTimes where
 fH : (List (List Int))
 deriving DecidableEq
instance : Inhabited TTimes:=⟨⟨default⟩⟩
def rN (x:TTimes) : Prop:=(Rg_list (Rg_list Rg_i64) x.fH)
structure TPoint where
 fToll : Int
 fA : Int
 deriving DecidableEq
instance : Inhabited TPoint:=⟨⟨default,default⟩⟩
def tq (x:TPoint) : Prop:=Rg_i64 x.fToll ∧ Rg_i64 x.fA
structure TPointed where
 fP : TPoint
 fE : Int
 deriving DecidableEq
instance : Inhabited TPointed:=⟨⟨default,default⟩⟩
def TPointed_rg (x:TPointed) : Prop:=Rg_i64 x.fP.fToll ∧ Rg_i64 x.fP.fA ∧ Rg_i64 x.fE
structure TInts where
 fL : (List Int)
 fE : Int
 deriving DecidableEq
instance : Inhabited TInts:=⟨⟨default,default⟩⟩
def TInts_rg (x:TInts) : Prop:=(Rg_list Rg_i64 x.fL) ∧ Rg_i64 x.fE
structure TTimed where
 fT : TTimes
 fE : Int
 deriving DecidableEq
instance : Inhabited TTimed:=⟨⟨default,default⟩⟩
def TTimed_rg (x:TTimed) : Prop:=(Rg_list (Rg_list Rg_i64) x.fT.fH) ∧ Rg_i64 x.fE
structure TFronted where
 fL : (List TPoint)
 fE : Int
 deriving DecidableEq
instance : Inhabited TFronted:=⟨⟨default,default⟩⟩
def TFronted_rg (x:TFronted) : Prop:=(Rg_list tq x.fL) ∧ Rg_i64 x.fE
def aM (x:Ts) : Bool:=dI x.f_place && dI x.f_toll
def eK (p0:TR) (s3:(Bool × Int)) : Option ((Bool × Int) ⊕ ((Bool × Int) ⊕ (Bool × Int))) :=
 (if decide (s3.2 < (p0.fTracks.length:Int)) = true then ao ((0:Int) ≤ s3.2 ∧ s3.2 < (p0.fTracks.length:Int)) ((if decide (12 < (((rdL p0.fTracks s3.2).fK.length : Nat) : Int)) = true then some (.inr (.inl (false,s3.2))) else some (.inl (s3.1,w64 (s3.2 + 1))))) else some (.inr (.inr (s3.1,s3.2))))
def fq (p0:TR) : Option Bool :=
 ((aU (eK p0) (false,0)).bind fun u4 => match u4 with | (.inl u9) => some u9.1 | (.inr u10) => some (((decide (p0.fPlaces ≤ 8)) || (decide (16 < p0.fPlaces))) && ((decide ((p0.fTracks.length:Int) ≤ 16)) || ((decide (48 < (p0.fTracks.length:Int))) && (decide ((p0.fTracks.length:Int) ≤ 60))))))
def bb (p0:Int) (p1:Int) (p2:Int) : Option Bool :=
 some ((decide (p1 ≤ p0)) && (decide (p0 ≤ p2)))
def cP (p0:Int) : Option Bool :=
 ((bb p0 0 16384).bind fun y1 => some y1)
def eD (p0:(List TSpan)) (s2:(Bool × Int × Int)) : Option ((Bool × Int × Int) ⊕ ((Bool × Int × Int) ⊕ (Bool × Int × Int))) :=
 (if decide (s2.2.2 < (p0.length:Int)) = true then ao ((0:Int) ≤ s2.2.2 ∧ s2.2.2 < (p0.length:Int)) ((if (((decide ((rdL p0 s2.2.2).fLo < w64 (s2.2.1 + 2))) || (decide ((rdL p0 s2.2.2).fHi < (rdL p0 s2.2.2).fLo))) || (decide (16384 < (rdL p0 s2.2.2).fHi))) = true then some (.inr (.inl (false,s2.2.1,s2.2.2))) else some (.inl (s2.1,(rdL p0 s2.2.2).fHi,w64 (s2.2.2 + 1))))) else some (.inr (.inr (s2.1,s2.2.1,s2.2.2))))
def fU (p0:(List TSpan)) : Option Bool :=
 ((aU (eD p0) (false,(-2),0)).bind fun u3 => match u3 with | (.inl u11) => some u11.1 | (.inr u12) => some (decide ((p0.length:Int) ≤ 4)))
def aX (p0:(List TT)) (p1:TT → Option Bool) (s2:(Int × Int)) : Option ((Int × Int) ⊕ ((Int × Int) ⊕ (Int × Int))) :=
 (if decide (s2.2 < (p0.length:Int)) = true then ao ((0:Int) ≤ s2.2 ∧ s2.2 < (p0.length:Int)) (((p1 (TT.mk ((rdL p0 s2.2).fID) ((rdL p0 s2.2).fFrom) ((rdL p0 s2.2).fTo) ((rdL p0 s2.2).fLong) ((rdL p0 s2.2).fToll) ((rdL p0 s2.2).fK))).bind fun y6 => (if y6 = true then some (.inr (.inl (s2.2,s2.2))) else some (.inl (s2.1,w64 (s2.2 + 1)))))) else some (.inr (.inr (s2.1,s2.2))))
def bn (p0:(List TT)) (p1:TT → Option Bool) : Option Int :=
 ((aU (aX p0 p1) (0,0)).bind fun u3 => match u3 with | (.inl u10) => some u10.1 | (.inr u11) => some (-1))
def bQ (p0:(List TT)) (p1:TT → Option Bool) : Option Int :=
 ((bn p0 p1).bind fun y1 => some y1)
def gb (p0:TT) (cap0:Int) : Option Bool :=
 some (p0.fID == cap0)
def gG (p0:TR) (p1:Int) : Option Int :=
 ((bQ p0.fTracks (fun x3 => gb x3 p1)).bind fun y4 => some y4)
def f7 (p0:Int) (cap0:TR) : Option Bool :=
 ((bb p0 0 (w64 (cap0.fPlaces - 1))).bind fun y1 => some y1)
def fk (p0:TR) (s7:(Int × Int)) : Option ((Int × Int) ⊕ ((Int × Int) ⊕ (Int × Int))) :=
 (if decide (s7.2 < (p0.fTracks.length:Int)) = true then ao ((0:Int) ≤ s7.2 ∧ s7.2 < (p0.fTracks.length:Int)) (((bb ((rdL p0.fTracks s7.2).fID) 1 1099511627776).bind fun y12 => ((if (!y12) = true then (some (true)) else ((f7 ((rdL p0.fTracks s7.2).fFrom) p0).bind fun y42 => some ((!y42)))).bind fun b15 => ((if b15 = true then (some (true)) else ((f7 ((rdL p0.fTracks s7.2).fTo) p0).bind fun y40 => some ((!y40)))).bind fun b18 => ((if (b18 || (((rdL p0.fTracks s7.2).fFrom) == ((rdL p0.fTracks s7.2).fTo))) = true then (some (true)) else ((bb ((rdL p0.fTracks s7.2).fLong) 1 72).bind fun y38 => some ((!y38)))).bind fun b22 => ((if b22 = true then (some (true)) else ((bb ((rdL p0.fTracks s7.2).fToll) 0 40).bind fun y36 => some ((!y36)))).bind fun b25 => ((if b25 = true then (some (true)) else ((fU ((rdL p0.fTracks s7.2).fK)).bind fun y34 => some ((!y34)))).bind fun b28 => (if b28 = true then some (.inr (.inl (1,s7.2))) else ((gG p0 ((rdL p0.fTracks s7.2).fID)).bind fun y31 => (if decide (y31 < s7.2) = true then some (.inr (.inl (6,s7.2))) else some (.inl (s7.1,w64 (s7.2 + 1))))))))))))) else some (.inr (.inr (s7.1,s7.2))))
def iA (p0:TR) : Option Int :=
 ((bb p0.fPlaces 1 16).bind fun y2 => (if (!y2) = true then some 1 else (if decide (48 < (p0.fTracks.length:Int)) = true then some 2 else ((aU (fk p0) (0,0)).bind fun u8 => match u8 with | (.inl u45) => some u45.1 | (.inr u46) => some 0))))
def dK (p0:TR) (p1:Int) (p2:Int) (p3:Int) (p4:Int) : Option Int :=
 ((iA p0).bind fun y2 => (if (y2 != 0) = true then some y2 else ((bb p1 0 (w64 (p0.fPlaces - 1))).bind fun y5 => ((if (!y5) = true then (some (true)) else ((bb p2 0 (w64 (p0.fPlaces - 1))).bind fun y21 => some ((!y21)))).bind fun b8 => ((if b8 = true then (some (true)) else ((cP p3).bind fun y19 => some ((!y19)))).bind fun b11 => ((if b11 = true then (some (true)) else ((bb p4 0 60).bind fun y17 => some ((!y17)))).bind fun b14 => (if b14 = true then some 1 else some 0)))))))
def eh (p0:TT) (s3:(Int × Int)) : Option ((Int × Int) ⊕ (Int × Int)) :=
 (if decide (s3.2 < (p0.fK.length:Int)) = true then ao ((0:Int) ≤ s3.2 ∧ s3.2 < (p0.fK.length:Int)) (((bb s3.1 ((rdL p0.fK s3.2).fLo) ((rdL p0.fK s3.2).fHi)).bind fun y8 => (if y8 = true then some (.inl (w64 (((rdL p0.fK s3.2).fHi) + 1),w64 (s3.2 + 1))) else some (.inl (s3.1,w64 (s3.2 + 1)))))) else some (.inr (s3.1,s3.2)))
def eU (p0:TT) (p1:Int) : Option (Int × Bool) :=
 ((aU (eh p0) (p1,0)).bind fun u4 => ((cP u4.1).bind fun y12 => some (u4.1,y12)))
def bS (p0:(List Twait)) : Option Int :=
 some (p0.length:Int)
def bW (p0:(List Twait)) (p1:Int) (p2:Int) : Option Bool :=
 ao ((0:Int) ≤ p1 ∧ p1 < (p0.length:Int)) (ao ((0:Int) ≤ p2 ∧ p2 < (p0.length:Int)) (some (decide ((rdL p0 p1).f_at < (rdL p0 p2).f_at))))
def bF (p0:(List Twait)) (p1:Int) (p2:Int) : Option (List Twait) :=
 ao ((0:Int) ≤ p2 ∧ p2 < (p0.length:Int)) (ao ((0:Int) ≤ p1 ∧ p1 < (p0.length:Int)) (ao ((0:Int) ≤ p1 ∧ p1 < (p0.length:Int)) (ao ((0:Int) ≤ p2 ∧ p2 < (p0.length:Int)) (some ((p0.set (Int.toNat p1) (rdL p0 p2)).set (Int.toNat p2) (rdL p0 p1))))))
def cC (p2:Int) (s3:(Int × (List Twait))) : Option ((Int × (List Twait)) ⊕ (Int × (List Twait))) :=
 (if ((decide (p2 ≤ w64 ((w64 (2 * s3.1)) + 1))) || (decide (w64 ((w64 (2 * s3.1)) + 1) < 0))) = true then some (.inr (s3.1,s3.2)) else ((if decide (w64 ((w64 ((w64 (2 * s3.1)) + 1)) + 1) < p2) = true then ((bW s3.2 (w64 ((w64 ((w64 (2 * s3.1)) + 1)) + 1)) (w64 ((w64 (2 * s3.1)) + 1))).bind fun y23 => some (y23)) else (some (false))).bind fun b8 => (if b8 = true then ((bW s3.2 (w64 ((w64 ((w64 (2 * s3.1)) + 1)) + 1)) s3.1).bind fun y11 => (if (!y11) = true then some (.inr (s3.1,s3.2)) else ((bF s3.2 s3.1 (w64 ((w64 ((w64 (2 * s3.1)) + 1)) + 1))).bind fun y14 => some (.inl (w64 ((w64 ((w64 (2 * s3.1)) + 1)) + 1),y14))))) else ((bW s3.2 (w64 ((w64 (2 * s3.1)) + 1)) s3.1).bind fun y17 => (if (!y17) = true then some (.inr (s3.1,s3.2)) else ((bF s3.2 s3.1 (w64 ((w64 (2 * s3.1)) + 1))).bind fun y20 => some (.inl (w64 ((w64 (2 * s3.1)) + 1),y20))))))))
def cA (p0:(List Twait)) (p1:Int) (p2:Int) : Option (Bool × (List Twait)) :=
 ((aU (cC p2) (p1,p0)).bind fun u4 => some (decide (p1 < u4.1),u4.2))
def fZ (p0:(List Twait)) : Option (Twait × (List Twait)) :=
 ao ((0:Int) ≤ w64 ((p0.length:Int) - 1) ∧ w64 ((p0.length:Int) - 1) < (p0.length:Int)) (ao ((0:Int) ≤ w64 ((p0.length:Int) - 1) ∧ w64 ((p0.length:Int) - 1) ≤ (p0.length:Int)) (some ((Twait.mk ((rdL p0 (w64 ((p0.length:Int) - 1))).f_at) (Ts.mk ((rdL p0 (w64 ((p0.length:Int) - 1))).f_stop.f_place) ((rdL p0 (w64 ((p0.length:Int) - 1))).f_stop.f_toll))),(p0.take (Int.toNat (w64 ((p0.length:Int) - 1)))))))
def cQ (p0:(List Twait)) : Option (Twait × (List Twait)) :=
 ((bS p0).bind fun y1 => ((bF p0 0 (w64 (y1 - 1))).bind fun y3 => ((cA y3 0 (w64 (y1 - 1))).bind fun y6 => ((fZ y6.2).bind fun y12 => some (y12.1,y12.2)))))
def eW (x:TR × Int) : Prop:=x.1.fTracks.length ≤ 1000
instance (x:TR × Int) : Decidable (eW x):=by unfold eW; infer_instance
def ny (x:TR × Int) : List TT:=x.1.fTracks.filter fun z => z.fFrom == x.2
def ji (p0:TR) (p1:Int) : Option Unit :=
 some ()
def de (s3:(Int × (List Twait))) : Option ((Int × (List Twait)) ⊕ (Int × (List Twait))) :=
 ((if ((w64 (Int.tdiv (w64 (s3.1 - 1)) 2)) == s3.1) = true then (some (true)) else ((bW s3.2 s3.1 (w64 (Int.tdiv (w64 (s3.1 - 1)) 2))).bind fun y12 => some ((!y12)))).bind fun b6 => (if b6 = true then some (.inr (s3.1,s3.2)) else ((bF s3.2 (w64 (Int.tdiv (w64 (s3.1 - 1)) 2)) s3.1).bind fun y9 => some (.inl (w64 (Int.tdiv (w64 (s3.1 - 1)) 2),y9)))))
def dp (p0:(List Twait)) (p1:Int) : Option (List Twait) :=
 ((aU (de) (p1,p0)).bind fun u4 => some u4.2)
def fb (p0:(List Twait)) (p1:Twait) : Option (List Twait) :=
 ao (p0.length + 1 ≤ 1000000000) (some (p0 ++ [p1]))
def cz (p0:(List Twait)) (p1:Twait) : Option (List Twait) :=
 ((fb p0 p1).bind fun y1 => ((bS y1).bind fun y7 => ((dp y1 (w64 (y7 - 1))).bind fun y9 => some y9)))
def ck (y15:(Twait × (List Twait))) (s39:((List (Ts × Tl)) × (List Twait))) (x40:TT) : Option (((List (Ts × Tl)) × (List Twait)) ⊕ Unit) :=
 ((eU x40 y15.1.f_at).bind fun y43 => ((if ((!y43.2) || (decide (60 < w64 (y15.1.f_stop.f_toll + x40.fToll)))) = true then (some (true)) else ((cP (w64 (y43.1 + x40.fLong))).bind fun y62 => some ((!y62)))).bind fun b48 => (if b48 = true then some (.inl (s39.1,s39.2)) else ao (aM (Ts.mk x40.fTo (w64 (y15.1.f_stop.f_toll + x40.fToll))) = true) ((if ((bd s39.1 (Ts.mk x40.fTo (w64 (y15.1.f_stop.f_toll + x40.fToll)))) && (decide ((av (Tl.mk 0 (Ts.mk 0 0) (TLeg.mk 0 0) false) s39.1 (Ts.mk x40.fTo (w64 (y15.1.f_stop.f_toll + x40.fToll)))).f_at ≤ w64 (y43.1 + x40.fLong)))) = true then some (.inl (s39.1,s39.2)) else ao (aM (Ts.mk x40.fTo (w64 (y15.1.f_stop.f_toll + x40.fToll))) = true ∧ List.length s39.1 < 1000000000) (((cz s39.2 (Twait.mk (w64 (y43.1 + x40.fLong)) (Ts.mk x40.fTo (w64 (y15.1.f_stop.f_toll + x40.fToll))))).bind fun y56 => some (.inl ((((Ts.mk x40.fTo (w64 (y15.1.f_stop.f_toll + x40.fToll))),(Tl.mk (w64 (y43.1 + x40.fLong)) y15.1.f_stop (TLeg.mk x40.fID y43.1) false)) :: s39.1),y56)))))))))
def dG (p0:TR) (s10:((List Twait) × (List (Ts × Tl)))) : Option (((List Twait) × (List (Ts × Tl))) ⊕ ((List Twait) × (List (Ts × Tl)))) :=
 ((bS s10.1).bind fun y12 => (if decide (0 < y12) = true then ((cQ s10.1).bind fun y15 => ao (aM y15.1.f_stop = true) ((if decide ((av (Tl.mk 0 (Ts.mk 0 0) (TLeg.mk 0 0) false) s10.2 y15.1.f_stop).f_at < y15.1.f_at) = true then some (.inl (y15.2,s10.2)) else ((ji p0 y15.1.f_stop.f_place).bind fun y24 => (ao (eW (p0,y15.1.f_stop.f_place)) ((gl (ck y15) (ny (p0,y15.1.f_stop.f_place)) (s10.2,y15.2)).bind fun u41 => match u41 with | .inl u68 => some (.inl (u68.2,u68.1)) | .inr _ => none)))))) else some (.inr (s10.1,s10.2))))
def dY (p0:TR) (p1:Int) (p2:Int) : Option (List (Ts × Tl)) :=
 ao (aM (Ts.mk p1 0) = true ∧ List.length ([]:(List (Ts × Tl))) < 1000000000) (((aU (dG p0) ([(Twait.mk p2 (Ts.mk p1 0))],(((Ts.mk p1 0),(Tl.mk p2 (Ts.mk 0 0) (TLeg.mk 0 0) true)) :: ([]:(List (Ts × Tl)))))).bind fun u11 => some u11.2))
def cM (p0:(List (Ts × Tl))) (p1:Int) (s5:(Int × Int × (List Int))) : Option ((Int × Int × (List Int)) ⊕ (Int × Int × (List Int))) :=
 (if decide (s5.2.1 < 61) = true then ao (aM (Ts.mk p1 s5.2.1) = true) ((if ((bd p0 (Ts.mk p1 s5.2.1)) && ((decide (s5.1 < 0)) || (decide ((av (Tl.mk 0 (Ts.mk 0 0) (TLeg.mk 0 0) false) p0 (Ts.mk p1 s5.2.1)).f_at < s5.1)))) = true then ao ((0:Int) ≤ s5.2.1 ∧ s5.2.1 < 61) (some (.inl ((av (Tl.mk 0 (Ts.mk 0 0) (TLeg.mk 0 0) false) p0 (Ts.mk p1 s5.2.1)).f_at,w64 (s5.2.1 + 1),(s5.2.2.set (Int.toNat s5.2.1) ((av (Tl.mk 0 (Ts.mk 0 0) (TLeg.mk 0 0) false) p0 (Ts.mk p1 s5.2.1)).f_at))))) else ao ((0:Int) ≤ s5.2.1 ∧ s5.2.1 < 61) (some (.inl (s5.1,w64 (s5.2.1 + 1),(s5.2.2.set (Int.toNat s5.2.1) s5.1)))))) else some (.inr (s5.1,s5.2.1,s5.2.2)))
def er (p0:(List (Ts × Tl))) (p1:Int) : Option (List Int) :=
 ((aU (cM p0 p1) ((-1),0,(List.replicate 61 0))).bind fun u6 => some u6.2.2)
def bw (p0:(List TLeg)) (s3:(Int × Int × (List TLeg))) : Option ((Int × Int × (List TLeg)) ⊕ (Int × Int × (List TLeg))) :=
 (if decide (s3.1 < s3.2.1) = true then ao ((0:Int) ≤ s3.2.1 ∧ s3.2.1 < (p0.length:Int)) (ao ((0:Int) ≤ s3.1 ∧ s3.1 < (p0.length:Int)) (ao ((0:Int) ≤ s3.1 ∧ s3.1 < (p0.length:Int)) (ao ((0:Int) ≤ s3.2.1 ∧ s3.2.1 < (p0.length:Int)) (some (.inl (w64 (s3.1 + 1),w64 (s3.2.1 - 1),((s3.2.2.set (Int.toNat s3.1) (rdL s3.2.2 s3.2.1)).set (Int.toNat s3.2.1) (rdL s3.2.2 s3.1)))))))) else some (.inr (s3.1,s3.2.1,s3.2.2)))
def bM (p0:(List TLeg)) : Option (List TLeg) :=
 ((aU (bw p0) (0,w64 ((p0.length:Int) - 1),p0)).bind fun u4 => some u4.2.2)
def cx (p0:(List (Ts × Tl))) (s9:(Tl × (List TLeg))) : Option ((Tl × (List TLeg)) ⊕ (Tl × (List TLeg))) :=
 (if (!s9.1.f_begin) = true then ao (s9.2.length + 1 ≤ 1000000000) (ao (aM s9.1.f_from = true) (some (.inl ((Tl.mk ((av (Tl.mk 0 (Ts.mk 0 0) (TLeg.mk 0 0) false) p0 s9.1.f_from).f_at) (Ts.mk ((av (Tl.mk 0 (Ts.mk 0 0) (TLeg.mk 0 0) false) p0 s9.1.f_from).f_from.f_place) ((av (Tl.mk 0 (Ts.mk 0 0) (TLeg.mk 0 0) false) p0 s9.1.f_from).f_from.f_toll)) (TLeg.mk ((av (Tl.mk 0 (Ts.mk 0 0) (TLeg.mk 0 0) false) p0 s9.1.f_from).f_leg.fTrack) ((av (Tl.mk 0 (Ts.mk 0 0) (TLeg.mk 0 0) false) p0 s9.1.f_from).f_leg.fHour)) ((av (Tl.mk 0 (Ts.mk 0 0) (TLeg.mk 0 0) false) p0 s9.1.f_from).f_begin)),(s9.2 ++ [s9.1.f_leg]))))) else some (.inr (s9.1,s9.2)))
def f8 (p0:(List (Ts × Tl))) (p1:Ts) : Option TJ :=
 ao (aM p1 = true) (ao (aM p1 = true) (((aU (cx p0) ((Tl.mk ((av (Tl.mk 0 (Ts.mk 0 0) (TLeg.mk 0 0) false) p0 p1).f_at) (Ts.mk ((av (Tl.mk 0 (Ts.mk 0 0) (TLeg.mk 0 0) false) p0 p1).f_from.f_place) ((av (Tl.mk 0 (Ts.mk 0 0) (TLeg.mk 0 0) false) p0 p1).f_from.f_toll)) (TLeg.mk ((av (Tl.mk 0 (Ts.mk 0 0) (TLeg.mk 0 0) false) p0 p1).f_leg.fTrack) ((av (Tl.mk 0 (Ts.mk 0 0) (TLeg.mk 0 0) false) p0 p1).f_leg.fHour)) ((av (Tl.mk 0 (Ts.mk 0 0) (TLeg.mk 0 0) false) p0 p1).f_begin)),([]:List TLeg))).bind fun u10 => ((bM u10.2).bind fun y19 => some (TJ.mk y19 ((av (Tl.mk 0 (Ts.mk 0 0) (TLeg.mk 0 0) false) p0 p1).f_at) p1.f_toll)))))
def fh (p2:Int) (y2:(List (Ts × Tl))) (y5:(List Int)) (s11:(Int × Int × (List TJ))) : Option ((Int × Int × (List TJ)) ⊕ (Int × Int × (List TJ))) :=
 (if decide (s11.2.1 < 61) = true then ao ((0:Int) ≤ s11.2.1 ∧ s11.2.1 < 61) ((if ((rdL y5 s11.2.1) != s11.1) = true then ((f8 y2 (Ts.mk p2 s11.2.1)).bind fun y16 => ao (s11.2.2.length + 1 ≤ 1000000000) (some (.inl ((rdL y5 s11.2.1),w64 (s11.2.1 + 1),(s11.2.2 ++ [y16]))))) else some (.inl ((rdL y5 s11.2.1),w64 (s11.2.1 + 1),s11.2.2)))) else some (.inr (s11.1,s11.2.1,s11.2.2)))
def gJ (p0:TR) (p1:Int) (p2:Int) (p3:Int) : Option (List TJ) :=
 ((dY p0 p1 p3).bind fun y2 => ((er y2 p2).bind fun y5 => ((aU (fh p2 y2 y5) ((-1),0,([]:List TJ))).bind fun u12 => some u12.2.2)))
def gi (p4:Int) (y4:(List TJ)) (s18:(Bool × Int × (List TLeg) × Int × Int)) : Option ((Bool × Int × (List TLeg) × Int × Int) ⊕ (Bool × Int × (List TLeg) × Int × Int)) :=
 (if decide (s18.2.1 < (y4.length:Int)) = true then ao ((0:Int) ≤ s18.2.1 ∧ s18.2.1 < (y4.length:Int)) ((if decide ((rdL y4 s18.2.1).fToll ≤ p4) = true then some (.inl (true,w64 (s18.2.1 + 1),(rdL y4 s18.2.1).fLegs,(rdL y4 s18.2.1).fA,(rdL y4 s18.2.1).fToll)) else some (.inl (s18.1,w64 (s18.2.1 + 1),s18.2.2.1,s18.2.2.2.1,s18.2.2.2.2)))) else some (.inr (s18.1,s18.2.1,s18.2.2.1,s18.2.2.2.1,s18.2.2.2.2)))
def gT (p0:TR) (p1:Int) (p2:Int) (p3:Int) (p4:Int) : Option (TJ × Bool) :=
 ((gJ p0 p1 p2 p3).bind fun y4 => ((aU (gi p4 y4) (false,0,([]:(List TLeg)),0,0)).bind fun u19 => some ((TJ.mk u19.2.2.1 u19.2.2.2.1 u19.2.2.2.2),u19.1)))
def fa (p0:TR) (p1:Int) (p2:Int) (p3:Int) (p4:Int) : Option (TJ × Int) :=
 ((dK p0 p1 p2 p3 p4).bind fun y3 => (if (y3 != 0) = true then some ((TJ.mk ([]:(List TLeg)) 0 0),y3) else ((gT p0 p1 p2 p3 p4).bind fun y6 => (if (!y6.2) = true then some ((TJ.mk ([]:(List TLeg)) 0 0),5) else some (y6.1,0)))))
def ja (p0:Int) (cap0:TR) (cap1:Int) (cap2:Int) (cap3:Int) (cap4:Int) : Option Bool :=
 ((gT cap0 cap1 cap2 p0 cap3).bind fun y1 => some (y1.2 && (decide (y1.1.fA ≤ cap4))))
def kv (p0:TR) (p1:Int) (p2:Int) (p3:Int) (p4:Int) (s10:(Int × Int)) : Option ((Int × Int) ⊕ (Int × Int)) :=
 (if decide (s10.1 ≤ s10.2) = true then ((ja (w64 (Int.tdiv (w64 (s10.1 + s10.2)) 2)) p0 p1 p2 p4 p3).bind fun y13 => (if y13 = true then some (.inl (w64 ((w64 (Int.tdiv (w64 (s10.1 + s10.2)) 2)) + 1),s10.2)) else some (.inl (s10.1,w64 ((w64 (Int.tdiv (w64 (s10.1 + s10.2)) 2)) - 1))))) else some (.inr (s10.1,s10.2)))
def kF (p0:TR) (p1:Int) (p2:Int) (p3:Int) (p4:Int) : Option (Int × Int) :=
 ((dK p0 p1 p2 p3 p4).bind fun y6 => (if (y6 != 0) = true then some (0,y6) else ((aU (kv p0 p1 p2 p3 p4) (0,p3)).bind fun u11 => (if decide (u11.2 < 0) = true then some (0,5) else some (u11.2,0)))))
def da (p0:(List TT)) (p1:Int) (p2:Int) : Option (List TT) :=
 ao ((0:Int) ≤ p1 ∧ p1 ≤ p2 ∧ p2 ≤ (p0.length:Int) ∧ (p0.length:Int) ≤ (p0.length:Int)) ((if (p1 == p2) = true then some p0 else ao ((0:Int) ≤ p1 ∧ p1 ≤ (p0.length:Int)) (ao ((0:Int) ≤ p2 ∧ p2 ≤ (p0.length:Int)) (ao (p1 ≤ p2) (some (p0.take (Int.toNat p1) ++ p0.drop (Int.toNat p2)))))))
def bB (p0:(List TT)) : Option (List TT) :=
 ao (0 + p0.length ≤ 1000000000) (some (([]:List TT) ++ p0))
def dA (p0:Int) : Option Bool :=
 some (p0 != p0)
def gc (p0:Int) (p1:Int) : Option Bool :=
 ((dA p0).bind fun y1 => ((if y1 = true then ((dA p1).bind fun y7 => some ((!y7))) else (some (false))).bind fun b4 => some (b4 || (decide (p0 < p1)))))
def aO (p0:(List Int)) (p1:Int) (s8:(Int × (List Int))) : Option ((Int × (List Int)) ⊕ (Int × (List Int))) :=
 ((if decide (p1 < s8.1) = true then (ao ((0:Int) ≤ s8.1 ∧ s8.1 < (p0.length:Int)) (ao ((0:Int) ≤ w64 (s8.1 - 1) ∧ w64 (s8.1 - 1) < (p0.length:Int)) (((gc (rdL s8.2 s8.1) (rdL s8.2 (w64 (s8.1 - 1)))).bind fun y21 => some (y21))))) else (some (false))).bind fun b11 => (if b11 = true then ao ((0:Int) ≤ w64 (s8.1 - 1) ∧ w64 (s8.1 - 1) < (p0.length:Int)) (ao ((0:Int) ≤ s8.1 ∧ s8.1 < (p0.length:Int)) (ao ((0:Int) ≤ s8.1 ∧ s8.1 < (p0.length:Int)) (ao ((0:Int) ≤ w64 (s8.1 - 1) ∧ w64 (s8.1 - 1) < (p0.length:Int)) (some (.inl (w64 (s8.1 - 1),((s8.2.set (Int.toNat s8.1) (rdL s8.2 (w64 (s8.1 - 1)))).set (Int.toNat (w64 (s8.1 - 1))) (rdL s8.2 s8.1)))))))) else some (.inr (s8.1,s8.2))))
def aC (p0:(List Int)) (p1:Int) (p2:Int) (s3:(Int × (List Int))) : Option ((Int × (List Int)) ⊕ (Int × (List Int))) :=
 (if decide (s3.1 < p2) = true then ((aU (aO p0 p1) (s3.1,s3.2)).bind fun u9 => some (.inl (w64 (s3.1 + 1),u9.2))) else some (.inr (s3.1,s3.2)))
def be (p0:(List Int)) (p1:Int) (p2:Int) : Option (List Int) :=
 ((aU (aC p0 p1 p2) (w64 (p1 + 1),p0)).bind fun u4 => some u4.2)
def lenv (x:Int) : Int:=if x < 1 then 0 else if x < 2 then 1 else if x < 4 then 2 else if x < 8 then 3 else 4
def fu (p0:Int) : Option Int:=ao (0 ≤ p0 ∧ p0 < 16) (some (w64 (0 + lenv p0)))
def gx (p0:Int) : Option Int :=
 ((fu p0).bind fun y1 => some y1)
def bC (s3:(Int × Int × Int × Bool × Bool × (List Int))) : Option ((Int × Int × Int × Bool × Bool × (List Int)) ⊕ (Int × Int × Int × Bool × Bool × (List Int))) :=
 ao (decide (w64 (s3.2.1 - s3.1) ≤ 12) = true) (((be s3.2.2.2.2.2 s3.1 s3.2.1).bind fun y6 => some (.inr (s3.1,s3.2.1,s3.2.2.1,s3.2.2.2.1,s3.2.2.2.2.1,y6))))
def bR (p0:(List Int)) (p1:Int) (p2:Int) (p3:Int) : Option (List Int) :=
 ((aU (bC) (p1,p2,p3,true,true,p0)).bind fun u4 => some u4.2.2.2.2.2)
def cw (p0:(List Int)) : Option (List Int):=ao (p0.length ≤ 12) (some (rn p0))
def ko (p0:TR) (p1:Int) (p2:Int) (p3:Int) (p4:Int) (y2:(TJ × Int)) (s16:(Int × (List Int))) : Option ((Int × (List Int)) ⊕ (Int × (List Int))) :=
 (if decide (s16.1 < (p0.fTracks.length:Int)) = true then ao ((0:Int) ≤ s16.1 ∧ s16.1 < (p0.fTracks.length:Int)) (((bB p0.fTracks).bind fun y22 => ((da y22 s16.1 (w64 (s16.1 + 1))).bind fun y31 => ((gT (TR.mk p0.fPlaces y31) p1 p2 p3 p4).bind fun y40 => (if ((!y40.2) || (y40.1.fA != y2.1.fA)) = true then ao (s16.2.length + 1 ≤ 1000000000) (some (.inl (w64 (s16.1 + 1),(s16.2 ++ [(rdL p0.fTracks s16.1).fID])))) else some (.inl (w64 (s16.1 + 1),s16.2))))))) else some (.inr (s16.1,s16.2)))
def iV (p0:TR) (p1:Int) (p2:Int) (p3:Int) (p4:Int) : Option ((List Int) × Int) :=
 ((fa p0 p1 p2 p3 p4).bind fun y2 => (if (y2.2 != 0) = true then some ([],y2.2) else ((aU (ko p0 p1 p2 p3 p4 y2) (0,([]:List Int))).bind fun u17 => ((cw u17.2).bind fun y58 => some (y58,0)))))
def iR (p0:(List Int)) (p1:(List Int)) (s3:(Bool × Int)) : Option ((Bool × Int) ⊕ ((Bool × Int) ⊕ (Bool × Int))) :=
 (if decide (s3.2 < (p0.length:Int)) = true then ao ((0:Int) ≤ s3.2 ∧ s3.2 < (p0.length:Int)) (ao ((0:Int) ≤ s3.2 ∧ s3.2 < (p1.length:Int)) ((if ((rdL p0 s3.2) != (rdL p1 s3.2)) = true then some (.inr (.inl (false,s3.2))) else some (.inl (s3.1,w64 (s3.2 + 1)))))) else some (.inr (.inr (s3.1,s3.2))))
def cZ (p0:(List Int)) (p1:(List Int)) : Option Bool :=
 (if ((p0.length:Int) != (p1.length:Int)) = true then some false else ((aU (iR p0 p1) (false,0)).bind fun u4 => match u4 with | (.inl u10) => some u10.1 | (.inr u11) => some true))
def dq (p0:(List TO)) (p1:TO → Option Bool) (s2:(Int × Int)) : Option ((Int × Int) ⊕ ((Int × Int) ⊕ (Int × Int))) :=
 (if decide (s2.2 < (p0.length:Int)) = true then ao ((0:Int) ≤ s2.2 ∧ s2.2 < (p0.length:Int)) (((p1 (TO.mk ((rdL p0 s2.2).fID) (TSpan.mk ((rdL p0 s2.2).fH.fLo) ((rdL p0 s2.2).fH.fHi)) ((rdL p0 s2.2).fD) ((rdL p0 s2.2).fW))).bind fun y6 => (if y6 = true then some (.inr (.inl (s2.2,s2.2))) else some (.inl (s2.1,w64 (s2.2 + 1)))))) else some (.inr (.inr (s2.1,s2.2))))
def ci (p0:(List TO)) (p1:TO → Option Bool) : Option Int :=
 ((aU (dq p0 p1) (0,0)).bind fun u3 => match u3 with | (.inl u10) => some u10.1 | (.inr u11) => some (-1))
def cY (p0:(List TO)) (p1:TO → Option Bool) : Option Int :=
 ((ci p0 p1).bind fun y1 => some y1)
def hZ (p0:TO) (cap0:Int) : Option Bool :=
 some (p0.fID == cap0)
def iN (p0:TY) (p1:Int) : Option Int :=
 ((cY p0.fR (fun x3 => hZ x3 p1)).bind fun y4 => some y4)
def dZ (p0:(List TBay)) (p1:TBay → Option Bool) (s2:(Int × Int)) : Option ((Int × Int) ⊕ ((Int × Int) ⊕ (Int × Int))) :=
 (if decide (s2.2 < (p0.length:Int)) = true then ao ((0:Int) ≤ s2.2 ∧ s2.2 < (p0.length:Int)) (((p1 (TBay.mk ((rdL p0 s2.2).fID) ((rdL p0 s2.2).fHour) ((rdL p0 s2.2).fD))).bind fun y6 => (if y6 = true then some (.inr (.inl (s2.2,s2.2))) else some (.inl (s2.1,w64 (s2.2 + 1)))))) else some (.inr (.inr (s2.1,s2.2))))
def dk (p0:(List TBay)) (p1:TBay → Option Bool) : Option Int :=
 ((aU (dZ p0 p1) (0,0)).bind fun u3 => match u3 with | (.inl u10) => some u10.1 | (.inr u11) => some (-1))
def dx (p0:(List TBay)) (p1:TBay → Option Bool) : Option Int :=
 ((dk p0 p1).bind fun y1 => some y1)
def kf (p0:TBay) (cap0:Int) : Option Bool :=
 some (p0.fID == cap0)
def mG (p0:TY) (p1:Int) : Option Int :=
 ((dx p0.fB (fun x3 => kf x3 p1)).bind fun y4 => some y4)
def iK (p0:TY) (s5:(Int × Int)) : Option ((Int × Int) ⊕ ((Int × Int) ⊕ (Int × Int))) :=
 (if decide (s5.2 < (p0.fB.length:Int)) = true then ao ((0:Int) ≤ s5.2 ∧ s5.2 < (p0.fB.length:Int)) (((bb ((rdL p0.fB s5.2).fID) 1 1099511627776).bind fun y10 => ((if (!y10) = true then (some (true)) else ((cP ((rdL p0.fB s5.2).fHour)).bind fun y24 => some ((!y24)))).bind fun b13 => ((if b13 = true then (some (true)) else ((bb ((rdL p0.fB s5.2).fD) 0 9).bind fun y22 => some ((!y22)))).bind fun b16 => (if b16 = true then some (.inr (.inl (1,s5.2))) else ((mG p0 ((rdL p0.fB s5.2).fID)).bind fun y19 => (if decide (y19 < s5.2) = true then some (.inr (.inl (6,s5.2))) else some (.inl (s5.1,w64 (s5.2 + 1)))))))))) else some (.inr (.inr (s5.1,s5.2))))
def iB (p0:TY) (s30:(Int × Int)) : Option ((Int × Int) ⊕ ((Int × Int) ⊕ (Int × Int))) :=
 (if decide (s30.2 < (p0.fR.length:Int)) = true then ao ((0:Int) ≤ s30.2 ∧ s30.2 < (p0.fR.length:Int)) (((bb ((rdL p0.fR s30.2).fID) 1 1099511627776).bind fun y35 => ((if (!y35) = true then (some (true)) else ((cP ((rdL p0.fR s30.2).fH.fLo)).bind fun y60 => some ((!y60)))).bind fun b38 => ((if b38 = true then (some (true)) else ((cP ((rdL p0.fR s30.2).fH.fHi)).bind fun y58 => some ((!y58)))).bind fun b41 => ((if (b41 || (decide ((rdL p0.fR s30.2).fH.fHi < (rdL p0.fR s30.2).fH.fLo))) = true then (some (true)) else ((bb ((rdL p0.fR s30.2).fD) 0 9).bind fun y56 => some ((!y56)))).bind fun b45 => ((if b45 = true then (some (true)) else ((bb ((rdL p0.fR s30.2).fW) 1 1000).bind fun y54 => some ((!y54)))).bind fun b48 => (if b48 = true then some (.inr (.inl (1,s30.2))) else ((iN p0 ((rdL p0.fR s30.2).fID)).bind fun y51 => (if decide (y51 < s30.2) = true then some (.inr (.inl (6,s30.2))) else some (.inl (s30.1,w64 (s30.2 + 1)))))))))))) else some (.inr (.inr (s30.1,s30.2))))
def c3 (p0:TY) : Option Int :=
 (if ((decide (24 < (p0.fB.length:Int))) || (decide (24 < (p0.fR.length:Int)))) = true then some 2 else ((aU (iK p0) (0,0)).bind fun u6 => match u6 with | (.inl u27) => some u27.1 | (.inr u28) => ((aU (iB p0) (u28.1,0)).bind fun u31 => match u31 with | (.inl u63) => some u63.1 | (.inr u64) => some 0)))
def iC (p0:TO) (p1:TBay) : Option Bool :=
 ((bb p1.fHour p0.fH.fLo p0.fH.fHi).bind fun y3 => some (y3 && (decide (p0.fD ≤ p1.fD))))
def bI (p0:Int) (cap0:TY) (rec_:Int → TY → (List (Int × Bool)) → (List (Int × Int)) → Option (Bool × (List (Int × Bool)) × (List (Int × Int)))) (s3:(Bool × Int × (List (Int × Bool)) × (List (Int × Int)))) : Option ((Bool × Int × (List (Int × Bool)) × (List (Int × Int))) ⊕ ((Bool × Int × (List (Int × Bool)) × (List (Int × Int))) ⊕ (Bool × Int × (List (Int × Bool)) × (List (Int × Int))))) :=
 (if decide (s3.2.1 < (cap0.fB.length:Int)) = true then ao ((0:Int) ≤ s3.2.1 ∧ s3.2.1 < (cap0.fB.length:Int)) (ao (dI s3.2.1 = true) (((if av false s3.2.2.1 s3.2.1 = true then (some (true)) else (ao ((0:Int) ≤ p0 ∧ p0 < (cap0.fR.length:Int)) (((iC (TO.mk ((rdL cap0.fR p0).fID) (TSpan.mk ((rdL cap0.fR p0).fH.fLo) ((rdL cap0.fR p0).fH.fHi)) ((rdL cap0.fR p0).fD) ((rdL cap0.fR p0).fW)) (TBay.mk ((rdL cap0.fB s3.2.1).fID) ((rdL cap0.fB s3.2.1).fHour) ((rdL cap0.fB s3.2.1).fD))).bind fun y22 => some ((!y22)))))).bind fun b10 => (if b10 = true then some (.inl (s3.1,w64 (s3.2.1 + 1),s3.2.2.1,s3.2.2.2)) else ao (dI s3.2.1 = true ∧ List.length s3.2.2.1 < 1000000000) (ao (dI s3.2.1 = true) ((if (!(bd s3.2.2.2 s3.2.1)) = true then (ao (dI s3.2.1 = true ∧ List.length s3.2.2.2 < 1000000000) (some (.inr (.inl (true,s3.2.1,((s3.2.1,true) :: s3.2.2.1),((s3.2.1,p0) :: s3.2.2.2)))))) else ((rec_ (av 0 s3.2.2.2 s3.2.1) cap0 ((s3.2.1,true) :: s3.2.2.1) s3.2.2.2).bind fun y17 => (if y17.1 = true then ao (dI s3.2.1 = true ∧ List.length y17.2.2 < 1000000000) (some (.inr (.inl (true,s3.2.1,y17.2.1,((s3.2.1,p0) :: y17.2.2))))) else some (.inl (s3.1,w64 (s3.2.1 + 1),y17.2.1,y17.2.2))))))))))) else some (.inr (.inr (s3.1,s3.2.1,s3.2.2.1,s3.2.2.2))))
def dC (rec_:Int → TY → (List (Int × Bool)) → (List (Int × Int)) → Option (Bool × (List (Int × Bool)) × (List (Int × Int)))) (p0:Int) (cap0:TY) (cap1:(List (Int × Bool))) (cap2:(List (Int × Int))) : Option (Bool × (List (Int × Bool)) × (List (Int × Int))) :=
 ((aU (bI p0 cap0 rec_) (false,0,cap1,cap2)).bind fun u4 => match u4 with | (.inl u25) => some (u25.1,u25.2.2.1,u25.2.2.2) | (.inr u26) => some (false,u26.2.2.1,u26.2.2.2))
def bm : Nat → Int → TY → (List (Int × Bool)) → (List (Int × Int)) → Option (Bool × (List (Int × Bool)) × (List (Int × Int)))
 | 0 => fun _ _ _ _ => none
 | fuel + 1 => dC (bm fuel)
def fw (p0:(List (Int × Int))) (p1:TY) (p2:Int) : Option (Bool × (List (Int × Int))) :=
 ((bm (p1.fB.length + 2) p2 p1 [] p0).bind fun y6 => some (y6.1,y6.2.2))
def cG (p0:(List Int)) (p1:Int) (p3:Int → Int → Option Int) (s8:(Int × (List Int))) : Option ((Int × (List Int)) ⊕ (Int × (List Int))) :=
 ((if decide (p1 < s8.1) = true then (ao ((0:Int) ≤ s8.1 ∧ s8.1 < (p0.length:Int)) (ao ((0:Int) ≤ w64 (s8.1 - 1) ∧ w64 (s8.1 - 1) < (p0.length:Int)) (((p3 (rdL s8.2 s8.1) (rdL s8.2 (w64 (s8.1 - 1)))).bind fun y21 => some (decide (y21 < 0)))))) else (some (false))).bind fun b11 => (if b11 = true then ao ((0:Int) ≤ w64 (s8.1 - 1) ∧ w64 (s8.1 - 1) < (p0.length:Int)) (ao ((0:Int) ≤ s8.1 ∧ s8.1 < (p0.length:Int)) (ao ((0:Int) ≤ s8.1 ∧ s8.1 < (p0.length:Int)) (ao ((0:Int) ≤ w64 (s8.1 - 1) ∧ w64 (s8.1 - 1) < (p0.length:Int)) (some (.inl (w64 (s8.1 - 1),((s8.2.set (Int.toNat s8.1) (rdL s8.2 (w64 (s8.1 - 1)))).set (Int.toNat (w64 (s8.1 - 1))) (rdL s8.2 s8.1)))))))) else some (.inr (s8.1,s8.2))))
def cH (p0:(List Int)) (p1:Int) (p2:Int) (p3:Int → Int → Option Int) (s3:(Int × (List Int))) : Option ((Int × (List Int)) ⊕ (Int × (List Int))) :=
 (if decide (s3.1 < p2) = true then ((aU (cG p0 p1 p3) (s3.1,s3.2)).bind fun u9 => some (.inl (w64 (s3.1 + 1),u9.2))) else some (.inr (s3.1,s3.2)))
def bO (p0:(List Int)) (p1:Int) (p2:Int) (p3:Int → Int → Option Int) : Option (List Int) :=
 ((aU (cH p0 p1 p2 p3) (w64 (p1 + 1),p0)).bind fun u4 => some u4.2)
def ee (p1:Int) (s2:(Int × Int)) : Option ((Int × Int) ⊕ (Int × Int)) :=
 ao (decide (s2.2 ≤ p1) = false) (some (.inr (s2.1,s2.2)))
def d7 (p1:Int) (s10:(Int × Int × Int)) : Option ((Int × Int × Int) ⊕ (Int × Int × Int)) :=
 ao (decide (s10.1 < p1) = false) (some (.inr (s10.1,s10.2.1,s10.2.2)))
def dl (p0:(List Int)) (p1:Int) (p2:Int → Int → Option Int) : Option (List Int) :=
 ((aU (ee p1) (0,20)).bind fun u3 => ((bO p0 u3.1 p1 p2).bind fun y6 => ((aU (d7 p1) (20,u3.1,u3.2)).bind fun u11 => some y6)))
def cg (p0:(List Int)) (p1:Int → Int → Option Int) : Option (List Int) :=
 ((dl p0 (p0.length:Int) p1).bind fun y1 => some y1)
def gS (p0:Int) (p1:Int) : Option Int :=
 ((dA p0).bind fun y1 => ((dA p1).bind fun y3 => (if y1 = true then (if y3 = true then some 0 else some (-1)) else (if y3 = true then some 1 else (if decide (p0 < p1) = true then some (-1) else (if decide (p1 < p0) = true then some 1 else some 0))))))
def hY (p0:Int) (p1:Int) (cap0:TY) : Option Int :=
 ao ((0:Int) ≤ p1 ∧ p1 < (cap0.fR.length:Int)) (ao ((0:Int) ≤ p0 ∧ p0 < (cap0.fR.length:Int)) (((gS ((rdL cap0.fR p1).fW) ((rdL cap0.fR p0).fW)).bind fun y3 => some y3)))
def kN (p0:TY) (s4:(Int × (List Int))) : Option ((Int × (List Int)) ⊕ (Int × (List Int))) :=
 (if decide (s4.1 < (p0.fR.length:Int)) = true then ao (s4.2.length + 1 ≤ 1000000000) (some (.inl (w64 (s4.1 + 1),(s4.2 ++ [s4.1])))) else some (.inr (s4.1,s4.2)))
def kP (p0:TY) (u5:(Int × (List Int))) (y14:(List Int)) (s20:(Int × (List (Int × Int)))) : Option ((Int × (List (Int × Int))) ⊕ (Int × (List (Int × Int)))) :=
 (if decide (s20.1 < (u5.2.length:Int)) = true then ao ((0:Int) ≤ s20.1 ∧ s20.1 < (u5.2.length:Int)) (((fw s20.2 p0 (rdL y14 s20.1)).bind fun y24 => some (.inl (w64 (s20.1 + 1),y24.2)))) else some (.inr (s20.1,s20.2)))
def j9 (p0:TY) : Option (List (Int × Int)) :=
 ((aU (kN p0) (0,([]:List Int))).bind fun u5 => ((cg u5.2 (fun x12 x13 => hY x12 x13 p0)).bind fun y14 => ((aU (kP p0 u5 y14) (0,[])).bind fun u21 => some u21.2)))
def eH (p0:(List (Int × Int))) (p1:TY) : Option Int :=
 ao ((gm p0).all (fun y5 => dI y5 && decide (((0:Int) ≤ av 0 p0 y5 ∧ av 0 p0 y5 < (p1.fR.length:Int)))) = true) (some ((gm p0).foldl (fun a y5 => w64 (a + ((rdL p1.fR (av 0 p0 y5)).fW))) 0))
def eX (p0:TY) : Option Int :=
 ((j9 p0).bind fun y2 => ((eH y2 p0).bind fun y5 => some y5))
def jk (p0__:TO) (p1:Int → Option Int) (cap0:Int) : Option Bool :=
 ((p1 0).bind fun y2 => some (decide (y2 < cap0)))
def jP (p0:TO) (p1:Int → Option Int) (cap0:Int) : Option Bool :=
 ((p1 (w64 (p0.fW + 1))).bind fun y2 => some (y2 == cap0))
def dt (p0:(List TO)) : Option (List TO) :=
 ao (0 + p0.length ≤ 1000000000) (some (([]:List TO) ++ p0))
def eS (p0:Int) (cap0:TY) (cap1:Int) : Option Int :=
 ((dt cap0.fR).bind fun y2 => ao ((0:Int) ≤ cap1 ∧ cap1 < (y2.length:Int)) (((eX (TY.mk cap0.fB (y2.set (Int.toNat cap1) (TO.mk ((rdL y2 cap1).fID) (TSpan.mk ((rdL y2 cap1).fH.fLo) ((rdL y2 cap1).fH.fHi)) ((rdL y2 cap1).fD) p0)))).bind fun y10 => some y10)))
def gk (p0:TY) (cap0:Int) (s4:(Int × (List Int))) : Option ((Int × (List Int)) ⊕ (Int × (List Int))) :=
 (if decide (s4.1 < (p0.fR.length:Int)) = true then ao ((0:Int) ≤ s4.1 ∧ s4.1 < (p0.fR.length:Int)) (((jk (TO.mk ((rdL p0.fR s4.1).fID) (TSpan.mk ((rdL p0.fR s4.1).fH.fLo) ((rdL p0.fR s4.1).fH.fHi)) ((rdL p0.fR s4.1).fD) ((rdL p0.fR s4.1).fW)) (fun x10 => eS x10 p0 s4.1) cap0).bind fun y11 => (if y11 = true then ao (s4.2.length + 1 ≤ 1000000000) (some (.inl (w64 (s4.1 + 1),(s4.2 ++ [(rdL p0.fR s4.1).fID])))) else some (.inl (w64 (s4.1 + 1),s4.2))))) else some (.inr (s4.1,s4.2)))
def fv (p0:TY) (cap0:Int) : Option (List Int) :=
 ((aU (gk p0 cap0) (0,([]:List Int))).bind fun u5 => ((cw u5.2).bind fun y19 => some y19))
def gu (p0:TY) (cap0:Int) (s4:(Int × (List Int))) : Option ((Int × (List Int)) ⊕ (Int × (List Int))) :=
 (if decide (s4.1 < (p0.fR.length:Int)) = true then ao ((0:Int) ≤ s4.1 ∧ s4.1 < (p0.fR.length:Int)) (((jP (TO.mk ((rdL p0.fR s4.1).fID) (TSpan.mk ((rdL p0.fR s4.1).fH.fLo) ((rdL p0.fR s4.1).fH.fHi)) ((rdL p0.fR s4.1).fD) ((rdL p0.fR s4.1).fW)) (fun x10 => eS x10 p0 s4.1) cap0).bind fun y11 => (if y11 = true then ao (s4.2.length + 1 ≤ 1000000000) (some (.inl (w64 (s4.1 + 1),(s4.2 ++ [(rdL p0.fR s4.1).fID])))) else some (.inl (w64 (s4.1 + 1),s4.2))))) else some (.inr (s4.1,s4.2)))
def fO (p0:TY) (cap0:Int) : Option (List Int) :=
 ((aU (gu p0 cap0) (0,([]:List Int))).bind fun u5 => ((cw u5.2).bind fun y19 => some y19))
def kD (p0:TY) : Option ((List Int) × Int) :=
 ((c3 p0).bind fun y2 => (if (y2 != 0) = true then some ([],y2) else ((eX p0).bind fun y5 => ((fv p0 y5).bind fun y8 => some (y8,0)))))
def lW (p0:TY) : Option ((List Int) × Int) :=
 ((c3 p0).bind fun y2 => (if (y2 != 0) = true then some ([],y2) else ((eX p0).bind fun y5 => ((fO p0 y5).bind fun y8 => some (y8,0)))))
def lR (p0:Int) (cap0:(List (Int × Int))) (cap1:TY) : Option (Bool × (List (Int × Int))) :=
 ((iN cap1 p0).bind fun y1 => ((fw cap0 cap1 y1).bind fun y3 => some ((!y3.1),y3.2)))
def db (p0:(List Int)) (cap1:TY) (s3:(Int × Int × (List (Int × Int)))) : Option ((Int × Int × (List (Int × Int))) ⊕ ((Int × Int × (List (Int × Int))) ⊕ (Int × Int × (List (Int × Int))))) :=
 (if decide (s3.2.1 < (p0.length:Int)) = true then ao ((0:Int) ≤ s3.2.1 ∧ s3.2.1 < (p0.length:Int)) (((lR (rdL p0 s3.2.1) s3.2.2 cap1).bind fun y7 => (if y7.1 = true then some (.inr (.inl (s3.2.1,s3.2.1,y7.2))) else some (.inl (s3.1,w64 (s3.2.1 + 1),y7.2))))) else some (.inr (.inr (s3.1,s3.2.1,s3.2.2))))
def bZ (p0:(List Int)) (cap0:(List (Int × Int))) (cap1:TY) : Option (Int × (List (Int × Int))) :=
 ((aU (db p0 cap1) (0,0,cap0)).bind fun u4 => match u4 with | (.inl u11) => some (u11.1,u11.2.2) | (.inr u12) => some ((-1),u12.2.2))
def bf (p0:(List Int)) (p1:Int → Option Bool) (s2:(Int × Int)) : Option ((Int × Int) ⊕ ((Int × Int) ⊕ (Int × Int))) :=
 (if decide (s2.2 < (p0.length:Int)) = true then ao ((0:Int) ≤ s2.2 ∧ s2.2 < (p0.length:Int)) (((p1 (rdL p0 s2.2)).bind fun y6 => (if y6 = true then some (.inr (.inl (s2.2,s2.2))) else some (.inl (s2.1,w64 (s2.2 + 1)))))) else some (.inr (.inr (s2.1,s2.2))))
def bo (p0:(List Int)) (p1:Int → Option Bool) : Option Int :=
 ((aU (bf p0 p1) (0,0)).bind fun u3 => match u3 with | (.inl u10) => some u10.1 | (.inr u11) => some (-1))
def eP (p0:(List Int)) (cap0:(List (Int × Int))) (cap1:TY) : Option (Int × (List (Int × Int))) :=
 ((bZ p0 cap0 cap1).bind fun y1 => some (y1.1,y1.2))
def f0 (p0:(List Int)) (p1:Int → Option Bool) : Option Int :=
 ((bo p0 p1).bind fun y1 => some y1)
def mK (p0:TY) (p1:(List Int)) : Option Bool :=
 ((eP p1 [] p0).bind fun y4 => some (decide (y4.1 < 0)))
def bG (p0:(List Int)) : Option (List Int) :=
 ao (0 + p0.length ≤ 1000000000) (some (([]:List Int) ++ p0))
def dQ (p0:(List Int)) (p1:Int → Option Bool) (s6:(Int × Int × (List Int))) : Option ((Int × Int × (List Int)) ⊕ (Int × Int × (List Int))) :=
 (if decide (s6.2.1 < (p0.length:Int)) = true then ao ((0:Int) ≤ s6.2.1 ∧ s6.2.1 < (p0.length:Int)) (((p1 (rdL s6.2.2 s6.2.1)).bind fun y10 => (if (!y10) = true then ao ((0:Int) ≤ s6.1 ∧ s6.1 < (p0.length:Int)) (some (.inl (w64 (s6.1 + 1),w64 (s6.2.1 + 1),(s6.2.2.set (Int.toNat s6.1) (rdL s6.2.2 s6.2.1))))) else some (.inl (s6.1,w64 (s6.2.1 + 1),s6.2.2))))) else some (.inr (s6.1,s6.2.1,s6.2.2)))
def cX (p0:(List Int)) (p1:Int → Option Bool) : Option (List Int) :=
 ((bo p0 p1).bind fun y1 => (if (y1 == (-1)) = true then some p0 else ((aU (dQ p0 p1) (y1,w64 (y1 + 1),p0)).bind fun u7 => ao ((0:Int) ≤ u7.1 ∧ u7.1 ≤ (p0.length:Int)) (ao ((0:Int) ≤ u7.1 ∧ u7.1 ≤ (p0.length:Int)) (some (u7.2.2.take (Int.toNat u7.1)))))))
def fX (p0:Int) (cap0:Int) : Option Bool :=
 some (p0 == cap0)
def jO (p0:TY) (p1:(List Int)) (s6:(Int × Int)) : Option ((Int × Int) ⊕ ((Int × Int) ⊕ (Int × Int))) :=
 (if decide (s6.2 < (p1.length:Int)) = true then ao ((0:Int) ≤ s6.2 ∧ s6.2 < (p1.length:Int)) (((iN p0 (rdL p1 s6.2)).bind fun y10 => ((if decide (y10 < 0) = true then (some (true)) else ((if decide (0 < s6.2) = true then (ao ((0:Int) ≤ w64 (s6.2 - 1) ∧ w64 (s6.2 - 1) < (p1.length:Int)) (some (decide ((rdL p1 s6.2) ≤ (rdL p1 (w64 (s6.2 - 1))))))) else (some (false))).bind fun b17 => some (b17))).bind fun b13 => (if b13 = true then some (.inr (.inl (1,s6.2))) else some (.inl (s6.1,w64 (s6.2 + 1))))))) else some (.inr (.inr (s6.1,s6.2))))
def jN (p0:TY) (p1:(List Int)) (s34:(Int × (List Int))) : Option ((Int × (List Int)) ⊕ (Int × (List Int))) :=
 (if decide (s34.1 < (p1.length:Int)) = true then ao ((0:Int) ≤ s34.1 ∧ s34.1 < (p1.length:Int)) (((bG s34.2).bind fun y39 => ((cX y39 (fun x45 => fX x45 (rdL p1 s34.1))).bind fun y46 => ((mK p0 y46).bind fun y50 => (if (!y50) = true then some (.inl (w64 (s34.1 + 1),y46)) else some (.inl (w64 (s34.1 + 1),s34.2))))))) else some (.inr (s34.1,s34.2)))
def jB (p0:TY) (p1:(List Int)) : Option ((List Int) × Int) :=
 ((c3 p0).bind fun y2 => (if (y2 != 0) = true then some ([],y2) else ((aU (jO p0 p1) (0,0)).bind fun u7 => match u7 with | (.inl u21) => some (([]:List Int),u21.1) | (.inr u22) => ((mK p0 p1).bind fun y23 => (if y23 = true then some ([],5) else ((bG p1).bind fun y26 => ((aU (jN p0 p1) (0,y26)).bind fun u35 => some (u35.2,0))))))))
def dW (p0:(List TBay)) (p1:Int) (p2:Int) : Option (List TBay) :=
 ao ((0:Int) ≤ p1 ∧ p1 ≤ p2 ∧ p2 ≤ (p0.length:Int) ∧ (p0.length:Int) ≤ (p0.length:Int)) ((if (p1 == p2) = true then some p0 else ao ((0:Int) ≤ p1 ∧ p1 ≤ (p0.length:Int)) (ao ((0:Int) ≤ p2 ∧ p2 ≤ (p0.length:Int)) (ao (p1 ≤ p2) (some (p0.take (Int.toNat p1) ++ p0.drop (Int.toNat p2)))))))
def eA (p0:(List TBay)) : Option (List TBay) :=
 ao (0 + p0.length ≤ 1000000000) (some (([]:List TBay) ++ p0))
def ij (p0:TY) (p1:Int) : Option TY :=
 ((eA p0.fB).bind fun y4 => ((dW y4 p1 (w64 (p1 + 1))).bind fun y10 => some (TY.mk y10 p0.fR)))
def mP (p0:TY) (p1:Int) : Option (Int × Int) :=
 ((c3 p0).bind fun y2 => (if (y2 != 0) = true then some (0,y2) else ((mG p0 p1).bind fun y5 => (if decide (y5 < 0) = true then some (0,5) else ((eX p0).bind fun y8 => ((ij p0 y5).bind fun y10 => ((eX (TY.mk y10.fB p0.fR)).bind fun y20 => some (w64 (y8 - y20),0))))))))
def md (p0:TY) (y6:Int) (s27:(Int × (List Int))) : Option ((Int × (List Int)) ⊕ (Int × (List Int))) :=
 (if decide (s27.1 < (p0.fB.length:Int)) = true then ((ij p0 s27.1).bind fun y31 => ((eX (TY.mk y31.fB p0.fR)).bind fun y41 => ao (s27.2.length + 1 ≤ 1000000000) (some (.inl (w64 (s27.1 + 1),(s27.2 ++ [w64 (y6 - y41)])))))) else some (.inr (s27.1,s27.2)))
def nu (p0:TY) (p1:(List (Int × Int))) : Option TPlan :=
 ao ((0:Int) ≤ (p0.fR.length:Int) ∧ (p0.fR.length:Int) * 8 ≤ 281474976710656) (((eH p1 p0).bind fun y6 => ao ((gm p1).all (fun y12 => dI y12 && decide (((0:Int) ≤ y12 ∧ y12 < (p0.fB.length:Int)) ∧ ((0:Int) ≤ av 0 p1 y12 ∧ av 0 p1 y12 < ((Int.toNat (p0.fR.length:Int) : Nat) : Int)))) = true) (ao (((gm p1).map (fun y12 => Int.toNat (av 0 p1 y12))).Nodup) (((aU (md p0 y6) (0,([]:List Int))).bind fun u28 => some (TPlan.mk ((gm p1).foldl (fun a y12 => a.set (Int.toNat (av 0 p1 y12)) ((rdL p0.fB y12).fID)) (List.replicate (Int.toNat (p0.fR.length:Int)) 0)) y6 u28.2))))))
def lI (p0:TY) : Option (TPlan × Int) :=
 ((c3 p0).bind fun y3 => (if (y3 != 0) = true then some ((TPlan.mk [] 0 []),y3) else ((j9 p0).bind fun y6 => ((nu p0 y6).bind fun y9 => some (y9,0)))))
def cj (p0:Int) (p1:Int) (p2:Int) : Option Bool :=
 some ((decide (p1 ≤ p0)) && (decide (p0 ≤ p2)))
def iL (p0:Int) : Option Bool :=
 ((cj p0 0 16384).bind fun y1 => some y1)
def ie (p0:TY) (s5:(Int × Int)) (s20:(Int × Int)) : Option ((Int × Int) ⊕ ((Int × Int) ⊕ (Int × Int))) :=
 (if decide (s20.2 < s5.2) = true then ao ((0:Int) ≤ s20.2 ∧ s20.2 < (p0.fB.length:Int)) ((if (((rdL p0.fB s20.2).fID) == ((rdL p0.fB s5.2).fID)) = true then some (.inr (.inl (6,s20.2))) else some (.inl (s20.1,w64 (s20.2 + 1))))) else some (.inr (.inr (s20.1,s20.2))))
def im (p0:TY) (s5:(Int × Int)) : Option ((Int × Int) ⊕ ((Int × Int) ⊕ (Int × Int))) :=
 (if decide (s5.2 < (p0.fB.length:Int)) = true then ao ((0:Int) ≤ s5.2 ∧ s5.2 < (p0.fB.length:Int)) (((cj ((rdL p0.fB s5.2).fID) 1 1099511627776).bind fun y10 => ((iL ((rdL p0.fB s5.2).fHour)).bind fun y12 => ((cj ((rdL p0.fB s5.2).fD) 0 9).bind fun y14 => (if (((!y10) || (!y12)) || (!y14)) = true then some (.inr (.inl (1,s5.2))) else ((aU (ie p0 s5) (s5.1,0)).bind fun u21 => match u21 with | (.inl u26) => some (.inr (.inl (u26.1,s5.2))) | (.inr u27) => some (.inl (u27.1,w64 (s5.2 + 1))))))))) else some (.inr (.inr (s5.1,s5.2))))
def hU (p0:TY) (s32:(Int × Int)) (s54:(Int × Int)) : Option ((Int × Int) ⊕ ((Int × Int) ⊕ (Int × Int))) :=
 (if decide (s54.2 < s32.2) = true then ao ((0:Int) ≤ s54.2 ∧ s54.2 < (p0.fR.length:Int)) ((if (((rdL p0.fR s54.2).fID) == ((rdL p0.fR s32.2).fID)) = true then some (.inr (.inl (6,s54.2))) else some (.inl (s54.1,w64 (s54.2 + 1))))) else some (.inr (.inr (s54.1,s54.2))))
def il (p0:TY) (s32:(Int × Int)) : Option ((Int × Int) ⊕ ((Int × Int) ⊕ (Int × Int))) :=
 (if decide (s32.2 < (p0.fR.length:Int)) = true then ao ((0:Int) ≤ s32.2 ∧ s32.2 < (p0.fR.length:Int)) (((cj ((rdL p0.fR s32.2).fID) 1 1099511627776).bind fun y37 => ((iL ((rdL p0.fR s32.2).fH.fLo)).bind fun y39 => ((iL ((rdL p0.fR s32.2).fH.fHi)).bind fun y41 => ((cj ((rdL p0.fR s32.2).fD) 0 9).bind fun y43 => ((cj ((rdL p0.fR s32.2).fW) 1 1000).bind fun y45 => (if ((((((!y37) || (!y39)) || (!y41)) || (decide ((rdL p0.fR s32.2).fH.fHi < (rdL p0.fR s32.2).fH.fLo))) || (!y43)) || (!y45)) = true then some (.inr (.inl (1,s32.2))) else ((aU (hU p0 s32) (s32.1,0)).bind fun u55 => match u55 with | (.inl u60) => some (.inr (.inl (u60.1,s32.2))) | (.inr u61) => some (.inl (u61.1,w64 (s32.2 + 1))))))))))) else some (.inr (.inr (s32.1,s32.2))))
def gK (p0:TY) : Option Int :=
 (if ((decide (24 < (p0.fB.length:Int))) || (decide (24 < (p0.fR.length:Int)))) = true then some 2 else ((aU (im p0) (0,0)).bind fun u6 => match u6 with | (.inl u29) => some u29.1 | (.inr u30) => ((aU (il p0) (u30.1,0)).bind fun u33 => match u33 with | (.inl u63) => some u63.1 | (.inr u64) => some 0)))
def mi (p0:TY) (p1:Int) (s3:(Int × Int)) : Option ((Int × Int) ⊕ ((Int × Int) ⊕ (Int × Int))) :=
 (if decide (s3.2 < (p0.fB.length:Int)) = true then ao ((0:Int) ≤ s3.2 ∧ s3.2 < (p0.fB.length:Int)) ((if (((rdL p0.fB s3.2).fID) == p1) = true then some (.inr (.inl (s3.2,s3.2))) else some (.inl (s3.1,w64 (s3.2 + 1))))) else some (.inr (.inr (s3.1,s3.2))))
def m2 (p0:TY) (p1:Int) : Option Int :=
 ((aU (mi p0 p1) (0,0)).bind fun u4 => match u4 with | (.inl u9) => some u9.1 | (.inr u10) => some (-1))
def gO (p0:TY) (p1:Int) (p2:Int) : Option Bool :=
 ao ((0:Int) ≤ p2 ∧ p2 < (p0.fB.length:Int)) (ao ((0:Int) ≤ p1 ∧ p1 < (p0.fR.length:Int)) (ao ((0:Int) ≤ p1 ∧ p1 < (p0.fR.length:Int)) (((cj ((rdL p0.fB p2).fHour) ((rdL p0.fR p1).fH.fLo) ((rdL p0.fR p1).fH.fHi)).bind fun y5 => ((if y5 = true then (ao ((0:Int) ≤ p2 ∧ p2 < (p0.fB.length:Int)) (ao ((0:Int) ≤ p1 ∧ p1 < (p0.fR.length:Int)) (some (decide ((rdL p0.fR p1).fD ≤ (rdL p0.fB p2).fD))))) else (some (false))).bind fun b8 => some b8)))))
def le (p1:(List Int)) (s4:(Bool × Int × Int)) (s17:(Bool × Int)) : Option ((Bool × Int) ⊕ ((Bool × Int) ⊕ (Bool × Int))) :=
 (if decide (s17.2 < s4.2.2) = true then ao ((0:Int) ≤ s17.2 ∧ s17.2 < (p1.length:Int)) (ao ((0:Int) ≤ s4.2.2 ∧ s4.2.2 < (p1.length:Int)) ((if ((rdL p1 s17.2) == (rdL p1 s4.2.2)) = true then some (.inr (.inl (false,s17.2))) else some (.inl (s17.1,w64 (s17.2 + 1)))))) else some (.inr (.inr (s17.1,s17.2))))
def lC (p0:TY) (p1:(List Int)) (s4:(Bool × Int × Int)) : Option ((Bool × Int × Int) ⊕ ((Bool × Int × Int) ⊕ (Bool × Int × Int))) :=
 (if decide (s4.2.2 < (p1.length:Int)) = true then ao ((0:Int) ≤ s4.2.2 ∧ s4.2.2 < (p1.length:Int)) ((if ((rdL p1 s4.2.2) == 0) = true then some (.inl (s4.1,s4.2.1,w64 (s4.2.2 + 1))) else ao ((0:Int) ≤ s4.2.2 ∧ s4.2.2 < (p1.length:Int)) (((m2 p0 (rdL p1 s4.2.2)).bind fun y10 => (if decide (y10 < 0) = true then some (.inr (.inl (false,s4.2.1,s4.2.2))) else ((gO p0 s4.2.2 y10).bind fun y13 => (if (!y13) = true then some (.inr (.inl (false,s4.2.1,s4.2.2))) else ((aU (le p1 s4) (s4.1,0)).bind fun u18 => match u18 with | (.inl u24) => some (.inr (.inl (u24.1,s4.2.1,s4.2.2))) | (.inr u25) => ao ((0:Int) ≤ s4.2.2 ∧ s4.2.2 < (p0.fR.length:Int)) (some (.inl (u25.1,w64 (s4.2.1 + ((rdL p0.fR s4.2.2).fW)),w64 (s4.2.2 + 1)))))))))))) else some (.inr (.inr (s4.1,s4.2.1,s4.2.2))))
def lU (p0:TY) (p1:(List Int)) (p2:Int) : Option Bool :=
 (if ((p1.length:Int) != (p0.fR.length:Int)) = true then some false else ((aU (lC p0 p1) (false,0,0)).bind fun u5 => match u5 with | (.inl u28) => some u28.1 | (.inr u29) => some (u29.2.1 == p2)))
def jZ (p1:(List Int)) (s4:(Int × Int × Int)) : Option ((Int × Int × Int) ⊕ ((Int × Int × Int) ⊕ (Int × Int × Int))) :=
 (if decide (s4.2.2 < (p1.length:Int)) = true then ao ((0:Int) ≤ s4.2.2 ∧ s4.2.2 < (p1.length:Int)) (((cj (rdL p1 s4.2.2) 0 1000).bind fun y8 => (if (!y8) = true then some (.inr (.inl ((-1),s4.2.1,s4.2.2))) else ao ((0:Int) ≤ s4.2.2 ∧ s4.2.2 < (p1.length:Int)) (some (.inl (s4.1,w64 (s4.2.1 + (rdL p1 s4.2.2)),w64 (s4.2.2 + 1))))))) else some (.inr (.inr (s4.1,s4.2.1,s4.2.2))))
def jz (p0:TY) (p1:(List Int)) (s16:(Int × Int)) (s21:(Int × Int)) : Option ((Int × Int) ⊕ (Int × Int)) :=
 (if decide (s21.2 < (p1.length:Int)) = true then ((gO p0 s16.2 s21.2).bind fun y24 => (if y24 = true then ao ((0:Int) ≤ s21.2 ∧ s21.2 < (p1.length:Int)) (some (.inl (min s21.1 (rdL p1 s21.2),w64 (s21.2 + 1)))) else some (.inl (s21.1,w64 (s21.2 + 1))))) else some (.inr (s21.1,s21.2)))
def jW (p0:TY) (p1:(List Int)) (s16:(Int × Int)) (s30:(Bool × Int)) : Option ((Bool × Int) ⊕ (Bool × Int)) :=
 (if decide (s30.2 < (p1.length:Int)) = true then ((gO p0 s16.2 s30.2).bind fun y33 => some (.inl ((s30.1 || y33),w64 (s30.2 + 1)))) else some (.inr (s30.1,s30.2)))
def jY (p0:TY) (p1:(List Int)) (s16:(Int × Int)) : Option ((Int × Int) ⊕ (Int × Int)) :=
 (if decide (s16.2 < (p0.fR.length:Int)) = true then ao ((0:Int) ≤ s16.2 ∧ s16.2 < (p0.fR.length:Int)) (((aU (jz p0 p1 s16) ((rdL p0.fR s16.2).fW,0)).bind fun u22 => ((aU (jW p0 p1 s16) (false,0)).bind fun u31 => (if u31.1 = true then ao ((0:Int) ≤ s16.2 ∧ s16.2 < (p0.fR.length:Int)) (some (.inl (w64 ((w64 (s16.1 + ((rdL p0.fR s16.2).fW))) - u22.1),w64 (s16.2 + 1)))) else some (.inl (s16.1,w64 (s16.2 + 1))))))) else some (.inr (s16.1,s16.2)))
def jS (p0:TY) (p1:(List Int)) : Option Int :=
 (if ((p1.length:Int) != (p0.fB.length:Int)) = true then some (-1) else ((aU (jZ p1) (0,0,0)).bind fun u5 => match u5 with | (.inl u13) => some u13.1 | (.inr u14) => ((aU (jY p0 p1) (u14.2.1,0)).bind fun u17 => some u17.1)))
def gL (p0:TY) (p1:TPlan) : Option Int :=
 ((gK p0).bind fun y3 => (if (y3 != 0) = true then some y3 else ((lU p0 p1.fG p1.fW).bind fun y6 => ((if (!y6) = true then (some (true)) else ((jS p0 p1.fPrices).bind fun y12 => some ((y12 != p1.fW)))).bind fun b9 => (if b9 = true then some 8 else some 0)))))
def cO (p0:TR) (y6:(List (Ts × Tl))) (s12:(Int × (List (List Int)))) : Option ((Int × (List (List Int))) ⊕ (Int × (List (List Int)))) :=
 (if decide (s12.1 < p0.fPlaces) = true then ((er y6 s12.1).bind fun y15 => ((bG y15).bind fun y20 => ao (s12.2.length + 1 ≤ 1000000000) (some (.inl (w64 (s12.1 + 1),(s12.2 ++ [y20])))))) else some (.inr (s12.1,s12.2)))
def cW (p0:TR) (p1:Int) (p2:Int) : Option (TTimes × Int) :=
 ((dK p0 p1 p1 p2 0).bind fun y3 => (if (y3 != 0) = true then some ((TTimes.mk []),y3) else ((dY p0 p1 p2).bind fun y6 => ((aU (cO p0 y6) (0,([]:List (List Int)))).bind fun u13 => some ((TTimes.mk u13.2),0)))))
def lL (p0:TR) (p1:Int) (p2:Int) (p3:Int) : Option ((List TJ) × Int) :=
 ((dK p0 p1 p2 p3 0).bind fun y2 => (if (y2 != 0) = true then some ([],y2) else ((gJ p0 p1 p2 p3).bind fun y5 => some (y5,0))))
def gW  : Option TR :=
 some (TR.mk 3 [(TT.mk 1 0 1 5 0 ([]:(List TSpan))),(TT.mk 2 1 2 5 0 [(TSpan.mk 8 20)]),(TT.mk 3 0 2 9 6 ([]:(List TSpan))),(TT.mk 4 1 2 8 2 ([]:(List TSpan)))])
def g5  : Option TY :=
 some (TY.mk [(TBay.mk 1 10 3),(TBay.mk 2 11 5)] [(TO.mk 7 (TSpan.mk 10 11) 3 5),(TO.mk 8 (TSpan.mk 11 12) 4 9),(TO.mk 9 (TSpan.mk 10 11) 4 7)])
def lQ (p0:TT) (p1:Int) : Option (Int × Int) :=
 ((fU p0.fK).bind fun y2 => ((if (!y2) = true then (some (true)) else ((cP p1).bind fun y11 => some ((!y11)))).bind fun b5 => (if b5 = true then some (0,1) else ((eU p0 p1).bind fun y8 => (if (!y8.2) = true then some (0,5) else some (y8.1,0))))))
def bK  : Option Bool :=
 ((gW).bind fun y1 => ((g5).bind fun y14 => ao ((0:Int) ≤ 1 ∧ 1 < (y1.fTracks.length:Int)) (((lQ (TT.mk ((rdL y1.fTracks 1).fID) ((rdL y1.fTracks 1).fFrom) ((rdL y1.fTracks 1).fTo) ((rdL y1.fTracks 1).fLong) ((rdL y1.fTracks 1).fToll) ((rdL y1.fTracks 1).fK)) 8).bind fun y26 => ((cW y1 0 4).bind fun y28 => ((lL y1 0 2 4).bind fun y41 => ((fa y1 0 2 4 5).bind fun y53 => ((kF y1 0 2 26 0).bind fun y64 => ((iV y1 0 2 4 0).bind fun y66 => ((iV y1 0 2 4 60).bind fun y72 => ((if (((((((((y26.2 != 0) || (y28.2 != 0)) || (y41.2 != 0)) || (y53.2 != 0)) || (y64.2 != 0)) || (y66.2 != 0)) || (y72.2 != 0)) || (y26.1 != 21)) || ((y28.1.fH.length:Int) != 3)) = true then (some (true)) else (ao ((0:Int) ≤ 2 ∧ 2 < (y28.1.fH.length:Int)) (some (((((rdL y28.1.fH 2).length : Nat) : Int) != 61))))).bind fun b87 => (if (b87 || ((y41.1.length:Int) != 3)) = true then some false else ao ((0:Int) ≤ 2 ∧ 2 < (y28.1.fH.length:Int)) (ao ((0:Int) ≤ 0 ∧ 0 < (((rdL y28.1.fH 2).length : Nat) : Int)) (((if ((rdL (rdL y28.1.fH 2) 0) == 26) = true then (ao ((0:Int) ≤ 2 ∧ 2 < (y28.1.fH.length:Int)) (ao ((0:Int) ≤ 2 ∧ 2 < (((rdL y28.1.fH 2).length : Nat) : Int)) (some (((rdL (rdL y28.1.fH 2) 2) == 17))))) else (some (false))).bind fun b94 => ((if b94 = true then (ao ((0:Int) ≤ 2 ∧ 2 < (y28.1.fH.length:Int)) (ao ((0:Int) ≤ 6 ∧ 6 < (((rdL y28.1.fH 2).length : Nat) : Int)) (some (((rdL (rdL y28.1.fH 2) 6) == 13))))) else (some (false))).bind fun b97 => ((if b97 = true then (ao ((0:Int) ≤ 0 ∧ 0 < (y41.1.length:Int)) (some ((((rdL y41.1 0).fToll) == 0)))) else (some (false))).bind fun b100 => ((if b100 = true then (ao ((0:Int) ≤ 1 ∧ 1 < (y41.1.length:Int)) (some ((((rdL y41.1 1).fA) == 17)))) else (some (false))).bind fun b103 => ((if b103 = true then (ao ((0:Int) ≤ 2 ∧ 2 < (y41.1.length:Int)) (some ((((rdL y41.1 2).fToll) == 6)))) else (some (false))).bind fun b106 => ((if ((b106 && (y53.1.fA == 17)) && (y64.1 == 16)) = true then ((cZ y66.1 [1,2]).bind fun y182 => some (y182)) else (some (false))).bind fun b111 => ((if b111 = true then ((cZ y72.1 [3]).bind fun y179 => some (y179)) else (some (false))).bind fun b114 => ((lI y14).bind fun y116 => ((kD y14).bind fun y127 => ((lW y14).bind fun y133 => ((jB y14 [7,8,9]).bind fun y140 => ((mP y14 1).bind fun y146 => ((if ((y116.2 == 0) && (y116.1.fW == 14)) = true then ((gL y14 y116.1).bind fun y176 => some ((y176 == 0))) else (some (false))).bind fun b150 => ((if (b150 && (y127.2 == 0)) = true then ((cZ y127.1 [7,8]).bind fun y174 => some (y174)) else (some (false))).bind fun b154 => ((if (b154 && (y133.2 == 0)) = true then ((cZ y133.1 [9]).bind fun y171 => some (y171)) else (some (false))).bind fun b158 => ((if ((b114 && b158) && (y140.2 == 0)) = true then ((cZ y140.1 [8,9]).bind fun y168 => some (y168)) else (some (false))).bind fun b163 => some ((b163 && (y146.2 == 0)) && (y146.1 == 5))))))))))))))))))))))))))))))))
def fe (p0:TJ) : Option Bool :=
 some (decide ((p0.fLegs.length:Int) ≤ 40))
def em (p0:TTimes) (s3:(Bool × Int)) : Option ((Bool × Int) ⊕ ((Bool × Int) ⊕ (Bool × Int))) :=
 (if decide (s3.2 < (p0.fH.length:Int)) = true then ao ((0:Int) ≤ s3.2 ∧ s3.2 < (p0.fH.length:Int)) ((if decide (80 < (((rdL p0.fH s3.2).length : Nat) : Int)) = true then some (.inr (.inl (false,s3.2))) else some (.inl (s3.1,w64 (s3.2 + 1))))) else some (.inr (.inr (s3.1,s3.2))))
def eC (p0:TTimes) : Option Bool :=
 ((aU (em p0) (false,0)).bind fun u4 => match u4 with | (.inl u9) => some u9.1 | (.inr u10) => some (decide ((p0.fH.length:Int) ≤ 20)))
def aQ (p0:(List (List Int))) (p1:(List Int) → Option Bool) (s2:(Int × Int)) : Option ((Int × Int) ⊕ ((Int × Int) ⊕ (Int × Int))) :=
 (if decide (s2.2 < (p0.length:Int)) = true then ao ((0:Int) ≤ s2.2 ∧ s2.2 < (p0.length:Int)) (((p1 (rdL p0 s2.2)).bind fun y6 => (if y6 = true then some (.inr (.inl (s2.2,s2.2))) else some (.inl (s2.1,w64 (s2.2 + 1)))))) else some (.inr (.inr (s2.1,s2.2))))
def bg (p0:(List (List Int))) (p1:(List Int) → Option Bool) : Option Int :=
 ((aU (aQ p0 p1) (0,0)).bind fun u3 => match u3 with | (.inl u10) => some u10.1 | (.inr u11) => some (-1))
def eg (p0:(List (List Int))) (p1:(List Int) → Option Bool) : Option Int :=
 ((bg p0 p1).bind fun y1 => some y1)
def fm (p0:(List Int)) (s2:(Bool × Int × Int)) : Option ((Bool × Int × Int) ⊕ ((Bool × Int × Int) ⊕ (Bool × Int × Int))) :=
 (if decide (s2.2.2 < (p0.length:Int)) = true then ao ((0:Int) ≤ s2.2.2 ∧ s2.2.2 < (p0.length:Int)) (((bb (rdL p0 s2.2.2) (-1) 16384).bind fun y6 => (if ((!y6) || ((decide (0 ≤ s2.2.1)) && ((decide ((rdL p0 s2.2.2) < 0)) || (decide (s2.2.1 < (rdL p0 s2.2.2)))))) = true then some (.inr (.inl (false,s2.2.1,s2.2.2))) else some (.inl (s2.1,(rdL p0 s2.2.2),w64 (s2.2.2 + 1)))))) else some (.inr (.inr (s2.1,s2.2.1,s2.2.2))))
def f6 (p0:(List Int)) : Option Bool :=
 ((aU (fm p0) (false,(-1),0)).bind fun u3 => match u3 with | (.inl u13) => some u13.1 | (.inr u14) => some ((p0.length:Int) == 61))
def dJ (p0:(List Int)) : Option Bool :=
 ((f6 p0).bind fun y1 => some (!y1))
def eE (p0:Int) (cap0:Int) : Option Bool :=
 some ((decide (p0 < 0)) || (decide (cap0 < p0)))
def dX (p0:TR) (p3:TTimes) (s14:(Bool × Int)) (s21:(Bool × Int)) : Option ((Bool × Int) ⊕ ((Bool × Int) ⊕ (Bool × Int))) :=
 (if decide (s21.2 < (((rdL p3.fH ((rdL p0.fTracks s14.2).fFrom)).length : Nat) : Int)) = true then ao ((0:Int) ≤ s21.2 ∧ s21.2 < (((rdL p3.fH ((rdL p0.fTracks s14.2).fFrom)).length : Nat) : Int)) ((if ((decide ((rdL (rdL p3.fH ((rdL p0.fTracks s14.2).fFrom)) s21.2) < 0)) || (decide (60 < w64 (s21.2 + ((rdL p0.fTracks s14.2).fToll))))) = true then some (.inl (s21.1,w64 (s21.2 + 1))) else ((eU (TT.mk ((rdL p0.fTracks s14.2).fID) ((rdL p0.fTracks s14.2).fFrom) ((rdL p0.fTracks s14.2).fTo) ((rdL p0.fTracks s14.2).fLong) ((rdL p0.fTracks s14.2).fToll) ((rdL p0.fTracks s14.2).fK)) (rdL (rdL p3.fH ((rdL p0.fTracks s14.2).fFrom)) s21.2)).bind fun y27 => ((if (!y27.2) = true then (some (true)) else ((cP (w64 (y27.1 + ((rdL p0.fTracks s14.2).fLong)))).bind fun y37 => some ((!y37)))).bind fun b30 => (if b30 = true then some (.inl (s21.1,w64 (s21.2 + 1))) else ao ((0:Int) ≤ (rdL p0.fTracks s14.2).fTo ∧ (rdL p0.fTracks s14.2).fTo < (p3.fH.length:Int)) (ao ((0:Int) ≤ w64 (s21.2 + ((rdL p0.fTracks s14.2).fToll)) ∧ w64 (s21.2 + ((rdL p0.fTracks s14.2).fToll)) < (((rdL p3.fH ((rdL p0.fTracks s14.2).fTo)).length : Nat) : Int)) ((if ((decide ((rdL (rdL p3.fH ((rdL p0.fTracks s14.2).fTo)) (w64 (s21.2 + ((rdL p0.fTracks s14.2).fToll)))) < 0)) || (decide (w64 (y27.1 + ((rdL p0.fTracks s14.2).fLong)) < (rdL (rdL p3.fH ((rdL p0.fTracks s14.2).fTo)) (w64 (s21.2 + ((rdL p0.fTracks s14.2).fToll))))))) = true then some (.inr (.inl (false,s21.2))) else some (.inl (s21.1,w64 (s21.2 + 1))))))))))) else some (.inr (.inr (s21.1,s21.2))))
def fj (p0:TR) (p3:TTimes) (s14:(Bool × Int)) : Option ((Bool × Int) ⊕ ((Bool × Int) ⊕ (Bool × Int))) :=
 (if decide (s14.2 < (p0.fTracks.length:Int)) = true then ao ((0:Int) ≤ s14.2 ∧ s14.2 < (p0.fTracks.length:Int)) (ao ((0:Int) ≤ (rdL p0.fTracks s14.2).fFrom ∧ (rdL p0.fTracks s14.2).fFrom < (p3.fH.length:Int)) (((aU (dX p0 p3 s14) (s14.1,0)).bind fun u22 => match u22 with | (.inl u40) => some (.inr (.inl (u40.1,s14.2))) | (.inr u41) => some (.inl (u41.1,w64 (s14.2 + 1)))))) else some (.inr (.inr (s14.1,s14.2))))
def ga (p0:TR) (p1:Int) (p2:Int) (p3:TTimes) : Option Bool :=
 ((if ((p3.fH.length:Int) != p0.fPlaces) = true then (some (true)) else ((eg p3.fH (fun x45 => dJ x45)).bind fun y46 => some (decide (0 ≤ y46)))).bind fun b5 => (if b5 = true then some false else ao ((0:Int) ≤ p1 ∧ p1 < (p3.fH.length:Int)) (((f0 (rdL p3.fH p1) (fun x9 => eE x9 p2)).bind fun y10 => (if decide (0 ≤ y10) = true then some false else ((aU (fj p0 p3) (false,0)).bind fun u15 => match u15 with | (.inl u43) => some u43.1 | (.inr u44) => some true))))))
def di (p0:TR) (p1:Int) (p2:Int) (p3:TTimes) : Option Int :=
 ((dK p0 p1 p1 p2 0).bind fun y3 => (if (y3 != 0) = true then some y3 else ((ga p0 p1 p2 p3).bind fun y6 => (if (!y6) = true then some 8 else some 0))))
def ed (p0:TR) (p4:TJ) (s4:(Int × Int × Bool × Int × Int)) : Option ((Int × Int × Bool × Int × Int) ⊕ ((Int × Int × Bool × Int × Int) ⊕ (Int × Int × Bool × Int × Int))) :=
 (if decide (s4.2.2.2.2 < (p4.fLegs.length:Int)) = true then ao ((0:Int) ≤ s4.2.2.2.2 ∧ s4.2.2.2.2 < (p4.fLegs.length:Int)) (((gG p0 ((rdL p4.fLegs s4.2.2.2.2).fTrack)).bind fun y9 => ((if decide (y9 < 0) = true then (some (true)) else (ao ((0:Int) ≤ y9 ∧ y9 < (p0.fTracks.length:Int)) (some ((((rdL p0.fTracks y9).fFrom) != s4.1))))).bind fun b12 => ((if (b12 || (decide ((rdL p4.fLegs s4.2.2.2.2).fHour < s4.2.1))) = true then (some (true)) else ((cP ((rdL p4.fLegs s4.2.2.2.2).fHour)).bind fun y27 => some ((!y27)))).bind fun b16 => (if b16 = true then some (.inr (.inl (s4.1,s4.2.1,false,s4.2.2.2.1,s4.2.2.2.2))) else ao ((0:Int) ≤ y9 ∧ y9 < (p0.fTracks.length:Int)) (((eU (TT.mk ((rdL p0.fTracks y9).fID) ((rdL p0.fTracks y9).fFrom) ((rdL p0.fTracks y9).fTo) ((rdL p0.fTracks y9).fLong) ((rdL p0.fTracks y9).fToll) ((rdL p0.fTracks y9).fK)) ((rdL p4.fLegs s4.2.2.2.2).fHour)).bind fun y20 => (if ((!y20.2) || (y20.1 != ((rdL p4.fLegs s4.2.2.2.2).fHour))) = true then some (.inr (.inl (s4.1,s4.2.1,false,s4.2.2.2.1,s4.2.2.2.2))) else ao ((0:Int) ≤ y9 ∧ y9 < (p0.fTracks.length:Int)) (ao ((0:Int) ≤ y9 ∧ y9 < (p0.fTracks.length:Int)) (ao ((0:Int) ≤ y9 ∧ y9 < (p0.fTracks.length:Int)) (some (.inl ((rdL p0.fTracks y9).fTo,w64 (((rdL p4.fLegs s4.2.2.2.2).fHour) + ((rdL p0.fTracks y9).fLong)),s4.2.2.1,w64 (s4.2.2.2.1 + ((rdL p0.fTracks y9).fToll)),w64 (s4.2.2.2.2 + 1)))))))))))))) else some (.inr (.inr (s4.1,s4.2.1,s4.2.2.1,s4.2.2.2.1,s4.2.2.2.2))))
def gh (p0:TR) (p1:Int) (p2:Int) (p3:Int) (p4:TJ) : Option Bool :=
 ((aU (ed p0 p4) (p1,p3,false,0,0)).bind fun u5 => match u5 with | (.inl u31) => some u31.2.2.1 | (.inr u32) => ((if (((u32.1 == p2) && (u32.2.1 == p4.fA)) && (u32.2.2.2.1 == p4.fToll)) = true then ((cP u32.2.1).bind fun y39 => some (y39)) else (some (false))).bind fun b36 => some (b36 && (decide (u32.2.2.2.1 ≤ 60)))))
def ct (p0:TR) (p1:Int) (p2:Int) (p3:Int) (p4:TJ) : Option Int :=
 ((dK p0 p1 p2 p3 0).bind fun y3 => (if (y3 != 0) = true then some y3 else ((gh p0 p1 p2 p3 p4).bind fun y6 => (if (!y6) = true then some 8 else some 0))))
def cf (p0:TTimes) (p1:Int) (p2:Int) : Option Int :=
 ((if (((decide (p1 < 0)) || (decide ((p0.fH.length:Int) ≤ p1))) || (decide (p2 < 0))) = true then (some (true)) else (ao ((0:Int) ≤ p1 ∧ p1 < (p0.fH.length:Int)) (some (decide ((((rdL p0.fH p1).length : Nat) : Int) ≤ p2))))).bind fun b5 => (if b5 = true then some (-2) else ao ((0:Int) ≤ p1 ∧ p1 < (p0.fH.length:Int)) (ao ((0:Int) ≤ p2 ∧ p2 < (((rdL p0.fH p1).length : Nat) : Int)) (some (rdL (rdL p0.fH p1) p2)))))
def cl (p0:TTimes) (p1:Int) (p2:TJ) : Option Bool :=
 ((cf p0 p1 p2.fToll).bind fun y3 => some ((decide (y3 < 0)) || (decide (p2.fA < y3))))
def dg (p0:TR) (p1:Int) (p2:Int) (p3:Int) (p4:TJ) (p5:TTimes) (p6:Int) : Option Bool :=
 ((fq p0).bind fun y4 => ((if (!y4) = true then (some (true)) else ((fe p4).bind fun y84 => some ((!y84)))).bind fun b7 => ((if b7 = true then (some (true)) else ((eC p5).bind fun y82 => some ((!y82)))).bind fun b10 => (if b10 = true then ((bK).bind fun y13 => some y13) else ((cW p0 p1 p3).bind fun y15 => (if (y15.2 != 0) = true then ((bK).bind fun y29 => some y29) else ((di p0 p1 p3 y15.1).bind fun y31 => (if (y31 != 0) = true then some false else ((ct p0 p1 p2 p3 p4).bind fun y34 => ((if (y34 == 0) = true then ((cl y15.1 p2 p4).bind fun y70 => ((if y70 = true then (some (true)) else ((di p0 p1 p3 p5).bind fun y75 => ((if (y75 == 0) = true then ((cl p5 p2 p4).bind fun y80 => some (y80)) else (some (false))).bind fun b78 => some (b78)))).bind fun b73 => some (b73))) else (some (false))).bind fun b37 => (if b37 = true then some false else ((fa p0 p1 p2 p3 (Int.tmod (w64 p6) 61)).bind fun y40 => (if (y40.2 == 1) = true then ((bK).bind fun y52 => some y52) else ((cf y15.1 p2 (Int.tmod (w64 p6) 61)).bind fun y54 => (if (y40.2 == 5) = true then ((bK).bind fun y57 => some (y57 && (y54 == (-1)))) else ((bK).bind fun y60 => ((if (((y60 && (y40.2 == 0)) && (y54 == y40.1.fA)) && (decide (y40.1.fToll ≤ Int.tmod (w64 p6) 61))) = true then ((ct p0 p1 p2 p3 y40.1).bind fun y68 => some ((y68 == 0))) else (some (false))).bind fun b66 => some b66)))))))))))))))))
end
end Go.Proofs.YthndghnkebboaaaGreat
