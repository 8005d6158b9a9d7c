import Derived.Test.YthndghnkebboaaaGreatGz
set_option linter.unusedVariables false
namespace Go.Proofs.YthndghnkebboaaaGreat
noncomputable section
structure TSpan where
 fLo : Int
 fHi : Int
 deriving DecidableEq
instance : Inhabited TSpan:=⟨⟨default,default⟩⟩
def TSpan_rg (x:TSpan) : Prop:=Rg_i64 x.fLo ∧ Rg_i64 x.fHi
structure TT where
 fID : Int
 fFrom : Int
 fTo : Int
 fLong : Int
 fToll : Int
 fK : (List TSpan)
 deriving DecidableEq
instance : Inhabited TT:=⟨⟨default,default,default,default,default,default⟩⟩
def TTrack_rg (x:TT) : Prop:=Rg_i64 x.fID ∧ Rg_i64 x.fFrom ∧ Rg_i64 x.fTo ∧ Rg_i64 x.fLong ∧ Rg_i64 x.fToll ∧ (f4 TSpan_rg x.fK)
structure TR where
 fPlaces : Int
 fTracks : (List TT)
 deriving DecidableEq
instance : Inhabited TR:=⟨⟨default,default⟩⟩
def TRoads_rg (x:TR) : Prop:=Rg_i64 x.fPlaces ∧ (f4 TTrack_rg x.fTracks)
structure Ts where
 f_place : Int
 f_toll : Int
 deriving DecidableEq
instance : Inhabited Ts:=⟨⟨default,default⟩⟩
def Tstop_rg (x:Ts) : Prop:=Rg_i64 x.f_place ∧ Rg_i64 x.f_toll
structure Twait where
 f_at : Int
 f_stop : Ts
 deriving DecidableEq
instance : Inhabited Twait:=⟨⟨default,default⟩⟩
def Twait_rg (x:Twait) : Prop:=Rg_i64 x.f_at ∧ Rg_i64 x.f_stop.f_place ∧ Rg_i64 x.f_stop.f_toll
structure TLeg where
 fTrack : Int
 fHour : Int
 deriving DecidableEq
instance : Inhabited TLeg:=⟨⟨default,default⟩⟩
def TLeg_rg (x:TLeg) : Prop:=Rg_i64 x.fTrack ∧ Rg_i64 x.fHour
structure Tl where
 f_at : Int
 f_from : Ts
 f_leg : TLeg
 f_begin : Bool
 deriving DecidableEq
instance : Inhabited Tl:=⟨⟨default,default,default,default⟩⟩
def Tlabel_rg (x:Tl) : Prop:=Rg_i64 x.f_at ∧ Rg_i64 x.f_from.f_place ∧ Rg_i64 x.f_from.f_toll ∧ Rg_i64 x.f_leg.fTrack ∧ Rg_i64 x.f_leg.fHour
structure TJ where
 fLegs : (List TLeg)
 fA : Int
 fToll : Int
 deriving DecidableEq
instance : Inhabited TJ:=⟨⟨default,default,default⟩⟩
def TJourney_rg (x:TJ) : Prop:=(f4 TLeg_rg x.fLegs) ∧ Rg_i64 x.fA ∧ Rg_i64 x.fToll
structure TO where
 fID : Int
 fH : TSpan
 fD : Int
 fW : Int
 deriving DecidableEq
instance : Inhabited TO:=⟨⟨default,default,default,default⟩⟩
def TOrder_rg (x:TO) : Prop:=Rg_i64 x.fID ∧ Rg_i64 x.fH.fLo ∧ Rg_i64 x.fH.fHi ∧ Rg_i64 x.fD ∧ Rg_i64 x.fW
structure TBay where
 fID : Int
 fHour : Int
 fD : Int
 deriving DecidableEq
instance : Inhabited TBay:=⟨⟨default,default,default⟩⟩
def TBay_rg (x:TBay) : Prop:=Rg_i64 x.fID ∧ Rg_i64 x.fHour ∧ Rg_i64 x.fD
structure TY where
 fB : (List TBay)
 fR : (List TO)
 deriving DecidableEq
instance : Inhabited TY:=⟨⟨default,default⟩⟩
def TYard_rg (x:TY) : Prop:=(f4 TBay_rg x.fB) ∧ (f4 TOrder_rg x.fR)
structure TPlan where
 fG : (List Int)
 fW : Int
 fPrices : (List Int)
 deriving DecidableEq
instance : Inhabited TPlan:=⟨⟨default,default,default⟩⟩
def TPlan_rg (x:TPlan) : Prop:=(f4 Rg_i64 x.fG) ∧ Rg_i64 x.fW ∧ (f4 Rg_i64 x.fPrices)
structure TTimes where
 fH : (List (List Int))
 deriving DecidableEq
instance : Inhabited TTimes:=⟨⟨default⟩⟩
def TTimes_rg (x:TTimes) : Prop:=(f4 (f4 Rg_i64) x.fH)
structure TPoint where
 fToll : Int
 fA : Int
 deriving DecidableEq
instance : Inhabited TPoint:=⟨⟨default,default⟩⟩
def TPoint_rg (x:TPoint) : Prop:=Rg_i64 x.fToll ∧ Rg_i64 x.fA
structure TPointed where
 fP : TPoint
 fE : Int
 deriving DecidableEq
instance : Inhabited TPointed:=⟨⟨default,default⟩⟩
def TPointed_rg (x:TPointed) : Prop:=Rg_i64 x.fP.fToll ∧ Rg_i64 x.fP.fA ∧ Rg_i64 x.fE
structure TInts where
 fL : (List Int)
 fE : Int
 deriving DecidableEq
instance : Inhabited TInts:=⟨⟨default,default⟩⟩
def TInts_rg (x:TInts) : Prop:=(f4 Rg_i64 x.fL) ∧ Rg_i64 x.fE
structure TTimed where
 fT : TTimes
 fE : Int
 deriving DecidableEq
instance : Inhabited TTimed:=⟨⟨default,default⟩⟩
def TTimed_rg (x:TTimed) : Prop:=(f4 (f4 Rg_i64) x.fT.fH) ∧ Rg_i64 x.fE
structure TFronted where
 fL : (List TPoint)
 fE : Int
 deriving DecidableEq
instance : Inhabited TFronted:=⟨⟨default,default⟩⟩
def TFronted_rg (x:TFronted) : Prop:=(f4 TPoint_rg x.fL) ∧ Rg_i64 x.fE
def bl (x:Ts) : Bool:=cO x.f_place && cO x.f_toll
def a7 (p0:Int) (p1:Int) (p2:Int) : Option Bool :=
 some ((decide (p1 ≤ p0)) && (decide (p0 ≤ p2)))
def ef (p0:Int) : Option Bool :=
 ((a7 p0 0 16384).bind fun y1 => some y1)
def kr (p0:(List TSpan)) (s2:(Bool × Int × Int)) : Option ((Bool × Int × Int) ⊕ ((Bool × Int × Int) ⊕ (Bool × Int × Int))) :=
 (if decide (s2.2.2 < (p0.length:Int)) = true then am ((0:Int) ≤ s2.2.2 ∧ s2.2.2 < (p0.length:Int)) ((if (((decide ((rdL p0 s2.2.2).fLo < w64 (s2.2.1 + 2))) || (decide ((rdL p0 s2.2.2).fHi < (rdL p0 s2.2.2).fLo))) || (decide (16384 < (rdL p0 s2.2.2).fHi))) = true then some (.inr (.inl (false,s2.2.1,s2.2.2))) else some (.inl (s2.1,(rdL p0 s2.2.2).fHi,w64 (s2.2.2 + 1))))) else some (.inr (.inr (s2.1,s2.2.1,s2.2.2))))
def iX (p0:(List TSpan)) : Option Bool :=
 ((aM (kr p0) (false,(-2),0)).bind fun u3 => match u3 with | (.inl u11) => some u11.1 | (.inr u12) => some (decide ((p0.length:Int) ≤ 4)))
def dC (p0:(List TT)) (p1:TT → Option Bool) (s2:(Int × Int)) : Option ((Int × Int) ⊕ ((Int × Int) ⊕ (Int × Int))) :=
 (if decide (s2.2 < (p0.length:Int)) = true then am ((0:Int) ≤ s2.2 ∧ s2.2 < (p0.length:Int)) (((p1 (TT.mk ((rdL p0 s2.2).fID) ((rdL p0 s2.2).fFrom) ((rdL p0 s2.2).fTo) ((rdL p0 s2.2).fLong) ((rdL p0 s2.2).fToll) ((rdL p0 s2.2).fK))).bind fun y6 => (if y6 = true then some (.inr (.inl (s2.2,s2.2))) else some (.inl (s2.1,w64 (s2.2 + 1)))))) else some (.inr (.inr (s2.1,s2.2))))
def cz (p0:(List TT)) (p1:TT → Option Bool) : Option Int :=
 ((aM (dC p0 p1) (0,0)).bind fun u3 => match u3 with | (.inl u10) => some u10.1 | (.inr u11) => some (-1))
def di (p0:(List TT)) (p1:TT → Option Bool) : Option Int :=
 ((cz p0 p1).bind fun y1 => some y1)
def ir (p0:TT) (cap0:Int) : Option Bool :=
 some (p0.fID == cap0)
def lQ (p0:TR) (p1:Int) : Option Int :=
 ((di p0.fTracks (fun x3 => ir x3 p1)).bind fun y4 => some y4)
def iw (p0:Int) (cap0:TR) : Option Bool :=
 ((a7 p0 0 (w64 (cap0.fPlaces - 1))).bind fun y1 => some y1)
def ld (p0:TR) (s7:(Int × Int)) : Option ((Int × Int) ⊕ ((Int × Int) ⊕ (Int × Int))) :=
 (if decide (s7.2 < (p0.fTracks.length:Int)) = true then am ((0:Int) ≤ s7.2 ∧ s7.2 < (p0.fTracks.length:Int)) (((a7 ((rdL p0.fTracks s7.2).fID) 1 1099511627776).bind fun y12 => ((if (!y12) = true then (some (true)) else ((iw ((rdL p0.fTracks s7.2).fFrom) p0).bind fun y42 => some ((!y42)))).bind fun b15 => ((if b15 = true then (some (true)) else ((iw ((rdL p0.fTracks s7.2).fTo) p0).bind fun y40 => some ((!y40)))).bind fun b18 => ((if (b18 || (((rdL p0.fTracks s7.2).fFrom) == ((rdL p0.fTracks s7.2).fTo))) = true then (some (true)) else ((a7 ((rdL p0.fTracks s7.2).fLong) 1 72).bind fun y38 => some ((!y38)))).bind fun b22 => ((if b22 = true then (some (true)) else ((a7 ((rdL p0.fTracks s7.2).fToll) 0 40).bind fun y36 => some ((!y36)))).bind fun b25 => ((if b25 = true then (some (true)) else ((iX ((rdL p0.fTracks s7.2).fK)).bind fun y34 => some ((!y34)))).bind fun b28 => (if b28 = true then some (.inr (.inl (1,s7.2))) else ((lQ p0 ((rdL p0.fTracks s7.2).fID)).bind fun y31 => (if decide (y31 < s7.2) = true then some (.inr (.inl (6,s7.2))) else some (.inl (s7.1,w64 (s7.2 + 1))))))))))))) else some (.inr (.inr (s7.1,s7.2))))
def lM (p0:TR) : Option Int :=
 ((a7 p0.fPlaces 1 16).bind fun y2 => (if (!y2) = true then some 1 else (if decide (48 < (p0.fTracks.length:Int)) = true then some 2 else ((aM (ld p0) (0,0)).bind fun u8 => match u8 with | (.inl u45) => some u45.1 | (.inr u46) => some 0))))
def gZ (p0:TR) (p1:Int) (p2:Int) (p3:Int) (p4:Int) : Option Int :=
 ((lM p0).bind fun y2 => (if (y2 != 0) = true then some y2 else ((a7 p1 0 (w64 (p0.fPlaces - 1))).bind fun y5 => ((if (!y5) = true then (some (true)) else ((a7 p2 0 (w64 (p0.fPlaces - 1))).bind fun y21 => some ((!y21)))).bind fun b8 => ((if b8 = true then (some (true)) else ((ef p3).bind fun y19 => some ((!y19)))).bind fun b11 => ((if b11 = true then (some (true)) else ((a7 p4 0 60).bind fun y17 => some ((!y17)))).bind fun b14 => (if b14 = true then some 1 else some 0)))))))
def kM (p0:TT) (s3:(Int × Int)) : Option ((Int × Int) ⊕ (Int × Int)) :=
 (if decide (s3.2 < (p0.fK.length:Int)) = true then am ((0:Int) ≤ s3.2 ∧ s3.2 < (p0.fK.length:Int)) (((a7 s3.1 ((rdL p0.fK s3.2).fLo) ((rdL p0.fK s3.2).fHi)).bind fun y8 => (if y8 = true then some (.inl (w64 (((rdL p0.fK s3.2).fHi) + 1),w64 (s3.2 + 1))) else some (.inl (s3.1,w64 (s3.2 + 1)))))) else some (.inr (s3.1,s3.2)))
def jY (p0:TT) (p1:Int) : Option (Int × Bool) :=
 ((aM (kM p0) (p1,0)).bind fun u4 => ((ef u4.1).bind fun y12 => some (u4.1,y12)))
def eE (p0:(List Twait)) : Option Int :=
 some (p0.length:Int)
def dz (p0:(List Twait)) (p1:Int) (p2:Int) : Option Bool :=
 am ((0:Int) ≤ p1 ∧ p1 < (p0.length:Int)) (am ((0:Int) ≤ p2 ∧ p2 < (p0.length:Int)) (some (decide ((rdL p0 p1).f_at < (rdL p0 p2).f_at))))
def dA (p0:(List Twait)) (p1:Int) (p2:Int) : Option (List Twait) :=
 am ((0:Int) ≤ p2 ∧ p2 < (p0.length:Int)) (am ((0:Int) ≤ p1 ∧ p1 < (p0.length:Int)) (am ((0:Int) ≤ p1 ∧ p1 < (p0.length:Int)) (am ((0:Int) ≤ p2 ∧ p2 < (p0.length:Int)) (some ((p0.set (Int.toNat p1) (rdL p0 p2)).set (Int.toNat p2) (rdL p0 p1))))))
def fN (p2:Int) (s3:(Int × (List Twait))) : Option ((Int × (List Twait)) ⊕ (Int × (List Twait))) :=
 (if ((decide (p2 ≤ w64 ((w64 (2 * s3.1)) + 1))) || (decide (w64 ((w64 (2 * s3.1)) + 1) < 0))) = true then some (.inr (s3.1,s3.2)) else ((if decide (w64 ((w64 ((w64 (2 * s3.1)) + 1)) + 1) < p2) = true then ((dz s3.2 (w64 ((w64 ((w64 (2 * s3.1)) + 1)) + 1)) (w64 ((w64 (2 * s3.1)) + 1))).bind fun y23 => some (y23)) else (some (false))).bind fun b8 => (if b8 = true then ((dz s3.2 (w64 ((w64 ((w64 (2 * s3.1)) + 1)) + 1)) s3.1).bind fun y11 => (if (!y11) = true then some (.inr (s3.1,s3.2)) else ((dA s3.2 s3.1 (w64 ((w64 ((w64 (2 * s3.1)) + 1)) + 1))).bind fun y14 => some (.inl (w64 ((w64 ((w64 (2 * s3.1)) + 1)) + 1),y14))))) else ((dz s3.2 (w64 ((w64 (2 * s3.1)) + 1)) s3.1).bind fun y17 => (if (!y17) = true then some (.inr (s3.1,s3.2)) else ((dA s3.2 s3.1 (w64 ((w64 (2 * s3.1)) + 1))).bind fun y20 => some (.inl (w64 ((w64 (2 * s3.1)) + 1),y20))))))))
def eV (p0:(List Twait)) (p1:Int) (p2:Int) : Option (Bool × (List Twait)) :=
 ((aM (fN p2) (p1,p0)).bind fun u4 => some (decide (p1 < u4.1),u4.2))
def iE (p0:(List Twait)) : Option (Twait × (List Twait)) :=
 am ((0:Int) ≤ w64 ((p0.length:Int) - 1) ∧ w64 ((p0.length:Int) - 1) < (p0.length:Int)) (am ((0:Int) ≤ w64 ((p0.length:Int) - 1) ∧ w64 ((p0.length:Int) - 1) ≤ (p0.length:Int)) (some ((Twait.mk ((rdL p0 (w64 ((p0.length:Int) - 1))).f_at) (Ts.mk ((rdL p0 (w64 ((p0.length:Int) - 1))).f_stop.f_place) ((rdL p0 (w64 ((p0.length:Int) - 1))).f_stop.f_toll))),(p0.take (Int.toNat (w64 ((p0.length:Int) - 1)))))))
def fC (p0:(List Twait)) : Option (Twait × (List Twait)) :=
 ((eE p0).bind fun y1 => ((dA p0 0 (w64 (y1 - 1))).bind fun y3 => ((eV y3 0 (w64 (y1 - 1))).bind fun y6 => ((iE y6.2).bind fun y12 => some (y12.1,y12.2)))))
def gn (x:TR × Int) : Prop:=x.1.fTracks.length ≤ 1000
instance (x:TR × Int) : Decidable (gn x):=by unfold gn; infer_instance
def rZ (x:TR × Int) : List TT:=x.1.fTracks.filter fun z => z.fFrom == x.2
def kE (p0:TR) (p1:Int) : Option Unit :=
 some ()
def gE (s3:(Int × (List Twait))) : Option ((Int × (List Twait)) ⊕ (Int × (List Twait))) :=
 ((if ((w64 (Int.tdiv (w64 (s3.1 - 1)) 2)) == s3.1) = true then (some (true)) else ((dz s3.2 s3.1 (w64 (Int.tdiv (w64 (s3.1 - 1)) 2))).bind fun y12 => some ((!y12)))).bind fun b6 => (if b6 = true then some (.inr (s3.1,s3.2)) else ((dA s3.2 (w64 (Int.tdiv (w64 (s3.1 - 1)) 2)) s3.1).bind fun y9 => some (.inl (w64 (Int.tdiv (w64 (s3.1 - 1)) 2),y9)))))
def fQ (p0:(List Twait)) (p1:Int) : Option (List Twait) :=
 ((aM (gE) (p1,p0)).bind fun u4 => some u4.2)
def g6 (p0:(List Twait)) (p1:Twait) : Option (List Twait) :=
 am (p0.length + 1 ≤ 1000000000) (some (p0 ++ [p1]))
def eW (p0:(List Twait)) (p1:Twait) : Option (List Twait) :=
 ((g6 p0 p1).bind fun y1 => ((eE y1).bind fun y7 => ((fQ y1 (w64 (y7 - 1))).bind fun y9 => some y9)))
def ge (y15:(Twait × (List Twait))) (s39:((List (Ts × Tl)) × (List Twait))) (x40:TT) : Option (((List (Ts × Tl)) × (List Twait)) ⊕ Unit) :=
 ((jY x40 y15.1.f_at).bind fun y43 => ((if ((!y43.2) || (decide (60 < w64 (y15.1.f_stop.f_toll + x40.fToll)))) = true then (some (true)) else ((ef (w64 (y43.1 + x40.fLong))).bind fun y62 => some ((!y62)))).bind fun b48 => (if b48 = true then some (.inl (s39.1,s39.2)) else am (bl (Ts.mk x40.fTo (w64 (y15.1.f_stop.f_toll + x40.fToll))) = true) ((if ((bb s39.1 (Ts.mk x40.fTo (w64 (y15.1.f_stop.f_toll + x40.fToll)))) && (decide ((ar (Tl.mk 0 (Ts.mk 0 0) (TLeg.mk 0 0) false) s39.1 (Ts.mk x40.fTo (w64 (y15.1.f_stop.f_toll + x40.fToll)))).f_at ≤ w64 (y43.1 + x40.fLong)))) = true then some (.inl (s39.1,s39.2)) else am (bl (Ts.mk x40.fTo (w64 (y15.1.f_stop.f_toll + x40.fToll))) = true ∧ List.length s39.1 < 1000000000) (((eW s39.2 (Twait.mk (w64 (y43.1 + x40.fLong)) (Ts.mk x40.fTo (w64 (y15.1.f_stop.f_toll + x40.fToll))))).bind fun y56 => some (.inl ((((Ts.mk x40.fTo (w64 (y15.1.f_stop.f_toll + x40.fToll))),(Tl.mk (w64 (y43.1 + x40.fLong)) y15.1.f_stop (TLeg.mk x40.fID y43.1) false)) :: s39.1),y56)))))))))
def kk (p0:TR) (s10:((List Twait) × (List (Ts × Tl)))) : Option (((List Twait) × (List (Ts × Tl))) ⊕ ((List Twait) × (List (Ts × Tl)))) :=
 ((eE s10.1).bind fun y12 => (if decide (0 < y12) = true then ((fC s10.1).bind fun y15 => am (bl y15.1.f_stop = true) ((if decide ((ar (Tl.mk 0 (Ts.mk 0 0) (TLeg.mk 0 0) false) s10.2 y15.1.f_stop).f_at < y15.1.f_at) = true then some (.inl (y15.2,s10.2)) else ((kE p0 y15.1.f_stop.f_place).bind fun y24 => (am (gn (p0,y15.1.f_stop.f_place)) ((ia (ge y15) (rZ (p0,y15.1.f_stop.f_place)) (s10.2,y15.2)).bind fun u41 => match u41 with | .inl u68 => some (.inl (u68.2,u68.1)) | .inr _ => none)))))) else some (.inr (s10.1,s10.2))))
def i8 (p0:TR) (p1:Int) (p2:Int) : Option (List (Ts × Tl)) :=
 am (bl (Ts.mk p1 0) = true ∧ List.length ([]:(List (Ts × Tl))) < 1000000000) (((aM (kk p0) ([(Twait.mk p2 (Ts.mk p1 0))],(((Ts.mk p1 0),(Tl.mk p2 (Ts.mk 0 0) (TLeg.mk 0 0) true)) :: ([]:(List (Ts × Tl)))))).bind fun u11 => some u11.2))
def ji (p0:(List (Ts × Tl))) (p1:Int) (s5:(Int × Int × (List Int))) : Option ((Int × Int × (List Int)) ⊕ (Int × Int × (List Int))) :=
 (if decide (s5.2.1 < 61) = true then am (bl (Ts.mk p1 s5.2.1) = true) ((if ((bb p0 (Ts.mk p1 s5.2.1)) && ((decide (s5.1 < 0)) || (decide ((ar (Tl.mk 0 (Ts.mk 0 0) (TLeg.mk 0 0) false) p0 (Ts.mk p1 s5.2.1)).f_at < s5.1)))) = true then am ((0:Int) ≤ s5.2.1 ∧ s5.2.1 < 61) (some (.inl ((ar (Tl.mk 0 (Ts.mk 0 0) (TLeg.mk 0 0) false) p0 (Ts.mk p1 s5.2.1)).f_at,w64 (s5.2.1 + 1),(s5.2.2.set (Int.toNat s5.2.1) ((ar (Tl.mk 0 (Ts.mk 0 0) (TLeg.mk 0 0) false) p0 (Ts.mk p1 s5.2.1)).f_at))))) else am ((0:Int) ≤ s5.2.1 ∧ s5.2.1 < 61) (some (.inl (s5.1,w64 (s5.2.1 + 1),(s5.2.2.set (Int.toNat s5.2.1) s5.1)))))) else some (.inr (s5.1,s5.2.1,s5.2.2)))
def gL (p0:(List (Ts × Tl))) (p1:Int) : Option (List Int) :=
 ((aM (ji p0 p1) ((-1),0,(List.replicate 61 0))).bind fun u6 => some u6.2.2)
def eF (p0:(List TLeg)) (s3:(Int × Int × (List TLeg))) : Option ((Int × Int × (List TLeg)) ⊕ (Int × Int × (List TLeg))) :=
 (if decide (s3.1 < s3.2.1) = true then am ((0:Int) ≤ s3.2.1 ∧ s3.2.1 < (p0.length:Int)) (am ((0:Int) ≤ s3.1 ∧ s3.1 < (p0.length:Int)) (am ((0:Int) ≤ s3.1 ∧ s3.1 < (p0.length:Int)) (am ((0:Int) ≤ s3.2.1 ∧ s3.2.1 < (p0.length:Int)) (some (.inl (w64 (s3.1 + 1),w64 (s3.2.1 - 1),((s3.2.2.set (Int.toNat s3.1) (rdL s3.2.2 s3.2.1)).set (Int.toNat s3.2.1) (rdL s3.2.2 s3.1)))))))) else some (.inr (s3.1,s3.2.1,s3.2.2)))
def dU (p0:(List TLeg)) : Option (List TLeg) :=
 ((aM (eF p0) (0,w64 ((p0.length:Int) - 1),p0)).bind fun u4 => some u4.2.2)
def jJ (p0:(List (Ts × Tl))) (s9:(Tl × (List TLeg))) : Option ((Tl × (List TLeg)) ⊕ (Tl × (List TLeg))) :=
 (if (!s9.1.f_begin) = true then am (s9.2.length + 1 ≤ 1000000000) (am (bl s9.1.f_from = true) (some (.inl ((Tl.mk ((ar (Tl.mk 0 (Ts.mk 0 0) (TLeg.mk 0 0) false) p0 s9.1.f_from).f_at) (Ts.mk ((ar (Tl.mk 0 (Ts.mk 0 0) (TLeg.mk 0 0) false) p0 s9.1.f_from).f_from.f_place) ((ar (Tl.mk 0 (Ts.mk 0 0) (TLeg.mk 0 0) false) p0 s9.1.f_from).f_from.f_toll)) (TLeg.mk ((ar (Tl.mk 0 (Ts.mk 0 0) (TLeg.mk 0 0) false) p0 s9.1.f_from).f_leg.fTrack) ((ar (Tl.mk 0 (Ts.mk 0 0) (TLeg.mk 0 0) false) p0 s9.1.f_from).f_leg.fHour)) ((ar (Tl.mk 0 (Ts.mk 0 0) (TLeg.mk 0 0) false) p0 s9.1.f_from).f_begin)),(s9.2 ++ [s9.1.f_leg]))))) else some (.inr (s9.1,s9.2)))
def jr (p0:(List (Ts × Tl))) (p1:Ts) : Option TJ :=
 am (bl p1 = true) (am (bl p1 = true) (((aM (jJ p0) ((Tl.mk ((ar (Tl.mk 0 (Ts.mk 0 0) (TLeg.mk 0 0) false) p0 p1).f_at) (Ts.mk ((ar (Tl.mk 0 (Ts.mk 0 0) (TLeg.mk 0 0) false) p0 p1).f_from.f_place) ((ar (Tl.mk 0 (Ts.mk 0 0) (TLeg.mk 0 0) false) p0 p1).f_from.f_toll)) (TLeg.mk ((ar (Tl.mk 0 (Ts.mk 0 0) (TLeg.mk 0 0) false) p0 p1).f_leg.fTrack) ((ar (Tl.mk 0 (Ts.mk 0 0) (TLeg.mk 0 0) false) p0 p1).f_leg.fHour)) ((ar (Tl.mk 0 (Ts.mk 0 0) (TLeg.mk 0 0) false) p0 p1).f_begin)),([]:List TLeg))).bind fun u10 => ((dU u10.2).bind fun y19 => some (TJ.mk y19 ((ar (Tl.mk 0 (Ts.mk 0 0) (TLeg.mk 0 0) false) p0 p1).f_at) p1.f_toll)))))
def kQ (p2:Int) (y2:(List (Ts × Tl))) (y5:(List Int)) (s11:(Int × Int × (List TJ))) : Option ((Int × Int × (List TJ)) ⊕ (Int × Int × (List TJ))) :=
 (if decide (s11.2.1 < 61) = true then am ((0:Int) ≤ s11.2.1 ∧ s11.2.1 < 61) ((if ((rdL y5 s11.2.1) != s11.1) = true then ((jr y2 (Ts.mk p2 s11.2.1)).bind fun y16 => am (s11.2.2.length + 1 ≤ 1000000000) (some (.inl ((rdL y5 s11.2.1),w64 (s11.2.1 + 1),(s11.2.2 ++ [y16]))))) else some (.inl ((rdL y5 s11.2.1),w64 (s11.2.1 + 1),s11.2.2)))) else some (.inr (s11.1,s11.2.1,s11.2.2)))
def jU (p0:TR) (p1:Int) (p2:Int) (p3:Int) : Option (List TJ) :=
 ((i8 p0 p1 p3).bind fun y2 => ((gL y2 p2).bind fun y5 => ((aM (kQ p2 y2 y5) ((-1),0,([]:List TJ))).bind fun u12 => some u12.2.2)))
def l3 (p4:Int) (y4:(List TJ)) (s18:(Bool × Int × (List TLeg) × Int × Int)) : Option ((Bool × Int × (List TLeg) × Int × Int) ⊕ (Bool × Int × (List TLeg) × Int × Int)) :=
 (if decide (s18.2.1 < (y4.length:Int)) = true then am ((0:Int) ≤ s18.2.1 ∧ s18.2.1 < (y4.length:Int)) ((if decide ((rdL y4 s18.2.1).fToll ≤ p4) = true then some (.inl (true,w64 (s18.2.1 + 1),(rdL y4 s18.2.1).fLegs,(rdL y4 s18.2.1).fA,(rdL y4 s18.2.1).fToll)) else some (.inl (s18.1,w64 (s18.2.1 + 1),s18.2.2.1,s18.2.2.2.1,s18.2.2.2.2)))) else some (.inr (s18.1,s18.2.1,s18.2.2.1,s18.2.2.2.1,s18.2.2.2.2)))
def jw (p0:TR) (p1:Int) (p2:Int) (p3:Int) (p4:Int) : Option (TJ × Bool) :=
 ((jU p0 p1 p2 p3).bind fun y4 => ((aM (l3 p4 y4) (false,0,([]:(List TLeg)),0,0)).bind fun u19 => some ((TJ.mk u19.2.2.1 u19.2.2.2.1 u19.2.2.2.2),u19.1)))
def lB (p0:TR) (p1:Int) (p2:Int) (p3:Int) (p4:Int) : Option (TJ × Int) :=
 ((gZ p0 p1 p2 p3 p4).bind fun y3 => (if (y3 != 0) = true then some ((TJ.mk ([]:(List TLeg)) 0 0),y3) else ((jw p0 p1 p2 p3 p4).bind fun y6 => (if (!y6.2) = true then some ((TJ.mk ([]:(List TLeg)) 0 0),5) else some (y6.1,0)))))
def jb (p0:Int) (cap0:TR) (cap1:Int) (cap2:Int) (cap3:Int) (cap4:Int) : Option Bool :=
 ((jw cap0 cap1 cap2 p0 cap3).bind fun y1 => some (y1.2 && (decide (y1.1.fA ≤ cap4))))
def ki (p0:TR) (p1:Int) (p2:Int) (p3:Int) (p4:Int) (s10:(Int × Int)) : Option ((Int × Int) ⊕ (Int × Int)) :=
 (if decide (s10.1 ≤ s10.2) = true then ((jb (w64 (Int.tdiv (w64 (s10.1 + s10.2)) 2)) p0 p1 p2 p4 p3).bind fun y13 => (if y13 = true then some (.inl (w64 ((w64 (Int.tdiv (w64 (s10.1 + s10.2)) 2)) + 1),s10.2)) else some (.inl (s10.1,w64 ((w64 (Int.tdiv (w64 (s10.1 + s10.2)) 2)) - 1))))) else some (.inr (s10.1,s10.2)))
def kF (p0:TR) (p1:Int) (p2:Int) (p3:Int) (p4:Int) : Option (Int × Int) :=
 ((gZ p0 p1 p2 p3 p4).bind fun y6 => (if (y6 != 0) = true then some (0,y6) else ((aM (ki p0 p1 p2 p3 p4) (0,p3)).bind fun u11 => (if decide (u11.2 < 0) = true then some (0,5) else some (u11.2,0)))))
def de (p0:(List TT)) (p1:Int) (p2:Int) : Option (List TT) :=
 am ((0:Int) ≤ p1 ∧ p1 ≤ p2 ∧ p2 ≤ (p0.length:Int) ∧ (p0.length:Int) ≤ (p0.length:Int)) ((if (p1 == p2) = true then some p0 else am ((0:Int) ≤ p1 ∧ p1 ≤ (p0.length:Int)) (am ((0:Int) ≤ p2 ∧ p2 ≤ (p0.length:Int)) (am (p1 ≤ p2) (some (p0.take (Int.toNat p1) ++ p0.drop (Int.toNat p2)))))))
def bI (p0:(List TT)) : Option (List TT) :=
 am (0 + p0.length ≤ 1000000000) (some (([]:List TT) ++ p0))
def cY (p0:Int) : Option Bool :=
 some (p0 != p0)
def gq (p0:Int) (p1:Int) : Option Bool :=
 ((cY p0).bind fun y1 => ((if y1 = true then ((cY p1).bind fun y7 => some ((!y7))) else (some (false))).bind fun b4 => some (b4 || (decide (p0 < p1)))))
def aQ (p0:(List Int)) (p1:Int) (s8:(Int × (List Int))) : Option ((Int × (List Int)) ⊕ (Int × (List Int))) :=
 ((if decide (p1 < s8.1) = true then (am ((0:Int) ≤ s8.1 ∧ s8.1 < (p0.length:Int)) (am ((0:Int) ≤ w64 (s8.1 - 1) ∧ w64 (s8.1 - 1) < (p0.length:Int)) (((gq (rdL s8.2 s8.1) (rdL s8.2 (w64 (s8.1 - 1)))).bind fun y21 => some (y21))))) else (some (false))).bind fun b11 => (if b11 = true then am ((0:Int) ≤ w64 (s8.1 - 1) ∧ w64 (s8.1 - 1) < (p0.length:Int)) (am ((0:Int) ≤ s8.1 ∧ s8.1 < (p0.length:Int)) (am ((0:Int) ≤ s8.1 ∧ s8.1 < (p0.length:Int)) (am ((0:Int) ≤ w64 (s8.1 - 1) ∧ w64 (s8.1 - 1) < (p0.length:Int)) (some (.inl (w64 (s8.1 - 1),((s8.2.set (Int.toNat s8.1) (rdL s8.2 (w64 (s8.1 - 1)))).set (Int.toNat (w64 (s8.1 - 1))) (rdL s8.2 s8.1)))))))) else some (.inr (s8.1,s8.2))))
def aD (p0:(List Int)) (p1:Int) (p2:Int) (s3:(Int × (List Int))) : Option ((Int × (List Int)) ⊕ (Int × (List Int))) :=
 (if decide (s3.1 < p2) = true then ((aM (aQ p0 p1) (s3.1,s3.2)).bind fun u9 => some (.inl (w64 (s3.1 + 1),u9.2))) else some (.inr (s3.1,s3.2)))
def bd (p0:(List Int)) (p1:Int) (p2:Int) : Option (List Int) :=
 ((aM (aD p0 p1 p2) (w64 (p1 + 1),p0)).bind fun u4 => some u4.2)
def lenv (x:Int) : Int:=if x < 1 then 0 else if x < 2 then 1 else if x < 4 then 2 else if x < 8 then 3 else 4
def fz (p0:Int) : Option Int:=am (0 ≤ p0 ∧ p0 < 16) (some (w64 (0 + lenv p0)))
def gP (p0:Int) : Option Int :=
 ((fz p0).bind fun y1 => some y1)
def bN (s3:(Int × Int × Int × Bool × Bool × (List Int))) : Option ((Int × Int × Int × Bool × Bool × (List Int)) ⊕ (Int × Int × Int × Bool × Bool × (List Int))) :=
 am (decide (w64 (s3.2.1 - s3.1) ≤ 12) = true) (((bd s3.2.2.2.2.2 s3.1 s3.2.1).bind fun y6 => some (.inr (s3.1,s3.2.1,s3.2.2.1,s3.2.2.2.1,s3.2.2.2.2.1,y6))))
def ci (p0:(List Int)) (p1:Int) (p2:Int) (p3:Int) : Option (List Int) :=
 ((aM (bN) (p1,p2,p3,true,true,p0)).bind fun u4 => some u4.2.2.2.2.2)
def cE (p0:(List Int)) : Option (List Int):=am (p0.length ≤ 12) (some (mG p0))
def kj (p0:TR) (p1:Int) (p2:Int) (p3:Int) (p4:Int) (y2:(TJ × Int)) (s16:(Int × (List Int))) : Option ((Int × (List Int)) ⊕ (Int × (List Int))) :=
 (if decide (s16.1 < (p0.fTracks.length:Int)) = true then am ((0:Int) ≤ s16.1 ∧ s16.1 < (p0.fTracks.length:Int)) (((bI p0.fTracks).bind fun y22 => ((de y22 s16.1 (w64 (s16.1 + 1))).bind fun y31 => ((jw (TR.mk p0.fPlaces y31) p1 p2 p3 p4).bind fun y40 => (if ((!y40.2) || (y40.1.fA != y2.1.fA)) = true then am (s16.2.length + 1 ≤ 1000000000) (some (.inl (w64 (s16.1 + 1),(s16.2 ++ [(rdL p0.fTracks s16.1).fID])))) else some (.inl (w64 (s16.1 + 1),s16.2))))))) else some (.inr (s16.1,s16.2)))
def ja (p0:TR) (p1:Int) (p2:Int) (p3:Int) (p4:Int) : Option ((List Int) × Int) :=
 ((lB p0 p1 p2 p3 p4).bind fun y2 => (if (y2.2 != 0) = true then some ([],y2.2) else ((aM (kj p0 p1 p2 p3 p4 y2) (0,([]:List Int))).bind fun u17 => ((cE u17.2).bind fun y58 => some (y58,0)))))
def iI (p0:(List Int)) (p1:(List Int)) (s3:(Bool × Int)) : Option ((Bool × Int) ⊕ ((Bool × Int) ⊕ (Bool × Int))) :=
 (if decide (s3.2 < (p0.length:Int)) = true then am ((0:Int) ≤ s3.2 ∧ s3.2 < (p0.length:Int)) (am ((0:Int) ≤ s3.2 ∧ s3.2 < (p1.length:Int)) ((if ((rdL p0 s3.2) != (rdL p1 s3.2)) = true then some (.inr (.inl (false,s3.2))) else some (.inl (s3.1,w64 (s3.2 + 1)))))) else some (.inr (.inr (s3.1,s3.2))))
def dg (p0:(List Int)) (p1:(List Int)) : Option Bool :=
 (if ((p0.length:Int) != (p1.length:Int)) = true then some false else ((aM (iI p0 p1) (false,0)).bind fun u4 => match u4 with | (.inl u10) => some u10.1 | (.inr u11) => some true))
def aX (p0:(List TO)) (p1:TO → Option Bool) (s2:(Int × Int)) : Option ((Int × Int) ⊕ ((Int × Int) ⊕ (Int × Int))) :=
 (if decide (s2.2 < (p0.length:Int)) = true then am ((0:Int) ≤ s2.2 ∧ s2.2 < (p0.length:Int)) (((p1 (TO.mk ((rdL p0 s2.2).fID) (TSpan.mk ((rdL p0 s2.2).fH.fLo) ((rdL p0 s2.2).fH.fHi)) ((rdL p0 s2.2).fD) ((rdL p0 s2.2).fW))).bind fun y6 => (if y6 = true then some (.inr (.inl (s2.2,s2.2))) else some (.inl (s2.1,w64 (s2.2 + 1)))))) else some (.inr (.inr (s2.1,s2.2))))
def bt (p0:(List TO)) (p1:TO → Option Bool) : Option Int :=
 ((aM (aX p0 p1) (0,0)).bind fun u3 => match u3 with | (.inl u10) => some u10.1 | (.inr u11) => some (-1))
def ck (p0:(List TO)) (p1:TO → Option Bool) : Option Int :=
 ((bt p0 p1).bind fun y1 => some y1)
def gw (p0:TO) (cap0:Int) : Option Bool :=
 some (p0.fID == cap0)
def gb (p0:TY) (p1:Int) : Option Int :=
 ((ck p0.fR (fun x3 => gw x3 p1)).bind fun y4 => some y4)
def be (p0:(List TBay)) (p1:TBay → Option Bool) (s2:(Int × Int)) : Option ((Int × Int) ⊕ ((Int × Int) ⊕ (Int × Int))) :=
 (if decide (s2.2 < (p0.length:Int)) = true then am ((0:Int) ≤ s2.2 ∧ s2.2 < (p0.length:Int)) (((p1 (TBay.mk ((rdL p0 s2.2).fID) ((rdL p0 s2.2).fHour) ((rdL p0 s2.2).fD))).bind fun y6 => (if y6 = true then some (.inr (.inl (s2.2,s2.2))) else some (.inl (s2.1,w64 (s2.2 + 1)))))) else some (.inr (.inr (s2.1,s2.2))))
def bH (p0:(List TBay)) (p1:TBay → Option Bool) : Option Int :=
 ((aM (be p0 p1) (0,0)).bind fun u3 => match u3 with | (.inl u10) => some u10.1 | (.inr u11) => some (-1))
def cy (p0:(List TBay)) (p1:TBay → Option Bool) : Option Int :=
 ((bH p0 p1).bind fun y1 => some y1)
def iR (p0:TBay) (cap0:Int) : Option Bool :=
 some (p0.fID == cap0)
def iq (p0:TY) (p1:Int) : Option Int :=
 ((cy p0.fB (fun x3 => iR x3 p1)).bind fun y4 => some y4)
def dv (p0:TY) (s5:(Int × Int)) : Option ((Int × Int) ⊕ ((Int × Int) ⊕ (Int × Int))) :=
 (if decide (s5.2 < (p0.fB.length:Int)) = true then am ((0:Int) ≤ s5.2 ∧ s5.2 < (p0.fB.length:Int)) (((a7 ((rdL p0.fB s5.2).fID) 1 1099511627776).bind fun y10 => ((if (!y10) = true then (some (true)) else ((ef ((rdL p0.fB s5.2).fHour)).bind fun y24 => some ((!y24)))).bind fun b13 => ((if b13 = true then (some (true)) else ((a7 ((rdL p0.fB s5.2).fD) 0 9).bind fun y22 => some ((!y22)))).bind fun b16 => (if b16 = true then some (.inr (.inl (1,s5.2))) else ((iq p0 ((rdL p0.fB s5.2).fID)).bind fun y19 => (if decide (y19 < s5.2) = true then some (.inr (.inl (6,s5.2))) else some (.inl (s5.1,w64 (s5.2 + 1)))))))))) else some (.inr (.inr (s5.1,s5.2))))
def dB (p0:TY) (s30:(Int × Int)) : Option ((Int × Int) ⊕ ((Int × Int) ⊕ (Int × Int))) :=
 (if decide (s30.2 < (p0.fR.length:Int)) = true then am ((0:Int) ≤ s30.2 ∧ s30.2 < (p0.fR.length:Int)) (((a7 ((rdL p0.fR s30.2).fID) 1 1099511627776).bind fun y35 => ((if (!y35) = true then (some (true)) else ((ef ((rdL p0.fR s30.2).fH.fLo)).bind fun y60 => some ((!y60)))).bind fun b38 => ((if b38 = true then (some (true)) else ((ef ((rdL p0.fR s30.2).fH.fHi)).bind fun y58 => some ((!y58)))).bind fun b41 => ((if (b41 || (decide ((rdL p0.fR s30.2).fH.fHi < (rdL p0.fR s30.2).fH.fLo))) = true then (some (true)) else ((a7 ((rdL p0.fR s30.2).fD) 0 9).bind fun y56 => some ((!y56)))).bind fun b45 => ((if b45 = true then (some (true)) else ((a7 ((rdL p0.fR s30.2).fW) 1 1000).bind fun y54 => some ((!y54)))).bind fun b48 => (if b48 = true then some (.inr (.inl (1,s30.2))) else ((gb p0 ((rdL p0.fR s30.2).fID)).bind fun y51 => (if decide (y51 < s30.2) = true then some (.inr (.inl (6,s30.2))) else some (.inl (s30.1,w64 (s30.2 + 1)))))))))))) else some (.inr (.inr (s30.1,s30.2))))
def bF (p0:TY) : Option Int :=
 (if ((decide (24 < (p0.fB.length:Int))) || (decide (24 < (p0.fR.length:Int)))) = true then some 2 else ((aM (dv p0) (0,0)).bind fun u6 => match u6 with | (.inl u27) => some u27.1 | (.inr u28) => ((aM (dB p0) (u28.1,0)).bind fun u31 => match u31 with | (.inl u63) => some u63.1 | (.inr u64) => some 0)))
def f9 (p0:TO) (p1:TBay) : Option Bool :=
 ((a7 p1.fHour p0.fH.fLo p0.fH.fHi).bind fun y3 => some (y3 && (decide (p0.fD ≤ p1.fD))))
def bV (p0:Int) (cap0:TY) (rec_:Int → TY → (List (Int × Bool)) → (List (Int × Int)) → Option (Bool × (List (Int × Bool)) × (List (Int × Int)))) (s3:(Bool × Int × (List (Int × Bool)) × (List (Int × Int)))) : Option ((Bool × Int × (List (Int × Bool)) × (List (Int × Int))) ⊕ ((Bool × Int × (List (Int × Bool)) × (List (Int × Int))) ⊕ (Bool × Int × (List (Int × Bool)) × (List (Int × Int))))) :=
 (if decide (s3.2.1 < (cap0.fB.length:Int)) = true then am ((0:Int) ≤ s3.2.1 ∧ s3.2.1 < (cap0.fB.length:Int)) (am (cO s3.2.1 = true) (((if ar false s3.2.2.1 s3.2.1 = true then (some (true)) else (am ((0:Int) ≤ p0 ∧ p0 < (cap0.fR.length:Int)) (((f9 (TO.mk ((rdL cap0.fR p0).fID) (TSpan.mk ((rdL cap0.fR p0).fH.fLo) ((rdL cap0.fR p0).fH.fHi)) ((rdL cap0.fR p0).fD) ((rdL cap0.fR p0).fW)) (TBay.mk ((rdL cap0.fB s3.2.1).fID) ((rdL cap0.fB s3.2.1).fHour) ((rdL cap0.fB s3.2.1).fD))).bind fun y22 => some ((!y22)))))).bind fun b10 => (if b10 = true then some (.inl (s3.1,w64 (s3.2.1 + 1),s3.2.2.1,s3.2.2.2)) else am (cO s3.2.1 = true ∧ List.length s3.2.2.1 < 1000000000) (am (cO s3.2.1 = true) ((if (!(bb s3.2.2.2 s3.2.1)) = true then (am (cO s3.2.1 = true ∧ List.length s3.2.2.2 < 1000000000) (some (.inr (.inl (true,s3.2.1,((s3.2.1,true) :: s3.2.2.1),((s3.2.1,p0) :: s3.2.2.2)))))) else ((rec_ (ar 0 s3.2.2.2 s3.2.1) cap0 ((s3.2.1,true) :: s3.2.2.1) s3.2.2.2).bind fun y17 => (if y17.1 = true then am (cO s3.2.1 = true ∧ List.length y17.2.2 < 1000000000) (some (.inr (.inl (true,s3.2.1,y17.2.1,((s3.2.1,p0) :: y17.2.2))))) else some (.inl (s3.1,w64 (s3.2.1 + 1),y17.2.1,y17.2.2))))))))))) else some (.inr (.inr (s3.1,s3.2.1,s3.2.2.1,s3.2.2.2))))
def dL (rec_:Int → TY → (List (Int × Bool)) → (List (Int × Int)) → Option (Bool × (List (Int × Bool)) × (List (Int × Int)))) (p0:Int) (cap0:TY) (cap1:(List (Int × Bool))) (cap2:(List (Int × Int))) : Option (Bool × (List (Int × Bool)) × (List (Int × Int))) :=
 ((aM (bV p0 cap0 rec_) (false,0,cap1,cap2)).bind fun u4 => match u4 with | (.inl u25) => some (u25.1,u25.2.2.1,u25.2.2.2) | (.inr u26) => some (false,u26.2.2.1,u26.2.2.2))
def bp : Nat → Int → TY → (List (Int × Bool)) → (List (Int × Int)) → Option (Bool × (List (Int × Bool)) × (List (Int × Int)))
 | 0 => fun _ _ _ _ => none
 | fuel + 1 => dL (bp fuel)
def bT (p0:(List (Int × Int))) (p1:TY) (p2:Int) : Option (Bool × (List (Int × Int))) :=
 ((bp (p1.fB.length + 2) p2 p1 [] p0).bind fun y6 => some (y6.1,y6.2.2))
def aR (p0:(List Int)) (p1:Int) (p3:Int → Int → Option Int) (s8:(Int × (List Int))) : Option ((Int × (List Int)) ⊕ (Int × (List Int))) :=
 ((if decide (p1 < s8.1) = true then (am ((0:Int) ≤ s8.1 ∧ s8.1 < (p0.length:Int)) (am ((0:Int) ≤ w64 (s8.1 - 1) ∧ w64 (s8.1 - 1) < (p0.length:Int)) (((p3 (rdL s8.2 s8.1) (rdL s8.2 (w64 (s8.1 - 1)))).bind fun y21 => some (decide (y21 < 0)))))) else (some (false))).bind fun b11 => (if b11 = true then am ((0:Int) ≤ w64 (s8.1 - 1) ∧ w64 (s8.1 - 1) < (p0.length:Int)) (am ((0:Int) ≤ s8.1 ∧ s8.1 < (p0.length:Int)) (am ((0:Int) ≤ s8.1 ∧ s8.1 < (p0.length:Int)) (am ((0:Int) ≤ w64 (s8.1 - 1) ∧ w64 (s8.1 - 1) < (p0.length:Int)) (some (.inl (w64 (s8.1 - 1),((s8.2.set (Int.toNat s8.1) (rdL s8.2 (w64 (s8.1 - 1)))).set (Int.toNat (w64 (s8.1 - 1))) (rdL s8.2 s8.1)))))))) else some (.inr (s8.1,s8.2))))
def aC (p0:(List Int)) (p1:Int) (p2:Int) (p3:Int → Int → Option Int) (s3:(Int × (List Int))) : Option ((Int × (List Int)) ⊕ (Int × (List Int))) :=
 (if decide (s3.1 < p2) = true then ((aM (aR p0 p1 p3) (s3.1,s3.2)).bind fun u9 => some (.inl (w64 (s3.1 + 1),u9.2))) else some (.inr (s3.1,s3.2)))
def bc (p0:(List Int)) (p1:Int) (p2:Int) (p3:Int → Int → Option Int) : Option (List Int) :=
 ((aM (aC p0 p1 p2 p3) (w64 (p1 + 1),p0)).bind fun u4 => some u4.2)
def bR (p1:Int) (s2:(Int × Int)) : Option ((Int × Int) ⊕ (Int × Int)) :=
 am (decide (s2.2 ≤ p1) = false) (some (.inr (s2.1,s2.2)))
def bQ (p1:Int) (s10:(Int × Int × Int)) : Option ((Int × Int × Int) ⊕ (Int × Int × Int)) :=
 am (decide (s10.1 < p1) = false) (some (.inr (s10.1,s10.2.1,s10.2.2)))
def co (p0:(List Int)) (p1:Int) (p2:Int → Int → Option Int) : Option (List Int) :=
 ((aM (bR p1) (0,20)).bind fun u3 => ((bc p0 u3.1 p1 p2).bind fun y6 => ((aM (bQ p1) (20,u3.1,u3.2)).bind fun u11 => some y6)))
def bm (p0:(List Int)) (p1:Int → Int → Option Int) : Option (List Int) :=
 ((co p0 (p0.length:Int) p1).bind fun y1 => some y1)
def ec (p0:Int) (p1:Int) : Option Int :=
 ((cY p0).bind fun y1 => ((cY p1).bind fun y3 => (if y1 = true then (if y3 = true then some 0 else some (-1)) else (if y3 = true then some 1 else (if decide (p0 < p1) = true then some (-1) else (if decide (p1 < p0) = true then some 1 else some 0))))))
def ff (p0:Int) (p1:Int) (cap0:TY) : Option Int :=
 am ((0:Int) ≤ p1 ∧ p1 < (cap0.fR.length:Int)) (am ((0:Int) ≤ p0 ∧ p0 < (cap0.fR.length:Int)) (((ec ((rdL cap0.fR p1).fW) ((rdL cap0.fR p0).fW)).bind fun y3 => some y3)))
def em (p0:TY) (s4:(Int × (List Int))) : Option ((Int × (List Int)) ⊕ (Int × (List Int))) :=
 (if decide (s4.1 < (p0.fR.length:Int)) = true then am (s4.2.length + 1 ≤ 1000000000) (some (.inl (w64 (s4.1 + 1),(s4.2 ++ [s4.1])))) else some (.inr (s4.1,s4.2)))
def dK (p0:TY) (u5:(Int × (List Int))) (y14:(List Int)) (s20:(Int × (List (Int × Int)))) : Option ((Int × (List (Int × Int))) ⊕ (Int × (List (Int × Int)))) :=
 (if decide (s20.1 < (u5.2.length:Int)) = true then am ((0:Int) ≤ s20.1 ∧ s20.1 < (u5.2.length:Int)) (((bT s20.2 p0 (rdL y14 s20.1)).bind fun y24 => some (.inl (w64 (s20.1 + 1),y24.2)))) else some (.inr (s20.1,s20.2)))
def gW (p0:TY) : Option (List (Int × Int)) :=
 ((aM (em p0) (0,([]:List Int))).bind fun u5 => ((bm u5.2 (fun x12 x13 => ff x12 x13 p0)).bind fun y14 => ((aM (dK p0 u5 y14) (0,[])).bind fun u21 => some u21.2)))
def cV (p0:(List (Int × Int))) (p1:TY) : Option Int :=
 am ((d4 p0).all (fun y5 => cO y5 && decide (((0:Int) ≤ ar 0 p0 y5 ∧ ar 0 p0 y5 < (p1.fR.length:Int)))) = true) (some ((d4 p0).foldl (fun a y5 => w64 (a + ((rdL p1.fR (ar 0 p0 y5)).fW))) 0))
def cU (p0:TY) : Option Int :=
 ((gW p0).bind fun y2 => ((cV y2 p0).bind fun y5 => some y5))
def iU (p0__:TO) (p1:Int → Option Int) (cap0:Int) : Option Bool :=
 ((p1 0).bind fun y2 => some (decide (y2 < cap0)))
def jM (p0:TO) (p1:Int → Option Int) (cap0:Int) : Option Bool :=
 ((p1 (w64 (p0.fW + 1))).bind fun y2 => some (y2 == cap0))
def bK (p0:(List TO)) : Option (List TO) :=
 am (0 + p0.length ≤ 1000000000) (some (([]:List TO) ++ p0))
def fe (p0:Int) (cap0:TY) (cap1:Int) : Option Int :=
 ((bK cap0.fR).bind fun y2 => am ((0:Int) ≤ cap1 ∧ cap1 < (y2.length:Int)) (((cU (TY.mk cap0.fB (y2.set (Int.toNat cap1) (TO.mk ((rdL y2 cap1).fID) (TSpan.mk ((rdL y2 cap1).fH.fLo) ((rdL y2 cap1).fH.fHi)) ((rdL y2 cap1).fD) p0)))).bind fun y10 => some y10)))
def gl (p0:TY) (cap0:Int) (s4:(Int × (List Int))) : Option ((Int × (List Int)) ⊕ (Int × (List Int))) :=
 (if decide (s4.1 < (p0.fR.length:Int)) = true then am ((0:Int) ≤ s4.1 ∧ s4.1 < (p0.fR.length:Int)) (((iU (TO.mk ((rdL p0.fR s4.1).fID) (TSpan.mk ((rdL p0.fR s4.1).fH.fLo) ((rdL p0.fR s4.1).fH.fHi)) ((rdL p0.fR s4.1).fD) ((rdL p0.fR s4.1).fW)) (fun x10 => fe x10 p0 s4.1) cap0).bind fun y11 => (if y11 = true then am (s4.2.length + 1 ≤ 1000000000) (some (.inl (w64 (s4.1 + 1),(s4.2 ++ [(rdL p0.fR s4.1).fID])))) else some (.inl (w64 (s4.1 + 1),s4.2))))) else some (.inr (s4.1,s4.2)))
def fx (p0:TY) (cap0:Int) : Option (List Int) :=
 ((aM (gl p0 cap0) (0,([]:List Int))).bind fun u5 => ((cE u5.2).bind fun y19 => some y19))
def gD (p0:TY) (cap0:Int) (s4:(Int × (List Int))) : Option ((Int × (List Int)) ⊕ (Int × (List Int))) :=
 (if decide (s4.1 < (p0.fR.length:Int)) = true then am ((0:Int) ≤ s4.1 ∧ s4.1 < (p0.fR.length:Int)) (((jM (TO.mk ((rdL p0.fR s4.1).fID) (TSpan.mk ((rdL p0.fR s4.1).fH.fLo) ((rdL p0.fR s4.1).fH.fHi)) ((rdL p0.fR s4.1).fD) ((rdL p0.fR s4.1).fW)) (fun x10 => fe x10 p0 s4.1) cap0).bind fun y11 => (if y11 = true then am (s4.2.length + 1 ≤ 1000000000) (some (.inl (w64 (s4.1 + 1),(s4.2 ++ [(rdL p0.fR s4.1).fID])))) else some (.inl (w64 (s4.1 + 1),s4.2))))) else some (.inr (s4.1,s4.2)))
def fO (p0:TY) (cap0:Int) : Option (List Int) :=
 ((aM (gD p0 cap0) (0,([]:List Int))).bind fun u5 => ((cE u5.2).bind fun y19 => some y19))
def kA (p0:TY) : Option ((List Int) × Int) :=
 ((bF p0).bind fun y2 => (if (y2 != 0) = true then some ([],y2) else ((cU p0).bind fun y5 => ((fx p0 y5).bind fun y8 => some (y8,0)))))
def lJ (p0:TY) : Option ((List Int) × Int) :=
 ((bF p0).bind fun y2 => (if (y2 != 0) = true then some ([],y2) else ((cU p0).bind fun y5 => ((fO p0 y5).bind fun y8 => some (y8,0)))))
def lK (p0:Int) (cap0:(List (Int × Int))) (cap1:TY) : Option (Bool × (List (Int × Int))) :=
 ((gb cap1 p0).bind fun y1 => ((bT cap0 cap1 y1).bind fun y3 => some ((!y3.1),y3.2)))
def dj (p0:(List Int)) (cap1:TY) (s3:(Int × Int × (List (Int × Int)))) : Option ((Int × Int × (List (Int × Int))) ⊕ ((Int × Int × (List (Int × Int))) ⊕ (Int × Int × (List (Int × Int))))) :=
 (if decide (s3.2.1 < (p0.length:Int)) = true then am ((0:Int) ≤ s3.2.1 ∧ s3.2.1 < (p0.length:Int)) (((lK (rdL p0 s3.2.1) s3.2.2 cap1).bind fun y7 => (if y7.1 = true then some (.inr (.inl (s3.2.1,s3.2.1,y7.2))) else some (.inl (s3.1,w64 (s3.2.1 + 1),y7.2))))) else some (.inr (.inr (s3.1,s3.2.1,s3.2.2))))
def ct (p0:(List Int)) (cap0:(List (Int × Int))) (cap1:TY) : Option (Int × (List (Int × Int))) :=
 ((aM (dj p0 cap1) (0,0,cap0)).bind fun u4 => match u4 with | (.inl u11) => some (u11.1,u11.2.2) | (.inr u12) => some ((-1),u12.2.2))
def bf (p0:(List Int)) (p1:Int → Option Bool) (s2:(Int × Int)) : Option ((Int × Int) ⊕ ((Int × Int) ⊕ (Int × Int))) :=
 (if decide (s2.2 < (p0.length:Int)) = true then am ((0:Int) ≤ s2.2 ∧ s2.2 < (p0.length:Int)) (((p1 (rdL p0 s2.2)).bind fun y6 => (if y6 = true then some (.inr (.inl (s2.2,s2.2))) else some (.inl (s2.1,w64 (s2.2 + 1)))))) else some (.inr (.inr (s2.1,s2.2))))
def bw (p0:(List Int)) (p1:Int → Option Bool) : Option Int :=
 ((aM (bf p0 p1) (0,0)).bind fun u3 => match u3 with | (.inl u10) => some u10.1 | (.inr u11) => some (-1))
def eR (p0:(List Int)) (cap0:(List (Int × Int))) (cap1:TY) : Option (Int × (List (Int × Int))) :=
 ((ct p0 cap0 cap1).bind fun y1 => some (y1.1,y1.2))
def eH (p0:(List Int)) (p1:Int → Option Bool) : Option Int :=
 ((bw p0 p1).bind fun y1 => some y1)
def mB (p0:TY) (p1:(List Int)) : Option Bool :=
 ((eR p1 [] p0).bind fun y4 => some (decide (y4.1 < 0)))
def cw (p0:(List Int)) : Option (List Int) :=
 am (0 + p0.length ≤ 1000000000) (some (([]:List Int) ++ p0))
def d3 (p0:(List Int)) (p1:Int → Option Bool) (s6:(Int × Int × (List Int))) : Option ((Int × Int × (List Int)) ⊕ (Int × Int × (List Int))) :=
 (if decide (s6.2.1 < (p0.length:Int)) = true then am ((0:Int) ≤ s6.2.1 ∧ s6.2.1 < (p0.length:Int)) (((p1 (rdL s6.2.2 s6.2.1)).bind fun y10 => (if (!y10) = true then am ((0:Int) ≤ s6.1 ∧ s6.1 < (p0.length:Int)) (some (.inl (w64 (s6.1 + 1),w64 (s6.2.1 + 1),(s6.2.2.set (Int.toNat s6.1) (rdL s6.2.2 s6.2.1))))) else some (.inl (s6.1,w64 (s6.2.1 + 1),s6.2.2))))) else some (.inr (s6.1,s6.2.1,s6.2.2)))
def df (p0:(List Int)) (p1:Int → Option Bool) : Option (List Int) :=
 ((bw p0 p1).bind fun y1 => (if (y1 == (-1)) = true then some p0 else ((aM (d3 p0 p1) (y1,w64 (y1 + 1),p0)).bind fun u7 => am ((0:Int) ≤ u7.1 ∧ u7.1 ≤ (p0.length:Int)) (am ((0:Int) ≤ u7.1 ∧ u7.1 ≤ (p0.length:Int)) (some (u7.2.2.take (Int.toNat u7.1)))))))
def gh (p0:Int) (cap0:Int) : Option Bool :=
 some (p0 == cap0)
def ju (p0:TY) (p1:(List Int)) (s6:(Int × Int)) : Option ((Int × Int) ⊕ ((Int × Int) ⊕ (Int × Int))) :=
 (if decide (s6.2 < (p1.length:Int)) = true then am ((0:Int) ≤ s6.2 ∧ s6.2 < (p1.length:Int)) (((gb p0 (rdL p1 s6.2)).bind fun y10 => ((if decide (y10 < 0) = true then (some (true)) else ((if decide (0 < s6.2) = true then (am ((0:Int) ≤ w64 (s6.2 - 1) ∧ w64 (s6.2 - 1) < (p1.length:Int)) (some (decide ((rdL p1 s6.2) ≤ (rdL p1 (w64 (s6.2 - 1))))))) else (some (false))).bind fun b17 => some (b17))).bind fun b13 => (if b13 = true then some (.inr (.inl (1,s6.2))) else some (.inl (s6.1,w64 (s6.2 + 1))))))) else some (.inr (.inr (s6.1,s6.2))))
def jG (p0:TY) (p1:(List Int)) (s34:(Int × (List Int))) : Option ((Int × (List Int)) ⊕ (Int × (List Int))) :=
 (if decide (s34.1 < (p1.length:Int)) = true then am ((0:Int) ≤ s34.1 ∧ s34.1 < (p1.length:Int)) (((cw s34.2).bind fun y39 => ((df y39 (fun x45 => gh x45 (rdL p1 s34.1))).bind fun y46 => ((mB p0 y46).bind fun y50 => (if (!y50) = true then some (.inl (w64 (s34.1 + 1),y46)) else some (.inl (w64 (s34.1 + 1),s34.2))))))) else some (.inr (s34.1,s34.2)))
def jI (p0:TY) (p1:(List Int)) : Option ((List Int) × Int) :=
 ((bF p0).bind fun y2 => (if (y2 != 0) = true then some ([],y2) else ((aM (ju p0 p1) (0,0)).bind fun u7 => match u7 with | (.inl u21) => some (([]:List Int),u21.1) | (.inr u22) => ((mB p0 p1).bind fun y23 => (if y23 = true then some ([],5) else ((cw p1).bind fun y26 => ((aM (jG p0 p1) (0,y26)).bind fun u35 => some (u35.2,0))))))))
def cZ (p0:(List TBay)) (p1:Int) (p2:Int) : Option (List TBay) :=
 am ((0:Int) ≤ p1 ∧ p1 ≤ p2 ∧ p2 ≤ (p0.length:Int) ∧ (p0.length:Int) ≤ (p0.length:Int)) ((if (p1 == p2) = true then some p0 else am ((0:Int) ≤ p1 ∧ p1 ≤ (p0.length:Int)) (am ((0:Int) ≤ p2 ∧ p2 ≤ (p0.length:Int)) (am (p1 ≤ p2) (some (p0.take (Int.toNat p1) ++ p0.drop (Int.toNat p2)))))))
def dm (p0:(List TBay)) : Option (List TBay) :=
 am (0 + p0.length ≤ 1000000000) (some (([]:List TBay) ++ p0))
def fg (p0:TY) (p1:Int) : Option TY :=
 ((dm p0.fB).bind fun y4 => ((cZ y4 p1 (w64 (p1 + 1))).bind fun y10 => some (TY.mk y10 p0.fR)))
def np (p0:TY) (p1:Int) : Option (Int × Int) :=
 ((bF p0).bind fun y2 => (if (y2 != 0) = true then some (0,y2) else ((iq p0 p1).bind fun y5 => (if decide (y5 < 0) = true then some (0,5) else ((cU p0).bind fun y8 => ((fg p0 y5).bind fun y10 => ((cU (TY.mk y10.fB p0.fR)).bind fun y20 => some (w64 (y8 - y20),0))))))))
def fb (p0:TY) (y6:Int) (s27:(Int × (List Int))) : Option ((Int × (List Int)) ⊕ (Int × (List Int))) :=
 (if decide (s27.1 < (p0.fB.length:Int)) = true then ((fg p0 s27.1).bind fun y31 => ((cU (TY.mk y31.fB p0.fR)).bind fun y41 => am (s27.2.length + 1 ≤ 1000000000) (some (.inl (w64 (s27.1 + 1),(s27.2 ++ [w64 (y6 - y41)])))))) else some (.inr (s27.1,s27.2)))
def fv (p0:TY) (p1:(List (Int × Int))) : Option TPlan :=
 am ((0:Int) ≤ (p0.fR.length:Int) ∧ (p0.fR.length:Int) * 8 ≤ 281474976710656) (((cV p1 p0).bind fun y6 => am ((d4 p1).all (fun y12 => cO y12 && decide (((0:Int) ≤ y12 ∧ y12 < (p0.fB.length:Int)) ∧ ((0:Int) ≤ ar 0 p1 y12 ∧ ar 0 p1 y12 < ((Int.toNat (p0.fR.length:Int) : Nat) : Int)))) = true) (am (((d4 p1).map (fun y12 => Int.toNat (ar 0 p1 y12))).Nodup) (((aM (fb p0 y6) (0,([]:List Int))).bind fun u28 => some (TPlan.mk ((d4 p1).foldl (fun a y12 => a.set (Int.toNat (ar 0 p1 y12)) ((rdL p0.fB y12).fID)) (List.replicate (Int.toNat (p0.fR.length:Int)) 0)) y6 u28.2))))))
def fc (p0:TY) : Option (TPlan × Int) :=
 ((bF p0).bind fun y3 => (if (y3 != 0) = true then some ((TPlan.mk ([]:(List Int)) 0 ([]:(List Int))),y3) else ((gW p0).bind fun y6 => ((fv p0 y6).bind fun y9 => some (y9,0)))))
def bY (p0:Int) (p1:Int) (p2:Int) : Option Bool :=
 some ((decide (p1 ≤ p0)) && (decide (p0 ≤ p2)))
def fS (p0:Int) : Option Bool :=
 ((bY p0 0 16384).bind fun y1 => some y1)
def da (p0:TY) (s5:(Int × Int)) (s20:(Int × Int)) : Option ((Int × Int) ⊕ ((Int × Int) ⊕ (Int × Int))) :=
 (if decide (s20.2 < s5.2) = true then am ((0:Int) ≤ s20.2 ∧ s20.2 < (p0.fB.length:Int)) ((if (((rdL p0.fB s20.2).fID) == ((rdL p0.fB s5.2).fID)) = true then some (.inr (.inl (6,s20.2))) else some (.inl (s20.1,w64 (s20.2 + 1))))) else some (.inr (.inr (s20.1,s20.2))))
def cX (p0:TY) (s5:(Int × Int)) : Option ((Int × Int) ⊕ ((Int × Int) ⊕ (Int × Int))) :=
 (if decide (s5.2 < (p0.fB.length:Int)) = true then am ((0:Int) ≤ s5.2 ∧ s5.2 < (p0.fB.length:Int)) (((bY ((rdL p0.fB s5.2).fID) 1 1099511627776).bind fun y10 => ((fS ((rdL p0.fB s5.2).fHour)).bind fun y12 => ((bY ((rdL p0.fB s5.2).fD) 0 9).bind fun y14 => (if (((!y10) || (!y12)) || (!y14)) = true then some (.inr (.inl (1,s5.2))) else ((aM (da p0 s5) (s5.1,0)).bind fun u21 => match u21 with | (.inl u26) => some (.inr (.inl (u26.1,s5.2))) | (.inr u27) => some (.inl (u27.1,w64 (s5.2 + 1))))))))) else some (.inr (.inr (s5.1,s5.2))))
def db (p0:TY) (s32:(Int × Int)) (s54:(Int × Int)) : Option ((Int × Int) ⊕ ((Int × Int) ⊕ (Int × Int))) :=
 (if decide (s54.2 < s32.2) = true then am ((0:Int) ≤ s54.2 ∧ s54.2 < (p0.fR.length:Int)) ((if (((rdL p0.fR s54.2).fID) == ((rdL p0.fR s32.2).fID)) = true then some (.inr (.inl (6,s54.2))) else some (.inl (s54.1,w64 (s54.2 + 1))))) else some (.inr (.inr (s54.1,s54.2))))
def dc (p0:TY) (s32:(Int × Int)) : Option ((Int × Int) ⊕ ((Int × Int) ⊕ (Int × Int))) :=
 (if decide (s32.2 < (p0.fR.length:Int)) = true then am ((0:Int) ≤ s32.2 ∧ s32.2 < (p0.fR.length:Int)) (((bY ((rdL p0.fR s32.2).fID) 1 1099511627776).bind fun y37 => ((fS ((rdL p0.fR s32.2).fH.fLo)).bind fun y39 => ((fS ((rdL p0.fR s32.2).fH.fHi)).bind fun y41 => ((bY ((rdL p0.fR s32.2).fD) 0 9).bind fun y43 => ((bY ((rdL p0.fR s32.2).fW) 1 1000).bind fun y45 => (if ((((((!y37) || (!y39)) || (!y41)) || (decide ((rdL p0.fR s32.2).fH.fHi < (rdL p0.fR s32.2).fH.fLo))) || (!y43)) || (!y45)) = true then some (.inr (.inl (1,s32.2))) else ((aM (db p0 s32) (s32.1,0)).bind fun u55 => match u55 with | (.inl u60) => some (.inr (.inl (u60.1,s32.2))) | (.inr u61) => some (.inl (u61.1,w64 (s32.2 + 1))))))))))) else some (.inr (.inr (s32.1,s32.2))))
def cG (p0:TY) : Option Int :=
 (if ((decide (24 < (p0.fB.length:Int))) || (decide (24 < (p0.fR.length:Int)))) = true then some 2 else ((aM (cX p0) (0,0)).bind fun u6 => match u6 with | (.inl u29) => some u29.1 | (.inr u30) => ((aM (dc p0) (u30.1,0)).bind fun u33 => match u33 with | (.inl u63) => some u63.1 | (.inr u64) => some 0)))
def eY (p0:TY) (p1:Int) (s3:(Int × Int)) : Option ((Int × Int) ⊕ ((Int × Int) ⊕ (Int × Int))) :=
 (if decide (s3.2 < (p0.fB.length:Int)) = true then am ((0:Int) ≤ s3.2 ∧ s3.2 < (p0.fB.length:Int)) ((if (((rdL p0.fB s3.2).fID) == p1) = true then some (.inr (.inl (s3.2,s3.2))) else some (.inl (s3.1,w64 (s3.2 + 1))))) else some (.inr (.inr (s3.1,s3.2))))
def jH (p0:TY) (p1:Int) : Option Int :=
 ((aM (eY p0 p1) (0,0)).bind fun u4 => match u4 with | (.inl u9) => some u9.1 | (.inr u10) => some (-1))
def eQ (p0:TY) (p1:Int) (p2:Int) : Option Bool :=
 am ((0:Int) ≤ p2 ∧ p2 < (p0.fB.length:Int)) (am ((0:Int) ≤ p1 ∧ p1 < (p0.fR.length:Int)) (am ((0:Int) ≤ p1 ∧ p1 < (p0.fR.length:Int)) (((bY ((rdL p0.fB p2).fHour) ((rdL p0.fR p1).fH.fLo) ((rdL p0.fR p1).fH.fHi)).bind fun y5 => ((if y5 = true then (am ((0:Int) ≤ p2 ∧ p2 < (p0.fB.length:Int)) (am ((0:Int) ≤ p1 ∧ p1 < (p0.fR.length:Int)) (some (decide ((rdL p0.fR p1).fD ≤ (rdL p0.fB p2).fD))))) else (some (false))).bind fun b8 => some b8)))))
def ep (p1:(List Int)) (s4:(Bool × Int × Int)) (s17:(Bool × Int)) : Option ((Bool × Int) ⊕ ((Bool × Int) ⊕ (Bool × Int))) :=
 (if decide (s17.2 < s4.2.2) = true then am ((0:Int) ≤ s17.2 ∧ s17.2 < (p1.length:Int)) (am ((0:Int) ≤ s4.2.2 ∧ s4.2.2 < (p1.length:Int)) ((if ((rdL p1 s17.2) == (rdL p1 s4.2.2)) = true then some (.inr (.inl (false,s17.2))) else some (.inl (s17.1,w64 (s17.2 + 1)))))) else some (.inr (.inr (s17.1,s17.2))))
def er (p0:TY) (p1:(List Int)) (s4:(Bool × Int × Int)) : Option ((Bool × Int × Int) ⊕ ((Bool × Int × Int) ⊕ (Bool × Int × Int))) :=
 (if decide (s4.2.2 < (p1.length:Int)) = true then am ((0:Int) ≤ s4.2.2 ∧ s4.2.2 < (p1.length:Int)) ((if ((rdL p1 s4.2.2) == 0) = true then some (.inl (s4.1,s4.2.1,w64 (s4.2.2 + 1))) else am ((0:Int) ≤ s4.2.2 ∧ s4.2.2 < (p1.length:Int)) (((jH p0 (rdL p1 s4.2.2)).bind fun y10 => (if decide (y10 < 0) = true then some (.inr (.inl (false,s4.2.1,s4.2.2))) else ((eQ p0 s4.2.2 y10).bind fun y13 => (if (!y13) = true then some (.inr (.inl (false,s4.2.1,s4.2.2))) else ((aM (ep p1 s4) (s4.1,0)).bind fun u18 => match u18 with | (.inl u24) => some (.inr (.inl (u24.1,s4.2.1,s4.2.2))) | (.inr u25) => am ((0:Int) ≤ s4.2.2 ∧ s4.2.2 < (p0.fR.length:Int)) (some (.inl (u25.1,w64 (s4.2.1 + ((rdL p0.fR s4.2.2).fW)),w64 (s4.2.2 + 1)))))))))))) else some (.inr (.inr (s4.1,s4.2.1,s4.2.2))))
def iG (p0:TY) (p1:(List Int)) (p2:Int) : Option Bool :=
 (if ((p1.length:Int) != (p0.fR.length:Int)) = true then some false else ((aM (er p0 p1) (false,0,0)).bind fun u5 => match u5 with | (.inl u28) => some u28.1 | (.inr u29) => some (u29.2.1 == p2)))
def dt (p1:(List Int)) (s4:(Int × Int × Int)) : Option ((Int × Int × Int) ⊕ ((Int × Int × Int) ⊕ (Int × Int × Int))) :=
 (if decide (s4.2.2 < (p1.length:Int)) = true then am ((0:Int) ≤ s4.2.2 ∧ s4.2.2 < (p1.length:Int)) (((bY (rdL p1 s4.2.2) 0 1000).bind fun y8 => (if (!y8) = true then some (.inr (.inl ((-1),s4.2.1,s4.2.2))) else am ((0:Int) ≤ s4.2.2 ∧ s4.2.2 < (p1.length:Int)) (some (.inl (s4.1,w64 (s4.2.1 + (rdL p1 s4.2.2)),w64 (s4.2.2 + 1))))))) else some (.inr (.inr (s4.1,s4.2.1,s4.2.2))))
def dq (p0:TY) (p1:(List Int)) (s16:(Int × Int)) (s21:(Int × Int)) : Option ((Int × Int) ⊕ (Int × Int)) :=
 (if decide (s21.2 < (p1.length:Int)) = true then ((eQ p0 s16.2 s21.2).bind fun y24 => (if y24 = true then am ((0:Int) ≤ s21.2 ∧ s21.2 < (p1.length:Int)) (some (.inl (min s21.1 (rdL p1 s21.2),w64 (s21.2 + 1)))) else some (.inl (s21.1,w64 (s21.2 + 1))))) else some (.inr (s21.1,s21.2)))
def dr (p0:TY) (p1:(List Int)) (s16:(Int × Int)) (s30:(Bool × Int)) : Option ((Bool × Int) ⊕ (Bool × Int)) :=
 (if decide (s30.2 < (p1.length:Int)) = true then ((eQ p0 s16.2 s30.2).bind fun y33 => some (.inl ((s30.1 || y33),w64 (s30.2 + 1)))) else some (.inr (s30.1,s30.2)))
def dw (p0:TY) (p1:(List Int)) (s16:(Int × Int)) : Option ((Int × Int) ⊕ (Int × Int)) :=
 (if decide (s16.2 < (p0.fR.length:Int)) = true then am ((0:Int) ≤ s16.2 ∧ s16.2 < (p0.fR.length:Int)) (((aM (dq p0 p1 s16) ((rdL p0.fR s16.2).fW,0)).bind fun u22 => ((aM (dr p0 p1 s16) (false,0)).bind fun u31 => (if u31.1 = true then am ((0:Int) ≤ s16.2 ∧ s16.2 < (p0.fR.length:Int)) (some (.inl (w64 ((w64 (s16.1 + ((rdL p0.fR s16.2).fW))) - u22.1),w64 (s16.2 + 1)))) else some (.inl (s16.1,w64 (s16.2 + 1))))))) else some (.inr (s16.1,s16.2)))
def go (p0:TY) (p1:(List Int)) : Option Int :=
 (if ((p1.length:Int) != (p0.fB.length:Int)) = true then some (-1) else ((aM (dt p1) (0,0,0)).bind fun u5 => match u5 with | (.inl u13) => some u13.1 | (.inr u14) => ((aM (dw p0 p1) (u14.2.1,0)).bind fun u17 => some u17.1)))
def cL (p0:TY) (p1:TPlan) : Option Int :=
 ((cG p0).bind fun y3 => (if (y3 != 0) = true then some y3 else ((iG p0 p1.fG p1.fW).bind fun y6 => ((if (!y6) = true then (some (true)) else ((go p0 p1.fPrices).bind fun y12 => some ((y12 != p1.fW)))).bind fun b9 => (if b9 = true then some 8 else some 0)))))
def jj (p0:TR) (y6:(List (Ts × Tl))) (s12:(Int × (List (List Int)))) : Option ((Int × (List (List Int))) ⊕ (Int × (List (List Int)))) :=
 (if decide (s12.1 < p0.fPlaces) = true then ((gL y6 s12.1).bind fun y15 => ((cw y15).bind fun y20 => am (s12.2.length + 1 ≤ 1000000000) (some (.inl (w64 (s12.1 + 1),(s12.2 ++ [y20])))))) else some (.inr (s12.1,s12.2)))
def jc (p0:TR) (p1:Int) (p2:Int) : Option (TTimes × Int) :=
 ((gZ p0 p1 p1 p2 0).bind fun y3 => (if (y3 != 0) = true then some ((TTimes.mk []),y3) else ((i8 p0 p1 p2).bind fun y6 => ((aM (jj p0 y6) (0,([]:List (List Int)))).bind fun u13 => some ((TTimes.mk u13.2),0)))))
def lN (p0:TR) (p1:Int) (p2:Int) (p3:Int) : Option ((List TJ) × Int) :=
 ((gZ p0 p1 p2 p3 0).bind fun y2 => (if (y2 != 0) = true then some ([],y2) else ((jU p0 p1 p2 p3).bind fun y5 => some (y5,0))))
def hY  : Option TR :=
 some (TR.mk 3 [(TT.mk 1 0 1 5 0 ([]:(List TSpan))),(TT.mk 2 1 2 5 0 [(TSpan.mk 8 20)]),(TT.mk 3 0 2 9 6 ([]:(List TSpan))),(TT.mk 4 1 2 8 2 ([]:(List TSpan)))])
def ij  : Option TY :=
 some (TY.mk [(TBay.mk 1 10 3),(TBay.mk 2 11 5)] [(TO.mk 7 (TSpan.mk 10 11) 3 5),(TO.mk 8 (TSpan.mk 11 12) 4 9),(TO.mk 9 (TSpan.mk 10 11) 4 7)])
def lR (p0:TT) (p1:Int) : Option (Int × Int) :=
 ((iX p0.fK).bind fun y2 => ((if (!y2) = true then (some (true)) else ((ef p1).bind fun y11 => some ((!y11)))).bind fun b5 => (if b5 = true then some (0,1) else ((jY p0 p1).bind fun y8 => (if (!y8.2) = true then some (0,5) else some (y8.1,0))))))
def dM  : Option Bool :=
 ((hY).bind fun y1 => ((ij).bind fun y14 => am ((0:Int) ≤ 1 ∧ 1 < (y1.fTracks.length:Int)) (((lR (TT.mk ((rdL y1.fTracks 1).fID) ((rdL y1.fTracks 1).fFrom) ((rdL y1.fTracks 1).fTo) ((rdL y1.fTracks 1).fLong) ((rdL y1.fTracks 1).fToll) ((rdL y1.fTracks 1).fK)) 8).bind fun y26 => ((jc y1 0 4).bind fun y28 => ((lN y1 0 2 4).bind fun y41 => ((lB y1 0 2 4 5).bind fun y53 => ((kF y1 0 2 26 0).bind fun y64 => ((ja y1 0 2 4 0).bind fun y66 => ((ja y1 0 2 4 60).bind fun y72 => ((if (((((((((y26.2 != 0) || (y28.2 != 0)) || (y41.2 != 0)) || (y53.2 != 0)) || (y64.2 != 0)) || (y66.2 != 0)) || (y72.2 != 0)) || (y26.1 != 21)) || ((y28.1.fH.length:Int) != 3)) = true then (some (true)) else (am ((0:Int) ≤ 2 ∧ 2 < (y28.1.fH.length:Int)) (some (((((rdL y28.1.fH 2).length : Nat) : Int) != 61))))).bind fun b87 => (if (b87 || ((y41.1.length:Int) != 3)) = true then some false else am ((0:Int) ≤ 2 ∧ 2 < (y28.1.fH.length:Int)) (am ((0:Int) ≤ 0 ∧ 0 < (((rdL y28.1.fH 2).length : Nat) : Int)) (((if ((rdL (rdL y28.1.fH 2) 0) == 26) = true then (am ((0:Int) ≤ 2 ∧ 2 < (y28.1.fH.length:Int)) (am ((0:Int) ≤ 2 ∧ 2 < (((rdL y28.1.fH 2).length : Nat) : Int)) (some (((rdL (rdL y28.1.fH 2) 2) == 17))))) else (some (false))).bind fun b94 => ((if b94 = true then (am ((0:Int) ≤ 2 ∧ 2 < (y28.1.fH.length:Int)) (am ((0:Int) ≤ 6 ∧ 6 < (((rdL y28.1.fH 2).length : Nat) : Int)) (some (((rdL (rdL y28.1.fH 2) 6) == 13))))) else (some (false))).bind fun b97 => ((if b97 = true then (am ((0:Int) ≤ 0 ∧ 0 < (y41.1.length:Int)) (some ((((rdL y41.1 0).fToll) == 0)))) else (some (false))).bind fun b100 => ((if b100 = true then (am ((0:Int) ≤ 1 ∧ 1 < (y41.1.length:Int)) (some ((((rdL y41.1 1).fA) == 17)))) else (some (false))).bind fun b103 => ((if b103 = true then (am ((0:Int) ≤ 2 ∧ 2 < (y41.1.length:Int)) (some ((((rdL y41.1 2).fToll) == 6)))) else (some (false))).bind fun b106 => ((if ((b106 && (y53.1.fA == 17)) && (y64.1 == 16)) = true then ((dg y66.1 [1,2]).bind fun y190 => some (y190)) else (some (false))).bind fun b111 => ((if b111 = true then ((dg y72.1 [3]).bind fun y187 => some (y187)) else (some (false))).bind fun b114 => ((fc y14).bind fun y116 => ((kA y14).bind fun y135 => ((lJ y14).bind fun y141 => ((jI y14 [7,8,9]).bind fun y148 => ((np y14 1).bind fun y154 => ((if ((y116.2 == 0) && (y116.1.fW == 14)) = true then ((cL y14 y116.1).bind fun y184 => some ((y184 == 0))) else (some (false))).bind fun b158 => ((if (b158 && (y135.2 == 0)) = true then ((dg y135.1 [7,8]).bind fun y182 => some (y182)) else (some (false))).bind fun b162 => ((if (b162 && (y141.2 == 0)) = true then ((dg y141.1 [9]).bind fun y179 => some (y179)) else (some (false))).bind fun b166 => ((if ((b114 && b166) && (y148.2 == 0)) = true then ((dg y148.1 [8,9]).bind fun y176 => some (y176)) else (some (false))).bind fun b171 => some ((b171 && (y154.2 == 0)) && (y154.1 == 5))))))))))))))))))))))))))))))))
def iv (p0:(List Int)) (p1:Int) (s2:Int) : Option (Int ⊕ Int) :=
 ((if decide (s2 < (p0.length:Int)) = true then (am ((0:Int) ≤ s2 ∧ s2 < (p0.length:Int)) (some (decide ((rdL p0 s2) < p1)))) else (some (false))).bind fun b5 => (if b5 = true then some (.inl (w64 (s2 + 1))) else some (.inr s2)))
def mU (p0:(List Int)) (p1:Int) : Option (List Int) :=
 ((aM (iv p0 p1) 0).bind fun u3 => am ((0:Int) ≤ u3 ∧ u3 ≤ (p0.length:Int)) (am (0 + (Int.toNat u3) ≤ 1000000000) (am ((0 + (Int.toNat u3)) + 1 ≤ 1000000000) (am ((0:Int) ≤ u3 ∧ u3 ≤ (p0.length:Int)) (am (((0 + (Int.toNat u3)) + 1) + (p0.length - Int.toNat u3) ≤ 1000000000) (some (((([]:List Int) ++ (p0.take (Int.toNat u3))) ++ [p1]) ++ (p0.drop (Int.toNat u3)))))))))
def eD (p0:TY) : Option Bool :=
 some (((decide ((p0.fB.length:Int) ≤ 9)) || ((decide (24 < (p0.fB.length:Int))) && (decide ((p0.fB.length:Int) ≤ 40)))) && ((decide ((p0.fR.length:Int) ≤ 9)) || ((decide (24 < (p0.fR.length:Int))) && (decide ((p0.fR.length:Int) ≤ 40)))))
def ex (p0:TY) (p1:(List Int)) (s3:(Int × Int)) : Option ((Int × Int) ⊕ (Int × Int)) :=
 (if decide (s3.2 < (p1.length:Int)) = true then am ((0:Int) ≤ s3.2 ∧ s3.2 < (p1.length:Int)) (am ((0:Int) ≤ (rdL p1 s3.2) ∧ (rdL p1 s3.2) < (p0.fR.length:Int)) (some (.inl (w64 (s3.1 + ((rdL p0.fR (rdL p1 s3.2)).fW)),w64 (s3.2 + 1))))) else some (.inr (s3.1,s3.2)))
def kD (p0:TY) (p1:(List Int)) : Option Int :=
 ((aM (ex p0 p1) (0,0)).bind fun u4 => some u4.1)
def eh (p0:Int) : Option Bool :=
 ((a7 p0 0 1000).bind fun y1 => some (!y1))
def dR (p0:TY) (p1:TPlan) (s11:(Bool × Int × Int × Int × (List (Int × Bool)))) (s17:(Int × Int)) : Option ((Int × Int) ⊕ (Int × Int)) :=
 (if decide (s17.2 < (p0.fB.length:Int)) = true then am ((0:Int) ≤ s17.2 ∧ s17.2 < (p0.fB.length:Int)) (((f9 (TO.mk ((rdL p0.fR s11.2.2.2.1).fID) (TSpan.mk ((rdL p0.fR s11.2.2.2.1).fH.fLo) ((rdL p0.fR s11.2.2.2.1).fH.fHi)) ((rdL p0.fR s11.2.2.2.1).fD) ((rdL p0.fR s11.2.2.2.1).fW)) (TBay.mk ((rdL p0.fB s17.2).fID) ((rdL p0.fB s17.2).fHour) ((rdL p0.fB s17.2).fD))).bind fun y22 => (if y22 = true then am ((0:Int) ≤ s17.2 ∧ s17.2 < (p1.fPrices.length:Int)) (some (.inl (min s17.1 (rdL p1.fPrices s17.2),w64 (s17.2 + 1)))) else some (.inl (s17.1,w64 (s17.2 + 1)))))) else some (.inr (s17.1,s17.2)))
def dQ (p0:TY) (p1:TPlan) (s11:(Bool × Int × Int × Int × (List (Int × Bool)))) : Option ((Bool × Int × Int × Int × (List (Int × Bool))) ⊕ ((Bool × Int × Int × Int × (List (Int × Bool))) ⊕ (Bool × Int × Int × Int × (List (Int × Bool))))) :=
 (if decide (s11.2.2.2.1 < (p0.fR.length:Int)) = true then am ((0:Int) ≤ s11.2.2.2.1 ∧ s11.2.2.2.1 < (p0.fR.length:Int)) (((aM (dR p0 p1 s11) (1001,0)).bind fun u18 => am ((0:Int) ≤ s11.2.2.2.1 ∧ s11.2.2.2.1 < (p1.fG.length:Int)) ((if ((rdL p1.fG s11.2.2.2.1) == 0) = true then some (.inl (s11.1,s11.2.1,w64 (s11.2.2.1 + (max 0 (w64 (((rdL p0.fR s11.2.2.2.1).fW) - u18.1)))),w64 (s11.2.2.2.1 + 1),s11.2.2.2.2)) else ((iq p0 (rdL p1.fG s11.2.2.2.1)).bind fun y29 => ((if decide (y29 < 0) = true then (some (true)) else (am (cO (rdL p1.fG s11.2.2.2.1) = true) (some (ar false s11.2.2.2.2 (rdL p1.fG s11.2.2.2.1))))).bind fun b32 => ((if b32 = true then (some (true)) else (am ((0:Int) ≤ y29 ∧ y29 < (p0.fB.length:Int)) (((f9 (TO.mk ((rdL p0.fR s11.2.2.2.1).fID) (TSpan.mk ((rdL p0.fR s11.2.2.2.1).fH.fLo) ((rdL p0.fR s11.2.2.2.1).fH.fHi)) ((rdL p0.fR s11.2.2.2.1).fD) ((rdL p0.fR s11.2.2.2.1).fW)) (TBay.mk ((rdL p0.fB y29).fID) ((rdL p0.fB y29).fHour) ((rdL p0.fB y29).fD))).bind fun y40 => some ((!y40)))))).bind fun b35 => (if b35 = true then some (.inr (.inl (false,s11.2.1,w64 (s11.2.2.1 + (max 0 (w64 (((rdL p0.fR s11.2.2.2.1).fW) - u18.1)))),s11.2.2.2.1,s11.2.2.2.2))) else am (cO (rdL p1.fG s11.2.2.2.1) = true ∧ List.length s11.2.2.2.2 < 1000000000) (some (.inl (s11.1,w64 (s11.2.1 + ((rdL p0.fR s11.2.2.2.1).fW)),w64 (s11.2.2.1 + (max 0 (w64 (((rdL p0.fR s11.2.2.2.1).fW) - u18.1)))),w64 (s11.2.2.2.1 + 1),(((rdL p1.fG s11.2.2.2.1),true) :: s11.2.2.2.2)))))))))))) else some (.inr (.inr (s11.1,s11.2.1,s11.2.2.1,s11.2.2.2.1,s11.2.2.2.2))))
def dS (p1:TPlan) (s47:(Int × Int)) : Option ((Int × Int) ⊕ (Int × Int)) :=
 (if decide (s47.2 < (p1.fPrices.length:Int)) = true then am ((0:Int) ≤ s47.2 ∧ s47.2 < (p1.fPrices.length:Int)) (some (.inl (w64 (s47.1 + (rdL p1.fPrices s47.2)),w64 (s47.2 + 1)))) else some (.inr (s47.1,s47.2)))
def hZ (p0:TY) (p1:TPlan) : Option Bool :=
 ((if (((p1.fG.length:Int) != (p0.fR.length:Int)) || ((p1.fPrices.length:Int) != (p0.fB.length:Int))) = true then (some (true)) else ((eH p1.fPrices (fun x53 => eh x53)).bind fun y54 => some (decide (0 ≤ y54)))).bind fun b5 => (if b5 = true then some false else ((aM (dQ p0 p1) (false,0,0,0,[])).bind fun u12 => match u12 with | (.inl u44) => some u44.1 | (.inr u45) => ((aM (dS p1) (u45.2.2.1,0)).bind fun u48 => some ((u45.2.1 == p1.fW) && (u45.2.1 == u48.1))))))
def fo (p0:Int) (cap0:TPlan) (cap1:TY) (s4:(Int × (List (Int × Int)))) : Option ((Int × (List (Int × Int))) ⊕ (Int × (List (Int × Int)))) :=
 (if decide (s4.1 < (cap0.fG.length:Int)) = true then am ((0:Int) ≤ s4.1 ∧ s4.1 < (cap0.fG.length:Int)) ((if (((rdL cap0.fG s4.1) != 0) && (s4.1 != p0)) = true then ((iq cap1 (rdL cap0.fG s4.1)).bind fun y10 => am (cO y10 = true ∧ List.length s4.2 < 1000000000) (some (.inl (w64 (s4.1 + 1),((y10,s4.1) :: s4.2))))) else some (.inl (w64 (s4.1 + 1),s4.2)))) else some (.inr (s4.1,s4.2)))
def ed (p0:Int) (cap0:TPlan) (cap1:TY) : Option (List (Int × Int)) :=
 ((aM (fo p0 cap0 cap1) (0,[])).bind fun u5 => some u5.2)
def gN (p0:TY) (p1:TPlan) (p2:TO) (y12:(List TO)) (s46:(Int × Int × (List (Int × Int)))) : Option ((Int × Int × (List (Int × Int))) ⊕ (Int × Int × (List (Int × Int)))) :=
 (if decide (s46.2.1 < (p1.fG.length:Int)) = true then am ((0:Int) ≤ s46.2.1 ∧ s46.2.1 < (p1.fG.length:Int)) (((if ((rdL p1.fG s46.2.1) == 0) = true then (some (true)) else (am ((0:Int) ≤ s46.2.1 ∧ s46.2.1 < (p0.fR.length:Int)) (some (decide (s46.1 ≤ (rdL p0.fR s46.2.1).fW))))).bind fun b51 => (if b51 = true then some (.inl (s46.1,w64 (s46.2.1 + 1),s46.2.2)) else ((ed s46.2.1 p1 p0).bind fun y54 => ((bT y54 (TY.mk p0.fB (y12 ++ [p2])) (p0.fR.length:Int)).bind fun y57 => (if y57.1 = true then am ((0:Int) ≤ s46.2.1 ∧ s46.2.1 < (p0.fR.length:Int)) (some (.inl ((rdL p0.fR s46.2.1).fW,w64 (s46.2.1 + 1),y57.2))) else some (.inl (s46.1,w64 (s46.2.1 + 1),s46.2.2)))))))) else some (.inr (s46.1,s46.2.1,s46.2.2)))
def gd (p0:TY) (p1:TPlan) (p2:TO) : Option (TPlan × Int) :=
 ((bF p0).bind fun y5 => (if (y5 != 0) = true then some ((TPlan.mk [] 0 []),y5) else ((hZ p0 p1).bind fun y8 => (if (!y8) = true then some ((TPlan.mk [] 0 []),4) else ((bK p0.fR).bind fun y12 => am (y12.length + 1 ≤ 1000000000) (((bF (TY.mk p0.fB (y12 ++ [p2]))).bind fun y23 => (if (y23 != 0) = true then some ((TPlan.mk [] 0 []),y23) else ((ed (-1) p1 p0).bind fun y26 => ((bT y26 (TY.mk p0.fB (y12 ++ [p2])) (p0.fR.length:Int)).bind fun y29 => (if y29.1 = true then ((fv (TY.mk p0.fB (y12 ++ [p2])) y29.2).bind fun y32 => some (y32,0)) else ((ed (-1) p1 p0).bind fun y42 => ((aM (gN p0 p1 p2 y12) (p2.fW,0,y42)).bind fun u47 => ((fv (TY.mk p0.fB (y12 ++ [p2])) u47.2.2).bind fun y63 => some (y63,0)))))))))))))))
def gX (p0:TY) (p1:TO) : Option TY :=
 am (0 + p0.fR.length ≤ 1000000000) (am ((0 + p0.fR.length) + 1 ≤ 1000000000) (some (TY.mk p0.fB ((([]:List TO) ++ p0.fR) ++ [p1]))))
def cr (p0:TY) (p1:TPlan) (p2:TO) : Option Int :=
 ((cG p0).bind fun y4 => (if (y4 != 0) = true then some y4 else ((cL p0 p1).bind fun y7 => (if (y7 != 0) = true then some 4 else ((gX p0 p2).bind fun y10 => ((cG (TY.mk p0.fB y10.fR)).bind fun y20 => some y20))))))
def dP (p0:TY) (p1:TPlan) (p3:TPlan) (s15:(Bool × Int × Int)) : Option ((Bool × Int × Int) ⊕ ((Bool × Int × Int) ⊕ (Bool × Int × Int))) :=
 (if decide (s15.2.2 < (p0.fR.length:Int)) = true then am ((0:Int) ≤ s15.2.2 ∧ s15.2.2 < (p1.fG.length:Int)) (((if ((rdL p1.fG s15.2.2) != 0) = true then (am ((0:Int) ≤ s15.2.2 ∧ s15.2.2 < (p3.fG.length:Int)) (some (((rdL p3.fG s15.2.2) == 0)))) else (some (false))).bind fun b20 => (if b20 = true then am ((0:Int) ≤ s15.2.2 ∧ s15.2.2 < (p1.fG.length:Int)) (((if ((rdL p1.fG s15.2.2) == 0) = true then (am ((0:Int) ≤ s15.2.2 ∧ s15.2.2 < (p3.fG.length:Int)) (some (((rdL p3.fG s15.2.2) != 0)))) else (some (false))).bind fun b25 => (if b25 = true then some (.inr (.inl (false,w64 (s15.2.1 + 1),s15.2.2))) else some (.inl (s15.1,w64 (s15.2.1 + 1),w64 (s15.2.2 + 1)))))) else am ((0:Int) ≤ s15.2.2 ∧ s15.2.2 < (p1.fG.length:Int)) (((if ((rdL p1.fG s15.2.2) == 0) = true then (am ((0:Int) ≤ s15.2.2 ∧ s15.2.2 < (p3.fG.length:Int)) (some (((rdL p3.fG s15.2.2) != 0)))) else (some (false))).bind fun b31 => (if b31 = true then some (.inr (.inl (false,s15.2.1,s15.2.2))) else some (.inl (s15.1,s15.2.1,w64 (s15.2.2 + 1))))))))) else some (.inr (.inr (s15.1,s15.2.1,s15.2.2))))
def dG (p0:TY) (p1:TPlan) (p2:TO) (p3:TPlan) : Option Bool :=
 ((gX p0 p2).bind fun y5 => ((cL (TY.mk p0.fB y5.fR) p3).bind fun y11 => (if (y11 != 0) = true then some false else ((aM (dP p0 p1 p3) (false,0,0)).bind fun u16 => match u16 with | (.inl u37) => some u37.1 | (.inr u38) => some (decide (u38.2.1 ≤ 1))))))
def a8 (p0:TY) (p2:TO) (y11:(TPlan × Int)) (s32:(Bool × Int × (List Int) × Int × (List Int))) : Option ((Bool × Int × (List Int) × Int × (List Int)) ⊕ ((Bool × Int × (List Int) × Int × (List Int)) ⊕ (Bool × Int × (List Int) × Int × (List Int)))) :=
 (if decide (s32.2.1 < 2) = true then ((gd p0 (TPlan.mk s32.2.2.1 s32.2.2.2.1 s32.2.2.2.2) p2).bind fun y35 => ((cr p0 (TPlan.mk s32.2.2.1 s32.2.2.2.1 s32.2.2.2.2) p2).bind fun y46 => ((if (y35.2 != y46) = true then (some (true)) else ((if (y35.2 == 0) = true then ((dG p0 (TPlan.mk s32.2.2.1 s32.2.2.2.1 s32.2.2.2.2) p2 y35.1).bind fun y57 => some ((!y57))) else (some (false))).bind fun b55 => some (b55))).bind fun b49 => (if (b49 || ((y35.2 != 0) && (decide (0 < (y35.1.fG.length:Int))))) = true then some (.inr (.inl (false,s32.2.1,s32.2.2.1,s32.2.2.2.1,s32.2.2.2.2))) else some (.inl (s32.1,w64 (s32.2.1 + 1),y11.1.fG,y11.1.fW,y11.1.fPrices)))))) else some (.inr (.inr (s32.1,s32.2.1,s32.2.2.1,s32.2.2.2.1,s32.2.2.2.2))))
def dH (p0:TY) (p1:TPlan) (p2:TO) : Option Bool :=
 ((eD p0).bind fun y4 => (if (((!y4) || (decide (60 < (p1.fG.length:Int)))) || (decide (60 < (p1.fPrices.length:Int)))) = true then ((dM).bind fun y9 => some y9) else ((fc p0).bind fun y11 => ((aM (a8 p0 p2 y11) (false,0,p1.fG,p1.fW,p1.fPrices)).bind fun u33 => match u33 with | (.inl u60) => some u60.1 | (.inr u61) => ((dM).bind fun y62 => some y62)))))
end
end Go.Proofs.YthndghnkebboaaaGreat
