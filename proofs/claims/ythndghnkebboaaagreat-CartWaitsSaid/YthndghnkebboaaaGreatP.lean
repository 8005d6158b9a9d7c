import Derived.Test.YthndghnkebboaaaGreatGz
set_option linter.unusedVariables false
namespace Go.Proofs.YthndghnkebboaaaGreat
noncomputable section
structure TSpan where
 fLo : Int
 fHi : Int
 deriving DecidableEq
instance : Inhabited TSpan:=⟨⟨default,default⟩⟩
def TSpan_rg (x:TSpan) : Prop:=bg x.fLo ∧ bg x.fHi
structure TT where
 fID : Int
 fFrom : Int
 fTo : Int
 fLong : Int
 fToll : Int
 fK : (List TSpan)
 deriving DecidableEq
instance : Inhabited TT:=⟨⟨default,default,default,default,default,default⟩⟩
def TTrack_rg (x:TT) : Prop:=bg x.fID ∧ bg x.fFrom ∧ bg x.fTo ∧ bg x.fLong ∧ bg x.fToll ∧ (fk TSpan_rg x.fK)
structure TR where
 fPlaces : Int
 fTracks : (List TT)
 deriving DecidableEq
instance : Inhabited TR:=⟨⟨default,default⟩⟩
def sa (x:TR) : Prop:=bg x.fPlaces ∧ (fk TTrack_rg x.fTracks)
structure Ts where
 f_place : Int
 f_toll : Int
 deriving DecidableEq
instance : Inhabited Ts:=⟨⟨default,default⟩⟩
def Tstop_rg (x:Ts) : Prop:=bg x.f_place ∧ bg x.f_toll
structure Twait where
 f_at : Int
 f_stop : Ts
 deriving DecidableEq
instance : Inhabited Twait:=⟨⟨default,default⟩⟩
def Twait_rg (x:Twait) : Prop:=bg x.f_at ∧ bg x.f_stop.f_place ∧ bg x.f_stop.f_toll
structure TLeg where
 fTrack : Int
 fHour : Int
 deriving DecidableEq
instance : Inhabited TLeg:=⟨⟨default,default⟩⟩
def TLeg_rg (x:TLeg) : Prop:=bg x.fTrack ∧ bg x.fHour
structure Tl where
 f_at : Int
 f_from : Ts
 f_leg : TLeg
 f_begin : Bool
 deriving DecidableEq
instance : Inhabited Tl:=⟨⟨default,default,default,default⟩⟩
def Tlabel_rg (x:Tl) : Prop:=bg x.f_at ∧ bg x.f_from.f_place ∧ bg x.f_from.f_toll ∧ bg x.f_leg.fTrack ∧ bg x.f_leg.fHour
structure TJ where
 fLegs : (List TLeg)
 fA : Int
 fToll : Int
 deriving DecidableEq
instance : Inhabited TJ:=⟨⟨default,default,default⟩⟩
def TJourney_rg (x:TJ) : Prop:=(fk TLeg_rg x.fLegs) ∧ bg x.fA ∧ bg x.fToll
structure TO where
 fID : Int
 fH : TSpan
 fD : Int
 fW : Int
 deriving DecidableEq
instance : Inhabited TO:=⟨⟨default,default,default,default⟩⟩
def rX (x:TO) : Prop:=bg x.fID ∧ bg x.fH.fLo ∧ bg x.fH.fHi ∧ bg x.fD ∧ bg x.fW
structure TBay where
 fID : Int
 fHour : Int
 fD : Int
 deriving DecidableEq
instance : Inhabited TBay:=⟨⟨default,default,default⟩⟩
def TBay_rg (x:TBay) : Prop:=bg x.fID ∧ bg x.fHour ∧ bg x.fD
structure TY where
 fB : (List TBay)
 fR : (List TO)
 deriving DecidableEq
instance : Inhabited TY:=⟨⟨default,default⟩⟩
def TYard_rg (x:TY) : Prop:=(fk TBay_rg x.fB) ∧ (fk rX x.fR)
structure TPlan where
 fG : (List Int)
 fW : Int
 fPrices : (List Int)
 deriving DecidableEq
instance : Inhabited TPlan:=⟨⟨default,default,default⟩⟩
def TPlan_rg (x:TPlan) : Prop:=(fk bg x.fG) ∧ bg x.fW ∧ (fk bg x.fPrices)
structure TTimes where
 fH : (List (List Int))
 deriving DecidableEq
instance : Inhabited TTimes:=⟨⟨default⟩⟩
def TTimes_rg (x:TTimes) : Prop:=(fk (fk bg) x.fH)
structure TPoint where
 fToll : Int
 fA : Int
 deriving DecidableEq
instance : Inhabited TPoint:=⟨⟨default,default⟩⟩
def rQ (x:TPoint) : Prop:=bg x.fToll ∧ bg x.fA
structure TPointed where
 fP : TPoint
 fE : Int
 deriving DecidableEq
instance : Inhabited TPointed:=⟨⟨default,default⟩⟩
def TPointed_rg (x:TPointed) : Prop:=bg x.fP.fToll ∧ bg x.fP.fA ∧ bg x.fE
structure TInts where
 fL : (List Int)
 fE : Int
 deriving DecidableEq
instance : Inhabited TInts:=⟨⟨default,default⟩⟩
def TInts_rg (x:TInts) : Prop:=(fk bg x.fL) ∧ bg x.fE
structure TTimed where
 fT : TTimes
 fE : Int
 deriving DecidableEq
instance : Inhabited TTimed:=⟨⟨default,default⟩⟩
def TTimed_rg (x:TTimed) : Prop:=(fk (fk bg) x.fT.fH) ∧ bg x.fE
structure TFronted where
 fL : (List TPoint)
 fE : Int
 deriving DecidableEq
instance : Inhabited TFronted:=⟨⟨default,default⟩⟩
def TFronted_rg (x:TFronted) : Prop:=(fk rQ x.fL) ∧ bg x.fE
def aJ (x:Ts) : Bool:=du x.f_place && du x.f_toll
def ef (p0:TR) (s3:(Bool × Int)) : Option ((Bool × Int) ⊕ ((Bool × Int) ⊕ (Bool × Int))) :=
 (if decide (s3.2 < (p0.fTracks.length:Int)) = true then ao ((0:Int) ≤ s3.2 ∧ s3.2 < (p0.fTracks.length:Int)) ((if decide (12 < (((rdL p0.fTracks s3.2).fK.length : Nat) : Int)) = true then some (.inr (.inl (false,s3.2))) else some (.inl (s3.1,w64 (s3.2 + 1))))) else some (.inr (.inr (s3.1,s3.2))))
def eS (p0:TR) : Option Bool :=
 ((aW (ef p0) (false,0)).bind fun u4 => match u4 with | (.inl u9) => some u9.1 | (.inr u10) => some (((decide (p0.fPlaces ≤ 8)) || (decide (16 < p0.fPlaces))) && ((decide ((p0.fTracks.length:Int) ≤ 16)) || ((decide (48 < (p0.fTracks.length:Int))) && (decide ((p0.fTracks.length:Int) ≤ 60))))))
def ba (p0:Int) (p1:Int) (p2:Int) : Option Bool :=
 some ((decide (p1 ≤ p0)) && (decide (p0 ≤ p2)))
def dQ (p0:Int) : Option Bool :=
 ((ba p0 0 16384).bind fun y1 => some y1)
def dY (p0:(List TSpan)) (s2:(Bool × Int × Int)) : Option ((Bool × Int × Int) ⊕ ((Bool × Int × Int) ⊕ (Bool × Int × Int))) :=
 (if decide (s2.2.2 < (p0.length:Int)) = true then ao ((0:Int) ≤ s2.2.2 ∧ s2.2.2 < (p0.length:Int)) ((if (((decide ((rdL p0 s2.2.2).fLo < w64 (s2.2.1 + 2))) || (decide ((rdL p0 s2.2.2).fHi < (rdL p0 s2.2.2).fLo))) || (decide (16384 < (rdL p0 s2.2.2).fHi))) = true then some (.inr (.inl (false,s2.2.1,s2.2.2))) else some (.inl (s2.1,(rdL p0 s2.2.2).fHi,w64 (s2.2.2 + 1))))) else some (.inr (.inr (s2.1,s2.2.1,s2.2.2))))
def fj (p0:(List TSpan)) : Option Bool :=
 ((aW (dY p0) (false,(-2),0)).bind fun u3 => match u3 with | (.inl u11) => some u11.1 | (.inr u12) => some (decide ((p0.length:Int) ≤ 4)))
def aP (p0:(List TT)) (p1:TT → Option Bool) (s2:(Int × Int)) : Option ((Int × Int) ⊕ ((Int × Int) ⊕ (Int × Int))) :=
 (if decide (s2.2 < (p0.length:Int)) = true then ao ((0:Int) ≤ s2.2 ∧ s2.2 < (p0.length:Int)) (((p1 (TT.mk ((rdL p0 s2.2).fID) ((rdL p0 s2.2).fFrom) ((rdL p0 s2.2).fTo) ((rdL p0 s2.2).fLong) ((rdL p0 s2.2).fToll) ((rdL p0 s2.2).fK))).bind fun y6 => (if y6 = true then some (.inr (.inl (s2.2,s2.2))) else some (.inl (s2.1,w64 (s2.2 + 1)))))) else some (.inr (.inr (s2.1,s2.2))))
def bh (p0:(List TT)) (p1:TT → Option Bool) : Option Int :=
 ((aW (aP p0 p1) (0,0)).bind fun u3 => match u3 with | (.inl u10) => some u10.1 | (.inr u11) => some (-1))
def bK (p0:(List TT)) (p1:TT → Option Bool) : Option Int :=
 ((bh p0 p1).bind fun y1 => some y1)
def fV (p0:TT) (cap0:Int) : Option Bool :=
 some (p0.fID == cap0)
def ib (p0:TR) (p1:Int) : Option Int :=
 ((bK p0.fTracks (fun x3 => fV x3 p1)).bind fun y4 => some y4)
def fS (p0:Int) (cap0:TR) : Option Bool :=
 ((ba p0 0 (w64 (cap0.fPlaces - 1))).bind fun y1 => some y1)
def eW (p0:TR) (s7:(Int × Int)) : Option ((Int × Int) ⊕ ((Int × Int) ⊕ (Int × Int))) :=
 (if decide (s7.2 < (p0.fTracks.length:Int)) = true then ao ((0:Int) ≤ s7.2 ∧ s7.2 < (p0.fTracks.length:Int)) (((ba ((rdL p0.fTracks s7.2).fID) 1 1099511627776).bind fun y12 => ((if (!y12) = true then (some (true)) else ((fS ((rdL p0.fTracks s7.2).fFrom) p0).bind fun y42 => some ((!y42)))).bind fun b15 => ((if b15 = true then (some (true)) else ((fS ((rdL p0.fTracks s7.2).fTo) p0).bind fun y40 => some ((!y40)))).bind fun b18 => ((if (b18 || (((rdL p0.fTracks s7.2).fFrom) == ((rdL p0.fTracks s7.2).fTo))) = true then (some (true)) else ((ba ((rdL p0.fTracks s7.2).fLong) 1 72).bind fun y38 => some ((!y38)))).bind fun b22 => ((if b22 = true then (some (true)) else ((ba ((rdL p0.fTracks s7.2).fToll) 0 40).bind fun y36 => some ((!y36)))).bind fun b25 => ((if b25 = true then (some (true)) else ((fj ((rdL p0.fTracks s7.2).fK)).bind fun y34 => some ((!y34)))).bind fun b28 => (if b28 = true then some (.inr (.inl (1,s7.2))) else ((ib p0 ((rdL p0.fTracks s7.2).fID)).bind fun y31 => (if decide (y31 < s7.2) = true then some (.inr (.inl (6,s7.2))) else some (.inl (s7.1,w64 (s7.2 + 1))))))))))))) else some (.inr (.inr (s7.1,s7.2))))
def io (p0:TR) : Option Int :=
 ((ba p0.fPlaces 1 16).bind fun y2 => (if (!y2) = true then some 1 else (if decide (48 < (p0.fTracks.length:Int)) = true then some 2 else ((aW (eW p0) (0,0)).bind fun u8 => match u8 with | (.inl u45) => some u45.1 | (.inr u46) => some 0))))
def eJ (p0:TR) (p1:Int) (p2:Int) (p3:Int) (p4:Int) : Option Int :=
 ((io p0).bind fun y2 => (if (y2 != 0) = true then some y2 else ((ba p1 0 (w64 (p0.fPlaces - 1))).bind fun y5 => ((if (!y5) = true then (some (true)) else ((ba p2 0 (w64 (p0.fPlaces - 1))).bind fun y21 => some ((!y21)))).bind fun b8 => ((if b8 = true then (some (true)) else ((dQ p3).bind fun y19 => some ((!y19)))).bind fun b11 => ((if b11 = true then (some (true)) else ((ba p4 0 60).bind fun y17 => some ((!y17)))).bind fun b14 => (if b14 = true then some 1 else some 0)))))))
def dU (p0:TT) (s3:(Int × Int)) : Option ((Int × Int) ⊕ (Int × Int)) :=
 (if decide (s3.2 < (p0.fK.length:Int)) = true then ao ((0:Int) ≤ s3.2 ∧ s3.2 < (p0.fK.length:Int)) (((ba s3.1 ((rdL p0.fK s3.2).fLo) ((rdL p0.fK s3.2).fHi)).bind fun y8 => (if y8 = true then some (.inl (w64 (((rdL p0.fK s3.2).fHi) + 1),w64 (s3.2 + 1))) else some (.inl (s3.1,w64 (s3.2 + 1)))))) else some (.inr (s3.1,s3.2)))
def gt (p0:TT) (p1:Int) : Option (Int × Bool) :=
 ((aW (dU p0) (p1,0)).bind fun u4 => ((dQ u4.1).bind fun y12 => some (u4.1,y12)))
def bM (p0:(List Twait)) : Option Int :=
 some (p0.length:Int)
def bO (p0:(List Twait)) (p1:Int) (p2:Int) : Option Bool :=
 ao ((0:Int) ≤ p1 ∧ p1 < (p0.length:Int)) (ao ((0:Int) ≤ p2 ∧ p2 < (p0.length:Int)) (some (decide ((rdL p0 p1).f_at < (rdL p0 p2).f_at))))
def bA (p0:(List Twait)) (p1:Int) (p2:Int) : Option (List Twait) :=
 ao ((0:Int) ≤ p2 ∧ p2 < (p0.length:Int)) (ao ((0:Int) ≤ p1 ∧ p1 < (p0.length:Int)) (ao ((0:Int) ≤ p1 ∧ p1 < (p0.length:Int)) (ao ((0:Int) ≤ p2 ∧ p2 < (p0.length:Int)) (some ((p0.set (Int.toNat p1) (rdL p0 p2)).set (Int.toNat p2) (rdL p0 p1))))))
def cv (p2:Int) (s3:(Int × (List Twait))) : Option ((Int × (List Twait)) ⊕ (Int × (List Twait))) :=
 (if ((decide (p2 ≤ w64 ((w64 (2 * s3.1)) + 1))) || (decide (w64 ((w64 (2 * s3.1)) + 1) < 0))) = true then some (.inr (s3.1,s3.2)) else ((if decide (w64 ((w64 ((w64 (2 * s3.1)) + 1)) + 1) < p2) = true then ((bO s3.2 (w64 ((w64 ((w64 (2 * s3.1)) + 1)) + 1)) (w64 ((w64 (2 * s3.1)) + 1))).bind fun y23 => some (y23)) else (some (false))).bind fun b8 => (if b8 = true then ((bO s3.2 (w64 ((w64 ((w64 (2 * s3.1)) + 1)) + 1)) s3.1).bind fun y11 => (if (!y11) = true then some (.inr (s3.1,s3.2)) else ((bA s3.2 s3.1 (w64 ((w64 ((w64 (2 * s3.1)) + 1)) + 1))).bind fun y14 => some (.inl (w64 ((w64 ((w64 (2 * s3.1)) + 1)) + 1),y14))))) else ((bO s3.2 (w64 ((w64 (2 * s3.1)) + 1)) s3.1).bind fun y17 => (if (!y17) = true then some (.inr (s3.1,s3.2)) else ((bA s3.2 s3.1 (w64 ((w64 (2 * s3.1)) + 1))).bind fun y20 => some (.inl (w64 ((w64 (2 * s3.1)) + 1),y20))))))))
def cn (p0:(List Twait)) (p1:Int) (p2:Int) : Option (Bool × (List Twait)) :=
 ((aW (cv p2) (p1,p0)).bind fun u4 => some (decide (p1 < u4.1),u4.2))
def fF (p0:(List Twait)) : Option (Twait × (List Twait)) :=
 ao ((0:Int) ≤ w64 ((p0.length:Int) - 1) ∧ w64 ((p0.length:Int) - 1) < (p0.length:Int)) (ao ((0:Int) ≤ w64 ((p0.length:Int) - 1) ∧ w64 ((p0.length:Int) - 1) ≤ (p0.length:Int)) (some ((Twait.mk ((rdL p0 (w64 ((p0.length:Int) - 1))).f_at) (Ts.mk ((rdL p0 (w64 ((p0.length:Int) - 1))).f_stop.f_place) ((rdL p0 (w64 ((p0.length:Int) - 1))).f_stop.f_toll))),(p0.take (Int.toNat (w64 ((p0.length:Int) - 1)))))))
def cG (p0:(List Twait)) : Option (Twait × (List Twait)) :=
 ((bM p0).bind fun y1 => ((bA p0 0 (w64 (y1 - 1))).bind fun y3 => ((cn y3 0 (w64 (y1 - 1))).bind fun y6 => ((fF y6.2).bind fun y12 => some (y12.1,y12.2)))))
def eE (x:TR × Int) : Prop:=x.1.fTracks.length ≤ 1000
instance (x:TR × Int) : Decidable (eE x):=by unfold eE; infer_instance
def lR (x:TR × Int) : List TT:=x.1.fTracks.filter fun z => z.fFrom == x.2
def iN (p0:TR) (p1:Int) : Option Unit :=
 some ()
def cU (s3:(Int × (List Twait))) : Option ((Int × (List Twait)) ⊕ (Int × (List Twait))) :=
 ((if ((w64 (Int.tdiv (w64 (s3.1 - 1)) 2)) == s3.1) = true then (some (true)) else ((bO s3.2 s3.1 (w64 (Int.tdiv (w64 (s3.1 - 1)) 2))).bind fun y12 => some ((!y12)))).bind fun b6 => (if b6 = true then some (.inr (s3.1,s3.2)) else ((bA s3.2 (w64 (Int.tdiv (w64 (s3.1 - 1)) 2)) s3.1).bind fun y9 => some (.inl (w64 (Int.tdiv (w64 (s3.1 - 1)) 2),y9)))))
def db (p0:(List Twait)) (p1:Int) : Option (List Twait) :=
 ((aW (cU) (p1,p0)).bind fun u4 => some u4.2)
def eU (p0:(List Twait)) (p1:Twait) : Option (List Twait) :=
 ao (p0.length + 1 ≤ 1000000000) (some (p0 ++ [p1]))
def co (p0:(List Twait)) (p1:Twait) : Option (List Twait) :=
 ((eU p0 p1).bind fun y1 => ((bM y1).bind fun y7 => ((db y1 (w64 (y7 - 1))).bind fun y9 => some y9)))
def cf (y15:(Twait × (List Twait))) (s39:((List (Ts × Tl)) × (List Twait))) (x40:TT) : Option (((List (Ts × Tl)) × (List Twait)) ⊕ Unit) :=
 ((gt x40 y15.1.f_at).bind fun y43 => ((if ((!y43.2) || (decide (60 < w64 (y15.1.f_stop.f_toll + x40.fToll)))) = true then (some (true)) else ((dQ (w64 (y43.1 + x40.fLong))).bind fun y62 => some ((!y62)))).bind fun b48 => (if b48 = true then some (.inl (s39.1,s39.2)) else ao (aJ (Ts.mk x40.fTo (w64 (y15.1.f_stop.f_toll + x40.fToll))) = true) ((if ((a7 s39.1 (Ts.mk x40.fTo (w64 (y15.1.f_stop.f_toll + x40.fToll)))) && (decide ((ar (Tl.mk 0 (Ts.mk 0 0) (TLeg.mk 0 0) false) s39.1 (Ts.mk x40.fTo (w64 (y15.1.f_stop.f_toll + x40.fToll)))).f_at ≤ w64 (y43.1 + x40.fLong)))) = true then some (.inl (s39.1,s39.2)) else ao (aJ (Ts.mk x40.fTo (w64 (y15.1.f_stop.f_toll + x40.fToll))) = true ∧ List.length s39.1 < 1000000000) (((co s39.2 (Twait.mk (w64 (y43.1 + x40.fLong)) (Ts.mk x40.fTo (w64 (y15.1.f_stop.f_toll + x40.fToll))))).bind fun y56 => some (.inl ((((Ts.mk x40.fTo (w64 (y15.1.f_stop.f_toll + x40.fToll))),(Tl.mk (w64 (y43.1 + x40.fLong)) y15.1.f_stop (TLeg.mk x40.fID y43.1) false)) :: s39.1),y56)))))))))
def dw (p0:TR) (s10:((List Twait) × (List (Ts × Tl)))) : Option (((List Twait) × (List (Ts × Tl))) ⊕ ((List Twait) × (List (Ts × Tl)))) :=
 ((bM s10.1).bind fun y12 => (if decide (0 < y12) = true then ((cG s10.1).bind fun y15 => ao (aJ y15.1.f_stop = true) ((if decide ((ar (Tl.mk 0 (Ts.mk 0 0) (TLeg.mk 0 0) false) s10.2 y15.1.f_stop).f_at < y15.1.f_at) = true then some (.inl (y15.2,s10.2)) else ((iN p0 y15.1.f_stop.f_place).bind fun y24 => (ao (eE (p0,y15.1.f_stop.f_place)) ((f6 (cf y15) (lR (p0,y15.1.f_stop.f_place)) (s10.2,y15.2)).bind fun u41 => match u41 with | .inl u68 => some (.inl (u68.2,u68.1)) | .inr _ => none)))))) else some (.inr (s10.1,s10.2))))
def eh (p0:TR) (p1:Int) (p2:Int) : Option (List (Ts × Tl)) :=
 ao (aJ (Ts.mk p1 0) = true ∧ List.length ([]:(List (Ts × Tl))) < 1000000000) (((aW (dw p0) ([(Twait.mk p2 (Ts.mk p1 0))],(((Ts.mk p1 0),(Tl.mk p2 (Ts.mk 0 0) (TLeg.mk 0 0) true)) :: ([]:(List (Ts × Tl)))))).bind fun u11 => some u11.2))
def cE (p0:(List (Ts × Tl))) (p1:Int) (s5:(Int × Int × (List Int))) : Option ((Int × Int × (List Int)) ⊕ (Int × Int × (List Int))) :=
 (if decide (s5.2.1 < 61) = true then ao (aJ (Ts.mk p1 s5.2.1) = true) ((if ((a7 p0 (Ts.mk p1 s5.2.1)) && ((decide (s5.1 < 0)) || (decide ((ar (Tl.mk 0 (Ts.mk 0 0) (TLeg.mk 0 0) false) p0 (Ts.mk p1 s5.2.1)).f_at < s5.1)))) = true then ao ((0:Int) ≤ s5.2.1 ∧ s5.2.1 < 61) (some (.inl ((ar (Tl.mk 0 (Ts.mk 0 0) (TLeg.mk 0 0) false) p0 (Ts.mk p1 s5.2.1)).f_at,w64 (s5.2.1 + 1),(s5.2.2.set (Int.toNat s5.2.1) ((ar (Tl.mk 0 (Ts.mk 0 0) (TLeg.mk 0 0) false) p0 (Ts.mk p1 s5.2.1)).f_at))))) else ao ((0:Int) ≤ s5.2.1 ∧ s5.2.1 < 61) (some (.inl (s5.1,w64 (s5.2.1 + 1),(s5.2.2.set (Int.toNat s5.2.1) s5.1)))))) else some (.inr (s5.1,s5.2.1,s5.2.2)))
def dS (p0:(List (Ts × Tl))) (p1:Int) : Option (List Int) :=
 ((aW (cE p0 p1) ((-1),0,(List.replicate 61 0))).bind fun u6 => some u6.2.2)
def bo (p0:(List TLeg)) (s3:(Int × Int × (List TLeg))) : Option ((Int × Int × (List TLeg)) ⊕ (Int × Int × (List TLeg))) :=
 (if decide (s3.1 < s3.2.1) = true then ao ((0:Int) ≤ s3.2.1 ∧ s3.2.1 < (p0.length:Int)) (ao ((0:Int) ≤ s3.1 ∧ s3.1 < (p0.length:Int)) (ao ((0:Int) ≤ s3.1 ∧ s3.1 < (p0.length:Int)) (ao ((0:Int) ≤ s3.2.1 ∧ s3.2.1 < (p0.length:Int)) (some (.inl (w64 (s3.1 + 1),w64 (s3.2.1 - 1),((s3.2.2.set (Int.toNat s3.1) (rdL s3.2.2 s3.2.1)).set (Int.toNat s3.2.1) (rdL s3.2.2 s3.1)))))))) else some (.inr (s3.1,s3.2.1,s3.2.2)))
def bH (p0:(List TLeg)) : Option (List TLeg) :=
 ((aW (bo p0) (0,w64 ((p0.length:Int) - 1),p0)).bind fun u4 => some u4.2.2)
def cq (p0:(List (Ts × Tl))) (s9:(Tl × (List TLeg))) : Option ((Tl × (List TLeg)) ⊕ (Tl × (List TLeg))) :=
 (if (!s9.1.f_begin) = true then ao (s9.2.length + 1 ≤ 1000000000) (ao (aJ s9.1.f_from = true) (some (.inl ((Tl.mk ((ar (Tl.mk 0 (Ts.mk 0 0) (TLeg.mk 0 0) false) p0 s9.1.f_from).f_at) (Ts.mk ((ar (Tl.mk 0 (Ts.mk 0 0) (TLeg.mk 0 0) false) p0 s9.1.f_from).f_from.f_place) ((ar (Tl.mk 0 (Ts.mk 0 0) (TLeg.mk 0 0) false) p0 s9.1.f_from).f_from.f_toll)) (TLeg.mk ((ar (Tl.mk 0 (Ts.mk 0 0) (TLeg.mk 0 0) false) p0 s9.1.f_from).f_leg.fTrack) ((ar (Tl.mk 0 (Ts.mk 0 0) (TLeg.mk 0 0) false) p0 s9.1.f_from).f_leg.fHour)) ((ar (Tl.mk 0 (Ts.mk 0 0) (TLeg.mk 0 0) false) p0 s9.1.f_from).f_begin)),(s9.2 ++ [s9.1.f_leg]))))) else some (.inr (s9.1,s9.2)))
def fI (p0:(List (Ts × Tl))) (p1:Ts) : Option TJ :=
 ao (aJ p1 = true) (ao (aJ p1 = true) (((aW (cq p0) ((Tl.mk ((ar (Tl.mk 0 (Ts.mk 0 0) (TLeg.mk 0 0) false) p0 p1).f_at) (Ts.mk ((ar (Tl.mk 0 (Ts.mk 0 0) (TLeg.mk 0 0) false) p0 p1).f_from.f_place) ((ar (Tl.mk 0 (Ts.mk 0 0) (TLeg.mk 0 0) false) p0 p1).f_from.f_toll)) (TLeg.mk ((ar (Tl.mk 0 (Ts.mk 0 0) (TLeg.mk 0 0) false) p0 p1).f_leg.fTrack) ((ar (Tl.mk 0 (Ts.mk 0 0) (TLeg.mk 0 0) false) p0 p1).f_leg.fHour)) ((ar (Tl.mk 0 (Ts.mk 0 0) (TLeg.mk 0 0) false) p0 p1).f_begin)),([]:List TLeg))).bind fun u10 => ((bH u10.2).bind fun y19 => some (TJ.mk y19 ((ar (Tl.mk 0 (Ts.mk 0 0) (TLeg.mk 0 0) false) p0 p1).f_at) p1.f_toll)))))
def eP (p2:Int) (y2:(List (Ts × Tl))) (y5:(List Int)) (s11:(Int × Int × (List TJ))) : Option ((Int × Int × (List TJ)) ⊕ (Int × Int × (List TJ))) :=
 (if decide (s11.2.1 < 61) = true then ao ((0:Int) ≤ s11.2.1 ∧ s11.2.1 < 61) ((if ((rdL y5 s11.2.1) != s11.1) = true then ((fI y2 (Ts.mk p2 s11.2.1)).bind fun y16 => ao (s11.2.2.length + 1 ≤ 1000000000) (some (.inl ((rdL y5 s11.2.1),w64 (s11.2.1 + 1),(s11.2.2 ++ [y16]))))) else some (.inl ((rdL y5 s11.2.1),w64 (s11.2.1 + 1),s11.2.2)))) else some (.inr (s11.1,s11.2.1,s11.2.2)))
def gp (p0:TR) (p1:Int) (p2:Int) (p3:Int) : Option (List TJ) :=
 ((eh p0 p1 p3).bind fun y2 => ((dS y2 p2).bind fun y5 => ((aW (eP p2 y2 y5) ((-1),0,([]:List TJ))).bind fun u12 => some u12.2.2)))
def fY (p4:Int) (y4:(List TJ)) (s18:(Bool × Int × (List TLeg) × Int × Int)) : Option ((Bool × Int × (List TLeg) × Int × Int) ⊕ (Bool × Int × (List TLeg) × Int × Int)) :=
 (if decide (s18.2.1 < (y4.length:Int)) = true then ao ((0:Int) ≤ s18.2.1 ∧ s18.2.1 < (y4.length:Int)) ((if decide ((rdL y4 s18.2.1).fToll ≤ p4) = true then some (.inl (true,w64 (s18.2.1 + 1),(rdL y4 s18.2.1).fLegs,(rdL y4 s18.2.1).fA,(rdL y4 s18.2.1).fToll)) else some (.inl (s18.1,w64 (s18.2.1 + 1),s18.2.2.1,s18.2.2.2.1,s18.2.2.2.2)))) else some (.inr (s18.1,s18.2.1,s18.2.2.1,s18.2.2.2.1,s18.2.2.2.2)))
def gz (p0:TR) (p1:Int) (p2:Int) (p3:Int) (p4:Int) : Option (TJ × Bool) :=
 ((gp p0 p1 p2 p3).bind fun y4 => ((aW (fY p4 y4) (false,0,([]:(List TLeg)),0,0)).bind fun u19 => some ((TJ.mk u19.2.2.1 u19.2.2.2.1 u19.2.2.2.2),u19.1)))
def bG (p0:TR) (p1:Int) (p2:Int) (p3:Int) (p4:Int) : Option (TJ × Int) :=
 ((eJ p0 p1 p2 p3 p4).bind fun y3 => (if (y3 != 0) = true then some ((TJ.mk ([]:(List TLeg)) 0 0),y3) else ((gz p0 p1 p2 p3 p4).bind fun y6 => (if (!y6.2) = true then some ((TJ.mk ([]:(List TLeg)) 0 0),5) else some (y6.1,0)))))
def fb (p0:Int) (cap0:TR) (cap1:Int) (cap2:Int) (cap3:Int) (cap4:Int) : Option Bool :=
 ((gz cap0 cap1 cap2 p0 cap3).bind fun y1 => some (y1.2 && (decide (y1.1.fA ≤ cap4))))
def fC (p0:TR) (p1:Int) (p2:Int) (p3:Int) (p4:Int) (s10:(Int × Int)) : Option ((Int × Int) ⊕ (Int × Int)) :=
 (if decide (s10.1 ≤ s10.2) = true then ((fb (w64 (Int.tdiv (w64 (s10.1 + s10.2)) 2)) p0 p1 p2 p4 p3).bind fun y13 => (if y13 = true then some (.inl (w64 ((w64 (Int.tdiv (w64 (s10.1 + s10.2)) 2)) + 1),s10.2)) else some (.inl (s10.1,w64 ((w64 (Int.tdiv (w64 (s10.1 + s10.2)) 2)) - 1))))) else some (.inr (s10.1,s10.2)))
def fi (p0:TR) (p1:Int) (p2:Int) (p3:Int) (p4:Int) : Option (Int × Int) :=
 ((eJ p0 p1 p2 p3 p4).bind fun y6 => (if (y6 != 0) = true then some (0,y6) else ((aW (fC p0 p1 p2 p3 p4) (0,p3)).bind fun u11 => (if decide (u11.2 < 0) = true then some (0,5) else some (u11.2,0)))))
def cL (p0:(List TT)) (p1:Int) (p2:Int) : Option (List TT) :=
 ao ((0:Int) ≤ p1 ∧ p1 ≤ p2 ∧ p2 ≤ (p0.length:Int) ∧ (p0.length:Int) ≤ (p0.length:Int)) ((if (p1 == p2) = true then some p0 else ao ((0:Int) ≤ p1 ∧ p1 ≤ (p0.length:Int)) (ao ((0:Int) ≤ p2 ∧ p2 ≤ (p0.length:Int)) (ao (p1 ≤ p2) (some (p0.take (Int.toNat p1) ++ p0.drop (Int.toNat p2)))))))
def bt (p0:(List TT)) : Option (List TT) :=
 ao (0 + p0.length ≤ 1000000000) (some (([]:List TT) ++ p0))
def dl (p0:Int) : Option Bool :=
 some (p0 != p0)
def fO (p0:Int) (p1:Int) : Option Bool :=
 ((dl p0).bind fun y1 => ((if y1 = true then ((dl p1).bind fun y7 => some ((!y7))) else (some (false))).bind fun b4 => some (b4 || (decide (p0 < p1)))))
def aL (p0:(List Int)) (p1:Int) (s8:(Int × (List Int))) : Option ((Int × (List Int)) ⊕ (Int × (List Int))) :=
 ((if decide (p1 < s8.1) = true then (ao ((0:Int) ≤ s8.1 ∧ s8.1 < (p0.length:Int)) (ao ((0:Int) ≤ w64 (s8.1 - 1) ∧ w64 (s8.1 - 1) < (p0.length:Int)) (((fO (rdL s8.2 s8.1) (rdL s8.2 (w64 (s8.1 - 1)))).bind fun y21 => some (y21))))) else (some (false))).bind fun b11 => (if b11 = true then ao ((0:Int) ≤ w64 (s8.1 - 1) ∧ w64 (s8.1 - 1) < (p0.length:Int)) (ao ((0:Int) ≤ s8.1 ∧ s8.1 < (p0.length:Int)) (ao ((0:Int) ≤ s8.1 ∧ s8.1 < (p0.length:Int)) (ao ((0:Int) ≤ w64 (s8.1 - 1) ∧ w64 (s8.1 - 1) < (p0.length:Int)) (some (.inl (w64 (s8.1 - 1),((s8.2.set (Int.toNat s8.1) (rdL s8.2 (w64 (s8.1 - 1)))).set (Int.toNat (w64 (s8.1 - 1))) (rdL s8.2 s8.1)))))))) else some (.inr (s8.1,s8.2))))
def aA (p0:(List Int)) (p1:Int) (p2:Int) (s3:(Int × (List Int))) : Option ((Int × (List Int)) ⊕ (Int × (List Int))) :=
 (if decide (s3.1 < p2) = true then ((aW (aL p0 p1) (s3.1,s3.2)).bind fun u9 => some (.inl (w64 (s3.1 + 1),u9.2))) else some (.inr (s3.1,s3.2)))
def a8 (p0:(List Int)) (p1:Int) (p2:Int) : Option (List Int) :=
 ((aW (aA p0 p1 p2) (w64 (p1 + 1),p0)).bind fun u4 => some u4.2)
def lenv (x:Int) : Int:=if x < 1 then 0 else if x < 2 then 1 else if x < 4 then 2 else if x < 8 then 3 else 4
def eQ (p0:Int) : Option Int:=ao (0 ≤ p0 ∧ p0 < 16) (some (w64 (0 + lenv p0)))
def gg (p0:Int) : Option Int :=
 ((eQ p0).bind fun y1 => some y1)
def bv (s3:(Int × Int × Int × Bool × Bool × (List Int))) : Option ((Int × Int × Int × Bool × Bool × (List Int)) ⊕ (Int × Int × Int × Bool × Bool × (List Int))) :=
 ao (decide (w64 (s3.2.1 - s3.1) ≤ 12) = true) (((a8 s3.2.2.2.2.2 s3.1 s3.2.1).bind fun y6 => some (.inr (s3.1,s3.2.1,s3.2.2.1,s3.2.2.2.1,s3.2.2.2.2.1,y6))))
def bN (p0:(List Int)) (p1:Int) (p2:Int) (p3:Int) : Option (List Int) :=
 ((aW (bv) (p1,p2,p3,true,true,p0)).bind fun u4 => some u4.2.2.2.2.2)
def ct (p0:(List Int)) : Option (List Int):=ao (p0.length ≤ 12) (some (qC p0))
def jE (p0:TR) (p1:Int) (p2:Int) (p3:Int) (p4:Int) (y2:(TJ × Int)) (s16:(Int × (List Int))) : Option ((Int × (List Int)) ⊕ (Int × (List Int))) :=
 (if decide (s16.1 < (p0.fTracks.length:Int)) = true then ao ((0:Int) ≤ s16.1 ∧ s16.1 < (p0.fTracks.length:Int)) (((bt p0.fTracks).bind fun y22 => ((cL y22 s16.1 (w64 (s16.1 + 1))).bind fun y31 => ((gz (TR.mk p0.fPlaces y31) p1 p2 p3 p4).bind fun y40 => (if ((!y40.2) || (y40.1.fA != y2.1.fA)) = true then ao (s16.2.length + 1 ≤ 1000000000) (some (.inl (w64 (s16.1 + 1),(s16.2 ++ [(rdL p0.fTracks s16.1).fID])))) else some (.inl (w64 (s16.1 + 1),s16.2))))))) else some (.inr (s16.1,s16.2)))
def iG (p0:TR) (p1:Int) (p2:Int) (p3:Int) (p4:Int) : Option ((List Int) × Int) :=
 ((bG p0 p1 p2 p3 p4).bind fun y2 => (if (y2.2 != 0) = true then some ([],y2.2) else ((aW (jE p0 p1 p2 p3 p4 y2) (0,([]:List Int))).bind fun u17 => ((ct u17.2).bind fun y58 => some (y58,0)))))
def ij (p0:(List Int)) (p1:(List Int)) (s3:(Bool × Int)) : Option ((Bool × Int) ⊕ ((Bool × Int) ⊕ (Bool × Int))) :=
 (if decide (s3.2 < (p0.length:Int)) = true then ao ((0:Int) ≤ s3.2 ∧ s3.2 < (p0.length:Int)) (ao ((0:Int) ≤ s3.2 ∧ s3.2 < (p1.length:Int)) ((if ((rdL p0 s3.2) != (rdL p1 s3.2)) = true then some (.inr (.inl (false,s3.2))) else some (.inl (s3.1,w64 (s3.2 + 1)))))) else some (.inr (.inr (s3.1,s3.2))))
def cO (p0:(List Int)) (p1:(List Int)) : Option Bool :=
 (if ((p0.length:Int) != (p1.length:Int)) = true then some false else ((aW (ij p0 p1) (false,0)).bind fun u4 => match u4 with | (.inl u10) => some u10.1 | (.inr u11) => some true))
def cZ (p0:(List TO)) (p1:TO → Option Bool) (s2:(Int × Int)) : Option ((Int × Int) ⊕ ((Int × Int) ⊕ (Int × Int))) :=
 (if decide (s2.2 < (p0.length:Int)) = true then ao ((0:Int) ≤ s2.2 ∧ s2.2 < (p0.length:Int)) (((p1 (TO.mk ((rdL p0 s2.2).fID) (TSpan.mk ((rdL p0 s2.2).fH.fLo) ((rdL p0 s2.2).fH.fHi)) ((rdL p0 s2.2).fD) ((rdL p0 s2.2).fW))).bind fun y6 => (if y6 = true then some (.inr (.inl (s2.2,s2.2))) else some (.inl (s2.1,w64 (s2.2 + 1)))))) else some (.inr (.inr (s2.1,s2.2))))
def cd (p0:(List TO)) (p1:TO → Option Bool) : Option Int :=
 ((aW (cZ p0 p1) (0,0)).bind fun u3 => match u3 with | (.inl u10) => some u10.1 | (.inr u11) => some (-1))
def cJ (p0:(List TO)) (p1:TO → Option Bool) : Option Int :=
 ((cd p0 p1).bind fun y1 => some y1)
def gX (p0:TO) (cap0:Int) : Option Bool :=
 some (p0.fID == cap0)
def g9 (p0:TY) (p1:Int) : Option Int :=
 ((cJ p0.fR (fun x3 => gX x3 p1)).bind fun y4 => some y4)
def dR (p0:(List TBay)) (p1:TBay → Option Bool) (s2:(Int × Int)) : Option ((Int × Int) ⊕ ((Int × Int) ⊕ (Int × Int))) :=
 (if decide (s2.2 < (p0.length:Int)) = true then ao ((0:Int) ≤ s2.2 ∧ s2.2 < (p0.length:Int)) (((p1 (TBay.mk ((rdL p0 s2.2).fID) ((rdL p0 s2.2).fHour) ((rdL p0 s2.2).fD))).bind fun y6 => (if y6 = true then some (.inr (.inl (s2.2,s2.2))) else some (.inl (s2.1,w64 (s2.2 + 1)))))) else some (.inr (.inr (s2.1,s2.2))))
def df (p0:(List TBay)) (p1:TBay → Option Bool) : Option Int :=
 ((aW (dR p0 p1) (0,0)).bind fun u3 => match u3 with | (.inl u10) => some u10.1 | (.inr u11) => some (-1))
def di (p0:(List TBay)) (p1:TBay → Option Bool) : Option Int :=
 ((df p0 p1).bind fun y1 => some y1)
def jA (p0:TBay) (cap0:Int) : Option Bool :=
 some (p0.fID == cap0)
def lO (p0:TY) (p1:Int) : Option Int :=
 ((di p0.fB (fun x3 => jA x3 p1)).bind fun y4 => some y4)
def iu (p0:TY) (s5:(Int × Int)) : Option ((Int × Int) ⊕ ((Int × Int) ⊕ (Int × Int))) :=
 (if decide (s5.2 < (p0.fB.length:Int)) = true then ao ((0:Int) ≤ s5.2 ∧ s5.2 < (p0.fB.length:Int)) (((ba ((rdL p0.fB s5.2).fID) 1 1099511627776).bind fun y10 => ((if (!y10) = true then (some (true)) else ((dQ ((rdL p0.fB s5.2).fHour)).bind fun y24 => some ((!y24)))).bind fun b13 => ((if b13 = true then (some (true)) else ((ba ((rdL p0.fB s5.2).fD) 0 9).bind fun y22 => some ((!y22)))).bind fun b16 => (if b16 = true then some (.inr (.inl (1,s5.2))) else ((lO p0 ((rdL p0.fB s5.2).fID)).bind fun y19 => (if decide (y19 < s5.2) = true then some (.inr (.inl (6,s5.2))) else some (.inl (s5.1,w64 (s5.2 + 1)))))))))) else some (.inr (.inr (s5.1,s5.2))))
def ip (p0:TY) (s30:(Int × Int)) : Option ((Int × Int) ⊕ ((Int × Int) ⊕ (Int × Int))) :=
 (if decide (s30.2 < (p0.fR.length:Int)) = true then ao ((0:Int) ≤ s30.2 ∧ s30.2 < (p0.fR.length:Int)) (((ba ((rdL p0.fR s30.2).fID) 1 1099511627776).bind fun y35 => ((if (!y35) = true then (some (true)) else ((dQ ((rdL p0.fR s30.2).fH.fLo)).bind fun y60 => some ((!y60)))).bind fun b38 => ((if b38 = true then (some (true)) else ((dQ ((rdL p0.fR s30.2).fH.fHi)).bind fun y58 => some ((!y58)))).bind fun b41 => ((if (b41 || (decide ((rdL p0.fR s30.2).fH.fHi < (rdL p0.fR s30.2).fH.fLo))) = true then (some (true)) else ((ba ((rdL p0.fR s30.2).fD) 0 9).bind fun y56 => some ((!y56)))).bind fun b45 => ((if b45 = true then (some (true)) else ((ba ((rdL p0.fR s30.2).fW) 1 1000).bind fun y54 => some ((!y54)))).bind fun b48 => (if b48 = true then some (.inr (.inl (1,s30.2))) else ((g9 p0 ((rdL p0.fR s30.2).fID)).bind fun y51 => (if decide (y51 < s30.2) = true then some (.inr (.inl (6,s30.2))) else some (.inl (s30.1,w64 (s30.2 + 1)))))))))))) else some (.inr (.inr (s30.1,s30.2))))
def cN (p0:TY) : Option Int :=
 (if ((decide (24 < (p0.fB.length:Int))) || (decide (24 < (p0.fR.length:Int)))) = true then some 2 else ((aW (iu p0) (0,0)).bind fun u6 => match u6 with | (.inl u27) => some u27.1 | (.inr u28) => ((aW (ip p0) (u28.1,0)).bind fun u31 => match u31 with | (.inl u63) => some u63.1 | (.inr u64) => some 0)))
def iv (p0:TO) (p1:TBay) : Option Bool :=
 ((ba p1.fHour p0.fH.fLo p0.fH.fHi).bind fun y3 => some (y3 && (decide (p0.fD ≤ p1.fD))))
def bB (p0:Int) (cap0:TY) (rec_:Int → TY → (List (Int × Bool)) → (List (Int × Int)) → Option (Bool × (List (Int × Bool)) × (List (Int × Int)))) (s3:(Bool × Int × (List (Int × Bool)) × (List (Int × Int)))) : Option ((Bool × Int × (List (Int × Bool)) × (List (Int × Int))) ⊕ ((Bool × Int × (List (Int × Bool)) × (List (Int × Int))) ⊕ (Bool × Int × (List (Int × Bool)) × (List (Int × Int))))) :=
 (if decide (s3.2.1 < (cap0.fB.length:Int)) = true then ao ((0:Int) ≤ s3.2.1 ∧ s3.2.1 < (cap0.fB.length:Int)) (ao (du s3.2.1 = true) (((if ar false s3.2.2.1 s3.2.1 = true then (some (true)) else (ao ((0:Int) ≤ p0 ∧ p0 < (cap0.fR.length:Int)) (((iv (TO.mk ((rdL cap0.fR p0).fID) (TSpan.mk ((rdL cap0.fR p0).fH.fLo) ((rdL cap0.fR p0).fH.fHi)) ((rdL cap0.fR p0).fD) ((rdL cap0.fR p0).fW)) (TBay.mk ((rdL cap0.fB s3.2.1).fID) ((rdL cap0.fB s3.2.1).fHour) ((rdL cap0.fB s3.2.1).fD))).bind fun y22 => some ((!y22)))))).bind fun b10 => (if b10 = true then some (.inl (s3.1,w64 (s3.2.1 + 1),s3.2.2.1,s3.2.2.2)) else ao (du s3.2.1 = true ∧ List.length s3.2.2.1 < 1000000000) (ao (du s3.2.1 = true) ((if (!(a7 s3.2.2.2 s3.2.1)) = true then (ao (du s3.2.1 = true ∧ List.length s3.2.2.2 < 1000000000) (some (.inr (.inl (true,s3.2.1,((s3.2.1,true) :: s3.2.2.1),((s3.2.1,p0) :: s3.2.2.2)))))) else ((rec_ (ar 0 s3.2.2.2 s3.2.1) cap0 ((s3.2.1,true) :: s3.2.2.1) s3.2.2.2).bind fun y17 => (if y17.1 = true then ao (du s3.2.1 = true ∧ List.length y17.2.2 < 1000000000) (some (.inr (.inl (true,s3.2.1,y17.2.1,((s3.2.1,p0) :: y17.2.2))))) else some (.inl (s3.1,w64 (s3.2.1 + 1),y17.2.1,y17.2.2))))))))))) else some (.inr (.inr (s3.1,s3.2.1,s3.2.2.1,s3.2.2.2))))
def dm (rec_:Int → TY → (List (Int × Bool)) → (List (Int × Int)) → Option (Bool × (List (Int × Bool)) × (List (Int × Int)))) (p0:Int) (cap0:TY) (cap1:(List (Int × Bool))) (cap2:(List (Int × Int))) : Option (Bool × (List (Int × Bool)) × (List (Int × Int))) :=
 ((aW (bB p0 cap0 rec_) (false,0,cap1,cap2)).bind fun u4 => match u4 with | (.inl u25) => some (u25.1,u25.2.2.1,u25.2.2.2) | (.inr u26) => some (false,u26.2.2.1,u26.2.2.2))
def bf : Nat → Int → TY → (List (Int × Bool)) → (List (Int × Int)) → Option (Bool × (List (Int × Bool)) × (List (Int × Int)))
 | 0 => fun _ _ _ _ => none
 | fuel + 1 => dm (bf fuel)
def eR (p0:(List (Int × Int))) (p1:TY) (p2:Int) : Option (Bool × (List (Int × Int))) :=
 ((bf (p1.fB.length + 2) p2 p1 [] p0).bind fun y6 => some (y6.1,y6.2.2))
def cC (p0:(List Int)) (p1:Int) (p3:Int → Int → Option Int) (s8:(Int × (List Int))) : Option ((Int × (List Int)) ⊕ (Int × (List Int))) :=
 ((if decide (p1 < s8.1) = true then (ao ((0:Int) ≤ s8.1 ∧ s8.1 < (p0.length:Int)) (ao ((0:Int) ≤ w64 (s8.1 - 1) ∧ w64 (s8.1 - 1) < (p0.length:Int)) (((p3 (rdL s8.2 s8.1) (rdL s8.2 (w64 (s8.1 - 1)))).bind fun y21 => some (decide (y21 < 0)))))) else (some (false))).bind fun b11 => (if b11 = true then ao ((0:Int) ≤ w64 (s8.1 - 1) ∧ w64 (s8.1 - 1) < (p0.length:Int)) (ao ((0:Int) ≤ s8.1 ∧ s8.1 < (p0.length:Int)) (ao ((0:Int) ≤ s8.1 ∧ s8.1 < (p0.length:Int)) (ao ((0:Int) ≤ w64 (s8.1 - 1) ∧ w64 (s8.1 - 1) < (p0.length:Int)) (some (.inl (w64 (s8.1 - 1),((s8.2.set (Int.toNat s8.1) (rdL s8.2 (w64 (s8.1 - 1)))).set (Int.toNat (w64 (s8.1 - 1))) (rdL s8.2 s8.1)))))))) else some (.inr (s8.1,s8.2))))
def cD (p0:(List Int)) (p1:Int) (p2:Int) (p3:Int → Int → Option Int) (s3:(Int × (List Int))) : Option ((Int × (List Int)) ⊕ (Int × (List Int))) :=
 (if decide (s3.1 < p2) = true then ((aW (cC p0 p1 p3) (s3.1,s3.2)).bind fun u9 => some (.inl (w64 (s3.1 + 1),u9.2))) else some (.inr (s3.1,s3.2)))
def bJ (p0:(List Int)) (p1:Int) (p2:Int) (p3:Int → Int → Option Int) : Option (List Int) :=
 ((aW (cD p0 p1 p2 p3) (w64 (p1 + 1),p0)).bind fun u4 => some u4.2)
def dO (p1:Int) (s2:(Int × Int)) : Option ((Int × Int) ⊕ (Int × Int)) :=
 ao (decide (s2.2 ≤ p1) = false) (some (.inr (s2.1,s2.2)))
def dL (p1:Int) (s10:(Int × Int × Int)) : Option ((Int × Int × Int) ⊕ (Int × Int × Int)) :=
 ao (decide (s10.1 < p1) = false) (some (.inr (s10.1,s10.2.1,s10.2.2)))
def cY (p0:(List Int)) (p1:Int) (p2:Int → Int → Option Int) : Option (List Int) :=
 ((aW (dO p1) (0,20)).bind fun u3 => ((bJ p0 u3.1 p1 p2).bind fun y6 => ((aW (dL p1) (20,u3.1,u3.2)).bind fun u11 => some y6)))
def bW (p0:(List Int)) (p1:Int → Int → Option Int) : Option (List Int) :=
 ((cY p0 (p0.length:Int) p1).bind fun y1 => some y1)
def gK (p0:Int) (p1:Int) : Option Int :=
 ((dl p0).bind fun y1 => ((dl p1).bind fun y3 => (if y1 = true then (if y3 = true then some 0 else some (-1)) else (if y3 = true then some 1 else (if decide (p0 < p1) = true then some (-1) else (if decide (p1 < p0) = true then some 1 else some 0))))))
def gU (p0:Int) (p1:Int) (cap0:TY) : Option Int :=
 ao ((0:Int) ≤ p1 ∧ p1 < (cap0.fR.length:Int)) (ao ((0:Int) ≤ p0 ∧ p0 < (cap0.fR.length:Int)) (((gK ((rdL cap0.fR p1).fW) ((rdL cap0.fR p0).fW)).bind fun y3 => some y3)))
def j9 (p0:TY) (s4:(Int × (List Int))) : Option ((Int × (List Int)) ⊕ (Int × (List Int))) :=
 (if decide (s4.1 < (p0.fR.length:Int)) = true then ao (s4.2.length + 1 ≤ 1000000000) (some (.inl (w64 (s4.1 + 1),(s4.2 ++ [s4.1])))) else some (.inr (s4.1,s4.2)))
def kD (p0:TY) (u5:(Int × (List Int))) (y14:(List Int)) (s20:(Int × (List (Int × Int)))) : Option ((Int × (List (Int × Int))) ⊕ (Int × (List (Int × Int)))) :=
 (if decide (s20.1 < (u5.2.length:Int)) = true then ao ((0:Int) ≤ s20.1 ∧ s20.1 < (u5.2.length:Int)) (((eR s20.2 p0 (rdL y14 s20.1)).bind fun y24 => some (.inl (w64 (s20.1 + 1),y24.2)))) else some (.inr (s20.1,s20.2)))
def ju (p0:TY) : Option (List (Int × Int)) :=
 ((aW (j9 p0) (0,([]:List Int))).bind fun u5 => ((bW u5.2 (fun x12 x13 => gU x12 x13 p0)).bind fun y14 => ((aW (kD p0 u5 y14) (0,[])).bind fun u21 => some u21.2)))
def eg (p0:(List (Int × Int))) (p1:TY) : Option Int :=
 ao ((f7 p0).all (fun y5 => du y5 && decide (((0:Int) ≤ ar 0 p0 y5 ∧ ar 0 p0 y5 < (p1.fR.length:Int)))) = true) (some ((f7 p0).foldl (fun a y5 => w64 (a + ((rdL p1.fR (ar 0 p0 y5)).fW))) 0))
def eF (p0:TY) : Option Int :=
 ((ju p0).bind fun y2 => ((eg y2 p0).bind fun y5 => some y5))
def iA (p0__:TO) (p1:Int → Option Int) (cap0:Int) : Option Bool :=
 ((p1 0).bind fun y2 => some (decide (y2 < cap0)))
def jo (p0:TO) (p1:Int → Option Int) (cap0:Int) : Option Bool :=
 ((p1 (w64 (p0.fW + 1))).bind fun y2 => some (y2 == cap0))
def c3 (p0:(List TO)) : Option (List TO) :=
 ao (0 + p0.length ≤ 1000000000) (some (([]:List TO) ++ p0))
def eD (p0:Int) (cap0:TY) (cap1:Int) : Option Int :=
 ((c3 cap0.fR).bind fun y2 => ao ((0:Int) ≤ cap1 ∧ cap1 < (y2.length:Int)) (((eF (TY.mk cap0.fB (y2.set (Int.toNat cap1) (TO.mk ((rdL y2 cap1).fID) (TSpan.mk ((rdL y2 cap1).fH.fLo) ((rdL y2 cap1).fH.fHi)) ((rdL y2 cap1).fD) p0)))).bind fun y10 => some y10)))
def fN (p0:TY) (cap0:Int) (s4:(Int × (List Int))) : Option ((Int × (List Int)) ⊕ (Int × (List Int))) :=
 (if decide (s4.1 < (p0.fR.length:Int)) = true then ao ((0:Int) ≤ s4.1 ∧ s4.1 < (p0.fR.length:Int)) (((iA (TO.mk ((rdL p0.fR s4.1).fID) (TSpan.mk ((rdL p0.fR s4.1).fH.fLo) ((rdL p0.fR s4.1).fH.fHi)) ((rdL p0.fR s4.1).fD) ((rdL p0.fR s4.1).fW)) (fun x10 => eD x10 p0 s4.1) cap0).bind fun y11 => (if y11 = true then ao (s4.2.length + 1 ≤ 1000000000) (some (.inl (w64 (s4.1 + 1),(s4.2 ++ [(rdL p0.fR s4.1).fID])))) else some (.inl (w64 (s4.1 + 1),s4.2))))) else some (.inr (s4.1,s4.2)))
def fe (p0:TY) (cap0:Int) : Option (List Int) :=
 ((aW (fN p0 cap0) (0,([]:List Int))).bind fun u5 => ((ct u5.2).bind fun y19 => some y19))
def f8 (p0:TY) (cap0:Int) (s4:(Int × (List Int))) : Option ((Int × (List Int)) ⊕ (Int × (List Int))) :=
 (if decide (s4.1 < (p0.fR.length:Int)) = true then ao ((0:Int) ≤ s4.1 ∧ s4.1 < (p0.fR.length:Int)) (((jo (TO.mk ((rdL p0.fR s4.1).fID) (TSpan.mk ((rdL p0.fR s4.1).fH.fLo) ((rdL p0.fR s4.1).fH.fHi)) ((rdL p0.fR s4.1).fD) ((rdL p0.fR s4.1).fW)) (fun x10 => eD x10 p0 s4.1) cap0).bind fun y11 => (if y11 = true then ao (s4.2.length + 1 ≤ 1000000000) (some (.inl (w64 (s4.1 + 1),(s4.2 ++ [(rdL p0.fR s4.1).fID])))) else some (.inl (w64 (s4.1 + 1),s4.2))))) else some (.inr (s4.1,s4.2)))
def fp (p0:TY) (cap0:Int) : Option (List Int) :=
 ((aW (f8 p0 cap0) (0,([]:List Int))).bind fun u5 => ((ct u5.2).bind fun y19 => some y19))
def jR (p0:TY) : Option ((List Int) × Int) :=
 ((cN p0).bind fun y2 => (if (y2 != 0) = true then some ([],y2) else ((eF p0).bind fun y5 => ((fe p0 y5).bind fun y8 => some (y8,0)))))
def kS (p0:TY) : Option ((List Int) × Int) :=
 ((cN p0).bind fun y2 => (if (y2 != 0) = true then some ([],y2) else ((eF p0).bind fun y5 => ((fp p0 y5).bind fun y8 => some (y8,0)))))
def kU (p0:Int) (cap0:(List (Int × Int))) (cap1:TY) : Option (Bool × (List (Int × Int))) :=
 ((g9 cap1 p0).bind fun y1 => ((eR cap0 cap1 y1).bind fun y3 => some ((!y3.1),y3.2)))
def cP (p0:(List Int)) (cap1:TY) (s3:(Int × Int × (List (Int × Int)))) : Option ((Int × Int × (List (Int × Int))) ⊕ ((Int × Int × (List (Int × Int))) ⊕ (Int × Int × (List (Int × Int))))) :=
 (if decide (s3.2.1 < (p0.length:Int)) = true then ao ((0:Int) ≤ s3.2.1 ∧ s3.2.1 < (p0.length:Int)) (((kU (rdL p0 s3.2.1) s3.2.2 cap1).bind fun y7 => (if y7.1 = true then some (.inr (.inl (s3.2.1,s3.2.1,y7.2))) else some (.inl (s3.1,w64 (s3.2.1 + 1),y7.2))))) else some (.inr (.inr (s3.1,s3.2.1,s3.2.2))))
def bX (p0:(List Int)) (cap0:(List (Int × Int))) (cap1:TY) : Option (Int × (List (Int × Int))) :=
 ((aW (cP p0 cap1) (0,0,cap0)).bind fun u4 => match u4 with | (.inl u11) => some (u11.1,u11.2.2) | (.inr u12) => some ((-1),u12.2.2))
def dM (p0:(List Int)) (p1:Int → Option Bool) (s2:(Int × Int)) : Option ((Int × Int) ⊕ ((Int × Int) ⊕ (Int × Int))) :=
 (if decide (s2.2 < (p0.length:Int)) = true then ao ((0:Int) ≤ s2.2 ∧ s2.2 < (p0.length:Int)) (((p1 (rdL p0 s2.2)).bind fun y6 => (if y6 = true then some (.inr (.inl (s2.2,s2.2))) else some (.inl (s2.1,w64 (s2.2 + 1)))))) else some (.inr (.inr (s2.1,s2.2))))
def c8 (p0:(List Int)) (p1:Int → Option Bool) : Option Int :=
 ((aW (dM p0 p1) (0,0)).bind fun u3 => match u3 with | (.inl u10) => some u10.1 | (.inr u11) => some (-1))
def eB (p0:(List Int)) (cap0:(List (Int × Int))) (cap1:TY) : Option (Int × (List (Int × Int))) :=
 ((bX p0 cap0 cap1).bind fun y1 => some (y1.1,y1.2))
def lK (p0:TY) (p1:(List Int)) : Option Bool :=
 ((eB p1 [] p0).bind fun y4 => some (decide (y4.1 < 0)))
def bZ (p0:(List Int)) : Option (List Int) :=
 ao (0 + p0.length ≤ 1000000000) (some (([]:List Int) ++ p0))
def dz (p0:(List Int)) (p1:Int → Option Bool) (s6:(Int × Int × (List Int))) : Option ((Int × Int × (List Int)) ⊕ (Int × Int × (List Int))) :=
 (if decide (s6.2.1 < (p0.length:Int)) = true then ao ((0:Int) ≤ s6.2.1 ∧ s6.2.1 < (p0.length:Int)) (((p1 (rdL s6.2.2 s6.2.1)).bind fun y10 => (if (!y10) = true then ao ((0:Int) ≤ s6.1 ∧ s6.1 < (p0.length:Int)) (some (.inl (w64 (s6.1 + 1),w64 (s6.2.1 + 1),(s6.2.2.set (Int.toNat s6.1) (rdL s6.2.2 s6.2.1))))) else some (.inl (s6.1,w64 (s6.2.1 + 1),s6.2.2))))) else some (.inr (s6.1,s6.2.1,s6.2.2)))
def cM (p0:(List Int)) (p1:Int → Option Bool) : Option (List Int) :=
 ((c8 p0 p1).bind fun y1 => (if (y1 == (-1)) = true then some p0 else ((aW (dz p0 p1) (y1,w64 (y1 + 1),p0)).bind fun u7 => ao ((0:Int) ≤ u7.1 ∧ u7.1 ≤ (p0.length:Int)) (ao ((0:Int) ≤ u7.1 ∧ u7.1 ≤ (p0.length:Int)) (some (u7.2.2.take (Int.toNat u7.1)))))))
def fw (p0:Int) (cap0:Int) : Option Bool :=
 some (p0 == cap0)
def jk (p0:TY) (p1:(List Int)) (s6:(Int × Int)) : Option ((Int × Int) ⊕ ((Int × Int) ⊕ (Int × Int))) :=
 (if decide (s6.2 < (p1.length:Int)) = true then ao ((0:Int) ≤ s6.2 ∧ s6.2 < (p1.length:Int)) (((g9 p0 (rdL p1 s6.2)).bind fun y10 => ((if decide (y10 < 0) = true then (some (true)) else ((if decide (0 < s6.2) = true then (ao ((0:Int) ≤ w64 (s6.2 - 1) ∧ w64 (s6.2 - 1) < (p1.length:Int)) (some (decide ((rdL p1 s6.2) ≤ (rdL p1 (w64 (s6.2 - 1))))))) else (some (false))).bind fun b17 => some (b17))).bind fun b13 => (if b13 = true then some (.inr (.inl (1,s6.2))) else some (.inl (s6.1,w64 (s6.2 + 1))))))) else some (.inr (.inr (s6.1,s6.2))))
def jg (p0:TY) (p1:(List Int)) (s34:(Int × (List Int))) : Option ((Int × (List Int)) ⊕ (Int × (List Int))) :=
 (if decide (s34.1 < (p1.length:Int)) = true then ao ((0:Int) ≤ s34.1 ∧ s34.1 < (p1.length:Int)) (((bZ s34.2).bind fun y39 => ((cM y39 (fun x45 => fw x45 (rdL p1 s34.1))).bind fun y46 => ((lK p0 y46).bind fun y50 => (if (!y50) = true then some (.inl (w64 (s34.1 + 1),y46)) else some (.inl (w64 (s34.1 + 1),s34.2))))))) else some (.inr (s34.1,s34.2)))
def jm (p0:TY) (p1:(List Int)) : Option ((List Int) × Int) :=
 ((cN p0).bind fun y2 => (if (y2 != 0) = true then some ([],y2) else ((aW (jk p0 p1) (0,0)).bind fun u7 => match u7 with | (.inl u21) => some (([]:List Int),u21.1) | (.inr u22) => ((lK p0 p1).bind fun y23 => (if y23 = true then some ([],5) else ((bZ p1).bind fun y26 => ((aW (jg p0 p1) (0,y26)).bind fun u35 => some (u35.2,0))))))))
def dK (p0:(List TBay)) (p1:Int) (p2:Int) : Option (List TBay) :=
 ao ((0:Int) ≤ p1 ∧ p1 ≤ p2 ∧ p2 ≤ (p0.length:Int) ∧ (p0.length:Int) ≤ (p0.length:Int)) ((if (p1 == p2) = true then some p0 else ao ((0:Int) ≤ p1 ∧ p1 ≤ (p0.length:Int)) (ao ((0:Int) ≤ p2 ∧ p2 ≤ (p0.length:Int)) (ao (p1 ≤ p2) (some (p0.take (Int.toNat p1) ++ p0.drop (Int.toNat p2)))))))
def dX (p0:(List TBay)) : Option (List TBay) :=
 ao (0 + p0.length ≤ 1000000000) (some (([]:List TBay) ++ p0))
def gV (p0:TY) (p1:Int) : Option TY :=
 ((dX p0.fB).bind fun y4 => ((dK y4 p1 (w64 (p1 + 1))).bind fun y10 => some (TY.mk y10 p0.fR)))
def mu (p0:TY) (p1:Int) : Option (Int × Int) :=
 ((cN p0).bind fun y2 => (if (y2 != 0) = true then some (0,y2) else ((lO p0 p1).bind fun y5 => (if decide (y5 < 0) = true then some (0,5) else ((eF p0).bind fun y8 => ((gV p0 y5).bind fun y10 => ((eF (TY.mk y10.fB p0.fR)).bind fun y20 => some (w64 (y8 - y20),0))))))))
def k9 (p0:TY) (y6:Int) (s27:(Int × (List Int))) : Option ((Int × (List Int)) ⊕ (Int × (List Int))) :=
 (if decide (s27.1 < (p0.fB.length:Int)) = true then ((gV p0 s27.1).bind fun y31 => ((eF (TY.mk y31.fB p0.fR)).bind fun y41 => ao (s27.2.length + 1 ≤ 1000000000) (some (.inl (w64 (s27.1 + 1),(s27.2 ++ [w64 (y6 - y41)])))))) else some (.inr (s27.1,s27.2)))
def ml (p0:TY) (p1:(List (Int × Int))) : Option TPlan :=
 ao ((0:Int) ≤ (p0.fR.length:Int) ∧ (p0.fR.length:Int) * 8 ≤ 281474976710656) (((eg p1 p0).bind fun y6 => ao ((f7 p1).all (fun y12 => du y12 && decide (((0:Int) ≤ y12 ∧ y12 < (p0.fB.length:Int)) ∧ ((0:Int) ≤ ar 0 p1 y12 ∧ ar 0 p1 y12 < ((Int.toNat (p0.fR.length:Int) : Nat) : Int)))) = true) (ao (((f7 p1).map (fun y12 => Int.toNat (ar 0 p1 y12))).Nodup) (((aW (k9 p0 y6) (0,([]:List Int))).bind fun u28 => some (TPlan.mk ((f7 p1).foldl (fun a y12 => a.set (Int.toNat (ar 0 p1 y12)) ((rdL p0.fB y12).fID)) (List.replicate (Int.toNat (p0.fR.length:Int)) 0)) y6 u28.2))))))
def kR (p0:TY) : Option (TPlan × Int) :=
 ((cN p0).bind fun y3 => (if (y3 != 0) = true then some ((TPlan.mk [] 0 []),y3) else ((ju p0).bind fun y6 => ((ml p0 y6).bind fun y9 => some (y9,0)))))
def cg (p0:Int) (p1:Int) (p2:Int) : Option Bool :=
 some ((decide (p1 ≤ p0)) && (decide (p0 ≤ p2)))
def ie (p0:Int) : Option Bool :=
 ((cg p0 0 16384).bind fun y1 => some y1)
def gY (p0:TY) (s5:(Int × Int)) (s20:(Int × Int)) : Option ((Int × Int) ⊕ ((Int × Int) ⊕ (Int × Int))) :=
 (if decide (s20.2 < s5.2) = true then ao ((0:Int) ≤ s20.2 ∧ s20.2 < (p0.fB.length:Int)) ((if (((rdL p0.fB s20.2).fID) == ((rdL p0.fB s5.2).fID)) = true then some (.inr (.inl (6,s20.2))) else some (.inl (s20.1,w64 (s20.2 + 1))))) else some (.inr (.inr (s20.1,s20.2))))
def gT (p0:TY) (s5:(Int × Int)) : Option ((Int × Int) ⊕ ((Int × Int) ⊕ (Int × Int))) :=
 (if decide (s5.2 < (p0.fB.length:Int)) = true then ao ((0:Int) ≤ s5.2 ∧ s5.2 < (p0.fB.length:Int)) (((cg ((rdL p0.fB s5.2).fID) 1 1099511627776).bind fun y10 => ((ie ((rdL p0.fB s5.2).fHour)).bind fun y12 => ((cg ((rdL p0.fB s5.2).fD) 0 9).bind fun y14 => (if (((!y10) || (!y12)) || (!y14)) = true then some (.inr (.inl (1,s5.2))) else ((aW (gY p0 s5) (s5.1,0)).bind fun u21 => match u21 with | (.inl u26) => some (.inr (.inl (u26.1,s5.2))) | (.inr u27) => some (.inl (u27.1,w64 (s5.2 + 1))))))))) else some (.inr (.inr (s5.1,s5.2))))
def gQ (p0:TY) (s32:(Int × Int)) (s54:(Int × Int)) : Option ((Int × Int) ⊕ ((Int × Int) ⊕ (Int × Int))) :=
 (if decide (s54.2 < s32.2) = true then ao ((0:Int) ≤ s54.2 ∧ s54.2 < (p0.fR.length:Int)) ((if (((rdL p0.fR s54.2).fID) == ((rdL p0.fR s32.2).fID)) = true then some (.inr (.inl (6,s54.2))) else some (.inl (s54.1,w64 (s54.2 + 1))))) else some (.inr (.inr (s54.1,s54.2))))
def gR (p0:TY) (s32:(Int × Int)) : Option ((Int × Int) ⊕ ((Int × Int) ⊕ (Int × Int))) :=
 (if decide (s32.2 < (p0.fR.length:Int)) = true then ao ((0:Int) ≤ s32.2 ∧ s32.2 < (p0.fR.length:Int)) (((cg ((rdL p0.fR s32.2).fID) 1 1099511627776).bind fun y37 => ((ie ((rdL p0.fR s32.2).fH.fLo)).bind fun y39 => ((ie ((rdL p0.fR s32.2).fH.fHi)).bind fun y41 => ((cg ((rdL p0.fR s32.2).fD) 0 9).bind fun y43 => ((cg ((rdL p0.fR s32.2).fW) 1 1000).bind fun y45 => (if ((((((!y37) || (!y39)) || (!y41)) || (decide ((rdL p0.fR s32.2).fH.fHi < (rdL p0.fR s32.2).fH.fLo))) || (!y43)) || (!y45)) = true then some (.inr (.inl (1,s32.2))) else ((aW (gQ p0 s32) (s32.1,0)).bind fun u55 => match u55 with | (.inl u60) => some (.inr (.inl (u60.1,s32.2))) | (.inr u61) => some (.inl (u61.1,w64 (s32.2 + 1))))))))))) else some (.inr (.inr (s32.1,s32.2))))
def gx (p0:TY) : Option Int :=
 (if ((decide (24 < (p0.fB.length:Int))) || (decide (24 < (p0.fR.length:Int)))) = true then some 2 else ((aW (gT p0) (0,0)).bind fun u6 => match u6 with | (.inl u29) => some u29.1 | (.inr u30) => ((aW (gR p0) (u30.1,0)).bind fun u33 => match u33 with | (.inl u63) => some u63.1 | (.inr u64) => some 0)))
def lb (p0:TY) (p1:Int) (s3:(Int × Int)) : Option ((Int × Int) ⊕ ((Int × Int) ⊕ (Int × Int))) :=
 (if decide (s3.2 < (p0.fB.length:Int)) = true then ao ((0:Int) ≤ s3.2 ∧ s3.2 < (p0.fB.length:Int)) ((if (((rdL p0.fB s3.2).fID) == p1) = true then some (.inr (.inl (s3.2,s3.2))) else some (.inl (s3.1,w64 (s3.2 + 1))))) else some (.inr (.inr (s3.1,s3.2))))
def mb (p0:TY) (p1:Int) : Option Int :=
 ((aW (lb p0 p1) (0,0)).bind fun u4 => match u4 with | (.inl u9) => some u9.1 | (.inr u10) => some (-1))
def gJ (p0:TY) (p1:Int) (p2:Int) : Option Bool :=
 ao ((0:Int) ≤ p2 ∧ p2 < (p0.fB.length:Int)) (ao ((0:Int) ≤ p1 ∧ p1 < (p0.fR.length:Int)) (ao ((0:Int) ≤ p1 ∧ p1 < (p0.fR.length:Int)) (((cg ((rdL p0.fB p2).fHour) ((rdL p0.fR p1).fH.fLo) ((rdL p0.fR p1).fH.fHi)).bind fun y5 => ((if y5 = true then (ao ((0:Int) ≤ p2 ∧ p2 < (p0.fB.length:Int)) (ao ((0:Int) ≤ p1 ∧ p1 < (p0.fR.length:Int)) (some (decide ((rdL p0.fR p1).fD ≤ (rdL p0.fB p2).fD))))) else (some (false))).bind fun b8 => some b8)))))
def kG (p1:(List Int)) (s4:(Bool × Int × Int)) (s17:(Bool × Int)) : Option ((Bool × Int) ⊕ ((Bool × Int) ⊕ (Bool × Int))) :=
 (if decide (s17.2 < s4.2.2) = true then ao ((0:Int) ≤ s17.2 ∧ s17.2 < (p1.length:Int)) (ao ((0:Int) ≤ s4.2.2 ∧ s4.2.2 < (p1.length:Int)) ((if ((rdL p1 s17.2) == (rdL p1 s4.2.2)) = true then some (.inr (.inl (false,s17.2))) else some (.inl (s17.1,w64 (s17.2 + 1)))))) else some (.inr (.inr (s17.1,s17.2))))
def kk (p0:TY) (p1:(List Int)) (s4:(Bool × Int × Int)) : Option ((Bool × Int × Int) ⊕ ((Bool × Int × Int) ⊕ (Bool × Int × Int))) :=
 (if decide (s4.2.2 < (p1.length:Int)) = true then ao ((0:Int) ≤ s4.2.2 ∧ s4.2.2 < (p1.length:Int)) ((if ((rdL p1 s4.2.2) == 0) = true then some (.inl (s4.1,s4.2.1,w64 (s4.2.2 + 1))) else ao ((0:Int) ≤ s4.2.2 ∧ s4.2.2 < (p1.length:Int)) (((mb p0 (rdL p1 s4.2.2)).bind fun y10 => (if decide (y10 < 0) = true then some (.inr (.inl (false,s4.2.1,s4.2.2))) else ((gJ p0 s4.2.2 y10).bind fun y13 => (if (!y13) = true then some (.inr (.inl (false,s4.2.1,s4.2.2))) else ((aW (kG p1 s4) (s4.1,0)).bind fun u18 => match u18 with | (.inl u24) => some (.inr (.inl (u24.1,s4.2.1,s4.2.2))) | (.inr u25) => ao ((0:Int) ≤ s4.2.2 ∧ s4.2.2 < (p0.fR.length:Int)) (some (.inl (u25.1,w64 (s4.2.1 + ((rdL p0.fR s4.2.2).fW)),w64 (s4.2.2 + 1)))))))))))) else some (.inr (.inr (s4.1,s4.2.1,s4.2.2))))
def kP (p0:TY) (p1:(List Int)) (p2:Int) : Option Bool :=
 (if ((p1.length:Int) != (p0.fR.length:Int)) = true then some false else ((aW (kk p0 p1) (false,0,0)).bind fun u5 => match u5 with | (.inl u28) => some u28.1 | (.inr u29) => some (u29.2.1 == p2)))
def jf (p1:(List Int)) (s4:(Int × Int × Int)) : Option ((Int × Int × Int) ⊕ ((Int × Int × Int) ⊕ (Int × Int × Int))) :=
 (if decide (s4.2.2 < (p1.length:Int)) = true then ao ((0:Int) ≤ s4.2.2 ∧ s4.2.2 < (p1.length:Int)) (((cg (rdL p1 s4.2.2) 0 1000).bind fun y8 => (if (!y8) = true then some (.inr (.inl ((-1),s4.2.1,s4.2.2))) else ao ((0:Int) ≤ s4.2.2 ∧ s4.2.2 < (p1.length:Int)) (some (.inl (s4.1,w64 (s4.2.1 + (rdL p1 s4.2.2)),w64 (s4.2.2 + 1))))))) else some (.inr (.inr (s4.1,s4.2.1,s4.2.2))))
def i9 (p0:TY) (p1:(List Int)) (s16:(Int × Int)) (s21:(Int × Int)) : Option ((Int × Int) ⊕ (Int × Int)) :=
 (if decide (s21.2 < (p1.length:Int)) = true then ((gJ p0 s16.2 s21.2).bind fun y24 => (if y24 = true then ao ((0:Int) ≤ s21.2 ∧ s21.2 < (p1.length:Int)) (some (.inl (min s21.1 (rdL p1 s21.2),w64 (s21.2 + 1)))) else some (.inl (s21.1,w64 (s21.2 + 1))))) else some (.inr (s21.1,s21.2)))
def iY (p0:TY) (p1:(List Int)) (s16:(Int × Int)) (s30:(Bool × Int)) : Option ((Bool × Int) ⊕ (Bool × Int)) :=
 (if decide (s30.2 < (p1.length:Int)) = true then ((gJ p0 s16.2 s30.2).bind fun y33 => some (.inl ((s30.1 || y33),w64 (s30.2 + 1)))) else some (.inr (s30.1,s30.2)))
def jj (p0:TY) (p1:(List Int)) (s16:(Int × Int)) : Option ((Int × Int) ⊕ (Int × Int)) :=
 (if decide (s16.2 < (p0.fR.length:Int)) = true then ao ((0:Int) ≤ s16.2 ∧ s16.2 < (p0.fR.length:Int)) (((aW (i9 p0 p1 s16) ((rdL p0.fR s16.2).fW,0)).bind fun u22 => ((aW (iY p0 p1 s16) (false,0)).bind fun u31 => (if u31.1 = true then ao ((0:Int) ≤ s16.2 ∧ s16.2 < (p0.fR.length:Int)) (some (.inl (w64 ((w64 (s16.1 + ((rdL p0.fR s16.2).fW))) - u22.1),w64 (s16.2 + 1)))) else some (.inl (s16.1,w64 (s16.2 + 1))))))) else some (.inr (s16.1,s16.2)))
def jn (p0:TY) (p1:(List Int)) : Option Int :=
 (if ((p1.length:Int) != (p0.fB.length:Int)) = true then some (-1) else ((aW (jf p1) (0,0,0)).bind fun u5 => match u5 with | (.inl u13) => some u13.1 | (.inr u14) => ((aW (jj p0 p1) (u14.2.1,0)).bind fun u17 => some u17.1)))
def gD (p0:TY) (p1:TPlan) : Option Int :=
 ((gx p0).bind fun y3 => (if (y3 != 0) = true then some y3 else ((kP p0 p1.fG p1.fW).bind fun y6 => ((if (!y6) = true then (some (true)) else ((jn p0 p1.fPrices).bind fun y12 => some ((y12 != p1.fW)))).bind fun b9 => (if b9 = true then some 8 else some 0)))))
def iQ (p0:TR) (y6:(List (Ts × Tl))) (s12:(Int × (List (List Int)))) : Option ((Int × (List (List Int))) ⊕ (Int × (List (List Int)))) :=
 (if decide (s12.1 < p0.fPlaces) = true then ((dS y6 s12.1).bind fun y15 => ((bZ y15).bind fun y20 => ao (s12.2.length + 1 ≤ 1000000000) (some (.inl (w64 (s12.1 + 1),(s12.2 ++ [y20])))))) else some (.inr (s12.1,s12.2)))
def iL (p0:TR) (p1:Int) (p2:Int) : Option (TTimes × Int) :=
 ((eJ p0 p1 p1 p2 0).bind fun y3 => (if (y3 != 0) = true then some ((TTimes.mk []),y3) else ((eh p0 p1 p2).bind fun y6 => ((aW (iQ p0 y6) (0,([]:List (List Int)))).bind fun u13 => some ((TTimes.mk u13.2),0)))))
def kO (p0:TR) (p1:Int) (p2:Int) (p3:Int) : Option ((List TJ) × Int) :=
 ((eJ p0 p1 p2 p3 0).bind fun y2 => (if (y2 != 0) = true then some ([],y2) else ((gp p0 p1 p2 p3).bind fun y5 => some (y5,0))))
def gy  : Option TR :=
 some (TR.mk 3 [(TT.mk 1 0 1 5 0 ([]:(List TSpan))),(TT.mk 2 1 2 5 0 [(TSpan.mk 8 20)]),(TT.mk 3 0 2 9 6 ([]:(List TSpan))),(TT.mk 4 1 2 8 2 ([]:(List TSpan)))])
def gB  : Option TY :=
 some (TY.mk [(TBay.mk 1 10 3),(TBay.mk 2 11 5)] [(TO.mk 7 (TSpan.mk 10 11) 3 5),(TO.mk 8 (TSpan.mk 11 12) 4 9),(TO.mk 9 (TSpan.mk 10 11) 4 7)])
def kK (p0:TT) (p1:Int) : Option (Int × Int) :=
 ((fj p0.fK).bind fun y2 => ((if (!y2) = true then (some (true)) else ((dQ p1).bind fun y11 => some ((!y11)))).bind fun b5 => (if b5 = true then some (0,1) else ((gt p0 p1).bind fun y8 => (if (!y8.2) = true then some (0,5) else some (y8.1,0))))))
def bV  : Option Bool :=
 ((gy).bind fun y1 => ((gB).bind fun y14 => ao ((0:Int) ≤ 1 ∧ 1 < (y1.fTracks.length:Int)) (((kK (TT.mk ((rdL y1.fTracks 1).fID) ((rdL y1.fTracks 1).fFrom) ((rdL y1.fTracks 1).fTo) ((rdL y1.fTracks 1).fLong) ((rdL y1.fTracks 1).fToll) ((rdL y1.fTracks 1).fK)) 8).bind fun y26 => ((iL y1 0 4).bind fun y28 => ((kO y1 0 2 4).bind fun y41 => ((bG y1 0 2 4 5).bind fun y53 => ((fi y1 0 2 26 0).bind fun y64 => ((iG y1 0 2 4 0).bind fun y66 => ((iG y1 0 2 4 60).bind fun y72 => ((if (((((((((y26.2 != 0) || (y28.2 != 0)) || (y41.2 != 0)) || (y53.2 != 0)) || (y64.2 != 0)) || (y66.2 != 0)) || (y72.2 != 0)) || (y26.1 != 21)) || ((y28.1.fH.length:Int) != 3)) = true then (some (true)) else (ao ((0:Int) ≤ 2 ∧ 2 < (y28.1.fH.length:Int)) (some (((((rdL y28.1.fH 2).length : Nat) : Int) != 61))))).bind fun b87 => (if (b87 || ((y41.1.length:Int) != 3)) = true then some false else ao ((0:Int) ≤ 2 ∧ 2 < (y28.1.fH.length:Int)) (ao ((0:Int) ≤ 0 ∧ 0 < (((rdL y28.1.fH 2).length : Nat) : Int)) (((if ((rdL (rdL y28.1.fH 2) 0) == 26) = true then (ao ((0:Int) ≤ 2 ∧ 2 < (y28.1.fH.length:Int)) (ao ((0:Int) ≤ 2 ∧ 2 < (((rdL y28.1.fH 2).length : Nat) : Int)) (some (((rdL (rdL y28.1.fH 2) 2) == 17))))) else (some (false))).bind fun b94 => ((if b94 = true then (ao ((0:Int) ≤ 2 ∧ 2 < (y28.1.fH.length:Int)) (ao ((0:Int) ≤ 6 ∧ 6 < (((rdL y28.1.fH 2).length : Nat) : Int)) (some (((rdL (rdL y28.1.fH 2) 6) == 13))))) else (some (false))).bind fun b97 => ((if b97 = true then (ao ((0:Int) ≤ 0 ∧ 0 < (y41.1.length:Int)) (some ((((rdL y41.1 0).fToll) == 0)))) else (some (false))).bind fun b100 => ((if b100 = true then (ao ((0:Int) ≤ 1 ∧ 1 < (y41.1.length:Int)) (some ((((rdL y41.1 1).fA) == 17)))) else (some (false))).bind fun b103 => ((if b103 = true then (ao ((0:Int) ≤ 2 ∧ 2 < (y41.1.length:Int)) (some ((((rdL y41.1 2).fToll) == 6)))) else (some (false))).bind fun b106 => ((if ((b106 && (y53.1.fA == 17)) && (y64.1 == 16)) = true then ((cO y66.1 [1,2]).bind fun y182 => some (y182)) else (some (false))).bind fun b111 => ((if b111 = true then ((cO y72.1 [3]).bind fun y179 => some (y179)) else (some (false))).bind fun b114 => ((kR y14).bind fun y116 => ((jR y14).bind fun y127 => ((kS y14).bind fun y133 => ((jm y14 [7,8,9]).bind fun y140 => ((mu y14 1).bind fun y146 => ((if ((y116.2 == 0) && (y116.1.fW == 14)) = true then ((gD y14 y116.1).bind fun y176 => some ((y176 == 0))) else (some (false))).bind fun b150 => ((if (b150 && (y127.2 == 0)) = true then ((cO y127.1 [7,8]).bind fun y174 => some (y174)) else (some (false))).bind fun b154 => ((if (b154 && (y133.2 == 0)) = true then ((cO y133.1 [9]).bind fun y171 => some (y171)) else (some (false))).bind fun b158 => ((if ((b114 && b158) && (y140.2 == 0)) = true then ((cO y140.1 [8,9]).bind fun y168 => some (y168)) else (some (false))).bind fun b163 => some ((b163 && (y146.2 == 0)) && (y146.1 == 5))))))))))))))))))))))))))))))))
def dj (p0:TR) (p1:Int) (p2:Int) (p3:Int) (p4:Int) (p5:Int) (p6:Int) : Option Bool :=
 ((eS p0).bind fun y2 => (if (!y2) = true then ((bV).bind fun y5 => some y5) else ((bG p0 p1 p2 p3 p4).bind fun y7 => (if (y7.2 == 5) = true then ((bG p0 p1 p2 (min 16384 (w64 (p3 + (w64 p5)))) p4).bind fun y19 => ((bV).bind fun y30 => some ((y30 && (y19.2 == 5)) && (y19.1.fA == 0)))) else (if (y7.2 != 0) = true then ((bV).bind fun y35 => some y35) else ((bG p0 p1 p2 (min 16384 (w64 (p3 + (w64 p5)))) p4).bind fun y37 => ((bG p0 p1 p2 p3 (min 60 (w64 (p4 + (w64 p6))))).bind fun y48 => (if (((((y37.2 != 0) && (y37.2 != 5)) || ((y37.2 == 0) && (decide (y37.1.fA < y7.1.fA)))) || (y48.2 != 0)) || (decide (y7.1.fA < y48.1.fA))) = true then some false else ((fi p0 p1 p2 y7.1.fA p4).bind fun y64 => ((bG p0 p1 p2 y64.1 p4).bind fun y66 => ((bG p0 p1 p2 (w64 (y64.1 + 1)) p4).bind fun y77 => ((bV).bind fun y88 => some (((((y88 && (y64.2 == 0)) && (decide (p3 ≤ y64.1))) && (y66.2 == 0)) && (decide (y66.1.fA ≤ y7.1.fA))) && ((y77.2 != 0) || (decide (y7.1.fA < y77.1.fA))))))))))))))))
end
end Go.Proofs.YthndghnkebboaaaGreat
