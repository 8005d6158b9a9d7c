import Derived.Test.YthndghnkebboaaaGreatGz
set_option linter.unusedVariables false
namespace Go.Proofs.YthndghnkebboaaaGreat
noncomputable section
structure TSpan where
 fLo : Int
 fHi : Int
 deriving DecidableEq
instance : Inhabited TSpan:=⟨⟨default,default⟩⟩
def TSpan_rg (x:TSpan) : Prop:=Rg_i64 x.fLo ∧ Rg_i64 x.fHi
structure TT where
 fID : Int
 fFrom : Int
 fTo : Int
 fLong : Int
 fToll : Int
 fK : (List TSpan)
 deriving DecidableEq
instance : Inhabited TT:=⟨⟨default,default,default,default,default,default⟩⟩
def TTrack_rg (x:TT) : Prop:=Rg_i64 x.fID ∧ Rg_i64 x.fFrom ∧ Rg_i64 x.fTo ∧ Rg_i64 x.fLong ∧ Rg_i64 x.fToll ∧ (fS TSpan_rg x.fK)
structure TR where
 fPlaces : Int
 fTracks : (List TT)
 deriving DecidableEq
instance : Inhabited TR:=⟨⟨default,default⟩⟩
def TRoads_rg (x:TR) : Prop:=Rg_i64 x.fPlaces ∧ (fS TTrack_rg x.fTracks)
structure Ts where
 f_place : Int
 f_toll : Int
 deriving DecidableEq
instance : Inhabited Ts:=⟨⟨default,default⟩⟩
def Tstop_rg (x:Ts) : Prop:=Rg_i64 x.f_place ∧ Rg_i64 x.f_toll
structure Twait where
 f_at : Int
 f_stop : Ts
 deriving DecidableEq
instance : Inhabited Twait:=⟨⟨default,default⟩⟩
def Twait_rg (x:Twait) : Prop:=Rg_i64 x.f_at ∧ Rg_i64 x.f_stop.f_place ∧ Rg_i64 x.f_stop.f_toll
structure TLeg where
 fTrack : Int
 fHour : Int
 deriving DecidableEq
instance : Inhabited TLeg:=⟨⟨default,default⟩⟩
def TLeg_rg (x:TLeg) : Prop:=Rg_i64 x.fTrack ∧ Rg_i64 x.fHour
structure Tl where
 f_at : Int
 f_from : Ts
 f_leg : TLeg
 f_begin : Bool
 deriving DecidableEq
instance : Inhabited Tl:=⟨⟨default,default,default,default⟩⟩
def Tlabel_rg (x:Tl) : Prop:=Rg_i64 x.f_at ∧ Rg_i64 x.f_from.f_place ∧ Rg_i64 x.f_from.f_toll ∧ Rg_i64 x.f_leg.fTrack ∧ Rg_i64 x.f_leg.fHour
structure TJ where
 fLegs : (List TLeg)
 fA : Int
 fToll : Int
 deriving DecidableEq
instance : Inhabited TJ:=⟨⟨default,default,default⟩⟩
def TJourney_rg (x:TJ) : Prop:=(fS TLeg_rg x.fLegs) ∧ Rg_i64 x.fA ∧ Rg_i64 x.fToll
structure TO where
 fID : Int
 fH : TSpan
 fD : Int
 fW : Int
 deriving DecidableEq
instance : Inhabited TO:=⟨⟨default,default,default,default⟩⟩
def TOrder_rg (x:TO) : Prop:=Rg_i64 x.fID ∧ Rg_i64 x.fH.fLo ∧ Rg_i64 x.fH.fHi ∧ Rg_i64 x.fD ∧ Rg_i64 x.fW
structure TBay where
 fID : Int
 fHour : Int
 fD : Int
 deriving DecidableEq
instance : Inhabited TBay:=⟨⟨default,default,default⟩⟩
def TBay_rg (x:TBay) : Prop:=Rg_i64 x.fID ∧ Rg_i64 x.fHour ∧ Rg_i64 x.fD
structure TY where
 fB : (List TBay)
 fR : (List TO)
 deriving DecidableEq
instance : Inhabited TY:=⟨⟨default,default⟩⟩
def TYard_rg (x:TY) : Prop:=(fS TBay_rg x.fB) ∧ (fS TOrder_rg x.fR)
structure TPlan where
 fG : (List Int)
 fW : Int
 fPrices : (List Int)
 deriving DecidableEq
instance : Inhabited TPlan:=⟨⟨default,default,default⟩⟩
def TPlan_rg (x:TPlan) : Prop:=(fS Rg_i64 x.fG) ∧ Rg_i64 x.fW ∧ (fS Rg_i64 x.fPrices)
structure TTimes where
 fH : (List (List Int))
 deriving DecidableEq
instance : Inhabited TTimes:=⟨⟨default⟩⟩
def TTimes_rg (x:TTimes) : Prop:=(fS (fS Rg_i64) x.fH)
structure TPoint where
 fToll : Int
 fA : Int
 deriving DecidableEq
instance : Inhabited TPoint:=⟨⟨default,default⟩⟩
def sZ (x:TPoint) : Prop:=Rg_i64 x.fToll ∧ Rg_i64 x.fA
structure TPointed where
 fP : TPoint
 fE : Int
 deriving DecidableEq
instance : Inhabited TPointed:=⟨⟨default,default⟩⟩
def TPointed_rg (x:TPointed) : Prop:=Rg_i64 x.fP.fToll ∧ Rg_i64 x.fP.fA ∧ Rg_i64 x.fE
structure TInts where
 fL : (List Int)
 fE : Int
 deriving DecidableEq
instance : Inhabited TInts:=⟨⟨default,default⟩⟩
def TInts_rg (x:TInts) : Prop:=(fS Rg_i64 x.fL) ∧ Rg_i64 x.fE
structure TTimed where
 fT : TTimes
 fE : Int
 deriving DecidableEq
instance : Inhabited TTimed:=⟨⟨default,default⟩⟩
def TTimed_rg (x:TTimed) : Prop:=(fS (fS Rg_i64) x.fT.fH) ∧ Rg_i64 x.fE
structure TFronted where
 fL : (List TPoint)
 fE : Int
 deriving DecidableEq
instance : Inhabited TFronted:=⟨⟨default,default⟩⟩
def TFronted_rg (x:TFronted) : Prop:=(fS sZ x.fL) ∧ Rg_i64 x.fE
def bw (x:Ts) : Bool:=eK x.f_place && eK x.f_toll
def bh (p0:Int) (p1:Int) (p2:Int) : Option Bool :=
 some ((decide (p1 ≤ p0)) && (decide (p0 ≤ p2)))
def eC (p0:Int) : Option Bool :=
 ((bh p0 0 16384).bind fun y1 => some y1)
def kv (p0:(List TSpan)) (s2:(Bool × Int × Int)) : Option ((Bool × Int × Int) ⊕ ((Bool × Int × Int) ⊕ (Bool × Int × Int))) :=
 (if decide (s2.2.2 < (p0.length:Int)) = true then al ((0:Int) ≤ s2.2.2 ∧ s2.2.2 < (p0.length:Int)) ((if (((decide ((rdL p0 s2.2.2).fLo < w64 (s2.2.1 + 2))) || (decide ((rdL p0 s2.2.2).fHi < (rdL p0 s2.2.2).fLo))) || (decide (16384 < (rdL p0 s2.2.2).fHi))) = true then some (.inr (.inl (false,s2.2.1,s2.2.2))) else some (.inl (s2.1,(rdL p0 s2.2.2).fHi,w64 (s2.2.2 + 1))))) else some (.inr (.inr (s2.1,s2.2.1,s2.2.2))))
def i9 (p0:(List TSpan)) : Option Bool :=
 ((aO (kv p0) (false,(-2),0)).bind fun u3 => match u3 with | (.inl u11) => some u11.1 | (.inr u12) => some (decide ((p0.length:Int) ≤ 4)))
def dS (p0:(List TT)) (p1:TT → Option Bool) (s2:(Int × Int)) : Option ((Int × Int) ⊕ ((Int × Int) ⊕ (Int × Int))) :=
 (if decide (s2.2 < (p0.length:Int)) = true then al ((0:Int) ≤ s2.2 ∧ s2.2 < (p0.length:Int)) (((p1 (TT.mk ((rdL p0 s2.2).fID) ((rdL p0 s2.2).fFrom) ((rdL p0 s2.2).fTo) ((rdL p0 s2.2).fLong) ((rdL p0 s2.2).fToll) ((rdL p0 s2.2).fK))).bind fun y6 => (if y6 = true then some (.inr (.inl (s2.2,s2.2))) else some (.inl (s2.1,w64 (s2.2 + 1)))))) else some (.inr (.inr (s2.1,s2.2))))
def cV (p0:(List TT)) (p1:TT → Option Bool) : Option Int :=
 ((aO (dS p0 p1) (0,0)).bind fun u3 => match u3 with | (.inl u10) => some u10.1 | (.inr u11) => some (-1))
def dA (p0:(List TT)) (p1:TT → Option Bool) : Option Int :=
 ((cV p0 p1).bind fun y1 => some y1)
def iD (p0:TT) (cap0:Int) : Option Bool :=
 some (p0.fID == cap0)
def lY (p0:TR) (p1:Int) : Option Int :=
 ((dA p0.fTracks (fun x3 => iD x3 p1)).bind fun y4 => some y4)
def iy (p0:Int) (cap0:TR) : Option Bool :=
 ((bh p0 0 (w64 (cap0.fPlaces - 1))).bind fun y1 => some y1)
def lN (p0:TR) (s7:(Int × Int)) : Option ((Int × Int) ⊕ ((Int × Int) ⊕ (Int × Int))) :=
 (if decide (s7.2 < (p0.fTracks.length:Int)) = true then al ((0:Int) ≤ s7.2 ∧ s7.2 < (p0.fTracks.length:Int)) (((bh ((rdL p0.fTracks s7.2).fID) 1 1099511627776).bind fun y12 => ((if (!y12) = true then (some (true)) else ((iy ((rdL p0.fTracks s7.2).fFrom) p0).bind fun y42 => some ((!y42)))).bind fun b15 => ((if b15 = true then (some (true)) else ((iy ((rdL p0.fTracks s7.2).fTo) p0).bind fun y40 => some ((!y40)))).bind fun b18 => ((if (b18 || (((rdL p0.fTracks s7.2).fFrom) == ((rdL p0.fTracks s7.2).fTo))) = true then (some (true)) else ((bh ((rdL p0.fTracks s7.2).fLong) 1 72).bind fun y38 => some ((!y38)))).bind fun b22 => ((if b22 = true then (some (true)) else ((bh ((rdL p0.fTracks s7.2).fToll) 0 40).bind fun y36 => some ((!y36)))).bind fun b25 => ((if b25 = true then (some (true)) else ((i9 ((rdL p0.fTracks s7.2).fK)).bind fun y34 => some ((!y34)))).bind fun b28 => (if b28 = true then some (.inr (.inl (1,s7.2))) else ((lY p0 ((rdL p0.fTracks s7.2).fID)).bind fun y31 => (if decide (y31 < s7.2) = true then some (.inr (.inl (6,s7.2))) else some (.inl (s7.1,w64 (s7.2 + 1))))))))))))) else some (.inr (.inr (s7.1,s7.2))))
def lW (p0:TR) : Option Int :=
 ((bh p0.fPlaces 1 16).bind fun y2 => (if (!y2) = true then some 1 else (if decide (48 < (p0.fTracks.length:Int)) = true then some 2 else ((aO (lN p0) (0,0)).bind fun u8 => match u8 with | (.inl u45) => some u45.1 | (.inr u46) => some 0))))
def gZ (p0:TR) (p1:Int) (p2:Int) (p3:Int) (p4:Int) : Option Int :=
 ((lW p0).bind fun y2 => (if (y2 != 0) = true then some y2 else ((bh p1 0 (w64 (p0.fPlaces - 1))).bind fun y5 => ((if (!y5) = true then (some (true)) else ((bh p2 0 (w64 (p0.fPlaces - 1))).bind fun y21 => some ((!y21)))).bind fun b8 => ((if b8 = true then (some (true)) else ((eC p3).bind fun y19 => some ((!y19)))).bind fun b11 => ((if b11 = true then (some (true)) else ((bh p4 0 60).bind fun y17 => some ((!y17)))).bind fun b14 => (if b14 = true then some 1 else some 0)))))))
def lI (p0:TT) (s3:(Int × Int)) : Option ((Int × Int) ⊕ (Int × Int)) :=
 (if decide (s3.2 < (p0.fK.length:Int)) = true then al ((0:Int) ≤ s3.2 ∧ s3.2 < (p0.fK.length:Int)) (((bh s3.1 ((rdL p0.fK s3.2).fLo) ((rdL p0.fK s3.2).fHi)).bind fun y8 => (if y8 = true then some (.inl (w64 (((rdL p0.fK s3.2).fHi) + 1),w64 (s3.2 + 1))) else some (.inl (s3.1,w64 (s3.2 + 1)))))) else some (.inr (s3.1,s3.2)))
def kd (p0:TT) (p1:Int) : Option (Int × Bool) :=
 ((aO (lI p0) (p1,0)).bind fun u4 => ((eC u4.1).bind fun y12 => some (u4.1,y12)))
def fc (p0:(List Twait)) : Option Int :=
 some (p0.length:Int)
def dN (p0:(List Twait)) (p1:Int) (p2:Int) : Option Bool :=
 al ((0:Int) ≤ p1 ∧ p1 < (p0.length:Int)) (al ((0:Int) ≤ p2 ∧ p2 < (p0.length:Int)) (some (decide ((rdL p0 p1).f_at < (rdL p0 p2).f_at))))
def dR (p0:(List Twait)) (p1:Int) (p2:Int) : Option (List Twait) :=
 al ((0:Int) ≤ p2 ∧ p2 < (p0.length:Int)) (al ((0:Int) ≤ p1 ∧ p1 < (p0.length:Int)) (al ((0:Int) ≤ p1 ∧ p1 < (p0.length:Int)) (al ((0:Int) ≤ p2 ∧ p2 < (p0.length:Int)) (some ((p0.set (Int.toNat p1) (rdL p0 p2)).set (Int.toNat p2) (rdL p0 p1))))))
def f6 (p2:Int) (s3:(Int × (List Twait))) : Option ((Int × (List Twait)) ⊕ (Int × (List Twait))) :=
 (if ((decide (p2 ≤ w64 ((w64 (2 * s3.1)) + 1))) || (decide (w64 ((w64 (2 * s3.1)) + 1) < 0))) = true then some (.inr (s3.1,s3.2)) else ((if decide (w64 ((w64 ((w64 (2 * s3.1)) + 1)) + 1) < p2) = true then ((dN s3.2 (w64 ((w64 ((w64 (2 * s3.1)) + 1)) + 1)) (w64 ((w64 (2 * s3.1)) + 1))).bind fun y23 => some (y23)) else (some (false))).bind fun b8 => (if b8 = true then ((dN s3.2 (w64 ((w64 ((w64 (2 * s3.1)) + 1)) + 1)) s3.1).bind fun y11 => (if (!y11) = true then some (.inr (s3.1,s3.2)) else ((dR s3.2 s3.1 (w64 ((w64 ((w64 (2 * s3.1)) + 1)) + 1))).bind fun y14 => some (.inl (w64 ((w64 ((w64 (2 * s3.1)) + 1)) + 1),y14))))) else ((dN s3.2 (w64 ((w64 (2 * s3.1)) + 1)) s3.1).bind fun y17 => (if (!y17) = true then some (.inr (s3.1,s3.2)) else ((dR s3.2 s3.1 (w64 ((w64 (2 * s3.1)) + 1))).bind fun y20 => some (.inl (w64 ((w64 (2 * s3.1)) + 1),y20))))))))
def fo (p0:(List Twait)) (p1:Int) (p2:Int) : Option (Bool × (List Twait)) :=
 ((aO (f6 p2) (p1,p0)).bind fun u4 => some (decide (p1 < u4.1),u4.2))
def iG (p0:(List Twait)) : Option (Twait × (List Twait)) :=
 al ((0:Int) ≤ w64 ((p0.length:Int) - 1) ∧ w64 ((p0.length:Int) - 1) < (p0.length:Int)) (al ((0:Int) ≤ w64 ((p0.length:Int) - 1) ∧ w64 ((p0.length:Int) - 1) ≤ (p0.length:Int)) (some ((Twait.mk ((rdL p0 (w64 ((p0.length:Int) - 1))).f_at) (Ts.mk ((rdL p0 (w64 ((p0.length:Int) - 1))).f_stop.f_place) ((rdL p0 (w64 ((p0.length:Int) - 1))).f_stop.f_toll))),(p0.take (Int.toNat (w64 ((p0.length:Int) - 1)))))))
def fM (p0:(List Twait)) : Option (Twait × (List Twait)) :=
 ((fc p0).bind fun y1 => ((dR p0 0 (w64 (y1 - 1))).bind fun y3 => ((fo y3 0 (w64 (y1 - 1))).bind fun y6 => ((iG y6.2).bind fun y12 => some (y12.1,y12.2)))))
def gx (x:TR × Int) : Prop:=x.1.fTracks.length ≤ 1000
instance (x:TR × Int) : Decidable (gx x):=by unfold gx; infer_instance
def seqTracks (x:TR × Int) : List TT:=x.1.fTracks.filter fun z => z.fFrom == x.2
def kP (p0:TR) (p1:Int) : Option Unit :=
 some ()
def gJ (s3:(Int × (List Twait))) : Option ((Int × (List Twait)) ⊕ (Int × (List Twait))) :=
 ((if ((w64 (Int.tdiv (w64 (s3.1 - 1)) 2)) == s3.1) = true then (some (true)) else ((dN s3.2 s3.1 (w64 (Int.tdiv (w64 (s3.1 - 1)) 2))).bind fun y12 => some ((!y12)))).bind fun b6 => (if b6 = true then some (.inr (s3.1,s3.2)) else ((dR s3.2 (w64 (Int.tdiv (w64 (s3.1 - 1)) 2)) s3.1).bind fun y9 => some (.inl (w64 (Int.tdiv (w64 (s3.1 - 1)) 2),y9)))))
def f8 (p0:(List Twait)) (p1:Int) : Option (List Twait) :=
 ((aO (gJ) (p1,p0)).bind fun u4 => some u4.2)
def ig (p0:(List Twait)) (p1:Twait) : Option (List Twait) :=
 al (p0.length + 1 ≤ 1000000000) (some (p0 ++ [p1]))
def fp (p0:(List Twait)) (p1:Twait) : Option (List Twait) :=
 ((ig p0 p1).bind fun y1 => ((fc y1).bind fun y7 => ((f8 y1 (w64 (y7 - 1))).bind fun y9 => some y9)))
def gn (y15:(Twait × (List Twait))) (s39:((List (Ts × Tl)) × (List Twait))) (x40:TT) : Option (((List (Ts × Tl)) × (List Twait)) ⊕ Unit) :=
 ((kd x40 y15.1.f_at).bind fun y43 => ((if ((!y43.2) || (decide (60 < w64 (y15.1.f_stop.f_toll + x40.fToll)))) = true then (some (true)) else ((eC (w64 (y43.1 + x40.fLong))).bind fun y62 => some ((!y62)))).bind fun b48 => (if b48 = true then some (.inl (s39.1,s39.2)) else al (bw (Ts.mk x40.fTo (w64 (y15.1.f_stop.f_toll + x40.fToll))) = true) ((if ((bl s39.1 (Ts.mk x40.fTo (w64 (y15.1.f_stop.f_toll + x40.fToll)))) && (decide ((az (Tl.mk 0 (Ts.mk 0 0) (TLeg.mk 0 0) false) s39.1 (Ts.mk x40.fTo (w64 (y15.1.f_stop.f_toll + x40.fToll)))).f_at ≤ w64 (y43.1 + x40.fLong)))) = true then some (.inl (s39.1,s39.2)) else al (bw (Ts.mk x40.fTo (w64 (y15.1.f_stop.f_toll + x40.fToll))) = true ∧ List.length s39.1 < 1000000000) (((fp s39.2 (Twait.mk (w64 (y43.1 + x40.fLong)) (Ts.mk x40.fTo (w64 (y15.1.f_stop.f_toll + x40.fToll))))).bind fun y56 => some (.inl ((((Ts.mk x40.fTo (w64 (y15.1.f_stop.f_toll + x40.fToll))),(Tl.mk (w64 (y43.1 + x40.fLong)) y15.1.f_stop (TLeg.mk x40.fID y43.1) false)) :: s39.1),y56)))))))))
def kD (p0:TR) (s10:((List Twait) × (List (Ts × Tl)))) : Option (((List Twait) × (List (Ts × Tl))) ⊕ ((List Twait) × (List (Ts × Tl)))) :=
 ((fc s10.1).bind fun y12 => (if decide (0 < y12) = true then ((fM s10.1).bind fun y15 => al (bw y15.1.f_stop = true) ((if decide ((az (Tl.mk 0 (Ts.mk 0 0) (TLeg.mk 0 0) false) s10.2 y15.1.f_stop).f_at < y15.1.f_at) = true then some (.inl (y15.2,s10.2)) else ((kP p0 y15.1.f_stop.f_place).bind fun y24 => (al (gx (p0,y15.1.f_stop.f_place)) ((ip (gn y15) (seqTracks (p0,y15.1.f_stop.f_place)) (s10.2,y15.2)).bind fun u41 => match u41 with | .inl u68 => some (.inl (u68.2,u68.1)) | .inr _ => none)))))) else some (.inr (s10.1,s10.2))))
def je (p0:TR) (p1:Int) (p2:Int) : Option (List (Ts × Tl)) :=
 al (bw (Ts.mk p1 0) = true ∧ List.length ([]:(List (Ts × Tl))) < 1000000000) (((aO (kD p0) ([(Twait.mk p2 (Ts.mk p1 0))],(((Ts.mk p1 0),(Tl.mk p2 (Ts.mk 0 0) (TLeg.mk 0 0) true)) :: ([]:(List (Ts × Tl)))))).bind fun u11 => some u11.2))
def jr (p0:(List (Ts × Tl))) (p1:Int) (s5:(Int × Int × (List Int))) : Option ((Int × Int × (List Int)) ⊕ (Int × Int × (List Int))) :=
 (if decide (s5.2.1 < 61) = true then al (bw (Ts.mk p1 s5.2.1) = true) ((if ((bl p0 (Ts.mk p1 s5.2.1)) && ((decide (s5.1 < 0)) || (decide ((az (Tl.mk 0 (Ts.mk 0 0) (TLeg.mk 0 0) false) p0 (Ts.mk p1 s5.2.1)).f_at < s5.1)))) = true then al ((0:Int) ≤ s5.2.1 ∧ s5.2.1 < 61) (some (.inl ((az (Tl.mk 0 (Ts.mk 0 0) (TLeg.mk 0 0) false) p0 (Ts.mk p1 s5.2.1)).f_at,w64 (s5.2.1 + 1),(s5.2.2.set (Int.toNat s5.2.1) ((az (Tl.mk 0 (Ts.mk 0 0) (TLeg.mk 0 0) false) p0 (Ts.mk p1 s5.2.1)).f_at))))) else al ((0:Int) ≤ s5.2.1 ∧ s5.2.1 < 61) (some (.inl (s5.1,w64 (s5.2.1 + 1),(s5.2.2.set (Int.toNat s5.2.1) s5.1)))))) else some (.inr (s5.1,s5.2.1,s5.2.2)))
def gQ (p0:(List (Ts × Tl))) (p1:Int) : Option (List Int) :=
 ((aO (jr p0 p1) ((-1),0,(List.replicate 61 0))).bind fun u6 => some u6.2.2)
def fe (p0:(List TLeg)) (s3:(Int × Int × (List TLeg))) : Option ((Int × Int × (List TLeg)) ⊕ (Int × Int × (List TLeg))) :=
 (if decide (s3.1 < s3.2.1) = true then al ((0:Int) ≤ s3.2.1 ∧ s3.2.1 < (p0.length:Int)) (al ((0:Int) ≤ s3.1 ∧ s3.1 < (p0.length:Int)) (al ((0:Int) ≤ s3.1 ∧ s3.1 < (p0.length:Int)) (al ((0:Int) ≤ s3.2.1 ∧ s3.2.1 < (p0.length:Int)) (some (.inl (w64 (s3.1 + 1),w64 (s3.2.1 - 1),((s3.2.2.set (Int.toNat s3.1) (rdL s3.2.2 s3.2.1)).set (Int.toNat s3.2.1) (rdL s3.2.2 s3.1)))))))) else some (.inr (s3.1,s3.2.1,s3.2.2)))
def ei (p0:(List TLeg)) : Option (List TLeg) :=
 ((aO (fe p0) (0,w64 ((p0.length:Int) - 1),p0)).bind fun u4 => some u4.2.2)
def jY (p0:(List (Ts × Tl))) (s9:(Tl × (List TLeg))) : Option ((Tl × (List TLeg)) ⊕ (Tl × (List TLeg))) :=
 (if (!s9.1.f_begin) = true then al (s9.2.length + 1 ≤ 1000000000) (al (bw s9.1.f_from = true) (some (.inl ((Tl.mk ((az (Tl.mk 0 (Ts.mk 0 0) (TLeg.mk 0 0) false) p0 s9.1.f_from).f_at) (Ts.mk ((az (Tl.mk 0 (Ts.mk 0 0) (TLeg.mk 0 0) false) p0 s9.1.f_from).f_from.f_place) ((az (Tl.mk 0 (Ts.mk 0 0) (TLeg.mk 0 0) false) p0 s9.1.f_from).f_from.f_toll)) (TLeg.mk ((az (Tl.mk 0 (Ts.mk 0 0) (TLeg.mk 0 0) false) p0 s9.1.f_from).f_leg.fTrack) ((az (Tl.mk 0 (Ts.mk 0 0) (TLeg.mk 0 0) false) p0 s9.1.f_from).f_leg.fHour)) ((az (Tl.mk 0 (Ts.mk 0 0) (TLeg.mk 0 0) false) p0 s9.1.f_from).f_begin)),(s9.2 ++ [s9.1.f_leg]))))) else some (.inr (s9.1,s9.2)))
def jZ (p0:(List (Ts × Tl))) (p1:Ts) : Option TJ :=
 al (bw p1 = true) (al (bw p1 = true) (((aO (jY p0) ((Tl.mk ((az (Tl.mk 0 (Ts.mk 0 0) (TLeg.mk 0 0) false) p0 p1).f_at) (Ts.mk ((az (Tl.mk 0 (Ts.mk 0 0) (TLeg.mk 0 0) false) p0 p1).f_from.f_place) ((az (Tl.mk 0 (Ts.mk 0 0) (TLeg.mk 0 0) false) p0 p1).f_from.f_toll)) (TLeg.mk ((az (Tl.mk 0 (Ts.mk 0 0) (TLeg.mk 0 0) false) p0 p1).f_leg.fTrack) ((az (Tl.mk 0 (Ts.mk 0 0) (TLeg.mk 0 0) false) p0 p1).f_leg.fHour)) ((az (Tl.mk 0 (Ts.mk 0 0) (TLeg.mk 0 0) false) p0 p1).f_begin)),([]:List TLeg))).bind fun u10 => ((ei u10.2).bind fun y19 => some (TJ.mk y19 ((az (Tl.mk 0 (Ts.mk 0 0) (TLeg.mk 0 0) false) p0 p1).f_at) p1.f_toll)))))
def lK (p2:Int) (y2:(List (Ts × Tl))) (y5:(List Int)) (s11:(Int × Int × (List TJ))) : Option ((Int × Int × (List TJ)) ⊕ (Int × Int × (List TJ))) :=
 (if decide (s11.2.1 < 61) = true then al ((0:Int) ≤ s11.2.1 ∧ s11.2.1 < 61) ((if ((rdL y5 s11.2.1) != s11.1) = true then ((jZ y2 (Ts.mk p2 s11.2.1)).bind fun y16 => al (s11.2.2.length + 1 ≤ 1000000000) (some (.inl ((rdL y5 s11.2.1),w64 (s11.2.1 + 1),(s11.2.2 ++ [y16]))))) else some (.inl ((rdL y5 s11.2.1),w64 (s11.2.1 + 1),s11.2.2)))) else some (.inr (s11.1,s11.2.1,s11.2.2)))
def kc (p0:TR) (p1:Int) (p2:Int) (p3:Int) : Option (List TJ) :=
 ((je p0 p1 p3).bind fun y2 => ((gQ y2 p2).bind fun y5 => ((aO (lK p2 y2 y5) ((-1),0,([]:List TJ))).bind fun u12 => some u12.2.2)))
def mm (p4:Int) (y4:(List TJ)) (s18:(Bool × Int × (List TLeg) × Int × Int)) : Option ((Bool × Int × (List TLeg) × Int × Int) ⊕ (Bool × Int × (List TLeg) × Int × Int)) :=
 (if decide (s18.2.1 < (y4.length:Int)) = true then al ((0:Int) ≤ s18.2.1 ∧ s18.2.1 < (y4.length:Int)) ((if decide ((rdL y4 s18.2.1).fToll ≤ p4) = true then some (.inl (true,w64 (s18.2.1 + 1),(rdL y4 s18.2.1).fLegs,(rdL y4 s18.2.1).fA,(rdL y4 s18.2.1).fToll)) else some (.inl (s18.1,w64 (s18.2.1 + 1),s18.2.2.1,s18.2.2.2.1,s18.2.2.2.2)))) else some (.inr (s18.1,s18.2.1,s18.2.2.1,s18.2.2.2.1,s18.2.2.2.2)))
def jC (p0:TR) (p1:Int) (p2:Int) (p3:Int) (p4:Int) : Option (TJ × Bool) :=
 ((kc p0 p1 p2 p3).bind fun y4 => ((aO (mm p4 y4) (false,0,([]:(List TLeg)),0,0)).bind fun u19 => some ((TJ.mk u19.2.2.1 u19.2.2.2.1 u19.2.2.2.2),u19.1)))
def lv (p0:TR) (p1:Int) (p2:Int) (p3:Int) (p4:Int) : Option (TJ × Int) :=
 ((gZ p0 p1 p2 p3 p4).bind fun y3 => (if (y3 != 0) = true then some ((TJ.mk ([]:(List TLeg)) 0 0),y3) else ((jC p0 p1 p2 p3 p4).bind fun y6 => (if (!y6.2) = true then some ((TJ.mk ([]:(List TLeg)) 0 0),5) else some (y6.1,0)))))
def jh (p0:Int) (cap0:TR) (cap1:Int) (cap2:Int) (cap3:Int) (cap4:Int) : Option Bool :=
 ((jC cap0 cap1 cap2 p0 cap3).bind fun y1 => some (y1.2 && (decide (y1.1.fA ≤ cap4))))
def ku (p0:TR) (p1:Int) (p2:Int) (p3:Int) (p4:Int) (s10:(Int × Int)) : Option ((Int × Int) ⊕ (Int × Int)) :=
 (if decide (s10.1 ≤ s10.2) = true then ((jh (w64 (Int.tdiv (w64 (s10.1 + s10.2)) 2)) p0 p1 p2 p4 p3).bind fun y13 => (if y13 = true then some (.inl (w64 ((w64 (Int.tdiv (w64 (s10.1 + s10.2)) 2)) + 1),s10.2)) else some (.inl (s10.1,w64 ((w64 (Int.tdiv (w64 (s10.1 + s10.2)) 2)) - 1))))) else some (.inr (s10.1,s10.2)))
def kN (p0:TR) (p1:Int) (p2:Int) (p3:Int) (p4:Int) : Option (Int × Int) :=
 ((gZ p0 p1 p2 p3 p4).bind fun y6 => (if (y6 != 0) = true then some (0,y6) else ((aO (ku p0 p1 p2 p3 p4) (0,p3)).bind fun u11 => (if decide (u11.2 < 0) = true then some (0,5) else some (u11.2,0)))))
def dB (p0:(List TT)) (p1:Int) (p2:Int) : Option (List TT) :=
 al ((0:Int) ≤ p1 ∧ p1 ≤ p2 ∧ p2 ≤ (p0.length:Int) ∧ (p0.length:Int) ≤ (p0.length:Int)) ((if (p1 == p2) = true then some p0 else al ((0:Int) ≤ p1 ∧ p1 ≤ (p0.length:Int)) (al ((0:Int) ≤ p2 ∧ p2 ≤ (p0.length:Int)) (al (p1 ≤ p2) (some (p0.take (Int.toNat p1) ++ p0.drop (Int.toNat p2)))))))
def bS (p0:(List TT)) : Option (List TT) :=
 al (0 + p0.length ≤ 1000000000) (some (([]:List TT) ++ p0))
def dt (p0:Int) : Option Bool :=
 some (p0 != p0)
def gw (p0:Int) (p1:Int) : Option Bool :=
 ((dt p0).bind fun y1 => ((if y1 = true then ((dt p1).bind fun y7 => some ((!y7))) else (some (false))).bind fun b4 => some (b4 || (decide (p0 < p1)))))
def aS (p0:(List Int)) (p1:Int) (s8:(Int × (List Int))) : Option ((Int × (List Int)) ⊕ (Int × (List Int))) :=
 ((if decide (p1 < s8.1) = true then (al ((0:Int) ≤ s8.1 ∧ s8.1 < (p0.length:Int)) (al ((0:Int) ≤ w64 (s8.1 - 1) ∧ w64 (s8.1 - 1) < (p0.length:Int)) (((gw (rdL s8.2 s8.1) (rdL s8.2 (w64 (s8.1 - 1)))).bind fun y21 => some (y21))))) else (some (false))).bind fun b11 => (if b11 = true then al ((0:Int) ≤ w64 (s8.1 - 1) ∧ w64 (s8.1 - 1) < (p0.length:Int)) (al ((0:Int) ≤ s8.1 ∧ s8.1 < (p0.length:Int)) (al ((0:Int) ≤ s8.1 ∧ s8.1 < (p0.length:Int)) (al ((0:Int) ≤ w64 (s8.1 - 1) ∧ w64 (s8.1 - 1) < (p0.length:Int)) (some (.inl (w64 (s8.1 - 1),((s8.2.set (Int.toNat s8.1) (rdL s8.2 (w64 (s8.1 - 1)))).set (Int.toNat (w64 (s8.1 - 1))) (rdL s8.2 s8.1)))))))) else some (.inr (s8.1,s8.2))))
def aD (p0:(List Int)) (p1:Int) (p2:Int) (s3:(Int × (List Int))) : Option ((Int × (List Int)) ⊕ (Int × (List Int))) :=
 (if decide (s3.1 < p2) = true then ((aO (aS p0 p1) (s3.1,s3.2)).bind fun u9 => some (.inl (w64 (s3.1 + 1),u9.2))) else some (.inr (s3.1,s3.2)))
def bm (p0:(List Int)) (p1:Int) (p2:Int) : Option (List Int) :=
 ((aO (aD p0 p1 p2) (w64 (p1 + 1),p0)).bind fun u4 => some u4.2)
def lenv (x:Int) : Int:=if x < 1 then 0 else if x < 2 then 1 else if x < 4 then 2 else if x < 8 then 3 else 4
def fU (p0:Int) : Option Int:=al (0 ≤ p0 ∧ p0 < 16) (some (w64 (0 + lenv p0)))
def gR (p0:Int) : Option Int :=
 ((fU p0).bind fun y1 => some y1)
def bW (s3:(Int × Int × Int × Bool × Bool × (List Int))) : Option ((Int × Int × Int × Bool × Bool × (List Int)) ⊕ (Int × Int × Int × Bool × Bool × (List Int))) :=
 al (decide (w64 (s3.2.1 - s3.1) ≤ 12) = true) (((bm s3.2.2.2.2.2 s3.1 s3.2.1).bind fun y6 => some (.inr (s3.1,s3.2.1,s3.2.2.1,s3.2.2.2.1,s3.2.2.2.2.1,y6))))
def cx (p0:(List Int)) (p1:Int) (p2:Int) (p3:Int) : Option (List Int) :=
 ((aO (bW) (p1,p2,p3,true,true,p0)).bind fun u4 => some u4.2.2.2.2.2)
def bQ (p0:(List Int)) : Option (List Int):=al (p0.length ≤ 12) (some (ms p0))
def kw (p0:TR) (p1:Int) (p2:Int) (p3:Int) (p4:Int) (y2:(TJ × Int)) (s16:(Int × (List Int))) : Option ((Int × (List Int)) ⊕ (Int × (List Int))) :=
 (if decide (s16.1 < (p0.fTracks.length:Int)) = true then al ((0:Int) ≤ s16.1 ∧ s16.1 < (p0.fTracks.length:Int)) (((bS p0.fTracks).bind fun y22 => ((dB y22 s16.1 (w64 (s16.1 + 1))).bind fun y31 => ((jC (TR.mk p0.fPlaces y31) p1 p2 p3 p4).bind fun y40 => (if ((!y40.2) || (y40.1.fA != y2.1.fA)) = true then al (s16.2.length + 1 ≤ 1000000000) (some (.inl (w64 (s16.1 + 1),(s16.2 ++ [(rdL p0.fTracks s16.1).fID])))) else some (.inl (w64 (s16.1 + 1),s16.2))))))) else some (.inr (s16.1,s16.2)))
def iZ (p0:TR) (p1:Int) (p2:Int) (p3:Int) (p4:Int) : Option ((List Int) × Int) :=
 ((lv p0 p1 p2 p3 p4).bind fun y2 => (if (y2.2 != 0) = true then some ([],y2.2) else ((aO (kw p0 p1 p2 p3 p4 y2) (0,([]:List Int))).bind fun u17 => ((bQ u17.2).bind fun y58 => some (y58,0)))))
def da (p0:(List Int)) (p1:(List Int)) (s3:(Bool × Int)) : Option ((Bool × Int) ⊕ ((Bool × Int) ⊕ (Bool × Int))) :=
 (if decide (s3.2 < (p0.length:Int)) = true then al ((0:Int) ≤ s3.2 ∧ s3.2 < (p0.length:Int)) (al ((0:Int) ≤ s3.2 ∧ s3.2 < (p1.length:Int)) ((if ((rdL p0 s3.2) != (rdL p1 s3.2)) = true then some (.inr (.inl (false,s3.2))) else some (.inl (s3.1,w64 (s3.2 + 1)))))) else some (.inr (.inr (s3.1,s3.2))))
def bH (p0:(List Int)) (p1:(List Int)) : Option Bool :=
 (if ((p0.length:Int) != (p1.length:Int)) = true then some false else ((aO (da p0 p1) (false,0)).bind fun u4 => match u4 with | (.inl u10) => some u10.1 | (.inr u11) => some true))
def a5 (p0:(List TO)) (p1:TO → Option Bool) (s2:(Int × Int)) : Option ((Int × Int) ⊕ ((Int × Int) ⊕ (Int × Int))) :=
 (if decide (s2.2 < (p0.length:Int)) = true then al ((0:Int) ≤ s2.2 ∧ s2.2 < (p0.length:Int)) (((p1 (TO.mk ((rdL p0 s2.2).fID) (TSpan.mk ((rdL p0 s2.2).fH.fLo) ((rdL p0 s2.2).fH.fHi)) ((rdL p0 s2.2).fD) ((rdL p0 s2.2).fW))).bind fun y6 => (if y6 = true then some (.inr (.inl (s2.2,s2.2))) else some (.inl (s2.1,w64 (s2.2 + 1)))))) else some (.inr (.inr (s2.1,s2.2))))
def bA (p0:(List TO)) (p1:TO → Option Bool) : Option Int :=
 ((aO (a5 p0 p1) (0,0)).bind fun u3 => match u3 with | (.inl u10) => some u10.1 | (.inr u11) => some (-1))
def cz (p0:(List TO)) (p1:TO → Option Bool) : Option Int :=
 ((bA p0 p1).bind fun y1 => some y1)
def gu (p0:TO) (cap0:Int) : Option Bool :=
 some (p0.fID == cap0)
def gj (p0:TY) (p1:Int) : Option Int :=
 ((cz p0.fR (fun x3 => gu x3 p1)).bind fun y4 => some y4)
def bi (p0:(List TBay)) (p1:TBay → Option Bool) (s2:(Int × Int)) : Option ((Int × Int) ⊕ ((Int × Int) ⊕ (Int × Int))) :=
 (if decide (s2.2 < (p0.length:Int)) = true then al ((0:Int) ≤ s2.2 ∧ s2.2 < (p0.length:Int)) (((p1 (TBay.mk ((rdL p0 s2.2).fID) ((rdL p0 s2.2).fHour) ((rdL p0 s2.2).fD))).bind fun y6 => (if y6 = true then some (.inr (.inl (s2.2,s2.2))) else some (.inl (s2.1,w64 (s2.2 + 1)))))) else some (.inr (.inr (s2.1,s2.2))))
def bR (p0:(List TBay)) (p1:TBay → Option Bool) : Option Int :=
 ((aO (bi p0 p1) (0,0)).bind fun u3 => match u3 with | (.inl u10) => some u10.1 | (.inr u11) => some (-1))
def cW (p0:(List TBay)) (p1:TBay → Option Bool) : Option Int :=
 ((bR p0 p1).bind fun y1 => some y1)
def iU (p0:TBay) (cap0:Int) : Option Bool :=
 some (p0.fID == cap0)
def j6 (p0:TY) (p1:Int) : Option Int :=
 ((cW p0.fB (fun x3 => iU x3 p1)).bind fun y4 => some y4)
def dT (p0:TY) (s5:(Int × Int)) : Option ((Int × Int) ⊕ ((Int × Int) ⊕ (Int × Int))) :=
 (if decide (s5.2 < (p0.fB.length:Int)) = true then al ((0:Int) ≤ s5.2 ∧ s5.2 < (p0.fB.length:Int)) (((bh ((rdL p0.fB s5.2).fID) 1 1099511627776).bind fun y10 => ((if (!y10) = true then (some (true)) else ((eC ((rdL p0.fB s5.2).fHour)).bind fun y24 => some ((!y24)))).bind fun b13 => ((if b13 = true then (some (true)) else ((bh ((rdL p0.fB s5.2).fD) 0 9).bind fun y22 => some ((!y22)))).bind fun b16 => (if b16 = true then some (.inr (.inl (1,s5.2))) else ((j6 p0 ((rdL p0.fB s5.2).fID)).bind fun y19 => (if decide (y19 < s5.2) = true then some (.inr (.inl (6,s5.2))) else some (.inl (s5.1,w64 (s5.2 + 1)))))))))) else some (.inr (.inr (s5.1,s5.2))))
def dK (p0:TY) (s30:(Int × Int)) : Option ((Int × Int) ⊕ ((Int × Int) ⊕ (Int × Int))) :=
 (if decide (s30.2 < (p0.fR.length:Int)) = true then al ((0:Int) ≤ s30.2 ∧ s30.2 < (p0.fR.length:Int)) (((bh ((rdL p0.fR s30.2).fID) 1 1099511627776).bind fun y35 => ((if (!y35) = true then (some (true)) else ((eC ((rdL p0.fR s30.2).fH.fLo)).bind fun y60 => some ((!y60)))).bind fun b38 => ((if b38 = true then (some (true)) else ((eC ((rdL p0.fR s30.2).fH.fHi)).bind fun y58 => some ((!y58)))).bind fun b41 => ((if (b41 || (decide ((rdL p0.fR s30.2).fH.fHi < (rdL p0.fR s30.2).fH.fLo))) = true then (some (true)) else ((bh ((rdL p0.fR s30.2).fD) 0 9).bind fun y56 => some ((!y56)))).bind fun b45 => ((if b45 = true then (some (true)) else ((bh ((rdL p0.fR s30.2).fW) 1 1000).bind fun y54 => some ((!y54)))).bind fun b48 => (if b48 = true then some (.inr (.inl (1,s30.2))) else ((gj p0 ((rdL p0.fR s30.2).fID)).bind fun y51 => (if decide (y51 < s30.2) = true then some (.inr (.inl (6,s30.2))) else some (.inl (s30.1,w64 (s30.2 + 1)))))))))))) else some (.inr (.inr (s30.1,s30.2))))
def cd (p0:TY) : Option Int :=
 (if ((decide (24 < (p0.fB.length:Int))) || (decide (24 < (p0.fR.length:Int)))) = true then some 2 else ((aO (dT p0) (0,0)).bind fun u6 => match u6 with | (.inl u27) => some u27.1 | (.inr u28) => ((aO (dK p0) (u28.1,0)).bind fun u31 => match u31 with | (.inl u63) => some u63.1 | (.inr u64) => some 0)))
def iW (p0:TO) (p1:TBay) : Option Bool :=
 ((bh p1.fHour p0.fH.fLo p0.fH.fHi).bind fun y3 => some (y3 && (decide (p0.fD ≤ p1.fD))))
def cn (p0:Int) (cap0:TY) (rec_:Int → TY → (List (Int × Bool)) → (List (Int × Int)) → Option (Bool × (List (Int × Bool)) × (List (Int × Int)))) (s3:(Bool × Int × (List (Int × Bool)) × (List (Int × Int)))) : Option ((Bool × Int × (List (Int × Bool)) × (List (Int × Int))) ⊕ ((Bool × Int × (List (Int × Bool)) × (List (Int × Int))) ⊕ (Bool × Int × (List (Int × Bool)) × (List (Int × Int))))) :=
 (if decide (s3.2.1 < (cap0.fB.length:Int)) = true then al ((0:Int) ≤ s3.2.1 ∧ s3.2.1 < (cap0.fB.length:Int)) (al (eK s3.2.1 = true) (((if az false s3.2.2.1 s3.2.1 = true then (some (true)) else (al ((0:Int) ≤ p0 ∧ p0 < (cap0.fR.length:Int)) (((iW (TO.mk ((rdL cap0.fR p0).fID) (TSpan.mk ((rdL cap0.fR p0).fH.fLo) ((rdL cap0.fR p0).fH.fHi)) ((rdL cap0.fR p0).fD) ((rdL cap0.fR p0).fW)) (TBay.mk ((rdL cap0.fB s3.2.1).fID) ((rdL cap0.fB s3.2.1).fHour) ((rdL cap0.fB s3.2.1).fD))).bind fun y22 => some ((!y22)))))).bind fun b10 => (if b10 = true then some (.inl (s3.1,w64 (s3.2.1 + 1),s3.2.2.1,s3.2.2.2)) else al (eK s3.2.1 = true ∧ List.length s3.2.2.1 < 1000000000) (al (eK s3.2.1 = true) ((if (!(bl s3.2.2.2 s3.2.1)) = true then (al (eK s3.2.1 = true ∧ List.length s3.2.2.2 < 1000000000) (some (.inr (.inl (true,s3.2.1,((s3.2.1,true) :: s3.2.2.1),((s3.2.1,p0) :: s3.2.2.2)))))) else ((rec_ (az 0 s3.2.2.2 s3.2.1) cap0 ((s3.2.1,true) :: s3.2.2.1) s3.2.2.2).bind fun y17 => (if y17.1 = true then al (eK s3.2.1 = true ∧ List.length y17.2.2 < 1000000000) (some (.inr (.inl (true,s3.2.1,y17.2.1,((s3.2.1,p0) :: y17.2.2))))) else some (.inl (s3.1,w64 (s3.2.1 + 1),y17.2.1,y17.2.2))))))))))) else some (.inr (.inr (s3.1,s3.2.1,s3.2.2.1,s3.2.2.2))))
def dY (rec_:Int → TY → (List (Int × Bool)) → (List (Int × Int)) → Option (Bool × (List (Int × Bool)) × (List (Int × Int)))) (p0:Int) (cap0:TY) (cap1:(List (Int × Bool))) (cap2:(List (Int × Int))) : Option (Bool × (List (Int × Bool)) × (List (Int × Int))) :=
 ((aO (cn p0 cap0 rec_) (false,0,cap1,cap2)).bind fun u4 => match u4 with | (.inl u25) => some (u25.1,u25.2.2.1,u25.2.2.2) | (.inr u26) => some (false,u26.2.2.1,u26.2.2.2))
def bx : Nat → Int → TY → (List (Int × Bool)) → (List (Int × Int)) → Option (Bool × (List (Int × Bool)) × (List (Int × Int)))
 | 0 => fun _ _ _ _ => none
 | fuel + 1 => dY (bx fuel)
def dM (p0:(List (Int × Int))) (p1:TY) (p2:Int) : Option (Bool × (List (Int × Int))) :=
 ((bx (p1.fB.length + 2) p2 p1 [] p0).bind fun y6 => some (y6.1,y6.2.2))
def aT (p0:(List Int)) (p1:Int) (p3:Int → Int → Option Int) (s8:(Int × (List Int))) : Option ((Int × (List Int)) ⊕ (Int × (List Int))) :=
 ((if decide (p1 < s8.1) = true then (al ((0:Int) ≤ s8.1 ∧ s8.1 < (p0.length:Int)) (al ((0:Int) ≤ w64 (s8.1 - 1) ∧ w64 (s8.1 - 1) < (p0.length:Int)) (((p3 (rdL s8.2 s8.1) (rdL s8.2 (w64 (s8.1 - 1)))).bind fun y21 => some (decide (y21 < 0)))))) else (some (false))).bind fun b11 => (if b11 = true then al ((0:Int) ≤ w64 (s8.1 - 1) ∧ w64 (s8.1 - 1) < (p0.length:Int)) (al ((0:Int) ≤ s8.1 ∧ s8.1 < (p0.length:Int)) (al ((0:Int) ≤ s8.1 ∧ s8.1 < (p0.length:Int)) (al ((0:Int) ≤ w64 (s8.1 - 1) ∧ w64 (s8.1 - 1) < (p0.length:Int)) (some (.inl (w64 (s8.1 - 1),((s8.2.set (Int.toNat s8.1) (rdL s8.2 (w64 (s8.1 - 1)))).set (Int.toNat (w64 (s8.1 - 1))) (rdL s8.2 s8.1)))))))) else some (.inr (s8.1,s8.2))))
def aE (p0:(List Int)) (p1:Int) (p2:Int) (p3:Int → Int → Option Int) (s3:(Int × (List Int))) : Option ((Int × (List Int)) ⊕ (Int × (List Int))) :=
 (if decide (s3.1 < p2) = true then ((aO (aT p0 p1 p3) (s3.1,s3.2)).bind fun u9 => some (.inl (w64 (s3.1 + 1),u9.2))) else some (.inr (s3.1,s3.2)))
def bj (p0:(List Int)) (p1:Int) (p2:Int) (p3:Int → Int → Option Int) : Option (List Int) :=
 ((aO (aE p0 p1 p2 p3) (w64 (p1 + 1),p0)).bind fun u4 => some u4.2)
def cf (p1:Int) (s2:(Int × Int)) : Option ((Int × Int) ⊕ (Int × Int)) :=
 al (decide (s2.2 ≤ p1) = false) (some (.inr (s2.1,s2.2)))
def cj (p1:Int) (s10:(Int × Int × Int)) : Option ((Int × Int × Int) ⊕ (Int × Int × Int)) :=
 al (decide (s10.1 < p1) = false) (some (.inr (s10.1,s10.2.1,s10.2.2)))
def cM (p0:(List Int)) (p1:Int) (p2:Int → Int → Option Int) : Option (List Int) :=
 ((aO (cf p1) (0,20)).bind fun u3 => ((bj p0 u3.1 p1 p2).bind fun y6 => ((aO (cj p1) (20,u3.1,u3.2)).bind fun u11 => some y6)))
def bv (p0:(List Int)) (p1:Int → Int → Option Int) : Option (List Int) :=
 ((cM p0 (p0.length:Int) p1).bind fun y1 => some y1)
def eA (p0:Int) (p1:Int) : Option Int :=
 ((dt p0).bind fun y1 => ((dt p1).bind fun y3 => (if y1 = true then (if y3 = true then some 0 else some (-1)) else (if y3 = true then some 1 else (if decide (p0 < p1) = true then some (-1) else (if decide (p1 < p0) = true then some 1 else some 0))))))
def fx (p0:Int) (p1:Int) (cap0:TY) : Option Int :=
 al ((0:Int) ≤ p1 ∧ p1 < (cap0.fR.length:Int)) (al ((0:Int) ≤ p0 ∧ p0 < (cap0.fR.length:Int)) (((eA ((rdL cap0.fR p1).fW) ((rdL cap0.fR p0).fW)).bind fun y3 => some y3)))
def eM (p0:TY) (s4:(Int × (List Int))) : Option ((Int × (List Int)) ⊕ (Int × (List Int))) :=
 (if decide (s4.1 < (p0.fR.length:Int)) = true then al (s4.2.length + 1 ≤ 1000000000) (some (.inl (w64 (s4.1 + 1),(s4.2 ++ [s4.1])))) else some (.inr (s4.1,s4.2)))
def dZ (p0:TY) (u5:(Int × (List Int))) (y14:(List Int)) (s20:(Int × (List (Int × Int)))) : Option ((Int × (List (Int × Int))) ⊕ (Int × (List (Int × Int)))) :=
 (if decide (s20.1 < (u5.2.length:Int)) = true then al ((0:Int) ≤ s20.1 ∧ s20.1 < (u5.2.length:Int)) (((dM s20.2 p0 (rdL y14 s20.1)).bind fun y24 => some (.inl (w64 (s20.1 + 1),y24.2)))) else some (.inr (s20.1,s20.2)))
def g3 (p0:TY) : Option (List (Int × Int)) :=
 ((aO (eM p0) (0,([]:List Int))).bind fun u5 => ((bv u5.2 (fun x12 x13 => fx x12 x13 p0)).bind fun y14 => ((aO (dZ p0 u5 y14) (0,[])).bind fun u21 => some u21.2)))
def dj (p0:(List (Int × Int))) (p1:TY) : Option Int :=
 al ((eY p0).all (fun y5 => eK y5 && decide (((0:Int) ≤ az 0 p0 y5 ∧ az 0 p0 y5 < (p1.fR.length:Int)))) = true) (some ((eY p0).foldl (fun a y5 => w64 (a + ((rdL p1.fR (az 0 p0 y5)).fW))) 0))
def dl (p0:TY) : Option Int :=
 ((g3 p0).bind fun y2 => ((dj y2 p0).bind fun y5 => some y5))
def gS (p0__:TO) (p1:Int → Option Int) (cap0:Int) : Option Bool :=
 ((p1 0).bind fun y2 => some (decide (y2 < cap0)))
def iE (p0:TO) (p1:Int → Option Int) (cap0:Int) : Option Bool :=
 ((p1 (w64 (p0.fW + 1))).bind fun y2 => some (y2 == cap0))
def cL (p0:(List TO)) : Option (List TO) :=
 al (0 + p0.length ≤ 1000000000) (some (([]:List TO) ++ p0))
def dW (p0:Int) (cap0:TY) (cap1:Int) : Option Int :=
 ((cL cap0.fR).bind fun y2 => al ((0:Int) ≤ cap1 ∧ cap1 < (y2.length:Int)) (((dl (TY.mk cap0.fB (y2.set (Int.toNat cap1) (TO.mk ((rdL y2 cap1).fID) (TSpan.mk ((rdL y2 cap1).fH.fLo) ((rdL y2 cap1).fH.fHi)) ((rdL y2 cap1).fD) p0)))).bind fun y10 => some y10)))
def cC (p0:TY) (cap0:Int) (s4:(Int × (List Int))) : Option ((Int × (List Int)) ⊕ (Int × (List Int))) :=
 (if decide (s4.1 < (p0.fR.length:Int)) = true then al ((0:Int) ≤ s4.1 ∧ s4.1 < (p0.fR.length:Int)) (((gS (TO.mk ((rdL p0.fR s4.1).fID) (TSpan.mk ((rdL p0.fR s4.1).fH.fLo) ((rdL p0.fR s4.1).fH.fHi)) ((rdL p0.fR s4.1).fD) ((rdL p0.fR s4.1).fW)) (fun x10 => dW x10 p0 s4.1) cap0).bind fun y11 => (if y11 = true then al (s4.2.length + 1 ≤ 1000000000) (some (.inl (w64 (s4.1 + 1),(s4.2 ++ [(rdL p0.fR s4.1).fID])))) else some (.inl (w64 (s4.1 + 1),s4.2))))) else some (.inr (s4.1,s4.2)))
def ep (p0:TY) (cap0:Int) : Option (List Int) :=
 ((aO (cC p0 cap0) (0,([]:List Int))).bind fun u5 => ((bQ u5.2).bind fun y19 => some y19))
def cU (p0:TY) (cap0:Int) (s4:(Int × (List Int))) : Option ((Int × (List Int)) ⊕ (Int × (List Int))) :=
 (if decide (s4.1 < (p0.fR.length:Int)) = true then al ((0:Int) ≤ s4.1 ∧ s4.1 < (p0.fR.length:Int)) (((iE (TO.mk ((rdL p0.fR s4.1).fID) (TSpan.mk ((rdL p0.fR s4.1).fH.fLo) ((rdL p0.fR s4.1).fH.fHi)) ((rdL p0.fR s4.1).fD) ((rdL p0.fR s4.1).fW)) (fun x10 => dW x10 p0 s4.1) cap0).bind fun y11 => (if y11 = true then al (s4.2.length + 1 ≤ 1000000000) (some (.inl (w64 (s4.1 + 1),(s4.2 ++ [(rdL p0.fR s4.1).fID])))) else some (.inl (w64 (s4.1 + 1),s4.2))))) else some (.inr (s4.1,s4.2)))
def eU (p0:TY) (cap0:Int) : Option (List Int) :=
 ((aO (cU p0 cap0) (0,([]:List Int))).bind fun u5 => ((bQ u5.2).bind fun y19 => some y19))
def eE (p0:TY) : Option ((List Int) × Int) :=
 ((cd p0).bind fun y2 => (if (y2 != 0) = true then some ([],y2) else ((dl p0).bind fun y5 => ((ep p0 y5).bind fun y8 => some (y8,0)))))
def fv (p0:TY) : Option ((List Int) × Int) :=
 ((cd p0).bind fun y2 => (if (y2 != 0) = true then some ([],y2) else ((dl p0).bind fun y5 => ((eU p0 y5).bind fun y8 => some (y8,0)))))
def ki (p0:Int) (cap0:(List (Int × Int))) (cap1:TY) : Option (Bool × (List (Int × Int))) :=
 ((gj cap1 p0).bind fun y1 => ((dM cap0 cap1 y1).bind fun y3 => some ((!y3.1),y3.2)))
def aZ (p0:(List Int)) (cap1:TY) (s3:(Int × Int × (List (Int × Int)))) : Option ((Int × Int × (List (Int × Int))) ⊕ ((Int × Int × (List (Int × Int))) ⊕ (Int × Int × (List (Int × Int))))) :=
 (if decide (s3.2.1 < (p0.length:Int)) = true then al ((0:Int) ≤ s3.2.1 ∧ s3.2.1 < (p0.length:Int)) (((ki (rdL p0 s3.2.1) s3.2.2 cap1).bind fun y7 => (if y7.1 = true then some (.inr (.inl (s3.2.1,s3.2.1,y7.2))) else some (.inl (s3.1,w64 (s3.2.1 + 1),y7.2))))) else some (.inr (.inr (s3.1,s3.2.1,s3.2.2))))
def bP (p0:(List Int)) (cap0:(List (Int × Int))) (cap1:TY) : Option (Int × (List (Int × Int))) :=
 ((aO (aZ p0 cap1) (0,0,cap0)).bind fun u4 => match u4 with | (.inl u11) => some (u11.1,u11.2.2) | (.inr u12) => some ((-1),u12.2.2))
def bk (p0:(List Int)) (p1:Int → Option Bool) (s2:(Int × Int)) : Option ((Int × Int) ⊕ ((Int × Int) ⊕ (Int × Int))) :=
 (if decide (s2.2 < (p0.length:Int)) = true then al ((0:Int) ≤ s2.2 ∧ s2.2 < (p0.length:Int)) (((p1 (rdL p0 s2.2)).bind fun y6 => (if y6 = true then some (.inr (.inl (s2.2,s2.2))) else some (.inl (s2.1,w64 (s2.2 + 1)))))) else some (.inr (.inr (s2.1,s2.2))))
def bT (p0:(List Int)) (p1:Int → Option Bool) : Option Int :=
 ((aO (bk p0 p1) (0,0)).bind fun u3 => match u3 with | (.inl u10) => some u10.1 | (.inr u11) => some (-1))
def d6 (p0:(List Int)) (cap0:(List (Int × Int))) (cap1:TY) : Option (Int × (List (Int × Int))) :=
 ((bP p0 cap0 cap1).bind fun y1 => some (y1.1,y1.2))
def j4 (p0:TY) (p1:(List Int)) : Option Bool :=
 ((d6 p1 [] p0).bind fun y4 => some (decide (y4.1 < 0)))
def bM (p0:(List Int)) : Option (List Int) :=
 al (0 + p0.length ≤ 1000000000) (some (([]:List Int) ++ p0))
def bB (p0:(List Int)) (p1:Int → Option Bool) (s6:(Int × Int × (List Int))) : Option ((Int × Int × (List Int)) ⊕ (Int × Int × (List Int))) :=
 (if decide (s6.2.1 < (p0.length:Int)) = true then al ((0:Int) ≤ s6.2.1 ∧ s6.2.1 < (p0.length:Int)) (((p1 (rdL s6.2.2 s6.2.1)).bind fun y10 => (if (!y10) = true then al ((0:Int) ≤ s6.1 ∧ s6.1 < (p0.length:Int)) (some (.inl (w64 (s6.1 + 1),w64 (s6.2.1 + 1),(s6.2.2.set (Int.toNat s6.1) (rdL s6.2.2 s6.2.1))))) else some (.inl (s6.1,w64 (s6.2.1 + 1),s6.2.2))))) else some (.inr (s6.1,s6.2.1,s6.2.2)))
def bz (p0:(List Int)) (p1:Int → Option Bool) : Option (List Int) :=
 ((bT p0 p1).bind fun y1 => (if (y1 == (-1)) = true then some p0 else ((aO (bB p0 p1) (y1,w64 (y1 + 1),p0)).bind fun u7 => al ((0:Int) ≤ u7.1 ∧ u7.1 ≤ (p0.length:Int)) (al ((0:Int) ≤ u7.1 ∧ u7.1 ≤ (p0.length:Int)) (some (u7.2.2.take (Int.toNat u7.1)))))))
def ef (p0:Int) (cap0:Int) : Option Bool :=
 some (p0 == cap0)
def dJ (p0:TY) (p1:(List Int)) (s6:(Int × Int)) : Option ((Int × Int) ⊕ ((Int × Int) ⊕ (Int × Int))) :=
 (if decide (s6.2 < (p1.length:Int)) = true then al ((0:Int) ≤ s6.2 ∧ s6.2 < (p1.length:Int)) (((gj p0 (rdL p1 s6.2)).bind fun y10 => ((if decide (y10 < 0) = true then (some (true)) else ((if decide (0 < s6.2) = true then (al ((0:Int) ≤ w64 (s6.2 - 1) ∧ w64 (s6.2 - 1) < (p1.length:Int)) (some (decide ((rdL p1 s6.2) ≤ (rdL p1 (w64 (s6.2 - 1))))))) else (some (false))).bind fun b17 => some (b17))).bind fun b13 => (if b13 = true then some (.inr (.inl (1,s6.2))) else some (.inl (s6.1,w64 (s6.2 + 1))))))) else some (.inr (.inr (s6.1,s6.2))))
def dg (p0:TY) (p1:(List Int)) (s34:(Int × (List Int))) : Option ((Int × (List Int)) ⊕ (Int × (List Int))) :=
 (if decide (s34.1 < (p1.length:Int)) = true then al ((0:Int) ≤ s34.1 ∧ s34.1 < (p1.length:Int)) (((bM s34.2).bind fun y39 => ((bz y39 (fun x45 => ef x45 (rdL p1 s34.1))).bind fun y46 => ((j4 p0 y46).bind fun y50 => (if (!y50) = true then some (.inl (w64 (s34.1 + 1),y46)) else some (.inl (w64 (s34.1 + 1),s34.2))))))) else some (.inr (s34.1,s34.2)))
def dV (p0:TY) (p1:(List Int)) : Option ((List Int) × Int) :=
 ((cd p0).bind fun y2 => (if (y2 != 0) = true then some ([],y2) else ((aO (dJ p0 p1) (0,0)).bind fun u7 => match u7 with | (.inl u21) => some (([]:List Int),u21.1) | (.inr u22) => ((j4 p0 p1).bind fun y23 => (if y23 = true then some ([],5) else ((bM p1).bind fun y26 => ((aO (dg p0 p1) (0,y26)).bind fun u35 => some (u35.2,0))))))))
def dp (p0:(List TBay)) (p1:Int) (p2:Int) : Option (List TBay) :=
 al ((0:Int) ≤ p1 ∧ p1 ≤ p2 ∧ p2 ≤ (p0.length:Int) ∧ (p0.length:Int) ≤ (p0.length:Int)) ((if (p1 == p2) = true then some p0 else al ((0:Int) ≤ p1 ∧ p1 ≤ (p0.length:Int)) (al ((0:Int) ≤ p2 ∧ p2 ≤ (p0.length:Int)) (al (p1 ≤ p2) (some (p0.take (Int.toNat p1) ++ p0.drop (Int.toNat p2)))))))
def dG (p0:(List TBay)) : Option (List TBay) :=
 al (0 + p0.length ≤ 1000000000) (some (([]:List TBay) ++ p0))
def fC (p0:TY) (p1:Int) : Option TY :=
 ((dG p0.fB).bind fun y4 => ((dp y4 p1 (w64 (p1 + 1))).bind fun y10 => some (TY.mk y10 p0.fR)))
def gy (p0:TY) (p1:Int) : Option (Int × Int) :=
 ((cd p0).bind fun y2 => (if (y2 != 0) = true then some (0,y2) else ((j6 p0 p1).bind fun y5 => (if decide (y5 < 0) = true then some (0,5) else ((dl p0).bind fun y8 => ((fC p0 y5).bind fun y10 => ((dl (TY.mk y10.fB p0.fR)).bind fun y20 => some (w64 (y8 - y20),0))))))))
def mb (p0:TY) (y6:Int) (s27:(Int × (List Int))) : Option ((Int × (List Int)) ⊕ (Int × (List Int))) :=
 (if decide (s27.1 < (p0.fB.length:Int)) = true then ((fC p0 s27.1).bind fun y31 => ((dl (TY.mk y31.fB p0.fR)).bind fun y41 => al (s27.2.length + 1 ≤ 1000000000) (some (.inl (w64 (s27.1 + 1),(s27.2 ++ [w64 (y6 - y41)])))))) else some (.inr (s27.1,s27.2)))
def ni (p0:TY) (p1:(List (Int × Int))) : Option TPlan :=
 al ((0:Int) ≤ (p0.fR.length:Int) ∧ (p0.fR.length:Int) * 8 ≤ 281474976710656) (((dj p1 p0).bind fun y6 => al ((eY p1).all (fun y12 => eK y12 && decide (((0:Int) ≤ y12 ∧ y12 < (p0.fB.length:Int)) ∧ ((0:Int) ≤ az 0 p1 y12 ∧ az 0 p1 y12 < ((Int.toNat (p0.fR.length:Int) : Nat) : Int)))) = true) (al (((eY p1).map (fun y12 => Int.toNat (az 0 p1 y12))).Nodup) (((aO (mb p0 y6) (0,([]:List Int))).bind fun u28 => some (TPlan.mk ((eY p1).foldl (fun a y12 => a.set (Int.toNat (az 0 p1 y12)) ((rdL p0.fB y12).fID)) (List.replicate (Int.toNat (p0.fR.length:Int)) 0)) y6 u28.2))))))
def l4 (p0:TY) : Option (TPlan × Int) :=
 ((cd p0).bind fun y3 => (if (y3 != 0) = true then some ((TPlan.mk [] 0 []),y3) else ((g3 p0).bind fun y6 => ((ni p0 y6).bind fun y9 => some (y9,0)))))
def co (p0:Int) (p1:Int) (p2:Int) : Option Bool :=
 some ((decide (p1 ≤ p0)) && (decide (p0 ≤ p2)))
def gg (p0:Int) : Option Bool :=
 ((co p0 0 16384).bind fun y1 => some y1)
def dv (p0:TY) (s5:(Int × Int)) (s20:(Int × Int)) : Option ((Int × Int) ⊕ ((Int × Int) ⊕ (Int × Int))) :=
 (if decide (s20.2 < s5.2) = true then al ((0:Int) ≤ s20.2 ∧ s20.2 < (p0.fB.length:Int)) ((if (((rdL p0.fB s20.2).fID) == ((rdL p0.fB s5.2).fID)) = true then some (.inr (.inl (6,s20.2))) else some (.inl (s20.1,w64 (s20.2 + 1))))) else some (.inr (.inr (s20.1,s20.2))))
def dq (p0:TY) (s5:(Int × Int)) : Option ((Int × Int) ⊕ ((Int × Int) ⊕ (Int × Int))) :=
 (if decide (s5.2 < (p0.fB.length:Int)) = true then al ((0:Int) ≤ s5.2 ∧ s5.2 < (p0.fB.length:Int)) (((co ((rdL p0.fB s5.2).fID) 1 1099511627776).bind fun y10 => ((gg ((rdL p0.fB s5.2).fHour)).bind fun y12 => ((co ((rdL p0.fB s5.2).fD) 0 9).bind fun y14 => (if (((!y10) || (!y12)) || (!y14)) = true then some (.inr (.inl (1,s5.2))) else ((aO (dv p0 s5) (s5.1,0)).bind fun u21 => match u21 with | (.inl u26) => some (.inr (.inl (u26.1,s5.2))) | (.inr u27) => some (.inl (u27.1,w64 (s5.2 + 1))))))))) else some (.inr (.inr (s5.1,s5.2))))
def du (p0:TY) (s32:(Int × Int)) (s54:(Int × Int)) : Option ((Int × Int) ⊕ ((Int × Int) ⊕ (Int × Int))) :=
 (if decide (s54.2 < s32.2) = true then al ((0:Int) ≤ s54.2 ∧ s54.2 < (p0.fR.length:Int)) ((if (((rdL p0.fR s54.2).fID) == ((rdL p0.fR s32.2).fID)) = true then some (.inr (.inl (6,s54.2))) else some (.inl (s54.1,w64 (s54.2 + 1))))) else some (.inr (.inr (s54.1,s54.2))))
def dx (p0:TY) (s32:(Int × Int)) : Option ((Int × Int) ⊕ ((Int × Int) ⊕ (Int × Int))) :=
 (if decide (s32.2 < (p0.fR.length:Int)) = true then al ((0:Int) ≤ s32.2 ∧ s32.2 < (p0.fR.length:Int)) (((co ((rdL p0.fR s32.2).fID) 1 1099511627776).bind fun y37 => ((gg ((rdL p0.fR s32.2).fH.fLo)).bind fun y39 => ((gg ((rdL p0.fR s32.2).fH.fHi)).bind fun y41 => ((co ((rdL p0.fR s32.2).fD) 0 9).bind fun y43 => ((co ((rdL p0.fR s32.2).fW) 1 1000).bind fun y45 => (if ((((((!y37) || (!y39)) || (!y41)) || (decide ((rdL p0.fR s32.2).fH.fHi < (rdL p0.fR s32.2).fH.fLo))) || (!y43)) || (!y45)) = true then some (.inr (.inl (1,s32.2))) else ((aO (du p0 s32) (s32.1,0)).bind fun u55 => match u55 with | (.inl u60) => some (.inr (.inl (u60.1,s32.2))) | (.inr u61) => some (.inl (u61.1,w64 (s32.2 + 1))))))))))) else some (.inr (.inr (s32.1,s32.2))))
def ci (p0:TY) : Option Int :=
 (if ((decide (24 < (p0.fB.length:Int))) || (decide (24 < (p0.fR.length:Int)))) = true then some 2 else ((aO (dq p0) (0,0)).bind fun u6 => match u6 with | (.inl u29) => some u29.1 | (.inr u30) => ((aO (dx p0) (u30.1,0)).bind fun u33 => match u33 with | (.inl u63) => some u63.1 | (.inr u64) => some 0)))
def fy (p0:TY) (p1:Int) (s3:(Int × Int)) : Option ((Int × Int) ⊕ ((Int × Int) ⊕ (Int × Int))) :=
 (if decide (s3.2 < (p0.fB.length:Int)) = true then al ((0:Int) ≤ s3.2 ∧ s3.2 < (p0.fB.length:Int)) ((if (((rdL p0.fB s3.2).fID) == p1) = true then some (.inr (.inl (s3.2,s3.2))) else some (.inl (s3.1,w64 (s3.2 + 1))))) else some (.inr (.inr (s3.1,s3.2))))
def iQ (p0:TY) (p1:Int) : Option Int :=
 ((aO (fy p0 p1) (0,0)).bind fun u4 => match u4 with | (.inl u9) => some u9.1 | (.inr u10) => some (-1))
def eF (p0:TY) (p1:Int) (p2:Int) : Option Bool :=
 al ((0:Int) ≤ p2 ∧ p2 < (p0.fB.length:Int)) (al ((0:Int) ≤ p1 ∧ p1 < (p0.fR.length:Int)) (al ((0:Int) ≤ p1 ∧ p1 < (p0.fR.length:Int)) (((co ((rdL p0.fB p2).fHour) ((rdL p0.fR p1).fH.fLo) ((rdL p0.fR p1).fH.fHi)).bind fun y5 => ((if y5 = true then (al ((0:Int) ≤ p2 ∧ p2 < (p0.fB.length:Int)) (al ((0:Int) ≤ p1 ∧ p1 < (p0.fR.length:Int)) (some (decide ((rdL p0.fR p1).fD ≤ (rdL p0.fB p2).fD))))) else (some (false))).bind fun b8 => some b8)))))
def la (p1:(List Int)) (s4:(Bool × Int × Int)) (s17:(Bool × Int)) : Option ((Bool × Int) ⊕ ((Bool × Int) ⊕ (Bool × Int))) :=
 (if decide (s17.2 < s4.2.2) = true then al ((0:Int) ≤ s17.2 ∧ s17.2 < (p1.length:Int)) (al ((0:Int) ≤ s4.2.2 ∧ s4.2.2 < (p1.length:Int)) ((if ((rdL p1 s17.2) == (rdL p1 s4.2.2)) = true then some (.inr (.inl (false,s17.2))) else some (.inl (s17.1,w64 (s17.2 + 1)))))) else some (.inr (.inr (s17.1,s17.2))))
def kR (p0:TY) (p1:(List Int)) (s4:(Bool × Int × Int)) : Option ((Bool × Int × Int) ⊕ ((Bool × Int × Int) ⊕ (Bool × Int × Int))) :=
 (if decide (s4.2.2 < (p1.length:Int)) = true then al ((0:Int) ≤ s4.2.2 ∧ s4.2.2 < (p1.length:Int)) ((if ((rdL p1 s4.2.2) == 0) = true then some (.inl (s4.1,s4.2.1,w64 (s4.2.2 + 1))) else al ((0:Int) ≤ s4.2.2 ∧ s4.2.2 < (p1.length:Int)) (((iQ p0 (rdL p1 s4.2.2)).bind fun y10 => (if decide (y10 < 0) = true then some (.inr (.inl (false,s4.2.1,s4.2.2))) else ((eF p0 s4.2.2 y10).bind fun y13 => (if (!y13) = true then some (.inr (.inl (false,s4.2.1,s4.2.2))) else ((aO (la p1 s4) (s4.1,0)).bind fun u18 => match u18 with | (.inl u24) => some (.inr (.inl (u24.1,s4.2.1,s4.2.2))) | (.inr u25) => al ((0:Int) ≤ s4.2.2 ∧ s4.2.2 < (p0.fR.length:Int)) (some (.inl (u25.1,w64 (s4.2.1 + ((rdL p0.fR s4.2.2).fW)),w64 (s4.2.2 + 1)))))))))))) else some (.inr (.inr (s4.1,s4.2.1,s4.2.2))))
def l5 (p0:TY) (p1:(List Int)) (p2:Int) : Option Bool :=
 (if ((p1.length:Int) != (p0.fR.length:Int)) = true then some false else ((aO (kR p0 p1) (false,0,0)).bind fun u5 => match u5 with | (.inl u28) => some u28.1 | (.inr u29) => some (u29.2.1 == p2)))
def jJ (p1:(List Int)) (s4:(Int × Int × Int)) : Option ((Int × Int × Int) ⊕ ((Int × Int × Int) ⊕ (Int × Int × Int))) :=
 (if decide (s4.2.2 < (p1.length:Int)) = true then al ((0:Int) ≤ s4.2.2 ∧ s4.2.2 < (p1.length:Int)) (((co (rdL p1 s4.2.2) 0 1000).bind fun y8 => (if (!y8) = true then some (.inr (.inl ((-1),s4.2.1,s4.2.2))) else al ((0:Int) ≤ s4.2.2 ∧ s4.2.2 < (p1.length:Int)) (some (.inl (s4.1,w64 (s4.2.1 + (rdL p1 s4.2.2)),w64 (s4.2.2 + 1))))))) else some (.inr (.inr (s4.1,s4.2.1,s4.2.2))))
def jS (p0:TY) (p1:(List Int)) (s16:(Int × Int)) (s21:(Int × Int)) : Option ((Int × Int) ⊕ (Int × Int)) :=
 (if decide (s21.2 < (p1.length:Int)) = true then ((eF p0 s16.2 s21.2).bind fun y24 => (if y24 = true then al ((0:Int) ≤ s21.2 ∧ s21.2 < (p1.length:Int)) (some (.inl (min s21.1 (rdL p1 s21.2),w64 (s21.2 + 1)))) else some (.inl (s21.1,w64 (s21.2 + 1))))) else some (.inr (s21.1,s21.2)))
def jA (p0:TY) (p1:(List Int)) (s16:(Int × Int)) (s30:(Bool × Int)) : Option ((Bool × Int) ⊕ (Bool × Int)) :=
 (if decide (s30.2 < (p1.length:Int)) = true then ((eF p0 s16.2 s30.2).bind fun y33 => some (.inl ((s30.1 || y33),w64 (s30.2 + 1)))) else some (.inr (s30.1,s30.2)))
def jR (p0:TY) (p1:(List Int)) (s16:(Int × Int)) : Option ((Int × Int) ⊕ (Int × Int)) :=
 (if decide (s16.2 < (p0.fR.length:Int)) = true then al ((0:Int) ≤ s16.2 ∧ s16.2 < (p0.fR.length:Int)) (((aO (jS p0 p1 s16) ((rdL p0.fR s16.2).fW,0)).bind fun u22 => ((aO (jA p0 p1 s16) (false,0)).bind fun u31 => (if u31.1 = true then al ((0:Int) ≤ s16.2 ∧ s16.2 < (p0.fR.length:Int)) (some (.inl (w64 ((w64 (s16.1 + ((rdL p0.fR s16.2).fW))) - u22.1),w64 (s16.2 + 1)))) else some (.inl (s16.1,w64 (s16.2 + 1))))))) else some (.inr (s16.1,s16.2)))
def jT (p0:TY) (p1:(List Int)) : Option Int :=
 (if ((p1.length:Int) != (p0.fB.length:Int)) = true then some (-1) else ((aO (jJ p1) (0,0,0)).bind fun u5 => match u5 with | (.inl u13) => some u13.1 | (.inr u14) => ((aO (jR p0 p1) (u14.2.1,0)).bind fun u17 => some u17.1)))
def io (p0:TY) (p1:TPlan) : Option Int :=
 ((ci p0).bind fun y3 => (if (y3 != 0) = true then some y3 else ((l5 p0 p1.fG p1.fW).bind fun y6 => ((if (!y6) = true then (some (true)) else ((jT p0 p1.fPrices).bind fun y12 => some ((y12 != p1.fW)))).bind fun b9 => (if b9 = true then some 8 else some 0)))))
def ju (p0:TR) (y6:(List (Ts × Tl))) (s12:(Int × (List (List Int)))) : Option ((Int × (List (List Int))) ⊕ (Int × (List (List Int)))) :=
 (if decide (s12.1 < p0.fPlaces) = true then ((gQ y6 s12.1).bind fun y15 => ((bM y15).bind fun y20 => al (s12.2.length + 1 ≤ 1000000000) (some (.inl (w64 (s12.1 + 1),(s12.2 ++ [y20])))))) else some (.inr (s12.1,s12.2)))
def jj (p0:TR) (p1:Int) (p2:Int) : Option (TTimes × Int) :=
 ((gZ p0 p1 p1 p2 0).bind fun y3 => (if (y3 != 0) = true then some ((TTimes.mk []),y3) else ((je p0 p1 p2).bind fun y6 => ((aO (ju p0 y6) (0,([]:List (List Int)))).bind fun u13 => some ((TTimes.mk u13.2),0)))))
def lX (p0:TR) (p1:Int) (p2:Int) (p3:Int) : Option ((List TJ) × Int) :=
 ((gZ p0 p1 p2 p3 0).bind fun y2 => (if (y2 != 0) = true then some ([],y2) else ((kc p0 p1 p2 p3).bind fun y5 => some (y5,0))))
def ia  : Option TR :=
 some (TR.mk 3 [(TT.mk 1 0 1 5 0 ([]:(List TSpan))),(TT.mk 2 1 2 5 0 [(TSpan.mk 8 20)]),(TT.mk 3 0 2 9 6 ([]:(List TSpan))),(TT.mk 4 1 2 8 2 ([]:(List TSpan)))])
def hY  : Option TY :=
 some (TY.mk [(TBay.mk 1 10 3),(TBay.mk 2 11 5)] [(TO.mk 7 (TSpan.mk 10 11) 3 5),(TO.mk 8 (TSpan.mk 11 12) 4 9),(TO.mk 9 (TSpan.mk 10 11) 4 7)])
def lP (p0:TT) (p1:Int) : Option (Int × Int) :=
 ((i9 p0.fK).bind fun y2 => ((if (!y2) = true then (some (true)) else ((eC p1).bind fun y11 => some ((!y11)))).bind fun b5 => (if b5 = true then some (0,1) else ((kd p0 p1).bind fun y8 => (if (!y8.2) = true then some (0,5) else some (y8.1,0))))))
def d9  : Option Bool :=
 ((ia).bind fun y1 => ((hY).bind fun y14 => al ((0:Int) ≤ 1 ∧ 1 < (y1.fTracks.length:Int)) (((lP (TT.mk ((rdL y1.fTracks 1).fID) ((rdL y1.fTracks 1).fFrom) ((rdL y1.fTracks 1).fTo) ((rdL y1.fTracks 1).fLong) ((rdL y1.fTracks 1).fToll) ((rdL y1.fTracks 1).fK)) 8).bind fun y26 => ((jj y1 0 4).bind fun y28 => ((lX y1 0 2 4).bind fun y41 => ((lv y1 0 2 4 5).bind fun y53 => ((kN y1 0 2 26 0).bind fun y64 => ((iZ y1 0 2 4 0).bind fun y66 => ((iZ y1 0 2 4 60).bind fun y72 => ((if (((((((((y26.2 != 0) || (y28.2 != 0)) || (y41.2 != 0)) || (y53.2 != 0)) || (y64.2 != 0)) || (y66.2 != 0)) || (y72.2 != 0)) || (y26.1 != 21)) || ((y28.1.fH.length:Int) != 3)) = true then (some (true)) else (al ((0:Int) ≤ 2 ∧ 2 < (y28.1.fH.length:Int)) (some (((((rdL y28.1.fH 2).length : Nat) : Int) != 61))))).bind fun b87 => (if (b87 || ((y41.1.length:Int) != 3)) = true then some false else al ((0:Int) ≤ 2 ∧ 2 < (y28.1.fH.length:Int)) (al ((0:Int) ≤ 0 ∧ 0 < (((rdL y28.1.fH 2).length : Nat) : Int)) (((if ((rdL (rdL y28.1.fH 2) 0) == 26) = true then (al ((0:Int) ≤ 2 ∧ 2 < (y28.1.fH.length:Int)) (al ((0:Int) ≤ 2 ∧ 2 < (((rdL y28.1.fH 2).length : Nat) : Int)) (some (((rdL (rdL y28.1.fH 2) 2) == 17))))) else (some (false))).bind fun b94 => ((if b94 = true then (al ((0:Int) ≤ 2 ∧ 2 < (y28.1.fH.length:Int)) (al ((0:Int) ≤ 6 ∧ 6 < (((rdL y28.1.fH 2).length : Nat) : Int)) (some (((rdL (rdL y28.1.fH 2) 6) == 13))))) else (some (false))).bind fun b97 => ((if b97 = true then (al ((0:Int) ≤ 0 ∧ 0 < (y41.1.length:Int)) (some ((((rdL y41.1 0).fToll) == 0)))) else (some (false))).bind fun b100 => ((if b100 = true then (al ((0:Int) ≤ 1 ∧ 1 < (y41.1.length:Int)) (some ((((rdL y41.1 1).fA) == 17)))) else (some (false))).bind fun b103 => ((if b103 = true then (al ((0:Int) ≤ 2 ∧ 2 < (y41.1.length:Int)) (some ((((rdL y41.1 2).fToll) == 6)))) else (some (false))).bind fun b106 => ((if ((b106 && (y53.1.fA == 17)) && (y64.1 == 16)) = true then ((bH y66.1 [1,2]).bind fun y182 => some (y182)) else (some (false))).bind fun b111 => ((if b111 = true then ((bH y72.1 [3]).bind fun y179 => some (y179)) else (some (false))).bind fun b114 => ((l4 y14).bind fun y116 => ((eE y14).bind fun y127 => ((fv y14).bind fun y133 => ((dV y14 [7,8,9]).bind fun y140 => ((gy y14 1).bind fun y146 => ((if ((y116.2 == 0) && (y116.1.fW == 14)) = true then ((io y14 y116.1).bind fun y176 => some ((y176 == 0))) else (some (false))).bind fun b150 => ((if (b150 && (y127.2 == 0)) = true then ((bH y127.1 [7,8]).bind fun y174 => some (y174)) else (some (false))).bind fun b154 => ((if (b154 && (y133.2 == 0)) = true then ((bH y133.1 [9]).bind fun y171 => some (y171)) else (some (false))).bind fun b158 => ((if ((b114 && b158) && (y140.2 == 0)) = true then ((bH y140.1 [8,9]).bind fun y168 => some (y168)) else (some (false))).bind fun b163 => some ((b163 && (y146.2 == 0)) && (y146.1 == 5))))))))))))))))))))))))))))))))
def gA (p0:(List Int)) (p1:Int) (s2:Int) : Option (Int ⊕ Int) :=
 ((if decide (s2 < (p0.length:Int)) = true then (al ((0:Int) ≤ s2 ∧ s2 < (p0.length:Int)) (some (decide ((rdL p0 s2) < p1)))) else (some (false))).bind fun b5 => (if b5 = true then some (.inl (w64 (s2 + 1))) else some (.inr s2)))
def gv (p0:(List Int)) (p1:Int) : Option (List Int) :=
 ((aO (gA p0 p1) 0).bind fun u3 => al ((0:Int) ≤ u3 ∧ u3 ≤ (p0.length:Int)) (al (0 + (Int.toNat u3) ≤ 1000000000) (al ((0 + (Int.toNat u3)) + 1 ≤ 1000000000) (al ((0:Int) ≤ u3 ∧ u3 ≤ (p0.length:Int)) (al (((0 + (Int.toNat u3)) + 1) + (p0.length - Int.toNat u3) ≤ 1000000000) (some (((([]:List Int) ++ (p0.take (Int.toNat u3))) ++ [p1]) ++ (p0.drop (Int.toNat u3)))))))))
def fb (p0:TY) : Option Bool :=
 some (((decide ((p0.fB.length:Int) ≤ 9)) || ((decide (24 < (p0.fB.length:Int))) && (decide ((p0.fB.length:Int) ≤ 40)))) && ((decide ((p0.fR.length:Int) ≤ 9)) || ((decide (24 < (p0.fR.length:Int))) && (decide ((p0.fR.length:Int) ≤ 40)))))
def eg (p0:TY) (p1:(List Int)) (s3:(Int × Int)) : Option ((Int × Int) ⊕ (Int × Int)) :=
 (if decide (s3.2 < (p1.length:Int)) = true then al ((0:Int) ≤ s3.2 ∧ s3.2 < (p1.length:Int)) (al ((0:Int) ≤ (rdL p1 s3.2) ∧ (rdL p1 s3.2) < (p0.fR.length:Int)) (some (.inl (w64 (s3.1 + ((rdL p0.fR (rdL p1 s3.2)).fW)),w64 (s3.2 + 1))))) else some (.inr (s3.1,s3.2)))
def cl (p0:TY) (p1:(List Int)) : Option Int :=
 ((aO (eg p0 p1) (0,0)).bind fun u4 => some u4.1)
def eW (p0:Int) (s5:(Int × (List Int))) : Option ((Int × (List Int)) ⊕ (Int × (List Int))) :=
 (if decide (s5.1 < p0) = true then al ((0:Int) ≤ s5.1 ∧ s5.1 < ((Int.toNat p0 : Nat) : Int)) (some (.inl (w64 (s5.1 + 1),(s5.2.set (Int.toNat s5.1) (-1))))) else some (.inr (s5.1,s5.2)))
def iT (p0:Int) : Option (List Int) :=
 al ((0:Int) ≤ p0 ∧ p0 * 8 ≤ 281474976710656) (((aO (eW p0) (0,(List.replicate (Int.toNat p0) 0))).bind fun u6 => some u6.2))
def dO (p0:TY) (p1:Int) (p2:(List Int)) (p3:(List Bool)) (rec_:TY → Int → (List Int) → (List Bool) → Option (Bool × (List Int) × (List Bool))) (s4:(Bool × Int × (List Int) × (List Bool))) : Option ((Bool × Int × (List Int) × (List Bool)) ⊕ ((Bool × Int × (List Int) × (List Bool)) ⊕ (Bool × Int × (List Int) × (List Bool)))) :=
 (if decide (s4.2.1 < (p0.fB.length:Int)) = true then ((eF p0 p1 s4.2.1).bind fun y7 => ((if (!y7) = true then (some (true)) else (al ((0:Int) ≤ s4.2.1 ∧ s4.2.1 < (p3.length:Int)) (some ((rdL s4.2.2.2 s4.2.1))))).bind fun b10 => (if b10 = true then some (.inl (s4.1,w64 (s4.2.1 + 1),s4.2.2.1,s4.2.2.2)) else al ((0:Int) ≤ s4.2.1 ∧ s4.2.1 < (p3.length:Int)) (al ((0:Int) ≤ s4.2.1 ∧ s4.2.1 < (p2.length:Int)) ((if (!(decide ((rdL s4.2.2.1 s4.2.1) < 0))) = true then al ((0:Int) ≤ s4.2.1 ∧ s4.2.1 < (p2.length:Int)) (((rec_ p0 (rdL s4.2.2.1 s4.2.1) s4.2.2.1 (s4.2.2.2.set (Int.toNat s4.2.1) true)).bind fun y17 => (if y17.1 = true then al ((0:Int) ≤ s4.2.1 ∧ s4.2.1 < (p2.length:Int)) (some (.inr (.inl (true,s4.2.1,(y17.2.1.set (Int.toNat s4.2.1) p1),y17.2.2)))) else some (.inl (s4.1,w64 (s4.2.1 + 1),y17.2.1,y17.2.2))))) else (if decide ((rdL s4.2.2.1 s4.2.1) < 0) = true then al ((0:Int) ≤ s4.2.1 ∧ s4.2.1 < (p2.length:Int)) (some (.inr (.inl (true,s4.2.1,(s4.2.2.1.set (Int.toNat s4.2.1) p1),(s4.2.2.2.set (Int.toNat s4.2.1) true))))) else some (.inl (s4.1,w64 (s4.2.1 + 1),s4.2.2.1,(s4.2.2.2.set (Int.toNat s4.2.1) true)))))))))) else some (.inr (.inr (s4.1,s4.2.1,s4.2.2.1,s4.2.2.2))))
def go (rec_:TY → Int → (List Int) → (List Bool) → Option (Bool × (List Int) × (List Bool))) (p0:TY) (p1:Int) (p2:(List Int)) (p3:(List Bool)) : Option (Bool × (List Int) × (List Bool)) :=
 ((aO (dO p0 p1 p2 p3 rec_) (false,0,p2,p3)).bind fun u5 => match u5 with | (.inl u27) => some (u27.1,u27.2.2.1,u27.2.2.2) | (.inr u28) => some (false,u28.2.2.1,u28.2.2.2))
def cY : Nat → TY → Int → (List Int) → (List Bool) → Option (Bool × (List Int) × (List Bool))
 | 0 => fun _ _ _ _ => none
 | fuel + 1 => go (cY fuel)
def fw (p0:TY) (p1:(List Int)) (s10:(Bool × Int × (List Int))) : Option ((Bool × Int × (List Int)) ⊕ ((Bool × Int × (List Int)) ⊕ (Bool × Int × (List Int)))) :=
 (if decide (s10.2.1 < (p1.length:Int)) = true then al ((0:Int) ≤ s10.2.1 ∧ s10.2.1 < (p1.length:Int)) (al ((0:Int) ≤ (p0.fB.length:Int) ∧ (p0.fB.length:Int) * 1 ≤ 281474976710656) (((cY (p0.fB.length + 2) p0 (rdL p1 s10.2.1) s10.2.2 (List.replicate (Int.toNat (p0.fB.length:Int)) false)).bind fun y17 => (if (!y17.1) = true then some (.inr (.inl (false,s10.2.1,y17.2.1))) else some (.inl (s10.1,w64 (s10.2.1 + 1),y17.2.1)))))) else some (.inr (.inr (s10.1,s10.2.1,s10.2.2))))
def d8 (p0:TY) (p1:(List Int)) : Option Bool :=
 ((iT (p0.fB.length:Int)).bind fun y2 => ((aO (fw p0 p1) (false,0,y2)).bind fun u11 => match u11 with | (.inl u23) => some u23.1 | (.inr u24) => some true))
def d5 (p0:TY) (p1:Int) (p2:Int) (s9:(Int × (List Int))) (s14:(Int × (List Int))) : Option ((Int × (List Int)) ⊕ (Int × (List Int))) :=
 (if decide (s14.1 < (p0.fR.length:Int)) = true then al ((0:Int) ≤ s14.1 ∧ s14.1 < (p0.fR.length:Int)) ((if (((((rdL p0.fR s14.1).fW) != s9.1) || (s14.1 == p1)) || (s14.1 == p2)) = true then some (.inl (w64 (s14.1 + 1),s14.2)) else al (0 + s14.2.length ≤ 1000000000) (al ((0 + s14.2.length) + 1 ≤ 1000000000) (((d8 p0 ((([]:List Int) ++ s14.2) ++ [s14.1])).bind fun y29 => (if y29 = true then some (.inl (w64 (s14.1 + 1),((([]:List Int) ++ s14.2) ++ [s14.1]))) else some (.inl (w64 (s14.1 + 1),s14.2)))))))) else some (.inr (s14.1,s14.2)))
def dX (p0:TY) (p1:Int) (p2:Int) (s9:(Int × (List Int))) : Option ((Int × (List Int)) ⊕ (Int × (List Int))) :=
 (if decide (1 ≤ s9.1) = true then ((aO (d5 p0 p1 p2 s9) (0,s9.2)).bind fun u15 => some (.inl (w64 (s9.1 - 1),u15.2))) else some (.inr (s9.1,s9.2)))
def lB (p0:TY) (p1:Int) (p2:Int) (s36:(Int × (List Int))) (s41:(Int × (List Int))) : Option ((Int × (List Int)) ⊕ (Int × (List Int))) :=
 (if decide (s41.1 < (p0.fR.length:Int)) = true then al ((0:Int) ≤ s41.1 ∧ s41.1 < (p0.fR.length:Int)) ((if (((((rdL p0.fR s41.1).fW) != s36.1) || (s41.1 == p1)) || (s41.1 == p2)) = true then some (.inl (w64 (s41.1 + 1),s41.2)) else al (0 + s41.2.length ≤ 1000000000) (al ((0 + s41.2.length) + 1 ≤ 1000000000) (((d8 p0 ((([]:List Int) ++ s41.2) ++ [s41.1])).bind fun y56 => (if y56 = true then some (.inl (w64 (s41.1 + 1),((([]:List Int) ++ s41.2) ++ [s41.1]))) else some (.inl (w64 (s41.1 + 1),s41.2)))))))) else some (.inr (s41.1,s41.2)))
def i8 (p0:TY) (p1:Int) (p2:Int) (s36:(Int × (List Int))) : Option ((Int × (List Int)) ⊕ (Int × (List Int))) :=
 (if decide (1 ≤ s36.1) = true then ((aO (lB p0 p1 p2 s36) (0,s36.2)).bind fun u42 => some (.inl (w64 (s36.1 - 1),u42.2))) else some (.inr (s36.1,s36.2)))
def db (p0:TY) (p1:Int) (p2:Int) : Option (List Int) :=
 (if decide (0 ≤ p1) = true then ((d8 p0 [p1]).bind fun y4 => (if (!y4) = true then some [] else ((aO (dX p0 p1 p2) (1000,[p1])).bind fun u10 => some u10.2))) else ((aO (i8 p0 p1 p2) (1000,([]:List Int))).bind fun u37 => some u37.2))
def eB (p0:TY) (y12:Int) (s16:(Int × (List Int))) : Option ((Int × (List Int)) ⊕ (Int × (List Int))) :=
 (if decide (s16.1 < (p0.fR.length:Int)) = true then ((db p0 (-1) s16.1).bind fun y19 => ((cl p0 y19).bind fun y25 => (if decide (y25 < y12) = true then al ((0:Int) ≤ s16.1 ∧ s16.1 < (p0.fR.length:Int)) (((gv s16.2 ((rdL p0.fR s16.1).fID)).bind fun y33 => some (.inl (w64 (s16.1 + 1),y33)))) else some (.inl (w64 (s16.1 + 1),s16.2))))) else some (.inr (s16.1,s16.2)))
def eJ (p0:TY) : Option TInts :=
 ((ci p0).bind fun y3 => (if (y3 != 0) = true then some (TInts.mk [] y3) else ((db p0 (-1) (-1)).bind fun y6 => ((cl p0 y6).bind fun y12 => ((aO (eB p0 y12) (0,([]:List Int))).bind fun u17 => some (TInts.mk u17.2 0))))))
def fa (p0:TY) (y12:Int) (s16:(Int × (List Int))) : Option ((Int × (List Int)) ⊕ (Int × (List Int))) :=
 (if decide (s16.1 < (p0.fR.length:Int)) = true then ((d8 p0 [s16.1]).bind fun y20 => (if (!y20) = true then al ((0:Int) ≤ s16.1 ∧ s16.1 < (p0.fR.length:Int)) (((gv s16.2 ((rdL p0.fR s16.1).fID)).bind fun y24 => some (.inl (w64 (s16.1 + 1),y24)))) else ((db p0 s16.1 (-1)).bind fun y23 => ((cl p0 y23).bind fun y29 => (if decide (y29 < y12) = true then al ((0:Int) ≤ s16.1 ∧ s16.1 < (p0.fR.length:Int)) (((gv s16.2 ((rdL p0.fR s16.1).fID)).bind fun y33 => some (.inl (w64 (s16.1 + 1),y33)))) else some (.inl (w64 (s16.1 + 1),s16.2))))))) else some (.inr (s16.1,s16.2)))
def fq (p0:TY) : Option TInts :=
 ((ci p0).bind fun y3 => (if (y3 != 0) = true then some (TInts.mk [] y3) else ((db p0 (-1) (-1)).bind fun y6 => ((cl p0 y6).bind fun y12 => ((aO (fa p0 y12) (0,([]:List Int))).bind fun u17 => some (TInts.mk u17.2 0))))))
def ed (p0:TY) (p1:Int) (s3:(Int × Int)) : Option ((Int × Int) ⊕ ((Int × Int) ⊕ (Int × Int))) :=
 (if decide (s3.2 < (p0.fR.length:Int)) = true then al ((0:Int) ≤ s3.2 ∧ s3.2 < (p0.fR.length:Int)) ((if (((rdL p0.fR s3.2).fID) == p1) = true then some (.inr (.inl (s3.2,s3.2))) else some (.inl (s3.1,w64 (s3.2 + 1))))) else some (.inr (.inr (s3.1,s3.2))))
def il (p0:TY) (p1:Int) : Option Int :=
 ((aO (ed p0 p1) (0,0)).bind fun u4 => match u4 with | (.inl u9) => some u9.1 | (.inr u10) => some (-1))
def di (p0:TY) (p1:(List Int)) (s4:(Bool × Int × (List Int))) : Option ((Bool × Int × (List Int)) ⊕ ((Bool × Int × (List Int)) ⊕ (Bool × Int × (List Int)))) :=
 (if decide (s4.2.1 < (p1.length:Int)) = true then al ((0:Int) ≤ s4.2.1 ∧ s4.2.1 < (p1.length:Int)) (((il p0 (rdL p1 s4.2.1)).bind fun y8 => ((if decide (y8 < 0) = true then (some (true)) else ((if decide (0 < s4.2.1) = true then (al ((0:Int) ≤ s4.2.1 ∧ s4.2.1 < (p1.length:Int)) (al ((0:Int) ≤ max 0 (w64 (s4.2.1 - 1)) ∧ max 0 (w64 (s4.2.1 - 1)) < (p1.length:Int)) (some (decide ((rdL p1 s4.2.1) ≤ (rdL p1 (max 0 (w64 (s4.2.1 - 1))))))))) else (some (false))).bind fun b19 => some (b19))).bind fun b11 => (if b11 = true then some (.inr (.inl (false,s4.2.1,s4.2.2))) else al (s4.2.2.length + 1 ≤ 1000000000) (some (.inl (s4.1,w64 (s4.2.1 + 1),(s4.2.2 ++ [y8])))))))) else some (.inr (.inr (s4.1,s4.2.1,s4.2.2))))
def fV (p0:TY) (p1:(List Int)) : Option ((List Int) × Bool) :=
 ((aO (di p0 p1) (false,0,([]:List Int))).bind fun u5 => match u5 with | (.inl u24) => some (([]:List Int),u24.1) | (.inr u25) => some (u25.2.2,true))
def cN (p0:TY) (s18:(Bool × Int × (List Int))) : Option ((Bool × Int × (List Int)) ⊕ (Bool × Int × (List Int))) :=
 (if decide (s18.2.1 < (s18.2.2.length:Int)) = true then al ((0:Int) ≤ s18.2.1 ∧ s18.2.1 ≤ (s18.2.2.length:Int)) (al (0 + (Int.toNat s18.2.1) ≤ 1000000000) (al ((0:Int) ≤ w64 (s18.2.1 + 1) ∧ w64 (s18.2.1 + 1) ≤ (s18.2.2.length:Int)) (al ((0 + (Int.toNat s18.2.1)) + (s18.2.2.length - Int.toNat (w64 (s18.2.1 + 1))) ≤ 1000000000) (((d8 p0 ((([]:List Int) ++ (s18.2.2.take (Int.toNat s18.2.1))) ++ (s18.2.2.drop (Int.toNat (w64 (s18.2.1 + 1)))))).bind fun y31 => (if y31 = true then some (.inl (y31,w64 (s18.2.1 + 1),s18.2.2)) else some (.inl (y31,s18.2.1,((([]:List Int) ++ (s18.2.2.take (Int.toNat s18.2.1))) ++ (s18.2.2.drop (Int.toNat (w64 (s18.2.1 + 1))))))))))))) else some (.inr (s18.1,s18.2.1,s18.2.2)))
def dk (p0:TY) (u19:(Bool × Int × (List Int))) (s37:(Int × (List Int))) : Option ((Int × (List Int)) ⊕ (Int × (List Int))) :=
 (if decide (s37.1 < (u19.2.2.length:Int)) = true then al ((0:Int) ≤ s37.1 ∧ s37.1 < (u19.2.2.length:Int)) (al ((0:Int) ≤ (rdL u19.2.2 s37.1) ∧ (rdL u19.2.2 s37.1) < (p0.fR.length:Int)) (al (s37.2.length + 1 ≤ 1000000000) (some (.inl (w64 (s37.1 + 1),(s37.2 ++ [(rdL p0.fR (rdL u19.2.2 s37.1)).fID])))))) else some (.inr (s37.1,s37.2)))
def d3 (p0:TY) (p1:(List Int)) : Option TInts :=
 ((ci p0).bind fun y3 => (if (y3 != 0) = true then some (TInts.mk [] y3) else ((fV p0 p1).bind fun y6 => (if (!y6.2) = true then some (TInts.mk [] 1) else ((d8 p0 y6.1).bind fun y13 => (if y13 = true then some (TInts.mk [] 5) else ((aO (cN p0) (y13,0,y6.1)).bind fun u19 => ((aO (dk p0 u19) (0,([]:List Int))).bind fun u38 => some (TInts.mk u38.2 0)))))))))
def gc (p0:TY) (p1:Int) : Option (Int × Int) :=
 ((ci p0).bind fun y2 => (if (y2 != 0) = true then some (0,y2) else ((iQ p0 p1).bind fun y5 => (if decide (y5 < 0) = true then some (0,5) else al ((0:Int) ≤ y5 ∧ y5 ≤ (p0.fB.length:Int)) (al (0 + (Int.toNat y5) ≤ 1000000000) (al ((0:Int) ≤ w64 (y5 + 1) ∧ w64 (y5 + 1) ≤ (p0.fB.length:Int)) (al ((0 + (Int.toNat y5)) + (p0.fB.length - Int.toNat (w64 (y5 + 1))) ≤ 1000000000) (((db p0 (-1) (-1)).bind fun y20 => ((cl p0 y20).bind fun y26 => ((db (TY.mk ((([]:List TBay) ++ (p0.fB.take (Int.toNat y5))) ++ (p0.fB.drop (Int.toNat (w64 (y5 + 1))))) p0.fR) (-1) (-1)).bind fun y28 => ((cl (TY.mk ((([]:List TBay) ++ (p0.fB.take (Int.toNat y5))) ++ (p0.fB.drop (Int.toNat (w64 (y5 + 1))))) p0.fR) y28).bind fun y34 => some (w64 (y26 - y34),0)))))))))))))
def dH (p0:TY) (p1:(List Int)) (p2:Int) : Option Bool :=
 ((fb p0).bind fun y2 => (if ((!y2) || (decide (40 < (p1.length:Int)))) = true then ((d9).bind fun y6 => some y6) else ((eE p0).bind fun y8 => ((eJ p0).bind fun y14 => ((fv p0).bind fun y21 => ((fq p0).bind fun y27 => ((dV p0 p1).bind fun y34 => ((d3 p0 p1).bind fun y40 => ((gy p0 p2).bind fun y47 => ((gc p0 p2).bind fun y49 => ((d9).bind fun y51 => ((if y51 = true then ((bH y8.1 y14.fL).bind fun y71 => some (y71)) else (some (false))).bind fun b54 => ((if (b54 && (y8.2 == y14.fE)) = true then ((bH y21.1 y27.fL).bind fun y69 => some (y69)) else (some (false))).bind fun b58 => ((if (b58 && (y21.2 == y27.fE)) = true then ((bH y34.1 y40.fL).bind fun y67 => some (y67)) else (some (false))).bind fun b62 => some (((b62 && (y34.2 == y40.fE)) && (y47.1 == y49.1)) && (y47.2 == y49.2))))))))))))))))
def nZ (p0:TY) : Option (Int × Int) :=
 ((cd p0).bind fun y2 => (if (y2 != 0) = true then some (0,y2) else ((dl p0).bind fun y5 => some (y5,0))))
end
end Go.Proofs.YthndghnkebboaaaGreat
