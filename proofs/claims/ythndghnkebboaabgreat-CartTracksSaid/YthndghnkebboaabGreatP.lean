import Derived.Test.YthndghnkebboaabGreatGz
set_option linter.unusedVariables false
namespace Go.Proofs.YthndghnkebboaabGreat
noncomputable section
structure TSpan where
 fLo : Int
 fHi : Int
 deriving DecidableEq
instance : Inhabited TSpan:=⟨⟨default,default⟩⟩
def TSpan_rg (x:TSpan) : Prop:=bP x.fLo ∧ bP x.fHi
structure TT where
 fID : Int
 fFrom : Int
 fTo : Int
 fLong : Int
 fToll : Int
 fK : (List TSpan)
 deriving DecidableEq
instance : Inhabited TT:=⟨⟨default,default,default,default,default,default⟩⟩
def TTrack_rg (x:TT) : Prop:=bP x.fID ∧ bP x.fFrom ∧ bP x.fTo ∧ bP x.fLong ∧ bP x.fToll ∧ (iC TSpan_rg x.fK)
structure TR where
 fL : Int
 fT : (List TT)
 deriving DecidableEq
instance : Inhabited TR:=⟨⟨default,default⟩⟩
def rG (x:TR) : Prop:=bP x.fL ∧ (iC TTrack_rg x.fT)
structure Ts where
 f_place : Int
 f_toll : Int
 deriving DecidableEq
instance : Inhabited Ts:=⟨⟨default,default⟩⟩
def Tstop_rg (x:Ts) : Prop:=bP x.f_place ∧ bP x.f_toll
structure Twait where
 f_at : Int
 f_stop : Ts
 deriving DecidableEq
instance : Inhabited Twait:=⟨⟨default,default⟩⟩
def Twait_rg (x:Twait) : Prop:=bP x.f_at ∧ bP x.f_stop.f_place ∧ bP x.f_stop.f_toll
structure TLeg where
 fTrack : Int
 fHour : Int
 deriving DecidableEq
instance : Inhabited TLeg:=⟨⟨default,default⟩⟩
def TLeg_rg (x:TLeg) : Prop:=bP x.fTrack ∧ bP x.fHour
structure Tl where
 f_at : Int
 f_from : Ts
 f_leg : TLeg
 f_begin : Bool
 deriving DecidableEq
instance : Inhabited Tl:=⟨⟨default,default,default,default⟩⟩
def Tlabel_rg (x:Tl) : Prop:=bP x.f_at ∧ bP x.f_from.f_place ∧ bP x.f_from.f_toll ∧ bP x.f_leg.fTrack ∧ bP x.f_leg.fHour
structure TJ where
 fLegs : (List TLeg)
 fA : Int
 fToll : Int
 deriving DecidableEq
instance : Inhabited TJ:=⟨⟨default,default,default⟩⟩
def TJourney_rg (x:TJ) : Prop:=(iC TLeg_rg x.fLegs) ∧ bP x.fA ∧ bP x.fToll
structure TBay where
 fID : Int
 fHour : Int
 fD : Int
 deriving DecidableEq
instance : Inhabited TBay:=⟨⟨default,default,default⟩⟩
def TBay_rg (x:TBay) : Prop:=bP x.fID ∧ bP x.fHour ∧ bP x.fD
structure TO where
 fID : Int
 fH : TSpan
 fD : Int
 fW : Int
 deriving DecidableEq
instance : Inhabited TO:=⟨⟨default,default,default,default⟩⟩
def sB (x:TO) : Prop:=bP x.fID ∧ bP x.fH.fLo ∧ bP x.fH.fHi ∧ bP x.fD ∧ bP x.fW
structure TY where
 fB : (List TBay)
 fOrders : (List TO)
 deriving DecidableEq
instance : Inhabited TY:=⟨⟨default,default⟩⟩
def TYard_rg (x:TY) : Prop:=(iC TBay_rg x.fB) ∧ (iC sB x.fOrders)
structure TTimes where
 fH : (List (List Int))
 deriving DecidableEq
instance : Inhabited TTimes:=⟨⟨default⟩⟩
def TTimes_rg (x:TTimes) : Prop:=(iC (iC bP) x.fH)
structure TPlan where
 fG : (List Int)
 fW : Int
 fP : (List Int)
 deriving DecidableEq
instance : Inhabited TPlan:=⟨⟨default,default,default⟩⟩
def TPlan_rg (x:TPlan) : Prop:=(iC bP x.fG) ∧ bP x.fW ∧ (iC bP x.fP)
structure TMade where
 fR : TR
 fE : Int
 deriving DecidableEq
instance : Inhabited TMade:=⟨⟨default,default⟩⟩
def TMade_rg (x:TMade) : Prop:=bP x.fR.fL ∧ (iC TTrack_rg x.fR.fT) ∧ bP x.fE
def bq (x:Ts) : Bool:=em x.f_place && em x.f_toll
def eV (p0:TR) (s3:(Bool × Int)) : Option ((Bool × Int) ⊕ ((Bool × Int) ⊕ (Bool × Int))) :=
 (if decide (s3.2 < (p0.fT.length:Int)) = true then ao ((0:Int) ≤ s3.2 ∧ s3.2 < (p0.fT.length:Int)) ((if decide (12 < (((rdL p0.fT s3.2).fK.length : Nat) : Int)) = true then some (.inr (.inl (false,s3.2))) else some (.inl (s3.1,w64 (s3.2 + 1))))) else some (.inr (.inr (s3.1,s3.2))))
def fu (p0:TR) : Option Bool :=
 ((aT (eV p0) (false,0)).bind fun u4 => match u4 with | (.inl u9) => some u9.1 | (.inr u10) => some (((decide (p0.fL ≤ 8)) || (decide (16 < p0.fL))) && ((decide ((p0.fT.length:Int) ≤ 16)) || ((decide (48 < (p0.fT.length:Int))) && (decide ((p0.fT.length:Int) ≤ 60))))))
def a5 (p0:(List TT)) (p1:TT → Option Bool) (s2:(Int × Int)) : Option ((Int × Int) ⊕ ((Int × Int) ⊕ (Int × Int))) :=
 (if decide (s2.2 < (p0.length:Int)) = true then ao ((0:Int) ≤ s2.2 ∧ s2.2 < (p0.length:Int)) (((p1 (TT.mk ((rdL p0 s2.2).fID) ((rdL p0 s2.2).fFrom) ((rdL p0 s2.2).fTo) ((rdL p0 s2.2).fLong) ((rdL p0 s2.2).fToll) ((rdL p0 s2.2).fK))).bind fun y6 => (if y6 = true then some (.inr (.inl (s2.2,s2.2))) else some (.inl (s2.1,w64 (s2.2 + 1)))))) else some (.inr (.inr (s2.1,s2.2))))
def bv (p0:(List TT)) (p1:TT → Option Bool) : Option Int :=
 ((aT (a5 p0 p1) (0,0)).bind fun u3 => match u3 with | (.inl u10) => some u10.1 | (.inr u11) => some (-1))
def cd (p0:(List TT)) (p1:TT → Option Bool) : Option Int :=
 ((bv p0 p1).bind fun y1 => some y1)
def gn (p0:TT) (cap0:Int) : Option Bool :=
 some (p0.fID == cap0)
def gM (p0:TR) (p1:Int) : Option Int :=
 ((cd p0.fT (fun x3 => gn x3 p1)).bind fun y4 => some y4)
def eH (p0:(List TSpan)) (s2:(Bool × Int × Int)) : Option ((Bool × Int × Int) ⊕ ((Bool × Int × Int) ⊕ (Bool × Int × Int))) :=
 (if decide (s2.2.2 < (p0.length:Int)) = true then ao ((0:Int) ≤ s2.2.2 ∧ s2.2.2 < (p0.length:Int)) ((if (((decide ((rdL p0 s2.2.2).fLo < w64 (s2.2.1 + 2))) || (decide ((rdL p0 s2.2.2).fHi < (rdL p0 s2.2.2).fLo))) || (decide (16384 < (rdL p0 s2.2.2).fHi))) = true then some (.inr (.inl (false,s2.2.1,s2.2.2))) else some (.inl (s2.1,(rdL p0 s2.2.2).fHi,w64 (s2.2.2 + 1))))) else some (.inr (.inr (s2.1,s2.2.1,s2.2.2))))
def fU (p0:(List TSpan)) : Option Bool :=
 ((aT (eH p0) (false,(-2),0)).bind fun u3 => match u3 with | (.inl u11) => some u11.1 | (.inr u12) => some (decide ((p0.length:Int) ≤ 4)))
def bk (p0:Int) (p1:Int) (p2:Int) : Option Bool :=
 some ((decide (p1 ≤ p0)) && (decide (p0 ≤ p2)))
def gp (p0:Int) (cap0:TR) : Option Bool :=
 ((bk p0 0 (w64 (cap0.fL - 1))).bind fun y1 => some y1)
def fx (p0:TR) (s7:(Int × Int)) : Option ((Int × Int) ⊕ ((Int × Int) ⊕ (Int × Int))) :=
 (if decide (s7.2 < (p0.fT.length:Int)) = true then ao ((0:Int) ≤ s7.2 ∧ s7.2 < (p0.fT.length:Int)) (((bk ((rdL p0.fT s7.2).fID) 1 1099511627776).bind fun y12 => ((if (!y12) = true then (some (true)) else ((gp ((rdL p0.fT s7.2).fFrom) p0).bind fun y42 => some ((!y42)))).bind fun b15 => ((if b15 = true then (some (true)) else ((gp ((rdL p0.fT s7.2).fTo) p0).bind fun y40 => some ((!y40)))).bind fun b18 => ((if (b18 || (((rdL p0.fT s7.2).fFrom) == ((rdL p0.fT s7.2).fTo))) = true then (some (true)) else ((bk ((rdL p0.fT s7.2).fLong) 1 72).bind fun y38 => some ((!y38)))).bind fun b22 => ((if b22 = true then (some (true)) else ((bk ((rdL p0.fT s7.2).fToll) 0 40).bind fun y36 => some ((!y36)))).bind fun b25 => ((if b25 = true then (some (true)) else ((fU ((rdL p0.fT s7.2).fK)).bind fun y34 => some ((!y34)))).bind fun b28 => (if b28 = true then some (.inr (.inl (1,s7.2))) else ((gM p0 ((rdL p0.fT s7.2).fID)).bind fun y31 => (if decide (y31 < s7.2) = true then some (.inr (.inl (6,s7.2))) else some (.inl (s7.1,w64 (s7.2 + 1))))))))))))) else some (.inr (.inr (s7.1,s7.2))))
def fV (p0:TR) : Option Int :=
 ((bk p0.fL 1 16).bind fun y2 => (if (!y2) = true then some 1 else (if decide (48 < (p0.fT.length:Int)) = true then some 2 else ((aT (fx p0) (0,0)).bind fun u8 => match u8 with | (.inl u45) => some u45.1 | (.inr u46) => some 0))))
def dx (p0:Int) : Option Bool :=
 ((bk p0 0 16384).bind fun y1 => some y1)
def gP (p0:TR) (p1:Int) (p2:Int) (p3:Int) (p4:Int) : Option Int :=
 ((fV p0).bind fun y2 => (if (y2 != 0) = true then some y2 else ((bk p1 0 (w64 (p0.fL - 1))).bind fun y5 => ((if (!y5) = true then (some (true)) else ((bk p2 0 (w64 (p0.fL - 1))).bind fun y21 => some ((!y21)))).bind fun b8 => ((if b8 = true then (some (true)) else ((dx p3).bind fun y19 => some ((!y19)))).bind fun b11 => ((if b11 = true then (some (true)) else ((bk p4 0 60).bind fun y17 => some ((!y17)))).bind fun b14 => (if b14 = true then some 1 else some 0)))))))
def eA (p0:TT) (s3:(Int × Int)) : Option ((Int × Int) ⊕ (Int × Int)) :=
 (if decide (s3.2 < (p0.fK.length:Int)) = true then ao ((0:Int) ≤ s3.2 ∧ s3.2 < (p0.fK.length:Int)) (((bk s3.1 ((rdL p0.fK s3.2).fLo) ((rdL p0.fK s3.2).fHi)).bind fun y8 => (if y8 = true then some (.inl (w64 (((rdL p0.fK s3.2).fHi) + 1),w64 (s3.2 + 1))) else some (.inl (s3.1,w64 (s3.2 + 1)))))) else some (.inr (s3.1,s3.2)))
def gN (p0:TT) (p1:Int) : Option (Int × Bool) :=
 ((aT (eA p0) (p1,0)).bind fun u4 => ((dx u4.1).bind fun y12 => some (u4.1,y12)))
def eQ (p0:(List Twait)) : Option Int :=
 some (p0.length:Int)
def du (p0:(List Twait)) (p1:Int) (p2:Int) : Option Bool :=
 ao ((0:Int) ≤ p1 ∧ p1 < (p0.length:Int)) (ao ((0:Int) ≤ p2 ∧ p2 < (p0.length:Int)) (some (decide ((rdL p0 p1).f_at < (rdL p0 p2).f_at))))
def dp (p0:(List Twait)) (p1:Int) (p2:Int) : Option (List Twait) :=
 ao ((0:Int) ≤ p2 ∧ p2 < (p0.length:Int)) (ao ((0:Int) ≤ p1 ∧ p1 < (p0.length:Int)) (ao ((0:Int) ≤ p1 ∧ p1 < (p0.length:Int)) (ao ((0:Int) ≤ p2 ∧ p2 < (p0.length:Int)) (some ((p0.set (Int.toNat p1) (rdL p0 p2)).set (Int.toNat p2) (rdL p0 p1))))))
def fM (p2:Int) (s3:(Int × (List Twait))) : Option ((Int × (List Twait)) ⊕ (Int × (List Twait))) :=
 (if ((decide (p2 ≤ w64 ((w64 (2 * s3.1)) + 1))) || (decide (w64 ((w64 (2 * s3.1)) + 1) < 0))) = true then some (.inr (s3.1,s3.2)) else ((if decide (w64 ((w64 ((w64 (2 * s3.1)) + 1)) + 1) < p2) = true then ((du s3.2 (w64 ((w64 ((w64 (2 * s3.1)) + 1)) + 1)) (w64 ((w64 (2 * s3.1)) + 1))).bind fun y23 => some (y23)) else (some (false))).bind fun b8 => (if b8 = true then ((du s3.2 (w64 ((w64 ((w64 (2 * s3.1)) + 1)) + 1)) s3.1).bind fun y11 => (if (!y11) = true then some (.inr (s3.1,s3.2)) else ((dp s3.2 s3.1 (w64 ((w64 ((w64 (2 * s3.1)) + 1)) + 1))).bind fun y14 => some (.inl (w64 ((w64 ((w64 (2 * s3.1)) + 1)) + 1),y14))))) else ((du s3.2 (w64 ((w64 (2 * s3.1)) + 1)) s3.1).bind fun y17 => (if (!y17) = true then some (.inr (s3.1,s3.2)) else ((dp s3.2 s3.1 (w64 ((w64 (2 * s3.1)) + 1))).bind fun y20 => some (.inl (w64 ((w64 (2 * s3.1)) + 1),y20))))))))
def eW (p0:(List Twait)) (p1:Int) (p2:Int) : Option (Bool × (List Twait)) :=
 ((aT (fM p2) (p1,p0)).bind fun u4 => some (decide (p1 < u4.1),u4.2))
def iB (p0:(List Twait)) : Option (Twait × (List Twait)) :=
 ao ((0:Int) ≤ w64 ((p0.length:Int) - 1) ∧ w64 ((p0.length:Int) - 1) < (p0.length:Int)) (ao ((0:Int) ≤ w64 ((p0.length:Int) - 1) ∧ w64 ((p0.length:Int) - 1) ≤ (p0.length:Int)) (some ((Twait.mk ((rdL p0 (w64 ((p0.length:Int) - 1))).f_at) (Ts.mk ((rdL p0 (w64 ((p0.length:Int) - 1))).f_stop.f_place) ((rdL p0 (w64 ((p0.length:Int) - 1))).f_stop.f_toll))),(p0.take (Int.toNat (w64 ((p0.length:Int) - 1)))))))
def fw (p0:(List Twait)) : Option (Twait × (List Twait)) :=
 ((eQ p0).bind fun y1 => ((dp p0 0 (w64 (y1 - 1))).bind fun y3 => ((eW y3 0 (w64 (y1 - 1))).bind fun y6 => ((iB y6.2).bind fun y12 => some (y12.1,y12.2)))))
def gu (x:TR × Int) : Prop:=x.1.fT.length ≤ 1000
instance (x:TR × Int) : Decidable (gu x):=by unfold gu; infer_instance
def sg (x:TR × Int) : List TT:=x.1.fT.filter fun z => z.fFrom == x.2
def kS (p0:TR) (p1:Int) : Option Unit :=
 some ()
def gy (s3:(Int × (List Twait))) : Option ((Int × (List Twait)) ⊕ (Int × (List Twait))) :=
 ((if ((w64 (Int.tdiv (w64 (s3.1 - 1)) 2)) == s3.1) = true then (some (true)) else ((du s3.2 s3.1 (w64 (Int.tdiv (w64 (s3.1 - 1)) 2))).bind fun y12 => some ((!y12)))).bind fun b6 => (if b6 = true then some (.inr (s3.1,s3.2)) else ((dp s3.2 (w64 (Int.tdiv (w64 (s3.1 - 1)) 2)) s3.1).bind fun y9 => some (.inl (w64 (Int.tdiv (w64 (s3.1 - 1)) 2),y9)))))
def fY (p0:(List Twait)) (p1:Int) : Option (List Twait) :=
 ((aT (gy) (p1,p0)).bind fun u4 => some u4.2)
def gT (p0:(List Twait)) (p1:Twait) : Option (List Twait) :=
 ao (p0.length + 1 ≤ 1000000000) (some (p0 ++ [p1]))
def fe (p0:(List Twait)) (p1:Twait) : Option (List Twait) :=
 ((gT p0 p1).bind fun y1 => ((eQ y1).bind fun y7 => ((fY y1 (w64 (y7 - 1))).bind fun y9 => some y9)))
def gd (y15:(Twait × (List Twait))) (s39:((List (Ts × Tl)) × (List Twait))) (x40:TT) : Option (((List (Ts × Tl)) × (List Twait)) ⊕ Unit) :=
 ((gN x40 y15.1.f_at).bind fun y43 => ((if ((!y43.2) || (decide (60 < w64 (y15.1.f_stop.f_toll + x40.fToll)))) = true then (some (true)) else ((dx (w64 (y43.1 + x40.fLong))).bind fun y62 => some ((!y62)))).bind fun b48 => (if b48 = true then some (.inl (s39.1,s39.2)) else ao (bq (Ts.mk x40.fTo (w64 (y15.1.f_stop.f_toll + x40.fToll))) = true) ((if ((bl s39.1 (Ts.mk x40.fTo (w64 (y15.1.f_stop.f_toll + x40.fToll)))) && (decide ((az (Tl.mk 0 (Ts.mk 0 0) (TLeg.mk 0 0) false) s39.1 (Ts.mk x40.fTo (w64 (y15.1.f_stop.f_toll + x40.fToll)))).f_at ≤ w64 (y43.1 + x40.fLong)))) = true then some (.inl (s39.1,s39.2)) else ao (bq (Ts.mk x40.fTo (w64 (y15.1.f_stop.f_toll + x40.fToll))) = true ∧ List.length s39.1 < 1000000000) (((fe s39.2 (Twait.mk (w64 (y43.1 + x40.fLong)) (Ts.mk x40.fTo (w64 (y15.1.f_stop.f_toll + x40.fToll))))).bind fun y56 => some (.inl ((((Ts.mk x40.fTo (w64 (y15.1.f_stop.f_toll + x40.fToll))),(Tl.mk (w64 (y43.1 + x40.fLong)) y15.1.f_stop (TLeg.mk x40.fID y43.1) false)) :: s39.1),y56)))))))))
def kw (p0:TR) (s10:((List Twait) × (List (Ts × Tl)))) : Option (((List Twait) × (List (Ts × Tl))) ⊕ ((List Twait) × (List (Ts × Tl)))) :=
 ((eQ s10.1).bind fun y12 => (if decide (0 < y12) = true then ((fw s10.1).bind fun y15 => ao (bq y15.1.f_stop = true) ((if decide ((az (Tl.mk 0 (Ts.mk 0 0) (TLeg.mk 0 0) false) s10.2 y15.1.f_stop).f_at < y15.1.f_at) = true then some (.inl (y15.2,s10.2)) else ((kS p0 y15.1.f_stop.f_place).bind fun y24 => (ao (gu (p0,y15.1.f_stop.f_place)) ((il (gd y15) (sg (p0,y15.1.f_stop.f_place)) (s10.2,y15.2)).bind fun u41 => match u41 with | .inl u68 => some (.inl (u68.2,u68.1)) | .inr _ => none)))))) else some (.inr (s10.1,s10.2))))
def i2 (p0:TR) (p1:Int) (p2:Int) : Option (List (Ts × Tl)) :=
 ao (bq (Ts.mk p1 0) = true ∧ List.length ([]:(List (Ts × Tl))) < 1000000000) (((aT (kw p0) ([(Twait.mk p2 (Ts.mk p1 0))],(((Ts.mk p1 0),(Tl.mk p2 (Ts.mk 0 0) (TLeg.mk 0 0) true)) :: ([]:(List (Ts × Tl)))))).bind fun u11 => some u11.2))
def jo (p0:(List (Ts × Tl))) (p1:Int) (s5:(Int × Int × (List Int))) : Option ((Int × Int × (List Int)) ⊕ (Int × Int × (List Int))) :=
 (if decide (s5.2.1 < 61) = true then ao (bq (Ts.mk p1 s5.2.1) = true) ((if ((bl p0 (Ts.mk p1 s5.2.1)) && ((decide (s5.1 < 0)) || (decide ((az (Tl.mk 0 (Ts.mk 0 0) (TLeg.mk 0 0) false) p0 (Ts.mk p1 s5.2.1)).f_at < s5.1)))) = true then ao ((0:Int) ≤ s5.2.1 ∧ s5.2.1 < 61) (some (.inl ((az (Tl.mk 0 (Ts.mk 0 0) (TLeg.mk 0 0) false) p0 (Ts.mk p1 s5.2.1)).f_at,w64 (s5.2.1 + 1),(s5.2.2.set (Int.toNat s5.2.1) ((az (Tl.mk 0 (Ts.mk 0 0) (TLeg.mk 0 0) false) p0 (Ts.mk p1 s5.2.1)).f_at))))) else ao ((0:Int) ≤ s5.2.1 ∧ s5.2.1 < 61) (some (.inl (s5.1,w64 (s5.2.1 + 1),(s5.2.2.set (Int.toNat s5.2.1) s5.1)))))) else some (.inr (s5.1,s5.2.1,s5.2.2)))
def gC (p0:(List (Ts × Tl))) (p1:Int) : Option (List Int) :=
 ((aT (jo p0 p1) ((-1),0,(List.replicate 61 0))).bind fun u6 => some u6.2.2)
def eF (p0:(List TLeg)) (s3:(Int × Int × (List TLeg))) : Option ((Int × Int × (List TLeg)) ⊕ (Int × Int × (List TLeg))) :=
 (if decide (s3.1 < s3.2.1) = true then ao ((0:Int) ≤ s3.2.1 ∧ s3.2.1 < (p0.length:Int)) (ao ((0:Int) ≤ s3.1 ∧ s3.1 < (p0.length:Int)) (ao ((0:Int) ≤ s3.1 ∧ s3.1 < (p0.length:Int)) (ao ((0:Int) ≤ s3.2.1 ∧ s3.2.1 < (p0.length:Int)) (some (.inl (w64 (s3.1 + 1),w64 (s3.2.1 - 1),((s3.2.2.set (Int.toNat s3.1) (rdL s3.2.2 s3.2.1)).set (Int.toNat s3.2.1) (rdL s3.2.2 s3.1)))))))) else some (.inr (s3.1,s3.2.1,s3.2.2)))
def dO (p0:(List TLeg)) : Option (List TLeg) :=
 ((aT (eF p0) (0,w64 ((p0.length:Int) - 1),p0)).bind fun u4 => some u4.2.2)
def jL (p0:(List (Ts × Tl))) (s9:(Tl × (List TLeg))) : Option ((Tl × (List TLeg)) ⊕ (Tl × (List TLeg))) :=
 (if (!s9.1.f_begin) = true then ao (s9.2.length + 1 ≤ 1000000000) (ao (bq s9.1.f_from = true) (some (.inl ((Tl.mk ((az (Tl.mk 0 (Ts.mk 0 0) (TLeg.mk 0 0) false) p0 s9.1.f_from).f_at) (Ts.mk ((az (Tl.mk 0 (Ts.mk 0 0) (TLeg.mk 0 0) false) p0 s9.1.f_from).f_from.f_place) ((az (Tl.mk 0 (Ts.mk 0 0) (TLeg.mk 0 0) false) p0 s9.1.f_from).f_from.f_toll)) (TLeg.mk ((az (Tl.mk 0 (Ts.mk 0 0) (TLeg.mk 0 0) false) p0 s9.1.f_from).f_leg.fTrack) ((az (Tl.mk 0 (Ts.mk 0 0) (TLeg.mk 0 0) false) p0 s9.1.f_from).f_leg.fHour)) ((az (Tl.mk 0 (Ts.mk 0 0) (TLeg.mk 0 0) false) p0 s9.1.f_from).f_begin)),(s9.2 ++ [s9.1.f_leg]))))) else some (.inr (s9.1,s9.2)))
def jN (p0:(List (Ts × Tl))) (p1:Ts) : Option TJ :=
 ao (bq p1 = true) (ao (bq p1 = true) (((aT (jL p0) ((Tl.mk ((az (Tl.mk 0 (Ts.mk 0 0) (TLeg.mk 0 0) false) p0 p1).f_at) (Ts.mk ((az (Tl.mk 0 (Ts.mk 0 0) (TLeg.mk 0 0) false) p0 p1).f_from.f_place) ((az (Tl.mk 0 (Ts.mk 0 0) (TLeg.mk 0 0) false) p0 p1).f_from.f_toll)) (TLeg.mk ((az (Tl.mk 0 (Ts.mk 0 0) (TLeg.mk 0 0) false) p0 p1).f_leg.fTrack) ((az (Tl.mk 0 (Ts.mk 0 0) (TLeg.mk 0 0) false) p0 p1).f_leg.fHour)) ((az (Tl.mk 0 (Ts.mk 0 0) (TLeg.mk 0 0) false) p0 p1).f_begin)),([]:List TLeg))).bind fun u10 => ((dO u10.2).bind fun y19 => some (TJ.mk y19 ((az (Tl.mk 0 (Ts.mk 0 0) (TLeg.mk 0 0) false) p0 p1).f_at) p1.f_toll)))))
def lu (p2:Int) (y2:(List (Ts × Tl))) (y5:(List Int)) (s11:(Int × Int × (List TJ))) : Option ((Int × Int × (List TJ)) ⊕ (Int × Int × (List TJ))) :=
 (if decide (s11.2.1 < 61) = true then ao ((0:Int) ≤ s11.2.1 ∧ s11.2.1 < 61) ((if ((rdL y5 s11.2.1) != s11.1) = true then ((jN y2 (Ts.mk p2 s11.2.1)).bind fun y16 => ao (s11.2.2.length + 1 ≤ 1000000000) (some (.inl ((rdL y5 s11.2.1),w64 (s11.2.1 + 1),(s11.2.2 ++ [y16]))))) else some (.inl ((rdL y5 s11.2.1),w64 (s11.2.1 + 1),s11.2.2)))) else some (.inr (s11.1,s11.2.1,s11.2.2)))
def kf (p0:TR) (p1:Int) (p2:Int) (p3:Int) : Option (List TJ) :=
 ((i2 p0 p1 p3).bind fun y2 => ((gC y2 p2).bind fun y5 => ((aT (lu p2 y2 y5) ((-1),0,([]:List TJ))).bind fun u12 => some u12.2.2)))
def l9 (p4:Int) (y4:(List TJ)) (s18:(Bool × Int × (List TLeg) × Int × Int)) : Option ((Bool × Int × (List TLeg) × Int × Int) ⊕ (Bool × Int × (List TLeg) × Int × Int)) :=
 (if decide (s18.2.1 < (y4.length:Int)) = true then ao ((0:Int) ≤ s18.2.1 ∧ s18.2.1 < (y4.length:Int)) ((if decide ((rdL y4 s18.2.1).fToll ≤ p4) = true then some (.inl (true,w64 (s18.2.1 + 1),(rdL y4 s18.2.1).fLegs,(rdL y4 s18.2.1).fA,(rdL y4 s18.2.1).fToll)) else some (.inl (s18.1,w64 (s18.2.1 + 1),s18.2.2.1,s18.2.2.2.1,s18.2.2.2.2)))) else some (.inr (s18.1,s18.2.1,s18.2.2.1,s18.2.2.2.1,s18.2.2.2.2)))
def jK (p0:TR) (p1:Int) (p2:Int) (p3:Int) (p4:Int) : Option (TJ × Bool) :=
 ((kf p0 p1 p2 p3).bind fun y4 => ((aT (l9 p4 y4) (false,0,([]:(List TLeg)),0,0)).bind fun u19 => some ((TJ.mk u19.2.2.1 u19.2.2.2.1 u19.2.2.2.2),u19.1)))
def lI (p0:TR) (p1:Int) (p2:Int) (p3:Int) (p4:Int) : Option (TJ × Int) :=
 ((gP p0 p1 p2 p3 p4).bind fun y3 => (if (y3 != 0) = true then some ((TJ.mk ([]:(List TLeg)) 0 0),y3) else ((jK p0 p1 p2 p3 p4).bind fun y6 => (if (!y6.2) = true then some ((TJ.mk ([]:(List TLeg)) 0 0),5) else some (y6.1,0)))))
def bj (p0:(List TT)) : Option (List TT) :=
 ao (0 + p0.length ≤ 1000000000) (some (([]:List TT) ++ p0))
def c8 (p0:(List TT)) (p1:Int) (p2:Int) : Option (List TT) :=
 ao ((0:Int) ≤ p1 ∧ p1 ≤ p2 ∧ p2 ≤ (p0.length:Int) ∧ (p0.length:Int) ≤ (p0.length:Int)) ((if (p1 == p2) = true then some p0 else ao ((0:Int) ≤ p1 ∧ p1 ≤ (p0.length:Int)) (ao ((0:Int) ≤ p2 ∧ p2 ≤ (p0.length:Int)) (ao (p1 ≤ p2) (some (p0.take (Int.toNat p1) ++ p0.drop (Int.toNat p2)))))))
def dG (p0:Int) : Option Bool :=
 some (p0 != p0)
def gt (p0:Int) (p1:Int) : Option Bool :=
 ((dG p0).bind fun y1 => ((if y1 = true then ((dG p1).bind fun y7 => some ((!y7))) else (some (false))).bind fun b4 => some (b4 || (decide (p0 < p1)))))
def aW (p0:(List Int)) (p1:Int) (s8:(Int × (List Int))) : Option ((Int × (List Int)) ⊕ (Int × (List Int))) :=
 ((if decide (p1 < s8.1) = true then (ao ((0:Int) ≤ s8.1 ∧ s8.1 < (p0.length:Int)) (ao ((0:Int) ≤ w64 (s8.1 - 1) ∧ w64 (s8.1 - 1) < (p0.length:Int)) (((gt (rdL s8.2 s8.1) (rdL s8.2 (w64 (s8.1 - 1)))).bind fun y21 => some (y21))))) else (some (false))).bind fun b11 => (if b11 = true then ao ((0:Int) ≤ w64 (s8.1 - 1) ∧ w64 (s8.1 - 1) < (p0.length:Int)) (ao ((0:Int) ≤ s8.1 ∧ s8.1 < (p0.length:Int)) (ao ((0:Int) ≤ s8.1 ∧ s8.1 < (p0.length:Int)) (ao ((0:Int) ≤ w64 (s8.1 - 1) ∧ w64 (s8.1 - 1) < (p0.length:Int)) (some (.inl (w64 (s8.1 - 1),((s8.2.set (Int.toNat s8.1) (rdL s8.2 (w64 (s8.1 - 1)))).set (Int.toNat (w64 (s8.1 - 1))) (rdL s8.2 s8.1)))))))) else some (.inr (s8.1,s8.2))))
def aF (p0:(List Int)) (p1:Int) (p2:Int) (s3:(Int × (List Int))) : Option ((Int × (List Int)) ⊕ (Int × (List Int))) :=
 (if decide (s3.1 < p2) = true then ((aT (aW p0 p1) (s3.1,s3.2)).bind fun u9 => some (.inl (w64 (s3.1 + 1),u9.2))) else some (.inr (s3.1,s3.2)))
def bi (p0:(List Int)) (p1:Int) (p2:Int) : Option (List Int) :=
 ((aT (aF p0 p1 p2) (w64 (p1 + 1),p0)).bind fun u4 => some u4.2)
def lenv (x:Int) : Int:=if x < 1 then 0 else if x < 2 then 1 else if x < 4 then 2 else if x < 8 then 3 else 4
def fz (p0:Int) : Option Int:=ao (0 ≤ p0 ∧ p0 < 16) (some (w64 (0 + lenv p0)))
def eu (p0:Int) : Option Int :=
 ((fz p0).bind fun y1 => some y1)
def bK (s3:(Int × Int × Int × Bool × Bool × (List Int))) : Option ((Int × Int × Int × Bool × Bool × (List Int)) ⊕ (Int × Int × Int × Bool × Bool × (List Int))) :=
 ao (decide (w64 (s3.2.1 - s3.1) ≤ 12) = true) (((bi s3.2.2.2.2.2 s3.1 s3.2.1).bind fun y6 => some (.inr (s3.1,s3.2.1,s3.2.2.1,s3.2.2.2.1,s3.2.2.2.2.1,y6))))
def cf (p0:(List Int)) (p1:Int) (p2:Int) (p3:Int) : Option (List Int) :=
 ((aT (bK) (p1,p2,p3,true,true,p0)).bind fun u4 => some u4.2.2.2.2.2)
def cO (p0:(List Int)) : Option (List Int):=ao (p0.length ≤ 12) (some (ri p0))
def kx (p0:TR) (p1:Int) (p2:Int) (p3:Int) (p4:Int) (y2:(TJ × Int)) (s16:(Int × (List Int))) : Option ((Int × (List Int)) ⊕ (Int × (List Int))) :=
 (if decide (s16.1 < (p0.fT.length:Int)) = true then ao ((0:Int) ≤ s16.1 ∧ s16.1 < (p0.fT.length:Int)) (((bj p0.fT).bind fun y22 => ((c8 y22 s16.1 (w64 (s16.1 + 1))).bind fun y31 => ((jK (TR.mk p0.fL y31) p1 p2 p3 p4).bind fun y40 => (if ((!y40.2) || (y40.1.fA != y2.1.fA)) = true then ao (s16.2.length + 1 ≤ 1000000000) (some (.inl (w64 (s16.1 + 1),(s16.2 ++ [(rdL p0.fT s16.1).fID])))) else some (.inl (w64 (s16.1 + 1),s16.2))))))) else some (.inr (s16.1,s16.2)))
def jb (p0:TR) (p1:Int) (p2:Int) (p3:Int) (p4:Int) : Option ((List Int) × Int) :=
 ((lI p0 p1 p2 p3 p4).bind fun y2 => (if (y2.2 != 0) = true then some ([],y2.2) else ((aT (kx p0 p1 p2 p3 p4 y2) (0,([]:List Int))).bind fun u17 => ((cO u17.2).bind fun y58 => some (y58,0)))))
def gO (p0:TT) (p1:Int) : Option (Int × Int) :=
 ((fU p0.fK).bind fun y2 => ((if (!y2) = true then (some (true)) else ((dx p1).bind fun y11 => some ((!y11)))).bind fun b5 => (if b5 = true then some (0,1) else ((gN p0 p1).bind fun y8 => (if (!y8.2) = true then some (0,5) else some (y8.1,0))))))
def g6  : Option TR :=
 some (TR.mk 3 [(TT.mk 1 0 1 5 0 ([]:(List TSpan))),(TT.mk 2 1 2 5 0 [(TSpan.mk 8 20)]),(TT.mk 3 0 2 9 6 ([]:(List TSpan))),(TT.mk 4 1 2 8 2 ([]:(List TSpan)))])
def gX  : Option TY :=
 some (TY.mk [(TBay.mk 1 10 3),(TBay.mk 2 11 5)] [(TO.mk 7 (TSpan.mk 10 11) 3 5),(TO.mk 8 (TSpan.mk 11 12) 4 9),(TO.mk 9 (TSpan.mk 10 11) 4 7)])
def cz (p0:(List Int)) : Option (List Int) :=
 ao (0 + p0.length ≤ 1000000000) (some (([]:List Int) ++ p0))
def ji (p0:TR) (y6:(List (Ts × Tl))) (s12:(Int × (List (List Int)))) : Option ((Int × (List (List Int))) ⊕ (Int × (List (List Int)))) :=
 (if decide (s12.1 < p0.fL) = true then ((gC y6 s12.1).bind fun y15 => ((cz y15).bind fun y20 => ao (s12.2.length + 1 ≤ 1000000000) (some (.inl (w64 (s12.1 + 1),(s12.2 ++ [y20])))))) else some (.inr (s12.1,s12.2)))
def jd (p0:TR) (p1:Int) (p2:Int) : Option (TTimes × Int) :=
 ((gP p0 p1 p1 p2 0).bind fun y3 => (if (y3 != 0) = true then some ((TTimes.mk []),y3) else ((i2 p0 p1 p2).bind fun y6 => ((aT (ji p0 y6) (0,([]:List (List Int)))).bind fun u13 => some ((TTimes.mk u13.2),0)))))
def lX (p0:TR) (p1:Int) (p2:Int) (p3:Int) : Option ((List TJ) × Int) :=
 ((gP p0 p1 p2 p3 0).bind fun y2 => (if (y2 != 0) = true then some ([],y2) else ((kf p0 p1 p2 p3).bind fun y5 => some (y5,0))))
def i7 (p0:Int) (cap0:TR) (cap1:Int) (cap2:Int) (cap3:Int) (cap4:Int) : Option Bool :=
 ((jK cap0 cap1 cap2 p0 cap3).bind fun y1 => some (y1.2 && (decide (y1.1.fA ≤ cap4))))
def kA (p0:TR) (p1:Int) (p2:Int) (p3:Int) (p4:Int) (s10:(Int × Int)) : Option ((Int × Int) ⊕ (Int × Int)) :=
 (if decide (s10.1 ≤ s10.2) = true then ((i7 (w64 (Int.tdiv (w64 (s10.1 + s10.2)) 2)) p0 p1 p2 p4 p3).bind fun y13 => (if y13 = true then some (.inl (w64 ((w64 (Int.tdiv (w64 (s10.1 + s10.2)) 2)) + 1),s10.2)) else some (.inl (s10.1,w64 ((w64 (Int.tdiv (w64 (s10.1 + s10.2)) 2)) - 1))))) else some (.inr (s10.1,s10.2)))
def kE (p0:TR) (p1:Int) (p2:Int) (p3:Int) (p4:Int) : Option (Int × Int) :=
 ((gP p0 p1 p2 p3 p4).bind fun y6 => (if (y6 != 0) = true then some (0,y6) else ((aT (kA p0 p1 p2 p3 p4) (0,p3)).bind fun u11 => (if decide (u11.2 < 0) = true then some (0,5) else some (u11.2,0)))))
def iP (p0:(List Int)) (p1:(List Int)) (s3:(Bool × Int)) : Option ((Bool × Int) ⊕ ((Bool × Int) ⊕ (Bool × Int))) :=
 (if decide (s3.2 < (p0.length:Int)) = true then ao ((0:Int) ≤ s3.2 ∧ s3.2 < (p0.length:Int)) (ao ((0:Int) ≤ s3.2 ∧ s3.2 < (p1.length:Int)) ((if ((rdL p0 s3.2) != (rdL p1 s3.2)) = true then some (.inr (.inl (false,s3.2))) else some (.inl (s3.1,w64 (s3.2 + 1)))))) else some (.inr (.inr (s3.1,s3.2))))
def cZ (p0:(List Int)) (p1:(List Int)) : Option Bool :=
 (if ((p0.length:Int) != (p1.length:Int)) = true then some false else ((aT (iP p0 p1) (false,0)).bind fun u4 => match u4 with | (.inl u10) => some u10.1 | (.inr u11) => some true))
def dj (p0:(List TO)) (p1:TO → Option Bool) (s2:(Int × Int)) : Option ((Int × Int) ⊕ ((Int × Int) ⊕ (Int × Int))) :=
 (if decide (s2.2 < (p0.length:Int)) = true then ao ((0:Int) ≤ s2.2 ∧ s2.2 < (p0.length:Int)) (((p1 (TO.mk ((rdL p0 s2.2).fID) (TSpan.mk ((rdL p0 s2.2).fH.fLo) ((rdL p0 s2.2).fH.fHi)) ((rdL p0 s2.2).fD) ((rdL p0 s2.2).fW))).bind fun y6 => (if y6 = true then some (.inr (.inl (s2.2,s2.2))) else some (.inl (s2.1,w64 (s2.2 + 1)))))) else some (.inr (.inr (s2.1,s2.2))))
def cA (p0:(List TO)) (p1:TO → Option Bool) : Option Int :=
 ((aT (dj p0 p1) (0,0)).bind fun u3 => match u3 with | (.inl u10) => some u10.1 | (.inr u11) => some (-1))
def cX (p0:(List TO)) (p1:TO → Option Bool) : Option Int :=
 ((cA p0 p1).bind fun y1 => some y1)
def iA (p0:TO) (cap0:Int) : Option Bool :=
 some (p0.fID == cap0)
def iX (p0:TY) (p1:Int) : Option Int :=
 ((cX p0.fOrders (fun x3 => iA x3 p1)).bind fun y4 => some y4)
def d9 (p0:(List TBay)) (p1:TBay → Option Bool) (s2:(Int × Int)) : Option ((Int × Int) ⊕ ((Int × Int) ⊕ (Int × Int))) :=
 (if decide (s2.2 < (p0.length:Int)) = true then ao ((0:Int) ≤ s2.2 ∧ s2.2 < (p0.length:Int)) (((p1 (TBay.mk ((rdL p0 s2.2).fID) ((rdL p0 s2.2).fHour) ((rdL p0 s2.2).fD))).bind fun y6 => (if y6 = true then some (.inr (.inl (s2.2,s2.2))) else some (.inl (s2.1,w64 (s2.2 + 1)))))) else some (.inr (.inr (s2.1,s2.2))))
def dg (p0:(List TBay)) (p1:TBay → Option Bool) : Option Int :=
 ((aT (d9 p0 p1) (0,0)).bind fun u3 => match u3 with | (.inl u10) => some u10.1 | (.inr u11) => some (-1))
def dD (p0:(List TBay)) (p1:TBay → Option Bool) : Option Int :=
 ((dg p0 p1).bind fun y1 => some y1)
def ke (p0:TBay) (cap0:Int) : Option Bool :=
 some (p0.fID == cap0)
def mw (p0:TY) (p1:Int) : Option Int :=
 ((dD p0.fB (fun x3 => ke x3 p1)).bind fun y4 => some y4)
def iJ (p0:TY) (s5:(Int × Int)) : Option ((Int × Int) ⊕ ((Int × Int) ⊕ (Int × Int))) :=
 (if decide (s5.2 < (p0.fB.length:Int)) = true then ao ((0:Int) ≤ s5.2 ∧ s5.2 < (p0.fB.length:Int)) (((bk ((rdL p0.fB s5.2).fID) 1 1099511627776).bind fun y10 => ((if (!y10) = true then (some (true)) else ((dx ((rdL p0.fB s5.2).fHour)).bind fun y24 => some ((!y24)))).bind fun b13 => ((if b13 = true then (some (true)) else ((bk ((rdL p0.fB s5.2).fD) 0 9).bind fun y22 => some ((!y22)))).bind fun b16 => (if b16 = true then some (.inr (.inl (1,s5.2))) else ((mw p0 ((rdL p0.fB s5.2).fID)).bind fun y19 => (if decide (y19 < s5.2) = true then some (.inr (.inl (6,s5.2))) else some (.inl (s5.1,w64 (s5.2 + 1)))))))))) else some (.inr (.inr (s5.1,s5.2))))
def iU (p0:TY) (s30:(Int × Int)) : Option ((Int × Int) ⊕ ((Int × Int) ⊕ (Int × Int))) :=
 (if decide (s30.2 < (p0.fOrders.length:Int)) = true then ao ((0:Int) ≤ s30.2 ∧ s30.2 < (p0.fOrders.length:Int)) (((bk ((rdL p0.fOrders s30.2).fID) 1 1099511627776).bind fun y35 => ((if (!y35) = true then (some (true)) else ((dx ((rdL p0.fOrders s30.2).fH.fLo)).bind fun y60 => some ((!y60)))).bind fun b38 => ((if b38 = true then (some (true)) else ((dx ((rdL p0.fOrders s30.2).fH.fHi)).bind fun y58 => some ((!y58)))).bind fun b41 => ((if (b41 || (decide ((rdL p0.fOrders s30.2).fH.fHi < (rdL p0.fOrders s30.2).fH.fLo))) = true then (some (true)) else ((bk ((rdL p0.fOrders s30.2).fD) 0 9).bind fun y56 => some ((!y56)))).bind fun b45 => ((if b45 = true then (some (true)) else ((bk ((rdL p0.fOrders s30.2).fW) 1 1000).bind fun y54 => some ((!y54)))).bind fun b48 => (if b48 = true then some (.inr (.inl (1,s30.2))) else ((iX p0 ((rdL p0.fOrders s30.2).fID)).bind fun y51 => (if decide (y51 < s30.2) = true then some (.inr (.inl (6,s30.2))) else some (.inl (s30.1,w64 (s30.2 + 1)))))))))))) else some (.inr (.inr (s30.1,s30.2))))
def cY (p0:TY) : Option Int :=
 (if ((decide (24 < (p0.fB.length:Int))) || (decide (24 < (p0.fOrders.length:Int)))) = true then some 2 else ((aT (iJ p0) (0,0)).bind fun u6 => match u6 with | (.inl u27) => some u27.1 | (.inr u28) => ((aT (iU p0) (u28.1,0)).bind fun u31 => match u31 with | (.inl u63) => some u63.1 | (.inr u64) => some 0)))
def cP (p0:(List Int)) (p1:Int) (p3:Int → Int → Option Int) (s8:(Int × (List Int))) : Option ((Int × (List Int)) ⊕ (Int × (List Int))) :=
 ((if decide (p1 < s8.1) = true then (ao ((0:Int) ≤ s8.1 ∧ s8.1 < (p0.length:Int)) (ao ((0:Int) ≤ w64 (s8.1 - 1) ∧ w64 (s8.1 - 1) < (p0.length:Int)) (((p3 (rdL s8.2 s8.1) (rdL s8.2 (w64 (s8.1 - 1)))).bind fun y21 => some (decide (y21 < 0)))))) else (some (false))).bind fun b11 => (if b11 = true then ao ((0:Int) ≤ w64 (s8.1 - 1) ∧ w64 (s8.1 - 1) < (p0.length:Int)) (ao ((0:Int) ≤ s8.1 ∧ s8.1 < (p0.length:Int)) (ao ((0:Int) ≤ s8.1 ∧ s8.1 < (p0.length:Int)) (ao ((0:Int) ≤ w64 (s8.1 - 1) ∧ w64 (s8.1 - 1) < (p0.length:Int)) (some (.inl (w64 (s8.1 - 1),((s8.2.set (Int.toNat s8.1) (rdL s8.2 (w64 (s8.1 - 1)))).set (Int.toNat (w64 (s8.1 - 1))) (rdL s8.2 s8.1)))))))) else some (.inr (s8.1,s8.2))))
def cQ (p0:(List Int)) (p1:Int) (p2:Int) (p3:Int → Int → Option Int) (s3:(Int × (List Int))) : Option ((Int × (List Int)) ⊕ (Int × (List Int))) :=
 (if decide (s3.1 < p2) = true then ((aT (cP p0 p1 p3) (s3.1,s3.2)).bind fun u9 => some (.inl (w64 (s3.1 + 1),u9.2))) else some (.inr (s3.1,s3.2)))
def bZ (p0:(List Int)) (p1:Int) (p2:Int) (p3:Int → Int → Option Int) : Option (List Int) :=
 ((aT (cQ p0 p1 p2 p3) (w64 (p1 + 1),p0)).bind fun u4 => some u4.2)
def dY (p1:Int) (s2:(Int × Int)) : Option ((Int × Int) ⊕ (Int × Int)) :=
 ao (decide (s2.2 ≤ p1) = false) (some (.inr (s2.1,s2.2)))
def ei (p1:Int) (s10:(Int × Int × Int)) : Option ((Int × Int × Int) ⊕ (Int × Int × Int)) :=
 ao (decide (s10.1 < p1) = false) (some (.inr (s10.1,s10.2.1,s10.2.2)))
def dm (p0:(List Int)) (p1:Int) (p2:Int → Int → Option Int) : Option (List Int) :=
 ((aT (dY p1) (0,20)).bind fun u3 => ((bZ p0 u3.1 p1 p2).bind fun y6 => ((aT (ei p1) (20,u3.1,u3.2)).bind fun u11 => some y6)))
def cx (p0:(List Int)) (p1:Int → Int → Option Int) : Option (List Int) :=
 ((dm p0 (p0.length:Int) p1).bind fun y1 => some y1)
def ig (p0:Int) (p1:Int) : Option Int :=
 ((dG p0).bind fun y1 => ((dG p1).bind fun y3 => (if y1 = true then (if y3 = true then some 0 else some (-1)) else (if y3 = true then some 1 else (if decide (p0 < p1) = true then some (-1) else (if decide (p1 < p0) = true then some 1 else some 0))))))
def iw (p0:Int) (p1:Int) (cap0:TY) : Option Int :=
 ao ((0:Int) ≤ p1 ∧ p1 < (cap0.fOrders.length:Int)) (ao ((0:Int) ≤ p0 ∧ p0 < (cap0.fOrders.length:Int)) (((ig ((rdL cap0.fOrders p1).fW) ((rdL cap0.fOrders p0).fW)).bind fun y3 => some y3)))
def iR (p0:TO) (p1:TBay) : Option Bool :=
 ((bk p1.fHour p0.fH.fLo p0.fH.fHi).bind fun y3 => some (y3 && (decide (p0.fD ≤ p1.fD))))
def bQ (p0:Int) (cap0:TY) (rec_:Int → TY → (List (Int × Bool)) → (List (Int × Int)) → Option (Bool × (List (Int × Bool)) × (List (Int × Int)))) (s3:(Bool × Int × (List (Int × Bool)) × (List (Int × Int)))) : Option ((Bool × Int × (List (Int × Bool)) × (List (Int × Int))) ⊕ ((Bool × Int × (List (Int × Bool)) × (List (Int × Int))) ⊕ (Bool × Int × (List (Int × Bool)) × (List (Int × Int))))) :=
 (if decide (s3.2.1 < (cap0.fB.length:Int)) = true then ao ((0:Int) ≤ s3.2.1 ∧ s3.2.1 < (cap0.fB.length:Int)) (ao (em s3.2.1 = true) (((if az false s3.2.2.1 s3.2.1 = true then (some (true)) else (ao ((0:Int) ≤ p0 ∧ p0 < (cap0.fOrders.length:Int)) (((iR (TO.mk ((rdL cap0.fOrders p0).fID) (TSpan.mk ((rdL cap0.fOrders p0).fH.fLo) ((rdL cap0.fOrders p0).fH.fHi)) ((rdL cap0.fOrders p0).fD) ((rdL cap0.fOrders p0).fW)) (TBay.mk ((rdL cap0.fB s3.2.1).fID) ((rdL cap0.fB s3.2.1).fHour) ((rdL cap0.fB s3.2.1).fD))).bind fun y22 => some ((!y22)))))).bind fun b10 => (if b10 = true then some (.inl (s3.1,w64 (s3.2.1 + 1),s3.2.2.1,s3.2.2.2)) else ao (em s3.2.1 = true ∧ List.length s3.2.2.1 < 1000000000) (ao (em s3.2.1 = true) ((if (!(bl s3.2.2.2 s3.2.1)) = true then (ao (em s3.2.1 = true ∧ List.length s3.2.2.2 < 1000000000) (some (.inr (.inl (true,s3.2.1,((s3.2.1,true) :: s3.2.2.1),((s3.2.1,p0) :: s3.2.2.2)))))) else ((rec_ (az 0 s3.2.2.2 s3.2.1) cap0 ((s3.2.1,true) :: s3.2.2.1) s3.2.2.2).bind fun y17 => (if y17.1 = true then ao (em s3.2.1 = true ∧ List.length y17.2.2 < 1000000000) (some (.inr (.inl (true,s3.2.1,y17.2.1,((s3.2.1,p0) :: y17.2.2))))) else some (.inl (s3.1,w64 (s3.2.1 + 1),y17.2.1,y17.2.2))))))))))) else some (.inr (.inr (s3.1,s3.2.1,s3.2.2.1,s3.2.2.2))))
def dC (rec_:Int → TY → (List (Int × Bool)) → (List (Int × Int)) → Option (Bool × (List (Int × Bool)) × (List (Int × Int)))) (p0:Int) (cap0:TY) (cap1:(List (Int × Bool))) (cap2:(List (Int × Int))) : Option (Bool × (List (Int × Bool)) × (List (Int × Int))) :=
 ((aT (bQ p0 cap0 rec_) (false,0,cap1,cap2)).bind fun u4 => match u4 with | (.inl u25) => some (u25.1,u25.2.2.1,u25.2.2.2) | (.inr u26) => some (false,u26.2.2.1,u26.2.2.2))
def bt : Nat → Int → TY → (List (Int × Bool)) → (List (Int × Int)) → Option (Bool × (List (Int × Bool)) × (List (Int × Int)))
 | 0 => fun _ _ _ _ => none
 | fuel + 1 => dC (bt fuel)
def fC (p0:(List (Int × Int))) (p1:TY) (p2:Int) : Option (Bool × (List (Int × Int))) :=
 ((bt (p1.fB.length + 2) p2 p1 [] p0).bind fun y6 => some (y6.1,y6.2.2))
def kY (p0:TY) (s4:(Int × (List Int))) : Option ((Int × (List Int)) ⊕ (Int × (List Int))) :=
 (if decide (s4.1 < (p0.fOrders.length:Int)) = true then ao (s4.2.length + 1 ≤ 1000000000) (some (.inl (w64 (s4.1 + 1),(s4.2 ++ [s4.1])))) else some (.inr (s4.1,s4.2)))
def lz (p0:TY) (u5:(Int × (List Int))) (y14:(List Int)) (s20:(Int × (List (Int × Int)))) : Option ((Int × (List (Int × Int))) ⊕ (Int × (List (Int × Int)))) :=
 (if decide (s20.1 < (u5.2.length:Int)) = true then ao ((0:Int) ≤ s20.1 ∧ s20.1 < (u5.2.length:Int)) (((fC s20.2 p0 (rdL y14 s20.1)).bind fun y24 => some (.inl (w64 (s20.1 + 1),y24.2)))) else some (.inr (s20.1,s20.2)))
def ki (p0:TY) : Option (List (Int × Int)) :=
 ((aT (kY p0) (0,([]:List Int))).bind fun u5 => ((cx u5.2 (fun x12 x13 => iw x12 x13 p0)).bind fun y14 => ((aT (lz p0 u5 y14) (0,[])).bind fun u21 => some u21.2)))
def eU (p0:(List (Int × Int))) (p1:TY) : Option Int :=
 ao ((gw p0).all (fun y5 => em y5 && decide (((0:Int) ≤ az 0 p0 y5 ∧ az 0 p0 y5 < (p1.fOrders.length:Int)))) = true) (some ((gw p0).foldl (fun a y5 => w64 (a + ((rdL p1.fOrders (az 0 p0 y5)).fW))) 0))
def fk (p0:TY) : Option Int :=
 ((ki p0).bind fun y2 => ((eU y2 p0).bind fun y5 => some y5))
def dX (p0:(List TBay)) (p1:Int) (p2:Int) : Option (List TBay) :=
 ao ((0:Int) ≤ p1 ∧ p1 ≤ p2 ∧ p2 ≤ (p0.length:Int) ∧ (p0.length:Int) ≤ (p0.length:Int)) ((if (p1 == p2) = true then some p0 else ao ((0:Int) ≤ p1 ∧ p1 ≤ (p0.length:Int)) (ao ((0:Int) ≤ p2 ∧ p2 ≤ (p0.length:Int)) (ao (p1 ≤ p2) (some (p0.take (Int.toNat p1) ++ p0.drop (Int.toNat p2)))))))
def eD (p0:(List TBay)) : Option (List TBay) :=
 ao (0 + p0.length ≤ 1000000000) (some (([]:List TBay) ++ p0))
def iz (p0:TY) (p1:Int) : Option TY :=
 ((eD p0.fB).bind fun y4 => ((dX y4 p1 (w64 (p1 + 1))).bind fun y10 => some (TY.mk y10 p0.fOrders)))
def md (p0:TY) (y6:Int) (s27:(Int × (List Int))) : Option ((Int × (List Int)) ⊕ (Int × (List Int))) :=
 (if decide (s27.1 < (p0.fB.length:Int)) = true then ((iz p0 s27.1).bind fun y31 => ((fk (TY.mk y31.fB p0.fOrders)).bind fun y41 => ao (s27.2.length + 1 ≤ 1000000000) (some (.inl (w64 (s27.1 + 1),(s27.2 ++ [w64 (y6 - y41)])))))) else some (.inr (s27.1,s27.2)))
def ns (p0:TY) (p1:(List (Int × Int))) : Option TPlan :=
 ao ((0:Int) ≤ (p0.fOrders.length:Int) ∧ (p0.fOrders.length:Int) * 8 ≤ 281474976710656) (((eU p1 p0).bind fun y6 => ao ((gw p1).all (fun y12 => em y12 && decide (((0:Int) ≤ y12 ∧ y12 < (p0.fB.length:Int)) ∧ ((0:Int) ≤ az 0 p1 y12 ∧ az 0 p1 y12 < ((Int.toNat (p0.fOrders.length:Int) : Nat) : Int)))) = true) (ao (((gw p1).map (fun y12 => Int.toNat (az 0 p1 y12))).Nodup) (((aT (md p0 y6) (0,([]:List Int))).bind fun u28 => some (TPlan.mk ((gw p1).foldl (fun a y12 => a.set (Int.toNat (az 0 p1 y12)) ((rdL p0.fB y12).fID)) (List.replicate (Int.toNat (p0.fOrders.length:Int)) 0)) y6 u28.2))))))
def lW (p0:TY) : Option (TPlan × Int) :=
 ((cY p0).bind fun y3 => (if (y3 != 0) = true then some ((TPlan.mk ([]:(List Int)) 0 ([]:(List Int))),y3) else ((ki p0).bind fun y6 => ((ns p0 y6).bind fun y9 => some (y9,0)))))
def i4 (p0__:TO) (p1:Int → Option Int) (cap0:Int) : Option Bool :=
 ((p1 0).bind fun y2 => some (decide (y2 < cap0)))
def jC (p0:TO) (p1:Int → Option Int) (cap0:Int) : Option Bool :=
 ((p1 (w64 (p0.fW + 1))).bind fun y2 => some (y2 == cap0))
def dk (p0:(List TO)) : Option (List TO) :=
 ao (0 + p0.length ≤ 1000000000) (some (([]:List TO) ++ p0))
def fi (p0:Int) (cap0:TY) (cap1:Int) : Option Int :=
 ((dk cap0.fOrders).bind fun y2 => ao ((0:Int) ≤ cap1 ∧ cap1 < (y2.length:Int)) (((fk (TY.mk cap0.fB (y2.set (Int.toNat cap1) (TO.mk ((rdL y2 cap1).fID) (TSpan.mk ((rdL y2 cap1).fH.fLo) ((rdL y2 cap1).fH.fHi)) ((rdL y2 cap1).fD) p0)))).bind fun y10 => some y10)))
def gl (p0:TY) (cap0:Int) (s4:(Int × (List Int))) : Option ((Int × (List Int)) ⊕ (Int × (List Int))) :=
 (if decide (s4.1 < (p0.fOrders.length:Int)) = true then ao ((0:Int) ≤ s4.1 ∧ s4.1 < (p0.fOrders.length:Int)) (((i4 (TO.mk ((rdL p0.fOrders s4.1).fID) (TSpan.mk ((rdL p0.fOrders s4.1).fH.fLo) ((rdL p0.fOrders s4.1).fH.fHi)) ((rdL p0.fOrders s4.1).fD) ((rdL p0.fOrders s4.1).fW)) (fun x10 => fi x10 p0 s4.1) cap0).bind fun y11 => (if y11 = true then ao (s4.2.length + 1 ≤ 1000000000) (some (.inl (w64 (s4.1 + 1),(s4.2 ++ [(rdL p0.fOrders s4.1).fID])))) else some (.inl (w64 (s4.1 + 1),s4.2))))) else some (.inr (s4.1,s4.2)))
def fv (p0:TY) (cap0:Int) : Option (List Int) :=
 ((aT (gl p0 cap0) (0,([]:List Int))).bind fun u5 => ((cO u5.2).bind fun y19 => some y19))
def gz (p0:TY) (cap0:Int) (s4:(Int × (List Int))) : Option ((Int × (List Int)) ⊕ (Int × (List Int))) :=
 (if decide (s4.1 < (p0.fOrders.length:Int)) = true then ao ((0:Int) ≤ s4.1 ∧ s4.1 < (p0.fOrders.length:Int)) (((jC (TO.mk ((rdL p0.fOrders s4.1).fID) (TSpan.mk ((rdL p0.fOrders s4.1).fH.fLo) ((rdL p0.fOrders s4.1).fH.fHi)) ((rdL p0.fOrders s4.1).fD) ((rdL p0.fOrders s4.1).fW)) (fun x10 => fi x10 p0 s4.1) cap0).bind fun y11 => (if y11 = true then ao (s4.2.length + 1 ≤ 1000000000) (some (.inl (w64 (s4.1 + 1),(s4.2 ++ [(rdL p0.fOrders s4.1).fID])))) else some (.inl (w64 (s4.1 + 1),s4.2))))) else some (.inr (s4.1,s4.2)))
def f6 (p0:TY) (cap0:Int) : Option (List Int) :=
 ((aT (gz p0 cap0) (0,([]:List Int))).bind fun u5 => ((cO u5.2).bind fun y19 => some y19))
def kF (p0:TY) : Option ((List Int) × Int) :=
 ((cY p0).bind fun y2 => (if (y2 != 0) = true then some ([],y2) else ((fk p0).bind fun y5 => ((fv p0 y5).bind fun y8 => some (y8,0)))))
def lL (p0:TY) : Option ((List Int) × Int) :=
 ((cY p0).bind fun y2 => (if (y2 != 0) = true then some ([],y2) else ((fk p0).bind fun y5 => ((f6 p0 y5).bind fun y8 => some (y8,0)))))
def lZ (p0:Int) (cap0:(List (Int × Int))) (cap1:TY) : Option (Bool × (List (Int × Int))) :=
 ((iX cap1 p0).bind fun y1 => ((fC cap0 cap1 y1).bind fun y3 => some ((!y3.1),y3.2)))
def da (p0:(List Int)) (cap1:TY) (s3:(Int × Int × (List (Int × Int)))) : Option ((Int × Int × (List (Int × Int))) ⊕ ((Int × Int × (List (Int × Int))) ⊕ (Int × Int × (List (Int × Int))))) :=
 (if decide (s3.2.1 < (p0.length:Int)) = true then ao ((0:Int) ≤ s3.2.1 ∧ s3.2.1 < (p0.length:Int)) (((lZ (rdL p0 s3.2.1) s3.2.2 cap1).bind fun y7 => (if y7.1 = true then some (.inr (.inl (s3.2.1,s3.2.1,y7.2))) else some (.inl (s3.1,w64 (s3.2.1 + 1),y7.2))))) else some (.inr (.inr (s3.1,s3.2.1,s3.2.2))))
def cy (p0:(List Int)) (cap0:(List (Int × Int))) (cap1:TY) : Option (Int × (List (Int × Int))) :=
 ((aT (da p0 cap1) (0,0,cap0)).bind fun u4 => match u4 with | (.inl u11) => some (u11.1,u11.2.2) | (.inr u12) => some ((-1),u12.2.2))
def ef (p0:(List Int)) (p1:Int → Option Bool) (s2:(Int × Int)) : Option ((Int × Int) ⊕ ((Int × Int) ⊕ (Int × Int))) :=
 (if decide (s2.2 < (p0.length:Int)) = true then ao ((0:Int) ≤ s2.2 ∧ s2.2 < (p0.length:Int)) (((p1 (rdL p0 s2.2)).bind fun y6 => (if y6 = true then some (.inr (.inl (s2.2,s2.2))) else some (.inl (s2.1,w64 (s2.2 + 1)))))) else some (.inr (.inr (s2.1,s2.2))))
def dh (p0:(List Int)) (p1:Int → Option Bool) : Option Int :=
 ((aT (ef p0 p1) (0,0)).bind fun u3 => match u3 with | (.inl u10) => some u10.1 | (.inr u11) => some (-1))
def eY (p0:(List Int)) (cap0:(List (Int × Int))) (cap1:TY) : Option (Int × (List (Int × Int))) :=
 ((cy p0 cap0 cap1).bind fun y1 => some (y1.1,y1.2))
def mz (p0:TY) (p1:(List Int)) : Option Bool :=
 ((eY p1 [] p0).bind fun y4 => some (decide (y4.1 < 0)))
def dR (p0:(List Int)) (p1:Int → Option Bool) (s6:(Int × Int × (List Int))) : Option ((Int × Int × (List Int)) ⊕ (Int × Int × (List Int))) :=
 (if decide (s6.2.1 < (p0.length:Int)) = true then ao ((0:Int) ≤ s6.2.1 ∧ s6.2.1 < (p0.length:Int)) (((p1 (rdL s6.2.2 s6.2.1)).bind fun y10 => (if (!y10) = true then ao ((0:Int) ≤ s6.1 ∧ s6.1 < (p0.length:Int)) (some (.inl (w64 (s6.1 + 1),w64 (s6.2.1 + 1),(s6.2.2.set (Int.toNat s6.1) (rdL s6.2.2 s6.2.1))))) else some (.inl (s6.1,w64 (s6.2.1 + 1),s6.2.2))))) else some (.inr (s6.1,s6.2.1,s6.2.2)))
def cW (p0:(List Int)) (p1:Int → Option Bool) : Option (List Int) :=
 ((dh p0 p1).bind fun y1 => (if (y1 == (-1)) = true then some p0 else ((aT (dR p0 p1) (y1,w64 (y1 + 1),p0)).bind fun u7 => ao ((0:Int) ≤ u7.1 ∧ u7.1 ≤ (p0.length:Int)) (ao ((0:Int) ≤ u7.1 ∧ u7.1 ≤ (p0.length:Int)) (some (u7.2.2.take (Int.toNat u7.1)))))))
def gc (p0:Int) (cap0:Int) : Option Bool :=
 some (p0 == cap0)
def jy (p0:TY) (p1:(List Int)) (s6:(Int × Int)) : Option ((Int × Int) ⊕ ((Int × Int) ⊕ (Int × Int))) :=
 (if decide (s6.2 < (p1.length:Int)) = true then ao ((0:Int) ≤ s6.2 ∧ s6.2 < (p1.length:Int)) (((iX p0 (rdL p1 s6.2)).bind fun y10 => ((if decide (y10 < 0) = true then (some (true)) else ((if decide (0 < s6.2) = true then (ao ((0:Int) ≤ w64 (s6.2 - 1) ∧ w64 (s6.2 - 1) < (p1.length:Int)) (some (decide ((rdL p1 s6.2) ≤ (rdL p1 (w64 (s6.2 - 1))))))) else (some (false))).bind fun b17 => some (b17))).bind fun b13 => (if b13 = true then some (.inr (.inl (1,s6.2))) else some (.inl (s6.1,w64 (s6.2 + 1))))))) else some (.inr (.inr (s6.1,s6.2))))
def jG (p0:TY) (p1:(List Int)) (s34:(Int × (List Int))) : Option ((Int × (List Int)) ⊕ (Int × (List Int))) :=
 (if decide (s34.1 < (p1.length:Int)) = true then ao ((0:Int) ≤ s34.1 ∧ s34.1 < (p1.length:Int)) (((cz s34.2).bind fun y39 => ((cW y39 (fun x45 => gc x45 (rdL p1 s34.1))).bind fun y46 => ((mz p0 y46).bind fun y50 => (if (!y50) = true then some (.inl (w64 (s34.1 + 1),y46)) else some (.inl (w64 (s34.1 + 1),s34.2))))))) else some (.inr (s34.1,s34.2)))
def jS (p0:TY) (p1:(List Int)) : Option ((List Int) × Int) :=
 ((cY p0).bind fun y2 => (if (y2 != 0) = true then some ([],y2) else ((aT (jy p0 p1) (0,0)).bind fun u7 => match u7 with | (.inl u21) => some (([]:List Int),u21.1) | (.inr u22) => ((mz p0 p1).bind fun y23 => (if y23 = true then some ([],5) else ((cz p1).bind fun y26 => ((aT (jG p0 p1) (0,y26)).bind fun u35 => some (u35.2,0))))))))
def nA (p0:TY) (p1:Int) : Option (Int × Int) :=
 ((cY p0).bind fun y2 => (if (y2 != 0) = true then some (0,y2) else ((mw p0 p1).bind fun y5 => (if decide (y5 < 0) = true then some (0,5) else ((fk p0).bind fun y8 => ((iz p0 y5).bind fun y10 => ((fk (TY.mk y10.fB p0.fOrders)).bind fun y20 => some (w64 (y8 - y20),0))))))))
def bh (p0:Int) (p1:Int) (p2:Int) : Option Bool :=
 some ((decide (p1 ≤ p0)) && (decide (p0 ≤ p2)))
def cJ (p0:Int) : Option Bool :=
 ((bh p0 0 16384).bind fun y1 => some y1)
def iq (p0:TY) (s5:(Int × Int)) (s20:(Int × Int)) : Option ((Int × Int) ⊕ ((Int × Int) ⊕ (Int × Int))) :=
 (if decide (s20.2 < s5.2) = true then ao ((0:Int) ≤ s20.2 ∧ s20.2 < (p0.fB.length:Int)) ((if (((rdL p0.fB s20.2).fID) == ((rdL p0.fB s5.2).fID)) = true then some (.inr (.inl (6,s20.2))) else some (.inl (s20.1,w64 (s20.2 + 1))))) else some (.inr (.inr (s20.1,s20.2))))
def iy (p0:TY) (s5:(Int × Int)) : Option ((Int × Int) ⊕ ((Int × Int) ⊕ (Int × Int))) :=
 (if decide (s5.2 < (p0.fB.length:Int)) = true then ao ((0:Int) ≤ s5.2 ∧ s5.2 < (p0.fB.length:Int)) (((bh ((rdL p0.fB s5.2).fID) 1 1099511627776).bind fun y10 => ((cJ ((rdL p0.fB s5.2).fHour)).bind fun y12 => ((bh ((rdL p0.fB s5.2).fD) 0 9).bind fun y14 => (if (((!y10) || (!y12)) || (!y14)) = true then some (.inr (.inl (1,s5.2))) else ((aT (iq p0 s5) (s5.1,0)).bind fun u21 => match u21 with | (.inl u26) => some (.inr (.inl (u26.1,s5.2))) | (.inr u27) => some (.inl (u27.1,w64 (s5.2 + 1))))))))) else some (.inr (.inr (s5.1,s5.2))))
def iv (p0:TY) (s32:(Int × Int)) (s54:(Int × Int)) : Option ((Int × Int) ⊕ ((Int × Int) ⊕ (Int × Int))) :=
 (if decide (s54.2 < s32.2) = true then ao ((0:Int) ≤ s54.2 ∧ s54.2 < (p0.fOrders.length:Int)) ((if (((rdL p0.fOrders s54.2).fID) == ((rdL p0.fOrders s32.2).fID)) = true then some (.inr (.inl (6,s54.2))) else some (.inl (s54.1,w64 (s54.2 + 1))))) else some (.inr (.inr (s54.1,s54.2))))
def ir (p0:TY) (s32:(Int × Int)) : Option ((Int × Int) ⊕ ((Int × Int) ⊕ (Int × Int))) :=
 (if decide (s32.2 < (p0.fOrders.length:Int)) = true then ao ((0:Int) ≤ s32.2 ∧ s32.2 < (p0.fOrders.length:Int)) (((bh ((rdL p0.fOrders s32.2).fID) 1 1099511627776).bind fun y37 => ((cJ ((rdL p0.fOrders s32.2).fH.fLo)).bind fun y39 => ((cJ ((rdL p0.fOrders s32.2).fH.fHi)).bind fun y41 => ((bh ((rdL p0.fOrders s32.2).fD) 0 9).bind fun y43 => ((bh ((rdL p0.fOrders s32.2).fW) 1 1000).bind fun y45 => (if ((((((!y37) || (!y39)) || (!y41)) || (decide ((rdL p0.fOrders s32.2).fH.fHi < (rdL p0.fOrders s32.2).fH.fLo))) || (!y43)) || (!y45)) = true then some (.inr (.inl (1,s32.2))) else ((aT (iv p0 s32) (s32.1,0)).bind fun u55 => match u55 with | (.inl u60) => some (.inr (.inl (u60.1,s32.2))) | (.inr u61) => some (.inl (u61.1,w64 (s32.2 + 1))))))))))) else some (.inr (.inr (s32.1,s32.2))))
def gY (p0:TY) : Option Int :=
 (if ((decide (24 < (p0.fB.length:Int))) || (decide (24 < (p0.fOrders.length:Int)))) = true then some 2 else ((aT (iy p0) (0,0)).bind fun u6 => match u6 with | (.inl u29) => some u29.1 | (.inr u30) => ((aT (ir p0) (u30.1,0)).bind fun u33 => match u33 with | (.inl u63) => some u63.1 | (.inr u64) => some 0)))
def mg (p0:TY) (p1:Int) (s3:(Int × Int)) : Option ((Int × Int) ⊕ ((Int × Int) ⊕ (Int × Int))) :=
 (if decide (s3.2 < (p0.fB.length:Int)) = true then ao ((0:Int) ≤ s3.2 ∧ s3.2 < (p0.fB.length:Int)) ((if (((rdL p0.fB s3.2).fID) == p1) = true then some (.inr (.inl (s3.2,s3.2))) else some (.inl (s3.1,w64 (s3.2 + 1))))) else some (.inr (.inr (s3.1,s3.2))))
def nn (p0:TY) (p1:Int) : Option Int :=
 ((aT (mg p0 p1) (0,0)).bind fun u4 => match u4 with | (.inl u9) => some u9.1 | (.inr u10) => some (-1))
def g0 (p0:TY) (p1:Int) (p2:Int) : Option Bool :=
 ao ((0:Int) ≤ p2 ∧ p2 < (p0.fB.length:Int)) (ao ((0:Int) ≤ p1 ∧ p1 < (p0.fOrders.length:Int)) (ao ((0:Int) ≤ p1 ∧ p1 < (p0.fOrders.length:Int)) (((bh ((rdL p0.fB p2).fHour) ((rdL p0.fOrders p1).fH.fLo) ((rdL p0.fOrders p1).fH.fHi)).bind fun y5 => ((if y5 = true then (ao ((0:Int) ≤ p2 ∧ p2 < (p0.fB.length:Int)) (ao ((0:Int) ≤ p1 ∧ p1 < (p0.fOrders.length:Int)) (some (decide ((rdL p0.fOrders p1).fD ≤ (rdL p0.fB p2).fD))))) else (some (false))).bind fun b8 => some b8)))))
def lJ (p1:(List Int)) (s4:(Bool × Int × Int)) (s17:(Bool × Int)) : Option ((Bool × Int) ⊕ ((Bool × Int) ⊕ (Bool × Int))) :=
 (if decide (s17.2 < s4.2.2) = true then ao ((0:Int) ≤ s17.2 ∧ s17.2 < (p1.length:Int)) (ao ((0:Int) ≤ s4.2.2 ∧ s4.2.2 < (p1.length:Int)) ((if ((rdL p1 s17.2) == (rdL p1 s4.2.2)) = true then some (.inr (.inl (false,s17.2))) else some (.inl (s17.1,w64 (s17.2 + 1)))))) else some (.inr (.inr (s17.1,s17.2))))
def lH (p0:TY) (p1:(List Int)) (s4:(Bool × Int × Int)) : Option ((Bool × Int × Int) ⊕ ((Bool × Int × Int) ⊕ (Bool × Int × Int))) :=
 (if decide (s4.2.2 < (p1.length:Int)) = true then ao ((0:Int) ≤ s4.2.2 ∧ s4.2.2 < (p1.length:Int)) ((if ((rdL p1 s4.2.2) == 0) = true then some (.inl (s4.1,s4.2.1,w64 (s4.2.2 + 1))) else ao ((0:Int) ≤ s4.2.2 ∧ s4.2.2 < (p1.length:Int)) (((nn p0 (rdL p1 s4.2.2)).bind fun y10 => (if decide (y10 < 0) = true then some (.inr (.inl (false,s4.2.1,s4.2.2))) else ((g0 p0 s4.2.2 y10).bind fun y13 => (if (!y13) = true then some (.inr (.inl (false,s4.2.1,s4.2.2))) else ((aT (lJ p1 s4) (s4.1,0)).bind fun u18 => match u18 with | (.inl u24) => some (.inr (.inl (u24.1,s4.2.1,s4.2.2))) | (.inr u25) => ao ((0:Int) ≤ s4.2.2 ∧ s4.2.2 < (p0.fOrders.length:Int)) (some (.inl (u25.1,w64 (s4.2.1 + ((rdL p0.fOrders s4.2.2).fW)),w64 (s4.2.2 + 1)))))))))))) else some (.inr (.inr (s4.1,s4.2.1,s4.2.2))))
def l3 (p0:TY) (p1:(List Int)) (p2:Int) : Option Bool :=
 (if ((p1.length:Int) != (p0.fOrders.length:Int)) = true then some false else ((aT (lH p0 p1) (false,0,0)).bind fun u5 => match u5 with | (.inl u28) => some u28.1 | (.inr u29) => some (u29.2.1 == p2)))
def jz (p1:(List Int)) (s4:(Int × Int × Int)) : Option ((Int × Int × Int) ⊕ ((Int × Int × Int) ⊕ (Int × Int × Int))) :=
 (if decide (s4.2.2 < (p1.length:Int)) = true then ao ((0:Int) ≤ s4.2.2 ∧ s4.2.2 < (p1.length:Int)) (((bh (rdL p1 s4.2.2) 0 1000).bind fun y8 => (if (!y8) = true then some (.inr (.inl ((-1),s4.2.1,s4.2.2))) else ao ((0:Int) ≤ s4.2.2 ∧ s4.2.2 < (p1.length:Int)) (some (.inl (s4.1,w64 (s4.2.1 + (rdL p1 s4.2.2)),w64 (s4.2.2 + 1))))))) else some (.inr (.inr (s4.1,s4.2.1,s4.2.2))))
def jW (p0:TY) (p1:(List Int)) (s16:(Int × Int)) (s21:(Int × Int)) : Option ((Int × Int) ⊕ (Int × Int)) :=
 (if decide (s21.2 < (p1.length:Int)) = true then ((g0 p0 s16.2 s21.2).bind fun y24 => (if y24 = true then ao ((0:Int) ≤ s21.2 ∧ s21.2 < (p1.length:Int)) (some (.inl (min s21.1 (rdL p1 s21.2),w64 (s21.2 + 1)))) else some (.inl (s21.1,w64 (s21.2 + 1))))) else some (.inr (s21.1,s21.2)))
def jx (p0:TY) (p1:(List Int)) (s16:(Int × Int)) (s30:(Bool × Int)) : Option ((Bool × Int) ⊕ (Bool × Int)) :=
 (if decide (s30.2 < (p1.length:Int)) = true then ((g0 p0 s16.2 s30.2).bind fun y33 => some (.inl ((s30.1 || y33),w64 (s30.2 + 1)))) else some (.inr (s30.1,s30.2)))
def jH (p0:TY) (p1:(List Int)) (s16:(Int × Int)) : Option ((Int × Int) ⊕ (Int × Int)) :=
 (if decide (s16.2 < (p0.fOrders.length:Int)) = true then ao ((0:Int) ≤ s16.2 ∧ s16.2 < (p0.fOrders.length:Int)) (((aT (jW p0 p1 s16) ((rdL p0.fOrders s16.2).fW,0)).bind fun u22 => ((aT (jx p0 p1 s16) (false,0)).bind fun u31 => (if u31.1 = true then ao ((0:Int) ≤ s16.2 ∧ s16.2 < (p0.fOrders.length:Int)) (some (.inl (w64 ((w64 (s16.1 + ((rdL p0.fOrders s16.2).fW))) - u22.1),w64 (s16.2 + 1)))) else some (.inl (s16.1,w64 (s16.2 + 1))))))) else some (.inr (s16.1,s16.2)))
def j2 (p0:TY) (p1:(List Int)) : Option Int :=
 (if ((p1.length:Int) != (p0.fB.length:Int)) = true then some (-1) else ((aT (jz p1) (0,0,0)).bind fun u5 => match u5 with | (.inl u13) => some u13.1 | (.inr u14) => ((aT (jH p0 p1) (u14.2.1,0)).bind fun u17 => some u17.1)))
def gZ (p0:TY) (p1:TPlan) : Option Int :=
 ((gY p0).bind fun y3 => (if (y3 != 0) = true then some y3 else ((l3 p0 p1.fG p1.fW).bind fun y6 => ((if (!y6) = true then (some (true)) else ((j2 p0 p1.fP).bind fun y12 => some ((y12 != p1.fW)))).bind fun b9 => (if b9 = true then some 8 else some 0)))))
def dK  : Option Bool :=
 ((g6).bind fun y1 => ((gX).bind fun y14 => ao ((0:Int) ≤ 1 ∧ 1 < (y1.fT.length:Int)) (((gO (TT.mk ((rdL y1.fT 1).fID) ((rdL y1.fT 1).fFrom) ((rdL y1.fT 1).fTo) ((rdL y1.fT 1).fLong) ((rdL y1.fT 1).fToll) ((rdL y1.fT 1).fK)) 8).bind fun y26 => ((jd y1 0 4).bind fun y28 => ((lX y1 0 2 4).bind fun y41 => ((lI y1 0 2 4 5).bind fun y53 => ((kE y1 0 2 26 0).bind fun y64 => ((jb y1 0 2 4 0).bind fun y66 => ((jb y1 0 2 4 60).bind fun y72 => ((if (((((((((y26.2 != 0) || (y28.2 != 0)) || (y41.2 != 0)) || (y53.2 != 0)) || (y64.2 != 0)) || (y66.2 != 0)) || (y72.2 != 0)) || (y26.1 != 21)) || ((y28.1.fH.length:Int) != 3)) = true then (some (true)) else (ao ((0:Int) ≤ 2 ∧ 2 < (y28.1.fH.length:Int)) (some (((((rdL y28.1.fH 2).length : Nat) : Int) != 61))))).bind fun b87 => (if (b87 || ((y41.1.length:Int) != 3)) = true then some false else ao ((0:Int) ≤ 2 ∧ 2 < (y28.1.fH.length:Int)) (ao ((0:Int) ≤ 0 ∧ 0 < (((rdL y28.1.fH 2).length : Nat) : Int)) (((if ((rdL (rdL y28.1.fH 2) 0) == 26) = true then (ao ((0:Int) ≤ 2 ∧ 2 < (y28.1.fH.length:Int)) (ao ((0:Int) ≤ 2 ∧ 2 < (((rdL y28.1.fH 2).length : Nat) : Int)) (some (((rdL (rdL y28.1.fH 2) 2) == 17))))) else (some (false))).bind fun b94 => ((if b94 = true then (ao ((0:Int) ≤ 2 ∧ 2 < (y28.1.fH.length:Int)) (ao ((0:Int) ≤ 6 ∧ 6 < (((rdL y28.1.fH 2).length : Nat) : Int)) (some (((rdL (rdL y28.1.fH 2) 6) == 13))))) else (some (false))).bind fun b97 => ((if b97 = true then (ao ((0:Int) ≤ 0 ∧ 0 < (y41.1.length:Int)) (some ((((rdL y41.1 0).fToll) == 0)))) else (some (false))).bind fun b100 => ((if b100 = true then (ao ((0:Int) ≤ 1 ∧ 1 < (y41.1.length:Int)) (some ((((rdL y41.1 1).fA) == 17)))) else (some (false))).bind fun b103 => ((if b103 = true then (ao ((0:Int) ≤ 2 ∧ 2 < (y41.1.length:Int)) (some ((((rdL y41.1 2).fToll) == 6)))) else (some (false))).bind fun b106 => ((if ((b106 && (y53.1.fA == 17)) && (y64.1 == 16)) = true then ((cZ y66.1 [1,2]).bind fun y190 => some (y190)) else (some (false))).bind fun b111 => ((if b111 = true then ((cZ y72.1 [3]).bind fun y187 => some (y187)) else (some (false))).bind fun b114 => ((lW y14).bind fun y116 => ((kF y14).bind fun y135 => ((lL y14).bind fun y141 => ((jS y14 [7,8,9]).bind fun y148 => ((nA y14 1).bind fun y154 => ((if ((y116.2 == 0) && (y116.1.fW == 14)) = true then ((gZ y14 y116.1).bind fun y184 => some ((y184 == 0))) else (some (false))).bind fun b158 => ((if (b158 && (y135.2 == 0)) = true then ((cZ y135.1 [7,8]).bind fun y182 => some (y182)) else (some (false))).bind fun b162 => ((if (b162 && (y141.2 == 0)) = true then ((cZ y141.1 [9]).bind fun y179 => some (y179)) else (some (false))).bind fun b166 => ((if ((b114 && b166) && (y148.2 == 0)) = true then ((cZ y148.1 [8,9]).bind fun y176 => some (y176)) else (some (false))).bind fun b171 => some ((b171 && (y154.2 == 0)) && (y154.1 == 5))))))))))))))))))))))))))))))))
def bE (p0:(List TSpan)) : Option (List TSpan) :=
 ao (0 + p0.length ≤ 1000000000) (some (([]:List TSpan) ++ p0))
def aS (p0:(List TSpan)) (p1:Int) (p3:TSpan → TSpan → Option Int) (s8:(Int × (List TSpan))) : Option ((Int × (List TSpan)) ⊕ (Int × (List TSpan))) :=
 ((if decide (p1 < s8.1) = true then (ao ((0:Int) ≤ s8.1 ∧ s8.1 < (p0.length:Int)) (ao ((0:Int) ≤ w64 (s8.1 - 1) ∧ w64 (s8.1 - 1) < (p0.length:Int)) (((p3 (TSpan.mk ((rdL s8.2 s8.1).fLo) ((rdL s8.2 s8.1).fHi)) (TSpan.mk ((rdL s8.2 (w64 (s8.1 - 1))).fLo) ((rdL s8.2 (w64 (s8.1 - 1))).fHi))).bind fun y21 => some (decide (y21 < 0)))))) else (some (false))).bind fun b11 => (if b11 = true then ao ((0:Int) ≤ w64 (s8.1 - 1) ∧ w64 (s8.1 - 1) < (p0.length:Int)) (ao ((0:Int) ≤ s8.1 ∧ s8.1 < (p0.length:Int)) (ao ((0:Int) ≤ s8.1 ∧ s8.1 < (p0.length:Int)) (ao ((0:Int) ≤ w64 (s8.1 - 1) ∧ w64 (s8.1 - 1) < (p0.length:Int)) (some (.inl (w64 (s8.1 - 1),((s8.2.set (Int.toNat s8.1) (TSpan.mk ((rdL s8.2 (w64 (s8.1 - 1))).fLo) ((rdL s8.2 (w64 (s8.1 - 1))).fHi))).set (Int.toNat (w64 (s8.1 - 1))) (TSpan.mk ((rdL s8.2 s8.1).fLo) ((rdL s8.2 s8.1).fHi))))))))) else some (.inr (s8.1,s8.2))))
def aE (p0:(List TSpan)) (p1:Int) (p2:Int) (p3:TSpan → TSpan → Option Int) (s3:(Int × (List TSpan))) : Option ((Int × (List TSpan)) ⊕ (Int × (List TSpan))) :=
 (if decide (s3.1 < p2) = true then ((aT (aS p0 p1 p3) (s3.1,s3.2)).bind fun u9 => some (.inl (w64 (s3.1 + 1),u9.2))) else some (.inr (s3.1,s3.2)))
def bg (p0:(List TSpan)) (p1:Int) (p2:Int) (p3:TSpan → TSpan → Option Int) : Option (List TSpan) :=
 ((aT (aE p0 p1 p2 p3) (w64 (p1 + 1),p0)).bind fun u4 => some u4.2)
def bI (p4:TSpan → TSpan → Option Int) (s3:(Int × Int × Int × Bool × Bool × (List TSpan))) : Option ((Int × Int × Int × Bool × Bool × (List TSpan)) ⊕ (Int × Int × Int × Bool × Bool × (List TSpan))) :=
 ao (decide (w64 (s3.2.1 - s3.1) ≤ 12) = true) (((bg s3.2.2.2.2.2 s3.1 s3.2.1 p4).bind fun y6 => some (.inr (s3.1,s3.2.1,s3.2.2.1,s3.2.2.2.1,s3.2.2.2.2.1,y6))))
def bV (p0:(List TSpan)) (p1:Int) (p2:Int) (p3:Int) (p4:TSpan → TSpan → Option Int) : Option (List TSpan) :=
 ((aT (bI p4) (p1,p2,p3,true,true,p0)).bind fun u4 => some u4.2.2.2.2.2)
def bF (p0:(List TSpan)) (p1:TSpan → TSpan → Option Int) : Option (List TSpan) :=
 ao ((0:Int) ≤ (p0.length:Int) ∧ (p0.length:Int) ≤ 9223372036854775807) (((eu (p0.length:Int)).bind fun y2 => ((bV p0 0 (p0.length:Int) y2 p1).bind fun y4 => some y4)))
def eB (p0:TSpan) (p1:TSpan) : Option Int :=
 some (w64 (p0.fLo - p1.fLo))
def f9 (y3:(List TSpan)) (y15:(List TSpan)) (s20:(Int × (List TSpan))) : Option ((Int × (List TSpan)) ⊕ (Int × (List TSpan))) :=
 (if decide (s20.1 < (((y3.length + 1) : Nat) : Int)) = true then ao ((0:Int) ≤ s20.1 ∧ s20.1 < (((y3.length + 1) : Nat) : Int)) (((if decide (0 < (s20.2.length:Int)) = true then (ao ((0:Int) ≤ w64 ((s20.2.length:Int) - 1) ∧ w64 ((s20.2.length:Int) - 1) < (s20.2.length:Int)) (some (decide ((rdL y15 s20.1).fLo ≤ w64 (((rdL s20.2 (w64 ((s20.2.length:Int) - 1))).fHi) + 1))))) else (some (false))).bind fun b26 => (if b26 = true then ao ((0:Int) ≤ w64 ((s20.2.length:Int) - 1) ∧ w64 ((s20.2.length:Int) - 1) < (s20.2.length:Int)) (ao ((0:Int) ≤ w64 ((s20.2.length:Int) - 1) ∧ w64 ((s20.2.length:Int) - 1) < (s20.2.length:Int)) (some (.inl (w64 (s20.1 + 1),(s20.2.set (Int.toNat (w64 ((s20.2.length:Int) - 1))) (TSpan.mk ((rdL s20.2 (w64 ((s20.2.length:Int) - 1))).fLo) (max ((rdL s20.2 (w64 ((s20.2.length:Int) - 1))).fHi) ((rdL y15 s20.1).fHi)))))))) else ao (s20.2.length + 1 ≤ 1000000000) (some (.inl (w64 (s20.1 + 1),(s20.2 ++ [(TSpan.mk ((rdL y15 s20.1).fLo) ((rdL y15 s20.1).fHi))]))))))) else some (.inr (s20.1,s20.2)))
def f5 (p0:(List TSpan)) (p1:TSpan) : Option (List TSpan) :=
 ((bE p0).bind fun y3 => ao (y3.length + 1 ≤ 1000000000) (((bF (y3 ++ [p1]) (fun x13 x14 => eB x13 x14)).bind fun y15 => ((aT (f9 y3 y15) (0,([]:List TSpan))).bind fun u21 => some u21.2))))
def fg (y18:(List TT)) (s30:(Int × (List TT))) : Option ((Int × (List TT)) ⊕ (Int × (List TT))) :=
 (if decide (s30.1 < (y18.length:Int)) = true then ao ((0:Int) ≤ s30.1 ∧ s30.1 < (y18.length:Int)) (((bE ((rdL s30.2 s30.1).fK)).bind fun y34 => ao ((0:Int) ≤ s30.1 ∧ s30.1 < (y18.length:Int)) (some (.inl (w64 (s30.1 + 1),(s30.2.set (Int.toNat s30.1) (TT.mk ((rdL s30.2 s30.1).fID) ((rdL s30.2 s30.1).fFrom) ((rdL s30.2 s30.1).fTo) ((rdL s30.2 s30.1).fLong) ((rdL s30.2 s30.1).fToll) y34))))))) else some (.inr (s30.1,s30.2)))
def gU (p0:TR) (p1:Int) (p2:TSpan) : Option (TR × Int) :=
 ((fV p0).bind fun y4 => (if (y4 != 0) = true then some ((TR.mk 0 []),y4) else ((gM p0 p1).bind fun y7 => (if decide (y7 < 0) = true then some ((TR.mk 0 []),5) else ((if decide (p2.fHi < p2.fLo) = true then (some (true)) else ((dx p2.fLo).bind fun y54 => some ((!y54)))).bind fun b11 => ((if b11 = true then (some (true)) else ((dx p2.fHi).bind fun y52 => some ((!y52)))).bind fun b14 => (if b14 = true then some ((TR.mk 0 []),1) else ((bj p0.fT).bind fun y18 => ((aT (fg y18) (0,y18)).bind fun u31 => ao ((0:Int) ≤ y7 ∧ y7 < (y18.length:Int)) (((f5 ((rdL u31.2 y7).fK) p2).bind fun y43 => ao ((0:Int) ≤ y7 ∧ y7 < (y18.length:Int)) (ao ((0:Int) ≤ y7 ∧ y7 < (y18.length:Int)) ((if decide (4 < (((rdL (u31.2.set (Int.toNat y7) (TT.mk ((rdL u31.2 y7).fID) ((rdL u31.2 y7).fFrom) ((rdL u31.2 y7).fTo) ((rdL u31.2 y7).fLong) ((rdL u31.2 y7).fToll) y43)) y7).fK.length : Nat) : Int)) = true then some ((TR.mk 0 []),2) else some ((TR.mk p0.fL (u31.2.set (Int.toNat y7) (TT.mk ((rdL u31.2 y7).fID) ((rdL u31.2 y7).fFrom) ((rdL u31.2 y7).fTo) ((rdL u31.2 y7).fLong) ((rdL u31.2 y7).fToll) y43))),0)))))))))))))))
def di (p0:(List TSpan)) (s3:(Bool × Int)) : Option ((Bool × Int) ⊕ ((Bool × Int) ⊕ (Bool × Int))) :=
 (if decide (s3.2 < (p0.length:Int)) = true then ao ((0:Int) ≤ s3.2 ∧ s3.2 < (p0.length:Int)) (((cJ ((rdL p0 s3.2).fLo)).bind fun y7 => ao ((0:Int) ≤ s3.2 ∧ s3.2 < (p0.length:Int)) (((cJ ((rdL p0 s3.2).fHi)).bind fun y10 => ((if ((!y7) || (!y10)) = true then (some (true)) else (ao ((0:Int) ≤ s3.2 ∧ s3.2 < (p0.length:Int)) (ao ((0:Int) ≤ s3.2 ∧ s3.2 < (p0.length:Int)) (some (decide ((rdL p0 s3.2).fHi < (rdL p0 s3.2).fLo)))))).bind fun b14 => ((if b14 = true then (some (true)) else ((if decide (0 < s3.2) = true then (ao ((0:Int) ≤ s3.2 ∧ s3.2 < (p0.length:Int)) (ao ((0:Int) ≤ max 0 (w64 (s3.2 - 1)) ∧ max 0 (w64 (s3.2 - 1)) < (p0.length:Int)) (some (decide ((rdL p0 s3.2).fLo < w64 (((rdL p0 (max 0 (w64 (s3.2 - 1)))).fHi) + 2)))))) else (some (false))).bind fun b21 => some (b21))).bind fun b17 => (if b17 = true then some (.inr (.inl (false,s3.2))) else some (.inl (s3.1,w64 (s3.2 + 1)))))))))) else some (.inr (.inr (s3.1,s3.2))))
def fj (p0:(List TSpan)) : Option Bool :=
 (if decide (4 < (p0.length:Int)) = true then some false else ((aT (di p0) (false,0)).bind fun u4 => match u4 with | (.inl u28) => some u28.1 | (.inr u29) => some true))
def dN (p0:TT) (s3:(Int × Int)) : Option ((Int × Int) ⊕ (Int × Int)) :=
 (if decide (s3.2 < (p0.fK.length:Int)) = true then ao ((0:Int) ≤ s3.2 ∧ s3.2 < (p0.fK.length:Int)) (ao ((0:Int) ≤ s3.2 ∧ s3.2 < (p0.fK.length:Int)) (((bh s3.1 ((rdL p0.fK s3.2).fLo) ((rdL p0.fK s3.2).fHi)).bind fun y8 => (if y8 = true then ao ((0:Int) ≤ s3.2 ∧ s3.2 < (p0.fK.length:Int)) (some (.inl (w64 (((rdL p0.fK s3.2).fHi) + 1),w64 (s3.2 + 1)))) else some (.inl (s3.1,w64 (s3.2 + 1))))))) else some (.inr (s3.1,s3.2)))
def g8 (p0:TT) (p1:Int) : Option Int :=
 ((aT (dN p0) (p1,0)).bind fun u4 => ((cJ u4.1).bind fun y13 => (if (!y13) = true then some (-1) else some u4.1)))
def ie (p0:TT) (p1:Int) : Option (Int × Int) :=
 ((fj p0.fK).bind fun y2 => ((cJ p1).bind fun y4 => (if ((!y2) || (!y4)) = true then some (0,1) else ((g8 p0 p1).bind fun y8 => (if decide (y8 < 0) = true then some (0,5) else some (y8,0))))))
def ia (p0:TR) (p1:TT) : Option Bool :=
 ((bh p1.fID 1 1099511627776).bind fun y3 => ((bh p1.fFrom 0 (w64 (p0.fL - 1))).bind fun y5 => ((bh p1.fTo 0 (w64 (p0.fL - 1))).bind fun y7 => ((bh p1.fLong 1 72).bind fun y9 => ((bh p1.fToll 0 40).bind fun y11 => ((fj p1.fK).bind fun y13 => some ((((((y3 && y5) && y7) && (p1.fFrom != p1.fTo)) && y9) && y11) && y13)))))))
def eP (p0:TR) (s6:(Int × Int)) (s14:(Int × Int)) : Option ((Int × Int) ⊕ ((Int × Int) ⊕ (Int × Int))) :=
 (if decide (s14.2 < s6.2) = true then ao ((0:Int) ≤ s14.2 ∧ s14.2 < (p0.fT.length:Int)) (ao ((0:Int) ≤ s6.2 ∧ s6.2 < (p0.fT.length:Int)) ((if (((rdL p0.fT s14.2).fID) == ((rdL p0.fT s6.2).fID)) = true then some (.inr (.inl (6,s14.2))) else some (.inl (s14.1,w64 (s14.2 + 1)))))) else some (.inr (.inr (s14.1,s14.2))))
def eO (p0:TR) (s6:(Int × Int)) : Option ((Int × Int) ⊕ ((Int × Int) ⊕ (Int × Int))) :=
 (if decide (s6.2 < (p0.fT.length:Int)) = true then ao ((0:Int) ≤ s6.2 ∧ s6.2 < (p0.fT.length:Int)) (((ia p0 (TT.mk ((rdL p0.fT s6.2).fID) ((rdL p0.fT s6.2).fFrom) ((rdL p0.fT s6.2).fTo) ((rdL p0.fT s6.2).fLong) ((rdL p0.fT s6.2).fToll) ((rdL p0.fT s6.2).fK))).bind fun y10 => (if (!y10) = true then some (.inr (.inl (1,s6.2))) else ((aT (eP p0 s6) (s6.1,0)).bind fun u15 => match u15 with | (.inl u21) => some (.inr (.inl (u21.1,s6.2))) | (.inr u22) => some (.inl (u22.1,w64 (s6.2 + 1))))))) else some (.inr (.inr (s6.1,s6.2))))
def fQ (p0:TR) : Option Int :=
 (if ((decide (p0.fL < 1)) || (decide (16 < p0.fL))) = true then some 1 else (if decide (48 < (p0.fT.length:Int)) = true then some 2 else ((aT (eO p0) (0,0)).bind fun u7 => match u7 with | (.inl u24) => some u24.1 | (.inr u25) => some 0)))
def dM (p0:TR) (p1:Int) (s3:(Int × Int)) : Option ((Int × Int) ⊕ ((Int × Int) ⊕ (Int × Int))) :=
 (if decide (s3.2 < (p0.fT.length:Int)) = true then ao ((0:Int) ≤ s3.2 ∧ s3.2 < (p0.fT.length:Int)) ((if (((rdL p0.fT s3.2).fID) == p1) = true then some (.inr (.inl (s3.2,s3.2))) else some (.inl (s3.1,w64 (s3.2 + 1))))) else some (.inr (.inr (s3.1,s3.2))))
def hQ (p0:TR) (p1:Int) : Option Int :=
 ((aT (dM p0 p1) (0,0)).bind fun u4 => match u4 with | (.inl u9) => some u9.1 | (.inr u10) => some (-1))
def dz (p0:(List TSpan)) (p1:TSpan) (s4:(Int × (List TSpan))) : Option ((Int × (List TSpan)) ⊕ (Int × (List TSpan))) :=
 (if decide (s4.1 < (p0.length:Int)) = true then ao ((0:Int) ≤ s4.1 ∧ s4.1 < (p0.length:Int)) ((if decide (w64 (((rdL p0 s4.1).fHi) + 1) < p1.fLo) = true then ao ((0:Int) ≤ s4.1 ∧ s4.1 < (p0.length:Int)) (ao (s4.2.length + 1 ≤ 1000000000) (some (.inl (w64 (s4.1 + 1),(s4.2 ++ [(TSpan.mk ((rdL p0 s4.1).fLo) ((rdL p0 s4.1).fHi))]))))) else some (.inl (w64 (s4.1 + 1),s4.2)))) else some (.inr (s4.1,s4.2)))
def d8 (p0:(List TSpan)) (s17:(Int × Int × Int)) : Option ((Int × Int × Int) ⊕ (Int × Int × Int)) :=
 (if decide (s17.1 < (p0.length:Int)) = true then ao ((0:Int) ≤ s17.1 ∧ s17.1 < (p0.length:Int)) (((if decide (s17.2.1 ≤ w64 (((rdL p0 s17.1).fHi) + 1)) = true then (ao ((0:Int) ≤ s17.1 ∧ s17.1 < (p0.length:Int)) (some (decide ((rdL p0 s17.1).fLo ≤ w64 (s17.2.2 + 1))))) else (some (false))).bind fun b22 => (if b22 = true then ao ((0:Int) ≤ s17.1 ∧ s17.1 < (p0.length:Int)) (ao ((0:Int) ≤ s17.1 ∧ s17.1 < (p0.length:Int)) (some (.inl (w64 (s17.1 + 1),min s17.2.1 ((rdL p0 s17.1).fLo),max s17.2.2 ((rdL p0 s17.1).fHi))))) else some (.inl (w64 (s17.1 + 1),s17.2.1,s17.2.2))))) else some (.inr (s17.1,s17.2.1,s17.2.2)))
def dw (p0:(List TSpan)) (u18:(Int × Int × Int)) (s35:(Int × (List TSpan))) : Option ((Int × (List TSpan)) ⊕ (Int × (List TSpan))) :=
 (if decide (s35.1 < (p0.length:Int)) = true then ao ((0:Int) ≤ s35.1 ∧ s35.1 < (p0.length:Int)) ((if decide (w64 (u18.2.2 + 1) < (rdL p0 s35.1).fLo) = true then ao ((0:Int) ≤ s35.1 ∧ s35.1 < (p0.length:Int)) (ao (s35.2.length + 1 ≤ 1000000000) (some (.inl (w64 (s35.1 + 1),(s35.2 ++ [(TSpan.mk ((rdL p0 s35.1).fLo) ((rdL p0 s35.1).fHi))]))))) else some (.inl (w64 (s35.1 + 1),s35.2)))) else some (.inr (s35.1,s35.2)))
def fm (p0:(List TSpan)) (p1:TSpan) : Option (List TSpan) :=
 ((aT (dz p0 p1) (0,([]:List TSpan))).bind fun u5 => ((aT (d8 p0) (0,p1.fLo,p1.fHi)).bind fun u18 => ao (u5.2.length + 1 ≤ 1000000000) (((aT (dw p0 u18) (0,(u5.2 ++ [(TSpan.mk u18.2.1 u18.2.2)]))).bind fun u36 => some u36.2))))
def gK (p0:TR) (p2:TSpan) (y7:Int) (s20:(Int × Int × (List TT))) : Option ((Int × Int × (List TT)) ⊕ ((Int × Int × (List TT)) ⊕ (Int × Int × (List TT)))) :=
 (if decide (s20.1 < (p0.fT.length:Int)) = true then ao ((0:Int) ≤ s20.1 ∧ s20.1 < (p0.fT.length:Int)) (ao (0 + ((rdL p0.fT s20.1).fK.length) ≤ 1000000000) ((if (s20.1 == y7) = true then ((fm (([]:List TSpan) ++ ((rdL p0.fT s20.1).fK)) p2).bind fun y30 => (if decide (4 < (y30.length:Int)) = true then some (.inr (.inl (s20.1,2,s20.2.2))) else ao (s20.2.2.length + 1 ≤ 1000000000) (some (.inl (w64 (s20.1 + 1),s20.2.1,(s20.2.2 ++ [(TT.mk ((rdL p0.fT s20.1).fID) ((rdL p0.fT s20.1).fFrom) ((rdL p0.fT s20.1).fTo) ((rdL p0.fT s20.1).fLong) ((rdL p0.fT s20.1).fToll) y30)])))))) else ao (s20.2.2.length + 1 ≤ 1000000000) (some (.inl (w64 (s20.1 + 1),s20.2.1,(s20.2.2 ++ [(TT.mk ((rdL p0.fT s20.1).fID) ((rdL p0.fT s20.1).fFrom) ((rdL p0.fT s20.1).fTo) ((rdL p0.fT s20.1).fLong) ((rdL p0.fT s20.1).fToll) (([]:List TSpan) ++ ((rdL p0.fT s20.1).fK)))]))))))) else some (.inr (.inr (s20.1,s20.2.1,s20.2.2))))
def iM (p0:TR) (p1:Int) (p2:TSpan) : Option TMade :=
 ((fQ p0).bind fun y4 => (if (y4 != 0) = true then some (TMade.mk (TR.mk 0 []) y4) else ((hQ p0 p1).bind fun y7 => (if decide (y7 < 0) = true then some (TMade.mk (TR.mk 0 []) 5) else ((cJ p2.fLo).bind fun y10 => ((cJ p2.fHi).bind fun y12 => (if (((!y10) || (!y12)) || (decide (p2.fHi < p2.fLo))) = true then some (TMade.mk (TR.mk 0 []) 1) else ((aT (gK p0 p2 y7) (0,0,([]:List TT))).bind fun u21 => match u21 with | (.inl u46) => some (TMade.mk (TR.mk 0 ([]:List TT)) u46.2.1) | (.inr u47) => some (TMade.mk (TR.mk p0.fL u47.2.2) 0)))))))))
def cq (p0:TR) (p1:TR) (s6:(Bool × Int)) (s20:(Bool × Int)) : Option ((Bool × Int) ⊕ ((Bool × Int) ⊕ (Bool × Int))) :=
 (if decide (s20.2 < (((rdL p0.fT s6.2).fK.length : Nat) : Int)) = true then ao ((0:Int) ≤ s20.2 ∧ s20.2 < (((rdL p0.fT s6.2).fK.length : Nat) : Int)) (ao ((0:Int) ≤ s20.2 ∧ s20.2 < (((rdL p1.fT s6.2).fK.length : Nat) : Int)) ((if (!(((rdL ((rdL p0.fT s6.2).fK) s20.2).fLo == (rdL ((rdL p1.fT s6.2).fK) s20.2).fLo) && ((rdL ((rdL p0.fT s6.2).fK) s20.2).fHi == (rdL ((rdL p1.fT s6.2).fK) s20.2).fHi))) = true then some (.inr (.inl (false,s20.2))) else some (.inl (s20.1,w64 (s20.2 + 1)))))) else some (.inr (.inr (s20.1,s20.2))))
def cr (p0:TR) (p1:TR) (s6:(Bool × Int)) : Option ((Bool × Int) ⊕ ((Bool × Int) ⊕ (Bool × Int))) :=
 (if decide (s6.2 < (p0.fT.length:Int)) = true then ao ((0:Int) ≤ s6.2 ∧ s6.2 < (p0.fT.length:Int)) (ao ((0:Int) ≤ s6.2 ∧ s6.2 < (p1.fT.length:Int)) ((if ((((((((rdL p0.fT s6.2).fID) != ((rdL p1.fT s6.2).fID)) || (((rdL p0.fT s6.2).fFrom) != ((rdL p1.fT s6.2).fFrom))) || (((rdL p0.fT s6.2).fTo) != ((rdL p1.fT s6.2).fTo))) || (((rdL p0.fT s6.2).fLong) != ((rdL p1.fT s6.2).fLong))) || (((rdL p0.fT s6.2).fToll) != ((rdL p1.fT s6.2).fToll))) || ((((rdL p0.fT s6.2).fK.length : Nat) : Int) != (((rdL p1.fT s6.2).fK.length : Nat) : Int))) = true then some (.inr (.inl (false,s6.2))) else ((aT (cq p0 p1 s6) (s6.1,0)).bind fun u21 => match u21 with | (.inl u27) => some (.inr (.inl (u27.1,s6.2))) | (.inr u28) => some (.inl (u28.1,w64 (s6.2 + 1))))))) else some (.inr (.inr (s6.1,s6.2))))
def d6 (p0:TR) (p1:TR) : Option Bool :=
 (if ((p0.fL != p1.fL) || ((p0.fT.length:Int) != (p1.fT.length:Int))) = true then some false else ((aT (cr p0 p1) (false,0)).bind fun u7 => match u7 with | (.inl u30) => some u30.1 | (.inr u31) => some true))
def df (p0:TR) (p1:TT) (p2:Int) (p3:Int) (p4:TSpan) : Option Bool :=
 ((fu p0).bind fun y4 => (if ((!y4) || (decide (12 < (p1.fK.length:Int)))) = true then ((dK).bind fun y8 => some y8) else ((gO p1 p2).bind fun y10 => ((ie p1 p2).bind fun y12 => ((gU p0 p3 p4).bind fun y14 => ((iM p0 p3 p4).bind fun y27 => ((dK).bind fun y40 => ((if y40 = true then ((fV p0).bind fun y53 => ((fQ p0).bind fun y55 => some ((y53 == y55)))) else (some (false))).bind fun b43 => ((if ((b43 && (y10.1 == y12.1)) && (y10.2 == y12.2)) = true then ((d6 y14.1 y27.fR).bind fun y51 => some (y51)) else (some (false))).bind fun b48 => some (b48 && (y14.2 == y27.fE)))))))))))
end
end Go.Proofs.YthndghnkebboaabGreat
