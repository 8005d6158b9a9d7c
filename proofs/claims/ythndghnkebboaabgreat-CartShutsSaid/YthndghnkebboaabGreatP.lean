import Derived.Test.YthndghnkebboaabGreatGz
set_option linter.unusedVariables false
namespace Go.Proofs.YthndghnkebboaabGreat
noncomputable section
structure TSpan where
 fLo : Int
 fHi : Int
 deriving DecidableEq
instance : Inhabited TSpan:=⟨⟨default,default⟩⟩
def TSpan_rg (x:TSpan) : Prop:=bK x.fLo ∧ bK x.fHi
structure TT where
 fID : Int
 fFrom : Int
 fTo : Int
 fLong : Int
 fToll : Int
 fK : (List TSpan)
 deriving DecidableEq
instance : Inhabited TT:=⟨⟨default,default,default,default,default,default⟩⟩
def TTrack_rg (x:TT) : Prop:=bK x.fID ∧ bK x.fFrom ∧ bK x.fTo ∧ bK x.fLong ∧ bK x.fToll ∧ (iE TSpan_rg x.fK)
structure TR where
 fL : Int
 fT : (List TT)
 deriving DecidableEq
instance : Inhabited TR:=⟨⟨default,default⟩⟩
def si (x:TR) : Prop:=bK x.fL ∧ (iE TTrack_rg x.fT)
structure Ts where
 f_place : Int
 f_toll : Int
 deriving DecidableEq
instance : Inhabited Ts:=⟨⟨default,default⟩⟩
def Tstop_rg (x:Ts) : Prop:=bK x.f_place ∧ bK x.f_toll
structure Twait where
 f_at : Int
 f_stop : Ts
 deriving DecidableEq
instance : Inhabited Twait:=⟨⟨default,default⟩⟩
def Twait_rg (x:Twait) : Prop:=bK x.f_at ∧ bK x.f_stop.f_place ∧ bK x.f_stop.f_toll
structure TLeg where
 fTrack : Int
 fHour : Int
 deriving DecidableEq
instance : Inhabited TLeg:=⟨⟨default,default⟩⟩
def TLeg_rg (x:TLeg) : Prop:=bK x.fTrack ∧ bK x.fHour
structure Tl where
 f_at : Int
 f_from : Ts
 f_leg : TLeg
 f_begin : Bool
 deriving DecidableEq
instance : Inhabited Tl:=⟨⟨default,default,default,default⟩⟩
def Tlabel_rg (x:Tl) : Prop:=bK x.f_at ∧ bK x.f_from.f_place ∧ bK x.f_from.f_toll ∧ bK x.f_leg.fTrack ∧ bK x.f_leg.fHour
structure TJ where
 fLegs : (List TLeg)
 fA : Int
 fToll : Int
 deriving DecidableEq
instance : Inhabited TJ:=⟨⟨default,default,default⟩⟩
def TJourney_rg (x:TJ) : Prop:=(iE TLeg_rg x.fLegs) ∧ bK x.fA ∧ bK x.fToll
structure TBay where
 fID : Int
 fHour : Int
 fD : Int
 deriving DecidableEq
instance : Inhabited TBay:=⟨⟨default,default,default⟩⟩
def TBay_rg (x:TBay) : Prop:=bK x.fID ∧ bK x.fHour ∧ bK x.fD
structure TO where
 fID : Int
 fH : TSpan
 fD : Int
 fW : Int
 deriving DecidableEq
instance : Inhabited TO:=⟨⟨default,default,default,default⟩⟩
def sw (x:TO) : Prop:=bK x.fID ∧ bK x.fH.fLo ∧ bK x.fH.fHi ∧ bK x.fD ∧ bK x.fW
structure TY where
 fB : (List TBay)
 fOrders : (List TO)
 deriving DecidableEq
instance : Inhabited TY:=⟨⟨default,default⟩⟩
def TYard_rg (x:TY) : Prop:=(iE TBay_rg x.fB) ∧ (iE sw x.fOrders)
structure TTimes where
 fH : (List (List Int))
 deriving DecidableEq
instance : Inhabited TTimes:=⟨⟨default⟩⟩
def TTimes_rg (x:TTimes) : Prop:=(iE (iE bK) x.fH)
structure TPlan where
 fG : (List Int)
 fW : Int
 fP : (List Int)
 deriving DecidableEq
instance : Inhabited TPlan:=⟨⟨default,default,default⟩⟩
def TPlan_rg (x:TPlan) : Prop:=(iE bK x.fG) ∧ bK x.fW ∧ (iE bK x.fP)
structure TMade where
 fR : TR
 fE : Int
 deriving DecidableEq
instance : Inhabited TMade:=⟨⟨default,default⟩⟩
def TMade_rg (x:TMade) : Prop:=bK x.fR.fL ∧ (iE TTrack_rg x.fR.fT) ∧ bK x.fE
def aO (x:Ts) : Bool:=dW x.f_place && dW x.f_toll
def cY (p0:TR) (s3:(Bool × Int)) : Option ((Bool × Int) ⊕ ((Bool × Int) ⊕ (Bool × Int))) :=
 (if decide (s3.2 < (p0.fT.length:Int)) = true then ak ((0:Int) ≤ s3.2 ∧ s3.2 < (p0.fT.length:Int)) ((if decide (12 < (((rdL p0.fT s3.2).fK.length : Nat) : Int)) = true then some (.inr (.inl (false,s3.2))) else some (.inl (s3.1,w64 (s3.2 + 1))))) else some (.inr (.inr (s3.1,s3.2))))
def dR (p0:TR) : Option Bool :=
 ((aT (cY p0) (false,0)).bind fun u4 => match u4 with | (.inl u9) => some u9.1 | (.inr u10) => some (((decide (p0.fL ≤ 8)) || (decide (16 < p0.fL))) && ((decide ((p0.fT.length:Int) ≤ 16)) || ((decide (48 < (p0.fT.length:Int))) && (decide ((p0.fT.length:Int) ≤ 60))))))
def aX (p0:(List TT)) (p1:TT → Option Bool) (s2:(Int × Int)) : Option ((Int × Int) ⊕ ((Int × Int) ⊕ (Int × Int))) :=
 (if decide (s2.2 < (p0.length:Int)) = true then ak ((0:Int) ≤ s2.2 ∧ s2.2 < (p0.length:Int)) (((p1 (TT.mk ((rdL p0 s2.2).fID) ((rdL p0 s2.2).fFrom) ((rdL p0 s2.2).fTo) ((rdL p0 s2.2).fLong) ((rdL p0 s2.2).fToll) ((rdL p0 s2.2).fK))).bind fun y6 => (if y6 = true then some (.inr (.inl (s2.2,s2.2))) else some (.inl (s2.1,w64 (s2.2 + 1)))))) else some (.inr (.inr (s2.1,s2.2))))
def bp (p0:(List TT)) (p1:TT → Option Bool) : Option Int :=
 ((aT (aX p0 p1) (0,0)).bind fun u3 => match u3 with | (.inl u10) => some u10.1 | (.inr u11) => some (-1))
def cd (p0:(List TT)) (p1:TT → Option Bool) : Option Int :=
 ((bp p0 p1).bind fun y1 => some y1)
def gu (p0:TT) (cap0:Int) : Option Bool :=
 some (p0.fID == cap0)
def gS (p0:TR) (p1:Int) : Option Int :=
 ((cd p0.fT (fun x3 => gu x3 p1)).bind fun y4 => some y4)
def eS (p0:(List TSpan)) (s2:(Bool × Int × Int)) : Option ((Bool × Int × Int) ⊕ ((Bool × Int × Int) ⊕ (Bool × Int × Int))) :=
 (if decide (s2.2.2 < (p0.length:Int)) = true then ak ((0:Int) ≤ s2.2.2 ∧ s2.2.2 < (p0.length:Int)) ((if (((decide ((rdL p0 s2.2.2).fLo < w64 (s2.2.1 + 2))) || (decide ((rdL p0 s2.2.2).fHi < (rdL p0 s2.2.2).fLo))) || (decide (16384 < (rdL p0 s2.2.2).fHi))) = true then some (.inr (.inl (false,s2.2.1,s2.2.2))) else some (.inl (s2.1,(rdL p0 s2.2.2).fHi,w64 (s2.2.2 + 1))))) else some (.inr (.inr (s2.1,s2.2.1,s2.2.2))))
def f7 (p0:(List TSpan)) : Option Bool :=
 ((aT (eS p0) (false,(-2),0)).bind fun u3 => match u3 with | (.inl u11) => some u11.1 | (.inr u12) => some (decide ((p0.length:Int) ≤ 4)))
def bk (p0:Int) (p1:Int) (p2:Int) : Option Bool :=
 some ((decide (p1 ≤ p0)) && (decide (p0 ≤ p2)))
def gy (p0:Int) (cap0:TR) : Option Bool :=
 ((bk p0 0 (w64 (cap0.fL - 1))).bind fun y1 => some y1)
def fU (p0:TR) (s7:(Int × Int)) : Option ((Int × Int) ⊕ ((Int × Int) ⊕ (Int × Int))) :=
 (if decide (s7.2 < (p0.fT.length:Int)) = true then ak ((0:Int) ≤ s7.2 ∧ s7.2 < (p0.fT.length:Int)) (((bk ((rdL p0.fT s7.2).fID) 1 1099511627776).bind fun y12 => ((if (!y12) = true then (some (true)) else ((gy ((rdL p0.fT s7.2).fFrom) p0).bind fun y42 => some ((!y42)))).bind fun b15 => ((if b15 = true then (some (true)) else ((gy ((rdL p0.fT s7.2).fTo) p0).bind fun y40 => some ((!y40)))).bind fun b18 => ((if (b18 || (((rdL p0.fT s7.2).fFrom) == ((rdL p0.fT s7.2).fTo))) = true then (some (true)) else ((bk ((rdL p0.fT s7.2).fLong) 1 72).bind fun y38 => some ((!y38)))).bind fun b22 => ((if b22 = true then (some (true)) else ((bk ((rdL p0.fT s7.2).fToll) 0 40).bind fun y36 => some ((!y36)))).bind fun b25 => ((if b25 = true then (some (true)) else ((f7 ((rdL p0.fT s7.2).fK)).bind fun y34 => some ((!y34)))).bind fun b28 => (if b28 = true then some (.inr (.inl (1,s7.2))) else ((gS p0 ((rdL p0.fT s7.2).fID)).bind fun y31 => (if decide (y31 < s7.2) = true then some (.inr (.inl (6,s7.2))) else some (.inl (s7.1,w64 (s7.2 + 1))))))))))))) else some (.inr (.inr (s7.1,s7.2))))
def gR (p0:TR) : Option Int :=
 ((bk p0.fL 1 16).bind fun y2 => (if (!y2) = true then some 1 else (if decide (48 < (p0.fT.length:Int)) = true then some 2 else ((aT (fU p0) (0,0)).bind fun u8 => match u8 with | (.inl u45) => some u45.1 | (.inr u46) => some 0))))
def dF (p0:Int) : Option Bool :=
 ((bk p0 0 16384).bind fun y1 => some y1)
def fj (p0:TR) (p1:Int) (p2:Int) (p3:Int) (p4:Int) : Option Int :=
 ((gR p0).bind fun y2 => (if (y2 != 0) = true then some y2 else ((bk p1 0 (w64 (p0.fL - 1))).bind fun y5 => ((if (!y5) = true then (some (true)) else ((bk p2 0 (w64 (p0.fL - 1))).bind fun y21 => some ((!y21)))).bind fun b8 => ((if b8 = true then (some (true)) else ((dF p3).bind fun y19 => some ((!y19)))).bind fun b11 => ((if b11 = true then (some (true)) else ((bk p4 0 60).bind fun y17 => some ((!y17)))).bind fun b14 => (if b14 = true then some 1 else some 0)))))))
def eH (p0:TT) (s3:(Int × Int)) : Option ((Int × Int) ⊕ (Int × Int)) :=
 (if decide (s3.2 < (p0.fK.length:Int)) = true then ak ((0:Int) ≤ s3.2 ∧ s3.2 < (p0.fK.length:Int)) (((bk s3.1 ((rdL p0.fK s3.2).fLo) ((rdL p0.fK s3.2).fHi)).bind fun y8 => (if y8 = true then some (.inl (w64 (((rdL p0.fK s3.2).fHi) + 1),w64 (s3.2 + 1))) else some (.inl (s3.1,w64 (s3.2 + 1)))))) else some (.inr (s3.1,s3.2)))
def gQ (p0:TT) (p1:Int) : Option (Int × Bool) :=
 ((aT (eH p0) (p1,0)).bind fun u4 => ((dF u4.1).bind fun y12 => some (u4.1,y12)))
def cj (p0:(List Twait)) : Option Int :=
 some (p0.length:Int)
def cl (p0:(List Twait)) (p1:Int) (p2:Int) : Option Bool :=
 ak ((0:Int) ≤ p1 ∧ p1 < (p0.length:Int)) (ak ((0:Int) ≤ p2 ∧ p2 < (p0.length:Int)) (some (decide ((rdL p0 p1).f_at < (rdL p0 p2).f_at))))
def bN (p0:(List Twait)) (p1:Int) (p2:Int) : Option (List Twait) :=
 ak ((0:Int) ≤ p2 ∧ p2 < (p0.length:Int)) (ak ((0:Int) ≤ p1 ∧ p1 < (p0.length:Int)) (ak ((0:Int) ≤ p1 ∧ p1 < (p0.length:Int)) (ak ((0:Int) ≤ p2 ∧ p2 < (p0.length:Int)) (some ((p0.set (Int.toNat p1) (rdL p0 p2)).set (Int.toNat p2) (rdL p0 p1))))))
def cP (p2:Int) (s3:(Int × (List Twait))) : Option ((Int × (List Twait)) ⊕ (Int × (List Twait))) :=
 (if ((decide (p2 ≤ w64 ((w64 (2 * s3.1)) + 1))) || (decide (w64 ((w64 (2 * s3.1)) + 1) < 0))) = true then some (.inr (s3.1,s3.2)) else ((if decide (w64 ((w64 ((w64 (2 * s3.1)) + 1)) + 1) < p2) = true then ((cl s3.2 (w64 ((w64 ((w64 (2 * s3.1)) + 1)) + 1)) (w64 ((w64 (2 * s3.1)) + 1))).bind fun y23 => some (y23)) else (some (false))).bind fun b8 => (if b8 = true then ((cl s3.2 (w64 ((w64 ((w64 (2 * s3.1)) + 1)) + 1)) s3.1).bind fun y11 => (if (!y11) = true then some (.inr (s3.1,s3.2)) else ((bN s3.2 s3.1 (w64 ((w64 ((w64 (2 * s3.1)) + 1)) + 1))).bind fun y14 => some (.inl (w64 ((w64 ((w64 (2 * s3.1)) + 1)) + 1),y14))))) else ((cl s3.2 (w64 ((w64 (2 * s3.1)) + 1)) s3.1).bind fun y17 => (if (!y17) = true then some (.inr (s3.1,s3.2)) else ((bN s3.2 s3.1 (w64 ((w64 (2 * s3.1)) + 1))).bind fun y20 => some (.inl (w64 ((w64 (2 * s3.1)) + 1),y20))))))))
def cL (p0:(List Twait)) (p1:Int) (p2:Int) : Option (Bool × (List Twait)) :=
 ((aT (cP p2) (p1,p0)).bind fun u4 => some (decide (p1 < u4.1),u4.2))
def gj (p0:(List Twait)) : Option (Twait × (List Twait)) :=
 ak ((0:Int) ≤ w64 ((p0.length:Int) - 1) ∧ w64 ((p0.length:Int) - 1) < (p0.length:Int)) (ak ((0:Int) ≤ w64 ((p0.length:Int) - 1) ∧ w64 ((p0.length:Int) - 1) ≤ (p0.length:Int)) (some ((Twait.mk ((rdL p0 (w64 ((p0.length:Int) - 1))).f_at) (Ts.mk ((rdL p0 (w64 ((p0.length:Int) - 1))).f_stop.f_place) ((rdL p0 (w64 ((p0.length:Int) - 1))).f_stop.f_toll))),(p0.take (Int.toNat (w64 ((p0.length:Int) - 1)))))))
def cZ (p0:(List Twait)) : Option (Twait × (List Twait)) :=
 ((cj p0).bind fun y1 => ((bN p0 0 (w64 (y1 - 1))).bind fun y3 => ((cL y3 0 (w64 (y1 - 1))).bind fun y6 => ((gj y6.2).bind fun y12 => some (y12.1,y12.2)))))
def fq (x:TR × Int) : Prop:=x.1.fT.length ≤ 1000
instance (x:TR × Int) : Decidable (fq x):=by unfold fq; infer_instance
def mU (x:TR × Int) : List TT:=x.1.fT.filter fun z => z.fFrom == x.2
def jd (p0:TR) (p1:Int) : Option Unit :=
 some ()
def dq (s3:(Int × (List Twait))) : Option ((Int × (List Twait)) ⊕ (Int × (List Twait))) :=
 ((if ((w64 (Int.tdiv (w64 (s3.1 - 1)) 2)) == s3.1) = true then (some (true)) else ((cl s3.2 s3.1 (w64 (Int.tdiv (w64 (s3.1 - 1)) 2))).bind fun y12 => some ((!y12)))).bind fun b6 => (if b6 = true then some (.inr (s3.1,s3.2)) else ((bN s3.2 (w64 (Int.tdiv (w64 (s3.1 - 1)) 2)) s3.1).bind fun y9 => some (.inl (w64 (Int.tdiv (w64 (s3.1 - 1)) 2),y9)))))
def dz (p0:(List Twait)) (p1:Int) : Option (List Twait) :=
 ((aT (dq) (p1,p0)).bind fun u4 => some u4.2)
def fM (p0:(List Twait)) (p1:Twait) : Option (List Twait) :=
 ak (p0.length + 1 ≤ 1000000000) (some (p0 ++ [p1]))
def cN (p0:(List Twait)) (p1:Twait) : Option (List Twait) :=
 ((fM p0 p1).bind fun y1 => ((cj y1).bind fun y7 => ((dz y1 (w64 (y7 - 1))).bind fun y9 => some y9)))
def cC (y15:(Twait × (List Twait))) (s39:((List (Ts × Tl)) × (List Twait))) (x40:TT) : Option (((List (Ts × Tl)) × (List Twait)) ⊕ Unit) :=
 ((gQ x40 y15.1.f_at).bind fun y43 => ((if ((!y43.2) || (decide (60 < w64 (y15.1.f_stop.f_toll + x40.fToll)))) = true then (some (true)) else ((dF (w64 (y43.1 + x40.fLong))).bind fun y62 => some ((!y62)))).bind fun b48 => (if b48 = true then some (.inl (s39.1,s39.2)) else ak (aO (Ts.mk x40.fTo (w64 (y15.1.f_stop.f_toll + x40.fToll))) = true) ((if ((bi s39.1 (Ts.mk x40.fTo (w64 (y15.1.f_stop.f_toll + x40.fToll)))) && (decide ((aw (Tl.mk 0 (Ts.mk 0 0) (TLeg.mk 0 0) false) s39.1 (Ts.mk x40.fTo (w64 (y15.1.f_stop.f_toll + x40.fToll)))).f_at ≤ w64 (y43.1 + x40.fLong)))) = true then some (.inl (s39.1,s39.2)) else ak (aO (Ts.mk x40.fTo (w64 (y15.1.f_stop.f_toll + x40.fToll))) = true ∧ List.length s39.1 < 1000000000) (((cN s39.2 (Twait.mk (w64 (y43.1 + x40.fLong)) (Ts.mk x40.fTo (w64 (y15.1.f_stop.f_toll + x40.fToll))))).bind fun y56 => some (.inl ((((Ts.mk x40.fTo (w64 (y15.1.f_stop.f_toll + x40.fToll))),(Tl.mk (w64 (y43.1 + x40.fLong)) y15.1.f_stop (TLeg.mk x40.fID y43.1) false)) :: s39.1),y56)))))))))
def dV (p0:TR) (s10:((List Twait) × (List (Ts × Tl)))) : Option (((List Twait) × (List (Ts × Tl))) ⊕ ((List Twait) × (List (Ts × Tl)))) :=
 ((cj s10.1).bind fun y12 => (if decide (0 < y12) = true then ((cZ s10.1).bind fun y15 => ak (aO y15.1.f_stop = true) ((if decide ((aw (Tl.mk 0 (Ts.mk 0 0) (TLeg.mk 0 0) false) s10.2 y15.1.f_stop).f_at < y15.1.f_at) = true then some (.inl (y15.2,s10.2)) else ((jd p0 y15.1.f_stop.f_place).bind fun y24 => (ak (fq (p0,y15.1.f_stop.f_place)) ((gC (cC y15) (mU (p0,y15.1.f_stop.f_place)) (s10.2,y15.2)).bind fun u41 => match u41 with | .inl u68 => some (.inl (u68.2,u68.1)) | .inr _ => none)))))) else some (.inr (s10.1,s10.2))))
def fb (p0:TR) (p1:Int) (p2:Int) : Option (List (Ts × Tl)) :=
 ak (aO (Ts.mk p1 0) = true ∧ List.length ([]:(List (Ts × Tl))) < 1000000000) (((aT (dV p0) ([(Twait.mk p2 (Ts.mk p1 0))],(((Ts.mk p1 0),(Tl.mk p2 (Ts.mk 0 0) (TLeg.mk 0 0) true)) :: ([]:(List (Ts × Tl)))))).bind fun u11 => some u11.2))
def cX (p0:(List (Ts × Tl))) (p1:Int) (s5:(Int × Int × (List Int))) : Option ((Int × Int × (List Int)) ⊕ (Int × Int × (List Int))) :=
 (if decide (s5.2.1 < 61) = true then ak (aO (Ts.mk p1 s5.2.1) = true) ((if ((bi p0 (Ts.mk p1 s5.2.1)) && ((decide (s5.1 < 0)) || (decide ((aw (Tl.mk 0 (Ts.mk 0 0) (TLeg.mk 0 0) false) p0 (Ts.mk p1 s5.2.1)).f_at < s5.1)))) = true then ak ((0:Int) ≤ s5.2.1 ∧ s5.2.1 < 61) (some (.inl ((aw (Tl.mk 0 (Ts.mk 0 0) (TLeg.mk 0 0) false) p0 (Ts.mk p1 s5.2.1)).f_at,w64 (s5.2.1 + 1),(s5.2.2.set (Int.toNat s5.2.1) ((aw (Tl.mk 0 (Ts.mk 0 0) (TLeg.mk 0 0) false) p0 (Ts.mk p1 s5.2.1)).f_at))))) else ak ((0:Int) ≤ s5.2.1 ∧ s5.2.1 < 61) (some (.inl (s5.1,w64 (s5.2.1 + 1),(s5.2.2.set (Int.toNat s5.2.1) s5.1)))))) else some (.inr (s5.1,s5.2.1,s5.2.2)))
def eF (p0:(List (Ts × Tl))) (p1:Int) : Option (List Int) :=
 ((aT (cX p0 p1) ((-1),0,(List.replicate 61 0))).bind fun u6 => some u6.2.2)
def bD (p0:(List TLeg)) (s3:(Int × Int × (List TLeg))) : Option ((Int × Int × (List TLeg)) ⊕ (Int × Int × (List TLeg))) :=
 (if decide (s3.1 < s3.2.1) = true then ak ((0:Int) ≤ s3.2.1 ∧ s3.2.1 < (p0.length:Int)) (ak ((0:Int) ≤ s3.1 ∧ s3.1 < (p0.length:Int)) (ak ((0:Int) ≤ s3.1 ∧ s3.1 < (p0.length:Int)) (ak ((0:Int) ≤ s3.2.1 ∧ s3.2.1 < (p0.length:Int)) (some (.inl (w64 (s3.1 + 1),w64 (s3.2.1 - 1),((s3.2.2.set (Int.toNat s3.1) (rdL s3.2.2 s3.2.1)).set (Int.toNat s3.2.1) (rdL s3.2.2 s3.1)))))))) else some (.inr (s3.1,s3.2.1,s3.2.2)))
def bV (p0:(List TLeg)) : Option (List TLeg) :=
 ((aT (bD p0) (0,w64 ((p0.length:Int) - 1),p0)).bind fun u4 => some u4.2.2)
def cM (p0:(List (Ts × Tl))) (s9:(Tl × (List TLeg))) : Option ((Tl × (List TLeg)) ⊕ (Tl × (List TLeg))) :=
 (if (!s9.1.f_begin) = true then ak (s9.2.length + 1 ≤ 1000000000) (ak (aO s9.1.f_from = true) (some (.inl ((Tl.mk ((aw (Tl.mk 0 (Ts.mk 0 0) (TLeg.mk 0 0) false) p0 s9.1.f_from).f_at) (Ts.mk ((aw (Tl.mk 0 (Ts.mk 0 0) (TLeg.mk 0 0) false) p0 s9.1.f_from).f_from.f_place) ((aw (Tl.mk 0 (Ts.mk 0 0) (TLeg.mk 0 0) false) p0 s9.1.f_from).f_from.f_toll)) (TLeg.mk ((aw (Tl.mk 0 (Ts.mk 0 0) (TLeg.mk 0 0) false) p0 s9.1.f_from).f_leg.fTrack) ((aw (Tl.mk 0 (Ts.mk 0 0) (TLeg.mk 0 0) false) p0 s9.1.f_from).f_leg.fHour)) ((aw (Tl.mk 0 (Ts.mk 0 0) (TLeg.mk 0 0) false) p0 s9.1.f_from).f_begin)),(s9.2 ++ [s9.1.f_leg]))))) else some (.inr (s9.1,s9.2)))
def gz (p0:(List (Ts × Tl))) (p1:Ts) : Option TJ :=
 ak (aO p1 = true) (ak (aO p1 = true) (((aT (cM p0) ((Tl.mk ((aw (Tl.mk 0 (Ts.mk 0 0) (TLeg.mk 0 0) false) p0 p1).f_at) (Ts.mk ((aw (Tl.mk 0 (Ts.mk 0 0) (TLeg.mk 0 0) false) p0 p1).f_from.f_place) ((aw (Tl.mk 0 (Ts.mk 0 0) (TLeg.mk 0 0) false) p0 p1).f_from.f_toll)) (TLeg.mk ((aw (Tl.mk 0 (Ts.mk 0 0) (TLeg.mk 0 0) false) p0 p1).f_leg.fTrack) ((aw (Tl.mk 0 (Ts.mk 0 0) (TLeg.mk 0 0) false) p0 p1).f_leg.fHour)) ((aw (Tl.mk 0 (Ts.mk 0 0) (TLeg.mk 0 0) false) p0 p1).f_begin)),([]:List TLeg))).bind fun u10 => ((bV u10.2).bind fun y19 => some (TJ.mk y19 ((aw (Tl.mk 0 (Ts.mk 0 0) (TLeg.mk 0 0) false) p0 p1).f_at) p1.f_toll)))))
def fS (p2:Int) (y2:(List (Ts × Tl))) (y5:(List Int)) (s11:(Int × Int × (List TJ))) : Option ((Int × Int × (List TJ)) ⊕ (Int × Int × (List TJ))) :=
 (if decide (s11.2.1 < 61) = true then ak ((0:Int) ≤ s11.2.1 ∧ s11.2.1 < 61) ((if ((rdL y5 s11.2.1) != s11.1) = true then ((gz y2 (Ts.mk p2 s11.2.1)).bind fun y16 => ak (s11.2.2.length + 1 ≤ 1000000000) (some (.inl ((rdL y5 s11.2.1),w64 (s11.2.1 + 1),(s11.2.2 ++ [y16]))))) else some (.inl ((rdL y5 s11.2.1),w64 (s11.2.1 + 1),s11.2.2)))) else some (.inr (s11.1,s11.2.1,s11.2.2)))
def gT (p0:TR) (p1:Int) (p2:Int) (p3:Int) : Option (List TJ) :=
 ((fb p0 p1 p3).bind fun y2 => ((eF y2 p2).bind fun y5 => ((aT (fS p2 y2 y5) ((-1),0,([]:List TJ))).bind fun u12 => some u12.2.2)))
def gr (p4:Int) (y4:(List TJ)) (s18:(Bool × Int × (List TLeg) × Int × Int)) : Option ((Bool × Int × (List TLeg) × Int × Int) ⊕ (Bool × Int × (List TLeg) × Int × Int)) :=
 (if decide (s18.2.1 < (y4.length:Int)) = true then ak ((0:Int) ≤ s18.2.1 ∧ s18.2.1 < (y4.length:Int)) ((if decide ((rdL y4 s18.2.1).fToll ≤ p4) = true then some (.inl (true,w64 (s18.2.1 + 1),(rdL y4 s18.2.1).fLegs,(rdL y4 s18.2.1).fA,(rdL y4 s18.2.1).fToll)) else some (.inl (s18.1,w64 (s18.2.1 + 1),s18.2.2.1,s18.2.2.2.1,s18.2.2.2.2)))) else some (.inr (s18.1,s18.2.1,s18.2.2.1,s18.2.2.2.1,s18.2.2.2.2)))
def ik (p0:TR) (p1:Int) (p2:Int) (p3:Int) (p4:Int) : Option (TJ × Bool) :=
 ((gT p0 p1 p2 p3).bind fun y4 => ((aT (gr p4 y4) (false,0,([]:(List TLeg)),0,0)).bind fun u19 => some ((TJ.mk u19.2.2.1 u19.2.2.2.1 u19.2.2.2.2),u19.1)))
def c8 (p0:TR) (p1:Int) (p2:Int) (p3:Int) (p4:Int) : Option (TJ × Int) :=
 ((fj p0 p1 p2 p3 p4).bind fun y3 => (if (y3 != 0) = true then some ((TJ.mk ([]:(List TLeg)) 0 0),y3) else ((ik p0 p1 p2 p3 p4).bind fun y6 => (if (!y6.2) = true then some ((TJ.mk ([]:(List TLeg)) 0 0),5) else some (y6.1,0)))))
def a8 (p0:(List TT)) : Option (List TT) :=
 ak (0 + p0.length ≤ 1000000000) (some (([]:List TT) ++ p0))
def ci (p0:(List TT)) (p1:Int) (p2:Int) : Option (List TT) :=
 ak ((0:Int) ≤ p1 ∧ p1 ≤ p2 ∧ p2 ≤ (p0.length:Int) ∧ (p0.length:Int) ≤ (p0.length:Int)) ((if (p1 == p2) = true then some p0 else ak ((0:Int) ≤ p1 ∧ p1 ≤ (p0.length:Int)) (ak ((0:Int) ≤ p2 ∧ p2 ≤ (p0.length:Int)) (ak (p1 ≤ p2) (some (p0.take (Int.toNat p1) ++ p0.drop (Int.toNat p2)))))))
def dM (p0:Int) : Option Bool :=
 some (p0 != p0)
def gv (p0:Int) (p1:Int) : Option Bool :=
 ((dM p0).bind fun y1 => ((if y1 = true then ((dM p1).bind fun y7 => some ((!y7))) else (some (false))).bind fun b4 => some (b4 || (decide (p0 < p1)))))
def aR (p0:(List Int)) (p1:Int) (s8:(Int × (List Int))) : Option ((Int × (List Int)) ⊕ (Int × (List Int))) :=
 ((if decide (p1 < s8.1) = true then (ak ((0:Int) ≤ s8.1 ∧ s8.1 < (p0.length:Int)) (ak ((0:Int) ≤ w64 (s8.1 - 1) ∧ w64 (s8.1 - 1) < (p0.length:Int)) (((gv (rdL s8.2 s8.1) (rdL s8.2 (w64 (s8.1 - 1)))).bind fun y21 => some (y21))))) else (some (false))).bind fun b11 => (if b11 = true then ak ((0:Int) ≤ w64 (s8.1 - 1) ∧ w64 (s8.1 - 1) < (p0.length:Int)) (ak ((0:Int) ≤ s8.1 ∧ s8.1 < (p0.length:Int)) (ak ((0:Int) ≤ s8.1 ∧ s8.1 < (p0.length:Int)) (ak ((0:Int) ≤ w64 (s8.1 - 1) ∧ w64 (s8.1 - 1) < (p0.length:Int)) (some (.inl (w64 (s8.1 - 1),((s8.2.set (Int.toNat s8.1) (rdL s8.2 (w64 (s8.1 - 1)))).set (Int.toNat (w64 (s8.1 - 1))) (rdL s8.2 s8.1)))))))) else some (.inr (s8.1,s8.2))))
def aE (p0:(List Int)) (p1:Int) (p2:Int) (s3:(Int × (List Int))) : Option ((Int × (List Int)) ⊕ (Int × (List Int))) :=
 (if decide (s3.1 < p2) = true then ((aT (aR p0 p1) (s3.1,s3.2)).bind fun u9 => some (.inl (w64 (s3.1 + 1),u9.2))) else some (.inr (s3.1,s3.2)))
def bl (p0:(List Int)) (p1:Int) (p2:Int) : Option (List Int) :=
 ((aT (aE p0 p1 p2) (w64 (p1 + 1),p0)).bind fun u4 => some u4.2)
def lenv (x:Int) : Int:=if x < 1 then 0 else if x < 2 then 1 else if x < 4 then 2 else if x < 8 then 3 else 4
def fF (p0:Int) : Option Int:=ak (0 ≤ p0 ∧ p0 < 16) (some (w64 (0 + lenv p0)))
def eJ (p0:Int) : Option Int :=
 ((fF p0).bind fun y1 => some y1)
def bL (s3:(Int × Int × Int × Bool × Bool × (List Int))) : Option ((Int × Int × Int × Bool × Bool × (List Int)) ⊕ (Int × Int × Int × Bool × Bool × (List Int))) :=
 ak (decide (w64 (s3.2.1 - s3.1) ≤ 12) = true) (((bl s3.2.2.2.2.2 s3.1 s3.2.1).bind fun y6 => some (.inr (s3.1,s3.2.1,s3.2.2.1,s3.2.2.2.1,s3.2.2.2.2.1,y6))))
def cg (p0:(List Int)) (p1:Int) (p2:Int) (p3:Int) : Option (List Int) :=
 ((aT (bL) (p1,p2,p3,true,true,p0)).bind fun u4 => some u4.2.2.2.2.2)
def bJ (p0:(List Int)) : Option (List Int):=ak (p0.length ≤ 12) (some (ph p0))
def eR (p0:TR) (p1:Int) (p2:Int) (p3:Int) (p4:Int) (y2:(TJ × Int)) (s16:(Int × (List Int))) : Option ((Int × (List Int)) ⊕ (Int × (List Int))) :=
 (if decide (s16.1 < (p0.fT.length:Int)) = true then ak ((0:Int) ≤ s16.1 ∧ s16.1 < (p0.fT.length:Int)) (((a8 p0.fT).bind fun y22 => ((ci y22 s16.1 (w64 (s16.1 + 1))).bind fun y31 => ((ik (TR.mk p0.fL y31) p1 p2 p3 p4).bind fun y40 => (if ((!y40.2) || (y40.1.fA != y2.1.fA)) = true then ak (s16.2.length + 1 ≤ 1000000000) (some (.inl (w64 (s16.1 + 1),(s16.2 ++ [(rdL p0.fT s16.1).fID])))) else some (.inl (w64 (s16.1 + 1),s16.2))))))) else some (.inr (s16.1,s16.2)))
def dN (p0:TR) (p1:Int) (p2:Int) (p3:Int) (p4:Int) : Option ((List Int) × Int) :=
 ((c8 p0 p1 p2 p3 p4).bind fun y2 => (if (y2.2 != 0) = true then some ([],y2.2) else ((aT (eR p0 p1 p2 p3 p4 y2) (0,([]:List Int))).bind fun u17 => ((bJ u17.2).bind fun y58 => some (y58,0)))))
def lQ (p0:TT) (p1:Int) : Option (Int × Int) :=
 ((f7 p0.fK).bind fun y2 => ((if (!y2) = true then (some (true)) else ((dF p1).bind fun y11 => some ((!y11)))).bind fun b5 => (if b5 = true then some (0,1) else ((gQ p0 p1).bind fun y8 => (if (!y8.2) = true then some (0,5) else some (y8.1,0))))))
def gU  : Option TR :=
 some (TR.mk 3 [(TT.mk 1 0 1 5 0 ([]:(List TSpan))),(TT.mk 2 1 2 5 0 [(TSpan.mk 8 20)]),(TT.mk 3 0 2 9 6 ([]:(List TSpan))),(TT.mk 4 1 2 8 2 ([]:(List TSpan)))])
def ij  : Option TY :=
 some (TY.mk [(TBay.mk 1 10 3),(TBay.mk 2 11 5)] [(TO.mk 7 (TSpan.mk 10 11) 3 5),(TO.mk 8 (TSpan.mk 11 12) 4 9),(TO.mk 9 (TSpan.mk 10 11) 4 7)])
def cy (p0:(List Int)) : Option (List Int) :=
 ak (0 + p0.length ≤ 1000000000) (some (([]:List Int) ++ p0))
def jn (p0:TR) (y6:(List (Ts × Tl))) (s12:(Int × (List (List Int)))) : Option ((Int × (List (List Int))) ⊕ (Int × (List (List Int)))) :=
 (if decide (s12.1 < p0.fL) = true then ((eF y6 s12.1).bind fun y15 => ((cy y15).bind fun y20 => ak (s12.2.length + 1 ≤ 1000000000) (some (.inl (w64 (s12.1 + 1),(s12.2 ++ [y20])))))) else some (.inr (s12.1,s12.2)))
def jb (p0:TR) (p1:Int) (p2:Int) : Option (TTimes × Int) :=
 ((fj p0 p1 p1 p2 0).bind fun y3 => (if (y3 != 0) = true then some ((TTimes.mk []),y3) else ((fb p0 p1 p2).bind fun y6 => ((aT (jn p0 y6) (0,([]:List (List Int)))).bind fun u13 => some ((TTimes.mk u13.2),0)))))
def lF (p0:TR) (p1:Int) (p2:Int) (p3:Int) : Option ((List TJ) × Int) :=
 ((fj p0 p1 p2 p3 0).bind fun y2 => (if (y2 != 0) = true then some ([],y2) else ((gT p0 p1 p2 p3).bind fun y5 => some (y5,0))))
def ji (p0:Int) (cap0:TR) (cap1:Int) (cap2:Int) (cap3:Int) (cap4:Int) : Option Bool :=
 ((ik cap0 cap1 cap2 p0 cap3).bind fun y1 => some (y1.2 && (decide (y1.1.fA ≤ cap4))))
def kw (p0:TR) (p1:Int) (p2:Int) (p3:Int) (p4:Int) (s10:(Int × Int)) : Option ((Int × Int) ⊕ (Int × Int)) :=
 (if decide (s10.1 ≤ s10.2) = true then ((ji (w64 (Int.tdiv (w64 (s10.1 + s10.2)) 2)) p0 p1 p2 p4 p3).bind fun y13 => (if y13 = true then some (.inl (w64 ((w64 (Int.tdiv (w64 (s10.1 + s10.2)) 2)) + 1),s10.2)) else some (.inl (s10.1,w64 ((w64 (Int.tdiv (w64 (s10.1 + s10.2)) 2)) - 1))))) else some (.inr (s10.1,s10.2)))
def kH (p0:TR) (p1:Int) (p2:Int) (p3:Int) (p4:Int) : Option (Int × Int) :=
 ((fj p0 p1 p2 p3 p4).bind fun y6 => (if (y6 != 0) = true then some (0,y6) else ((aT (kw p0 p1 p2 p3 p4) (0,p3)).bind fun u11 => (if decide (u11.2 < 0) = true then some (0,5) else some (u11.2,0)))))
def iT (p0:(List Int)) (p1:(List Int)) (s3:(Bool × Int)) : Option ((Bool × Int) ⊕ ((Bool × Int) ⊕ (Bool × Int))) :=
 (if decide (s3.2 < (p0.length:Int)) = true then ak ((0:Int) ≤ s3.2 ∧ s3.2 < (p0.length:Int)) (ak ((0:Int) ≤ s3.2 ∧ s3.2 < (p1.length:Int)) ((if ((rdL p0 s3.2) != (rdL p1 s3.2)) = true then some (.inr (.inl (false,s3.2))) else some (.inl (s3.1,w64 (s3.2 + 1)))))) else some (.inr (.inr (s3.1,s3.2))))
def dj (p0:(List Int)) (p1:(List Int)) : Option Bool :=
 (if ((p0.length:Int) != (p1.length:Int)) = true then some false else ((aT (iT p0 p1) (false,0)).bind fun u4 => match u4 with | (.inl u10) => some u10.1 | (.inr u11) => some true))
def dA (p0:(List TO)) (p1:TO → Option Bool) (s2:(Int × Int)) : Option ((Int × Int) ⊕ ((Int × Int) ⊕ (Int × Int))) :=
 (if decide (s2.2 < (p0.length:Int)) = true then ak ((0:Int) ≤ s2.2 ∧ s2.2 < (p0.length:Int)) (((p1 (TO.mk ((rdL p0 s2.2).fID) (TSpan.mk ((rdL p0 s2.2).fH.fLo) ((rdL p0 s2.2).fH.fHi)) ((rdL p0 s2.2).fD) ((rdL p0 s2.2).fW))).bind fun y6 => (if y6 = true then some (.inr (.inl (s2.2,s2.2))) else some (.inl (s2.1,w64 (s2.2 + 1)))))) else some (.inr (.inr (s2.1,s2.2))))
def cz (p0:(List TO)) (p1:TO → Option Bool) : Option Int :=
 ((aT (dA p0 p1) (0,0)).bind fun u3 => match u3 with | (.inl u10) => some u10.1 | (.inr u11) => some (-1))
def di (p0:(List TO)) (p1:TO → Option Bool) : Option Int :=
 ((cz p0 p1).bind fun y1 => some y1)
def iB (p0:TO) (cap0:Int) : Option Bool :=
 some (p0.fID == cap0)
def iU (p0:TY) (p1:Int) : Option Int :=
 ((di p0.fOrders (fun x3 => iB x3 p1)).bind fun y4 => some y4)
def eA (p0:(List TBay)) (p1:TBay → Option Bool) (s2:(Int × Int)) : Option ((Int × Int) ⊕ ((Int × Int) ⊕ (Int × Int))) :=
 (if decide (s2.2 < (p0.length:Int)) = true then ak ((0:Int) ≤ s2.2 ∧ s2.2 < (p0.length:Int)) (((p1 (TBay.mk ((rdL p0 s2.2).fID) ((rdL p0 s2.2).fHour) ((rdL p0 s2.2).fD))).bind fun y6 => (if y6 = true then some (.inr (.inl (s2.2,s2.2))) else some (.inl (s2.1,w64 (s2.2 + 1)))))) else some (.inr (.inr (s2.1,s2.2))))
def dD (p0:(List TBay)) (p1:TBay → Option Bool) : Option Int :=
 ((aT (eA p0 p1) (0,0)).bind fun u3 => match u3 with | (.inl u10) => some u10.1 | (.inr u11) => some (-1))
def dO (p0:(List TBay)) (p1:TBay → Option Bool) : Option Int :=
 ((dD p0 p1).bind fun y1 => some y1)
def j5 (p0:TBay) (cap0:Int) : Option Bool :=
 some (p0.fID == cap0)
def mE (p0:TY) (p1:Int) : Option Int :=
 ((dO p0.fB (fun x3 => j5 x3 p1)).bind fun y4 => some y4)
def iW (p0:TY) (s5:(Int × Int)) : Option ((Int × Int) ⊕ ((Int × Int) ⊕ (Int × Int))) :=
 (if decide (s5.2 < (p0.fB.length:Int)) = true then ak ((0:Int) ≤ s5.2 ∧ s5.2 < (p0.fB.length:Int)) (((bk ((rdL p0.fB s5.2).fID) 1 1099511627776).bind fun y10 => ((if (!y10) = true then (some (true)) else ((dF ((rdL p0.fB s5.2).fHour)).bind fun y24 => some ((!y24)))).bind fun b13 => ((if b13 = true then (some (true)) else ((bk ((rdL p0.fB s5.2).fD) 0 9).bind fun y22 => some ((!y22)))).bind fun b16 => (if b16 = true then some (.inr (.inl (1,s5.2))) else ((mE p0 ((rdL p0.fB s5.2).fID)).bind fun y19 => (if decide (y19 < s5.2) = true then some (.inr (.inl (6,s5.2))) else some (.inl (s5.1,w64 (s5.2 + 1)))))))))) else some (.inr (.inr (s5.1,s5.2))))
def iM (p0:TY) (s30:(Int × Int)) : Option ((Int × Int) ⊕ ((Int × Int) ⊕ (Int × Int))) :=
 (if decide (s30.2 < (p0.fOrders.length:Int)) = true then ak ((0:Int) ≤ s30.2 ∧ s30.2 < (p0.fOrders.length:Int)) (((bk ((rdL p0.fOrders s30.2).fID) 1 1099511627776).bind fun y35 => ((if (!y35) = true then (some (true)) else ((dF ((rdL p0.fOrders s30.2).fH.fLo)).bind fun y60 => some ((!y60)))).bind fun b38 => ((if b38 = true then (some (true)) else ((dF ((rdL p0.fOrders s30.2).fH.fHi)).bind fun y58 => some ((!y58)))).bind fun b41 => ((if (b41 || (decide ((rdL p0.fOrders s30.2).fH.fHi < (rdL p0.fOrders s30.2).fH.fLo))) = true then (some (true)) else ((bk ((rdL p0.fOrders s30.2).fD) 0 9).bind fun y56 => some ((!y56)))).bind fun b45 => ((if b45 = true then (some (true)) else ((bk ((rdL p0.fOrders s30.2).fW) 1 1000).bind fun y54 => some ((!y54)))).bind fun b48 => (if b48 = true then some (.inr (.inl (1,s30.2))) else ((iU p0 ((rdL p0.fOrders s30.2).fID)).bind fun y51 => (if decide (y51 < s30.2) = true then some (.inr (.inl (6,s30.2))) else some (.inl (s30.1,w64 (s30.2 + 1)))))))))))) else some (.inr (.inr (s30.1,s30.2))))
def df (p0:TY) : Option Int :=
 (if ((decide (24 < (p0.fB.length:Int))) || (decide (24 < (p0.fOrders.length:Int)))) = true then some 2 else ((aT (iW p0) (0,0)).bind fun u6 => match u6 with | (.inl u27) => some u27.1 | (.inr u28) => ((aT (iM p0) (u28.1,0)).bind fun u31 => match u31 with | (.inl u63) => some u63.1 | (.inr u64) => some 0)))
def cU (p0:(List Int)) (p1:Int) (p3:Int → Int → Option Int) (s8:(Int × (List Int))) : Option ((Int × (List Int)) ⊕ (Int × (List Int))) :=
 ((if decide (p1 < s8.1) = true then (ak ((0:Int) ≤ s8.1 ∧ s8.1 < (p0.length:Int)) (ak ((0:Int) ≤ w64 (s8.1 - 1) ∧ w64 (s8.1 - 1) < (p0.length:Int)) (((p3 (rdL s8.2 s8.1) (rdL s8.2 (w64 (s8.1 - 1)))).bind fun y21 => some (decide (y21 < 0)))))) else (some (false))).bind fun b11 => (if b11 = true then ak ((0:Int) ≤ w64 (s8.1 - 1) ∧ w64 (s8.1 - 1) < (p0.length:Int)) (ak ((0:Int) ≤ s8.1 ∧ s8.1 < (p0.length:Int)) (ak ((0:Int) ≤ s8.1 ∧ s8.1 < (p0.length:Int)) (ak ((0:Int) ≤ w64 (s8.1 - 1) ∧ w64 (s8.1 - 1) < (p0.length:Int)) (some (.inl (w64 (s8.1 - 1),((s8.2.set (Int.toNat s8.1) (rdL s8.2 (w64 (s8.1 - 1)))).set (Int.toNat (w64 (s8.1 - 1))) (rdL s8.2 s8.1)))))))) else some (.inr (s8.1,s8.2))))
def cV (p0:(List Int)) (p1:Int) (p2:Int) (p3:Int → Int → Option Int) (s3:(Int × (List Int))) : Option ((Int × (List Int)) ⊕ (Int × (List Int))) :=
 (if decide (s3.1 < p2) = true then ((aT (cU p0 p1 p3) (s3.1,s3.2)).bind fun u9 => some (.inl (w64 (s3.1 + 1),u9.2))) else some (.inr (s3.1,s3.2)))
def bX (p0:(List Int)) (p1:Int) (p2:Int) (p3:Int → Int → Option Int) : Option (List Int) :=
 ((aT (cV p0 p1 p2 p3) (w64 (p1 + 1),p0)).bind fun u4 => some u4.2)
def eD (p1:Int) (s2:(Int × Int)) : Option ((Int × Int) ⊕ (Int × Int)) :=
 ak (decide (s2.2 ≤ p1) = false) (some (.inr (s2.1,s2.2)))
def ef (p1:Int) (s10:(Int × Int × Int)) : Option ((Int × Int × Int) ⊕ (Int × Int × Int)) :=
 ak (decide (s10.1 < p1) = false) (some (.inr (s10.1,s10.2.1,s10.2.2)))
def dv (p0:(List Int)) (p1:Int) (p2:Int → Int → Option Int) : Option (List Int) :=
 ((aT (eD p1) (0,20)).bind fun u3 => ((bX p0 u3.1 p1 p2).bind fun y6 => ((aT (ef p1) (20,u3.1,u3.2)).bind fun u11 => some y6)))
def cx (p0:(List Int)) (p1:Int → Int → Option Int) : Option (List Int) :=
 ((dv p0 (p0.length:Int) p1).bind fun y1 => some y1)
def il (p0:Int) (p1:Int) : Option Int :=
 ((dM p0).bind fun y1 => ((dM p1).bind fun y3 => (if y1 = true then (if y3 = true then some 0 else some (-1)) else (if y3 = true then some 1 else (if decide (p0 < p1) = true then some (-1) else (if decide (p1 < p0) = true then some 1 else some 0))))))
def iA (p0:Int) (p1:Int) (cap0:TY) : Option Int :=
 ak ((0:Int) ≤ p1 ∧ p1 < (cap0.fOrders.length:Int)) (ak ((0:Int) ≤ p0 ∧ p0 < (cap0.fOrders.length:Int)) (((il ((rdL cap0.fOrders p1).fW) ((rdL cap0.fOrders p0).fW)).bind fun y3 => some y3)))
def iJ (p0:TO) (p1:TBay) : Option Bool :=
 ((bk p1.fHour p0.fH.fLo p0.fH.fHi).bind fun y3 => some (y3 && (decide (p0.fD ≤ p1.fD))))
def bQ (p0:Int) (cap0:TY) (rec_:Int → TY → (List (Int × Bool)) → (List (Int × Int)) → Option (Bool × (List (Int × Bool)) × (List (Int × Int)))) (s3:(Bool × Int × (List (Int × Bool)) × (List (Int × Int)))) : Option ((Bool × Int × (List (Int × Bool)) × (List (Int × Int))) ⊕ ((Bool × Int × (List (Int × Bool)) × (List (Int × Int))) ⊕ (Bool × Int × (List (Int × Bool)) × (List (Int × Int))))) :=
 (if decide (s3.2.1 < (cap0.fB.length:Int)) = true then ak ((0:Int) ≤ s3.2.1 ∧ s3.2.1 < (cap0.fB.length:Int)) (ak (dW s3.2.1 = true) (((if aw false s3.2.2.1 s3.2.1 = true then (some (true)) else (ak ((0:Int) ≤ p0 ∧ p0 < (cap0.fOrders.length:Int)) (((iJ (TO.mk ((rdL cap0.fOrders p0).fID) (TSpan.mk ((rdL cap0.fOrders p0).fH.fLo) ((rdL cap0.fOrders p0).fH.fHi)) ((rdL cap0.fOrders p0).fD) ((rdL cap0.fOrders p0).fW)) (TBay.mk ((rdL cap0.fB s3.2.1).fID) ((rdL cap0.fB s3.2.1).fHour) ((rdL cap0.fB s3.2.1).fD))).bind fun y22 => some ((!y22)))))).bind fun b10 => (if b10 = true then some (.inl (s3.1,w64 (s3.2.1 + 1),s3.2.2.1,s3.2.2.2)) else ak (dW s3.2.1 = true ∧ List.length s3.2.2.1 < 1000000000) (ak (dW s3.2.1 = true) ((if (!(bi s3.2.2.2 s3.2.1)) = true then (ak (dW s3.2.1 = true ∧ List.length s3.2.2.2 < 1000000000) (some (.inr (.inl (true,s3.2.1,((s3.2.1,true) :: s3.2.2.1),((s3.2.1,p0) :: s3.2.2.2)))))) else ((rec_ (aw 0 s3.2.2.2 s3.2.1) cap0 ((s3.2.1,true) :: s3.2.2.1) s3.2.2.2).bind fun y17 => (if y17.1 = true then ak (dW s3.2.1 = true ∧ List.length y17.2.2 < 1000000000) (some (.inr (.inl (true,s3.2.1,y17.2.1,((s3.2.1,p0) :: y17.2.2))))) else some (.inl (s3.1,w64 (s3.2.1 + 1),y17.2.1,y17.2.2))))))))))) else some (.inr (.inr (s3.1,s3.2.1,s3.2.2.1,s3.2.2.2))))
def dP (rec_:Int → TY → (List (Int × Bool)) → (List (Int × Int)) → Option (Bool × (List (Int × Bool)) × (List (Int × Int)))) (p0:Int) (cap0:TY) (cap1:(List (Int × Bool))) (cap2:(List (Int × Int))) : Option (Bool × (List (Int × Bool)) × (List (Int × Int))) :=
 ((aT (bQ p0 cap0 rec_) (false,0,cap1,cap2)).bind fun u4 => match u4 with | (.inl u25) => some (u25.1,u25.2.2.1,u25.2.2.2) | (.inr u26) => some (false,u26.2.2.1,u26.2.2.2))
def bo : Nat → Int → TY → (List (Int × Bool)) → (List (Int × Int)) → Option (Bool × (List (Int × Bool)) × (List (Int × Int)))
 | 0 => fun _ _ _ _ => none
 | fuel + 1 => dP (bo fuel)
def fC (p0:(List (Int × Int))) (p1:TY) (p2:Int) : Option (Bool × (List (Int × Int))) :=
 ((bo (p1.fB.length + 2) p2 p1 [] p0).bind fun y6 => some (y6.1,y6.2.2))
def kY (p0:TY) (s4:(Int × (List Int))) : Option ((Int × (List Int)) ⊕ (Int × (List Int))) :=
 (if decide (s4.1 < (p0.fOrders.length:Int)) = true then ak (s4.2.length + 1 ≤ 1000000000) (some (.inl (w64 (s4.1 + 1),(s4.2 ++ [s4.1])))) else some (.inr (s4.1,s4.2)))
def lv (p0:TY) (u5:(Int × (List Int))) (y14:(List Int)) (s20:(Int × (List (Int × Int)))) : Option ((Int × (List (Int × Int))) ⊕ (Int × (List (Int × Int)))) :=
 (if decide (s20.1 < (u5.2.length:Int)) = true then ak ((0:Int) ≤ s20.1 ∧ s20.1 < (u5.2.length:Int)) (((fC s20.2 p0 (rdL y14 s20.1)).bind fun y24 => some (.inl (w64 (s20.1 + 1),y24.2)))) else some (.inr (s20.1,s20.2)))
def j8 (p0:TY) : Option (List (Int × Int)) :=
 ((aT (kY p0) (0,([]:List Int))).bind fun u5 => ((cx u5.2 (fun x12 x13 => iA x12 x13 p0)).bind fun y14 => ((aT (lv p0 u5 y14) (0,[])).bind fun u21 => some u21.2)))
def eW (p0:(List (Int × Int))) (p1:TY) : Option Int :=
 ak ((gD p0).all (fun y5 => dW y5 && decide (((0:Int) ≤ aw 0 p0 y5 ∧ aw 0 p0 y5 < (p1.fOrders.length:Int)))) = true) (some ((gD p0).foldl (fun a y5 => w64 (a + ((rdL p1.fOrders (aw 0 p0 y5)).fW))) 0))
def fp (p0:TY) : Option Int :=
 ((j8 p0).bind fun y2 => ((eW y2 p0).bind fun y5 => some y5))
def eh (p0:(List TBay)) (p1:Int) (p2:Int) : Option (List TBay) :=
 ak ((0:Int) ≤ p1 ∧ p1 ≤ p2 ∧ p2 ≤ (p0.length:Int) ∧ (p0.length:Int) ≤ (p0.length:Int)) ((if (p1 == p2) = true then some p0 else ak ((0:Int) ≤ p1 ∧ p1 ≤ (p0.length:Int)) (ak ((0:Int) ≤ p2 ∧ p2 ≤ (p0.length:Int)) (ak (p1 ≤ p2) (some (p0.take (Int.toNat p1) ++ p0.drop (Int.toNat p2)))))))
def eO (p0:(List TBay)) : Option (List TBay) :=
 ak (0 + p0.length ≤ 1000000000) (some (([]:List TBay) ++ p0))
def iu (p0:TY) (p1:Int) : Option TY :=
 ((eO p0.fB).bind fun y4 => ((eh y4 p1 (w64 (p1 + 1))).bind fun y10 => some (TY.mk y10 p0.fOrders)))
def l8 (p0:TY) (y6:Int) (s27:(Int × (List Int))) : Option ((Int × (List Int)) ⊕ (Int × (List Int))) :=
 (if decide (s27.1 < (p0.fB.length:Int)) = true then ((iu p0 s27.1).bind fun y31 => ((fp (TY.mk y31.fB p0.fOrders)).bind fun y41 => ak (s27.2.length + 1 ≤ 1000000000) (some (.inl (w64 (s27.1 + 1),(s27.2 ++ [w64 (y6 - y41)])))))) else some (.inr (s27.1,s27.2)))
def mT (p0:TY) (p1:(List (Int × Int))) : Option TPlan :=
 ak ((0:Int) ≤ (p0.fOrders.length:Int) ∧ (p0.fOrders.length:Int) * 8 ≤ 281474976710656) (((eW p1 p0).bind fun y6 => ak ((gD p1).all (fun y12 => dW y12 && decide (((0:Int) ≤ y12 ∧ y12 < (p0.fB.length:Int)) ∧ ((0:Int) ≤ aw 0 p1 y12 ∧ aw 0 p1 y12 < ((Int.toNat (p0.fOrders.length:Int) : Nat) : Int)))) = true) (ak (((gD p1).map (fun y12 => Int.toNat (aw 0 p1 y12))).Nodup) (((aT (l8 p0 y6) (0,([]:List Int))).bind fun u28 => some (TPlan.mk ((gD p1).foldl (fun a y12 => a.set (Int.toNat (aw 0 p1 y12)) ((rdL p0.fB y12).fID)) (List.replicate (Int.toNat (p0.fOrders.length:Int)) 0)) y6 u28.2))))))
def lB (p0:TY) : Option (TPlan × Int) :=
 ((df p0).bind fun y3 => (if (y3 != 0) = true then some ((TPlan.mk ([]:(List Int)) 0 ([]:(List Int))),y3) else ((j8 p0).bind fun y6 => ((mT p0 y6).bind fun y9 => some (y9,0)))))
def jg (p0__:TO) (p1:Int → Option Int) (cap0:Int) : Option Bool :=
 ((p1 0).bind fun y2 => some (decide (y2 < cap0)))
def jM (p0:TO) (p1:Int → Option Int) (cap0:Int) : Option Bool :=
 ((p1 (w64 (p0.fW + 1))).bind fun y2 => some (y2 == cap0))
def dw (p0:(List TO)) : Option (List TO) :=
 ak (0 + p0.length ≤ 1000000000) (some (([]:List TO) ++ p0))
def fm (p0:Int) (cap0:TY) (cap1:Int) : Option Int :=
 ((dw cap0.fOrders).bind fun y2 => ak ((0:Int) ≤ cap1 ∧ cap1 < (y2.length:Int)) (((fp (TY.mk cap0.fB (y2.set (Int.toNat cap1) (TO.mk ((rdL y2 cap1).fID) (TSpan.mk ((rdL y2 cap1).fH.fLo) ((rdL y2 cap1).fH.fHi)) ((rdL y2 cap1).fD) p0)))).bind fun y10 => some y10)))
def gp (p0:TY) (cap0:Int) (s4:(Int × (List Int))) : Option ((Int × (List Int)) ⊕ (Int × (List Int))) :=
 (if decide (s4.1 < (p0.fOrders.length:Int)) = true then ak ((0:Int) ≤ s4.1 ∧ s4.1 < (p0.fOrders.length:Int)) (((jg (TO.mk ((rdL p0.fOrders s4.1).fID) (TSpan.mk ((rdL p0.fOrders s4.1).fH.fLo) ((rdL p0.fOrders s4.1).fH.fHi)) ((rdL p0.fOrders s4.1).fD) ((rdL p0.fOrders s4.1).fW)) (fun x10 => fm x10 p0 s4.1) cap0).bind fun y11 => (if y11 = true then ak (s4.2.length + 1 ≤ 1000000000) (some (.inl (w64 (s4.1 + 1),(s4.2 ++ [(rdL p0.fOrders s4.1).fID])))) else some (.inl (w64 (s4.1 + 1),s4.2))))) else some (.inr (s4.1,s4.2)))
def fz (p0:TY) (cap0:Int) : Option (List Int) :=
 ((aT (gp p0 cap0) (0,([]:List Int))).bind fun u5 => ((bJ u5.2).bind fun y19 => some y19))
def gE (p0:TY) (cap0:Int) (s4:(Int × (List Int))) : Option ((Int × (List Int)) ⊕ (Int × (List Int))) :=
 (if decide (s4.1 < (p0.fOrders.length:Int)) = true then ak ((0:Int) ≤ s4.1 ∧ s4.1 < (p0.fOrders.length:Int)) (((jM (TO.mk ((rdL p0.fOrders s4.1).fID) (TSpan.mk ((rdL p0.fOrders s4.1).fH.fLo) ((rdL p0.fOrders s4.1).fH.fHi)) ((rdL p0.fOrders s4.1).fD) ((rdL p0.fOrders s4.1).fW)) (fun x10 => fm x10 p0 s4.1) cap0).bind fun y11 => (if y11 = true then ak (s4.2.length + 1 ≤ 1000000000) (some (.inl (w64 (s4.1 + 1),(s4.2 ++ [(rdL p0.fOrders s4.1).fID])))) else some (.inl (w64 (s4.1 + 1),s4.2))))) else some (.inr (s4.1,s4.2)))
def f9 (p0:TY) (cap0:Int) : Option (List Int) :=
 ((aT (gE p0 cap0) (0,([]:List Int))).bind fun u5 => ((bJ u5.2).bind fun y19 => some y19))
def kC (p0:TY) : Option ((List Int) × Int) :=
 ((df p0).bind fun y2 => (if (y2 != 0) = true then some ([],y2) else ((fp p0).bind fun y5 => ((fz p0 y5).bind fun y8 => some (y8,0)))))
def lM (p0:TY) : Option ((List Int) × Int) :=
 ((df p0).bind fun y2 => (if (y2 != 0) = true then some ([],y2) else ((fp p0).bind fun y5 => ((f9 p0 y5).bind fun y8 => some (y8,0)))))
def lO (p0:Int) (cap0:(List (Int × Int))) (cap1:TY) : Option (Bool × (List (Int × Int))) :=
 ((iU cap1 p0).bind fun y1 => ((fC cap0 cap1 y1).bind fun y3 => some ((!y3.1),y3.2)))
def dm (p0:(List Int)) (cap1:TY) (s3:(Int × Int × (List (Int × Int)))) : Option ((Int × Int × (List (Int × Int))) ⊕ ((Int × Int × (List (Int × Int))) ⊕ (Int × Int × (List (Int × Int))))) :=
 (if decide (s3.2.1 < (p0.length:Int)) = true then ak ((0:Int) ≤ s3.2.1 ∧ s3.2.1 < (p0.length:Int)) (((lO (rdL p0 s3.2.1) s3.2.2 cap1).bind fun y7 => (if y7.1 = true then some (.inr (.inl (s3.2.1,s3.2.1,y7.2))) else some (.inl (s3.1,w64 (s3.2.1 + 1),y7.2))))) else some (.inr (.inr (s3.1,s3.2.1,s3.2.2))))
def cw (p0:(List Int)) (cap0:(List (Int × Int))) (cap1:TY) : Option (Int × (List (Int × Int))) :=
 ((aT (dm p0 cap1) (0,0,cap0)).bind fun u4 => match u4 with | (.inl u11) => some (u11.1,u11.2.2) | (.inr u12) => some ((-1),u12.2.2))
def eB (p0:(List Int)) (p1:Int → Option Bool) (s2:(Int × Int)) : Option ((Int × Int) ⊕ ((Int × Int) ⊕ (Int × Int))) :=
 (if decide (s2.2 < (p0.length:Int)) = true then ak ((0:Int) ≤ s2.2 ∧ s2.2 < (p0.length:Int)) (((p1 (rdL p0 s2.2)).bind fun y6 => (if y6 = true then some (.inr (.inl (s2.2,s2.2))) else some (.inl (s2.1,w64 (s2.2 + 1)))))) else some (.inr (.inr (s2.1,s2.2))))
def dC (p0:(List Int)) (p1:Int → Option Bool) : Option Int :=
 ((aT (eB p0 p1) (0,0)).bind fun u3 => match u3 with | (.inl u10) => some u10.1 | (.inr u11) => some (-1))
def fc (p0:(List Int)) (cap0:(List (Int × Int))) (cap1:TY) : Option (Int × (List (Int × Int))) :=
 ((cw p0 cap0 cap1).bind fun y1 => some (y1.1,y1.2))
def mw (p0:TY) (p1:(List Int)) : Option Bool :=
 ((fc p1 [] p0).bind fun y4 => some (decide (y4.1 < 0)))
def d8 (p0:(List Int)) (p1:Int → Option Bool) (s6:(Int × Int × (List Int))) : Option ((Int × Int × (List Int)) ⊕ (Int × Int × (List Int))) :=
 (if decide (s6.2.1 < (p0.length:Int)) = true then ak ((0:Int) ≤ s6.2.1 ∧ s6.2.1 < (p0.length:Int)) (((p1 (rdL s6.2.2 s6.2.1)).bind fun y10 => (if (!y10) = true then ak ((0:Int) ≤ s6.1 ∧ s6.1 < (p0.length:Int)) (some (.inl (w64 (s6.1 + 1),w64 (s6.2.1 + 1),(s6.2.2.set (Int.toNat s6.1) (rdL s6.2.2 s6.2.1))))) else some (.inl (s6.1,w64 (s6.2.1 + 1),s6.2.2))))) else some (.inr (s6.1,s6.2.1,s6.2.2)))
def dg (p0:(List Int)) (p1:Int → Option Bool) : Option (List Int) :=
 ((dC p0 p1).bind fun y1 => (if (y1 == (-1)) = true then some p0 else ((aT (d8 p0 p1) (y1,w64 (y1 + 1),p0)).bind fun u7 => ak ((0:Int) ≤ u7.1 ∧ u7.1 ≤ (p0.length:Int)) (ak ((0:Int) ≤ u7.1 ∧ u7.1 ≤ (p0.length:Int)) (some (u7.2.2.take (Int.toNat u7.1)))))))
def gl (p0:Int) (cap0:Int) : Option Bool :=
 some (p0 == cap0)
def jP (p0:TY) (p1:(List Int)) (s6:(Int × Int)) : Option ((Int × Int) ⊕ ((Int × Int) ⊕ (Int × Int))) :=
 (if decide (s6.2 < (p1.length:Int)) = true then ak ((0:Int) ≤ s6.2 ∧ s6.2 < (p1.length:Int)) (((iU p0 (rdL p1 s6.2)).bind fun y10 => ((if decide (y10 < 0) = true then (some (true)) else ((if decide (0 < s6.2) = true then (ak ((0:Int) ≤ w64 (s6.2 - 1) ∧ w64 (s6.2 - 1) < (p1.length:Int)) (some (decide ((rdL p1 s6.2) ≤ (rdL p1 (w64 (s6.2 - 1))))))) else (some (false))).bind fun b17 => some (b17))).bind fun b13 => (if b13 = true then some (.inr (.inl (1,s6.2))) else some (.inl (s6.1,w64 (s6.2 + 1))))))) else some (.inr (.inr (s6.1,s6.2))))
def jK (p0:TY) (p1:(List Int)) (s34:(Int × (List Int))) : Option ((Int × (List Int)) ⊕ (Int × (List Int))) :=
 (if decide (s34.1 < (p1.length:Int)) = true then ak ((0:Int) ≤ s34.1 ∧ s34.1 < (p1.length:Int)) (((cy s34.2).bind fun y39 => ((dg y39 (fun x45 => gl x45 (rdL p1 s34.1))).bind fun y46 => ((mw p0 y46).bind fun y50 => (if (!y50) = true then some (.inl (w64 (s34.1 + 1),y46)) else some (.inl (w64 (s34.1 + 1),s34.2))))))) else some (.inr (s34.1,s34.2)))
def jJ (p0:TY) (p1:(List Int)) : Option ((List Int) × Int) :=
 ((df p0).bind fun y2 => (if (y2 != 0) = true then some ([],y2) else ((aT (jP p0 p1) (0,0)).bind fun u7 => match u7 with | (.inl u21) => some (([]:List Int),u21.1) | (.inr u22) => ((mw p0 p1).bind fun y23 => (if y23 = true then some ([],5) else ((cy p1).bind fun y26 => ((aT (jK p0 p1) (0,y26)).bind fun u35 => some (u35.2,0))))))))
def ni (p0:TY) (p1:Int) : Option (Int × Int) :=
 ((df p0).bind fun y2 => (if (y2 != 0) = true then some (0,y2) else ((mE p0 p1).bind fun y5 => (if decide (y5 < 0) = true then some (0,5) else ((fp p0).bind fun y8 => ((iu p0 y5).bind fun y10 => ((fp (TY.mk y10.fB p0.fOrders)).bind fun y20 => some (w64 (y8 - y20),0))))))))
def cD (p0:Int) (p1:Int) (p2:Int) : Option Bool :=
 some ((decide (p1 ≤ p0)) && (decide (p0 ≤ p2)))
def iS (p0:Int) : Option Bool :=
 ((cD p0 0 16384).bind fun y1 => some y1)
def iz (p0:TY) (s5:(Int × Int)) (s20:(Int × Int)) : Option ((Int × Int) ⊕ ((Int × Int) ⊕ (Int × Int))) :=
 (if decide (s20.2 < s5.2) = true then ak ((0:Int) ≤ s20.2 ∧ s20.2 < (p0.fB.length:Int)) ((if (((rdL p0.fB s20.2).fID) == ((rdL p0.fB s5.2).fID)) = true then some (.inr (.inl (6,s20.2))) else some (.inl (s20.1,w64 (s20.2 + 1))))) else some (.inr (.inr (s20.1,s20.2))))
def iw (p0:TY) (s5:(Int × Int)) : Option ((Int × Int) ⊕ ((Int × Int) ⊕ (Int × Int))) :=
 (if decide (s5.2 < (p0.fB.length:Int)) = true then ak ((0:Int) ≤ s5.2 ∧ s5.2 < (p0.fB.length:Int)) (((cD ((rdL p0.fB s5.2).fID) 1 1099511627776).bind fun y10 => ((iS ((rdL p0.fB s5.2).fHour)).bind fun y12 => ((cD ((rdL p0.fB s5.2).fD) 0 9).bind fun y14 => (if (((!y10) || (!y12)) || (!y14)) = true then some (.inr (.inl (1,s5.2))) else ((aT (iz p0 s5) (s5.1,0)).bind fun u21 => match u21 with | (.inl u26) => some (.inr (.inl (u26.1,s5.2))) | (.inr u27) => some (.inl (u27.1,w64 (s5.2 + 1))))))))) else some (.inr (.inr (s5.1,s5.2))))
def ir (p0:TY) (s32:(Int × Int)) (s54:(Int × Int)) : Option ((Int × Int) ⊕ ((Int × Int) ⊕ (Int × Int))) :=
 (if decide (s54.2 < s32.2) = true then ak ((0:Int) ≤ s54.2 ∧ s54.2 < (p0.fOrders.length:Int)) ((if (((rdL p0.fOrders s54.2).fID) == ((rdL p0.fOrders s32.2).fID)) = true then some (.inr (.inl (6,s54.2))) else some (.inl (s54.1,w64 (s54.2 + 1))))) else some (.inr (.inr (s54.1,s54.2))))
def iq (p0:TY) (s32:(Int × Int)) : Option ((Int × Int) ⊕ ((Int × Int) ⊕ (Int × Int))) :=
 (if decide (s32.2 < (p0.fOrders.length:Int)) = true then ak ((0:Int) ≤ s32.2 ∧ s32.2 < (p0.fOrders.length:Int)) (((cD ((rdL p0.fOrders s32.2).fID) 1 1099511627776).bind fun y37 => ((iS ((rdL p0.fOrders s32.2).fH.fLo)).bind fun y39 => ((iS ((rdL p0.fOrders s32.2).fH.fHi)).bind fun y41 => ((cD ((rdL p0.fOrders s32.2).fD) 0 9).bind fun y43 => ((cD ((rdL p0.fOrders s32.2).fW) 1 1000).bind fun y45 => (if ((((((!y37) || (!y39)) || (!y41)) || (decide ((rdL p0.fOrders s32.2).fH.fHi < (rdL p0.fOrders s32.2).fH.fLo))) || (!y43)) || (!y45)) = true then some (.inr (.inl (1,s32.2))) else ((aT (ir p0 s32) (s32.1,0)).bind fun u55 => match u55 with | (.inl u60) => some (.inr (.inl (u60.1,s32.2))) | (.inr u61) => some (.inl (u61.1,w64 (s32.2 + 1))))))))))) else some (.inr (.inr (s32.1,s32.2))))
def g7 (p0:TY) : Option Int :=
 (if ((decide (24 < (p0.fB.length:Int))) || (decide (24 < (p0.fOrders.length:Int)))) = true then some 2 else ((aT (iw p0) (0,0)).bind fun u6 => match u6 with | (.inl u29) => some u29.1 | (.inr u30) => ((aT (iq p0) (u30.1,0)).bind fun u33 => match u33 with | (.inl u63) => some u63.1 | (.inr u64) => some 0)))
def lW (p0:TY) (p1:Int) (s3:(Int × Int)) : Option ((Int × Int) ⊕ ((Int × Int) ⊕ (Int × Int))) :=
 (if decide (s3.2 < (p0.fB.length:Int)) = true then ak ((0:Int) ≤ s3.2 ∧ s3.2 < (p0.fB.length:Int)) ((if (((rdL p0.fB s3.2).fID) == p1) = true then some (.inr (.inl (s3.2,s3.2))) else some (.inl (s3.1,w64 (s3.2 + 1))))) else some (.inr (.inr (s3.1,s3.2))))
def ng (p0:TY) (p1:Int) : Option Int :=
 ((aT (lW p0 p1) (0,0)).bind fun u4 => match u4 with | (.inl u9) => some u9.1 | (.inr u10) => some (-1))
def gX (p0:TY) (p1:Int) (p2:Int) : Option Bool :=
 ak ((0:Int) ≤ p2 ∧ p2 < (p0.fB.length:Int)) (ak ((0:Int) ≤ p1 ∧ p1 < (p0.fOrders.length:Int)) (ak ((0:Int) ≤ p1 ∧ p1 < (p0.fOrders.length:Int)) (((cD ((rdL p0.fB p2).fHour) ((rdL p0.fOrders p1).fH.fLo) ((rdL p0.fOrders p1).fH.fHi)).bind fun y5 => ((if y5 = true then (ak ((0:Int) ≤ p2 ∧ p2 < (p0.fB.length:Int)) (ak ((0:Int) ≤ p1 ∧ p1 < (p0.fOrders.length:Int)) (some (decide ((rdL p0.fOrders p1).fD ≤ (rdL p0.fB p2).fD))))) else (some (false))).bind fun b8 => some b8)))))
def lr (p1:(List Int)) (s4:(Bool × Int × Int)) (s17:(Bool × Int)) : Option ((Bool × Int) ⊕ ((Bool × Int) ⊕ (Bool × Int))) :=
 (if decide (s17.2 < s4.2.2) = true then ak ((0:Int) ≤ s17.2 ∧ s17.2 < (p1.length:Int)) (ak ((0:Int) ≤ s4.2.2 ∧ s4.2.2 < (p1.length:Int)) ((if ((rdL p1 s17.2) == (rdL p1 s4.2.2)) = true then some (.inr (.inl (false,s17.2))) else some (.inl (s17.1,w64 (s17.2 + 1)))))) else some (.inr (.inr (s17.1,s17.2))))
def lj (p0:TY) (p1:(List Int)) (s4:(Bool × Int × Int)) : Option ((Bool × Int × Int) ⊕ ((Bool × Int × Int) ⊕ (Bool × Int × Int))) :=
 (if decide (s4.2.2 < (p1.length:Int)) = true then ak ((0:Int) ≤ s4.2.2 ∧ s4.2.2 < (p1.length:Int)) ((if ((rdL p1 s4.2.2) == 0) = true then some (.inl (s4.1,s4.2.1,w64 (s4.2.2 + 1))) else ak ((0:Int) ≤ s4.2.2 ∧ s4.2.2 < (p1.length:Int)) (((ng p0 (rdL p1 s4.2.2)).bind fun y10 => (if decide (y10 < 0) = true then some (.inr (.inl (false,s4.2.1,s4.2.2))) else ((gX p0 s4.2.2 y10).bind fun y13 => (if (!y13) = true then some (.inr (.inl (false,s4.2.1,s4.2.2))) else ((aT (lr p1 s4) (s4.1,0)).bind fun u18 => match u18 with | (.inl u24) => some (.inr (.inl (u24.1,s4.2.1,s4.2.2))) | (.inr u25) => ak ((0:Int) ≤ s4.2.2 ∧ s4.2.2 < (p0.fOrders.length:Int)) (some (.inl (u25.1,w64 (s4.2.1 + ((rdL p0.fOrders s4.2.2).fW)),w64 (s4.2.2 + 1)))))))))))) else some (.inr (.inr (s4.1,s4.2.1,s4.2.2))))
def lN (p0:TY) (p1:(List Int)) (p2:Int) : Option Bool :=
 (if ((p1.length:Int) != (p0.fOrders.length:Int)) = true then some false else ((aT (lj p0 p1) (false,0,0)).bind fun u5 => match u5 with | (.inl u28) => some u28.1 | (.inr u29) => some (u29.2.1 == p2)))
def jR (p1:(List Int)) (s4:(Int × Int × Int)) : Option ((Int × Int × Int) ⊕ ((Int × Int × Int) ⊕ (Int × Int × Int))) :=
 (if decide (s4.2.2 < (p1.length:Int)) = true then ak ((0:Int) ≤ s4.2.2 ∧ s4.2.2 < (p1.length:Int)) (((cD (rdL p1 s4.2.2) 0 1000).bind fun y8 => (if (!y8) = true then some (.inr (.inl ((-1),s4.2.1,s4.2.2))) else ak ((0:Int) ≤ s4.2.2 ∧ s4.2.2 < (p1.length:Int)) (some (.inl (s4.1,w64 (s4.2.1 + (rdL p1 s4.2.2)),w64 (s4.2.2 + 1))))))) else some (.inr (.inr (s4.1,s4.2.1,s4.2.2))))
def jG (p0:TY) (p1:(List Int)) (s16:(Int × Int)) (s21:(Int × Int)) : Option ((Int × Int) ⊕ (Int × Int)) :=
 (if decide (s21.2 < (p1.length:Int)) = true then ((gX p0 s16.2 s21.2).bind fun y24 => (if y24 = true then ak ((0:Int) ≤ s21.2 ∧ s21.2 < (p1.length:Int)) (some (.inl (min s21.1 (rdL p1 s21.2),w64 (s21.2 + 1)))) else some (.inl (s21.1,w64 (s21.2 + 1))))) else some (.inr (s21.1,s21.2)))
def jE (p0:TY) (p1:(List Int)) (s16:(Int × Int)) (s30:(Bool × Int)) : Option ((Bool × Int) ⊕ (Bool × Int)) :=
 (if decide (s30.2 < (p1.length:Int)) = true then ((gX p0 s16.2 s30.2).bind fun y33 => some (.inl ((s30.1 || y33),w64 (s30.2 + 1)))) else some (.inr (s30.1,s30.2)))
def jX (p0:TY) (p1:(List Int)) (s16:(Int × Int)) : Option ((Int × Int) ⊕ (Int × Int)) :=
 (if decide (s16.2 < (p0.fOrders.length:Int)) = true then ak ((0:Int) ≤ s16.2 ∧ s16.2 < (p0.fOrders.length:Int)) (((aT (jG p0 p1 s16) ((rdL p0.fOrders s16.2).fW,0)).bind fun u22 => ((aT (jE p0 p1 s16) (false,0)).bind fun u31 => (if u31.1 = true then ak ((0:Int) ≤ s16.2 ∧ s16.2 < (p0.fOrders.length:Int)) (some (.inl (w64 ((w64 (s16.1 + ((rdL p0.fOrders s16.2).fW))) - u22.1),w64 (s16.2 + 1)))) else some (.inl (s16.1,w64 (s16.2 + 1))))))) else some (.inr (s16.1,s16.2)))
def jF (p0:TY) (p1:(List Int)) : Option Int :=
 (if ((p1.length:Int) != (p0.fB.length:Int)) = true then some (-1) else ((aT (jR p1) (0,0,0)).bind fun u5 => match u5 with | (.inl u13) => some u13.1 | (.inr u14) => ((aT (jX p0 p1) (u14.2.1,0)).bind fun u17 => some u17.1)))
def g8 (p0:TY) (p1:TPlan) : Option Int :=
 ((g7 p0).bind fun y3 => (if (y3 != 0) = true then some y3 else ((lN p0 p1.fG p1.fW).bind fun y6 => ((if (!y6) = true then (some (true)) else ((jF p0 p1.fP).bind fun y12 => some ((y12 != p1.fW)))).bind fun b9 => (if b9 = true then some 8 else some 0)))))
def bR  : Option Bool :=
 ((gU).bind fun y1 => ((ij).bind fun y14 => ak ((0:Int) ≤ 1 ∧ 1 < (y1.fT.length:Int)) (((lQ (TT.mk ((rdL y1.fT 1).fID) ((rdL y1.fT 1).fFrom) ((rdL y1.fT 1).fTo) ((rdL y1.fT 1).fLong) ((rdL y1.fT 1).fToll) ((rdL y1.fT 1).fK)) 8).bind fun y26 => ((jb y1 0 4).bind fun y28 => ((lF y1 0 2 4).bind fun y41 => ((c8 y1 0 2 4 5).bind fun y53 => ((kH y1 0 2 26 0).bind fun y64 => ((dN y1 0 2 4 0).bind fun y66 => ((dN y1 0 2 4 60).bind fun y72 => ((if (((((((((y26.2 != 0) || (y28.2 != 0)) || (y41.2 != 0)) || (y53.2 != 0)) || (y64.2 != 0)) || (y66.2 != 0)) || (y72.2 != 0)) || (y26.1 != 21)) || ((y28.1.fH.length:Int) != 3)) = true then (some (true)) else (ak ((0:Int) ≤ 2 ∧ 2 < (y28.1.fH.length:Int)) (some (((((rdL y28.1.fH 2).length : Nat) : Int) != 61))))).bind fun b87 => (if (b87 || ((y41.1.length:Int) != 3)) = true then some false else ak ((0:Int) ≤ 2 ∧ 2 < (y28.1.fH.length:Int)) (ak ((0:Int) ≤ 0 ∧ 0 < (((rdL y28.1.fH 2).length : Nat) : Int)) (((if ((rdL (rdL y28.1.fH 2) 0) == 26) = true then (ak ((0:Int) ≤ 2 ∧ 2 < (y28.1.fH.length:Int)) (ak ((0:Int) ≤ 2 ∧ 2 < (((rdL y28.1.fH 2).length : Nat) : Int)) (some (((rdL (rdL y28.1.fH 2) 2) == 17))))) else (some (false))).bind fun b94 => ((if b94 = true then (ak ((0:Int) ≤ 2 ∧ 2 < (y28.1.fH.length:Int)) (ak ((0:Int) ≤ 6 ∧ 6 < (((rdL y28.1.fH 2).length : Nat) : Int)) (some (((rdL (rdL y28.1.fH 2) 6) == 13))))) else (some (false))).bind fun b97 => ((if b97 = true then (ak ((0:Int) ≤ 0 ∧ 0 < (y41.1.length:Int)) (some ((((rdL y41.1 0).fToll) == 0)))) else (some (false))).bind fun b100 => ((if b100 = true then (ak ((0:Int) ≤ 1 ∧ 1 < (y41.1.length:Int)) (some ((((rdL y41.1 1).fA) == 17)))) else (some (false))).bind fun b103 => ((if b103 = true then (ak ((0:Int) ≤ 2 ∧ 2 < (y41.1.length:Int)) (some ((((rdL y41.1 2).fToll) == 6)))) else (some (false))).bind fun b106 => ((if ((b106 && (y53.1.fA == 17)) && (y64.1 == 16)) = true then ((dj y66.1 [1,2]).bind fun y190 => some (y190)) else (some (false))).bind fun b111 => ((if b111 = true then ((dj y72.1 [3]).bind fun y187 => some (y187)) else (some (false))).bind fun b114 => ((lB y14).bind fun y116 => ((kC y14).bind fun y135 => ((lM y14).bind fun y141 => ((jJ y14 [7,8,9]).bind fun y148 => ((ni y14 1).bind fun y154 => ((if ((y116.2 == 0) && (y116.1.fW == 14)) = true then ((g8 y14 y116.1).bind fun y184 => some ((y184 == 0))) else (some (false))).bind fun b158 => ((if (b158 && (y135.2 == 0)) = true then ((dj y135.1 [7,8]).bind fun y182 => some (y182)) else (some (false))).bind fun b162 => ((if (b162 && (y141.2 == 0)) = true then ((dj y141.1 [9]).bind fun y179 => some (y179)) else (some (false))).bind fun b166 => ((if ((b114 && b166) && (y148.2 == 0)) = true then ((dj y148.1 [8,9]).bind fun y176 => some (y176)) else (some (false))).bind fun b171 => some ((b171 && (y154.2 == 0)) && (y154.1 == 5))))))))))))))))))))))))))))))))
def bC (p0:(List TSpan)) : Option (List TSpan) :=
 ak (0 + p0.length ≤ 1000000000) (some (([]:List TSpan) ++ p0))
def aQ (p0:(List TSpan)) (p1:Int) (p3:TSpan → TSpan → Option Int) (s8:(Int × (List TSpan))) : Option ((Int × (List TSpan)) ⊕ (Int × (List TSpan))) :=
 ((if decide (p1 < s8.1) = true then (ak ((0:Int) ≤ s8.1 ∧ s8.1 < (p0.length:Int)) (ak ((0:Int) ≤ w64 (s8.1 - 1) ∧ w64 (s8.1 - 1) < (p0.length:Int)) (((p3 (TSpan.mk ((rdL s8.2 s8.1).fLo) ((rdL s8.2 s8.1).fHi)) (TSpan.mk ((rdL s8.2 (w64 (s8.1 - 1))).fLo) ((rdL s8.2 (w64 (s8.1 - 1))).fHi))).bind fun y21 => some (decide (y21 < 0)))))) else (some (false))).bind fun b11 => (if b11 = true then ak ((0:Int) ≤ w64 (s8.1 - 1) ∧ w64 (s8.1 - 1) < (p0.length:Int)) (ak ((0:Int) ≤ s8.1 ∧ s8.1 < (p0.length:Int)) (ak ((0:Int) ≤ s8.1 ∧ s8.1 < (p0.length:Int)) (ak ((0:Int) ≤ w64 (s8.1 - 1) ∧ w64 (s8.1 - 1) < (p0.length:Int)) (some (.inl (w64 (s8.1 - 1),((s8.2.set (Int.toNat s8.1) (TSpan.mk ((rdL s8.2 (w64 (s8.1 - 1))).fLo) ((rdL s8.2 (w64 (s8.1 - 1))).fHi))).set (Int.toNat (w64 (s8.1 - 1))) (TSpan.mk ((rdL s8.2 s8.1).fLo) ((rdL s8.2 s8.1).fHi))))))))) else some (.inr (s8.1,s8.2))))
def aD (p0:(List TSpan)) (p1:Int) (p2:Int) (p3:TSpan → TSpan → Option Int) (s3:(Int × (List TSpan))) : Option ((Int × (List TSpan)) ⊕ (Int × (List TSpan))) :=
 (if decide (s3.1 < p2) = true then ((aT (aQ p0 p1 p3) (s3.1,s3.2)).bind fun u9 => some (.inl (w64 (s3.1 + 1),u9.2))) else some (.inr (s3.1,s3.2)))
def bg (p0:(List TSpan)) (p1:Int) (p2:Int) (p3:TSpan → TSpan → Option Int) : Option (List TSpan) :=
 ((aT (aD p0 p1 p2 p3) (w64 (p1 + 1),p0)).bind fun u4 => some u4.2)
def bH (p4:TSpan → TSpan → Option Int) (s3:(Int × Int × Int × Bool × Bool × (List TSpan))) : Option ((Int × Int × Int × Bool × Bool × (List TSpan)) ⊕ (Int × Int × Int × Bool × Bool × (List TSpan))) :=
 ak (decide (w64 (s3.2.1 - s3.1) ≤ 12) = true) (((bg s3.2.2.2.2.2 s3.1 s3.2.1 p4).bind fun y6 => some (.inr (s3.1,s3.2.1,s3.2.2.1,s3.2.2.2.1,s3.2.2.2.2.1,y6))))
def bU (p0:(List TSpan)) (p1:Int) (p2:Int) (p3:Int) (p4:TSpan → TSpan → Option Int) : Option (List TSpan) :=
 ((aT (bH p4) (p1,p2,p3,true,true,p0)).bind fun u4 => some u4.2.2.2.2.2)
def bE (p0:(List TSpan)) (p1:TSpan → TSpan → Option Int) : Option (List TSpan) :=
 ak ((0:Int) ≤ (p0.length:Int) ∧ (p0.length:Int) ≤ 9223372036854775807) (((eJ (p0.length:Int)).bind fun y2 => ((bU p0 0 (p0.length:Int) y2 p1).bind fun y4 => some y4)))
def eE (p0:TSpan) (p1:TSpan) : Option Int :=
 some (w64 (p0.fLo - p1.fLo))
def gh (y3:(List TSpan)) (y15:(List TSpan)) (s20:(Int × (List TSpan))) : Option ((Int × (List TSpan)) ⊕ (Int × (List TSpan))) :=
 (if decide (s20.1 < (((y3.length + 1) : Nat) : Int)) = true then ak ((0:Int) ≤ s20.1 ∧ s20.1 < (((y3.length + 1) : Nat) : Int)) (((if decide (0 < (s20.2.length:Int)) = true then (ak ((0:Int) ≤ w64 ((s20.2.length:Int) - 1) ∧ w64 ((s20.2.length:Int) - 1) < (s20.2.length:Int)) (some (decide ((rdL y15 s20.1).fLo ≤ w64 (((rdL s20.2 (w64 ((s20.2.length:Int) - 1))).fHi) + 1))))) else (some (false))).bind fun b26 => (if b26 = true then ak ((0:Int) ≤ w64 ((s20.2.length:Int) - 1) ∧ w64 ((s20.2.length:Int) - 1) < (s20.2.length:Int)) (ak ((0:Int) ≤ w64 ((s20.2.length:Int) - 1) ∧ w64 ((s20.2.length:Int) - 1) < (s20.2.length:Int)) (some (.inl (w64 (s20.1 + 1),(s20.2.set (Int.toNat (w64 ((s20.2.length:Int) - 1))) (TSpan.mk ((rdL s20.2 (w64 ((s20.2.length:Int) - 1))).fLo) (max ((rdL s20.2 (w64 ((s20.2.length:Int) - 1))).fHi) ((rdL y15 s20.1).fHi)))))))) else ak (s20.2.length + 1 ≤ 1000000000) (some (.inl (w64 (s20.1 + 1),(s20.2 ++ [(TSpan.mk ((rdL y15 s20.1).fLo) ((rdL y15 s20.1).fHi))]))))))) else some (.inr (s20.1,s20.2)))
def f4 (p0:(List TSpan)) (p1:TSpan) : Option (List TSpan) :=
 ((bC p0).bind fun y3 => ak (y3.length + 1 ≤ 1000000000) (((bE (y3 ++ [p1]) (fun x13 x14 => eE x13 x14)).bind fun y15 => ((aT (gh y3 y15) (0,([]:List TSpan))).bind fun u21 => some u21.2))))
def fk (y18:(List TT)) (s30:(Int × (List TT))) : Option ((Int × (List TT)) ⊕ (Int × (List TT))) :=
 (if decide (s30.1 < (y18.length:Int)) = true then ak ((0:Int) ≤ s30.1 ∧ s30.1 < (y18.length:Int)) (((bC ((rdL s30.2 s30.1).fK)).bind fun y34 => ak ((0:Int) ≤ s30.1 ∧ s30.1 < (y18.length:Int)) (some (.inl (w64 (s30.1 + 1),(s30.2.set (Int.toNat s30.1) (TT.mk ((rdL s30.2 s30.1).fID) ((rdL s30.2 s30.1).fFrom) ((rdL s30.2 s30.1).fTo) ((rdL s30.2 s30.1).fLong) ((rdL s30.2 s30.1).fToll) y34))))))) else some (.inr (s30.1,s30.2)))
def jI (p0:TR) (p1:Int) (p2:TSpan) : Option (TR × Int) :=
 ((gR p0).bind fun y4 => (if (y4 != 0) = true then some ((TR.mk 0 []),y4) else ((gS p0 p1).bind fun y7 => (if decide (y7 < 0) = true then some ((TR.mk 0 []),5) else ((if decide (p2.fHi < p2.fLo) = true then (some (true)) else ((dF p2.fLo).bind fun y54 => some ((!y54)))).bind fun b11 => ((if b11 = true then (some (true)) else ((dF p2.fHi).bind fun y52 => some ((!y52)))).bind fun b14 => (if b14 = true then some ((TR.mk 0 []),1) else ((a8 p0.fT).bind fun y18 => ((aT (fk y18) (0,y18)).bind fun u31 => ak ((0:Int) ≤ y7 ∧ y7 < (y18.length:Int)) (((f4 ((rdL u31.2 y7).fK) p2).bind fun y43 => ak ((0:Int) ≤ y7 ∧ y7 < (y18.length:Int)) (ak ((0:Int) ≤ y7 ∧ y7 < (y18.length:Int)) ((if decide (4 < (((rdL (u31.2.set (Int.toNat y7) (TT.mk ((rdL u31.2 y7).fID) ((rdL u31.2 y7).fFrom) ((rdL u31.2 y7).fTo) ((rdL u31.2 y7).fLong) ((rdL u31.2 y7).fToll) y43)) y7).fK.length : Nat) : Int)) = true then some ((TR.mk 0 []),2) else some ((TR.mk p0.fL (u31.2.set (Int.toNat y7) (TT.mk ((rdL u31.2 y7).fID) ((rdL u31.2 y7).fFrom) ((rdL u31.2 y7).fTo) ((rdL u31.2 y7).fLong) ((rdL u31.2 y7).fToll) y43))),0)))))))))))))))
def cW (p0:(List Int)) (p1:Int) (s2:(Bool × Int)) : Option ((Bool × Int) ⊕ ((Bool × Int) ⊕ (Bool × Int))) :=
 (if decide (s2.2 < (p0.length:Int)) = true then ak ((0:Int) ≤ s2.2 ∧ s2.2 < (p0.length:Int)) ((if ((rdL p0 s2.2) == p1) = true then some (.inr (.inl (true,s2.2))) else some (.inl (s2.1,w64 (s2.2 + 1))))) else some (.inr (.inr (s2.1,s2.2))))
def db (p0:(List Int)) (p1:Int) : Option Bool :=
 ((aT (cW p0 p1) (false,0)).bind fun u3 => match u3 with | (.inl u8) => some u8.1 | (.inr u9) => some false)
def dJ (p0:TR) (p1:Int) (p2:Int) (p3:Int) (p4:Int) (p5:Int) (p6:TSpan) : Option Bool :=
 ((dR p0).bind fun y3 => (if ((!y3) || ((p0.fT.length:Int) == 0)) = true then ((bR).bind fun y7 => some y7) else ((c8 p0 p1 p2 p3 p4).bind fun y9 => (if (y9.2 != 0) = true then ((bR).bind fun y21 => some y21) else ak ((p0.fT.length:Int) ≠ 0) (ak ((0:Int) ≤ Int.tmod (w64 p5) (p0.fT.length:Int) ∧ Int.tmod (w64 p5) (p0.fT.length:Int) < (p0.fT.length:Int)) (((jI p0 ((rdL p0.fT (Int.tmod (w64 p5) (p0.fT.length:Int))).fID) p6).bind fun y26 => (if (y26.2 == 0) = true then ((c8 y26.1 p1 p2 p3 p4).bind fun y41 => (if (((y41.2 != 0) && (y41.2 != 5)) || ((y41.2 == 0) && (decide (y41.1.fA < y9.1.fA)))) = true then some false else ((dN p0 p1 p2 p3 p4).bind fun y55 => ak ((0:Int) ≤ Int.tmod (w64 p5) (p0.fT.length:Int) ∧ Int.tmod (w64 p5) (p0.fT.length:Int) ≤ (p0.fT.length:Int)) (ak (0 + (Int.toNat (Int.tmod (w64 p5) (p0.fT.length:Int))) ≤ 1000000000) (ak ((0:Int) ≤ w64 ((Int.tmod (w64 p5) (p0.fT.length:Int)) + 1) ∧ w64 ((Int.tmod (w64 p5) (p0.fT.length:Int)) + 1) ≤ (p0.fT.length:Int)) (ak ((0 + (Int.toNat (Int.tmod (w64 p5) (p0.fT.length:Int)))) + (p0.fT.length - Int.toNat (w64 ((Int.tmod (w64 p5) (p0.fT.length:Int)) + 1))) ≤ 1000000000) (((c8 (TR.mk p0.fL ((([]:List TT) ++ (p0.fT.take (Int.toNat (Int.tmod (w64 p5) (p0.fT.length:Int))))) ++ (p0.fT.drop (Int.toNat (w64 ((Int.tmod (w64 p5) (p0.fT.length:Int)) + 1)))))) p1 p2 p3 p4).bind fun y72 => ((bR).bind fun y84 => ((if (y84 && (y55.2 == 0)) = true then (ak ((0:Int) ≤ Int.tmod (w64 p5) (p0.fT.length:Int) ∧ Int.tmod (w64 p5) (p0.fT.length:Int) < (p0.fT.length:Int)) (((db y55.1 ((rdL p0.fT (Int.tmod (w64 p5) (p0.fT.length:Int))).fID)).bind fun y94 => some ((!(((y72.2 == 0) && (y72.1.fA == y9.1.fA)) == y94)))))) else (some (false))).bind fun b88 => some (b88 && ((y72.2 == 5) || ((y72.2 == 0) && (decide (y9.1.fA ≤ y72.1.fA))))))))))))))) else ((dN p0 p1 p2 p3 p4).bind fun y97 => ak ((0:Int) ≤ Int.tmod (w64 p5) (p0.fT.length:Int) ∧ Int.tmod (w64 p5) (p0.fT.length:Int) ≤ (p0.fT.length:Int)) (ak (0 + (Int.toNat (Int.tmod (w64 p5) (p0.fT.length:Int))) ≤ 1000000000) (ak ((0:Int) ≤ w64 ((Int.tmod (w64 p5) (p0.fT.length:Int)) + 1) ∧ w64 ((Int.tmod (w64 p5) (p0.fT.length:Int)) + 1) ≤ (p0.fT.length:Int)) (ak ((0 + (Int.toNat (Int.tmod (w64 p5) (p0.fT.length:Int)))) + (p0.fT.length - Int.toNat (w64 ((Int.tmod (w64 p5) (p0.fT.length:Int)) + 1))) ≤ 1000000000) (((c8 (TR.mk p0.fL ((([]:List TT) ++ (p0.fT.take (Int.toNat (Int.tmod (w64 p5) (p0.fT.length:Int))))) ++ (p0.fT.drop (Int.toNat (w64 ((Int.tmod (w64 p5) (p0.fT.length:Int)) + 1)))))) p1 p2 p3 p4).bind fun y114 => ((bR).bind fun y126 => ((if (y126 && (y97.2 == 0)) = true then (ak ((0:Int) ≤ Int.tmod (w64 p5) (p0.fT.length:Int) ∧ Int.tmod (w64 p5) (p0.fT.length:Int) < (p0.fT.length:Int)) (((db y97.1 ((rdL p0.fT (Int.tmod (w64 p5) (p0.fT.length:Int))).fID)).bind fun y136 => some ((!(((y114.2 == 0) && (y114.1.fA == y9.1.fA)) == y136)))))) else (some (false))).bind fun b130 => some (b130 && ((y114.2 == 5) || ((y114.2 == 0) && (decide (y9.1.fA ≤ y114.1.fA)))))))))))))))))))))
end
end Go.Proofs.YthndghnkebboaabGreat
