import Derived.Test.YthndghnkebboaaaGreatGz
set_option linter.unusedVariables false
namespace Go.Proofs.YthndghnkebboaaaGreat
noncomputable section
structure TSpan where
 fLo:Int
 fHi:Int
 deriving DecidableEq
instance:Inhabited TSpan:=⟨⟨default,default⟩⟩
def TSpan_rg (x:TSpan):Prop:=Rg_i64 x.fLo∧Rg_i64 x.fHi
structure TT where
 fID:Int
 fFrom:Int
 fTo:Int
 fLong:Int
 fToll:Int
 fK:(List TSpan)
 deriving DecidableEq
instance:Inhabited TT:=⟨⟨default,default,default,default,default,default⟩⟩
def TTrack_rg (x:TT):Prop:=Rg_i64 x.fID∧Rg_i64 x.fFrom∧Rg_i64 x.fTo∧Rg_i64 x.fLong∧Rg_i64 x.fToll∧(Rg_list TSpan_rg x.fK)
structure TR where
 fPlaces:Int
 fTracks:(List TT)
 deriving DecidableEq
instance:Inhabited TR:=⟨⟨default,default⟩⟩
def TRoads_rg (x:TR):Prop:=Rg_i64 x.fPlaces∧(Rg_list TTrack_rg x.fTracks)
structure Ts where
 f_place:Int
 f_toll:Int
 deriving DecidableEq
instance:Inhabited Ts:=⟨⟨default,default⟩⟩
def Tstop_rg (x:Ts):Prop:=Rg_i64 x.f_place∧Rg_i64 x.f_toll
structure Twait where
 f_at:Int
 f_stop:Ts
 deriving DecidableEq
instance:Inhabited Twait:=⟨⟨default,default⟩⟩
def Twait_rg (x:Twait):Prop:=Rg_i64 x.f_at∧Rg_i64 x.f_stop.f_place∧Rg_i64 x.f_stop.f_toll
structure TLeg where
 fTrack:Int
 fHour:Int
 deriving DecidableEq
instance:Inhabited TLeg:=⟨⟨default,default⟩⟩
def TLeg_rg (x:TLeg):Prop:=Rg_i64 x.fTrack∧Rg_i64 x.fHour
structure Tl where
 f_at:Int
 f_from:Ts
 f_leg:TLeg
 f_begin:Bool
 deriving DecidableEq
instance:Inhabited Tl:=⟨⟨default,default,default,default⟩⟩
def Tlabel_rg (x:Tl):Prop:=Rg_i64 x.f_at∧Rg_i64 x.f_from.f_place∧Rg_i64 x.f_from.f_toll∧Rg_i64 x.f_leg.fTrack∧Rg_i64 x.f_leg.fHour
structure TJ where
 fLegs:(List TLeg)
 fA:Int
 fToll:Int
 deriving DecidableEq
instance:Inhabited TJ:=⟨⟨default,default,default⟩⟩
def TJourney_rg (x:TJ):Prop:=(Rg_list TLeg_rg x.fLegs)∧Rg_i64 x.fA∧Rg_i64 x.fToll
structure TO where
 fID:Int
 fH:TSpan
 fD:Int
 fW:Int
 deriving DecidableEq
instance:Inhabited TO:=⟨⟨default,default,default,default⟩⟩
def TOrder_rg (x:TO):Prop:=Rg_i64 x.fID∧Rg_i64 x.fH.fLo∧Rg_i64 x.fH.fHi∧Rg_i64 x.fD∧Rg_i64 x.fW
structure TBay where
 fID:Int
 fHour:Int
 fD:Int
 deriving DecidableEq
instance:Inhabited TBay:=⟨⟨default,default,default⟩⟩
def TBay_rg (x:TBay):Prop:=Rg_i64 x.fID∧Rg_i64 x.fHour∧Rg_i64 x.fD
structure TY where
 fB:(List TBay)
 fR:(List TO)
 deriving DecidableEq
instance:Inhabited TY:=⟨⟨default,default⟩⟩
def TYard_rg (x:TY):Prop:=(Rg_list TBay_rg x.fB)∧(Rg_list TOrder_rg x.fR)
structure TPlan where
 fG:(List Int)
 fW:Int
 fPrices:(List Int)
 deriving DecidableEq
instance:Inhabited TPlan:=⟨⟨default,default,default⟩⟩
def TPlan_rg (x:TPlan):Prop:=(Rg_list Rg_i64 x.fG)∧Rg_i64 x.fW∧(Rg_list Rg_i64 x.fPrices)
structure TTimes where
 fH:(List (List Int))
 deriving DecidableEq
instance:Inhabited TTimes:=⟨⟨default⟩⟩
def TTimes_rg (x:TTimes):Prop:=(Rg_list (Rg_list Rg_i64) x.fH)
structure TPoint where
 fToll:Int
 fA:Int
 deriving DecidableEq
instance:Inhabited TPoint:=⟨⟨default,default⟩⟩
def TPoint_rg (x:TPoint):Prop:=Rg_i64 x.fToll∧Rg_i64 x.fA
structure TPointed where
 fP:TPoint
 fE:Int
 deriving DecidableEq
instance:Inhabited TPointed:=⟨⟨default,default⟩⟩
def TPointed_rg (x:TPointed):Prop:=Rg_i64 x.fP.fToll∧Rg_i64 x.fP.fA∧Rg_i64 x.fE
structure TInts where
 fL:(List Int)
 fE:Int
 deriving DecidableEq
instance:Inhabited TInts:=⟨⟨default,default⟩⟩
def TInts_rg (x:TInts):Prop:=(Rg_list Rg_i64 x.fL)∧Rg_i64 x.fE
structure TTimed where
 fT:TTimes
 fE:Int
 deriving DecidableEq
instance:Inhabited TTimed:=⟨⟨default,default⟩⟩
def TTimed_rg (x:TTimed):Prop:=(Rg_list (Rg_list Rg_i64) x.fT.fH)∧Rg_i64 x.fE
structure TFronted where
 fL:(List TPoint)
 fE:Int
 deriving DecidableEq
instance:Inhabited TFronted:=⟨⟨default,default⟩⟩
def TFronted_rg (x:TFronted):Prop:=(Rg_list TPoint_rg x.fL)∧Rg_i64 x.fE
def aW (x:Ts):Bool:=eI x.f_place&&eI x.f_toll
def f6 (p0:TR) (s3:(Bool × Int)):Option ((Bool × Int) ⊕ ((Bool × Int) ⊕ (Bool × Int))) :=
 (if decide (s3.2<(p0.fTracks.length:Int))=true then al ((0:Int)≤s3.2∧s3.2<(p0.fTracks.length:Int)) ((if decide (12<(((rdL p0.fTracks s3.2).fK.length:Nat):Int))=true then some (.inr (.inl (false,s3.2)))else some (.inl (s3.1,w64 (s3.2+1)))))else some (.inr (.inr (s3.1,s3.2))))
def fw (p0:TR):Option Bool :=
 ((aJ (f6 p0) (false,0)).bind fun u4=>match u4 with|(.inl u9)=>some u9.1|(.inr u10)=>some (((decide (p0.fPlaces≤8))||(decide (16<p0.fPlaces)))&&((decide ((p0.fTracks.length:Int)≤16))||((decide (48<(p0.fTracks.length:Int)))&&(decide ((p0.fTracks.length:Int)≤60))))))
def bq (p0:Int) (p1:Int) (p2:Int):Option Bool :=
 some ((decide (p1≤p0))&&(decide (p0≤p2)))
def dq (p0:Int):Option Bool :=
 ((bq p0 0 16384).bind fun y1=>some y1)
def fU (p0:(List TSpan)) (s2:(Bool × Int × Int)):Option ((Bool × Int × Int) ⊕ ((Bool × Int × Int) ⊕ (Bool × Int × Int))) :=
 (if decide (s2.2.2<(p0.length:Int))=true then al ((0:Int)≤s2.2.2∧s2.2.2<(p0.length:Int)) ((if(((decide ((rdL p0 s2.2.2).fLo<w64 (s2.2.1+2)))||(decide ((rdL p0 s2.2.2).fHi<(rdL p0 s2.2.2).fLo)))||(decide (16384<(rdL p0 s2.2.2).fHi)))=true then some (.inr (.inl (false,s2.2.1,s2.2.2)))else some (.inl (s2.1,(rdL p0 s2.2.2).fHi,w64 (s2.2.2+1)))))else some (.inr (.inr (s2.1,s2.2.1,s2.2.2))))
def gX (p0:(List TSpan)):Option Bool :=
 ((aJ (fU p0) (false,(-2),0)).bind fun u3=>match u3 with|(.inl u11)=>some u11.1|(.inr u12)=>some (decide ((p0.length:Int)≤4)))
def bl (p0:(List TT)) (p1:TT→Option Bool) (s2:(Int × Int)):Option ((Int × Int) ⊕ ((Int × Int) ⊕ (Int × Int))) :=
 (if decide (s2.2<(p0.length:Int))=true then al ((0:Int)≤s2.2∧s2.2<(p0.length:Int)) (((p1 (TT.mk ((rdL p0 s2.2).fID) ((rdL p0 s2.2).fFrom) ((rdL p0 s2.2).fTo) ((rdL p0 s2.2).fLong) ((rdL p0 s2.2).fToll) ((rdL p0 s2.2).fK))).bind fun y6=>(if y6=true then some (.inr (.inl (s2.2,s2.2)))else some (.inl (s2.1,w64 (s2.2+1))))))else some (.inr (.inr (s2.1,s2.2))))
def bE (p0:(List TT)) (p1:TT→Option Bool):Option Int :=
 ((aJ (bl p0 p1) (0,0)).bind fun u3=>match u3 with|(.inl u10)=>some u10.1|(.inr u11)=>some (-1))
def co (p0:(List TT)) (p1:TT→Option Bool):Option Int :=
 ((bE p0 p1).bind fun y1=>some y1)
def iz (p0:TT) (cap0:Int):Option Bool :=
 some (p0.fID==cap0)
def jg (p0:TR) (p1:Int):Option Int :=
 ((co p0.fTracks (fun x3=>iz x3 p1)).bind fun y4=>some y4)
def iC (p0:Int) (cap0:TR):Option Bool :=
 ((bq p0 0 (w64 (cap0.fPlaces-1))).bind fun y1=>some y1)
def gQ (p0:TR) (s7:(Int × Int)):Option ((Int × Int) ⊕ ((Int × Int) ⊕ (Int × Int))) :=
 (if decide (s7.2<(p0.fTracks.length:Int))=true then al ((0:Int)≤s7.2∧s7.2<(p0.fTracks.length:Int)) (((bq ((rdL p0.fTracks s7.2).fID) 1 1099511627776).bind fun y12=>((if(!y12)=true then(some (true))else((iC ((rdL p0.fTracks s7.2).fFrom) p0).bind fun y42=>some ((!y42)))).bind fun b15=>((if b15=true then(some (true))else((iC ((rdL p0.fTracks s7.2).fTo) p0).bind fun y40=>some ((!y40)))).bind fun b18=>((if(b18||(((rdL p0.fTracks s7.2).fFrom)==((rdL p0.fTracks s7.2).fTo)))=true then(some (true))else((bq ((rdL p0.fTracks s7.2).fLong) 1 72).bind fun y38=>some ((!y38)))).bind fun b22=>((if b22=true then(some (true))else((bq ((rdL p0.fTracks s7.2).fToll) 0 40).bind fun y36=>some ((!y36)))).bind fun b25=>((if b25=true then(some (true))else((gX ((rdL p0.fTracks s7.2).fK)).bind fun y34=>some ((!y34)))).bind fun b28=>(if b28=true then some (.inr (.inl (1,s7.2)))else((jg p0 ((rdL p0.fTracks s7.2).fID)).bind fun y31=>(if decide (y31<s7.2)=true then some (.inr (.inl (6,s7.2)))else some (.inl (s7.1,w64 (s7.2+1)))))))))))))else some (.inr (.inr (s7.1,s7.2))))
def jY (p0:TR):Option Int :=
 ((bq p0.fPlaces 1 16).bind fun y2=>(if(!y2)=true then some 1 else(if decide (48<(p0.fTracks.length:Int))=true then some 2 else((aJ (gQ p0) (0,0)).bind fun u8=>match u8 with|(.inl u45)=>some u45.1|(.inr u46)=>some 0))))
def eH (p0:TR) (p1:Int) (p2:Int) (p3:Int) (p4:Int):Option Int :=
 ((jY p0).bind fun y2=>(if(y2 !=0)=true then some y2 else((bq p1 0 (w64 (p0.fPlaces-1))).bind fun y5=>((if(!y5)=true then(some (true))else((bq p2 0 (w64 (p0.fPlaces-1))).bind fun y21=>some ((!y21)))).bind fun b8=>((if b8=true then(some (true))else((dq p3).bind fun y19=>some ((!y19)))).bind fun b11=>((if b11=true then(some (true))else((bq p4 0 60).bind fun y17=>some ((!y17)))).bind fun b14=>(if b14=true then some 1 else some 0)))))))
def fC (p0:TT) (s3:(Int × Int)):Option ((Int × Int) ⊕ (Int × Int)) :=
 (if decide (s3.2<(p0.fK.length:Int))=true then al ((0:Int)≤s3.2∧s3.2<(p0.fK.length:Int)) (((bq s3.1 ((rdL p0.fK s3.2).fLo) ((rdL p0.fK s3.2).fHi)).bind fun y8=>(if y8=true then some (.inl (w64 (((rdL p0.fK s3.2).fHi)+1),w64 (s3.2+1)))else some (.inl (s3.1,w64 (s3.2+1))))))else some (.inr (s3.1,s3.2)))
def gp (p0:TT) (p1:Int):Option (Int × Bool) :=
 ((aJ (fC p0) (p1,0)).bind fun u4=>((dq u4.1).bind fun y12=>some (u4.1,y12)))
def cq (p0:(List Twait)):Option Int :=
 some (p0.length:Int)
def ct (p0:(List Twait)) (p1:Int) (p2:Int):Option Bool :=
 al ((0:Int)≤p1∧p1<(p0.length:Int)) (al ((0:Int)≤p2∧p2<(p0.length:Int)) (some (decide ((rdL p0 p1).f_at<(rdL p0 p2).f_at))))
def bY (p0:(List Twait)) (p1:Int) (p2:Int):Option (List Twait) :=
 al ((0:Int)≤p2∧p2<(p0.length:Int)) (al ((0:Int)≤p1∧p1<(p0.length:Int)) (al ((0:Int)≤p1∧p1<(p0.length:Int)) (al ((0:Int)≤p2∧p2<(p0.length:Int)) (some ((p0.set (Int.toNat p1) (rdL p0 p2)).set (Int.toNat p2) (rdL p0 p1))))))
def dc (p2:Int) (s3:(Int × (List Twait))):Option ((Int × (List Twait)) ⊕ (Int × (List Twait))) :=
 (if((decide (p2≤w64 ((w64 (2*s3.1))+1)))||(decide (w64 ((w64 (2*s3.1))+1)<0)))=true then some (.inr (s3.1,s3.2))else((if decide (w64 ((w64 ((w64 (2*s3.1))+1))+1)<p2)=true then((ct s3.2 (w64 ((w64 ((w64 (2*s3.1))+1))+1)) (w64 ((w64 (2*s3.1))+1))).bind fun y23=>some (y23))else(some (false))).bind fun b8=>(if b8=true then((ct s3.2 (w64 ((w64 ((w64 (2*s3.1))+1))+1)) s3.1).bind fun y11=>(if(!y11)=true then some (.inr (s3.1,s3.2))else((bY s3.2 s3.1 (w64 ((w64 ((w64 (2*s3.1))+1))+1))).bind fun y14=>some (.inl (w64 ((w64 ((w64 (2*s3.1))+1))+1),y14)))))else((ct s3.2 (w64 ((w64 (2*s3.1))+1)) s3.1).bind fun y17=>(if(!y17)=true then some (.inr (s3.1,s3.2))else((bY s3.2 s3.1 (w64 ((w64 (2*s3.1))+1))).bind fun y20=>some (.inl (w64 ((w64 (2*s3.1))+1),y20))))))))
def db (p0:(List Twait)) (p1:Int) (p2:Int):Option (Bool × (List Twait)) :=
 ((aJ (dc p2) (p1,p0)).bind fun u4=>some (decide (p1<u4.1),u4.2))
def ie (p0:(List Twait)):Option (Twait × (List Twait)) :=
 al ((0:Int)≤w64 ((p0.length:Int)-1)∧w64 ((p0.length:Int)-1)<(p0.length:Int)) (al ((0:Int)≤w64 ((p0.length:Int)-1)∧w64 ((p0.length:Int)-1)≤(p0.length:Int)) (some ((Twait.mk ((rdL p0 (w64 ((p0.length:Int)-1))).f_at) (Ts.mk ((rdL p0 (w64 ((p0.length:Int)-1))).f_stop.f_place) ((rdL p0 (w64 ((p0.length:Int)-1))).f_stop.f_toll))),(p0.take (Int.toNat (w64 ((p0.length:Int)-1)))))))
def dm (p0:(List Twait)):Option (Twait × (List Twait)) :=
 ((cq p0).bind fun y1=>((bY p0 0 (w64 (y1-1))).bind fun y3=>((db y3 0 (w64 (y1-1))).bind fun y6=>((ie y6.2).bind fun y12=>some (y12.1,y12.2)))))
def gq (x:TR × Int):Prop:=x.1.fTracks.length≤1000
instance (x:TR × Int):Decidable (gq x):=by unfold gq;infer_instance
def oH (x:TR × Int):List TT:=x.1.fTracks.filter fun z=>z.fFrom==x.2
def kG (p0:TR) (p1:Int):Option Unit :=
 some ()
def dH (s3:(Int × (List Twait))):Option ((Int × (List Twait)) ⊕ (Int × (List Twait))) :=
 ((if((w64 (Int.tdiv (w64 (s3.1-1)) 2))==s3.1)=true then(some (true))else((ct s3.2 s3.1 (w64 (Int.tdiv (w64 (s3.1-1)) 2))).bind fun y12=>some ((!y12)))).bind fun b6=>(if b6=true then some (.inr (s3.1,s3.2))else((bY s3.2 (w64 (Int.tdiv (w64 (s3.1-1)) 2)) s3.1).bind fun y9=>some (.inl (w64 (Int.tdiv (w64 (s3.1-1)) 2),y9)))))
def dX (p0:(List Twait)) (p1:Int):Option (List Twait) :=
 ((aJ (dH) (p1,p0)).bind fun u4=>some u4.2)
def gG (p0:(List Twait)) (p1:Twait):Option (List Twait) :=
 al (p0.length+1≤1000000000) (some (p0++[p1]))
def da (p0:(List Twait)) (p1:Twait):Option (List Twait) :=
 ((gG p0 p1).bind fun y1=>((cq y1).bind fun y7=>((dX y1 (w64 (y7-1))).bind fun y9=>some y9)))
def cM (y15:(Twait × (List Twait))) (s39:((List (Ts × Tl)) × (List Twait))) (x40:TT):Option (((List (Ts × Tl)) × (List Twait)) ⊕ Unit) :=
 ((gp x40 y15.1.f_at).bind fun y43=>((if((!y43.2)||(decide (60<w64 (y15.1.f_stop.f_toll+x40.fToll))))=true then(some (true))else((dq (w64 (y43.1+x40.fLong))).bind fun y62=>some ((!y62)))).bind fun b48=>(if b48=true then some (.inl (s39.1,s39.2))else al (aW (Ts.mk x40.fTo (w64 (y15.1.f_stop.f_toll+x40.fToll)))=true) ((if((bt s39.1 (Ts.mk x40.fTo (w64 (y15.1.f_stop.f_toll+x40.fToll))))&&(decide ((aC (Tl.mk 0 (Ts.mk 0 0) (TLeg.mk 0 0) false) s39.1 (Ts.mk x40.fTo (w64 (y15.1.f_stop.f_toll+x40.fToll)))).f_at≤w64 (y43.1+x40.fLong))))=true then some (.inl (s39.1,s39.2))else al (aW (Ts.mk x40.fTo (w64 (y15.1.f_stop.f_toll+x40.fToll)))=true∧List.length s39.1<1000000000) (((da s39.2 (Twait.mk (w64 (y43.1+x40.fLong)) (Ts.mk x40.fTo (w64 (y15.1.f_stop.f_toll+x40.fToll))))).bind fun y56=>some (.inl ((((Ts.mk x40.fTo (w64 (y15.1.f_stop.f_toll+x40.fToll))),(Tl.mk (w64 (y43.1+x40.fLong)) y15.1.f_stop (TLeg.mk x40.fID y43.1) false))::s39.1),y56)))))))))
def eK (p0:TR) (s10:((List Twait) × (List (Ts × Tl)))):Option (((List Twait) × (List (Ts × Tl))) ⊕ ((List Twait) × (List (Ts × Tl)))) :=
 ((cq s10.1).bind fun y12=>(if decide (0<y12)=true then((dm s10.1).bind fun y15=>al (aW y15.1.f_stop=true) ((if decide ((aC (Tl.mk 0 (Ts.mk 0 0) (TLeg.mk 0 0) false) s10.2 y15.1.f_stop).f_at<y15.1.f_at)=true then some (.inl (y15.2,s10.2))else((kG p0 y15.1.f_stop.f_place).bind fun y24=>(al (gq (p0,y15.1.f_stop.f_place)) ((iL (cM y15) (oH (p0,y15.1.f_stop.f_place)) (s10.2,y15.2)).bind fun u41=>match u41 with|.inl u68=>some (.inl (u68.2,u68.1))|.inr _=>none))))))else some (.inr (s10.1,s10.2))))
def fe (p0:TR) (p1:Int) (p2:Int):Option (List (Ts × Tl)) :=
 al (aW (Ts.mk p1 0)=true∧List.length ([]:(List (Ts × Tl)))<1000000000) (((aJ (eK p0) ([(Twait.mk p2 (Ts.mk p1 0))],(((Ts.mk p1 0),(Tl.mk p2 (Ts.mk 0 0) (TLeg.mk 0 0) true))::([]:(List (Ts × Tl)))))).bind fun u11=>some u11.2))
def dh (p0:(List (Ts × Tl))) (p1:Int) (s5:(Int × Int × (List Int))):Option ((Int × Int × (List Int)) ⊕ (Int × Int × (List Int))) :=
 (if decide (s5.2.1<61)=true then al (aW (Ts.mk p1 s5.2.1)=true) ((if((bt p0 (Ts.mk p1 s5.2.1))&&((decide (s5.1<0))||(decide ((aC (Tl.mk 0 (Ts.mk 0 0) (TLeg.mk 0 0) false) p0 (Ts.mk p1 s5.2.1)).f_at<s5.1))))=true then al ((0:Int)≤s5.2.1∧s5.2.1<61) (some (.inl ((aC (Tl.mk 0 (Ts.mk 0 0) (TLeg.mk 0 0) false) p0 (Ts.mk p1 s5.2.1)).f_at,w64 (s5.2.1+1),(s5.2.2.set (Int.toNat s5.2.1) ((aC (Tl.mk 0 (Ts.mk 0 0) (TLeg.mk 0 0) false) p0 (Ts.mk p1 s5.2.1)).f_at)))))else al ((0:Int)≤s5.2.1∧s5.2.1<61) (some (.inl (s5.1,w64 (s5.2.1+1),(s5.2.2.set (Int.toNat s5.2.1) s5.1))))))else some (.inr (s5.1,s5.2.1,s5.2.2)))
def fx (p0:(List (Ts × Tl))) (p1:Int):Option (List Int) :=
 ((aJ (dh p0 p1) ((-1),0,(List.replicate 61 0))).bind fun u6=>some u6.2.2)
def bL (p0:(List TLeg)) (s3:(Int × Int × (List TLeg))):Option ((Int × Int × (List TLeg)) ⊕ (Int × Int × (List TLeg))) :=
 (if decide (s3.1<s3.2.1)=true then al ((0:Int)≤s3.2.1∧s3.2.1<(p0.length:Int)) (al ((0:Int)≤s3.1∧s3.1<(p0.length:Int)) (al ((0:Int)≤s3.1∧s3.1<(p0.length:Int)) (al ((0:Int)≤s3.2.1∧s3.2.1<(p0.length:Int)) (some (.inl (w64 (s3.1+1),w64 (s3.2.1-1),((s3.2.2.set (Int.toNat s3.1) (rdL s3.2.2 s3.2.1)).set (Int.toNat s3.2.1) (rdL s3.2.2 s3.1))))))))else some (.inr (s3.1,s3.2.1,s3.2.2)))
def cj (p0:(List TLeg)):Option (List TLeg) :=
 ((aJ (bL p0) (0,w64 ((p0.length:Int)-1),p0)).bind fun u4=>some u4.2.2)
def c8 (p0:(List (Ts × Tl))) (s9:(Tl × (List TLeg))):Option ((Tl × (List TLeg)) ⊕ (Tl × (List TLeg))) :=
 (if(!s9.1.f_begin)=true then al (s9.2.length+1≤1000000000) (al (aW s9.1.f_from=true) (some (.inl ((Tl.mk ((aC (Tl.mk 0 (Ts.mk 0 0) (TLeg.mk 0 0) false) p0 s9.1.f_from).f_at) (Ts.mk ((aC (Tl.mk 0 (Ts.mk 0 0) (TLeg.mk 0 0) false) p0 s9.1.f_from).f_from.f_place) ((aC (Tl.mk 0 (Ts.mk 0 0) (TLeg.mk 0 0) false) p0 s9.1.f_from).f_from.f_toll)) (TLeg.mk ((aC (Tl.mk 0 (Ts.mk 0 0) (TLeg.mk 0 0) false) p0 s9.1.f_from).f_leg.fTrack) ((aC (Tl.mk 0 (Ts.mk 0 0) (TLeg.mk 0 0) false) p0 s9.1.f_from).f_leg.fHour)) ((aC (Tl.mk 0 (Ts.mk 0 0) (TLeg.mk 0 0) false) p0 s9.1.f_from).f_begin)),(s9.2++[s9.1.f_leg])))))else some (.inr (s9.1,s9.2)))
def iy (p0:(List (Ts × Tl))) (p1:Ts):Option TJ :=
 al (aW p1=true) (al (aW p1=true) (((aJ (c8 p0) ((Tl.mk ((aC (Tl.mk 0 (Ts.mk 0 0) (TLeg.mk 0 0) false) p0 p1).f_at) (Ts.mk ((aC (Tl.mk 0 (Ts.mk 0 0) (TLeg.mk 0 0) false) p0 p1).f_from.f_place) ((aC (Tl.mk 0 (Ts.mk 0 0) (TLeg.mk 0 0) false) p0 p1).f_from.f_toll)) (TLeg.mk ((aC (Tl.mk 0 (Ts.mk 0 0) (TLeg.mk 0 0) false) p0 p1).f_leg.fTrack) ((aC (Tl.mk 0 (Ts.mk 0 0) (TLeg.mk 0 0) false) p0 p1).f_leg.fHour)) ((aC (Tl.mk 0 (Ts.mk 0 0) (TLeg.mk 0 0) false) p0 p1).f_begin)),([]:List TLeg))).bind fun u10=>((cj u10.2).bind fun y19=>some (TJ.mk y19 ((aC (Tl.mk 0 (Ts.mk 0 0) (TLeg.mk 0 0) false) p0 p1).f_at) p1.f_toll)))))
def gJ (p2:Int) (y2:(List (Ts × Tl))) (y5:(List Int)) (s11:(Int × Int × (List TJ))):Option ((Int × Int × (List TJ)) ⊕ (Int × Int × (List TJ))) :=
 (if decide (s11.2.1<61)=true then al ((0:Int)≤s11.2.1∧s11.2.1<61) ((if((rdL y5 s11.2.1) !=s11.1)=true then((iy y2 (Ts.mk p2 s11.2.1)).bind fun y16=>al (s11.2.2.length+1≤1000000000) (some (.inl ((rdL y5 s11.2.1),w64 (s11.2.1+1),(s11.2.2++[y16])))))else some (.inl ((rdL y5 s11.2.1),w64 (s11.2.1+1),s11.2.2))))else some (.inr (s11.1,s11.2.1,s11.2.2)))
def hY (p0:TR) (p1:Int) (p2:Int) (p3:Int):Option (List TJ) :=
 ((fe p0 p1 p3).bind fun y2=>((fx y2 p2).bind fun y5=>((aJ (gJ p2 y2 y5) ((-1),0,([]:List TJ))).bind fun u12=>some u12.2.2)))
def nV (p4:Int) (y4:(List TJ)) (s18:(Bool × Int × (List TLeg) × Int × Int)):Option ((Bool × Int × (List TLeg) × Int × Int) ⊕ (Bool × Int × (List TLeg) × Int × Int)) :=
 (if decide (s18.2.1<(y4.length:Int))=true then al ((0:Int)≤s18.2.1∧s18.2.1<(y4.length:Int)) ((if decide ((rdL y4 s18.2.1).fToll≤p4)=true then some (.inl (true,w64 (s18.2.1+1),(rdL y4 s18.2.1).fLegs,(rdL y4 s18.2.1).fA,(rdL y4 s18.2.1).fToll))else some (.inl (s18.1,w64 (s18.2.1+1),s18.2.2.1,s18.2.2.2.1,s18.2.2.2.2))))else some (.inr (s18.1,s18.2.1,s18.2.2.1,s18.2.2.2.1,s18.2.2.2.2)))
def lj (p0:TR) (p1:Int) (p2:Int) (p3:Int) (p4:Int):Option (TJ × Bool) :=
 ((hY p0 p1 p2 p3).bind fun y4=>((aJ (nV p4 y4) (false,0,([]:(List TLeg)),0,0)).bind fun u19=>some ((TJ.mk u19.2.2.1 u19.2.2.2.1 u19.2.2.2.2),u19.1)))
def kW (p0:TR) (p1:Int) (p2:Int) (p3:Int) (p4:Int):Option (TJ × Int) :=
 ((eH p0 p1 p2 p3 p4).bind fun y3=>(if(y3 !=0)=true then some ((TJ.mk ([]:(List TLeg)) 0 0),y3)else((lj p0 p1 p2 p3 p4).bind fun y6=>(if(!y6.2)=true then some ((TJ.mk ([]:(List TLeg)) 0 0),5)else some (y6.1,0)))))
def kn (p0:Int) (cap0:TR) (cap1:Int) (cap2:Int) (cap3:Int) (cap4:Int):Option Bool :=
 ((lj cap0 cap1 cap2 p0 cap3).bind fun y1=>some (y1.2&&(decide (y1.1.fA≤cap4))))
def l8 (p0:TR) (p1:Int) (p2:Int) (p3:Int) (p4:Int) (s10:(Int × Int)):Option ((Int × Int) ⊕ (Int × Int)) :=
 (if decide (s10.1≤s10.2)=true then((kn (w64 (Int.tdiv (w64 (s10.1+s10.2)) 2)) p0 p1 p2 p4 p3).bind fun y13=>(if y13=true then some (.inl (w64 ((w64 (Int.tdiv (w64 (s10.1+s10.2)) 2))+1),s10.2))else some (.inl (s10.1,w64 ((w64 (Int.tdiv (w64 (s10.1+s10.2)) 2))-1)))))else some (.inr (s10.1,s10.2)))
def mq (p0:TR) (p1:Int) (p2:Int) (p3:Int) (p4:Int):Option (Int × Int) :=
 ((eH p0 p1 p2 p3 p4).bind fun y6=>(if(y6 !=0)=true then some (0,y6)else((aJ (l8 p0 p1 p2 p3 p4) (0,p3)).bind fun u11=>(if decide (u11.2<0)=true then some (0,5)else some (u11.2,0)))))
def dA (p0:(List TT)) (p1:Int) (p2:Int):Option (List TT) :=
 al ((0:Int)≤p1∧p1≤p2∧p2≤(p0.length:Int)∧(p0.length:Int)≤(p0.length:Int)) ((if(p1==p2)=true then some p0 else al ((0:Int)≤p1∧p1≤(p0.length:Int)) (al ((0:Int)≤p2∧p2≤(p0.length:Int)) (al (p1≤p2) (some (p0.take (Int.toNat p1)++p0.drop (Int.toNat p2)))))))
def bP (p0:(List TT)):Option (List TT) :=
 al (0+p0.length≤1000000000) (some (([]:List TT)++p0))
def eh (p0:Int):Option Bool :=
 some (p0 !=p0)
def io (p0:Int) (p1:Int):Option Bool :=
 ((eh p0).bind fun y1=>((if y1=true then((eh p1).bind fun y7=>some ((!y7)))else(some (false))).bind fun b4=>some (b4||(decide (p0<p1)))))
def ba (p0:(List Int)) (p1:Int) (s8:(Int × (List Int))):Option ((Int × (List Int)) ⊕ (Int × (List Int))) :=
 ((if decide (p1<s8.1)=true then(al ((0:Int)≤s8.1∧s8.1<(p0.length:Int)) (al ((0:Int)≤w64 (s8.1-1)∧w64 (s8.1-1)<(p0.length:Int)) (((io (rdL s8.2 s8.1) (rdL s8.2 (w64 (s8.1-1)))).bind fun y21=>some (y21)))))else(some (false))).bind fun b11=>(if b11=true then al ((0:Int)≤w64 (s8.1-1)∧w64 (s8.1-1)<(p0.length:Int)) (al ((0:Int)≤s8.1∧s8.1<(p0.length:Int)) (al ((0:Int)≤s8.1∧s8.1<(p0.length:Int)) (al ((0:Int)≤w64 (s8.1-1)∧w64 (s8.1-1)<(p0.length:Int)) (some (.inl (w64 (s8.1-1),((s8.2.set (Int.toNat s8.1) (rdL s8.2 (w64 (s8.1-1)))).set (Int.toNat (w64 (s8.1-1))) (rdL s8.2 s8.1))))))))else some (.inr (s8.1,s8.2))))
def aI (p0:(List Int)) (p1:Int) (p2:Int) (s3:(Int × (List Int))):Option ((Int × (List Int)) ⊕ (Int × (List Int))) :=
 (if decide (s3.1<p2)=true then((aJ (ba p0 p1) (s3.1,s3.2)).bind fun u9=>some (.inl (w64 (s3.1+1),u9.2)))else some (.inr (s3.1,s3.2)))
def bv (p0:(List Int)) (p1:Int) (p2:Int):Option (List Int) :=
 ((aJ (aI p0 p1 p2) (w64 (p1+1),p0)).bind fun u4=>some u4.2)
def lenv (x:Int):Int:=if x<1 then 0 else if x<2 then 1 else if x<4 then 2 else if x<8 then 3 else 4
def gO (p0:Int):Option Int:=al (0≤p0∧p0<16) (some (w64 (0+lenv p0)))
def jd (p0:Int):Option Int :=
 ((gO p0).bind fun y1=>some y1)
def bR (s3:(Int × Int × Int × Bool × Bool × (List Int))):Option ((Int × Int × Int × Bool × Bool × (List Int)) ⊕ (Int × Int × Int × Bool × Bool × (List Int))) :=
 al (decide (w64 (s3.2.1-s3.1)≤12)=true) (((bv s3.2.2.2.2.2 s3.1 s3.2.1).bind fun y6=>some (.inr (s3.1,s3.2.1,s3.2.2.1,s3.2.2.2.1,s3.2.2.2.2.1,y6))))
def cr (p0:(List Int)) (p1:Int) (p2:Int) (p3:Int):Option (List Int) :=
 ((aJ (bR) (p1,p2,p3,true,true,p0)).bind fun u4=>some u4.2.2.2.2.2)
def cX (p0:(List Int)):Option (List Int):=al (p0.length≤12) (some (pv p0))
def lZ (p0:TR) (p1:Int) (p2:Int) (p3:Int) (p4:Int) (y2:(TJ × Int)) (s16:(Int × (List Int))):Option ((Int × (List Int)) ⊕ (Int × (List Int))) :=
 (if decide (s16.1<(p0.fTracks.length:Int))=true then al ((0:Int)≤s16.1∧s16.1<(p0.fTracks.length:Int)) (((bP p0.fTracks).bind fun y22=>((dA y22 s16.1 (w64 (s16.1+1))).bind fun y31=>((lj (TR.mk p0.fPlaces y31) p1 p2 p3 p4).bind fun y40=>(if((!y40.2)||(y40.1.fA !=y2.1.fA))=true then al (s16.2.length+1≤1000000000) (some (.inl (w64 (s16.1+1),(s16.2++[(rdL p0.fTracks s16.1).fID]))))else some (.inl (w64 (s16.1+1),s16.2)))))))else some (.inr (s16.1,s16.2)))
def kC (p0:TR) (p1:Int) (p2:Int) (p3:Int) (p4:Int):Option ((List Int) × Int) :=
 ((kW p0 p1 p2 p3 p4).bind fun y2=>(if(y2.2 !=0)=true then some ([],y2.2)else((aJ (lZ p0 p1 p2 p3 p4 y2) (0,([]:List Int))).bind fun u17=>((cX u17.2).bind fun y58=>some (y58,0)))))
def j8 (p0:(List Int)) (p1:(List Int)) (s3:(Bool × Int)):Option ((Bool × Int) ⊕ ((Bool × Int) ⊕ (Bool × Int))) :=
 (if decide (s3.2<(p0.length:Int))=true then al ((0:Int)≤s3.2∧s3.2<(p0.length:Int)) (al ((0:Int)≤s3.2∧s3.2<(p1.length:Int)) ((if((rdL p0 s3.2) !=(rdL p1 s3.2))=true then some (.inr (.inl (false,s3.2)))else some (.inl (s3.1,w64 (s3.2+1))))))else some (.inr (.inr (s3.1,s3.2))))
def dC (p0:(List Int)) (p1:(List Int)):Option Bool :=
 (if((p0.length:Int) !=(p1.length:Int))=true then some false else((aJ (j8 p0 p1) (false,0)).bind fun u4=>match u4 with|(.inl u10)=>some u10.1|(.inr u11)=>some true))
def d7 (p0:(List TO)) (p1:TO→Option Bool) (s2:(Int × Int)):Option ((Int × Int) ⊕ ((Int × Int) ⊕ (Int × Int))) :=
 (if decide (s2.2<(p0.length:Int))=true then al ((0:Int)≤s2.2∧s2.2<(p0.length:Int)) (((p1 (TO.mk ((rdL p0 s2.2).fID) (TSpan.mk ((rdL p0 s2.2).fH.fLo) ((rdL p0 s2.2).fH.fHi)) ((rdL p0 s2.2).fD) ((rdL p0 s2.2).fW))).bind fun y6=>(if y6=true then some (.inr (.inl (s2.2,s2.2)))else some (.inl (s2.1,w64 (s2.2+1))))))else some (.inr (.inr (s2.1,s2.2))))
def cG (p0:(List TO)) (p1:TO→Option Bool):Option Int :=
 ((aJ (d7 p0 p1) (0,0)).bind fun u3=>match u3 with|(.inl u10)=>some u10.1|(.inr u11)=>some (-1))
def dB (p0:(List TO)) (p1:TO→Option Bool):Option Int :=
 ((cG p0 p1).bind fun y1=>some y1)
def jK (p0:TO) (cap0:Int):Option Bool :=
 some (p0.fID==cap0)
def j5 (p0:TY) (p1:Int):Option Int :=
 ((dB p0.fR (fun x3=>jK x3 p1)).bind fun y4=>some y4)
def fc (p0:(List TBay)) (p1:TBay→Option Bool) (s2:(Int × Int)):Option ((Int × Int) ⊕ ((Int × Int) ⊕ (Int × Int))) :=
 (if decide (s2.2<(p0.length:Int))=true then al ((0:Int)≤s2.2∧s2.2<(p0.length:Int)) (((p1 (TBay.mk ((rdL p0 s2.2).fID) ((rdL p0 s2.2).fHour) ((rdL p0 s2.2).fD))).bind fun y6=>(if y6=true then some (.inr (.inl (s2.2,s2.2)))else some (.inl (s2.1,w64 (s2.2+1))))))else some (.inr (.inr (s2.1,s2.2))))
def d6 (p0:(List TBay)) (p1:TBay→Option Bool):Option Int :=
 ((aJ (fc p0 p1) (0,0)).bind fun u3=>match u3 with|(.inl u10)=>some u10.1|(.inr u11)=>some (-1))
def em (p0:(List TBay)) (p1:TBay→Option Bool):Option Int :=
 ((d6 p0 p1).bind fun y1=>some y1)
def lP (p0:TBay) (cap0:Int):Option Bool :=
 some (p0.fID==cap0)
def og (p0:TY) (p1:Int):Option Int :=
 ((em p0.fB (fun x3=>lP x3 p1)).bind fun y4=>some y4)
def jW (p0:TY) (s5:(Int × Int)):Option ((Int × Int) ⊕ ((Int × Int) ⊕ (Int × Int))) :=
 (if decide (s5.2<(p0.fB.length:Int))=true then al ((0:Int)≤s5.2∧s5.2<(p0.fB.length:Int)) (((bq ((rdL p0.fB s5.2).fID) 1 1099511627776).bind fun y10=>((if(!y10)=true then(some (true))else((dq ((rdL p0.fB s5.2).fHour)).bind fun y24=>some ((!y24)))).bind fun b13=>((if b13=true then(some (true))else((bq ((rdL p0.fB s5.2).fD) 0 9).bind fun y22=>some ((!y22)))).bind fun b16=>(if b16=true then some (.inr (.inl (1,s5.2)))else((og p0 ((rdL p0.fB s5.2).fID)).bind fun y19=>(if decide (y19<s5.2)=true then some (.inr (.inl (6,s5.2)))else some (.inl (s5.1,w64 (s5.2+1))))))))))else some (.inr (.inr (s5.1,s5.2))))
def j6 (p0:TY) (s30:(Int × Int)):Option ((Int × Int) ⊕ ((Int × Int) ⊕ (Int × Int))) :=
 (if decide (s30.2<(p0.fR.length:Int))=true then al ((0:Int)≤s30.2∧s30.2<(p0.fR.length:Int)) (((bq ((rdL p0.fR s30.2).fID) 1 1099511627776).bind fun y35=>((if(!y35)=true then(some (true))else((dq ((rdL p0.fR s30.2).fH.fLo)).bind fun y60=>some ((!y60)))).bind fun b38=>((if b38=true then(some (true))else((dq ((rdL p0.fR s30.2).fH.fHi)).bind fun y58=>some ((!y58)))).bind fun b41=>((if(b41||(decide ((rdL p0.fR s30.2).fH.fHi<(rdL p0.fR s30.2).fH.fLo)))=true then(some (true))else((bq ((rdL p0.fR s30.2).fD) 0 9).bind fun y56=>some ((!y56)))).bind fun b45=>((if b45=true then(some (true))else((bq ((rdL p0.fR s30.2).fW) 1 1000).bind fun y54=>some ((!y54)))).bind fun b48=>(if b48=true then some (.inr (.inl (1,s30.2)))else((j5 p0 ((rdL p0.fR s30.2).fID)).bind fun y51=>(if decide (y51<s30.2)=true then some (.inr (.inl (6,s30.2)))else some (.inl (s30.1,w64 (s30.2+1))))))))))))else some (.inr (.inr (s30.1,s30.2))))
def dx (p0:TY):Option Int :=
 (if((decide (24<(p0.fB.length:Int)))||(decide (24<(p0.fR.length:Int))))=true then some 2 else((aJ (jW p0) (0,0)).bind fun u6=>match u6 with|(.inl u27)=>some u27.1|(.inr u28)=>((aJ (j6 p0) (u28.1,0)).bind fun u31=>match u31 with|(.inl u63)=>some u63.1|(.inr u64)=>some 0)))
def jV (p0:TO) (p1:TBay):Option Bool :=
 ((bq p1.fHour p0.fH.fLo p0.fH.fHi).bind fun y3=>some (y3&&(decide (p0.fD≤p1.fD))))
def cd (p0:Int) (cap0:TY) (rec_:Int→TY→(List (Int × Bool))→(List (Int × Int))→Option (Bool × (List (Int × Bool)) × (List (Int × Int)))) (s3:(Bool × Int × (List (Int × Bool)) × (List (Int × Int)))):Option ((Bool × Int × (List (Int × Bool)) × (List (Int × Int))) ⊕ ((Bool × Int × (List (Int × Bool)) × (List (Int × Int))) ⊕ (Bool × Int × (List (Int × Bool)) × (List (Int × Int))))) :=
 (if decide (s3.2.1<(cap0.fB.length:Int))=true then al ((0:Int)≤s3.2.1∧s3.2.1<(cap0.fB.length:Int)) (al (eI s3.2.1=true) (((if aC false s3.2.2.1 s3.2.1=true then(some (true))else(al ((0:Int)≤p0∧p0<(cap0.fR.length:Int)) (((jV (TO.mk ((rdL cap0.fR p0).fID) (TSpan.mk ((rdL cap0.fR p0).fH.fLo) ((rdL cap0.fR p0).fH.fHi)) ((rdL cap0.fR p0).fD) ((rdL cap0.fR p0).fW)) (TBay.mk ((rdL cap0.fB s3.2.1).fID) ((rdL cap0.fB s3.2.1).fHour) ((rdL cap0.fB s3.2.1).fD))).bind fun y22=>some ((!y22)))))).bind fun b10=>(if b10=true then some (.inl (s3.1,w64 (s3.2.1+1),s3.2.2.1,s3.2.2.2))else al (eI s3.2.1=true∧List.length s3.2.2.1<1000000000) (al (eI s3.2.1=true) ((if(!(bt s3.2.2.2 s3.2.1))=true then(al (eI s3.2.1=true∧List.length s3.2.2.2<1000000000) (some (.inr (.inl (true,s3.2.1,((s3.2.1,true)::s3.2.2.1),((s3.2.1,p0)::s3.2.2.2))))))else((rec_ (aC 0 s3.2.2.2 s3.2.1) cap0 ((s3.2.1,true)::s3.2.2.1) s3.2.2.2).bind fun y17=>(if y17.1=true then al (eI s3.2.1=true∧List.length y17.2.2<1000000000) (some (.inr (.inl (true,s3.2.1,y17.2.1,((s3.2.1,p0)::y17.2.2)))))else some (.inl (s3.1,w64 (s3.2.1+1),y17.2.1,y17.2.2)))))))))))else some (.inr (.inr (s3.1,s3.2.1,s3.2.2.1,s3.2.2.2))))
def er (rec_:Int→TY→(List (Int × Bool))→(List (Int × Int))→Option (Bool × (List (Int × Bool)) × (List (Int × Int)))) (p0:Int) (cap0:TY) (cap1:(List (Int × Bool))) (cap2:(List (Int × Int))):Option (Bool × (List (Int × Bool)) × (List (Int × Int))) :=
 ((aJ (cd p0 cap0 rec_) (false,0,cap1,cap2)).bind fun u4=>match u4 with|(.inl u25)=>some (u25.1,u25.2.2.1,u25.2.2.2)|(.inr u26)=>some (false,u26.2.2.1,u26.2.2.2))
def bC:Nat→Int→TY→(List (Int × Bool))→(List (Int × Int))→Option (Bool × (List (Int × Bool)) × (List (Int × Int)))
 | 0=>fun _ _ _ _=>none
 | fuel+1=>er (bC fuel)
def gB (p0:(List (Int × Int))) (p1:TY) (p2:Int):Option (Bool × (List (Int × Int))) :=
 ((bC (p1.fB.length+2) p2 p1 [] p0).bind fun y6=>some (y6.1,y6.2.2))
def df (p0:(List Int)) (p1:Int) (p3:Int→Int→Option Int) (s8:(Int × (List Int))):Option ((Int × (List Int)) ⊕ (Int × (List Int))) :=
 ((if decide (p1<s8.1)=true then(al ((0:Int)≤s8.1∧s8.1<(p0.length:Int)) (al ((0:Int)≤w64 (s8.1-1)∧w64 (s8.1-1)<(p0.length:Int)) (((p3 (rdL s8.2 s8.1) (rdL s8.2 (w64 (s8.1-1)))).bind fun y21=>some (decide (y21<0))))))else(some (false))).bind fun b11=>(if b11=true then al ((0:Int)≤w64 (s8.1-1)∧w64 (s8.1-1)<(p0.length:Int)) (al ((0:Int)≤s8.1∧s8.1<(p0.length:Int)) (al ((0:Int)≤s8.1∧s8.1<(p0.length:Int)) (al ((0:Int)≤w64 (s8.1-1)∧w64 (s8.1-1)<(p0.length:Int)) (some (.inl (w64 (s8.1-1),((s8.2.set (Int.toNat s8.1) (rdL s8.2 (w64 (s8.1-1)))).set (Int.toNat (w64 (s8.1-1))) (rdL s8.2 s8.1))))))))else some (.inr (s8.1,s8.2))))
def de (p0:(List Int)) (p1:Int) (p2:Int) (p3:Int→Int→Option Int) (s3:(Int × (List Int))):Option ((Int × (List Int)) ⊕ (Int × (List Int))) :=
 (if decide (s3.1<p2)=true then((aJ (df p0 p1 p3) (s3.1,s3.2)).bind fun u9=>some (.inl (w64 (s3.1+1),u9.2)))else some (.inr (s3.1,s3.2)))
def cm (p0:(List Int)) (p1:Int) (p2:Int) (p3:Int→Int→Option Int):Option (List Int) :=
 ((aJ (de p0 p1 p2 p3) (w64 (p1+1),p0)).bind fun u4=>some u4.2)
def fk (p1:Int) (s2:(Int × Int)):Option ((Int × Int) ⊕ (Int × Int)) :=
 al (decide (s2.2≤p1)=false) (some (.inr (s2.1,s2.2)))
def fh (p1:Int) (s10:(Int × Int × Int)):Option ((Int × Int × Int) ⊕ (Int × Int × Int)) :=
 al (decide (s10.1<p1)=false) (some (.inr (s10.1,s10.2.1,s10.2.2)))
def dZ (p0:(List Int)) (p1:Int) (p2:Int→Int→Option Int):Option (List Int) :=
 ((aJ (fk p1) (0,20)).bind fun u3=>((cm p0 u3.1 p1 p2).bind fun y6=>((aJ (fh p1) (20,u3.1,u3.2)).bind fun u11=>some y6)))
def cD (p0:(List Int)) (p1:Int→Int→Option Int):Option (List Int) :=
 ((dZ p0 (p0.length:Int) p1).bind fun y1=>some y1)
def jj (p0:Int) (p1:Int):Option Int :=
 ((eh p0).bind fun y1=>((eh p1).bind fun y3=>(if y1=true then(if y3=true then some 0 else some (-1))else(if y3=true then some 1 else(if decide (p0<p1)=true then some (-1)else(if decide (p1<p0)=true then some 1 else some 0))))))
def jN (p0:Int) (p1:Int) (cap0:TY):Option Int :=
 al ((0:Int)≤p1∧p1<(cap0.fR.length:Int)) (al ((0:Int)≤p0∧p0<(cap0.fR.length:Int)) (((jj ((rdL cap0.fR p1).fW) ((rdL cap0.fR p0).fW)).bind fun y3=>some y3)))
def mI (p0:TY) (s4:(Int × (List Int))):Option ((Int × (List Int)) ⊕ (Int × (List Int))) :=
 (if decide (s4.1<(p0.fR.length:Int))=true then al (s4.2.length+1≤1000000000) (some (.inl (w64 (s4.1+1),(s4.2++[s4.1]))))else some (.inr (s4.1,s4.2)))
def m8 (p0:TY) (u5:(Int × (List Int))) (y14:(List Int)) (s20:(Int × (List (Int × Int)))):Option ((Int × (List (Int × Int))) ⊕ (Int × (List (Int × Int)))) :=
 (if decide (s20.1<(u5.2.length:Int))=true then al ((0:Int)≤s20.1∧s20.1<(u5.2.length:Int)) (((gB s20.2 p0 (rdL y14 s20.1)).bind fun y24=>some (.inl (w64 (s20.1+1),y24.2))))else some (.inr (s20.1,s20.2)))
def lM (p0:TY):Option (List (Int × Int)) :=
 ((aJ (mI p0) (0,([]:List Int))).bind fun u5=>((cD u5.2 (fun x12 x13=>jN x12 x13 p0)).bind fun y14=>((aJ (m8 p0 u5 y14) (0,[])).bind fun u21=>some u21.2)))
def f8 (p0:(List (Int × Int))) (p1:TY):Option Int :=
 al ((iI p0).all (fun y5=>eI y5&&decide (((0:Int)≤aC 0 p0 y5∧aC 0 p0 y5<(p1.fR.length:Int))))=true) (some ((iI p0).foldl (fun a y5=>w64 (a+((rdL p1.fR (aC 0 p0 y5)).fW))) 0))
def gm (p0:TY):Option Int :=
 ((lM p0).bind fun y2=>((f8 y2 p0).bind fun y5=>some y5))
def kw (p0__:TO) (p1:Int→Option Int) (cap0:Int):Option Bool :=
 ((p1 0).bind fun y2=>some (decide (y2<cap0)))
def k9 (p0:TO) (p1:Int→Option Int) (cap0:Int):Option Bool :=
 ((p1 (w64 (p0.fW+1))).bind fun y2=>some (y2==cap0))
def dN (p0:(List TO)):Option (List TO) :=
 al (0+p0.length≤1000000000) (some (([]:List TO)++p0))
def gt (p0:Int) (cap0:TY) (cap1:Int):Option Int :=
 ((dN cap0.fR).bind fun y2=>al ((0:Int)≤cap1∧cap1<(y2.length:Int)) (((gm (TY.mk cap0.fB (y2.set (Int.toNat cap1) (TO.mk ((rdL y2 cap1).fID) (TSpan.mk ((rdL y2 cap1).fH.fLo) ((rdL y2 cap1).fH.fHi)) ((rdL y2 cap1).fD) p0)))).bind fun y10=>some y10)))
def iB (p0:TY) (cap0:Int) (s4:(Int × (List Int))):Option ((Int × (List Int)) ⊕ (Int × (List Int))) :=
 (if decide (s4.1<(p0.fR.length:Int))=true then al ((0:Int)≤s4.1∧s4.1<(p0.fR.length:Int)) (((kw (TO.mk ((rdL p0.fR s4.1).fID) (TSpan.mk ((rdL p0.fR s4.1).fH.fLo) ((rdL p0.fR s4.1).fH.fHi)) ((rdL p0.fR s4.1).fD) ((rdL p0.fR s4.1).fW)) (fun x10=>gt x10 p0 s4.1) cap0).bind fun y11=>(if y11=true then al (s4.2.length+1≤1000000000) (some (.inl (w64 (s4.1+1),(s4.2++[(rdL p0.fR s4.1).fID]))))else some (.inl (w64 (s4.1+1),s4.2)))))else some (.inr (s4.1,s4.2)))
def gT (p0:TY) (cap0:Int):Option (List Int) :=
 ((aJ (iB p0 cap0) (0,([]:List Int))).bind fun u5=>((cX u5.2).bind fun y19=>some y19))
def iP (p0:TY) (cap0:Int) (s4:(Int × (List Int))):Option ((Int × (List Int)) ⊕ (Int × (List Int))) :=
 (if decide (s4.1<(p0.fR.length:Int))=true then al ((0:Int)≤s4.1∧s4.1<(p0.fR.length:Int)) (((k9 (TO.mk ((rdL p0.fR s4.1).fID) (TSpan.mk ((rdL p0.fR s4.1).fH.fLo) ((rdL p0.fR s4.1).fH.fHi)) ((rdL p0.fR s4.1).fD) ((rdL p0.fR s4.1).fW)) (fun x10=>gt x10 p0 s4.1) cap0).bind fun y11=>(if y11=true then al (s4.2.length+1≤1000000000) (some (.inl (w64 (s4.1+1),(s4.2++[(rdL p0.fR s4.1).fID]))))else some (.inl (w64 (s4.1+1),s4.2)))))else some (.inr (s4.1,s4.2)))
def g9 (p0:TY) (cap0:Int):Option (List Int) :=
 ((aJ (iP p0 cap0) (0,([]:List Int))).bind fun u5=>((cX u5.2).bind fun y19=>some y19))
def mh (p0:TY):Option ((List Int) × Int) :=
 ((dx p0).bind fun y2=>(if(y2 !=0)=true then some ([],y2)else((gm p0).bind fun y5=>((gT p0 y5).bind fun y8=>some (y8,0)))))
def ny (p0:TY):Option ((List Int) × Int) :=
 ((dx p0).bind fun y2=>(if(y2 !=0)=true then some ([],y2)else((gm p0).bind fun y5=>((g9 p0 y5).bind fun y8=>some (y8,0)))))
def ns (p0:Int) (cap0:(List (Int × Int))) (cap1:TY):Option (Bool × (List (Int × Int))) :=
 ((j5 cap1 p0).bind fun y1=>((gB cap0 cap1 y1).bind fun y3=>some ((!y3.1),y3.2)))
def dE (p0:(List Int)) (cap1:TY) (s3:(Int × Int × (List (Int × Int)))):Option ((Int × Int × (List (Int × Int))) ⊕ ((Int × Int × (List (Int × Int))) ⊕ (Int × Int × (List (Int × Int))))) :=
 (if decide (s3.2.1<(p0.length:Int))=true then al ((0:Int)≤s3.2.1∧s3.2.1<(p0.length:Int)) (((ns (rdL p0 s3.2.1) s3.2.2 cap1).bind fun y7=>(if y7.1=true then some (.inr (.inl (s3.2.1,s3.2.1,y7.2)))else some (.inl (s3.1,w64 (s3.2.1+1),y7.2)))))else some (.inr (.inr (s3.1,s3.2.1,s3.2.2))))
def cC (p0:(List Int)) (cap0:(List (Int × Int))) (cap1:TY):Option (Int × (List (Int × Int))) :=
 ((aJ (dE p0 cap1) (0,0,cap0)).bind fun u4=>match u4 with|(.inl u11)=>some (u11.1,u11.2.2)|(.inr u12)=>some ((-1),u12.2.2))
def bw (p0:(List Int)) (p1:Int→Option Bool) (s2:(Int × Int)):Option ((Int × Int) ⊕ ((Int × Int) ⊕ (Int × Int))) :=
 (if decide (s2.2<(p0.length:Int))=true then al ((0:Int)≤s2.2∧s2.2<(p0.length:Int)) (((p1 (rdL p0 s2.2)).bind fun y6=>(if y6=true then some (.inr (.inl (s2.2,s2.2)))else some (.inl (s2.1,w64 (s2.2+1))))))else some (.inr (.inr (s2.1,s2.2))))
def bG (p0:(List Int)) (p1:Int→Option Bool):Option Int :=
 ((aJ (bw p0 p1) (0,0)).bind fun u3=>match u3 with|(.inl u10)=>some u10.1|(.inr u11)=>some (-1))
def gj (p0:(List Int)) (cap0:(List (Int × Int))) (cap1:TY):Option (Int × (List (Int × Int))) :=
 ((cC p0 cap0 cap1).bind fun y1=>some (y1.1,y1.2))
def ik (p0:(List Int)) (p1:Int→Option Bool):Option Int :=
 ((bG p0 p1).bind fun y1=>some y1)
def oE (p0:TY) (p1:(List Int)):Option Bool :=
 ((gj p1 [] p0).bind fun y4=>some (decide (y4.1<0)))
def cE (p0:(List Int)):Option (List Int) :=
 al (0+p0.length≤1000000000) (some (([]:List Int)++p0))
def eS (p0:(List Int)) (p1:Int→Option Bool) (s6:(Int × Int × (List Int))):Option ((Int × Int × (List Int)) ⊕ (Int × Int × (List Int))) :=
 (if decide (s6.2.1<(p0.length:Int))=true then al ((0:Int)≤s6.2.1∧s6.2.1<(p0.length:Int)) (((p1 (rdL s6.2.2 s6.2.1)).bind fun y10=>(if(!y10)=true then al ((0:Int)≤s6.1∧s6.1<(p0.length:Int)) (some (.inl (w64 (s6.1+1),w64 (s6.2.1+1),(s6.2.2.set (Int.toNat s6.1) (rdL s6.2.2 s6.2.1)))))else some (.inl (s6.1,w64 (s6.2.1+1),s6.2.2)))))else some (.inr (s6.1,s6.2.1,s6.2.2)))
def du (p0:(List Int)) (p1:Int→Option Bool):Option (List Int) :=
 ((bG p0 p1).bind fun y1=>(if(y1==(-1))=true then some p0 else((aJ (eS p0 p1) (y1,w64 (y1+1),p0)).bind fun u7=>al ((0:Int)≤u7.1∧u7.1≤(p0.length:Int)) (al ((0:Int)≤u7.1∧u7.1≤(p0.length:Int)) (some (u7.2.2.take (Int.toNat u7.1)))))))
def ij (p0:Int) (cap0:Int):Option Bool :=
 some (p0==cap0)
def lk (p0:TY) (p1:(List Int)) (s6:(Int × Int)):Option ((Int × Int) ⊕ ((Int × Int) ⊕ (Int × Int))) :=
 (if decide (s6.2<(p1.length:Int))=true then al ((0:Int)≤s6.2∧s6.2<(p1.length:Int)) (((j5 p0 (rdL p1 s6.2)).bind fun y10=>((if decide (y10<0)=true then(some (true))else((if decide (0<s6.2)=true then(al ((0:Int)≤w64 (s6.2-1)∧w64 (s6.2-1)<(p1.length:Int)) (some (decide ((rdL p1 s6.2)≤(rdL p1 (w64 (s6.2-1)))))))else(some (false))).bind fun b17=>some (b17))).bind fun b13=>(if b13=true then some (.inr (.inl (1,s6.2)))else some (.inl (s6.1,w64 (s6.2+1)))))))else some (.inr (.inr (s6.1,s6.2))))
def li (p0:TY) (p1:(List Int)) (s34:(Int × (List Int))):Option ((Int × (List Int)) ⊕ (Int × (List Int))) :=
 (if decide (s34.1<(p1.length:Int))=true then al ((0:Int)≤s34.1∧s34.1<(p1.length:Int)) (((cE s34.2).bind fun y39=>((du y39 (fun x45=>ij x45 (rdL p1 s34.1))).bind fun y46=>((oE p0 y46).bind fun y50=>(if(!y50)=true then some (.inl (w64 (s34.1+1),y46))else some (.inl (w64 (s34.1+1),s34.2)))))))else some (.inr (s34.1,s34.2)))
def lw (p0:TY) (p1:(List Int)):Option ((List Int) × Int) :=
 ((dx p0).bind fun y2=>(if(y2 !=0)=true then some ([],y2)else((aJ (lk p0 p1) (0,0)).bind fun u7=>match u7 with|(.inl u21)=>some (([]:List Int),u21.1)|(.inr u22)=>((oE p0 p1).bind fun y23=>(if y23=true then some ([],5)else((cE p1).bind fun y26=>((aJ (li p0 p1) (0,y26)).bind fun u35=>some (u35.2,0))))))))
def fj (p0:(List TBay)) (p1:Int) (p2:Int):Option (List TBay) :=
 al ((0:Int)≤p1∧p1≤p2∧p2≤(p0.length:Int)∧(p0.length:Int)≤(p0.length:Int)) ((if(p1==p2)=true then some p0 else al ((0:Int)≤p1∧p1≤(p0.length:Int)) (al ((0:Int)≤p2∧p2≤(p0.length:Int)) (al (p1≤p2) (some (p0.take (Int.toNat p1)++p0.drop (Int.toNat p2)))))))
def fM (p0:(List TBay)):Option (List TBay) :=
 al (0+p0.length≤1000000000) (some (([]:List TBay)++p0))
def jP (p0:TY) (p1:Int):Option TY :=
 ((fM p0.fB).bind fun y4=>((fj y4 p1 (w64 (p1+1))).bind fun y10=>some (TY.mk y10 p0.fR)))
def pj (p0:TY) (p1:Int):Option (Int × Int) :=
 ((dx p0).bind fun y2=>(if(y2 !=0)=true then some (0,y2)else((og p0 p1).bind fun y5=>(if decide (y5<0)=true then some (0,5)else((gm p0).bind fun y8=>((jP p0 y5).bind fun y10=>((gm (TY.mk y10.fB p0.fR)).bind fun y20=>some (w64 (y8-y20),0))))))))
def nJ (p0:TY) (y6:Int) (s27:(Int × (List Int))):Option ((Int × (List Int)) ⊕ (Int × (List Int))) :=
 (if decide (s27.1<(p0.fB.length:Int))=true then((jP p0 s27.1).bind fun y31=>((gm (TY.mk y31.fB p0.fR)).bind fun y41=>al (s27.2.length+1≤1000000000) (some (.inl (w64 (s27.1+1),(s27.2++[w64 (y6-y41)]))))))else some (.inr (s27.1,s27.2)))
def oI (p0:TY) (p1:(List (Int × Int))):Option TPlan :=
 al ((0:Int)≤(p0.fR.length:Int)∧(p0.fR.length:Int)*8≤281474976710656) (((f8 p1 p0).bind fun y6=>al ((iI p1).all (fun y12=>eI y12&&decide (((0:Int)≤y12∧y12<(p0.fB.length:Int))∧((0:Int)≤aC 0 p1 y12∧aC 0 p1 y12<((Int.toNat (p0.fR.length:Int):Nat):Int))))=true) (al (((iI p1).map (fun y12=>Int.toNat (aC 0 p1 y12))).Nodup) (((aJ (nJ p0 y6) (0,([]:List Int))).bind fun u28=>some (TPlan.mk ((iI p1).foldl (fun a y12=>a.set (Int.toNat (aC 0 p1 y12)) ((rdL p0.fB y12).fID)) (List.replicate (Int.toNat (p0.fR.length:Int)) 0)) y6 u28.2))))))
def nk (p0:TY):Option (TPlan × Int) :=
 ((dx p0).bind fun y3=>(if(y3 !=0)=true then some ((TPlan.mk ([]:(List Int)) 0 ([]:(List Int))),y3)else((lM p0).bind fun y6=>((oI p0 y6).bind fun y9=>some (y9,0)))))
def bb (p0:Int) (p1:Int) (p2:Int):Option Bool :=
 some ((decide (p1≤p0))&&(decide (p0≤p2)))
def dk (p0:Int):Option Bool :=
 ((bb p0 0 16384).bind fun y1=>some y1)
def jG (p0:TY) (s5:(Int × Int)) (s20:(Int × Int)):Option ((Int × Int) ⊕ ((Int × Int) ⊕ (Int × Int))) :=
 (if decide (s20.2<s5.2)=true then al ((0:Int)≤s20.2∧s20.2<(p0.fB.length:Int)) ((if(((rdL p0.fB s20.2).fID)==((rdL p0.fB s5.2).fID))=true then some (.inr (.inl (6,s20.2)))else some (.inl (s20.1,w64 (s20.2+1)))))else some (.inr (.inr (s20.1,s20.2))))
def jH (p0:TY) (s5:(Int × Int)):Option ((Int × Int) ⊕ ((Int × Int) ⊕ (Int × Int))) :=
 (if decide (s5.2<(p0.fB.length:Int))=true then al ((0:Int)≤s5.2∧s5.2<(p0.fB.length:Int)) (((bb ((rdL p0.fB s5.2).fID) 1 1099511627776).bind fun y10=>((dk ((rdL p0.fB s5.2).fHour)).bind fun y12=>((bb ((rdL p0.fB s5.2).fD) 0 9).bind fun y14=>(if(((!y10)||(!y12))||(!y14))=true then some (.inr (.inl (1,s5.2)))else((aJ (jG p0 s5) (s5.1,0)).bind fun u21=>match u21 with|(.inl u26)=>some (.inr (.inl (u26.1,s5.2)))|(.inr u27)=>some (.inl (u27.1,w64 (s5.2+1)))))))))else some (.inr (.inr (s5.1,s5.2))))
def jO (p0:TY) (s32:(Int × Int)) (s54:(Int × Int)):Option ((Int × Int) ⊕ ((Int × Int) ⊕ (Int × Int))) :=
 (if decide (s54.2<s32.2)=true then al ((0:Int)≤s54.2∧s54.2<(p0.fR.length:Int)) ((if(((rdL p0.fR s54.2).fID)==((rdL p0.fR s32.2).fID))=true then some (.inr (.inl (6,s54.2)))else some (.inl (s54.1,w64 (s54.2+1)))))else some (.inr (.inr (s54.1,s54.2))))
def jJ (p0:TY) (s32:(Int × Int)):Option ((Int × Int) ⊕ ((Int × Int) ⊕ (Int × Int))) :=
 (if decide (s32.2<(p0.fR.length:Int))=true then al ((0:Int)≤s32.2∧s32.2<(p0.fR.length:Int)) (((bb ((rdL p0.fR s32.2).fID) 1 1099511627776).bind fun y37=>((dk ((rdL p0.fR s32.2).fH.fLo)).bind fun y39=>((dk ((rdL p0.fR s32.2).fH.fHi)).bind fun y41=>((bb ((rdL p0.fR s32.2).fD) 0 9).bind fun y43=>((bb ((rdL p0.fR s32.2).fW) 1 1000).bind fun y45=>(if((((((!y37)||(!y39))||(!y41))||(decide ((rdL p0.fR s32.2).fH.fHi<(rdL p0.fR s32.2).fH.fLo)))||(!y43))||(!y45))=true then some (.inr (.inl (1,s32.2)))else((aJ (jO p0 s32) (s32.1,0)).bind fun u55=>match u55 with|(.inl u60)=>some (.inr (.inl (u60.1,s32.2)))|(.inr u61)=>some (.inl (u61.1,w64 (s32.2+1)))))))))))else some (.inr (.inr (s32.1,s32.2))))
def jD (p0:TY):Option Int :=
 (if((decide (24<(p0.fB.length:Int)))||(decide (24<(p0.fR.length:Int))))=true then some 2 else((aJ (jH p0) (0,0)).bind fun u6=>match u6 with|(.inl u29)=>some u29.1|(.inr u30)=>((aJ (jJ p0) (u30.1,0)).bind fun u33=>match u33 with|(.inl u63)=>some u63.1|(.inr u64)=>some 0)))
def nM (p0:TY) (p1:Int) (s3:(Int × Int)):Option ((Int × Int) ⊕ ((Int × Int) ⊕ (Int × Int))) :=
 (if decide (s3.2<(p0.fB.length:Int))=true then al ((0:Int)≤s3.2∧s3.2<(p0.fB.length:Int)) ((if(((rdL p0.fB s3.2).fID)==p1)=true then some (.inr (.inl (s3.2,s3.2)))else some (.inl (s3.1,w64 (s3.2+1)))))else some (.inr (.inr (s3.1,s3.2))))
def pB (p0:TY) (p1:Int):Option Int :=
 ((aJ (nM p0 p1) (0,0)).bind fun u4=>match u4 with|(.inl u9)=>some u9.1|(.inr u10)=>some (-1))
def jA (p0:TY) (p1:Int) (p2:Int):Option Bool :=
 al ((0:Int)≤p2∧p2<(p0.fB.length:Int)) (al ((0:Int)≤p1∧p1<(p0.fR.length:Int)) (al ((0:Int)≤p1∧p1<(p0.fR.length:Int)) (((bb ((rdL p0.fB p2).fHour) ((rdL p0.fR p1).fH.fLo) ((rdL p0.fR p1).fH.fHi)).bind fun y5=>((if y5=true then(al ((0:Int)≤p2∧p2<(p0.fB.length:Int)) (al ((0:Int)≤p1∧p1<(p0.fR.length:Int)) (some (decide ((rdL p0.fR p1).fD≤(rdL p0.fB p2).fD)))))else(some (false))).bind fun b8=>some b8)))))
def mK (p1:(List Int)) (s4:(Bool × Int × Int)) (s17:(Bool × Int)):Option ((Bool × Int) ⊕ ((Bool × Int) ⊕ (Bool × Int))) :=
 (if decide (s17.2<s4.2.2)=true then al ((0:Int)≤s17.2∧s17.2<(p1.length:Int)) (al ((0:Int)≤s4.2.2∧s4.2.2<(p1.length:Int)) ((if((rdL p1 s17.2)==(rdL p1 s4.2.2))=true then some (.inr (.inl (false,s17.2)))else some (.inl (s17.1,w64 (s17.2+1))))))else some (.inr (.inr (s17.1,s17.2))))
def mZ (p0:TY) (p1:(List Int)) (s4:(Bool × Int × Int)):Option ((Bool × Int × Int) ⊕ ((Bool × Int × Int) ⊕ (Bool × Int × Int))) :=
 (if decide (s4.2.2<(p1.length:Int))=true then al ((0:Int)≤s4.2.2∧s4.2.2<(p1.length:Int)) ((if((rdL p1 s4.2.2)==0)=true then some (.inl (s4.1,s4.2.1,w64 (s4.2.2+1)))else al ((0:Int)≤s4.2.2∧s4.2.2<(p1.length:Int)) (((pB p0 (rdL p1 s4.2.2)).bind fun y10=>(if decide (y10<0)=true then some (.inr (.inl (false,s4.2.1,s4.2.2)))else((jA p0 s4.2.2 y10).bind fun y13=>(if(!y13)=true then some (.inr (.inl (false,s4.2.1,s4.2.2)))else((aJ (mK p1 s4) (s4.1,0)).bind fun u18=>match u18 with|(.inl u24)=>some (.inr (.inl (u24.1,s4.2.1,s4.2.2)))|(.inr u25)=>al ((0:Int)≤s4.2.2∧s4.2.2<(p0.fR.length:Int)) (some (.inl (u25.1,w64 (s4.2.1+((rdL p0.fR s4.2.2).fW)),w64 (s4.2.2+1))))))))))))else some (.inr (.inr (s4.1,s4.2.1,s4.2.2))))
def nj (p0:TY) (p1:(List Int)) (p2:Int):Option Bool :=
 (if((p1.length:Int) !=(p0.fR.length:Int))=true then some false else((aJ (mZ p0 p1) (false,0,0)).bind fun u5=>match u5 with|(.inl u28)=>some u28.1|(.inr u29)=>some (u29.2.1==p2)))
def kY (p1:(List Int)) (s4:(Int × Int × Int)):Option ((Int × Int × Int) ⊕ ((Int × Int × Int) ⊕ (Int × Int × Int))) :=
 (if decide (s4.2.2<(p1.length:Int))=true then al ((0:Int)≤s4.2.2∧s4.2.2<(p1.length:Int)) (((bb (rdL p1 s4.2.2) 0 1000).bind fun y8=>(if(!y8)=true then some (.inr (.inl ((-1),s4.2.1,s4.2.2)))else al ((0:Int)≤s4.2.2∧s4.2.2<(p1.length:Int)) (some (.inl (s4.1,w64 (s4.2.1+(rdL p1 s4.2.2)),w64 (s4.2.2+1)))))))else some (.inr (.inr (s4.1,s4.2.1,s4.2.2))))
def lv (p0:TY) (p1:(List Int)) (s16:(Int × Int)) (s21:(Int × Int)):Option ((Int × Int) ⊕ (Int × Int)) :=
 (if decide (s21.2<(p1.length:Int))=true then((jA p0 s16.2 s21.2).bind fun y24=>(if y24=true then al ((0:Int)≤s21.2∧s21.2<(p1.length:Int)) (some (.inl (min s21.1 (rdL p1 s21.2),w64 (s21.2+1))))else some (.inl (s21.1,w64 (s21.2+1)))))else some (.inr (s21.1,s21.2)))
def lz (p0:TY) (p1:(List Int)) (s16:(Int × Int)) (s30:(Bool × Int)):Option ((Bool × Int) ⊕ (Bool × Int)) :=
 (if decide (s30.2<(p1.length:Int))=true then((jA p0 s16.2 s30.2).bind fun y33=>some (.inl ((s30.1||y33),w64 (s30.2+1))))else some (.inr (s30.1,s30.2)))
def ll (p0:TY) (p1:(List Int)) (s16:(Int × Int)):Option ((Int × Int) ⊕ (Int × Int)) :=
 (if decide (s16.2<(p0.fR.length:Int))=true then al ((0:Int)≤s16.2∧s16.2<(p0.fR.length:Int)) (((aJ (lv p0 p1 s16) ((rdL p0.fR s16.2).fW,0)).bind fun u22=>((aJ (lz p0 p1 s16) (false,0)).bind fun u31=>(if u31.1=true then al ((0:Int)≤s16.2∧s16.2<(p0.fR.length:Int)) (some (.inl (w64 ((w64 (s16.1+((rdL p0.fR s16.2).fW)))-u22.1),w64 (s16.2+1))))else some (.inl (s16.1,w64 (s16.2+1)))))))else some (.inr (s16.1,s16.2)))
def lg (p0:TY) (p1:(List Int)):Option Int :=
 (if((p1.length:Int) !=(p0.fB.length:Int))=true then some (-1)else((aJ (kY p1) (0,0,0)).bind fun u5=>match u5 with|(.inl u13)=>some u13.1|(.inr u14)=>((aJ (ll p0 p1) (u14.2.1,0)).bind fun u17=>some u17.1)))
def jo (p0:TY) (p1:TPlan):Option Int :=
 ((jD p0).bind fun y3=>(if(y3 !=0)=true then some y3 else((nj p0 p1.fG p1.fW).bind fun y6=>((if(!y6)=true then(some (true))else((lg p0 p1.fPrices).bind fun y12=>some ((y12 !=p1.fW)))).bind fun b9=>(if b9=true then some 8 else some 0)))))
def kN (p0:TR) (y6:(List (Ts × Tl))) (s12:(Int × (List (List Int)))):Option ((Int × (List (List Int))) ⊕ (Int × (List (List Int)))) :=
 (if decide (s12.1<p0.fPlaces)=true then((fx y6 s12.1).bind fun y15=>((cE y15).bind fun y20=>al (s12.2.length+1≤1000000000) (some (.inl (w64 (s12.1+1),(s12.2++[y20]))))))else some (.inr (s12.1,s12.2)))
def iV (p0:TR) (p1:Int) (p2:Int):Option (TTimes × Int) :=
 ((eH p0 p1 p1 p2 0).bind fun y3=>(if(y3 !=0)=true then some ((TTimes.mk []),y3)else((fe p0 p1 p2).bind fun y6=>((aJ (kN p0 y6) (0,([]:List (List Int)))).bind fun u13=>some ((TTimes.mk u13.2),0)))))
def gr (p0:TR) (p1:Int) (p2:Int) (p3:Int):Option ((List TJ) × Int) :=
 ((eH p0 p1 p2 p3 0).bind fun y2=>(if(y2 !=0)=true then some ([],y2)else((hY p0 p1 p2 p3).bind fun y5=>some (y5,0))))
def jh  : Option TR :=
 some (TR.mk 3 [(TT.mk 1 0 1 5 0 ([]:(List TSpan))),(TT.mk 2 1 2 5 0 [(TSpan.mk 8 20)]),(TT.mk 3 0 2 9 6 ([]:(List TSpan))),(TT.mk 4 1 2 8 2 ([]:(List TSpan)))])
def jC  : Option TY :=
 some (TY.mk [(TBay.mk 1 10 3),(TBay.mk 2 11 5)] [(TO.mk 7 (TSpan.mk 10 11) 3 5),(TO.mk 8 (TSpan.mk 11 12) 4 9),(TO.mk 9 (TSpan.mk 10 11) 4 7)])
def nr (p0:TT) (p1:Int):Option (Int × Int) :=
 ((gX p0.fK).bind fun y2=>((if(!y2)=true then(some (true))else((dq p1).bind fun y11=>some ((!y11)))).bind fun b5=>(if b5=true then some (0,1)else((gp p0 p1).bind fun y8=>(if(!y8.2)=true then some (0,5)else some (y8.1,0))))))
def bB  : Option Bool :=
 ((jh).bind fun y1=>((jC).bind fun y14=>al ((0:Int)≤1∧1<(y1.fTracks.length:Int)) (((nr (TT.mk ((rdL y1.fTracks 1).fID) ((rdL y1.fTracks 1).fFrom) ((rdL y1.fTracks 1).fTo) ((rdL y1.fTracks 1).fLong) ((rdL y1.fTracks 1).fToll) ((rdL y1.fTracks 1).fK)) 8).bind fun y26=>((iV y1 0 4).bind fun y28=>((gr y1 0 2 4).bind fun y41=>((kW y1 0 2 4 5).bind fun y53=>((mq y1 0 2 26 0).bind fun y64=>((kC y1 0 2 4 0).bind fun y66=>((kC y1 0 2 4 60).bind fun y72=>((if(((((((((y26.2 !=0)||(y28.2 !=0))||(y41.2 !=0))||(y53.2 !=0))||(y64.2 !=0))||(y66.2 !=0))||(y72.2 !=0))||(y26.1 !=21))||((y28.1.fH.length:Int) !=3))=true then(some (true))else(al ((0:Int)≤2∧2<(y28.1.fH.length:Int)) (some (((((rdL y28.1.fH 2).length:Nat):Int) !=61))))).bind fun b87=>(if(b87||((y41.1.length:Int) !=3))=true then some false else al ((0:Int)≤2∧2<(y28.1.fH.length:Int)) (al ((0:Int)≤0∧0<(((rdL y28.1.fH 2).length:Nat):Int)) (((if((rdL (rdL y28.1.fH 2) 0)==26)=true then(al ((0:Int)≤2∧2<(y28.1.fH.length:Int)) (al ((0:Int)≤2∧2<(((rdL y28.1.fH 2).length:Nat):Int)) (some (((rdL (rdL y28.1.fH 2) 2)==17)))))else(some (false))).bind fun b94=>((if b94=true then(al ((0:Int)≤2∧2<(y28.1.fH.length:Int)) (al ((0:Int)≤6∧6<(((rdL y28.1.fH 2).length:Nat):Int)) (some (((rdL (rdL y28.1.fH 2) 6)==13)))))else(some (false))).bind fun b97=>((if b97=true then(al ((0:Int)≤0∧0<(y41.1.length:Int)) (some ((((rdL y41.1 0).fToll)==0))))else(some (false))).bind fun b100=>((if b100=true then(al ((0:Int)≤1∧1<(y41.1.length:Int)) (some ((((rdL y41.1 1).fA)==17))))else(some (false))).bind fun b103=>((if b103=true then(al ((0:Int)≤2∧2<(y41.1.length:Int)) (some ((((rdL y41.1 2).fToll)==6))))else(some (false))).bind fun b106=>((if((b106&&(y53.1.fA==17))&&(y64.1==16))=true then((dC y66.1 [1,2]).bind fun y190=>some (y190))else(some (false))).bind fun b111=>((if b111=true then((dC y72.1 [3]).bind fun y187=>some (y187))else(some (false))).bind fun b114=>((nk y14).bind fun y116=>((mh y14).bind fun y135=>((ny y14).bind fun y141=>((lw y14 [7,8,9]).bind fun y148=>((pj y14 1).bind fun y154=>((if((y116.2==0)&&(y116.1.fW==14))=true then((jo y14 y116.1).bind fun y184=>some ((y184==0)))else(some (false))).bind fun b158=>((if(b158&&(y135.2==0))=true then((dC y135.1 [7,8]).bind fun y182=>some (y182))else(some (false))).bind fun b162=>((if(b162&&(y141.2==0))=true then((dC y141.1 [9]).bind fun y179=>some (y179))else(some (false))).bind fun b166=>((if((b114&&b166)&&(y148.2==0))=true then((dC y148.1 [8,9]).bind fun y176=>some (y176))else(some (false))).bind fun b171=>some ((b171&&(y154.2==0))&&(y154.1==5))))))))))))))))))))))))))))))))
def dL (p0:(List TSpan)) (s3:(Bool × Int)):Option ((Bool × Int) ⊕ ((Bool × Int) ⊕ (Bool × Int))) :=
 (if decide (s3.2<(p0.length:Int))=true then al ((0:Int)≤s3.2∧s3.2<(p0.length:Int)) (((dk ((rdL p0 s3.2).fLo)).bind fun y7=>al ((0:Int)≤s3.2∧s3.2<(p0.length:Int)) (((dk ((rdL p0 s3.2).fHi)).bind fun y10=>((if((!y7)||(!y10))=true then(some (true))else(al ((0:Int)≤s3.2∧s3.2<(p0.length:Int)) (al ((0:Int)≤s3.2∧s3.2<(p0.length:Int)) (some (decide ((rdL p0 s3.2).fHi<(rdL p0 s3.2).fLo)))))).bind fun b14=>((if b14=true then(some (true))else((if decide (0<s3.2)=true then(al ((0:Int)≤s3.2∧s3.2<(p0.length:Int)) (al ((0:Int)≤max 0 (w64 (s3.2-1))∧max 0 (w64 (s3.2-1))<(p0.length:Int)) (some (decide ((rdL p0 s3.2).fLo<w64 (((rdL p0 (max 0 (w64 (s3.2-1)))).fHi)+2))))))else(some (false))).bind fun b21=>some (b21))).bind fun b17=>(if b17=true then some (.inr (.inl (false,s3.2)))else some (.inl (s3.1,w64 (s3.2+1))))))))))else some (.inr (.inr (s3.1,s3.2))))
def iv (p0:(List TSpan)):Option Bool :=
 (if decide (4<(p0.length:Int))=true then some false else((aJ (dL p0) (false,0)).bind fun u4=>match u4 with|(.inl u28)=>some u28.1|(.inr u29)=>some true))
def jv (p0:TR) (p1:TT):Option Bool :=
 ((bb p1.fID 1 1099511627776).bind fun y3=>((bb p1.fFrom 0 (w64 (p0.fPlaces-1))).bind fun y5=>((bb p1.fTo 0 (w64 (p0.fPlaces-1))).bind fun y7=>((bb p1.fLong 1 72).bind fun y9=>((bb p1.fToll 0 40).bind fun y11=>((iv p1.fK).bind fun y13=>some ((((((y3&&y5)&&y7)&&(p1.fFrom !=p1.fTo))&&y9)&&y11)&&y13)))))))
def fV (p0:TR) (s6:(Int × Int)) (s14:(Int × Int)):Option ((Int × Int) ⊕ ((Int × Int) ⊕ (Int × Int))) :=
 (if decide (s14.2<s6.2)=true then al ((0:Int)≤s14.2∧s14.2<(p0.fTracks.length:Int)) (al ((0:Int)≤s6.2∧s6.2<(p0.fTracks.length:Int)) ((if(((rdL p0.fTracks s14.2).fID)==((rdL p0.fTracks s6.2).fID))=true then some (.inr (.inl (6,s14.2)))else some (.inl (s14.1,w64 (s14.2+1))))))else some (.inr (.inr (s14.1,s14.2))))
def fQ (p0:TR) (s6:(Int × Int)):Option ((Int × Int) ⊕ ((Int × Int) ⊕ (Int × Int))) :=
 (if decide (s6.2<(p0.fTracks.length:Int))=true then al ((0:Int)≤s6.2∧s6.2<(p0.fTracks.length:Int)) (((jv p0 (TT.mk ((rdL p0.fTracks s6.2).fID) ((rdL p0.fTracks s6.2).fFrom) ((rdL p0.fTracks s6.2).fTo) ((rdL p0.fTracks s6.2).fLong) ((rdL p0.fTracks s6.2).fToll) ((rdL p0.fTracks s6.2).fK))).bind fun y10=>(if(!y10)=true then some (.inr (.inl (1,s6.2)))else((aJ (fV p0 s6) (s6.1,0)).bind fun u15=>match u15 with|(.inl u21)=>some (.inr (.inl (u21.1,s6.2)))|(.inr u22)=>some (.inl (u22.1,w64 (s6.2+1)))))))else some (.inr (.inr (s6.1,s6.2))))
def jr (p0:TR):Option Int :=
 (if((decide (p0.fPlaces<1))||(decide (16<p0.fPlaces)))=true then some 1 else(if decide (48<(p0.fTracks.length:Int))=true then some 2 else((aJ (fQ p0) (0,0)).bind fun u7=>match u7 with|(.inl u24)=>some u24.1|(.inr u25)=>some 0)))
def g7 (p0:TR) (p1:Int) (p2:Int) (p3:Int) (p4:Int):Option Int :=
 ((jr p0).bind fun y2=>(if(y2 !=0)=true then some y2 else((bb p1 0 (w64 (p0.fPlaces-1))).bind fun y5=>((bb p2 0 (w64 (p0.fPlaces-1))).bind fun y7=>((dk p3).bind fun y9=>((bb p4 0 60).bind fun y11=>(if((((!y5)||(!y7))||(!y9))||(!y11))=true then some 1 else some 0)))))))
def d9 (p0:(List Int)) (s3:(Int × (List TPoint))):Option ((Int × (List TPoint)) ⊕ (Int × (List TPoint))) :=
 (if decide (s3.1<(p0.length:Int))=true then al ((0:Int)≤s3.1∧s3.1<(p0.length:Int)) (((if decide (0≤(rdL p0 s3.1))=true then((if(s3.1==0)=true then(some (true))else(al ((0:Int)≤max 0 (w64 (s3.1-1))∧max 0 (w64 (s3.1-1))<(p0.length:Int)) (al ((0:Int)≤s3.1∧s3.1<(p0.length:Int)) (some (((rdL p0 (max 0 (w64 (s3.1-1)))) !=(rdL p0 s3.1))))))).bind fun b17=>some (b17))else(some (false))).bind fun b8=>(if b8=true then al ((0:Int)≤s3.1∧s3.1<(p0.length:Int)) (al (s3.2.length+1≤1000000000) (some (.inl (w64 (s3.1+1),(s3.2++[(TPoint.mk s3.1 (rdL p0 s3.1))])))))else some (.inl (w64 (s3.1+1),s3.2)))))else some (.inr (s3.1,s3.2)))
def fi (p0:(List Int)):Option (List TPoint) :=
 ((aJ (d9 p0) (0,([]:List TPoint))).bind fun u4=>some u4.2)
def eF (p0:TT) (s3:(Int × Int)):Option ((Int × Int) ⊕ (Int × Int)) :=
 (if decide (s3.2<(p0.fK.length:Int))=true then al ((0:Int)≤s3.2∧s3.2<(p0.fK.length:Int)) (al ((0:Int)≤s3.2∧s3.2<(p0.fK.length:Int)) (((bb s3.1 ((rdL p0.fK s3.2).fLo) ((rdL p0.fK s3.2).fHi)).bind fun y8=>(if y8=true then al ((0:Int)≤s3.2∧s3.2<(p0.fK.length:Int)) (some (.inl (w64 (((rdL p0.fK s3.2).fHi)+1),w64 (s3.2+1))))else some (.inl (s3.1,w64 (s3.2+1)))))))else some (.inr (s3.1,s3.2)))
def jw (p0:TT) (p1:Int):Option Int :=
 ((aJ (eF p0) (p1,0)).bind fun u4=>((dk u4.1).bind fun y13=>(if(!y13)=true then some (-1)else some u4.1)))
def fq (p0:TT) (p1:Int):Option Int :=
 (if decide (p1<0)=true then some (-1)else((jw p0 p1).bind fun y3=>(if((decide (y3<0))||(decide (16384<w64 (y3+p0.fLong))))=true then some (-1)else some (w64 (y3+p0.fLong)))))
def gn (p0:Int) (p1:Int):Option Bool :=
 some ((decide (0≤p0))&&((decide (p1<0))||(decide (p0<p1))))
def dU (p0:TR) (p1:Int) (p2:Int) (s6:(Int × (List (List Int)))) (s14:(Int × (List (List Int)))):Option ((Int × (List (List Int))) ⊕ (Int × (List (List Int)))) :=
 (if decide (s14.1≤60)=true then al ((0:Int)≤s6.1∧s6.1<((Int.toNat p0.fPlaces:Nat):Int)) (al ((0:Int)≤s14.1∧s14.1<(((rdL s14.2 s6.1).length:Nat):Int)) ((if(s6.1==p1)=true then al ((0:Int)≤s6.1∧s6.1<((Int.toNat p0.fPlaces:Nat):Int)) (al ((0:Int)≤s14.1∧s14.1<(((rdL (s14.2.set (Int.toNat s6.1) ((rdL s14.2 s6.1).set (Int.toNat s14.1) (-1))) s6.1).length:Nat):Int)) (some (.inl (w64 (s14.1+1),((s14.2.set (Int.toNat s6.1) ((rdL s14.2 s6.1).set (Int.toNat s14.1) (-1))).set (Int.toNat s6.1) ((rdL (s14.2.set (Int.toNat s6.1) ((rdL s14.2 s6.1).set (Int.toNat s14.1) (-1))) s6.1).set (Int.toNat s14.1) p2))))))else some (.inl (w64 (s14.1+1),(s14.2.set (Int.toNat s6.1) ((rdL s14.2 s6.1).set (Int.toNat s14.1) (-1))))))))else some (.inr (s14.1,s14.2)))
def d8 (p0:TR) (p1:Int) (p2:Int) (s6:(Int × (List (List Int)))):Option ((Int × (List (List Int))) ⊕ (Int × (List (List Int)))) :=
 (if decide (s6.1<p0.fPlaces)=true then al ((0:Int)≤61∧(61:Int)*8≤281474976710656) (al ((0:Int)≤s6.1∧s6.1<((Int.toNat p0.fPlaces:Nat):Int)) (((aJ (dU p0 p1 p2 s6) (0,(s6.2.set (Int.toNat s6.1) (List.replicate (Int.toNat 61) 0)))).bind fun u15=>some (.inl (w64 (s6.1+1),u15.2)))))else some (.inr (s6.1,s6.2)))
def dP (p0:TR) (s31:(Bool × Int × (List (List Int)))) (s38:(Bool × Int × (List (List Int)))):Option ((Bool × Int × (List (List Int))) ⊕ (Bool × Int × (List (List Int)))) :=
 (if decide (w64 (s38.2.1+((rdL p0.fTracks s31.2.1).fToll))≤60)=true then al ((0:Int)≤(rdL p0.fTracks s31.2.1).fFrom∧(rdL p0.fTracks s31.2.1).fFrom<((Int.toNat p0.fPlaces:Nat):Int)) (al ((0:Int)≤s38.2.1∧s38.2.1<(((rdL s38.2.2 ((rdL p0.fTracks s31.2.1).fFrom)).length:Nat):Int)) (((fq (TT.mk ((rdL p0.fTracks s31.2.1).fID) ((rdL p0.fTracks s31.2.1).fFrom) ((rdL p0.fTracks s31.2.1).fTo) ((rdL p0.fTracks s31.2.1).fLong) ((rdL p0.fTracks s31.2.1).fToll) ((rdL p0.fTracks s31.2.1).fK)) (rdL (rdL s38.2.2 ((rdL p0.fTracks s31.2.1).fFrom)) s38.2.1)).bind fun y43=>al ((0:Int)≤(rdL p0.fTracks s31.2.1).fTo∧(rdL p0.fTracks s31.2.1).fTo<((Int.toNat p0.fPlaces:Nat):Int)) (al ((0:Int)≤w64 (s38.2.1+((rdL p0.fTracks s31.2.1).fToll))∧w64 (s38.2.1+((rdL p0.fTracks s31.2.1).fToll))<(((rdL s38.2.2 ((rdL p0.fTracks s31.2.1).fTo)).length:Nat):Int)) (((gn y43 (rdL (rdL s38.2.2 ((rdL p0.fTracks s31.2.1).fTo)) (w64 (s38.2.1+((rdL p0.fTracks s31.2.1).fToll))))).bind fun y47=>(if y47=true then al ((0:Int)≤(rdL p0.fTracks s31.2.1).fTo∧(rdL p0.fTracks s31.2.1).fTo<((Int.toNat p0.fPlaces:Nat):Int)) (al ((0:Int)≤w64 (s38.2.1+((rdL p0.fTracks s31.2.1).fToll))∧w64 (s38.2.1+((rdL p0.fTracks s31.2.1).fToll))<(((rdL s38.2.2 ((rdL p0.fTracks s31.2.1).fTo)).length:Nat):Int)) (some (.inl (true,w64 (s38.2.1+1),(s38.2.2.set (Int.toNat ((rdL p0.fTracks s31.2.1).fTo)) ((rdL s38.2.2 ((rdL p0.fTracks s31.2.1).fTo)).set (Int.toNat (w64 (s38.2.1+((rdL p0.fTracks s31.2.1).fToll)))) y43))))))else some (.inl (s38.1,w64 (s38.2.1+1),s38.2.2)))))))))else some (.inr (s38.1,s38.2.1,s38.2.2)))
def dR (p0:TR) (s31:(Bool × Int × (List (List Int)))):Option ((Bool × Int × (List (List Int))) ⊕ (Bool × Int × (List (List Int)))) :=
 (if decide (s31.2.1<(p0.fTracks.length:Int))=true then al ((0:Int)≤s31.2.1∧s31.2.1<(p0.fTracks.length:Int)) (((aJ (dP p0 s31) (s31.1,0,s31.2.2)).bind fun u39=>some (.inl (u39.1,w64 (s31.2.1+1),u39.2.2))))else some (.inr (s31.1,s31.2.1,s31.2.2)))
def dS (p0:TR) (s56:(Bool × Int × (List (List Int)))) (s61:(Bool × Int × (List (List Int)))):Option ((Bool × Int × (List (List Int))) ⊕ (Bool × Int × (List (List Int)))) :=
 (if decide (s61.2.1≤60)=true then al ((0:Int)≤s56.2.1∧s56.2.1<((Int.toNat p0.fPlaces:Nat):Int)) (al ((0:Int)≤w64 (s61.2.1-1)∧w64 (s61.2.1-1)<(((rdL s61.2.2 s56.2.1).length:Nat):Int)) (al ((0:Int)≤s56.2.1∧s56.2.1<((Int.toNat p0.fPlaces:Nat):Int)) (al ((0:Int)≤s61.2.1∧s61.2.1<(((rdL s61.2.2 s56.2.1).length:Nat):Int)) (((gn (rdL (rdL s61.2.2 s56.2.1) (w64 (s61.2.1-1))) (rdL (rdL s61.2.2 s56.2.1) s61.2.1)).bind fun y68=>(if y68=true then al ((0:Int)≤s56.2.1∧s56.2.1<((Int.toNat p0.fPlaces:Nat):Int)) (al ((0:Int)≤s56.2.1∧s56.2.1<((Int.toNat p0.fPlaces:Nat):Int)) (al ((0:Int)≤w64 (s61.2.1-1)∧w64 (s61.2.1-1)<(((rdL s61.2.2 s56.2.1).length:Nat):Int)) (al ((0:Int)≤s61.2.1∧s61.2.1<(((rdL s61.2.2 s56.2.1).length:Nat):Int)) (some (.inl (true,w64 (s61.2.1+1),(s61.2.2.set (Int.toNat s56.2.1) ((rdL s61.2.2 s56.2.1).set (Int.toNat s61.2.1) (rdL (rdL s61.2.2 s56.2.1) (w64 (s61.2.1-1)))))))))))else some (.inl (s61.1,w64 (s61.2.1+1),s61.2.2))))))))else some (.inr (s61.1,s61.2.1,s61.2.2)))
def dQ (p0:TR) (s56:(Bool × Int × (List (List Int)))):Option ((Bool × Int × (List (List Int))) ⊕ (Bool × Int × (List (List Int)))) :=
 (if decide (s56.2.1<p0.fPlaces)=true then((aJ (dS p0 s56) (s56.1,1,s56.2.2)).bind fun u62=>some (.inl (u62.1,w64 (s56.2.1+1),u62.2.2)))else some (.inr (s56.1,s56.2.1,s56.2.2)))
def ed (p0:TR) (s26:(Bool × (List (List Int)))):Option ((Bool × (List (List Int))) ⊕ (Bool × (List (List Int)))) :=
 (if s26.1=true then((aJ (dR p0) (false,0,s26.2)).bind fun u32=>((aJ (dQ p0) (u32.1,0,u32.2.2)).bind fun u57=>some (.inl (u57.1,u57.2.2))))else some (.inr (s26.1,s26.2)))
def dz (p0:TR) (p1:Int) (p2:Int):Option (List (List Int)) :=
 al ((0:Int)≤p0.fPlaces∧p0.fPlaces*24≤281474976710656) (((aJ (d8 p0 p1 p2) (0,(List.replicate (Int.toNat p0.fPlaces) []))).bind fun u7=>((aJ (ed p0) (true,u7.2)).bind fun u27=>some u27.2)))
def eE (p0:TR) (p1:Int) (s3:(Int × Int)):Option ((Int × Int) ⊕ ((Int × Int) ⊕ (Int × Int))) :=
 (if decide (s3.2<(p0.fTracks.length:Int))=true then al ((0:Int)≤s3.2∧s3.2<(p0.fTracks.length:Int)) ((if(((rdL p0.fTracks s3.2).fID)==p1)=true then some (.inr (.inl (s3.2,s3.2)))else some (.inl (s3.1,w64 (s3.2+1)))))else some (.inr (.inr (s3.1,s3.2))))
def jz (p0:TR) (p1:Int):Option Int :=
 ((aJ (eE p0 p1) (0,0)).bind fun u4=>match u4 with|(.inl u9)=>some u9.1|(.inr u10)=>some (-1))
def iT (p0:TT) (p1:Int) (s3:(Bool × Int)):Option ((Bool × Int) ⊕ ((Bool × Int) ⊕ (Bool × Int))) :=
 (if decide (s3.2<(p0.fK.length:Int))=true then al ((0:Int)≤s3.2∧s3.2<(p0.fK.length:Int)) (al ((0:Int)≤s3.2∧s3.2<(p0.fK.length:Int)) (((bb p1 ((rdL p0.fK s3.2).fLo) ((rdL p0.fK s3.2).fHi)).bind fun y8=>(if y8=true then some (.inr (.inl (false,s3.2)))else some (.inl (s3.1,w64 (s3.2+1)))))))else some (.inr (.inr (s3.1,s3.2))))
def j9 (p0:TT) (p1:Int):Option Bool :=
 ((aJ (iT p0 p1) (false,0)).bind fun u4=>match u4 with|(.inl u12)=>some u12.1|(.inr u13)=>some true)
def f0 (p0:TR) (p4:TJ) (s4:(Bool × Int × Int × Int × Int)):Option ((Bool × Int × Int × Int × Int) ⊕ ((Bool × Int × Int × Int × Int) ⊕ (Bool × Int × Int × Int × Int))) :=
 (if decide (s4.2.2.2.2<(p4.fLegs.length:Int))=true then al ((0:Int)≤s4.2.2.2.2∧s4.2.2.2.2<(p4.fLegs.length:Int)) (((jz p0 ((rdL p4.fLegs s4.2.2.2.2).fTrack)).bind fun y8=>(if decide (y8<0)=true then some (.inr (.inl (false,s4.2.1,s4.2.2.1,s4.2.2.2.1,s4.2.2.2.2)))else al ((0:Int)≤y8∧y8<(p0.fTracks.length:Int)) (al ((0:Int)≤s4.2.2.2.2∧s4.2.2.2.2<(p4.fLegs.length:Int)) (((dk ((rdL p4.fLegs s4.2.2.2.2).fHour)).bind fun y14=>((j9 (TT.mk ((rdL p0.fTracks y8).fID) ((rdL p0.fTracks y8).fFrom) ((rdL p0.fTracks y8).fTo) ((rdL p0.fTracks y8).fLong) ((rdL p0.fTracks y8).fToll) ((rdL p0.fTracks y8).fK)) ((rdL p4.fLegs s4.2.2.2.2).fHour)).bind fun y16=>(if((((((rdL p0.fTracks y8).fFrom) !=s4.2.1)||(!y14))||(!y16))||(decide ((rdL p4.fLegs s4.2.2.2.2).fHour<s4.2.2.1)))=true then some (.inr (.inl (false,s4.2.1,s4.2.2.1,s4.2.2.2.1,s4.2.2.2.2)))else some (.inl (s4.1,(rdL p0.fTracks y8).fTo,w64 (((rdL p4.fLegs s4.2.2.2.2).fHour)+((rdL p0.fTracks y8).fLong)),min 100000 (w64 (s4.2.2.2.1+((rdL p0.fTracks y8).fToll))),w64 (s4.2.2.2.2+1)))))))))))else some (.inr (.inr (s4.1,s4.2.1,s4.2.2.1,s4.2.2.2.1,s4.2.2.2.2))))
def eo (p0:TR) (p1:Int) (p2:Int) (p3:Int) (p4:TJ):Option Bool :=
 ((aJ (f0 p0 p4) (false,p1,p3,0,0)).bind fun u5=>match u5 with|(.inl u23)=>some u23.1|(.inr u24)=>some (((((u24.2.1==p2)&&(u24.2.2.1==p4.fA))&&(decide (u24.2.2.1≤16384)))&&(u24.2.2.2.1==p4.fToll))&&(decide (u24.2.2.2.1≤60))))
def jI (p0:(List Int)) (p1:Int) (s2:Int):Option (Int ⊕ Int) :=
 ((if decide (s2<(p0.length:Int))=true then(al ((0:Int)≤s2∧s2<(p0.length:Int)) (some (decide ((rdL p0 s2)<p1))))else(some (false))).bind fun b5=>(if b5=true then some (.inl (w64 (s2+1)))else some (.inr s2)))
def oS (p0:(List Int)) (p1:Int):Option (List Int) :=
 ((aJ (jI p0 p1) 0).bind fun u3=>al ((0:Int)≤u3∧u3≤(p0.length:Int)) (al (0+(Int.toNat u3)≤1000000000) (al ((0+(Int.toNat u3))+1≤1000000000) (al ((0:Int)≤u3∧u3≤(p0.length:Int)) (al (((0+(Int.toNat u3))+1)+(p0.length-Int.toNat u3)≤1000000000) (some (((([]:List Int)++(p0.take (Int.toNat u3)))++[p1])++(p0.drop (Int.toNat u3)))))))))
def dV (p0:TJ):Option Bool :=
 some (decide ((p0.fLegs.length:Int)≤40))
def fu (p0:TTimes) (s3:(Bool × Int)):Option ((Bool × Int) ⊕ ((Bool × Int) ⊕ (Bool × Int))) :=
 (if decide (s3.2<(p0.fH.length:Int))=true then al ((0:Int)≤s3.2∧s3.2<(p0.fH.length:Int)) ((if decide (80<(((rdL p0.fH s3.2).length:Nat):Int))=true then some (.inr (.inl (false,s3.2)))else some (.inl (s3.1,w64 (s3.2+1)))))else some (.inr (.inr (s3.1,s3.2))))
def eD (p0:TTimes):Option Bool :=
 ((aJ (fu p0) (false,0)).bind fun u4=>match u4 with|(.inl u9)=>some u9.1|(.inr u10)=>some (decide ((p0.fH.length:Int)≤20)))
def bg (p0:(List (List Int))) (p1:(List Int)→Option Bool) (s2:(Int × Int)):Option ((Int × Int) ⊕ ((Int × Int) ⊕ (Int × Int))) :=
 (if decide (s2.2<(p0.length:Int))=true then al ((0:Int)≤s2.2∧s2.2<(p0.length:Int)) (((p1 (rdL p0 s2.2)).bind fun y6=>(if y6=true then some (.inr (.inl (s2.2,s2.2)))else some (.inl (s2.1,w64 (s2.2+1))))))else some (.inr (.inr (s2.1,s2.2))))
def bx (p0:(List (List Int))) (p1:(List Int)→Option Bool):Option Int :=
 ((aJ (bg p0 p1) (0,0)).bind fun u3=>match u3 with|(.inl u10)=>some u10.1|(.inr u11)=>some (-1))
def fv (p0:(List (List Int))) (p1:(List Int)→Option Bool):Option Int :=
 ((bx p0 p1).bind fun y1=>some y1)
def gy (p0:(List Int)) (s2:(Bool × Int × Int)):Option ((Bool × Int × Int) ⊕ ((Bool × Int × Int) ⊕ (Bool × Int × Int))) :=
 (if decide (s2.2.2<(p0.length:Int))=true then al ((0:Int)≤s2.2.2∧s2.2.2<(p0.length:Int)) (((bq (rdL p0 s2.2.2) (-1) 16384).bind fun y6=>(if((!y6)||((decide (0≤s2.2.1))&&((decide ((rdL p0 s2.2.2)<0))||(decide (s2.2.1<(rdL p0 s2.2.2))))))=true then some (.inr (.inl (false,s2.2.1,s2.2.2)))else some (.inl (s2.1,(rdL p0 s2.2.2),w64 (s2.2.2+1))))))else some (.inr (.inr (s2.1,s2.2.1,s2.2.2))))
def iw (p0:(List Int)):Option Bool :=
 ((aJ (gy p0) (false,(-1),0)).bind fun u3=>match u3 with|(.inl u13)=>some u13.1|(.inr u14)=>some ((p0.length:Int)==61))
def eJ (p0:(List Int)):Option Bool :=
 ((iw p0).bind fun y1=>some (!y1))
def fS (p0:Int) (cap0:Int):Option Bool :=
 some ((decide (p0<0))||(decide (cap0<p0)))
def ff (p0:TR) (p3:TTimes) (s14:(Bool × Int)) (s21:(Bool × Int)):Option ((Bool × Int) ⊕ ((Bool × Int) ⊕ (Bool × Int))) :=
 (if decide (s21.2<(((rdL p3.fH ((rdL p0.fTracks s14.2).fFrom)).length:Nat):Int))=true then al ((0:Int)≤s21.2∧s21.2<(((rdL p3.fH ((rdL p0.fTracks s14.2).fFrom)).length:Nat):Int)) ((if((decide ((rdL (rdL p3.fH ((rdL p0.fTracks s14.2).fFrom)) s21.2)<0))||(decide (60<w64 (s21.2+((rdL p0.fTracks s14.2).fToll)))))=true then some (.inl (s21.1,w64 (s21.2+1)))else((gp (TT.mk ((rdL p0.fTracks s14.2).fID) ((rdL p0.fTracks s14.2).fFrom) ((rdL p0.fTracks s14.2).fTo) ((rdL p0.fTracks s14.2).fLong) ((rdL p0.fTracks s14.2).fToll) ((rdL p0.fTracks s14.2).fK)) (rdL (rdL p3.fH ((rdL p0.fTracks s14.2).fFrom)) s21.2)).bind fun y27=>((if(!y27.2)=true then(some (true))else((dq (w64 (y27.1+((rdL p0.fTracks s14.2).fLong)))).bind fun y37=>some ((!y37)))).bind fun b30=>(if b30=true then some (.inl (s21.1,w64 (s21.2+1)))else al ((0:Int)≤(rdL p0.fTracks s14.2).fTo∧(rdL p0.fTracks s14.2).fTo<(p3.fH.length:Int)) (al ((0:Int)≤w64 (s21.2+((rdL p0.fTracks s14.2).fToll))∧w64 (s21.2+((rdL p0.fTracks s14.2).fToll))<(((rdL p3.fH ((rdL p0.fTracks s14.2).fTo)).length:Nat):Int)) ((if((decide ((rdL (rdL p3.fH ((rdL p0.fTracks s14.2).fTo)) (w64 (s21.2+((rdL p0.fTracks s14.2).fToll))))<0))||(decide (w64 (y27.1+((rdL p0.fTracks s14.2).fLong))<(rdL (rdL p3.fH ((rdL p0.fTracks s14.2).fTo)) (w64 (s21.2+((rdL p0.fTracks s14.2).fToll)))))))=true then some (.inr (.inl (false,s21.2)))else some (.inl (s21.1,w64 (s21.2+1)))))))))))else some (.inr (.inr (s21.1,s21.2))))
def gL (p0:TR) (p3:TTimes) (s14:(Bool × Int)):Option ((Bool × Int) ⊕ ((Bool × Int) ⊕ (Bool × Int))) :=
 (if decide (s14.2<(p0.fTracks.length:Int))=true then al ((0:Int)≤s14.2∧s14.2<(p0.fTracks.length:Int)) (al ((0:Int)≤(rdL p0.fTracks s14.2).fFrom∧(rdL p0.fTracks s14.2).fFrom<(p3.fH.length:Int)) (((aJ (ff p0 p3 s14) (s14.1,0)).bind fun u22=>match u22 with|(.inl u40)=>some (.inr (.inl (u40.1,s14.2)))|(.inr u41)=>some (.inl (u41.1,w64 (s14.2+1))))))else some (.inr (.inr (s14.1,s14.2))))
def iq (p0:TR) (p1:Int) (p2:Int) (p3:TTimes):Option Bool :=
 ((if((p3.fH.length:Int) !=p0.fPlaces)=true then(some (true))else((fv p3.fH (fun x45=>eJ x45)).bind fun y46=>some (decide (0≤y46)))).bind fun b5=>(if b5=true then some false else al ((0:Int)≤p1∧p1<(p3.fH.length:Int)) (((ik (rdL p3.fH p1) (fun x9=>fS x9 p2)).bind fun y10=>(if decide (0≤y10)=true then some false else((aJ (gL p0 p3) (false,0)).bind fun u15=>match u15 with|(.inl u43)=>some u43.1|(.inr u44)=>some true))))))
def fb (p0:TR) (p4:TJ) (s4:(Int × Int × Bool × Int × Int)):Option ((Int × Int × Bool × Int × Int) ⊕ ((Int × Int × Bool × Int × Int) ⊕ (Int × Int × Bool × Int × Int))) :=
 (if decide (s4.2.2.2.2<(p4.fLegs.length:Int))=true then al ((0:Int)≤s4.2.2.2.2∧s4.2.2.2.2<(p4.fLegs.length:Int)) (((jg p0 ((rdL p4.fLegs s4.2.2.2.2).fTrack)).bind fun y9=>((if decide (y9<0)=true then(some (true))else(al ((0:Int)≤y9∧y9<(p0.fTracks.length:Int)) (some ((((rdL p0.fTracks y9).fFrom) !=s4.1))))).bind fun b12=>((if(b12||(decide ((rdL p4.fLegs s4.2.2.2.2).fHour<s4.2.1)))=true then(some (true))else((dq ((rdL p4.fLegs s4.2.2.2.2).fHour)).bind fun y27=>some ((!y27)))).bind fun b16=>(if b16=true then some (.inr (.inl (s4.1,s4.2.1,false,s4.2.2.2.1,s4.2.2.2.2)))else al ((0:Int)≤y9∧y9<(p0.fTracks.length:Int)) (((gp (TT.mk ((rdL p0.fTracks y9).fID) ((rdL p0.fTracks y9).fFrom) ((rdL p0.fTracks y9).fTo) ((rdL p0.fTracks y9).fLong) ((rdL p0.fTracks y9).fToll) ((rdL p0.fTracks y9).fK)) ((rdL p4.fLegs s4.2.2.2.2).fHour)).bind fun y20=>(if((!y20.2)||(y20.1 !=((rdL p4.fLegs s4.2.2.2.2).fHour)))=true then some (.inr (.inl (s4.1,s4.2.1,false,s4.2.2.2.1,s4.2.2.2.2)))else al ((0:Int)≤y9∧y9<(p0.fTracks.length:Int)) (al ((0:Int)≤y9∧y9<(p0.fTracks.length:Int)) (al ((0:Int)≤y9∧y9<(p0.fTracks.length:Int)) (some (.inl ((rdL p0.fTracks y9).fTo,w64 (((rdL p4.fLegs s4.2.2.2.2).fHour)+((rdL p0.fTracks y9).fLong)),s4.2.2.1,w64 (s4.2.2.2.1+((rdL p0.fTracks y9).fToll)),w64 (s4.2.2.2.2+1))))))))))))))else some (.inr (.inr (s4.1,s4.2.1,s4.2.2.1,s4.2.2.2.1,s4.2.2.2.2))))
def eY (p0:TR) (p1:Int) (p2:Int) (p3:Int) (p4:TJ):Option Bool :=
 ((aJ (fb p0 p4) (p1,p3,false,0,0)).bind fun u5=>match u5 with|(.inl u31)=>some u31.2.2.1|(.inr u32)=>((if(((u32.1==p2)&&(u32.2.1==p4.fA))&&(u32.2.2.2.1==p4.fToll))=true then((dq u32.2.1).bind fun y39=>some (y39))else(some (false))).bind fun b36=>some (b36&&(decide (u32.2.2.2.1≤60)))))
def nv (p0:TR) (p1:Int) (p2:Int) (p3:Int) (p4:TJ):Option Int :=
 ((eH p0 p1 p2 p3 0).bind fun y3=>(if(y3 !=0)=true then some y3 else((eY p0 p1 p2 p3 p4).bind fun y6=>(if(!y6)=true then some 8 else some 0))))
def dv (p1:Int) (p2:Int) (p3:TTimes) (s5:(Bool × Int)) (s11:(Bool × Int)):Option ((Bool × Int) ⊕ ((Bool × Int) ⊕ (Bool × Int))) :=
 (if decide (s11.2<(((rdL p3.fH s5.2).length:Nat):Int))=true then al ((0:Int)≤s11.2∧s11.2<(((rdL p3.fH s5.2).length:Nat):Int)) (((bb (rdL (rdL p3.fH s5.2) s11.2) (-1) 16384).bind fun y15=>((if(!y15)=true then(some (true))else((if(s5.2==p1)=true then(al ((0:Int)≤s11.2∧s11.2<(((rdL p3.fH s5.2).length:Nat):Int)) (((if decide ((rdL (rdL p3.fH s5.2) s11.2)<0)=true then(some (true))else(al ((0:Int)≤s11.2∧s11.2<(((rdL p3.fH s5.2).length:Nat):Int)) (some (decide (p2<(rdL (rdL p3.fH s5.2) s11.2)))))).bind fun b42=>some (b42))))else(some (false))).bind fun b38=>some (b38))).bind fun b18=>((if b18=true then(some (true))else((if decide (0<s11.2)=true then(al ((0:Int)≤max 0 (w64 (s11.2-1))∧max 0 (w64 (s11.2-1))<(((rdL p3.fH s5.2).length:Nat):Int)) (some (decide (0≤(rdL (rdL p3.fH s5.2) (max 0 (w64 (s11.2-1))))))))else(some (false))).bind fun b25=>((if b25=true then(al ((0:Int)≤s11.2∧s11.2<(((rdL p3.fH s5.2).length:Nat):Int)) (((if decide ((rdL (rdL p3.fH s5.2) s11.2)<0)=true then(some (true))else(al ((0:Int)≤s11.2∧s11.2<(((rdL p3.fH s5.2).length:Nat):Int)) (al ((0:Int)≤max 0 (w64 (s11.2-1))∧max 0 (w64 (s11.2-1))<(((rdL p3.fH s5.2).length:Nat):Int)) (some (decide ((rdL (rdL p3.fH s5.2) (max 0 (w64 (s11.2-1))))<(rdL (rdL p3.fH s5.2) s11.2))))))).bind fun b32=>some (b32))))else(some (false))).bind fun b28=>some (b28)))).bind fun b21=>(if b21=true then some (.inr (.inl (false,s11.2)))else some (.inl (s11.1,w64 (s11.2+1))))))))else some (.inr (.inr (s11.1,s11.2))))
def fX (p0:TR) (p1:Int) (p2:Int) (p3:TTimes) (s5:(Bool × Int)):Option ((Bool × Int) ⊕ ((Bool × Int) ⊕ (Bool × Int))) :=
 (if decide (s5.2<p0.fPlaces)=true then al ((0:Int)≤s5.2∧s5.2<(p3.fH.length:Int)) ((if((((rdL p3.fH s5.2).length:Nat):Int) !=61)=true then some (.inr (.inl (false,s5.2)))else((aJ (dv p1 p2 p3 s5) (s5.1,0)).bind fun u12=>match u12 with|(.inl u46)=>some (.inr (.inl (u46.1,s5.2)))|(.inr u47)=>some (.inl (u47.1,w64 (s5.2+1))))))else some (.inr (.inr (s5.1,s5.2))))
def fO (p0:TR) (p3:TTimes) (s52:(Bool × Int)) (s58:(Bool × Int)):Option ((Bool × Int) ⊕ ((Bool × Int) ⊕ (Bool × Int))) :=
 (if decide (w64 (s58.2+((rdL p0.fTracks s52.2).fToll))≤60)=true then al ((0:Int)≤(rdL p0.fTracks s52.2).fFrom∧(rdL p0.fTracks s52.2).fFrom<(p3.fH.length:Int)) (al ((0:Int)≤s58.2∧s58.2<(((rdL p3.fH ((rdL p0.fTracks s52.2).fFrom)).length:Nat):Int)) (((fq (TT.mk ((rdL p0.fTracks s52.2).fID) ((rdL p0.fTracks s52.2).fFrom) ((rdL p0.fTracks s52.2).fTo) ((rdL p0.fTracks s52.2).fLong) ((rdL p0.fTracks s52.2).fToll) ((rdL p0.fTracks s52.2).fK)) (rdL (rdL p3.fH ((rdL p0.fTracks s52.2).fFrom)) s58.2)).bind fun y63=>al ((0:Int)≤(rdL p0.fTracks s52.2).fTo∧(rdL p0.fTracks s52.2).fTo<(p3.fH.length:Int)) (al ((0:Int)≤w64 (s58.2+((rdL p0.fTracks s52.2).fToll))∧w64 (s58.2+((rdL p0.fTracks s52.2).fToll))<(((rdL p3.fH ((rdL p0.fTracks s52.2).fTo)).length:Nat):Int)) ((if((decide (0≤y63))&&((decide ((rdL (rdL p3.fH ((rdL p0.fTracks s52.2).fTo)) (w64 (s58.2+((rdL p0.fTracks s52.2).fToll))))<0))||(decide (y63<(rdL (rdL p3.fH ((rdL p0.fTracks s52.2).fTo)) (w64 (s58.2+((rdL p0.fTracks s52.2).fToll))))))))=true then some (.inr (.inl (false,s58.2)))else some (.inl (s58.1,w64 (s58.2+1)))))))))else some (.inr (.inr (s58.1,s58.2))))
def ig (p0:TR) (p3:TTimes) (s52:(Bool × Int)):Option ((Bool × Int) ⊕ ((Bool × Int) ⊕ (Bool × Int))) :=
 (if decide (s52.2<(p0.fTracks.length:Int))=true then al ((0:Int)≤s52.2∧s52.2<(p0.fTracks.length:Int)) (((aJ (fO p0 p3 s52) (s52.1,0)).bind fun u59=>match u59 with|(.inl u71)=>some (.inr (.inl (u71.1,s52.2)))|(.inr u72)=>some (.inl (u72.1,w64 (s52.2+1)))))else some (.inr (.inr (s52.1,s52.2))))
def jy (p0:TR) (p1:Int) (p2:Int) (p3:TTimes):Option Bool :=
 (if((p3.fH.length:Int) !=p0.fPlaces)=true then some false else((aJ (fX p0 p1 p2 p3) (false,0)).bind fun u6=>match u6 with|(.inl u49)=>some u49.1|(.inr u50)=>((aJ (ig p0 p3) (u50.1,0)).bind fun u53=>match u53 with|(.inl u74)=>some u74.1|(.inr u75)=>some true)))
def gk (p0:TR) (p1:Int) (p2:Int) (p3:Int):Option TFronted :=
 ((g7 p0 p1 p2 p3 0).bind fun y3=>(if(y3 !=0)=true then some (TFronted.mk [] y3)else((dz p0 p1 p3).bind fun y6=>al ((0:Int)≤p2∧p2<(y6.length:Int)) (((fi (rdL y6 p2)).bind fun y19=>some (TFronted.mk y19 0))))))
def dg (p0:TR) (p1:Int) (p2:Int) (p3:Int) (p4:(List TJ)) (y15:(List TPoint)) (s23:(Bool × Int)):Option ((Bool × Int) ⊕ ((Bool × Int) ⊕ (Bool × Int))) :=
 (if decide (s23.2<(p4.length:Int))=true then al ((0:Int)≤s23.2∧s23.2<(p4.length:Int)) (((eo p0 p1 p2 p3 (TJ.mk ((rdL p4 s23.2).fLegs) ((rdL p4 s23.2).fA) ((rdL p4 s23.2).fToll))).bind fun y27=>((if(!y27)=true then(some (true))else(al ((0:Int)≤s23.2∧s23.2<(p4.length:Int)) (al ((0:Int)≤s23.2∧s23.2<(y15.length:Int)) (some ((((rdL p4 s23.2).fToll) !=((rdL y15 s23.2).fToll))))))).bind fun b30=>((if b30=true then(some (true))else(al ((0:Int)≤s23.2∧s23.2<(p4.length:Int)) (al ((0:Int)≤s23.2∧s23.2<(y15.length:Int)) (some ((((rdL p4 s23.2).fA) !=((rdL y15 s23.2).fA))))))).bind fun b33=>(if b33=true then some (.inr (.inl (false,s23.2)))else some (.inl (s23.1,w64 (s23.2+1))))))))else some (.inr (.inr (s23.1,s23.2))))
def gC (p0:TR) (p1:Int) (p2:Int) (p3:Int) (p4:(List TJ)):Option Bool :=
 ((dz p0 p1 p3).bind fun y2=>al ((0:Int)≤p2∧p2<(y2.length:Int)) (((fi (rdL y2 p2)).bind fun y15=>(if((y15.length:Int) !=(p4.length:Int))=true then some false else((aJ (dg p0 p1 p2 p3 p4 y15) (false,0)).bind fun u24=>match u24 with|(.inl u41)=>some u41.1|(.inr u42)=>some true)))))
def a7 (p0:(List TJ)) (p1:TJ→Option Bool) (s2:(Int × Int)):Option ((Int × Int) ⊕ ((Int × Int) ⊕ (Int × Int))) :=
 (if decide (s2.2<(p0.length:Int))=true then al ((0:Int)≤s2.2∧s2.2<(p0.length:Int)) (((p1 (TJ.mk ((rdL p0 s2.2).fLegs) ((rdL p0 s2.2).fA) ((rdL p0 s2.2).fToll))).bind fun y6=>(if y6=true then some (.inr (.inl (s2.2,s2.2)))else some (.inl (s2.1,w64 (s2.2+1))))))else some (.inr (.inr (s2.1,s2.2))))
def bu (p0:(List TJ)) (p1:TJ→Option Bool):Option Int :=
 ((aJ (a7 p0 p1) (0,0)).bind fun u3=>match u3 with|(.inl u10)=>some u10.1|(.inr u11)=>some (-1))
def bX (p0:(List TJ)) (p1:TJ→Option Bool):Option Int :=
 ((bu p0 p1).bind fun y1=>some y1)
def cP (p0:TJ) (cap0:TR) (cap1:Int) (cap2:Int) (cap3:Int):Option Bool :=
 ((eY cap0 cap1 cap2 cap3 p0).bind fun y2=>some (!y2))
def eU (s21:(Int × (List Int))):Option ((Int × (List Int)) ⊕ (Int × (List Int))) :=
 (if decide (s21.1<61)=true then al ((0:Int)≤s21.1∧s21.1<61) (some (.inl (w64 (s21.1+1),(s21.2.set (Int.toNat s21.1) (-1)))))else some (.inr (s21.1,s21.2)))
def dp (p4:(List TJ)) (s28:(Int × Int × (List Int))) (s39:(Int × (List Int))):Option ((Int × (List Int)) ⊕ (Int × (List Int))) :=
 (if decide (s39.1≤60)=true then al ((0:Int)≤s39.1∧s39.1<61) (some (.inl (w64 (s39.1+1),(s39.2.set (Int.toNat s39.1) ((rdL p4 s28.2.1).fA)))))else some (.inr (s39.1,s39.2)))
def cz (p4:(List TJ)) (s28:(Int × Int × (List Int))):Option ((Int × Int × (List Int)) ⊕ ((Int × Int × (List Int)) ⊕ (Int × Int × (List Int)))) :=
 (if decide (s28.2.1<(p4.length:Int))=true then al ((0:Int)≤s28.2.1∧s28.2.1<(p4.length:Int)) (((if decide (0<s28.2.1)=true then(al ((0:Int)≤w64 (s28.2.1-1)∧w64 (s28.2.1-1)<(p4.length:Int)) (((if decide ((rdL p4 s28.2.1).fToll≤(rdL p4 (w64 (s28.2.1-1))).fToll)=true then(some (true))else(al ((0:Int)≤w64 (s28.2.1-1)∧w64 (s28.2.1-1)<(p4.length:Int)) (some (decide ((rdL p4 (w64 (s28.2.1-1))).fA≤(rdL p4 s28.2.1).fA))))).bind fun b46=>some (b46))))else(some (false))).bind fun b34=>(if b34=true then some (.inr (.inl (8,s28.2.1,s28.2.2)))else((aJ (dp p4 s28) ((rdL p4 s28.2.1).fToll,s28.2.2)).bind fun u40=>some (.inl (s28.1,w64 (s28.2.1+1),u40.2))))))else some (.inr (.inr (s28.1,s28.2.1,s28.2.2))))
def bM (p0:TR) (p1:Int) (p2:Int) (p3:Int) (p4:(List TJ)) (p5:TTimes):Option Int :=
 ((eH p0 p1 p2 p3 0).bind fun y6=>(if(y6 !=0)=true then some y6 else((iq p0 p1 p3 p5).bind fun y9=>((if(!y9)=true then(some (true))else((bX p4 (fun x53=>cP x53 p0 p1 p2 p3)).bind fun y54=>some (decide (0≤y54)))).bind fun b12=>(if b12=true then some 8 else al ((0:Int)≤p2∧p2<(p5.fH.length:Int)) (al ((rdL p5.fH p2).length=61) (((aJ (eU) (0,(List.replicate 61 0))).bind fun u22=>((aJ (cz p4) (0,0,u22.2)).bind fun u29=>match u29 with|(.inl u50)=>some u50.1|(.inr u51)=>(if(!decide ((rdL p5.fH p2)=u51.2.2))=true then some 8 else some 0))))))))))
def ck (p0:TR) (p1:Int) (p2:Int) (p3:Int) (p4:(List TJ)) (s10:(Int × Int)):Option ((Int × Int) ⊕ ((Int × Int) ⊕ (Int × Int))) :=
 (if decide (s10.2<(p4.length:Int))=true then al ((0:Int)≤s10.2∧s10.2<(p4.length:Int)) (((eo p0 p1 p2 p3 (TJ.mk ((rdL p4 s10.2).fLegs) ((rdL p4 s10.2).fA) ((rdL p4 s10.2).fToll))).bind fun y14=>((if(!y14)=true then(some (true))else((if decide (0<s10.2)=true then(al ((0:Int)≤s10.2∧s10.2<(p4.length:Int)) (al ((0:Int)≤max 0 (w64 (s10.2-1))∧max 0 (w64 (s10.2-1))<(p4.length:Int)) (((if decide ((rdL p4 s10.2).fToll≤(rdL p4 (max 0 (w64 (s10.2-1)))).fToll)=true then(some (true))else(al ((0:Int)≤s10.2∧s10.2<(p4.length:Int)) (al ((0:Int)≤max 0 (w64 (s10.2-1))∧max 0 (w64 (s10.2-1))<(p4.length:Int)) (some (decide ((rdL p4 (max 0 (w64 (s10.2-1)))).fA≤(rdL p4 s10.2).fA)))))).bind fun b26=>some (b26)))))else(some (false))).bind fun b21=>some (b21))).bind fun b17=>(if b17=true then some (.inr (.inl (8,s10.2)))else some (.inl (s10.1,w64 (s10.2+1)))))))else some (.inr (.inr (s10.1,s10.2))))
def cl (p4:(List TJ)) (s34:(Int × Int)) (s38:(Int × Int)):Option ((Int × Int) ⊕ (Int × Int)) :=
 (if decide (s38.2<(p4.length:Int))=true then al ((0:Int)≤s38.2∧s38.2<(p4.length:Int)) ((if decide ((rdL p4 s38.2).fToll≤s34.2)=true then al ((0:Int)≤s38.2∧s38.2<(p4.length:Int)) (some (.inl ((rdL p4 s38.2).fA,w64 (s38.2+1))))else some (.inl (s38.1,w64 (s38.2+1)))))else some (.inr (s38.1,s38.2)))
def eg (p2:Int) (p4:(List TJ)) (p5:TTimes) (s34:(Int × Int)):Option ((Int × Int) ⊕ ((Int × Int) ⊕ (Int × Int))) :=
 (if decide (s34.2≤60)=true then((aJ (cl p4 s34) ((-1),0)).bind fun u39=>al ((0:Int)≤p2∧p2<(p5.fH.length:Int)) (al ((0:Int)≤s34.2∧s34.2<(((rdL p5.fH p2).length:Nat):Int)) ((if((rdL (rdL p5.fH p2) s34.2) !=u39.1)=true then some (.inr (.inl (8,s34.2)))else some (.inl (s34.1,w64 (s34.2+1)))))))else some (.inr (.inr (s34.1,s34.2))))
def dj (p0:TR) (p1:Int) (p2:Int) (p3:Int) (p4:(List TJ)) (p5:TTimes):Option Int :=
 ((g7 p0 p1 p2 p3 0).bind fun y3=>(if(y3 !=0)=true then some y3 else((jy p0 p1 p3 p5).bind fun y6=>(if(!y6)=true then some 8 else((aJ (ck p0 p1 p2 p3 p4) (0,0)).bind fun u11=>match u11 with|(.inl u31)=>some u31.1|(.inr u32)=>((aJ (eg p2 p4 p5) (u32.1,0)).bind fun u35=>match u35 with|(.inl u49)=>some u49.1|(.inr u50)=>some 0))))))
def cH (p4:(List TJ)) (s13:(Bool × Int)):Option ((Bool × Int) ⊕ ((Bool × Int) ⊕ (Bool × Int))) :=
 (if decide (s13.2<(p4.length:Int))=true then al ((0:Int)≤s13.2∧s13.2<(p4.length:Int)) (((dV (TJ.mk ((rdL p4 s13.2).fLegs) ((rdL p4 s13.2).fA) ((rdL p4 s13.2).fToll))).bind fun y17=>(if(!y17)=true then((bB).bind fun y20=>some (.inr (.inl (y20,s13.2))))else some (.inl (s13.1,w64 (s13.2+1))))))else some (.inr (.inr (s13.1,s13.2))))
def dI (p0:TR) (p1:Int) (p2:Int) (p3:Int) (p4:(List TJ)) (p5:TTimes):Option Bool :=
 ((fw p0).bind fun y3=>((if((!y3)||(decide (20<(p4.length:Int))))=true then(some (true))else((eD p5).bind fun y64=>some ((!y64)))).bind fun b7=>(if b7=true then((bB).bind fun y10=>some y10)else((aJ (cH p4) (false,0)).bind fun u14=>match u14 with|(.inl u23)=>some u23.1|(.inr u24)=>((gr p0 p1 p2 p3).bind fun y25=>((gk p0 p1 p2 p3).bind fun y37=>((if(y25.2 !=y37.fE)=true then(some (true))else((if(y25.2==0)=true then((gC p0 p1 p2 p3 y25.1).bind fun y62=>some ((!y62)))else(some (false))).bind fun b60=>some (b60))).bind fun b45=>(if(b45||((y25.2 !=0)&&(decide (0<(y25.1.length:Int)))))=true then some false else((bB).bind fun y49=>((if y49=true then((bM p0 p1 p2 p3 p4 p5).bind fun y54=>((dj p0 p1 p2 p3 p4 p5).bind fun y56=>some ((y54==y56))))else(some (false))).bind fun b52=>some b52))))))))))
def mf (p0:(List TJ)) (p1:TJ) (s3:(Bool × Int)):Option ((Bool × Int) ⊕ ((Bool × Int) ⊕ (Bool × Int))) :=
 (if decide (s3.2<(p0.length:Int))=true then al ((0:Int)≤s3.2∧s3.2<(p0.length:Int)) (((if decide ((rdL p0 s3.2).fToll≤p1.fToll)=true then(al ((0:Int)≤s3.2∧s3.2<(p0.length:Int)) (some (decide ((rdL p0 s3.2).fA≤p1.fA))))else(some (false))).bind fun b8=>(if b8=true then some (.inr (.inl (true,s3.2)))else some (.inl (s3.1,w64 (s3.2+1))))))else some (.inr (.inr (s3.1,s3.2))))
def kO (p0:(List TJ)) (p1:TJ):Option Bool :=
 ((aJ (mf p0 p1) (false,0)).bind fun u4=>match u4 with|(.inl u13)=>some u13.1|(.inr u14)=>some false)
def bO (p5:(List TJ)) (s17:(Bool × Int)):Option ((Bool × Int) ⊕ ((Bool × Int) ⊕ (Bool × Int))) :=
 (if decide (s17.2<(p5.length:Int))=true then al ((0:Int)≤s17.2∧s17.2<(p5.length:Int)) (((dV (TJ.mk ((rdL p5 s17.2).fLegs) ((rdL p5 s17.2).fA) ((rdL p5 s17.2).fToll))).bind fun y21=>(if(!y21)=true then((bB).bind fun y24=>some (.inr (.inl (y24,s17.2))))else some (.inl (s17.1,w64 (s17.2+1))))))else some (.inr (.inr (s17.1,s17.2))))
def jR (y29:((List TJ) × Int)) (y67:(TJ × Int)) (s82:(Bool × Int)):Option ((Bool × Int) ⊕ (Bool × Int)) :=
 (if decide (s82.2<(y29.1.length:Int))=true then((if s82.1=true then(some (true))else(al ((0:Int)≤s82.2∧s82.2<(y29.1.length:Int)) (((if(((rdL y29.1 s82.2).fToll)==y67.1.fToll)=true then(al ((0:Int)≤s82.2∧s82.2<(y29.1.length:Int)) (some ((((rdL y29.1 s82.2).fA)==y67.1.fA))))else(some (false))).bind fun b90=>some (b90))))).bind fun b86=>some (.inl (b86,w64 (s82.2+1))))else some (.inr (s82.1,s82.2)))
def rz (p0:TR) (p1:Int) (p2:Int) (p3:Int) (p4:TJ) (p5:(List TJ)) (p6:TTimes) (p7:Int):Option Bool :=
 ((fw p0).bind fun y4=>((if(!y4)=true then(some (true))else((dV p4).bind fun y114=>some ((!y114)))).bind fun b7=>((if b7=true then(some (true))else((eD p6).bind fun y112=>some ((!y112)))).bind fun b10=>(if(b10||(decide (20<(p5.length:Int))))=true then((bB).bind fun y14=>some y14)else((aJ (bO p5) (false,0)).bind fun u18=>match u18 with|(.inl u27)=>some u27.1|(.inr u28)=>((gr p0 p1 p2 p3).bind fun y29=>(if(y29.2 !=0)=true then((bB).bind fun y42=>some y42)else((iV p0 p1 p3).bind fun y44=>((if(y44.2 !=0)=true then(some (true))else((bM p0 p1 p2 p3 y29.1 y44.1).bind fun y110=>some ((y110 !=0)))).bind fun b58=>(if b58=true then some false else((nv p0 p1 p2 p3 p4).bind fun y61=>((if(y61==0)=true then((kO y29.1 p4).bind fun y98=>((if(!y98)=true then(some (true))else((bM p0 p1 p2 p3 p5 p6).bind fun y103=>((if(y103==0)=true then((kO p5 p4).bind fun y108=>some ((!y108)))else(some (false))).bind fun b106=>some (b106)))).bind fun b101=>some (b101)))else(some (false))).bind fun b64=>(if b64=true then some false else((kW p0 p1 p2 p3 (Int.tmod (w64 p7) 61)).bind fun y67=>(if(y67.2==5)=true then((bB).bind fun y79=>some y79)else((aJ (jR y29 y67) (false,0)).bind fun u83=>((bB).bind fun y94=>some ((y94&&(y67.2==0))&&u83.1))))))))))))))))))
end
end Go.Proofs.YthndghnkebboaaaGreat
