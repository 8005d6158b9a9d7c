import Derived.Test.YthndghnkebboaaaGreatGz
set_option linter.unusedVariables false
namespace Go.Proofs.YthndghnkebboaaaGreat
noncomputable section
structure TSpan where
 fLo:Int
 fHi:Int
 deriving DecidableEq
instance:Inhabited TSpan:=⟨⟨default,default⟩⟩
def TSpan_rg (x:TSpan):Prop:=Rg_i64 x.fLo∧Rg_i64 x.fHi
structure TT where
 fID:Int
 fFrom:Int
 fTo:Int
 fLong:Int
 fToll:Int
 fK:(List TSpan)
 deriving DecidableEq
instance:Inhabited TT:=⟨⟨default,default,default,default,default,default⟩⟩
def TTrack_rg (x:TT):Prop:=Rg_i64 x.fID∧Rg_i64 x.fFrom∧Rg_i64 x.fTo∧Rg_i64 x.fLong∧Rg_i64 x.fToll∧(Rg_list TSpan_rg x.fK)
structure TR where
 fPlaces:Int
 fTracks:(List TT)
 deriving DecidableEq
instance:Inhabited TR:=⟨⟨default,default⟩⟩
def TRoads_rg (x:TR):Prop:=Rg_i64 x.fPlaces∧(Rg_list TTrack_rg x.fTracks)
structure Ts where
 f_place:Int
 f_toll:Int
 deriving DecidableEq
instance:Inhabited Ts:=⟨⟨default,default⟩⟩
def Tstop_rg (x:Ts):Prop:=Rg_i64 x.f_place∧Rg_i64 x.f_toll
structure Twait where
 f_at:Int
 f_stop:Ts
 deriving DecidableEq
instance:Inhabited Twait:=⟨⟨default,default⟩⟩
def Twait_rg (x:Twait):Prop:=Rg_i64 x.f_at∧Rg_i64 x.f_stop.f_place∧Rg_i64 x.f_stop.f_toll
structure TLeg where
 fTrack:Int
 fHour:Int
 deriving DecidableEq
instance:Inhabited TLeg:=⟨⟨default,default⟩⟩
def TLeg_rg (x:TLeg):Prop:=Rg_i64 x.fTrack∧Rg_i64 x.fHour
structure Tl where
 f_at:Int
 f_from:Ts
 f_leg:TLeg
 f_begin:Bool
 deriving DecidableEq
instance:Inhabited Tl:=⟨⟨default,default,default,default⟩⟩
def Tlabel_rg (x:Tl):Prop:=Rg_i64 x.f_at∧Rg_i64 x.f_from.f_place∧Rg_i64 x.f_from.f_toll∧Rg_i64 x.f_leg.fTrack∧Rg_i64 x.f_leg.fHour
structure TJ where
 fLegs:(List TLeg)
 fA:Int
 fToll:Int
 deriving DecidableEq
instance:Inhabited TJ:=⟨⟨default,default,default⟩⟩
def ru (x:TJ):Prop:=(Rg_list TLeg_rg x.fLegs)∧Rg_i64 x.fA∧Rg_i64 x.fToll
structure TO where
 fID:Int
 fH:TSpan
 fD:Int
 fW:Int
 deriving DecidableEq
instance:Inhabited TO:=⟨⟨default,default,default,default⟩⟩
def TOrder_rg (x:TO):Prop:=Rg_i64 x.fID∧Rg_i64 x.fH.fLo∧Rg_i64 x.fH.fHi∧Rg_i64 x.fD∧Rg_i64 x.fW
structure TBay where
 fID:Int
 fHour:Int
 fD:Int
 deriving DecidableEq
instance:Inhabited TBay:=⟨⟨default,default,default⟩⟩
def TBay_rg (x:TBay):Prop:=Rg_i64 x.fID∧Rg_i64 x.fHour∧Rg_i64 x.fD
structure TY where
 fB:(List TBay)
 fR:(List TO)
 deriving DecidableEq
instance:Inhabited TY:=⟨⟨default,default⟩⟩
def TYard_rg (x:TY):Prop:=(Rg_list TBay_rg x.fB)∧(Rg_list TOrder_rg x.fR)
structure TPlan where
 fG:(List Int)
 fW:Int
 fPrices:(List Int)
 deriving DecidableEq
instance:Inhabited TPlan:=⟨⟨default,default,default⟩⟩
def TPlan_rg (x:TPlan):Prop:=(Rg_list Rg_i64 x.fG)∧Rg_i64 x.fW∧(Rg_list Rg_i64 x.fPrices)
structure TTimes where
 fH:(List (List Int))
 deriving DecidableEq
instance:Inhabited TTimes:=⟨⟨default⟩⟩
def TTimes_rg (x:TTimes):Prop:=(Rg_list (Rg_list Rg_i64) x.fH)
structure TPoint where
 fToll:Int
 fA:Int
 deriving DecidableEq
instance:Inhabited TPoint:=⟨⟨default,default⟩⟩
def TPoint_rg (x:TPoint):Prop:=Rg_i64 x.fToll∧Rg_i64 x.fA
structure TPointed where
 fP:TPoint
 fE:Int
 deriving DecidableEq
instance:Inhabited TPointed:=⟨⟨default,default⟩⟩
def TPointed_rg (x:TPointed):Prop:=Rg_i64 x.fP.fToll∧Rg_i64 x.fP.fA∧Rg_i64 x.fE
structure TInts where
 fL:(List Int)
 fE:Int
 deriving DecidableEq
instance:Inhabited TInts:=⟨⟨default,default⟩⟩
def TInts_rg (x:TInts):Prop:=(Rg_list Rg_i64 x.fL)∧Rg_i64 x.fE
structure TTimed where
 fT:TTimes
 fE:Int
 deriving DecidableEq
instance:Inhabited TTimed:=⟨⟨default,default⟩⟩
def TTimed_rg (x:TTimed):Prop:=(Rg_list (Rg_list Rg_i64) x.fT.fH)∧Rg_i64 x.fE
structure TFronted where
 fL:(List TPoint)
 fE:Int
 deriving DecidableEq
instance:Inhabited TFronted:=⟨⟨default,default⟩⟩
def TFronted_rg (x:TFronted):Prop:=(Rg_list TPoint_rg x.fL)∧Rg_i64 x.fE
def a5 (x:Ts):Bool:=eg x.f_place&&eg x.f_toll
def fx (p0:TR) (s3:(Bool × Int)):Option ((Bool × Int) ⊕ ((Bool × Int) ⊕ (Bool × Int))) :=
 (if decide (s3.2<(p0.fTracks.length:Int))=true then ap ((0:Int)≤s3.2∧s3.2<(p0.fTracks.length:Int)) ((if decide (12<(((rdL p0.fTracks s3.2).fK.length:Nat):Int))=true then some (.inr (.inl (false,s3.2)))else some (.inl (s3.1,w64 (s3.2+1)))))else some (.inr (.inr (s3.1,s3.2))))
def gn (p0:TR):Option Bool :=
 ((aK (fx p0) (false,0)).bind fun u4=>match u4 with|(.inl u9)=>some u9.1|(.inr u10)=>some (((decide (p0.fPlaces≤8))||(decide (16<p0.fPlaces)))&&((decide ((p0.fTracks.length:Int)≤16))||((decide (48<(p0.fTracks.length:Int)))&&(decide ((p0.fTracks.length:Int)≤60))))))
def bl (p0:Int) (p1:Int) (p2:Int):Option Bool :=
 some ((decide (p1≤p0))&&(decide (p0≤p2)))
def c8 (p0:Int):Option Bool :=
 ((bl p0 0 16384).bind fun y1=>some y1)
def fk (p0:(List TSpan)) (s2:(Bool × Int × Int)):Option ((Bool × Int × Int) ⊕ ((Bool × Int × Int) ⊕ (Bool × Int × Int))) :=
 (if decide (s2.2.2<(p0.length:Int))=true then ap ((0:Int)≤s2.2.2∧s2.2.2<(p0.length:Int)) ((if(((decide ((rdL p0 s2.2.2).fLo<w64 (s2.2.1+2)))||(decide ((rdL p0 s2.2.2).fHi<(rdL p0 s2.2.2).fLo)))||(decide (16384<(rdL p0 s2.2.2).fHi)))=true then some (.inr (.inl (false,s2.2.1,s2.2.2)))else some (.inl (s2.1,(rdL p0 s2.2.2).fHi,w64 (s2.2.2+1)))))else some (.inr (.inr (s2.1,s2.2.1,s2.2.2))))
def gz (p0:(List TSpan)):Option Bool :=
 ((aK (fk p0) (false,(-2),0)).bind fun u3=>match u3 with|(.inl u11)=>some u11.1|(.inr u12)=>some (decide ((p0.length:Int)≤4)))
def a8 (p0:(List TT)) (p1:TT→Option Bool) (s2:(Int × Int)):Option ((Int × Int) ⊕ ((Int × Int) ⊕ (Int × Int))) :=
 (if decide (s2.2<(p0.length:Int))=true then ap ((0:Int)≤s2.2∧s2.2<(p0.length:Int)) (((p1 (TT.mk ((rdL p0 s2.2).fID) ((rdL p0 s2.2).fFrom) ((rdL p0 s2.2).fTo) ((rdL p0 s2.2).fLong) ((rdL p0 s2.2).fToll) ((rdL p0 s2.2).fK))).bind fun y6=>(if y6=true then some (.inr (.inl (s2.2,s2.2)))else some (.inl (s2.1,w64 (s2.2+1))))))else some (.inr (.inr (s2.1,s2.2))))
def bx (p0:(List TT)) (p1:TT→Option Bool):Option Int :=
 ((aK (a8 p0 p1) (0,0)).bind fun u3=>match u3 with|(.inl u10)=>some u10.1|(.inr u11)=>some (-1))
def cd (p0:(List TT)) (p1:TT→Option Bool):Option Int :=
 ((bx p0 p1).bind fun y1=>some y1)
def gU (p0:TT) (cap0:Int):Option Bool :=
 some (p0.fID==cap0)
def iu (p0:TR) (p1:Int):Option Int :=
 ((cd p0.fTracks (fun x3=>gU x3 p1)).bind fun y4=>some y4)
def gW (p0:Int) (cap0:TR):Option Bool :=
 ((bl p0 0 (w64 (cap0.fPlaces-1))).bind fun y1=>some y1)
def gh (p0:TR) (s7:(Int × Int)):Option ((Int × Int) ⊕ ((Int × Int) ⊕ (Int × Int))) :=
 (if decide (s7.2<(p0.fTracks.length:Int))=true then ap ((0:Int)≤s7.2∧s7.2<(p0.fTracks.length:Int)) (((bl ((rdL p0.fTracks s7.2).fID) 1 1099511627776).bind fun y12=>((if(!y12)=true then(some (true))else((gW ((rdL p0.fTracks s7.2).fFrom) p0).bind fun y42=>some ((!y42)))).bind fun b15=>((if b15=true then(some (true))else((gW ((rdL p0.fTracks s7.2).fTo) p0).bind fun y40=>some ((!y40)))).bind fun b18=>((if(b18||(((rdL p0.fTracks s7.2).fFrom)==((rdL p0.fTracks s7.2).fTo)))=true then(some (true))else((bl ((rdL p0.fTracks s7.2).fLong) 1 72).bind fun y38=>some ((!y38)))).bind fun b22=>((if b22=true then(some (true))else((bl ((rdL p0.fTracks s7.2).fToll) 0 40).bind fun y36=>some ((!y36)))).bind fun b25=>((if b25=true then(some (true))else((gz ((rdL p0.fTracks s7.2).fK)).bind fun y34=>some ((!y34)))).bind fun b28=>(if b28=true then some (.inr (.inl (1,s7.2)))else((iu p0 ((rdL p0.fTracks s7.2).fID)).bind fun y31=>(if decide (y31<s7.2)=true then some (.inr (.inl (6,s7.2)))else some (.inl (s7.1,w64 (s7.2+1)))))))))))))else some (.inr (.inr (s7.1,s7.2))))
def jw (p0:TR):Option Int :=
 ((bl p0.fPlaces 1 16).bind fun y2=>(if(!y2)=true then some 1 else(if decide (48<(p0.fTracks.length:Int))=true then some 2 else((aK (gh p0) (0,0)).bind fun u8=>match u8 with|(.inl u45)=>some u45.1|(.inr u46)=>some 0))))
def dY (p0:TR) (p1:Int) (p2:Int) (p3:Int) (p4:Int):Option Int :=
 ((jw p0).bind fun y2=>(if(y2 !=0)=true then some y2 else((bl p1 0 (w64 (p0.fPlaces-1))).bind fun y5=>((if(!y5)=true then(some (true))else((bl p2 0 (w64 (p0.fPlaces-1))).bind fun y21=>some ((!y21)))).bind fun b8=>((if b8=true then(some (true))else((c8 p3).bind fun y19=>some ((!y19)))).bind fun b11=>((if b11=true then(some (true))else((bl p4 0 60).bind fun y17=>some ((!y17)))).bind fun b14=>(if b14=true then some 1 else some 0)))))))
def eM (p0:TT) (s3:(Int × Int)):Option ((Int × Int) ⊕ (Int × Int)) :=
 (if decide (s3.2<(p0.fK.length:Int))=true then ap ((0:Int)≤s3.2∧s3.2<(p0.fK.length:Int)) (((bl s3.1 ((rdL p0.fK s3.2).fLo) ((rdL p0.fK s3.2).fHi)).bind fun y8=>(if y8=true then some (.inl (w64 (((rdL p0.fK s3.2).fHi)+1),w64 (s3.2+1)))else some (.inl (s3.1,w64 (s3.2+1))))))else some (.inr (s3.1,s3.2)))
def f4 (p0:TT) (p1:Int):Option (Int × Bool) :=
 ((aK (eM p0) (p1,0)).bind fun u4=>((c8 u4.1).bind fun y12=>some (u4.1,y12)))
def bY (p0:(List Twait)):Option Int :=
 some (p0.length:Int)
def ck (p0:(List Twait)) (p1:Int) (p2:Int):Option Bool :=
 ap ((0:Int)≤p1∧p1<(p0.length:Int)) (ap ((0:Int)≤p2∧p2<(p0.length:Int)) (some (decide ((rdL p0 p1).f_at<(rdL p0 p2).f_at))))
def bL (p0:(List Twait)) (p1:Int) (p2:Int):Option (List Twait) :=
 ap ((0:Int)≤p2∧p2<(p0.length:Int)) (ap ((0:Int)≤p1∧p1<(p0.length:Int)) (ap ((0:Int)≤p1∧p1<(p0.length:Int)) (ap ((0:Int)≤p2∧p2<(p0.length:Int)) (some ((p0.set (Int.toNat p1) (rdL p0 p2)).set (Int.toNat p2) (rdL p0 p1))))))
def cN (p2:Int) (s3:(Int × (List Twait))):Option ((Int × (List Twait)) ⊕ (Int × (List Twait))) :=
 (if((decide (p2≤w64 ((w64 (2*s3.1))+1)))||(decide (w64 ((w64 (2*s3.1))+1)<0)))=true then some (.inr (s3.1,s3.2))else((if decide (w64 ((w64 ((w64 (2*s3.1))+1))+1)<p2)=true then((ck s3.2 (w64 ((w64 ((w64 (2*s3.1))+1))+1)) (w64 ((w64 (2*s3.1))+1))).bind fun y23=>some (y23))else(some (false))).bind fun b8=>(if b8=true then((ck s3.2 (w64 ((w64 ((w64 (2*s3.1))+1))+1)) s3.1).bind fun y11=>(if(!y11)=true then some (.inr (s3.1,s3.2))else((bL s3.2 s3.1 (w64 ((w64 ((w64 (2*s3.1))+1))+1))).bind fun y14=>some (.inl (w64 ((w64 ((w64 (2*s3.1))+1))+1),y14)))))else((ck s3.2 (w64 ((w64 (2*s3.1))+1)) s3.1).bind fun y17=>(if(!y17)=true then some (.inr (s3.1,s3.2))else((bL s3.2 s3.1 (w64 ((w64 (2*s3.1))+1))).bind fun y20=>some (.inl (w64 ((w64 (2*s3.1))+1),y20))))))))
def cE (p0:(List Twait)) (p1:Int) (p2:Int):Option (Bool × (List Twait)) :=
 ((aK (cN p2) (p1,p0)).bind fun u4=>some (decide (p1<u4.1),u4.2))
def gK (p0:(List Twait)):Option (Twait × (List Twait)) :=
 ap ((0:Int)≤w64 ((p0.length:Int)-1)∧w64 ((p0.length:Int)-1)<(p0.length:Int)) (ap ((0:Int)≤w64 ((p0.length:Int)-1)∧w64 ((p0.length:Int)-1)≤(p0.length:Int)) (some ((Twait.mk ((rdL p0 (w64 ((p0.length:Int)-1))).f_at) (Ts.mk ((rdL p0 (w64 ((p0.length:Int)-1))).f_stop.f_place) ((rdL p0 (w64 ((p0.length:Int)-1))).f_stop.f_toll))),(p0.take (Int.toNat (w64 ((p0.length:Int)-1)))))))
def da (p0:(List Twait)):Option (Twait × (List Twait)) :=
 ((bY p0).bind fun y1=>((bL p0 0 (w64 (y1-1))).bind fun y3=>((cE y3 0 (w64 (y1-1))).bind fun y6=>((gK y6.2).bind fun y12=>some (y12.1,y12.2)))))
def f5 (x:TR × Int):Prop:=x.1.fTracks.length≤1000
instance (x:TR × Int):Decidable (f5 x):=by unfold f5;infer_instance
def n3 (x:TR × Int):List TT:=x.1.fTracks.filter fun z=>z.fFrom==x.2
def jV (p0:TR) (p1:Int):Option Unit :=
 some ()
def dp (s3:(Int × (List Twait))):Option ((Int × (List Twait)) ⊕ (Int × (List Twait))) :=
 ((if((w64 (Int.tdiv (w64 (s3.1-1)) 2))==s3.1)=true then(some (true))else((ck s3.2 s3.1 (w64 (Int.tdiv (w64 (s3.1-1)) 2))).bind fun y12=>some ((!y12)))).bind fun b6=>(if b6=true then some (.inr (s3.1,s3.2))else((bL s3.2 (w64 (Int.tdiv (w64 (s3.1-1)) 2)) s3.1).bind fun y9=>some (.inl (w64 (Int.tdiv (w64 (s3.1-1)) 2),y9)))))
def du (p0:(List Twait)) (p1:Int):Option (List Twait) :=
 ((aK (dp) (p1,p0)).bind fun u4=>some u4.2)
def gu (p0:(List Twait)) (p1:Twait):Option (List Twait) :=
 ap (p0.length+1≤1000000000) (some (p0++[p1]))
def cM (p0:(List Twait)) (p1:Twait):Option (List Twait) :=
 ((gu p0 p1).bind fun y1=>((bY y1).bind fun y7=>((du y1 (w64 (y7-1))).bind fun y9=>some y9)))
def ct (y15:(Twait × (List Twait))) (s39:((List (Ts × Tl)) × (List Twait))) (x40:TT):Option (((List (Ts × Tl)) × (List Twait)) ⊕ Unit) :=
 ((f4 x40 y15.1.f_at).bind fun y43=>((if((!y43.2)||(decide (60<w64 (y15.1.f_stop.f_toll+x40.fToll))))=true then(some (true))else((c8 (w64 (y43.1+x40.fLong))).bind fun y62=>some ((!y62)))).bind fun b48=>(if b48=true then some (.inl (s39.1,s39.2))else ap (a5 (Ts.mk x40.fTo (w64 (y15.1.f_stop.f_toll+x40.fToll)))=true) ((if((bm s39.1 (Ts.mk x40.fTo (w64 (y15.1.f_stop.f_toll+x40.fToll))))&&(decide ((aA (Tl.mk 0 (Ts.mk 0 0) (TLeg.mk 0 0) false) s39.1 (Ts.mk x40.fTo (w64 (y15.1.f_stop.f_toll+x40.fToll)))).f_at≤w64 (y43.1+x40.fLong))))=true then some (.inl (s39.1,s39.2))else ap (a5 (Ts.mk x40.fTo (w64 (y15.1.f_stop.f_toll+x40.fToll)))=true∧List.length s39.1<1000000000) (((cM s39.2 (Twait.mk (w64 (y43.1+x40.fLong)) (Ts.mk x40.fTo (w64 (y15.1.f_stop.f_toll+x40.fToll))))).bind fun y56=>some (.inl ((((Ts.mk x40.fTo (w64 (y15.1.f_stop.f_toll+x40.fToll))),(Tl.mk (w64 (y43.1+x40.fLong)) y15.1.f_stop (TLeg.mk x40.fID y43.1) false))::s39.1),y56)))))))))
def dV (p0:TR) (s10:((List Twait) × (List (Ts × Tl)))):Option (((List Twait) × (List (Ts × Tl))) ⊕ ((List Twait) × (List (Ts × Tl)))) :=
 ((bY s10.1).bind fun y12=>(if decide (0<y12)=true then((da s10.1).bind fun y15=>ap (a5 y15.1.f_stop=true) ((if decide ((aA (Tl.mk 0 (Ts.mk 0 0) (TLeg.mk 0 0) false) s10.2 y15.1.f_stop).f_at<y15.1.f_at)=true then some (.inl (y15.2,s10.2))else((jV p0 y15.1.f_stop.f_place).bind fun y24=>(ap (f5 (p0,y15.1.f_stop.f_place)) ((g8 (ct y15) (n3 (p0,y15.1.f_stop.f_place)) (s10.2,y15.2)).bind fun u41=>match u41 with|.inl u68=>some (.inl (u68.2,u68.1))|.inr _=>none))))))else some (.inr (s10.1,s10.2))))
def fM (p0:TR) (p1:Int) (p2:Int):Option (List (Ts × Tl)) :=
 ap (a5 (Ts.mk p1 0)=true∧List.length ([]:(List (Ts × Tl)))<1000000000) (((aK (dV p0) ([(Twait.mk p2 (Ts.mk p1 0))],(((Ts.mk p1 0),(Tl.mk p2 (Ts.mk 0 0) (TLeg.mk 0 0) true))::([]:(List (Ts × Tl)))))).bind fun u11=>some u11.2))
def cX (p0:(List (Ts × Tl))) (p1:Int) (s5:(Int × Int × (List Int))):Option ((Int × Int × (List Int)) ⊕ (Int × Int × (List Int))) :=
 (if decide (s5.2.1<61)=true then ap (a5 (Ts.mk p1 s5.2.1)=true) ((if((bm p0 (Ts.mk p1 s5.2.1))&&((decide (s5.1<0))||(decide ((aA (Tl.mk 0 (Ts.mk 0 0) (TLeg.mk 0 0) false) p0 (Ts.mk p1 s5.2.1)).f_at<s5.1))))=true then ap ((0:Int)≤s5.2.1∧s5.2.1<61) (some (.inl ((aA (Tl.mk 0 (Ts.mk 0 0) (TLeg.mk 0 0) false) p0 (Ts.mk p1 s5.2.1)).f_at,w64 (s5.2.1+1),(s5.2.2.set (Int.toNat s5.2.1) ((aA (Tl.mk 0 (Ts.mk 0 0) (TLeg.mk 0 0) false) p0 (Ts.mk p1 s5.2.1)).f_at)))))else ap ((0:Int)≤s5.2.1∧s5.2.1<61) (some (.inl (s5.1,w64 (s5.2.1+1),(s5.2.2.set (Int.toNat s5.2.1) s5.1))))))else some (.inr (s5.1,s5.2.1,s5.2.2)))
def eP (p0:(List (Ts × Tl))) (p1:Int):Option (List Int) :=
 ((aK (cX p0 p1) ((-1),0,(List.replicate 61 0))).bind fun u6=>some u6.2.2)
def fg (p0:(List TLeg)) (s3:(Int × Int × (List TLeg))):Option ((Int × Int × (List TLeg)) ⊕ (Int × Int × (List TLeg))) :=
 (if decide (s3.1<s3.2.1)=true then ap ((0:Int)≤s3.2.1∧s3.2.1<(p0.length:Int)) (ap ((0:Int)≤s3.1∧s3.1<(p0.length:Int)) (ap ((0:Int)≤s3.1∧s3.1<(p0.length:Int)) (ap ((0:Int)≤s3.2.1∧s3.2.1<(p0.length:Int)) (some (.inl (w64 (s3.1+1),w64 (s3.2.1-1),((s3.2.2.set (Int.toNat s3.1) (rdL s3.2.2 s3.2.1)).set (Int.toNat s3.2.1) (rdL s3.2.2 s3.1))))))))else some (.inr (s3.1,s3.2.1,s3.2.2)))
def d8 (p0:(List TLeg)):Option (List TLeg) :=
 ((aK (fg p0) (0,w64 ((p0.length:Int)-1),p0)).bind fun u4=>some u4.2.2)
def kg (p0:(List (Ts × Tl))) (s9:(Tl × (List TLeg))):Option ((Tl × (List TLeg)) ⊕ (Tl × (List TLeg))) :=
 (if(!s9.1.f_begin)=true then ap (s9.2.length+1≤1000000000) (ap (a5 s9.1.f_from=true) (some (.inl ((Tl.mk ((aA (Tl.mk 0 (Ts.mk 0 0) (TLeg.mk 0 0) false) p0 s9.1.f_from).f_at) (Ts.mk ((aA (Tl.mk 0 (Ts.mk 0 0) (TLeg.mk 0 0) false) p0 s9.1.f_from).f_from.f_place) ((aA (Tl.mk 0 (Ts.mk 0 0) (TLeg.mk 0 0) false) p0 s9.1.f_from).f_from.f_toll)) (TLeg.mk ((aA (Tl.mk 0 (Ts.mk 0 0) (TLeg.mk 0 0) false) p0 s9.1.f_from).f_leg.fTrack) ((aA (Tl.mk 0 (Ts.mk 0 0) (TLeg.mk 0 0) false) p0 s9.1.f_from).f_leg.fHour)) ((aA (Tl.mk 0 (Ts.mk 0 0) (TLeg.mk 0 0) false) p0 s9.1.f_from).f_begin)),(s9.2++[s9.1.f_leg])))))else some (.inr (s9.1,s9.2)))
def kC (p0:(List (Ts × Tl))) (p1:Ts):Option TJ :=
 ap (a5 p1=true) (ap (a5 p1=true) (((aK (kg p0) ((Tl.mk ((aA (Tl.mk 0 (Ts.mk 0 0) (TLeg.mk 0 0) false) p0 p1).f_at) (Ts.mk ((aA (Tl.mk 0 (Ts.mk 0 0) (TLeg.mk 0 0) false) p0 p1).f_from.f_place) ((aA (Tl.mk 0 (Ts.mk 0 0) (TLeg.mk 0 0) false) p0 p1).f_from.f_toll)) (TLeg.mk ((aA (Tl.mk 0 (Ts.mk 0 0) (TLeg.mk 0 0) false) p0 p1).f_leg.fTrack) ((aA (Tl.mk 0 (Ts.mk 0 0) (TLeg.mk 0 0) false) p0 p1).f_leg.fHour)) ((aA (Tl.mk 0 (Ts.mk 0 0) (TLeg.mk 0 0) false) p0 p1).f_begin)),([]:List TLeg))).bind fun u10=>((d8 u10.2).bind fun y19=>some (TJ.mk y19 ((aA (Tl.mk 0 (Ts.mk 0 0) (TLeg.mk 0 0) false) p0 p1).f_at) p1.f_toll)))))
def mq (p2:Int) (y2:(List (Ts × Tl))) (y5:(List Int)) (s11:(Int × Int × (List TJ))):Option ((Int × Int × (List TJ)) ⊕ (Int × Int × (List TJ))) :=
 (if decide (s11.2.1<61)=true then ap ((0:Int)≤s11.2.1∧s11.2.1<61) ((if((rdL y5 s11.2.1) !=s11.1)=true then((kC y2 (Ts.mk p2 s11.2.1)).bind fun y16=>ap (s11.2.2.length+1≤1000000000) (some (.inl ((rdL y5 s11.2.1),w64 (s11.2.1+1),(s11.2.2++[y16])))))else some (.inl ((rdL y5 s11.2.1),w64 (s11.2.1+1),s11.2.2))))else some (.inr (s11.1,s11.2.1,s11.2.2)))
def kX (p0:TR) (p1:Int) (p2:Int) (p3:Int):Option (List TJ) :=
 ((fM p0 p1 p3).bind fun y2=>((eP y2 p2).bind fun y5=>((aK (mq p2 y2 y5) ((-1),0,([]:List TJ))).bind fun u12=>some u12.2.2)))
def ng (p4:Int) (y4:(List TJ)) (s18:(Bool × Int × (List TLeg) × Int × Int)):Option ((Bool × Int × (List TLeg) × Int × Int) ⊕ (Bool × Int × (List TLeg) × Int × Int)) :=
 (if decide (s18.2.1<(y4.length:Int))=true then ap ((0:Int)≤s18.2.1∧s18.2.1<(y4.length:Int)) ((if decide ((rdL y4 s18.2.1).fToll≤p4)=true then some (.inl (true,w64 (s18.2.1+1),(rdL y4 s18.2.1).fLegs,(rdL y4 s18.2.1).fA,(rdL y4 s18.2.1).fToll))else some (.inl (s18.1,w64 (s18.2.1+1),s18.2.2.1,s18.2.2.2.1,s18.2.2.2.2))))else some (.inr (s18.1,s18.2.1,s18.2.2.1,s18.2.2.2.1,s18.2.2.2.2)))
def kM (p0:TR) (p1:Int) (p2:Int) (p3:Int) (p4:Int):Option (TJ × Bool) :=
 ((kX p0 p1 p2 p3).bind fun y4=>((aK (ng p4 y4) (false,0,([]:(List TLeg)),0,0)).bind fun u19=>some ((TJ.mk u19.2.2.1 u19.2.2.2.1 u19.2.2.2.2),u19.1)))
def lQ (p0:TR) (p1:Int) (p2:Int) (p3:Int) (p4:Int):Option (TJ × Int) :=
 ((dY p0 p1 p2 p3 p4).bind fun y3=>(if(y3 !=0)=true then some ((TJ.mk ([]:(List TLeg)) 0 0),y3)else((kM p0 p1 p2 p3 p4).bind fun y6=>(if(!y6.2)=true then some ((TJ.mk ([]:(List TLeg)) 0 0),5)else some (y6.1,0)))))
def jJ (p0:Int) (cap0:TR) (cap1:Int) (cap2:Int) (cap3:Int) (cap4:Int):Option Bool :=
 ((kM cap0 cap1 cap2 p0 cap3).bind fun y1=>some (y1.2&&(decide (y1.1.fA≤cap4))))
def ll (p0:TR) (p1:Int) (p2:Int) (p3:Int) (p4:Int) (s10:(Int × Int)):Option ((Int × Int) ⊕ (Int × Int)) :=
 (if decide (s10.1≤s10.2)=true then((jJ (w64 (Int.tdiv (w64 (s10.1+s10.2)) 2)) p0 p1 p2 p4 p3).bind fun y13=>(if y13=true then some (.inl (w64 ((w64 (Int.tdiv (w64 (s10.1+s10.2)) 2))+1),s10.2))else some (.inl (s10.1,w64 ((w64 (Int.tdiv (w64 (s10.1+s10.2)) 2))-1)))))else some (.inr (s10.1,s10.2)))
def lq (p0:TR) (p1:Int) (p2:Int) (p3:Int) (p4:Int):Option (Int × Int) :=
 ((dY p0 p1 p2 p3 p4).bind fun y6=>(if(y6 !=0)=true then some (0,y6)else((aK (ll p0 p1 p2 p3 p4) (0,p3)).bind fun u11=>(if decide (u11.2<0)=true then some (0,5)else some (u11.2,0)))))
def de (p0:(List TT)) (p1:Int) (p2:Int):Option (List TT) :=
 ap ((0:Int)≤p1∧p1≤p2∧p2≤(p0.length:Int)∧(p0.length:Int)≤(p0.length:Int)) ((if(p1==p2)=true then some p0 else ap ((0:Int)≤p1∧p1≤(p0.length:Int)) (ap ((0:Int)≤p2∧p2≤(p0.length:Int)) (ap (p1≤p2) (some (p0.take (Int.toNat p1)++p0.drop (Int.toNat p2)))))))
def bG (p0:(List TT)):Option (List TT) :=
 ap (0+p0.length≤1000000000) (some (([]:List TT)++p0))
def dQ (p0:Int):Option Bool :=
 some (p0 !=p0)
def gZ (p0:Int) (p1:Int):Option Bool :=
 ((dQ p0).bind fun y1=>((if y1=true then((dQ p1).bind fun y7=>some ((!y7)))else(some (false))).bind fun b4=>some (b4||(decide (p0<p1)))))
def aV (p0:(List Int)) (p1:Int) (s8:(Int × (List Int))):Option ((Int × (List Int)) ⊕ (Int × (List Int))) :=
 ((if decide (p1<s8.1)=true then(ap ((0:Int)≤s8.1∧s8.1<(p0.length:Int)) (ap ((0:Int)≤w64 (s8.1-1)∧w64 (s8.1-1)<(p0.length:Int)) (((gZ (rdL s8.2 s8.1) (rdL s8.2 (w64 (s8.1-1)))).bind fun y21=>some (y21)))))else(some (false))).bind fun b11=>(if b11=true then ap ((0:Int)≤w64 (s8.1-1)∧w64 (s8.1-1)<(p0.length:Int)) (ap ((0:Int)≤s8.1∧s8.1<(p0.length:Int)) (ap ((0:Int)≤s8.1∧s8.1<(p0.length:Int)) (ap ((0:Int)≤w64 (s8.1-1)∧w64 (s8.1-1)<(p0.length:Int)) (some (.inl (w64 (s8.1-1),((s8.2.set (Int.toNat s8.1) (rdL s8.2 (w64 (s8.1-1)))).set (Int.toNat (w64 (s8.1-1))) (rdL s8.2 s8.1))))))))else some (.inr (s8.1,s8.2))))
def aH (p0:(List Int)) (p1:Int) (p2:Int) (s3:(Int × (List Int))):Option ((Int × (List Int)) ⊕ (Int × (List Int))) :=
 (if decide (s3.1<p2)=true then((aK (aV p0 p1) (s3.1,s3.2)).bind fun u9=>some (.inl (w64 (s3.1+1),u9.2)))else some (.inr (s3.1,s3.2)))
def bo (p0:(List Int)) (p1:Int) (p2:Int):Option (List Int) :=
 ((aK (aH p0 p1 p2) (w64 (p1+1),p0)).bind fun u4=>some u4.2)
def lenv (x:Int):Int:=if x<1 then 0 else if x<2 then 1 else if x<4 then 2 else if x<8 then 3 else 4
def gr (p0:Int):Option Int:=ap (0≤p0∧p0<16) (some (w64 (0+lenv p0)))
def ip (p0:Int):Option Int :=
 ((gr p0).bind fun y1=>some y1)
def bH (s3:(Int × Int × Int × Bool × Bool × (List Int))):Option ((Int × Int × Int × Bool × Bool × (List Int)) ⊕ (Int × Int × Int × Bool × Bool × (List Int))) :=
 ap (decide (w64 (s3.2.1-s3.1)≤12)=true) (((bo s3.2.2.2.2.2 s3.1 s3.2.1).bind fun y6=>some (.inr (s3.1,s3.2.1,s3.2.2.1,s3.2.2.2.1,s3.2.2.2.2.1,y6))))
def bX (p0:(List Int)) (p1:Int) (p2:Int) (p3:Int):Option (List Int) :=
 ((aK (bH) (p1,p2,p3,true,true,p0)).bind fun u4=>some u4.2.2.2.2.2)
def cJ (p0:(List Int)):Option (List Int):=ap (p0.length≤12) (some (oe p0))
def lg (p0:TR) (p1:Int) (p2:Int) (p3:Int) (p4:Int) (y2:(TJ × Int)) (s16:(Int × (List Int))):Option ((Int × (List Int)) ⊕ (Int × (List Int))) :=
 (if decide (s16.1<(p0.fTracks.length:Int))=true then ap ((0:Int)≤s16.1∧s16.1<(p0.fTracks.length:Int)) (((bG p0.fTracks).bind fun y22=>((de y22 s16.1 (w64 (s16.1+1))).bind fun y31=>((kM (TR.mk p0.fPlaces y31) p1 p2 p3 p4).bind fun y40=>(if((!y40.2)||(y40.1.fA !=y2.1.fA))=true then ap (s16.2.length+1≤1000000000) (some (.inl (w64 (s16.1+1),(s16.2++[(rdL p0.fTracks s16.1).fID]))))else some (.inl (w64 (s16.1+1),s16.2)))))))else some (.inr (s16.1,s16.2)))
def jR (p0:TR) (p1:Int) (p2:Int) (p3:Int) (p4:Int):Option ((List Int) × Int) :=
 ((lQ p0 p1 p2 p3 p4).bind fun y2=>(if(y2.2 !=0)=true then some ([],y2.2)else((aK (lg p0 p1 p2 p3 p4 y2) (0,([]:List Int))).bind fun u17=>((cJ u17.2).bind fun y58=>some (y58,0)))))
def cx (p0:(List Int)) (p1:(List Int)) (s3:(Bool × Int)):Option ((Bool × Int) ⊕ ((Bool × Int) ⊕ (Bool × Int))) :=
 (if decide (s3.2<(p0.length:Int))=true then ap ((0:Int)≤s3.2∧s3.2<(p0.length:Int)) (ap ((0:Int)≤s3.2∧s3.2<(p1.length:Int)) ((if((rdL p0 s3.2) !=(rdL p1 s3.2))=true then some (.inr (.inl (false,s3.2)))else some (.inl (s3.1,w64 (s3.2+1))))))else some (.inr (.inr (s3.1,s3.2))))
def bK (p0:(List Int)) (p1:(List Int)):Option Bool :=
 (if((p0.length:Int) !=(p1.length:Int))=true then some false else((aK (cx p0 p1) (false,0)).bind fun u4=>match u4 with|(.inl u10)=>some u10.1|(.inr u11)=>some true))
def dv (p0:(List TO)) (p1:TO→Option Bool) (s2:(Int × Int)):Option ((Int × Int) ⊕ ((Int × Int) ⊕ (Int × Int))) :=
 (if decide (s2.2<(p0.length:Int))=true then ap ((0:Int)≤s2.2∧s2.2<(p0.length:Int)) (((p1 (TO.mk ((rdL p0 s2.2).fID) (TSpan.mk ((rdL p0 s2.2).fH.fLo) ((rdL p0 s2.2).fH.fHi)) ((rdL p0 s2.2).fD) ((rdL p0 s2.2).fW))).bind fun y6=>(if y6=true then some (.inr (.inl (s2.2,s2.2)))else some (.inl (s2.1,w64 (s2.2+1))))))else some (.inr (.inr (s2.1,s2.2))))
def cr (p0:(List TO)) (p1:TO→Option Bool):Option Int :=
 ((aK (dv p0 p1) (0,0)).bind fun u3=>match u3 with|(.inl u10)=>some u10.1|(.inr u11)=>some (-1))
def df (p0:(List TO)) (p1:TO→Option Bool):Option Int :=
 ((cr p0 p1).bind fun y1=>some y1)
def jh (p0:TO) (cap0:Int):Option Bool :=
 some (p0.fID==cap0)
def jp (p0:TY) (p1:Int):Option Int :=
 ((df p0.fR (fun x3=>jh x3 p1)).bind fun y4=>some y4)
def eo (p0:(List TBay)) (p1:TBay→Option Bool) (s2:(Int × Int)):Option ((Int × Int) ⊕ ((Int × Int) ⊕ (Int × Int))) :=
 (if decide (s2.2<(p0.length:Int))=true then ap ((0:Int)≤s2.2∧s2.2<(p0.length:Int)) (((p1 (TBay.mk ((rdL p0 s2.2).fID) ((rdL p0 s2.2).fHour) ((rdL p0 s2.2).fD))).bind fun y6=>(if y6=true then some (.inr (.inl (s2.2,s2.2)))else some (.inl (s2.1,w64 (s2.2+1))))))else some (.inr (.inr (s2.1,s2.2))))
def dw (p0:(List TBay)) (p1:TBay→Option Bool):Option Int :=
 ((aK (eo p0 p1) (0,0)).bind fun u3=>match u3 with|(.inl u10)=>some u10.1|(.inr u11)=>some (-1))
def dM (p0:(List TBay)) (p1:TBay→Option Bool):Option Int :=
 ((dw p0 p1).bind fun y1=>some y1)
def kP (p0:TBay) (cap0:Int):Option Bool :=
 some (p0.fID==cap0)
def nH (p0:TY) (p1:Int):Option Int :=
 ((dM p0.fB (fun x3=>kP x3 p1)).bind fun y4=>some y4)
def jz (p0:TY) (s5:(Int × Int)):Option ((Int × Int) ⊕ ((Int × Int) ⊕ (Int × Int))) :=
 (if decide (s5.2<(p0.fB.length:Int))=true then ap ((0:Int)≤s5.2∧s5.2<(p0.fB.length:Int)) (((bl ((rdL p0.fB s5.2).fID) 1 1099511627776).bind fun y10=>((if(!y10)=true then(some (true))else((c8 ((rdL p0.fB s5.2).fHour)).bind fun y24=>some ((!y24)))).bind fun b13=>((if b13=true then(some (true))else((bl ((rdL p0.fB s5.2).fD) 0 9).bind fun y22=>some ((!y22)))).bind fun b16=>(if b16=true then some (.inr (.inl (1,s5.2)))else((nH p0 ((rdL p0.fB s5.2).fID)).bind fun y19=>(if decide (y19<s5.2)=true then some (.inr (.inl (6,s5.2)))else some (.inl (s5.1,w64 (s5.2+1))))))))))else some (.inr (.inr (s5.1,s5.2))))
def jG (p0:TY) (s30:(Int × Int)):Option ((Int × Int) ⊕ ((Int × Int) ⊕ (Int × Int))) :=
 (if decide (s30.2<(p0.fR.length:Int))=true then ap ((0:Int)≤s30.2∧s30.2<(p0.fR.length:Int)) (((bl ((rdL p0.fR s30.2).fID) 1 1099511627776).bind fun y35=>((if(!y35)=true then(some (true))else((c8 ((rdL p0.fR s30.2).fH.fLo)).bind fun y60=>some ((!y60)))).bind fun b38=>((if b38=true then(some (true))else((c8 ((rdL p0.fR s30.2).fH.fHi)).bind fun y58=>some ((!y58)))).bind fun b41=>((if(b41||(decide ((rdL p0.fR s30.2).fH.fHi<(rdL p0.fR s30.2).fH.fLo)))=true then(some (true))else((bl ((rdL p0.fR s30.2).fD) 0 9).bind fun y56=>some ((!y56)))).bind fun b45=>((if b45=true then(some (true))else((bl ((rdL p0.fR s30.2).fW) 1 1000).bind fun y54=>some ((!y54)))).bind fun b48=>(if b48=true then some (.inr (.inl (1,s30.2)))else((jp p0 ((rdL p0.fR s30.2).fID)).bind fun y51=>(if decide (y51<s30.2)=true then some (.inr (.inl (6,s30.2)))else some (.inl (s30.1,w64 (s30.2+1))))))))))))else some (.inr (.inr (s30.1,s30.2))))
def dg (p0:TY):Option Int :=
 (if((decide (24<(p0.fB.length:Int)))||(decide (24<(p0.fR.length:Int))))=true then some 2 else((aK (jz p0) (0,0)).bind fun u6=>match u6 with|(.inl u27)=>some u27.1|(.inr u28)=>((aK (jG p0) (u28.1,0)).bind fun u31=>match u31 with|(.inl u63)=>some u63.1|(.inr u64)=>some 0)))
def jB (p0:TO) (p1:TBay):Option Bool :=
 ((bl p1.fHour p0.fH.fLo p0.fH.fHi).bind fun y3=>some (y3&&(decide (p0.fD≤p1.fD))))
def bP (p0:Int) (cap0:TY) (rec_:Int→TY→(List (Int × Bool))→(List (Int × Int))→Option (Bool × (List (Int × Bool)) × (List (Int × Int)))) (s3:(Bool × Int × (List (Int × Bool)) × (List (Int × Int)))):Option ((Bool × Int × (List (Int × Bool)) × (List (Int × Int))) ⊕ ((Bool × Int × (List (Int × Bool)) × (List (Int × Int))) ⊕ (Bool × Int × (List (Int × Bool)) × (List (Int × Int))))) :=
 (if decide (s3.2.1<(cap0.fB.length:Int))=true then ap ((0:Int)≤s3.2.1∧s3.2.1<(cap0.fB.length:Int)) (ap (eg s3.2.1=true) (((if aA false s3.2.2.1 s3.2.1=true then(some (true))else(ap ((0:Int)≤p0∧p0<(cap0.fR.length:Int)) (((jB (TO.mk ((rdL cap0.fR p0).fID) (TSpan.mk ((rdL cap0.fR p0).fH.fLo) ((rdL cap0.fR p0).fH.fHi)) ((rdL cap0.fR p0).fD) ((rdL cap0.fR p0).fW)) (TBay.mk ((rdL cap0.fB s3.2.1).fID) ((rdL cap0.fB s3.2.1).fHour) ((rdL cap0.fB s3.2.1).fD))).bind fun y22=>some ((!y22)))))).bind fun b10=>(if b10=true then some (.inl (s3.1,w64 (s3.2.1+1),s3.2.2.1,s3.2.2.2))else ap (eg s3.2.1=true∧List.length s3.2.2.1<1000000000) (ap (eg s3.2.1=true) ((if(!(bm s3.2.2.2 s3.2.1))=true then(ap (eg s3.2.1=true∧List.length s3.2.2.2<1000000000) (some (.inr (.inl (true,s3.2.1,((s3.2.1,true)::s3.2.2.1),((s3.2.1,p0)::s3.2.2.2))))))else((rec_ (aA 0 s3.2.2.2 s3.2.1) cap0 ((s3.2.1,true)::s3.2.2.1) s3.2.2.2).bind fun y17=>(if y17.1=true then ap (eg s3.2.1=true∧List.length y17.2.2<1000000000) (some (.inr (.inl (true,s3.2.1,y17.2.1,((s3.2.1,p0)::y17.2.2)))))else some (.inl (s3.1,w64 (s3.2.1+1),y17.2.1,y17.2.2)))))))))))else some (.inr (.inr (s3.1,s3.2.1,s3.2.2.1,s3.2.2.2))))
def dP (rec_:Int→TY→(List (Int × Bool))→(List (Int × Int))→Option (Bool × (List (Int × Bool)) × (List (Int × Int)))) (p0:Int) (cap0:TY) (cap1:(List (Int × Bool))) (cap2:(List (Int × Int))):Option (Bool × (List (Int × Bool)) × (List (Int × Int))) :=
 ((aK (bP p0 cap0 rec_) (false,0,cap1,cap2)).bind fun u4=>match u4 with|(.inl u25)=>some (u25.1,u25.2.2.1,u25.2.2.2)|(.inr u26)=>some (false,u26.2.2.1,u26.2.2.2))
def bv:Nat→Int→TY→(List (Int × Bool))→(List (Int × Int))→Option (Bool × (List (Int × Bool)) × (List (Int × Int)))
 | 0=>fun _ _ _ _=>none
 | fuel+1=>dP (bv fuel)
def gb (p0:(List (Int × Int))) (p1:TY) (p2:Int):Option (Bool × (List (Int × Int))) :=
 ((bv (p1.fB.length+2) p2 p1 [] p0).bind fun y6=>some (y6.1,y6.2.2))
def cP (p0:(List Int)) (p1:Int) (p3:Int→Int→Option Int) (s8:(Int × (List Int))):Option ((Int × (List Int)) ⊕ (Int × (List Int))) :=
 ((if decide (p1<s8.1)=true then(ap ((0:Int)≤s8.1∧s8.1<(p0.length:Int)) (ap ((0:Int)≤w64 (s8.1-1)∧w64 (s8.1-1)<(p0.length:Int)) (((p3 (rdL s8.2 s8.1) (rdL s8.2 (w64 (s8.1-1)))).bind fun y21=>some (decide (y21<0))))))else(some (false))).bind fun b11=>(if b11=true then ap ((0:Int)≤w64 (s8.1-1)∧w64 (s8.1-1)<(p0.length:Int)) (ap ((0:Int)≤s8.1∧s8.1<(p0.length:Int)) (ap ((0:Int)≤s8.1∧s8.1<(p0.length:Int)) (ap ((0:Int)≤w64 (s8.1-1)∧w64 (s8.1-1)<(p0.length:Int)) (some (.inl (w64 (s8.1-1),((s8.2.set (Int.toNat s8.1) (rdL s8.2 (w64 (s8.1-1)))).set (Int.toNat (w64 (s8.1-1))) (rdL s8.2 s8.1))))))))else some (.inr (s8.1,s8.2))))
def cQ (p0:(List Int)) (p1:Int) (p2:Int) (p3:Int→Int→Option Int) (s3:(Int × (List Int))):Option ((Int × (List Int)) ⊕ (Int × (List Int))) :=
 (if decide (s3.1<p2)=true then((aK (cP p0 p1 p3) (s3.1,s3.2)).bind fun u9=>some (.inl (w64 (s3.1+1),u9.2)))else some (.inr (s3.1,s3.2)))
def bT (p0:(List Int)) (p1:Int) (p2:Int) (p3:Int→Int→Option Int):Option (List Int) :=
 ((aK (cQ p0 p1 p2 p3) (w64 (p1+1),p0)).bind fun u4=>some u4.2)
def eK (p1:Int) (s2:(Int × Int)):Option ((Int × Int) ⊕ (Int × Int)) :=
 ap (decide (s2.2≤p1)=false) (some (.inr (s2.1,s2.2)))
def eF (p1:Int) (s10:(Int × Int × Int)):Option ((Int × Int × Int) ⊕ (Int × Int × Int)) :=
 ap (decide (s10.1<p1)=false) (some (.inr (s10.1,s10.2.1,s10.2.2)))
def dH (p0:(List Int)) (p1:Int) (p2:Int→Int→Option Int):Option (List Int) :=
 ((aK (eK p1) (0,20)).bind fun u3=>((bT p0 u3.1 p1 p2).bind fun y6=>((aK (eF p1) (20,u3.1,u3.2)).bind fun u11=>some y6)))
def cn (p0:(List Int)) (p1:Int→Int→Option Int):Option (List Int) :=
 ((dH p0 (p0.length:Int) p1).bind fun y1=>some y1)
def iF (p0:Int) (p1:Int):Option Int :=
 ((dQ p0).bind fun y1=>((dQ p1).bind fun y3=>(if y1=true then(if y3=true then some 0 else some (-1))else(if y3=true then some 1 else(if decide (p0<p1)=true then some (-1)else(if decide (p1<p0)=true then some 1 else some 0))))))
def jd (p0:Int) (p1:Int) (cap0:TY):Option Int :=
 ap ((0:Int)≤p1∧p1<(cap0.fR.length:Int)) (ap ((0:Int)≤p0∧p0<(cap0.fR.length:Int)) (((iF ((rdL cap0.fR p1).fW) ((rdL cap0.fR p0).fW)).bind fun y3=>some y3)))
def lS (p0:TY) (s4:(Int × (List Int))):Option ((Int × (List Int)) ⊕ (Int × (List Int))) :=
 (if decide (s4.1<(p0.fR.length:Int))=true then ap (s4.2.length+1≤1000000000) (some (.inl (w64 (s4.1+1),(s4.2++[s4.1]))))else some (.inr (s4.1,s4.2)))
def l7 (p0:TY) (u5:(Int × (List Int))) (y14:(List Int)) (s20:(Int × (List (Int × Int)))):Option ((Int × (List (Int × Int))) ⊕ (Int × (List (Int × Int)))) :=
 (if decide (s20.1<(u5.2.length:Int))=true then ap ((0:Int)≤s20.1∧s20.1<(u5.2.length:Int)) (((gb s20.2 p0 (rdL y14 s20.1)).bind fun y24=>some (.inl (w64 (s20.1+1),y24.2))))else some (.inr (s20.1,s20.2)))
def kS (p0:TY):Option (List (Int × Int)) :=
 ((aK (lS p0) (0,([]:List Int))).bind fun u5=>((cn u5.2 (fun x12 x13=>jd x12 x13 p0)).bind fun y14=>((aK (l7 p0 u5 y14) (0,[])).bind fun u21=>some u21.2)))
def fJ (p0:(List (Int × Int))) (p1:TY):Option Int :=
 ap ((g7 p0).all (fun y5=>eg y5&&decide (((0:Int)≤aA 0 p0 y5∧aA 0 p0 y5<(p1.fR.length:Int))))=true) (some ((g7 p0).foldl (fun a y5=>w64 (a+((rdL p1.fR (aA 0 p0 y5)).fW))) 0))
def fZ (p0:TY):Option Int :=
 ((kS p0).bind fun y2=>((fJ y2 p0).bind fun y5=>some y5))
def jI (p0__:TO) (p1:Int→Option Int) (cap0:Int):Option Bool :=
 ((p1 0).bind fun y2=>some (decide (y2<cap0)))
def kE (p0:TO) (p1:Int→Option Int) (cap0:Int):Option Bool :=
 ((p1 (w64 (p0.fW+1))).bind fun y2=>some (y2==cap0))
def dF (p0:(List TO)):Option (List TO) :=
 ap (0+p0.length≤1000000000) (some (([]:List TO)++p0))
def fV (p0:Int) (cap0:TY) (cap1:Int):Option Int :=
 ((dF cap0.fR).bind fun y2=>ap ((0:Int)≤cap1∧cap1<(y2.length:Int)) (((fZ (TY.mk cap0.fB (y2.set (Int.toNat cap1) (TO.mk ((rdL y2 cap1).fID) (TSpan.mk ((rdL y2 cap1).fH.fLo) ((rdL y2 cap1).fH.fHi)) ((rdL y2 cap1).fD) p0)))).bind fun y10=>some y10)))
def gX (p0:TY) (cap0:Int) (s4:(Int × (List Int))):Option ((Int × (List Int)) ⊕ (Int × (List Int))) :=
 (if decide (s4.1<(p0.fR.length:Int))=true then ap ((0:Int)≤s4.1∧s4.1<(p0.fR.length:Int)) (((jI (TO.mk ((rdL p0.fR s4.1).fID) (TSpan.mk ((rdL p0.fR s4.1).fH.fLo) ((rdL p0.fR s4.1).fH.fHi)) ((rdL p0.fR s4.1).fD) ((rdL p0.fR s4.1).fW)) (fun x10=>fV x10 p0 s4.1) cap0).bind fun y11=>(if y11=true then ap (s4.2.length+1≤1000000000) (some (.inl (w64 (s4.1+1),(s4.2++[(rdL p0.fR s4.1).fID]))))else some (.inl (w64 (s4.1+1),s4.2)))))else some (.inr (s4.1,s4.2)))
def gp (p0:TY) (cap0:Int):Option (List Int) :=
 ((aK (gX p0 cap0) (0,([]:List Int))).bind fun u5=>((cJ u5.2).bind fun y19=>some y19))
def hY (p0:TY) (cap0:Int) (s4:(Int × (List Int))):Option ((Int × (List Int)) ⊕ (Int × (List Int))) :=
 (if decide (s4.1<(p0.fR.length:Int))=true then ap ((0:Int)≤s4.1∧s4.1<(p0.fR.length:Int)) (((kE (TO.mk ((rdL p0.fR s4.1).fID) (TSpan.mk ((rdL p0.fR s4.1).fH.fLo) ((rdL p0.fR s4.1).fH.fHi)) ((rdL p0.fR s4.1).fD) ((rdL p0.fR s4.1).fW)) (fun x10=>fV x10 p0 s4.1) cap0).bind fun y11=>(if y11=true then ap (s4.2.length+1≤1000000000) (some (.inl (w64 (s4.1+1),(s4.2++[(rdL p0.fR s4.1).fID]))))else some (.inl (w64 (s4.1+1),s4.2)))))else some (.inr (s4.1,s4.2)))
def gE (p0:TY) (cap0:Int):Option (List Int) :=
 ((aK (hY p0 cap0) (0,([]:List Int))).bind fun u5=>((cJ u5.2).bind fun y19=>some y19))
def lF (p0:TY):Option ((List Int) × Int) :=
 ((dg p0).bind fun y2=>(if(y2 !=0)=true then some ([],y2)else((fZ p0).bind fun y5=>((gp p0 y5).bind fun y8=>some (y8,0)))))
def mS (p0:TY):Option ((List Int) × Int) :=
 ((dg p0).bind fun y2=>(if(y2 !=0)=true then some ([],y2)else((fZ p0).bind fun y5=>((gE p0 y5).bind fun y8=>some (y8,0)))))
def mL (p0:Int) (cap0:(List (Int × Int))) (cap1:TY):Option (Bool × (List (Int × Int))) :=
 ((jp cap1 p0).bind fun y1=>((gb cap0 cap1 y1).bind fun y3=>some ((!y3.1),y3.2)))
def dk (p0:(List Int)) (cap1:TY) (s3:(Int × Int × (List (Int × Int)))):Option ((Int × Int × (List (Int × Int))) ⊕ ((Int × Int × (List (Int × Int))) ⊕ (Int × Int × (List (Int × Int))))) :=
 (if decide (s3.2.1<(p0.length:Int))=true then ap ((0:Int)≤s3.2.1∧s3.2.1<(p0.length:Int)) (((mL (rdL p0 s3.2.1) s3.2.2 cap1).bind fun y7=>(if y7.1=true then some (.inr (.inl (s3.2.1,s3.2.1,y7.2)))else some (.inl (s3.1,w64 (s3.2.1+1),y7.2)))))else some (.inr (.inr (s3.1,s3.2.1,s3.2.2))))
def cm (p0:(List Int)) (cap0:(List (Int × Int))) (cap1:TY):Option (Int × (List (Int × Int))) :=
 ((aK (dk p0 cap1) (0,0,cap0)).bind fun u4=>match u4 with|(.inl u11)=>some (u11.1,u11.2.2)|(.inr u12)=>some ((-1),u12.2.2))
def bn (p0:(List Int)) (p1:Int→Option Bool) (s2:(Int × Int)):Option ((Int × Int) ⊕ ((Int × Int) ⊕ (Int × Int))) :=
 (if decide (s2.2<(p0.length:Int))=true then ap ((0:Int)≤s2.2∧s2.2<(p0.length:Int)) (((p1 (rdL p0 s2.2)).bind fun y6=>(if y6=true then some (.inr (.inl (s2.2,s2.2)))else some (.inl (s2.1,w64 (s2.2+1))))))else some (.inr (.inr (s2.1,s2.2))))
def bz (p0:(List Int)) (p1:Int→Option Bool):Option Int :=
 ((aK (bn p0 p1) (0,0)).bind fun u3=>match u3 with|(.inl u10)=>some u10.1|(.inr u11)=>some (-1))
def fO (p0:(List Int)) (cap0:(List (Int × Int))) (cap1:TY):Option (Int × (List (Int × Int))) :=
 ((cm p0 cap0 cap1).bind fun y1=>some (y1.1,y1.2))
def gM (p0:(List Int)) (p1:Int→Option Bool):Option Int :=
 ((bz p0 p1).bind fun y1=>some y1)
def nE (p0:TY) (p1:(List Int)):Option Bool :=
 ((fO p1 [] p0).bind fun y4=>some (decide (y4.1<0)))
def bN (p0:(List Int)):Option (List Int) :=
 ap (0+p0.length≤1000000000) (some (([]:List Int)++p0))
def ef (p0:(List Int)) (p1:Int→Option Bool) (s6:(Int × Int × (List Int))):Option ((Int × Int × (List Int)) ⊕ (Int × Int × (List Int))) :=
 (if decide (s6.2.1<(p0.length:Int))=true then ap ((0:Int)≤s6.2.1∧s6.2.1<(p0.length:Int)) (((p1 (rdL s6.2.2 s6.2.1)).bind fun y10=>(if(!y10)=true then ap ((0:Int)≤s6.1∧s6.1<(p0.length:Int)) (some (.inl (w64 (s6.1+1),w64 (s6.2.1+1),(s6.2.2.set (Int.toNat s6.1) (rdL s6.2.2 s6.2.1)))))else some (.inl (s6.1,w64 (s6.2.1+1),s6.2.2)))))else some (.inr (s6.1,s6.2.1,s6.2.2)))
def dc (p0:(List Int)) (p1:Int→Option Bool):Option (List Int) :=
 ((bz p0 p1).bind fun y1=>(if(y1==(-1))=true then some p0 else((aK (ef p0 p1) (y1,w64 (y1+1),p0)).bind fun u7=>ap ((0:Int)≤u7.1∧u7.1≤(p0.length:Int)) (ap ((0:Int)≤u7.1∧u7.1≤(p0.length:Int)) (some (u7.2.2.take (Int.toNat u7.1)))))))
def gQ (p0:Int) (cap0:Int):Option Bool :=
 some (p0==cap0)
def kF (p0:TY) (p1:(List Int)) (s6:(Int × Int)):Option ((Int × Int) ⊕ ((Int × Int) ⊕ (Int × Int))) :=
 (if decide (s6.2<(p1.length:Int))=true then ap ((0:Int)≤s6.2∧s6.2<(p1.length:Int)) (((jp p0 (rdL p1 s6.2)).bind fun y10=>((if decide (y10<0)=true then(some (true))else((if decide (0<s6.2)=true then(ap ((0:Int)≤w64 (s6.2-1)∧w64 (s6.2-1)<(p1.length:Int)) (some (decide ((rdL p1 s6.2)≤(rdL p1 (w64 (s6.2-1)))))))else(some (false))).bind fun b17=>some (b17))).bind fun b13=>(if b13=true then some (.inr (.inl (1,s6.2)))else some (.inl (s6.1,w64 (s6.2+1)))))))else some (.inr (.inr (s6.1,s6.2))))
def ky (p0:TY) (p1:(List Int)) (s34:(Int × (List Int))):Option ((Int × (List Int)) ⊕ (Int × (List Int))) :=
 (if decide (s34.1<(p1.length:Int))=true then ap ((0:Int)≤s34.1∧s34.1<(p1.length:Int)) (((bN s34.2).bind fun y39=>((dc y39 (fun x45=>gQ x45 (rdL p1 s34.1))).bind fun y46=>((nE p0 y46).bind fun y50=>(if(!y50)=true then some (.inl (w64 (s34.1+1),y46))else some (.inl (w64 (s34.1+1),s34.2)))))))else some (.inr (s34.1,s34.2)))
def kn (p0:TY) (p1:(List Int)):Option ((List Int) × Int) :=
 ((dg p0).bind fun y2=>(if(y2 !=0)=true then some ([],y2)else((aK (kF p0 p1) (0,0)).bind fun u7=>match u7 with|(.inl u21)=>some (([]:List Int),u21.1)|(.inr u22)=>((nE p0 p1).bind fun y23=>(if y23=true then some ([],5)else((bN p1).bind fun y26=>((aK (ky p0 p1) (0,y26)).bind fun u35=>some (u35.2,0))))))))
def er (p0:(List TBay)) (p1:Int) (p2:Int):Option (List TBay) :=
 ap ((0:Int)≤p1∧p1≤p2∧p2≤(p0.length:Int)∧(p0.length:Int)≤(p0.length:Int)) ((if(p1==p2)=true then some p0 else ap ((0:Int)≤p1∧p1≤(p0.length:Int)) (ap ((0:Int)≤p2∧p2≤(p0.length:Int)) (ap (p1≤p2) (some (p0.take (Int.toNat p1)++p0.drop (Int.toNat p2)))))))
def fc (p0:(List TBay)):Option (List TBay) :=
 ap (0+p0.length≤1000000000) (some (([]:List TBay)++p0))
def je (p0:TY) (p1:Int):Option TY :=
 ((fc p0.fB).bind fun y4=>((er y4 p1 (w64 (p1+1))).bind fun y10=>some (TY.mk y10 p0.fR)))
def n1 (p0:TY) (p1:Int):Option (Int × Int) :=
 ((dg p0).bind fun y2=>(if(y2 !=0)=true then some (0,y2)else((nH p0 p1).bind fun y5=>(if decide (y5<0)=true then some (0,5)else((fZ p0).bind fun y8=>((je p0 y5).bind fun y10=>((fZ (TY.mk y10.fB p0.fR)).bind fun y20=>some (w64 (y8-y20),0))))))))
def na (p0:TY) (y6:Int) (s27:(Int × (List Int))):Option ((Int × (List Int)) ⊕ (Int × (List Int))) :=
 (if decide (s27.1<(p0.fB.length:Int))=true then((je p0 s27.1).bind fun y31=>((fZ (TY.mk y31.fB p0.fR)).bind fun y41=>ap (s27.2.length+1≤1000000000) (some (.inl (w64 (s27.1+1),(s27.2++[w64 (y6-y41)]))))))else some (.inr (s27.1,s27.2)))
def nZ (p0:TY) (p1:(List (Int × Int))):Option TPlan :=
 ap ((0:Int)≤(p0.fR.length:Int)∧(p0.fR.length:Int)*8≤281474976710656) (((fJ p1 p0).bind fun y6=>ap ((g7 p1).all (fun y12=>eg y12&&decide (((0:Int)≤y12∧y12<(p0.fB.length:Int))∧((0:Int)≤aA 0 p1 y12∧aA 0 p1 y12<((Int.toNat (p0.fR.length:Int):Nat):Int))))=true) (ap (((g7 p1).map (fun y12=>Int.toNat (aA 0 p1 y12))).Nodup) (((aK (na p0 y6) (0,([]:List Int))).bind fun u28=>some (TPlan.mk ((g7 p1).foldl (fun a y12=>a.set (Int.toNat (aA 0 p1 y12)) ((rdL p0.fB y12).fID)) (List.replicate (Int.toNat (p0.fR.length:Int)) 0)) y6 u28.2))))))
def mN (p0:TY):Option (TPlan × Int) :=
 ((dg p0).bind fun y3=>(if(y3 !=0)=true then some ((TPlan.mk ([]:(List Int)) 0 ([]:(List Int))),y3)else((kS p0).bind fun y6=>((nZ p0 y6).bind fun y9=>some (y9,0)))))
def aW (p0:Int) (p1:Int) (p2:Int):Option Bool :=
 some ((decide (p1≤p0))&&(decide (p0≤p2)))
def cV (p0:Int):Option Bool :=
 ((aW p0 0 16384).bind fun y1=>some y1)
def ja (p0:TY) (s5:(Int × Int)) (s20:(Int × Int)):Option ((Int × Int) ⊕ ((Int × Int) ⊕ (Int × Int))) :=
 (if decide (s20.2<s5.2)=true then ap ((0:Int)≤s20.2∧s20.2<(p0.fB.length:Int)) ((if(((rdL p0.fB s20.2).fID)==((rdL p0.fB s5.2).fID))=true then some (.inr (.inl (6,s20.2)))else some (.inl (s20.1,w64 (s20.2+1)))))else some (.inr (.inr (s20.1,s20.2))))
def jg (p0:TY) (s5:(Int × Int)):Option ((Int × Int) ⊕ ((Int × Int) ⊕ (Int × Int))) :=
 (if decide (s5.2<(p0.fB.length:Int))=true then ap ((0:Int)≤s5.2∧s5.2<(p0.fB.length:Int)) (((aW ((rdL p0.fB s5.2).fID) 1 1099511627776).bind fun y10=>((cV ((rdL p0.fB s5.2).fHour)).bind fun y12=>((aW ((rdL p0.fB s5.2).fD) 0 9).bind fun y14=>(if(((!y10)||(!y12))||(!y14))=true then some (.inr (.inl (1,s5.2)))else((aK (ja p0 s5) (s5.1,0)).bind fun u21=>match u21 with|(.inl u26)=>some (.inr (.inl (u26.1,s5.2)))|(.inr u27)=>some (.inl (u27.1,w64 (s5.2+1)))))))))else some (.inr (.inr (s5.1,s5.2))))
def ji (p0:TY) (s32:(Int × Int)) (s54:(Int × Int)):Option ((Int × Int) ⊕ ((Int × Int) ⊕ (Int × Int))) :=
 (if decide (s54.2<s32.2)=true then ap ((0:Int)≤s54.2∧s54.2<(p0.fR.length:Int)) ((if(((rdL p0.fR s54.2).fID)==((rdL p0.fR s32.2).fID))=true then some (.inr (.inl (6,s54.2)))else some (.inl (s54.1,w64 (s54.2+1)))))else some (.inr (.inr (s54.1,s54.2))))
def jc (p0:TY) (s32:(Int × Int)):Option ((Int × Int) ⊕ ((Int × Int) ⊕ (Int × Int))) :=
 (if decide (s32.2<(p0.fR.length:Int))=true then ap ((0:Int)≤s32.2∧s32.2<(p0.fR.length:Int)) (((aW ((rdL p0.fR s32.2).fID) 1 1099511627776).bind fun y37=>((cV ((rdL p0.fR s32.2).fH.fLo)).bind fun y39=>((cV ((rdL p0.fR s32.2).fH.fHi)).bind fun y41=>((aW ((rdL p0.fR s32.2).fD) 0 9).bind fun y43=>((aW ((rdL p0.fR s32.2).fW) 1 1000).bind fun y45=>(if((((((!y37)||(!y39))||(!y41))||(decide ((rdL p0.fR s32.2).fH.fHi<(rdL p0.fR s32.2).fH.fLo)))||(!y43))||(!y45))=true then some (.inr (.inl (1,s32.2)))else((aK (ji p0 s32) (s32.1,0)).bind fun u55=>match u55 with|(.inl u60)=>some (.inr (.inl (u60.1,s32.2)))|(.inr u61)=>some (.inl (u61.1,w64 (s32.2+1)))))))))))else some (.inr (.inr (s32.1,s32.2))))
def iG (p0:TY):Option Int :=
 (if((decide (24<(p0.fB.length:Int)))||(decide (24<(p0.fR.length:Int))))=true then some 2 else((aK (jg p0) (0,0)).bind fun u6=>match u6 with|(.inl u29)=>some u29.1|(.inr u30)=>((aK (jc p0) (u30.1,0)).bind fun u33=>match u33 with|(.inl u63)=>some u63.1|(.inr u64)=>some 0)))
def m5 (p0:TY) (p1:Int) (s3:(Int × Int)):Option ((Int × Int) ⊕ ((Int × Int) ⊕ (Int × Int))) :=
 (if decide (s3.2<(p0.fB.length:Int))=true then ap ((0:Int)≤s3.2∧s3.2<(p0.fB.length:Int)) ((if(((rdL p0.fB s3.2).fID)==p1)=true then some (.inr (.inl (s3.2,s3.2)))else some (.inl (s3.1,w64 (s3.2+1)))))else some (.inr (.inr (s3.1,s3.2))))
def oI (p0:TY) (p1:Int):Option Int :=
 ((aK (m5 p0 p1) (0,0)).bind fun u4=>match u4 with|(.inl u9)=>some u9.1|(.inr u10)=>some (-1))
def iJ (p0:TY) (p1:Int) (p2:Int):Option Bool :=
 ap ((0:Int)≤p2∧p2<(p0.fB.length:Int)) (ap ((0:Int)≤p1∧p1<(p0.fR.length:Int)) (ap ((0:Int)≤p1∧p1<(p0.fR.length:Int)) (((aW ((rdL p0.fB p2).fHour) ((rdL p0.fR p1).fH.fLo) ((rdL p0.fR p1).fH.fHi)).bind fun y5=>((if y5=true then(ap ((0:Int)≤p2∧p2<(p0.fB.length:Int)) (ap ((0:Int)≤p1∧p1<(p0.fR.length:Int)) (some (decide ((rdL p0.fR p1).fD≤(rdL p0.fB p2).fD)))))else(some (false))).bind fun b8=>some b8)))))
def lZ (p1:(List Int)) (s4:(Bool × Int × Int)) (s17:(Bool × Int)):Option ((Bool × Int) ⊕ ((Bool × Int) ⊕ (Bool × Int))) :=
 (if decide (s17.2<s4.2.2)=true then ap ((0:Int)≤s17.2∧s17.2<(p1.length:Int)) (ap ((0:Int)≤s4.2.2∧s4.2.2<(p1.length:Int)) ((if((rdL p1 s17.2)==(rdL p1 s4.2.2))=true then some (.inr (.inl (false,s17.2)))else some (.inl (s17.1,w64 (s17.2+1))))))else some (.inr (.inr (s17.1,s17.2))))
def ml (p0:TY) (p1:(List Int)) (s4:(Bool × Int × Int)):Option ((Bool × Int × Int) ⊕ ((Bool × Int × Int) ⊕ (Bool × Int × Int))) :=
 (if decide (s4.2.2<(p1.length:Int))=true then ap ((0:Int)≤s4.2.2∧s4.2.2<(p1.length:Int)) ((if((rdL p1 s4.2.2)==0)=true then some (.inl (s4.1,s4.2.1,w64 (s4.2.2+1)))else ap ((0:Int)≤s4.2.2∧s4.2.2<(p1.length:Int)) (((oI p0 (rdL p1 s4.2.2)).bind fun y10=>(if decide (y10<0)=true then some (.inr (.inl (false,s4.2.1,s4.2.2)))else((iJ p0 s4.2.2 y10).bind fun y13=>(if(!y13)=true then some (.inr (.inl (false,s4.2.1,s4.2.2)))else((aK (lZ p1 s4) (s4.1,0)).bind fun u18=>match u18 with|(.inl u24)=>some (.inr (.inl (u24.1,s4.2.1,s4.2.2)))|(.inr u25)=>ap ((0:Int)≤s4.2.2∧s4.2.2<(p0.fR.length:Int)) (some (.inl (u25.1,w64 (s4.2.1+((rdL p0.fR s4.2.2).fW)),w64 (s4.2.2+1))))))))))))else some (.inr (.inr (s4.1,s4.2.1,s4.2.2))))
def mB (p0:TY) (p1:(List Int)) (p2:Int):Option Bool :=
 (if((p1.length:Int) !=(p0.fR.length:Int))=true then some false else((aK (ml p0 p1) (false,0,0)).bind fun u5=>match u5 with|(.inl u28)=>some u28.1|(.inr u29)=>some (u29.2.1==p2)))
def kv (p1:(List Int)) (s4:(Int × Int × Int)):Option ((Int × Int × Int) ⊕ ((Int × Int × Int) ⊕ (Int × Int × Int))) :=
 (if decide (s4.2.2<(p1.length:Int))=true then ap ((0:Int)≤s4.2.2∧s4.2.2<(p1.length:Int)) (((aW (rdL p1 s4.2.2) 0 1000).bind fun y8=>(if(!y8)=true then some (.inr (.inl ((-1),s4.2.1,s4.2.2)))else ap ((0:Int)≤s4.2.2∧s4.2.2<(p1.length:Int)) (some (.inl (s4.1,w64 (s4.2.1+(rdL p1 s4.2.2)),w64 (s4.2.2+1)))))))else some (.inr (.inr (s4.1,s4.2.1,s4.2.2))))
def kD (p0:TY) (p1:(List Int)) (s16:(Int × Int)) (s21:(Int × Int)):Option ((Int × Int) ⊕ (Int × Int)) :=
 (if decide (s21.2<(p1.length:Int))=true then((iJ p0 s16.2 s21.2).bind fun y24=>(if y24=true then ap ((0:Int)≤s21.2∧s21.2<(p1.length:Int)) (some (.inl (min s21.1 (rdL p1 s21.2),w64 (s21.2+1))))else some (.inl (s21.1,w64 (s21.2+1)))))else some (.inr (s21.1,s21.2)))
def kk (p0:TY) (p1:(List Int)) (s16:(Int × Int)) (s30:(Bool × Int)):Option ((Bool × Int) ⊕ (Bool × Int)) :=
 (if decide (s30.2<(p1.length:Int))=true then((iJ p0 s16.2 s30.2).bind fun y33=>some (.inl ((s30.1||y33),w64 (s30.2+1))))else some (.inr (s30.1,s30.2)))
def kh (p0:TY) (p1:(List Int)) (s16:(Int × Int)):Option ((Int × Int) ⊕ (Int × Int)) :=
 (if decide (s16.2<(p0.fR.length:Int))=true then ap ((0:Int)≤s16.2∧s16.2<(p0.fR.length:Int)) (((aK (kD p0 p1 s16) ((rdL p0.fR s16.2).fW,0)).bind fun u22=>((aK (kk p0 p1 s16) (false,0)).bind fun u31=>(if u31.1=true then ap ((0:Int)≤s16.2∧s16.2<(p0.fR.length:Int)) (some (.inl (w64 ((w64 (s16.1+((rdL p0.fR s16.2).fW)))-u22.1),w64 (s16.2+1))))else some (.inl (s16.1,w64 (s16.2+1)))))))else some (.inr (s16.1,s16.2)))
def kA (p0:TY) (p1:(List Int)):Option Int :=
 (if((p1.length:Int) !=(p0.fB.length:Int))=true then some (-1)else((aK (kv p1) (0,0,0)).bind fun u5=>match u5 with|(.inl u13)=>some u13.1|(.inr u14)=>((aK (kh p0 p1) (u14.2.1,0)).bind fun u17=>some u17.1)))
def iU (p0:TY) (p1:TPlan):Option Int :=
 ((iG p0).bind fun y3=>(if(y3 !=0)=true then some y3 else((mB p0 p1.fG p1.fW).bind fun y6=>((if(!y6)=true then(some (true))else((kA p0 p1.fPrices).bind fun y12=>some ((y12 !=p1.fW)))).bind fun b9=>(if b9=true then some 8 else some 0)))))
def cW (p0:TR) (y6:(List (Ts × Tl))) (s12:(Int × (List (List Int)))):Option ((Int × (List (List Int))) ⊕ (Int × (List (List Int)))) :=
 (if decide (s12.1<p0.fPlaces)=true then((eP y6 s12.1).bind fun y15=>((bN y15).bind fun y20=>ap (s12.2.length+1≤1000000000) (some (.inl (w64 (s12.1+1),(s12.2++[y20]))))))else some (.inr (s12.1,s12.2)))
def cY (p0:TR) (p1:Int) (p2:Int):Option (TTimes × Int) :=
 ((dY p0 p1 p1 p2 0).bind fun y3=>(if(y3 !=0)=true then some ((TTimes.mk []),y3)else((fM p0 p1 p2).bind fun y6=>((aK (cW p0 y6) (0,([]:List (List Int)))).bind fun u13=>some ((TTimes.mk u13.2),0)))))
def mQ (p0:TR) (p1:Int) (p2:Int) (p3:Int):Option ((List TJ) × Int) :=
 ((dY p0 p1 p2 p3 0).bind fun y2=>(if(y2 !=0)=true then some ([],y2)else((kX p0 p1 p2 p3).bind fun y5=>some (y5,0))))
def iD  : Option TR :=
 some (TR.mk 3 [(TT.mk 1 0 1 5 0 ([]:(List TSpan))),(TT.mk 2 1 2 5 0 [(TSpan.mk 8 20)]),(TT.mk 3 0 2 9 6 ([]:(List TSpan))),(TT.mk 4 1 2 8 2 ([]:(List TSpan)))])
def i6  : Option TY :=
 some (TY.mk [(TBay.mk 1 10 3),(TBay.mk 2 11 5)] [(TO.mk 7 (TSpan.mk 10 11) 3 5),(TO.mk 8 (TSpan.mk 11 12) 4 9),(TO.mk 9 (TSpan.mk 10 11) 4 7)])
def mY (p0:TT) (p1:Int):Option (Int × Int) :=
 ((gz p0.fK).bind fun y2=>((if(!y2)=true then(some (true))else((c8 p1).bind fun y11=>some ((!y11)))).bind fun b5=>(if b5=true then some (0,1)else((f4 p0 p1).bind fun y8=>(if(!y8.2)=true then some (0,5)else some (y8.1,0))))))
def dR  : Option Bool :=
 ((iD).bind fun y1=>((i6).bind fun y14=>ap ((0:Int)≤1∧1<(y1.fTracks.length:Int)) (((mY (TT.mk ((rdL y1.fTracks 1).fID) ((rdL y1.fTracks 1).fFrom) ((rdL y1.fTracks 1).fTo) ((rdL y1.fTracks 1).fLong) ((rdL y1.fTracks 1).fToll) ((rdL y1.fTracks 1).fK)) 8).bind fun y26=>((cY y1 0 4).bind fun y28=>((mQ y1 0 2 4).bind fun y41=>((lQ y1 0 2 4 5).bind fun y53=>((lq y1 0 2 26 0).bind fun y64=>((jR y1 0 2 4 0).bind fun y66=>((jR y1 0 2 4 60).bind fun y72=>((if(((((((((y26.2 !=0)||(y28.2 !=0))||(y41.2 !=0))||(y53.2 !=0))||(y64.2 !=0))||(y66.2 !=0))||(y72.2 !=0))||(y26.1 !=21))||((y28.1.fH.length:Int) !=3))=true then(some (true))else(ap ((0:Int)≤2∧2<(y28.1.fH.length:Int)) (some (((((rdL y28.1.fH 2).length:Nat):Int) !=61))))).bind fun b87=>(if(b87||((y41.1.length:Int) !=3))=true then some false else ap ((0:Int)≤2∧2<(y28.1.fH.length:Int)) (ap ((0:Int)≤0∧0<(((rdL y28.1.fH 2).length:Nat):Int)) (((if((rdL (rdL y28.1.fH 2) 0)==26)=true then(ap ((0:Int)≤2∧2<(y28.1.fH.length:Int)) (ap ((0:Int)≤2∧2<(((rdL y28.1.fH 2).length:Nat):Int)) (some (((rdL (rdL y28.1.fH 2) 2)==17)))))else(some (false))).bind fun b94=>((if b94=true then(ap ((0:Int)≤2∧2<(y28.1.fH.length:Int)) (ap ((0:Int)≤6∧6<(((rdL y28.1.fH 2).length:Nat):Int)) (some (((rdL (rdL y28.1.fH 2) 6)==13)))))else(some (false))).bind fun b97=>((if b97=true then(ap ((0:Int)≤0∧0<(y41.1.length:Int)) (some ((((rdL y41.1 0).fToll)==0))))else(some (false))).bind fun b100=>((if b100=true then(ap ((0:Int)≤1∧1<(y41.1.length:Int)) (some ((((rdL y41.1 1).fA)==17))))else(some (false))).bind fun b103=>((if b103=true then(ap ((0:Int)≤2∧2<(y41.1.length:Int)) (some ((((rdL y41.1 2).fToll)==6))))else(some (false))).bind fun b106=>((if((b106&&(y53.1.fA==17))&&(y64.1==16))=true then((bK y66.1 [1,2]).bind fun y190=>some (y190))else(some (false))).bind fun b111=>((if b111=true then((bK y72.1 [3]).bind fun y187=>some (y187))else(some (false))).bind fun b114=>((mN y14).bind fun y116=>((lF y14).bind fun y135=>((mS y14).bind fun y141=>((kn y14 [7,8,9]).bind fun y148=>((n1 y14 1).bind fun y154=>((if((y116.2==0)&&(y116.1.fW==14))=true then((iU y14 y116.1).bind fun y184=>some ((y184==0)))else(some (false))).bind fun b158=>((if(b158&&(y135.2==0))=true then((bK y135.1 [7,8]).bind fun y182=>some (y182))else(some (false))).bind fun b162=>((if(b162&&(y141.2==0))=true then((bK y141.1 [9]).bind fun y179=>some (y179))else(some (false))).bind fun b166=>((if((b114&&b166)&&(y148.2==0))=true then((bK y148.1 [8,9]).bind fun y176=>some (y176))else(some (false))).bind fun b171=>some ((b171&&(y154.2==0))&&(y154.1==5))))))))))))))))))))))))))))))))
def dC (p0:(List TSpan)) (s3:(Bool × Int)):Option ((Bool × Int) ⊕ ((Bool × Int) ⊕ (Bool × Int))) :=
 (if decide (s3.2<(p0.length:Int))=true then ap ((0:Int)≤s3.2∧s3.2<(p0.length:Int)) (((cV ((rdL p0 s3.2).fLo)).bind fun y7=>ap ((0:Int)≤s3.2∧s3.2<(p0.length:Int)) (((cV ((rdL p0 s3.2).fHi)).bind fun y10=>((if((!y7)||(!y10))=true then(some (true))else(ap ((0:Int)≤s3.2∧s3.2<(p0.length:Int)) (ap ((0:Int)≤s3.2∧s3.2<(p0.length:Int)) (some (decide ((rdL p0 s3.2).fHi<(rdL p0 s3.2).fLo)))))).bind fun b14=>((if b14=true then(some (true))else((if decide (0<s3.2)=true then(ap ((0:Int)≤s3.2∧s3.2<(p0.length:Int)) (ap ((0:Int)≤max 0 (w64 (s3.2-1))∧max 0 (w64 (s3.2-1))<(p0.length:Int)) (some (decide ((rdL p0 s3.2).fLo<w64 (((rdL p0 (max 0 (w64 (s3.2-1)))).fHi)+2))))))else(some (false))).bind fun b21=>some (b21))).bind fun b17=>(if b17=true then some (.inr (.inl (false,s3.2)))else some (.inl (s3.1,w64 (s3.2+1))))))))))else some (.inr (.inr (s3.1,s3.2))))
def gV (p0:(List TSpan)):Option Bool :=
 (if decide (4<(p0.length:Int))=true then some false else((aK (dC p0) (false,0)).bind fun u4=>match u4 with|(.inl u28)=>some u28.1|(.inr u29)=>some true))
def iK (p0:TR) (p1:TT):Option Bool :=
 ((aW p1.fID 1 1099511627776).bind fun y3=>((aW p1.fFrom 0 (w64 (p0.fPlaces-1))).bind fun y5=>((aW p1.fTo 0 (w64 (p0.fPlaces-1))).bind fun y7=>((aW p1.fLong 1 72).bind fun y9=>((aW p1.fToll 0 40).bind fun y11=>((gV p1.fK).bind fun y13=>some ((((((y3&&y5)&&y7)&&(p1.fFrom !=p1.fTo))&&y9)&&y11)&&y13)))))))
def fj (p0:TR) (s6:(Int × Int)) (s14:(Int × Int)):Option ((Int × Int) ⊕ ((Int × Int) ⊕ (Int × Int))) :=
 (if decide (s14.2<s6.2)=true then ap ((0:Int)≤s14.2∧s14.2<(p0.fTracks.length:Int)) (ap ((0:Int)≤s6.2∧s6.2<(p0.fTracks.length:Int)) ((if(((rdL p0.fTracks s14.2).fID)==((rdL p0.fTracks s6.2).fID))=true then some (.inr (.inl (6,s14.2)))else some (.inl (s14.1,w64 (s14.2+1))))))else some (.inr (.inr (s14.1,s14.2))))
def fu (p0:TR) (s6:(Int × Int)):Option ((Int × Int) ⊕ ((Int × Int) ⊕ (Int × Int))) :=
 (if decide (s6.2<(p0.fTracks.length:Int))=true then ap ((0:Int)≤s6.2∧s6.2<(p0.fTracks.length:Int)) (((iK p0 (TT.mk ((rdL p0.fTracks s6.2).fID) ((rdL p0.fTracks s6.2).fFrom) ((rdL p0.fTracks s6.2).fTo) ((rdL p0.fTracks s6.2).fLong) ((rdL p0.fTracks s6.2).fToll) ((rdL p0.fTracks s6.2).fK))).bind fun y10=>(if(!y10)=true then some (.inr (.inl (1,s6.2)))else((aK (fj p0 s6) (s6.1,0)).bind fun u15=>match u15 with|(.inl u21)=>some (.inr (.inl (u21.1,s6.2)))|(.inr u22)=>some (.inl (u22.1,w64 (s6.2+1)))))))else some (.inr (.inr (s6.1,s6.2))))
def iL (p0:TR):Option Int :=
 (if((decide (p0.fPlaces<1))||(decide (16<p0.fPlaces)))=true then some 1 else(if decide (48<(p0.fTracks.length:Int))=true then some 2 else((aK (fu p0) (0,0)).bind fun u7=>match u7 with|(.inl u24)=>some u24.1|(.inr u25)=>some 0)))
def fU (p0:TR) (p1:Int) (p2:Int) (p3:Int) (p4:Int):Option Int :=
 ((iL p0).bind fun y2=>(if(y2 !=0)=true then some y2 else((aW p1 0 (w64 (p0.fPlaces-1))).bind fun y5=>((aW p2 0 (w64 (p0.fPlaces-1))).bind fun y7=>((cV p3).bind fun y9=>((aW p4 0 60).bind fun y11=>(if((((!y5)||(!y7))||(!y9))||(!y11))=true then some 1 else some 0)))))))
def dU (p0:TT) (s3:(Int × Int)):Option ((Int × Int) ⊕ (Int × Int)) :=
 (if decide (s3.2<(p0.fK.length:Int))=true then ap ((0:Int)≤s3.2∧s3.2<(p0.fK.length:Int)) (ap ((0:Int)≤s3.2∧s3.2<(p0.fK.length:Int)) (((aW s3.1 ((rdL p0.fK s3.2).fLo) ((rdL p0.fK s3.2).fHi)).bind fun y8=>(if y8=true then ap ((0:Int)≤s3.2∧s3.2<(p0.fK.length:Int)) (some (.inl (w64 (((rdL p0.fK s3.2).fHi)+1),w64 (s3.2+1))))else some (.inl (s3.1,w64 (s3.2+1)))))))else some (.inr (s3.1,s3.2)))
def iQ (p0:TT) (p1:Int):Option Int :=
 ((aK (dU p0) (p1,0)).bind fun u4=>((cV u4.1).bind fun y13=>(if(!y13)=true then some (-1)else some u4.1)))
def eV (p0:TT) (p1:Int):Option Int :=
 (if decide (p1<0)=true then some (-1)else((iQ p0 p1).bind fun y3=>(if((decide (y3<0))||(decide (16384<w64 (y3+p0.fLong))))=true then some (-1)else some (w64 (y3+p0.fLong)))))
def fY (p0:Int) (p1:Int):Option Bool :=
 some ((decide (0≤p0))&&((decide (p1<0))||(decide (p0<p1))))
def dG (p0:TR) (p1:Int) (p2:Int) (s6:(Int × (List (List Int)))) (s14:(Int × (List (List Int)))):Option ((Int × (List (List Int))) ⊕ (Int × (List (List Int)))) :=
 (if decide (s14.1≤60)=true then ap ((0:Int)≤s6.1∧s6.1<((Int.toNat p0.fPlaces:Nat):Int)) (ap ((0:Int)≤s14.1∧s14.1<(((rdL s14.2 s6.1).length:Nat):Int)) ((if(s6.1==p1)=true then ap ((0:Int)≤s6.1∧s6.1<((Int.toNat p0.fPlaces:Nat):Int)) (ap ((0:Int)≤s14.1∧s14.1<(((rdL (s14.2.set (Int.toNat s6.1) ((rdL s14.2 s6.1).set (Int.toNat s14.1) (-1))) s6.1).length:Nat):Int)) (some (.inl (w64 (s14.1+1),((s14.2.set (Int.toNat s6.1) ((rdL s14.2 s6.1).set (Int.toNat s14.1) (-1))).set (Int.toNat s6.1) ((rdL (s14.2.set (Int.toNat s6.1) ((rdL s14.2 s6.1).set (Int.toNat s14.1) (-1))) s6.1).set (Int.toNat s14.1) p2))))))else some (.inl (w64 (s14.1+1),(s14.2.set (Int.toNat s6.1) ((rdL s14.2 s6.1).set (Int.toNat s14.1) (-1))))))))else some (.inr (s14.1,s14.2)))
def dx (p0:TR) (p1:Int) (p2:Int) (s6:(Int × (List (List Int)))):Option ((Int × (List (List Int))) ⊕ (Int × (List (List Int)))) :=
 (if decide (s6.1<p0.fPlaces)=true then ap ((0:Int)≤61∧(61:Int)*8≤281474976710656) (ap ((0:Int)≤s6.1∧s6.1<((Int.toNat p0.fPlaces:Nat):Int)) (((aK (dG p0 p1 p2 s6) (0,(s6.2.set (Int.toNat s6.1) (List.replicate (Int.toNat 61) 0)))).bind fun u15=>some (.inl (w64 (s6.1+1),u15.2)))))else some (.inr (s6.1,s6.2)))
def dK (p0:TR) (s31:(Bool × Int × (List (List Int)))) (s38:(Bool × Int × (List (List Int)))):Option ((Bool × Int × (List (List Int))) ⊕ (Bool × Int × (List (List Int)))) :=
 (if decide (w64 (s38.2.1+((rdL p0.fTracks s31.2.1).fToll))≤60)=true then ap ((0:Int)≤(rdL p0.fTracks s31.2.1).fFrom∧(rdL p0.fTracks s31.2.1).fFrom<((Int.toNat p0.fPlaces:Nat):Int)) (ap ((0:Int)≤s38.2.1∧s38.2.1<(((rdL s38.2.2 ((rdL p0.fTracks s31.2.1).fFrom)).length:Nat):Int)) (((eV (TT.mk ((rdL p0.fTracks s31.2.1).fID) ((rdL p0.fTracks s31.2.1).fFrom) ((rdL p0.fTracks s31.2.1).fTo) ((rdL p0.fTracks s31.2.1).fLong) ((rdL p0.fTracks s31.2.1).fToll) ((rdL p0.fTracks s31.2.1).fK)) (rdL (rdL s38.2.2 ((rdL p0.fTracks s31.2.1).fFrom)) s38.2.1)).bind fun y43=>ap ((0:Int)≤(rdL p0.fTracks s31.2.1).fTo∧(rdL p0.fTracks s31.2.1).fTo<((Int.toNat p0.fPlaces:Nat):Int)) (ap ((0:Int)≤w64 (s38.2.1+((rdL p0.fTracks s31.2.1).fToll))∧w64 (s38.2.1+((rdL p0.fTracks s31.2.1).fToll))<(((rdL s38.2.2 ((rdL p0.fTracks s31.2.1).fTo)).length:Nat):Int)) (((fY y43 (rdL (rdL s38.2.2 ((rdL p0.fTracks s31.2.1).fTo)) (w64 (s38.2.1+((rdL p0.fTracks s31.2.1).fToll))))).bind fun y47=>(if y47=true then ap ((0:Int)≤(rdL p0.fTracks s31.2.1).fTo∧(rdL p0.fTracks s31.2.1).fTo<((Int.toNat p0.fPlaces:Nat):Int)) (ap ((0:Int)≤w64 (s38.2.1+((rdL p0.fTracks s31.2.1).fToll))∧w64 (s38.2.1+((rdL p0.fTracks s31.2.1).fToll))<(((rdL s38.2.2 ((rdL p0.fTracks s31.2.1).fTo)).length:Nat):Int)) (some (.inl (true,w64 (s38.2.1+1),(s38.2.2.set (Int.toNat ((rdL p0.fTracks s31.2.1).fTo)) ((rdL s38.2.2 ((rdL p0.fTracks s31.2.1).fTo)).set (Int.toNat (w64 (s38.2.1+((rdL p0.fTracks s31.2.1).fToll)))) y43))))))else some (.inl (s38.1,w64 (s38.2.1+1),s38.2.2)))))))))else some (.inr (s38.1,s38.2.1,s38.2.2)))
def dJ (p0:TR) (s31:(Bool × Int × (List (List Int)))):Option ((Bool × Int × (List (List Int))) ⊕ (Bool × Int × (List (List Int)))) :=
 (if decide (s31.2.1<(p0.fTracks.length:Int))=true then ap ((0:Int)≤s31.2.1∧s31.2.1<(p0.fTracks.length:Int)) (((aK (dK p0 s31) (s31.1,0,s31.2.2)).bind fun u39=>some (.inl (u39.1,w64 (s31.2.1+1),u39.2.2))))else some (.inr (s31.1,s31.2.1,s31.2.2)))
def dt (p0:TR) (s56:(Bool × Int × (List (List Int)))) (s61:(Bool × Int × (List (List Int)))):Option ((Bool × Int × (List (List Int))) ⊕ (Bool × Int × (List (List Int)))) :=
 (if decide (s61.2.1≤60)=true then ap ((0:Int)≤s56.2.1∧s56.2.1<((Int.toNat p0.fPlaces:Nat):Int)) (ap ((0:Int)≤w64 (s61.2.1-1)∧w64 (s61.2.1-1)<(((rdL s61.2.2 s56.2.1).length:Nat):Int)) (ap ((0:Int)≤s56.2.1∧s56.2.1<((Int.toNat p0.fPlaces:Nat):Int)) (ap ((0:Int)≤s61.2.1∧s61.2.1<(((rdL s61.2.2 s56.2.1).length:Nat):Int)) (((fY (rdL (rdL s61.2.2 s56.2.1) (w64 (s61.2.1-1))) (rdL (rdL s61.2.2 s56.2.1) s61.2.1)).bind fun y68=>(if y68=true then ap ((0:Int)≤s56.2.1∧s56.2.1<((Int.toNat p0.fPlaces:Nat):Int)) (ap ((0:Int)≤s56.2.1∧s56.2.1<((Int.toNat p0.fPlaces:Nat):Int)) (ap ((0:Int)≤w64 (s61.2.1-1)∧w64 (s61.2.1-1)<(((rdL s61.2.2 s56.2.1).length:Nat):Int)) (ap ((0:Int)≤s61.2.1∧s61.2.1<(((rdL s61.2.2 s56.2.1).length:Nat):Int)) (some (.inl (true,w64 (s61.2.1+1),(s61.2.2.set (Int.toNat s56.2.1) ((rdL s61.2.2 s56.2.1).set (Int.toNat s61.2.1) (rdL (rdL s61.2.2 s56.2.1) (w64 (s61.2.1-1)))))))))))else some (.inl (s61.1,w64 (s61.2.1+1),s61.2.2))))))))else some (.inr (s61.1,s61.2.1,s61.2.2)))
def dz (p0:TR) (s56:(Bool × Int × (List (List Int)))):Option ((Bool × Int × (List (List Int))) ⊕ (Bool × Int × (List (List Int)))) :=
 (if decide (s56.2.1<p0.fPlaces)=true then((aK (dt p0 s56) (s56.1,1,s56.2.2)).bind fun u62=>some (.inl (u62.1,w64 (s56.2.1+1),u62.2.2)))else some (.inr (s56.1,s56.2.1,s56.2.2)))
def dI (p0:TR) (s26:(Bool × (List (List Int)))):Option ((Bool × (List (List Int))) ⊕ (Bool × (List (List Int)))) :=
 (if s26.1=true then((aK (dJ p0) (false,0,s26.2)).bind fun u32=>((aK (dz p0) (u32.1,0,u32.2.2)).bind fun u57=>some (.inl (u57.1,u57.2.2))))else some (.inr (s26.1,s26.2)))
def dZ (p0:TR) (p1:Int) (p2:Int):Option (List (List Int)) :=
 ap ((0:Int)≤p0.fPlaces∧p0.fPlaces*24≤281474976710656) (((aK (dx p0 p1 p2) (0,(List.replicate (Int.toNat p0.fPlaces) []))).bind fun u7=>((aK (dI p0) (true,u7.2)).bind fun u27=>some u27.2)))
def dX (p0:TR) (p1:Int) (s3:(Int × Int)):Option ((Int × Int) ⊕ ((Int × Int) ⊕ (Int × Int))) :=
 (if decide (s3.2<(p0.fTracks.length:Int))=true then ap ((0:Int)≤s3.2∧s3.2<(p0.fTracks.length:Int)) ((if(((rdL p0.fTracks s3.2).fID)==p1)=true then some (.inr (.inl (s3.2,s3.2)))else some (.inl (s3.1,w64 (s3.2+1)))))else some (.inr (.inr (s3.1,s3.2))))
def i7 (p0:TR) (p1:Int):Option Int :=
 ((aK (dX p0 p1) (0,0)).bind fun u4=>match u4 with|(.inl u9)=>some u9.1|(.inr u10)=>some (-1))
def ir (p0:TT) (p1:Int) (s3:(Bool × Int)):Option ((Bool × Int) ⊕ ((Bool × Int) ⊕ (Bool × Int))) :=
 (if decide (s3.2<(p0.fK.length:Int))=true then ap ((0:Int)≤s3.2∧s3.2<(p0.fK.length:Int)) (ap ((0:Int)≤s3.2∧s3.2<(p0.fK.length:Int)) (((aW p1 ((rdL p0.fK s3.2).fLo) ((rdL p0.fK s3.2).fHi)).bind fun y8=>(if y8=true then some (.inr (.inl (false,s3.2)))else some (.inl (s3.1,w64 (s3.2+1)))))))else some (.inr (.inr (s3.1,s3.2))))
def jC (p0:TT) (p1:Int):Option Bool :=
 ((aK (ir p0 p1) (false,0)).bind fun u4=>match u4 with|(.inl u12)=>some u12.1|(.inr u13)=>some true)
def fF (p0:TR) (p4:TJ) (s4:(Bool × Int × Int × Int × Int)):Option ((Bool × Int × Int × Int × Int) ⊕ ((Bool × Int × Int × Int × Int) ⊕ (Bool × Int × Int × Int × Int))) :=
 (if decide (s4.2.2.2.2<(p4.fLegs.length:Int))=true then ap ((0:Int)≤s4.2.2.2.2∧s4.2.2.2.2<(p4.fLegs.length:Int)) (((i7 p0 ((rdL p4.fLegs s4.2.2.2.2).fTrack)).bind fun y8=>(if decide (y8<0)=true then some (.inr (.inl (false,s4.2.1,s4.2.2.1,s4.2.2.2.1,s4.2.2.2.2)))else ap ((0:Int)≤y8∧y8<(p0.fTracks.length:Int)) (ap ((0:Int)≤s4.2.2.2.2∧s4.2.2.2.2<(p4.fLegs.length:Int)) (((cV ((rdL p4.fLegs s4.2.2.2.2).fHour)).bind fun y14=>((jC (TT.mk ((rdL p0.fTracks y8).fID) ((rdL p0.fTracks y8).fFrom) ((rdL p0.fTracks y8).fTo) ((rdL p0.fTracks y8).fLong) ((rdL p0.fTracks y8).fToll) ((rdL p0.fTracks y8).fK)) ((rdL p4.fLegs s4.2.2.2.2).fHour)).bind fun y16=>(if((((((rdL p0.fTracks y8).fFrom) !=s4.2.1)||(!y14))||(!y16))||(decide ((rdL p4.fLegs s4.2.2.2.2).fHour<s4.2.2.1)))=true then some (.inr (.inl (false,s4.2.1,s4.2.2.1,s4.2.2.2.1,s4.2.2.2.2)))else some (.inl (s4.1,(rdL p0.fTracks y8).fTo,w64 (((rdL p4.fLegs s4.2.2.2.2).fHour)+((rdL p0.fTracks y8).fLong)),min 100000 (w64 (s4.2.2.2.1+((rdL p0.fTracks y8).fToll))),w64 (s4.2.2.2.2+1)))))))))))else some (.inr (.inr (s4.1,s4.2.1,s4.2.2.1,s4.2.2.2.1,s4.2.2.2.2))))
def fa (p0:TR) (p1:Int) (p2:Int) (p3:Int) (p4:TJ):Option Bool :=
 ((aK (fF p0 p4) (false,p1,p3,0,0)).bind fun u5=>match u5 with|(.inl u23)=>some u23.1|(.inr u24)=>some (((((u24.2.1==p2)&&(u24.2.2.1==p4.fA))&&(decide (u24.2.2.1≤16384)))&&(u24.2.2.2.1==p4.fToll))&&(decide (u24.2.2.2.1≤60))))
def jb (p0:(List Int)) (p1:Int) (s2:Int):Option (Int ⊕ Int) :=
 ((if decide (s2<(p0.length:Int))=true then(ap ((0:Int)≤s2∧s2<(p0.length:Int)) (some (decide ((rdL p0 s2)<p1))))else(some (false))).bind fun b5=>(if b5=true then some (.inl (w64 (s2+1)))else some (.inr s2)))
def oU (p0:(List Int)) (p1:Int):Option (List Int) :=
 ((aK (jb p0 p1) 0).bind fun u3=>ap ((0:Int)≤u3∧u3≤(p0.length:Int)) (ap (0+(Int.toNat u3)≤1000000000) (ap ((0+(Int.toNat u3))+1≤1000000000) (ap ((0:Int)≤u3∧u3≤(p0.length:Int)) (ap (((0+(Int.toNat u3))+1)+(p0.length-Int.toNat u3)≤1000000000) (some (((([]:List Int)++(p0.take (Int.toNat u3)))++[p1])++(p0.drop (Int.toNat u3)))))))))
def gc (p0:TJ):Option Bool :=
 some (decide ((p0.fLegs.length:Int)≤40))
def eQ (p0:TTimes) (s3:(Bool × Int)):Option ((Bool × Int) ⊕ ((Bool × Int) ⊕ (Bool × Int))) :=
 (if decide (s3.2<(p0.fH.length:Int))=true then ap ((0:Int)≤s3.2∧s3.2<(p0.fH.length:Int)) ((if decide (80<(((rdL p0.fH s3.2).length:Nat):Int))=true then some (.inr (.inl (false,s3.2)))else some (.inl (s3.1,w64 (s3.2+1)))))else some (.inr (.inr (s3.1,s3.2))))
def fm (p0:TTimes):Option Bool :=
 ((aK (eQ p0) (false,0)).bind fun u4=>match u4 with|(.inl u9)=>some u9.1|(.inr u10)=>some (decide ((p0.fH.length:Int)≤20)))
def aZ (p0:(List (List Int))) (p1:(List Int)→Option Bool) (s2:(Int × Int)):Option ((Int × Int) ⊕ ((Int × Int) ⊕ (Int × Int))) :=
 (if decide (s2.2<(p0.length:Int))=true then ap ((0:Int)≤s2.2∧s2.2<(p0.length:Int)) (((p1 (rdL p0 s2.2)).bind fun y6=>(if y6=true then some (.inr (.inl (s2.2,s2.2)))else some (.inl (s2.1,w64 (s2.2+1))))))else some (.inr (.inr (s2.1,s2.2))))
def bp (p0:(List (List Int))) (p1:(List Int)→Option Bool):Option Int :=
 ((aK (aZ p0 p1) (0,0)).bind fun u3=>match u3 with|(.inl u10)=>some u10.1|(.inr u11)=>some (-1))
def fb (p0:(List (List Int))) (p1:(List Int)→Option Bool):Option Int :=
 ((bp p0 p1).bind fun y1=>some y1)
def gv (p0:(List Int)) (s2:(Bool × Int × Int)):Option ((Bool × Int × Int) ⊕ ((Bool × Int × Int) ⊕ (Bool × Int × Int))) :=
 (if decide (s2.2.2<(p0.length:Int))=true then ap ((0:Int)≤s2.2.2∧s2.2.2<(p0.length:Int)) (((bl (rdL p0 s2.2.2) (-1) 16384).bind fun y6=>(if((!y6)||((decide (0≤s2.2.1))&&((decide ((rdL p0 s2.2.2)<0))||(decide (s2.2.1<(rdL p0 s2.2.2))))))=true then some (.inr (.inl (false,s2.2.1,s2.2.2)))else some (.inl (s2.1,(rdL p0 s2.2.2),w64 (s2.2.2+1))))))else some (.inr (.inr (s2.1,s2.2.1,s2.2.2))))
def g6 (p0:(List Int)):Option Bool :=
 ((aK (gv p0) (false,(-1),0)).bind fun u3=>match u3 with|(.inl u13)=>some u13.1|(.inr u14)=>some ((p0.length:Int)==61))
def dW (p0:(List Int)):Option Bool :=
 ((g6 p0).bind fun y1=>some (!y1))
def fq (p0:Int) (cap0:Int):Option Bool :=
 some ((decide (p0<0))||(decide (cap0<p0)))
def eI (p0:TR) (p3:TTimes) (s14:(Bool × Int)) (s21:(Bool × Int)):Option ((Bool × Int) ⊕ ((Bool × Int) ⊕ (Bool × Int))) :=
 (if decide (s21.2<(((rdL p3.fH ((rdL p0.fTracks s14.2).fFrom)).length:Nat):Int))=true then ap ((0:Int)≤s21.2∧s21.2<(((rdL p3.fH ((rdL p0.fTracks s14.2).fFrom)).length:Nat):Int)) ((if((decide ((rdL (rdL p3.fH ((rdL p0.fTracks s14.2).fFrom)) s21.2)<0))||(decide (60<w64 (s21.2+((rdL p0.fTracks s14.2).fToll)))))=true then some (.inl (s21.1,w64 (s21.2+1)))else((f4 (TT.mk ((rdL p0.fTracks s14.2).fID) ((rdL p0.fTracks s14.2).fFrom) ((rdL p0.fTracks s14.2).fTo) ((rdL p0.fTracks s14.2).fLong) ((rdL p0.fTracks s14.2).fToll) ((rdL p0.fTracks s14.2).fK)) (rdL (rdL p3.fH ((rdL p0.fTracks s14.2).fFrom)) s21.2)).bind fun y27=>((if(!y27.2)=true then(some (true))else((c8 (w64 (y27.1+((rdL p0.fTracks s14.2).fLong)))).bind fun y37=>some ((!y37)))).bind fun b30=>(if b30=true then some (.inl (s21.1,w64 (s21.2+1)))else ap ((0:Int)≤(rdL p0.fTracks s14.2).fTo∧(rdL p0.fTracks s14.2).fTo<(p3.fH.length:Int)) (ap ((0:Int)≤w64 (s21.2+((rdL p0.fTracks s14.2).fToll))∧w64 (s21.2+((rdL p0.fTracks s14.2).fToll))<(((rdL p3.fH ((rdL p0.fTracks s14.2).fTo)).length:Nat):Int)) ((if((decide ((rdL (rdL p3.fH ((rdL p0.fTracks s14.2).fTo)) (w64 (s21.2+((rdL p0.fTracks s14.2).fToll))))<0))||(decide (w64 (y27.1+((rdL p0.fTracks s14.2).fLong))<(rdL (rdL p3.fH ((rdL p0.fTracks s14.2).fTo)) (w64 (s21.2+((rdL p0.fTracks s14.2).fToll)))))))=true then some (.inr (.inl (false,s21.2)))else some (.inl (s21.1,w64 (s21.2+1)))))))))))else some (.inr (.inr (s21.1,s21.2))))
def gi (p0:TR) (p3:TTimes) (s14:(Bool × Int)):Option ((Bool × Int) ⊕ ((Bool × Int) ⊕ (Bool × Int))) :=
 (if decide (s14.2<(p0.fTracks.length:Int))=true then ap ((0:Int)≤s14.2∧s14.2<(p0.fTracks.length:Int)) (ap ((0:Int)≤(rdL p0.fTracks s14.2).fFrom∧(rdL p0.fTracks s14.2).fFrom<(p3.fH.length:Int)) (((aK (eI p0 p3 s14) (s14.1,0)).bind fun u22=>match u22 with|(.inl u40)=>some (.inr (.inl (u40.1,s14.2)))|(.inr u41)=>some (.inl (u41.1,w64 (s14.2+1))))))else some (.inr (.inr (s14.1,s14.2))))
def g3 (p0:TR) (p1:Int) (p2:Int) (p3:TTimes):Option Bool :=
 ((if((p3.fH.length:Int) !=p0.fPlaces)=true then(some (true))else((fb p3.fH (fun x45=>dW x45)).bind fun y46=>some (decide (0≤y46)))).bind fun b5=>(if b5=true then some false else ap ((0:Int)≤p1∧p1<(p3.fH.length:Int)) (((gM (rdL p3.fH p1) (fun x9=>fq x9 p2)).bind fun y10=>(if decide (0≤y10)=true then some false else((aK (gi p0 p3) (false,0)).bind fun u15=>match u15 with|(.inl u43)=>some u43.1|(.inr u44)=>some true))))))
def cG (p0:TR) (p1:Int) (p2:Int) (p3:TTimes):Option Int :=
 ((dY p0 p1 p1 p2 0).bind fun y3=>(if(y3 !=0)=true then some y3 else((g3 p0 p1 p2 p3).bind fun y6=>(if(!y6)=true then some 8 else some 0))))
def eC (p0:TR) (p4:TJ) (s4:(Int × Int × Bool × Int × Int)):Option ((Int × Int × Bool × Int × Int) ⊕ ((Int × Int × Bool × Int × Int) ⊕ (Int × Int × Bool × Int × Int))) :=
 (if decide (s4.2.2.2.2<(p4.fLegs.length:Int))=true then ap ((0:Int)≤s4.2.2.2.2∧s4.2.2.2.2<(p4.fLegs.length:Int)) (((iu p0 ((rdL p4.fLegs s4.2.2.2.2).fTrack)).bind fun y9=>((if decide (y9<0)=true then(some (true))else(ap ((0:Int)≤y9∧y9<(p0.fTracks.length:Int)) (some ((((rdL p0.fTracks y9).fFrom) !=s4.1))))).bind fun b12=>((if(b12||(decide ((rdL p4.fLegs s4.2.2.2.2).fHour<s4.2.1)))=true then(some (true))else((c8 ((rdL p4.fLegs s4.2.2.2.2).fHour)).bind fun y27=>some ((!y27)))).bind fun b16=>(if b16=true then some (.inr (.inl (s4.1,s4.2.1,false,s4.2.2.2.1,s4.2.2.2.2)))else ap ((0:Int)≤y9∧y9<(p0.fTracks.length:Int)) (((f4 (TT.mk ((rdL p0.fTracks y9).fID) ((rdL p0.fTracks y9).fFrom) ((rdL p0.fTracks y9).fTo) ((rdL p0.fTracks y9).fLong) ((rdL p0.fTracks y9).fToll) ((rdL p0.fTracks y9).fK)) ((rdL p4.fLegs s4.2.2.2.2).fHour)).bind fun y20=>(if((!y20.2)||(y20.1 !=((rdL p4.fLegs s4.2.2.2.2).fHour)))=true then some (.inr (.inl (s4.1,s4.2.1,false,s4.2.2.2.1,s4.2.2.2.2)))else ap ((0:Int)≤y9∧y9<(p0.fTracks.length:Int)) (ap ((0:Int)≤y9∧y9<(p0.fTracks.length:Int)) (ap ((0:Int)≤y9∧y9<(p0.fTracks.length:Int)) (some (.inl ((rdL p0.fTracks y9).fTo,w64 (((rdL p4.fLegs s4.2.2.2.2).fHour)+((rdL p0.fTracks y9).fLong)),s4.2.2.1,w64 (s4.2.2.2.1+((rdL p0.fTracks y9).fToll)),w64 (s4.2.2.2.2+1))))))))))))))else some (.inr (.inr (s4.1,s4.2.1,s4.2.2.1,s4.2.2.2.1,s4.2.2.2.2))))
def f6 (p0:TR) (p1:Int) (p2:Int) (p3:Int) (p4:TJ):Option Bool :=
 ((aK (eC p0 p4) (p1,p3,false,0,0)).bind fun u5=>match u5 with|(.inl u31)=>some u31.2.2.1|(.inr u32)=>((if(((u32.1==p2)&&(u32.2.1==p4.fA))&&(u32.2.2.2.1==p4.fToll))=true then((c8 u32.2.1).bind fun y39=>some (y39))else(some (false))).bind fun b36=>some (b36&&(decide (u32.2.2.2.1≤60)))))
def bU (p0:TR) (p1:Int) (p2:Int) (p3:Int) (p4:TJ):Option Int :=
 ((dY p0 p1 p2 p3 0).bind fun y3=>(if(y3 !=0)=true then some y3 else((f6 p0 p1 p2 p3 p4).bind fun y6=>(if(!y6)=true then some 8 else some 0))))
def d6 (p0:TR) (p1:Int) (p2:Int):Option TTimed :=
 ((fU p0 p1 0 p2 0).bind fun y3=>(if(y3 !=0)=true then some (TTimed.mk (TTimes.mk []) y3)else((dZ p0 p1 p2).bind fun y6=>some (TTimed.mk (TTimes.mk y6) 0))))
def cZ (p0:TR) (p1:Int) (p2:Int) (p3:Int) (p4:TJ):Option Int :=
 ((fU p0 p1 p2 p3 0).bind fun y3=>(if(y3 !=0)=true then some y3 else((fa p0 p1 p2 p3 p4).bind fun y6=>(if(!y6)=true then some 8 else some 0))))
def cl (p0:TTimes) (p1:TTimes) (s5:(Bool × Int)):Option ((Bool × Int) ⊕ ((Bool × Int) ⊕ (Bool × Int))) :=
 (if decide (s5.2<(p0.fH.length:Int))=true then ap ((0:Int)≤s5.2∧s5.2<(p0.fH.length:Int)) (ap ((0:Int)≤s5.2∧s5.2<(p1.fH.length:Int)) (((bK (rdL p0.fH s5.2) (rdL p1.fH s5.2)).bind fun y10=>(if(!y10)=true then some (.inr (.inl (false,s5.2)))else some (.inl (s5.1,w64 (s5.2+1)))))))else some (.inr (.inr (s5.1,s5.2))))
def dB (p0:TTimes) (p1:TTimes):Option Bool :=
 (if((p0.fH.length:Int) !=(p1.fH.length:Int))=true then some false else((aK (cl p0 p1) (false,0)).bind fun u6=>match u6 with|(.inl u14)=>some u14.1|(.inr u15)=>some true))
def dj (p1:Int) (p2:Int) (p3:TTimes) (s5:(Bool × Int)) (s11:(Bool × Int)):Option ((Bool × Int) ⊕ ((Bool × Int) ⊕ (Bool × Int))) :=
 (if decide (s11.2<(((rdL p3.fH s5.2).length:Nat):Int))=true then ap ((0:Int)≤s11.2∧s11.2<(((rdL p3.fH s5.2).length:Nat):Int)) (((aW (rdL (rdL p3.fH s5.2) s11.2) (-1) 16384).bind fun y15=>((if(!y15)=true then(some (true))else((if(s5.2==p1)=true then(ap ((0:Int)≤s11.2∧s11.2<(((rdL p3.fH s5.2).length:Nat):Int)) (((if decide ((rdL (rdL p3.fH s5.2) s11.2)<0)=true then(some (true))else(ap ((0:Int)≤s11.2∧s11.2<(((rdL p3.fH s5.2).length:Nat):Int)) (some (decide (p2<(rdL (rdL p3.fH s5.2) s11.2)))))).bind fun b42=>some (b42))))else(some (false))).bind fun b38=>some (b38))).bind fun b18=>((if b18=true then(some (true))else((if decide (0<s11.2)=true then(ap ((0:Int)≤max 0 (w64 (s11.2-1))∧max 0 (w64 (s11.2-1))<(((rdL p3.fH s5.2).length:Nat):Int)) (some (decide (0≤(rdL (rdL p3.fH s5.2) (max 0 (w64 (s11.2-1))))))))else(some (false))).bind fun b25=>((if b25=true then(ap ((0:Int)≤s11.2∧s11.2<(((rdL p3.fH s5.2).length:Nat):Int)) (((if decide ((rdL (rdL p3.fH s5.2) s11.2)<0)=true then(some (true))else(ap ((0:Int)≤s11.2∧s11.2<(((rdL p3.fH s5.2).length:Nat):Int)) (ap ((0:Int)≤max 0 (w64 (s11.2-1))∧max 0 (w64 (s11.2-1))<(((rdL p3.fH s5.2).length:Nat):Int)) (some (decide ((rdL (rdL p3.fH s5.2) (max 0 (w64 (s11.2-1))))<(rdL (rdL p3.fH s5.2) s11.2))))))).bind fun b32=>some (b32))))else(some (false))).bind fun b28=>some (b28)))).bind fun b21=>(if b21=true then some (.inr (.inl (false,s11.2)))else some (.inl (s11.1,w64 (s11.2+1))))))))else some (.inr (.inr (s11.1,s11.2))))
def fp (p0:TR) (p1:Int) (p2:Int) (p3:TTimes) (s5:(Bool × Int)):Option ((Bool × Int) ⊕ ((Bool × Int) ⊕ (Bool × Int))) :=
 (if decide (s5.2<p0.fPlaces)=true then ap ((0:Int)≤s5.2∧s5.2<(p3.fH.length:Int)) ((if((((rdL p3.fH s5.2).length:Nat):Int) !=61)=true then some (.inr (.inl (false,s5.2)))else((aK (dj p1 p2 p3 s5) (s5.1,0)).bind fun u12=>match u12 with|(.inl u46)=>some (.inr (.inl (u46.1,s5.2)))|(.inr u47)=>some (.inl (u47.1,w64 (s5.2+1))))))else some (.inr (.inr (s5.1,s5.2))))
def fo (p0:TR) (p3:TTimes) (s52:(Bool × Int)) (s58:(Bool × Int)):Option ((Bool × Int) ⊕ ((Bool × Int) ⊕ (Bool × Int))) :=
 (if decide (w64 (s58.2+((rdL p0.fTracks s52.2).fToll))≤60)=true then ap ((0:Int)≤(rdL p0.fTracks s52.2).fFrom∧(rdL p0.fTracks s52.2).fFrom<(p3.fH.length:Int)) (ap ((0:Int)≤s58.2∧s58.2<(((rdL p3.fH ((rdL p0.fTracks s52.2).fFrom)).length:Nat):Int)) (((eV (TT.mk ((rdL p0.fTracks s52.2).fID) ((rdL p0.fTracks s52.2).fFrom) ((rdL p0.fTracks s52.2).fTo) ((rdL p0.fTracks s52.2).fLong) ((rdL p0.fTracks s52.2).fToll) ((rdL p0.fTracks s52.2).fK)) (rdL (rdL p3.fH ((rdL p0.fTracks s52.2).fFrom)) s58.2)).bind fun y63=>ap ((0:Int)≤(rdL p0.fTracks s52.2).fTo∧(rdL p0.fTracks s52.2).fTo<(p3.fH.length:Int)) (ap ((0:Int)≤w64 (s58.2+((rdL p0.fTracks s52.2).fToll))∧w64 (s58.2+((rdL p0.fTracks s52.2).fToll))<(((rdL p3.fH ((rdL p0.fTracks s52.2).fTo)).length:Nat):Int)) ((if((decide (0≤y63))&&((decide ((rdL (rdL p3.fH ((rdL p0.fTracks s52.2).fTo)) (w64 (s58.2+((rdL p0.fTracks s52.2).fToll))))<0))||(decide (y63<(rdL (rdL p3.fH ((rdL p0.fTracks s52.2).fTo)) (w64 (s58.2+((rdL p0.fTracks s52.2).fToll))))))))=true then some (.inr (.inl (false,s58.2)))else some (.inl (s58.1,w64 (s58.2+1)))))))))else some (.inr (.inr (s58.1,s58.2))))
def gJ (p0:TR) (p3:TTimes) (s52:(Bool × Int)):Option ((Bool × Int) ⊕ ((Bool × Int) ⊕ (Bool × Int))) :=
 (if decide (s52.2<(p0.fTracks.length:Int))=true then ap ((0:Int)≤s52.2∧s52.2<(p0.fTracks.length:Int)) (((aK (fo p0 p3 s52) (s52.1,0)).bind fun u59=>match u59 with|(.inl u71)=>some (.inr (.inl (u71.1,s52.2)))|(.inr u72)=>some (.inl (u72.1,w64 (s52.2+1)))))else some (.inr (.inr (s52.1,s52.2))))
def iH (p0:TR) (p1:Int) (p2:Int) (p3:TTimes):Option Bool :=
 (if((p3.fH.length:Int) !=p0.fPlaces)=true then some false else((aK (fp p0 p1 p2 p3) (false,0)).bind fun u6=>match u6 with|(.inl u49)=>some u49.1|(.inr u50)=>((aK (gJ p0 p3) (u50.1,0)).bind fun u53=>match u53 with|(.inl u74)=>some u74.1|(.inr u75)=>some true)))
def dT (p0:TR) (p1:Int) (p2:Int) (p3:TTimes):Option Int :=
 ((fU p0 p1 0 p2 0).bind fun y3=>(if(y3 !=0)=true then some y3 else((iH p0 p1 p2 p3).bind fun y6=>(if(!y6)=true then some 8 else some 0))))
def dN (p0:TR) (p1:Int) (p2:Int) (p3:Int) (p4:TJ) (p5:TTimes):Option Bool :=
 ((gn p0).bind fun y4=>((if(!y4)=true then(some (true))else((gc p4).bind fun y65=>some ((!y65)))).bind fun b7=>((if b7=true then(some (true))else((fm p5).bind fun y63=>some ((!y63)))).bind fun b10=>(if b10=true then((dR).bind fun y13=>some y13)else((cY p0 p1 p3).bind fun y15=>((d6 p0 p1 p3).bind fun y28=>((dR).bind fun y41=>((if y41=true then((bU p0 p1 p2 p3 p4).bind fun y59=>((cZ p0 p1 p2 p3 p4).bind fun y61=>some ((y59==y61))))else(some (false))).bind fun b44=>((if b44=true then((dB y15.1 y28.fT).bind fun y57=>some (y57))else(some (false))).bind fun b47=>((if(b47&&(y15.2==y28.fE))=true then((cG p0 p1 p3 p5).bind fun y53=>((dT p0 p1 p3 p5).bind fun y55=>some ((y53==y55))))else(some (false))).bind fun b51=>some b51))))))))))
end
end Go.Proofs.YthndghnkebboaaaGreat
