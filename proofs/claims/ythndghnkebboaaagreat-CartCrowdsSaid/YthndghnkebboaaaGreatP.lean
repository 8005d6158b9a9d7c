import Derived.Test.YthndghnkebboaaaGreatGz
set_option linter.unusedVariables false
namespace Go.Proofs.YthndghnkebboaaaGreat
noncomputable section
structure TSpan where
 fLo : Int
 fHi : Int
 deriving DecidableEq
instance : Inhabited TSpan:=⟨⟨default,default⟩⟩
def TSpan_rg (x:TSpan) : Prop:=Rg_i64 x.fLo ∧ Rg_i64 x.fHi
structure TT where
 fID : Int
 fFrom : Int
 fTo : Int
 fLong : Int
 fToll : Int
 fK : (List TSpan)
 deriving DecidableEq
instance : Inhabited TT:=⟨⟨default,default,default,default,default,default⟩⟩
def TTrack_rg (x:TT) : Prop:=Rg_i64 x.fID ∧ Rg_i64 x.fFrom ∧ Rg_i64 x.fTo ∧ Rg_i64 x.fLong ∧ Rg_i64 x.fToll ∧ (Rg_list TSpan_rg x.fK)
structure TR where
 fPlaces : Int
 fTracks : (List TT)
 deriving DecidableEq
instance : Inhabited TR:=⟨⟨default,default⟩⟩
def TRoads_rg (x:TR) : Prop:=Rg_i64 x.fPlaces ∧ (Rg_list TTrack_rg x.fTracks)
structure Ts where
 f_place : Int
 f_toll : Int
 deriving DecidableEq
instance : Inhabited Ts:=⟨⟨default,default⟩⟩
def Tstop_rg (x:Ts) : Prop:=Rg_i64 x.f_place ∧ Rg_i64 x.f_toll
structure Twait where
 f_at : Int
 f_stop : Ts
 deriving DecidableEq
instance : Inhabited Twait:=⟨⟨default,default⟩⟩
def Twait_rg (x:Twait) : Prop:=Rg_i64 x.f_at ∧ Rg_i64 x.f_stop.f_place ∧ Rg_i64 x.f_stop.f_toll
structure TLeg where
 fTrack : Int
 fHour : Int
 deriving DecidableEq
instance : Inhabited TLeg:=⟨⟨default,default⟩⟩
def TLeg_rg (x:TLeg) : Prop:=Rg_i64 x.fTrack ∧ Rg_i64 x.fHour
structure Tl where
 f_at : Int
 f_from : Ts
 f_leg : TLeg
 f_begin : Bool
 deriving DecidableEq
instance : Inhabited Tl:=⟨⟨default,default,default,default⟩⟩
def Tlabel_rg (x:Tl) : Prop:=Rg_i64 x.f_at ∧ Rg_i64 x.f_from.f_place ∧ Rg_i64 x.f_from.f_toll ∧ Rg_i64 x.f_leg.fTrack ∧ Rg_i64 x.f_leg.fHour
structure TJ where
 fLegs : (List TLeg)
 fA : Int
 fToll : Int
 deriving DecidableEq
instance : Inhabited TJ:=⟨⟨default,default,default⟩⟩
def TJourney_rg (x:TJ) : Prop:=(Rg_list TLeg_rg x.fLegs) ∧ Rg_i64 x.fA ∧ Rg_i64 x.fToll
structure TO where
 fID : Int
 fH : TSpan
 fD : Int
 fW : Int
 deriving DecidableEq
instance : Inhabited TO:=⟨⟨default,default,default,default⟩⟩
def TOrder_rg (x:TO) : Prop:=Rg_i64 x.fID ∧ Rg_i64 x.fH.fLo ∧ Rg_i64 x.fH.fHi ∧ Rg_i64 x.fD ∧ Rg_i64 x.fW
structure TBay where
 fID : Int
 fHour : Int
 fD : Int
 deriving DecidableEq
instance : Inhabited TBay:=⟨⟨default,default,default⟩⟩
def TBay_rg (x:TBay) : Prop:=Rg_i64 x.fID ∧ Rg_i64 x.fHour ∧ Rg_i64 x.fD
structure TY where
 fB : (List TBay)
 fR : (List TO)
 deriving DecidableEq
instance : Inhabited TY:=⟨⟨default,default⟩⟩
def TYard_rg (x:TY) : Prop:=(Rg_list TBay_rg x.fB) ∧ (Rg_list TOrder_rg x.fR)
structure TPlan where
 fG : (List Int)
 fW : Int
 fPrices : (List Int)
 deriving DecidableEq
instance : Inhabited TPlan:=⟨⟨default,default,default⟩⟩
def TPlan_rg (x:TPlan) : Prop:=(Rg_list Rg_i64 x.fG) ∧ Rg_i64 x.fW ∧ (Rg_list Rg_i64 x.fPrices)
structure TTimes where
 fH : (List (List Int))
 deriving DecidableEq
instance : Inhabited TTimes:=⟨⟨default⟩⟩
def TTimes_rg (x:TTimes) : Prop:=(Rg_list (Rg_list Rg_i64) x.fH)
structure TPoint where
 fToll : Int
 fA : Int
 deriving DecidableEq
instance : Inhabited TPoint:=⟨⟨default,default⟩⟩
def TPoint_rg (x:TPoint) : Prop:=Rg_i64 x.fToll ∧ Rg_i64 x.fA
structure TPointed where
 fP : TPoint
 fE : Int
 deriving DecidableEq
instance : Inhabited TPointed:=⟨⟨default,default⟩⟩
def TPointed_rg (x:TPointed) : Prop:=Rg_i64 x.fP.fToll ∧ Rg_i64 x.fP.fA ∧ Rg_i64 x.fE
structure TInts where
 fL : (List Int)
 fE : Int
 deriving DecidableEq
instance : Inhabited TInts:=⟨⟨default,default⟩⟩
def TInts_rg (x:TInts) : Prop:=(Rg_list Rg_i64 x.fL) ∧ Rg_i64 x.fE
structure TTimed where
 fT : TTimes
 fE : Int
 deriving DecidableEq
instance : Inhabited TTimed:=⟨⟨default,default⟩⟩
def TTimed_rg (x:TTimed) : Prop:=(Rg_list (Rg_list Rg_i64) x.fT.fH) ∧ Rg_i64 x.fE
structure TFronted where
 fL : (List TPoint)
 fE : Int
 deriving DecidableEq
instance : Inhabited TFronted:=⟨⟨default,default⟩⟩
def TFronted_rg (x:TFronted) : Prop:=(Rg_list TPoint_rg x.fL) ∧ Rg_i64 x.fE
def Tstop_okk (x:Ts) : Bool:=rngB x.f_place && rngB x.f_toll
def cart_within (p0:Int) (p1:Int) (p2:Int) : Option Bool :=
 some ((decide (p1 ≤ p0)) && (decide (p0 ≤ p2)))
def cart_hour (p0:Int) : Option Bool :=
 ((cart_within p0 0 16384).bind fun y1 => some y1)
def cart_closed_l1 (p0:(List TSpan)) (s2:(Bool × Int × Int)) : Option ((Bool × Int × Int) ⊕ ((Bool × Int × Int) ⊕ (Bool × Int × Int))) :=
 (if decide (s2.2.2 < (p0.length:Int)) = true then guardO ((0:Int) ≤ s2.2.2 ∧ s2.2.2 < (p0.length:Int)) ((if (((decide ((rdL p0 s2.2.2).fLo < w64 (s2.2.1 + 2))) || (decide ((rdL p0 s2.2.2).fHi < (rdL p0 s2.2.2).fLo))) || (decide (16384 < (rdL p0 s2.2.2).fHi))) = true then some (.inr (.inl (false,s2.2.1,s2.2.2))) else some (.inl (s2.1,(rdL p0 s2.2.2).fHi,w64 (s2.2.2 + 1))))) else some (.inr (.inr (s2.1,s2.2.1,s2.2.2))))
def cart_closed (p0:(List TSpan)) : Option Bool :=
 ((loopO (cart_closed_l1 p0) (false,(-2),0)).bind fun u3 => match u3 with | (.inl u11) => some u11.1 | (.inr u12) => some (decide ((p0.length:Int) ≤ 4)))
def slices_IndexFunc_Track_Track_l1 (p0:(List TT)) (p1:TT → Option Bool) (s2:(Int × Int)) : Option ((Int × Int) ⊕ ((Int × Int) ⊕ (Int × Int))) :=
 (if decide (s2.2 < (p0.length:Int)) = true then guardO ((0:Int) ≤ s2.2 ∧ s2.2 < (p0.length:Int)) (((p1 (TT.mk ((rdL p0 s2.2).fID) ((rdL p0 s2.2).fFrom) ((rdL p0 s2.2).fTo) ((rdL p0 s2.2).fLong) ((rdL p0 s2.2).fToll) ((rdL p0 s2.2).fK))).bind fun y6 => (if y6 = true then some (.inr (.inl (s2.2,s2.2))) else some (.inl (s2.1,w64 (s2.2 + 1)))))) else some (.inr (.inr (s2.1,s2.2))))
def slices_IndexFunc_Track_Track (p0:(List TT)) (p1:TT → Option Bool) : Option Int :=
 ((loopO (slices_IndexFunc_Track_Track_l1 p0 p1) (0,0)).bind fun u3 => match u3 with | (.inl u10) => some u10.1 | (.inr u11) => some (-1))
def cart_index_calx_api_Track (p0:(List TT)) (p1:TT → Option Bool) : Option Int :=
 ((slices_IndexFunc_Track_Track p0 p1).bind fun y1 => some y1)
def cart_track_1 (p0:TT) (cap0:Int) : Option Bool :=
 some (p0.fID == cap0)
def cart_track (p0:TR) (p1:Int) : Option Int :=
 ((cart_index_calx_api_Track p0.fTracks (fun x3 => cart_track_1 x3 p1)).bind fun y4 => some y4)
def cart_Check_1 (p0:Int) (cap0:TR) : Option Bool :=
 ((cart_within p0 0 (w64 (cap0.fPlaces - 1))).bind fun y1 => some y1)
def cart_Check_l1 (p0:TR) (s7:(Int × Int)) : Option ((Int × Int) ⊕ ((Int × Int) ⊕ (Int × Int))) :=
 (if decide (s7.2 < (p0.fTracks.length:Int)) = true then guardO ((0:Int) ≤ s7.2 ∧ s7.2 < (p0.fTracks.length:Int)) (((cart_within ((rdL p0.fTracks s7.2).fID) 1 1099511627776).bind fun y12 => ((if (!y12) = true then (some (true)) else ((cart_Check_1 ((rdL p0.fTracks s7.2).fFrom) p0).bind fun y42 => some ((!y42)))).bind fun b15 => ((if b15 = true then (some (true)) else ((cart_Check_1 ((rdL p0.fTracks s7.2).fTo) p0).bind fun y40 => some ((!y40)))).bind fun b18 => ((if (b18 || (((rdL p0.fTracks s7.2).fFrom) == ((rdL p0.fTracks s7.2).fTo))) = true then (some (true)) else ((cart_within ((rdL p0.fTracks s7.2).fLong) 1 72).bind fun y38 => some ((!y38)))).bind fun b22 => ((if b22 = true then (some (true)) else ((cart_within ((rdL p0.fTracks s7.2).fToll) 0 40).bind fun y36 => some ((!y36)))).bind fun b25 => ((if b25 = true then (some (true)) else ((cart_closed ((rdL p0.fTracks s7.2).fK)).bind fun y34 => some ((!y34)))).bind fun b28 => (if b28 = true then some (.inr (.inl (1,s7.2))) else ((cart_track p0 ((rdL p0.fTracks s7.2).fID)).bind fun y31 => (if decide (y31 < s7.2) = true then some (.inr (.inl (6,s7.2))) else some (.inl (s7.1,w64 (s7.2 + 1))))))))))))) else some (.inr (.inr (s7.1,s7.2))))
def cart_Check (p0:TR) : Option Int :=
 ((cart_within p0.fPlaces 1 16).bind fun y2 => (if (!y2) = true then some 1 else (if decide (48 < (p0.fTracks.length:Int)) = true then some 2 else ((loopO (cart_Check_l1 p0) (0,0)).bind fun u8 => match u8 with | (.inl u45) => some u45.1 | (.inr u46) => some 0))))
def cart_asked (p0:TR) (p1:Int) (p2:Int) (p3:Int) (p4:Int) : Option Int :=
 ((cart_Check p0).bind fun y2 => (if (y2 != 0) = true then some y2 else ((cart_within p1 0 (w64 (p0.fPlaces - 1))).bind fun y5 => ((if (!y5) = true then (some (true)) else ((cart_within p2 0 (w64 (p0.fPlaces - 1))).bind fun y21 => some ((!y21)))).bind fun b8 => ((if b8 = true then (some (true)) else ((cart_hour p3).bind fun y19 => some ((!y19)))).bind fun b11 => ((if b11 = true then (some (true)) else ((cart_within p4 0 60).bind fun y17 => some ((!y17)))).bind fun b14 => (if b14 = true then some 1 else some 0)))))))
def cart_enter_l1 (p0:TT) (s3:(Int × Int)) : Option ((Int × Int) ⊕ (Int × Int)) :=
 (if decide (s3.2 < (p0.fK.length:Int)) = true then guardO ((0:Int) ≤ s3.2 ∧ s3.2 < (p0.fK.length:Int)) (((cart_within s3.1 ((rdL p0.fK s3.2).fLo) ((rdL p0.fK s3.2).fHi)).bind fun y8 => (if y8 = true then some (.inl (w64 (((rdL p0.fK s3.2).fHi) + 1),w64 (s3.2 + 1))) else some (.inl (s3.1,w64 (s3.2 + 1)))))) else some (.inr (s3.1,s3.2)))
def cart_enter (p0:TT) (p1:Int) : Option (Int × Bool) :=
 ((loopO (cart_enter_l1 p0) (p1,0)).bind fun u4 => ((cart_hour u4.1).bind fun y12 => some (u4.1,y12)))
def cart_queue_Len (p0:(List Twait)) : Option Int :=
 some (p0.length:Int)
def cart_queue_Less (p0:(List Twait)) (p1:Int) (p2:Int) : Option Bool :=
 guardO ((0:Int) ≤ p1 ∧ p1 < (p0.length:Int)) (guardO ((0:Int) ≤ p2 ∧ p2 < (p0.length:Int)) (some (decide ((rdL p0 p1).f_at < (rdL p0 p2).f_at))))
def cart_queue_Swap (p0:(List Twait)) (p1:Int) (p2:Int) : Option (List Twait) :=
 guardO ((0:Int) ≤ p2 ∧ p2 < (p0.length:Int)) (guardO ((0:Int) ≤ p1 ∧ p1 < (p0.length:Int)) (guardO ((0:Int) ≤ p1 ∧ p1 < (p0.length:Int)) (guardO ((0:Int) ≤ p2 ∧ p2 < (p0.length:Int)) (some ((p0.set (Int.toNat p1) (rdL p0 p2)).set (Int.toNat p2) (rdL p0 p1))))))
def container_heap_down_l1 (p2:Int) (s3:(Int × (List Twait))) : Option ((Int × (List Twait)) ⊕ (Int × (List Twait))) :=
 (if ((decide (p2 ≤ w64 ((w64 (2 * s3.1)) + 1))) || (decide (w64 ((w64 (2 * s3.1)) + 1) < 0))) = true then some (.inr (s3.1,s3.2)) else ((if decide (w64 ((w64 ((w64 (2 * s3.1)) + 1)) + 1) < p2) = true then ((cart_queue_Less s3.2 (w64 ((w64 ((w64 (2 * s3.1)) + 1)) + 1)) (w64 ((w64 (2 * s3.1)) + 1))).bind fun y23 => some (y23)) else (some (false))).bind fun b8 => (if b8 = true then ((cart_queue_Less s3.2 (w64 ((w64 ((w64 (2 * s3.1)) + 1)) + 1)) s3.1).bind fun y11 => (if (!y11) = true then some (.inr (s3.1,s3.2)) else ((cart_queue_Swap s3.2 s3.1 (w64 ((w64 ((w64 (2 * s3.1)) + 1)) + 1))).bind fun y14 => some (.inl (w64 ((w64 ((w64 (2 * s3.1)) + 1)) + 1),y14))))) else ((cart_queue_Less s3.2 (w64 ((w64 (2 * s3.1)) + 1)) s3.1).bind fun y17 => (if (!y17) = true then some (.inr (s3.1,s3.2)) else ((cart_queue_Swap s3.2 s3.1 (w64 ((w64 (2 * s3.1)) + 1))).bind fun y20 => some (.inl (w64 ((w64 (2 * s3.1)) + 1),y20))))))))
def container_heap_down (p0:(List Twait)) (p1:Int) (p2:Int) : Option (Bool × (List Twait)) :=
 ((loopO (container_heap_down_l1 p2) (p1,p0)).bind fun u4 => some (decide (p1 < u4.1),u4.2))
def cart_queue_Pop (p0:(List Twait)) : Option (Twait × (List Twait)) :=
 guardO ((0:Int) ≤ w64 ((p0.length:Int) - 1) ∧ w64 ((p0.length:Int) - 1) < (p0.length:Int)) (guardO ((0:Int) ≤ w64 ((p0.length:Int) - 1) ∧ w64 ((p0.length:Int) - 1) ≤ (p0.length:Int)) (some ((Twait.mk ((rdL p0 (w64 ((p0.length:Int) - 1))).f_at) (Ts.mk ((rdL p0 (w64 ((p0.length:Int) - 1))).f_stop.f_place) ((rdL p0 (w64 ((p0.length:Int) - 1))).f_stop.f_toll))),(p0.take (Int.toNat (w64 ((p0.length:Int) - 1)))))))
def container_heap_Pop (p0:(List Twait)) : Option (Twait × (List Twait)) :=
 ((cart_queue_Len p0).bind fun y1 => ((cart_queue_Swap p0 0 (w64 (y1 - 1))).bind fun y3 => ((container_heap_down y3 0 (w64 (y1 - 1))).bind fun y6 => ((cart_queue_Pop y6.2).bind fun y12 => some (y12.1,y12.2)))))
def seqTracks_ok (x:TR × Int) : Prop:=x.1.fTracks.length ≤ 1000
instance (x:TR × Int) : Decidable (seqTracks_ok x):=by unfold seqTracks_ok; infer_instance
def seqTracks (x:TR × Int) : List TT:=x.1.fTracks.filter fun z => z.fFrom == x.2
def cart_tracks (p0:TR) (p1:Int) : Option Unit :=
 some ()
def container_heap_up_l1 (s3:(Int × (List Twait))) : Option ((Int × (List Twait)) ⊕ (Int × (List Twait))) :=
 ((if ((w64 (Int.tdiv (w64 (s3.1 - 1)) 2)) == s3.1) = true then (some (true)) else ((cart_queue_Less s3.2 s3.1 (w64 (Int.tdiv (w64 (s3.1 - 1)) 2))).bind fun y12 => some ((!y12)))).bind fun b6 => (if b6 = true then some (.inr (s3.1,s3.2)) else ((cart_queue_Swap s3.2 (w64 (Int.tdiv (w64 (s3.1 - 1)) 2)) s3.1).bind fun y9 => some (.inl (w64 (Int.tdiv (w64 (s3.1 - 1)) 2),y9)))))
def container_heap_up (p0:(List Twait)) (p1:Int) : Option (List Twait) :=
 ((loopO (container_heap_up_l1) (p1,p0)).bind fun u4 => some u4.2)
def cart_queue_Push (p0:(List Twait)) (p1:Twait) : Option (List Twait) :=
 guardO (p0.length + 1 ≤ 1000000000) (some (p0 ++ [p1]))
def container_heap_Push (p0:(List Twait)) (p1:Twait) : Option (List Twait) :=
 ((cart_queue_Push p0 p1).bind fun y1 => ((cart_queue_Len y1).bind fun y7 => ((container_heap_up y1 (w64 (y7 - 1))).bind fun y9 => some y9)))
def cart_labels_r2 (y15:(Twait × (List Twait))) (s39:((List (Ts × Tl)) × (List Twait))) (x40:TT) : Option (((List (Ts × Tl)) × (List Twait)) ⊕ Unit) :=
 ((cart_enter x40 y15.1.f_at).bind fun y43 => ((if ((!y43.2) || (decide (60 < w64 (y15.1.f_stop.f_toll + x40.fToll)))) = true then (some (true)) else ((cart_hour (w64 (y43.1 + x40.fLong))).bind fun y62 => some ((!y62)))).bind fun b48 => (if b48 = true then some (.inl (s39.1,s39.2)) else guardO (Tstop_okk (Ts.mk x40.fTo (w64 (y15.1.f_stop.f_toll + x40.fToll))) = true) ((if ((mhasV s39.1 (Ts.mk x40.fTo (w64 (y15.1.f_stop.f_toll + x40.fToll)))) && (decide ((mgetV (Tl.mk 0 (Ts.mk 0 0) (TLeg.mk 0 0) false) s39.1 (Ts.mk x40.fTo (w64 (y15.1.f_stop.f_toll + x40.fToll)))).f_at ≤ w64 (y43.1 + x40.fLong)))) = true then some (.inl (s39.1,s39.2)) else guardO (Tstop_okk (Ts.mk x40.fTo (w64 (y15.1.f_stop.f_toll + x40.fToll))) = true ∧ List.length s39.1 < 1000000) (((container_heap_Push s39.2 (Twait.mk (w64 (y43.1 + x40.fLong)) (Ts.mk x40.fTo (w64 (y15.1.f_stop.f_toll + x40.fToll))))).bind fun y56 => some (.inl ((((Ts.mk x40.fTo (w64 (y15.1.f_stop.f_toll + x40.fToll))),(Tl.mk (w64 (y43.1 + x40.fLong)) y15.1.f_stop (TLeg.mk x40.fID y43.1) false)) :: s39.1),y56)))))))))
def cart_labels_l1 (p0:TR) (s10:((List Twait) × (List (Ts × Tl)))) : Option (((List Twait) × (List (Ts × Tl))) ⊕ ((List Twait) × (List (Ts × Tl)))) :=
 ((cart_queue_Len s10.1).bind fun y12 => (if decide (0 < y12) = true then ((container_heap_Pop s10.1).bind fun y15 => guardO (Tstop_okk y15.1.f_stop = true) ((if decide ((mgetV (Tl.mk 0 (Ts.mk 0 0) (TLeg.mk 0 0) false) s10.2 y15.1.f_stop).f_at < y15.1.f_at) = true then some (.inl (y15.2,s10.2)) else ((cart_tracks p0 y15.1.f_stop.f_place).bind fun y24 => (guardO (seqTracks_ok (p0,y15.1.f_stop.f_place)) ((foldO (cart_labels_r2 y15) (seqTracks (p0,y15.1.f_stop.f_place)) (s10.2,y15.2)).bind fun u41 => match u41 with | .inl u68 => some (.inl (u68.2,u68.1)) | .inr _ => none)))))) else some (.inr (s10.1,s10.2))))
def cart_labels (p0:TR) (p1:Int) (p2:Int) : Option (List (Ts × Tl)) :=
 guardO (Tstop_okk (Ts.mk p1 0) = true ∧ List.length ([]:(List (Ts × Tl))) < 1000000) (((loopO (cart_labels_l1 p0) ([(Twait.mk p2 (Ts.mk p1 0))],(((Ts.mk p1 0),(Tl.mk p2 (Ts.mk 0 0) (TLeg.mk 0 0) true)) :: ([]:(List (Ts × Tl)))))).bind fun u11 => some u11.2))
def cart_earliest_l1 (p0:(List (Ts × Tl))) (p1:Int) (s5:(Int × Int × (List Int))) : Option ((Int × Int × (List Int)) ⊕ (Int × Int × (List Int))) :=
 (if decide (s5.2.1 < 61) = true then guardO (Tstop_okk (Ts.mk p1 s5.2.1) = true) ((if ((mhasV p0 (Ts.mk p1 s5.2.1)) && ((decide (s5.1 < 0)) || (decide ((mgetV (Tl.mk 0 (Ts.mk 0 0) (TLeg.mk 0 0) false) p0 (Ts.mk p1 s5.2.1)).f_at < s5.1)))) = true then guardO ((0:Int) ≤ s5.2.1 ∧ s5.2.1 < 61) (some (.inl ((mgetV (Tl.mk 0 (Ts.mk 0 0) (TLeg.mk 0 0) false) p0 (Ts.mk p1 s5.2.1)).f_at,w64 (s5.2.1 + 1),(s5.2.2.set (Int.toNat s5.2.1) ((mgetV (Tl.mk 0 (Ts.mk 0 0) (TLeg.mk 0 0) false) p0 (Ts.mk p1 s5.2.1)).f_at))))) else guardO ((0:Int) ≤ s5.2.1 ∧ s5.2.1 < 61) (some (.inl (s5.1,w64 (s5.2.1 + 1),(s5.2.2.set (Int.toNat s5.2.1) s5.1)))))) else some (.inr (s5.1,s5.2.1,s5.2.2)))
def cart_earliest (p0:(List (Ts × Tl))) (p1:Int) : Option (List Int) :=
 ((loopO (cart_earliest_l1 p0 p1) ((-1),0,(List.replicate 61 0))).bind fun u6 => some u6.2.2)
def slices_Reverse_Leg_Leg_l1 (p0:(List TLeg)) (s3:(Int × Int × (List TLeg))) : Option ((Int × Int × (List TLeg)) ⊕ (Int × Int × (List TLeg))) :=
 (if decide (s3.1 < s3.2.1) = true then guardO ((0:Int) ≤ s3.2.1 ∧ s3.2.1 < (p0.length:Int)) (guardO ((0:Int) ≤ s3.1 ∧ s3.1 < (p0.length:Int)) (guardO ((0:Int) ≤ s3.1 ∧ s3.1 < (p0.length:Int)) (guardO ((0:Int) ≤ s3.2.1 ∧ s3.2.1 < (p0.length:Int)) (some (.inl (w64 (s3.1 + 1),w64 (s3.2.1 - 1),((s3.2.2.set (Int.toNat s3.1) (rdL s3.2.2 s3.2.1)).set (Int.toNat s3.2.1) (rdL s3.2.2 s3.1)))))))) else some (.inr (s3.1,s3.2.1,s3.2.2)))
def slices_Reverse_Leg_Leg (p0:(List TLeg)) : Option (List TLeg) :=
 ((loopO (slices_Reverse_Leg_Leg_l1 p0) (0,w64 ((p0.length:Int) - 1),p0)).bind fun u4 => some u4.2.2)
def cart_journey_l1 (p0:(List (Ts × Tl))) (s9:(Tl × (List TLeg))) : Option ((Tl × (List TLeg)) ⊕ (Tl × (List TLeg))) :=
 (if (!s9.1.f_begin) = true then guardO (s9.2.length + 1 ≤ 1000000000) (guardO (Tstop_okk s9.1.f_from = true) (some (.inl ((Tl.mk ((mgetV (Tl.mk 0 (Ts.mk 0 0) (TLeg.mk 0 0) false) p0 s9.1.f_from).f_at) (Ts.mk ((mgetV (Tl.mk 0 (Ts.mk 0 0) (TLeg.mk 0 0) false) p0 s9.1.f_from).f_from.f_place) ((mgetV (Tl.mk 0 (Ts.mk 0 0) (TLeg.mk 0 0) false) p0 s9.1.f_from).f_from.f_toll)) (TLeg.mk ((mgetV (Tl.mk 0 (Ts.mk 0 0) (TLeg.mk 0 0) false) p0 s9.1.f_from).f_leg.fTrack) ((mgetV (Tl.mk 0 (Ts.mk 0 0) (TLeg.mk 0 0) false) p0 s9.1.f_from).f_leg.fHour)) ((mgetV (Tl.mk 0 (Ts.mk 0 0) (TLeg.mk 0 0) false) p0 s9.1.f_from).f_begin)),(s9.2 ++ [s9.1.f_leg]))))) else some (.inr (s9.1,s9.2)))
def cart_journey (p0:(List (Ts × Tl))) (p1:Ts) : Option TJ :=
 guardO (Tstop_okk p1 = true) (guardO (Tstop_okk p1 = true) (((loopO (cart_journey_l1 p0) ((Tl.mk ((mgetV (Tl.mk 0 (Ts.mk 0 0) (TLeg.mk 0 0) false) p0 p1).f_at) (Ts.mk ((mgetV (Tl.mk 0 (Ts.mk 0 0) (TLeg.mk 0 0) false) p0 p1).f_from.f_place) ((mgetV (Tl.mk 0 (Ts.mk 0 0) (TLeg.mk 0 0) false) p0 p1).f_from.f_toll)) (TLeg.mk ((mgetV (Tl.mk 0 (Ts.mk 0 0) (TLeg.mk 0 0) false) p0 p1).f_leg.fTrack) ((mgetV (Tl.mk 0 (Ts.mk 0 0) (TLeg.mk 0 0) false) p0 p1).f_leg.fHour)) ((mgetV (Tl.mk 0 (Ts.mk 0 0) (TLeg.mk 0 0) false) p0 p1).f_begin)),([]:List TLeg))).bind fun u10 => ((slices_Reverse_Leg_Leg u10.2).bind fun y19 => some (TJ.mk y19 ((mgetV (Tl.mk 0 (Ts.mk 0 0) (TLeg.mk 0 0) false) p0 p1).f_at) p1.f_toll)))))
def cart_front_l1 (p2:Int) (y2:(List (Ts × Tl))) (y5:(List Int)) (s11:(Int × Int × (List TJ))) : Option ((Int × Int × (List TJ)) ⊕ (Int × Int × (List TJ))) :=
 (if decide (s11.2.1 < 61) = true then guardO ((0:Int) ≤ s11.2.1 ∧ s11.2.1 < 61) ((if ((rdL y5 s11.2.1) != s11.1) = true then ((cart_journey y2 (Ts.mk p2 s11.2.1)).bind fun y16 => guardO (s11.2.2.length + 1 ≤ 1000000000) (some (.inl ((rdL y5 s11.2.1),w64 (s11.2.1 + 1),(s11.2.2 ++ [y16]))))) else some (.inl ((rdL y5 s11.2.1),w64 (s11.2.1 + 1),s11.2.2)))) else some (.inr (s11.1,s11.2.1,s11.2.2)))
def cart_front (p0:TR) (p1:Int) (p2:Int) (p3:Int) : Option (List TJ) :=
 ((cart_labels p0 p1 p3).bind fun y2 => ((cart_earliest y2 p2).bind fun y5 => ((loopO (cart_front_l1 p2 y2 y5) ((-1),0,([]:List TJ))).bind fun u12 => some u12.2.2)))
def cart_best_l1 (p4:Int) (y4:(List TJ)) (s18:(Bool × Int × (List TLeg) × Int × Int)) : Option ((Bool × Int × (List TLeg) × Int × Int) ⊕ (Bool × Int × (List TLeg) × Int × Int)) :=
 (if decide (s18.2.1 < (y4.length:Int)) = true then guardO ((0:Int) ≤ s18.2.1 ∧ s18.2.1 < (y4.length:Int)) ((if decide ((rdL y4 s18.2.1).fToll ≤ p4) = true then some (.inl (true,w64 (s18.2.1 + 1),(rdL y4 s18.2.1).fLegs,(rdL y4 s18.2.1).fA,(rdL y4 s18.2.1).fToll)) else some (.inl (s18.1,w64 (s18.2.1 + 1),s18.2.2.1,s18.2.2.2.1,s18.2.2.2.2)))) else some (.inr (s18.1,s18.2.1,s18.2.2.1,s18.2.2.2.1,s18.2.2.2.2)))
def cart_best (p0:TR) (p1:Int) (p2:Int) (p3:Int) (p4:Int) : Option (TJ × Bool) :=
 ((cart_front p0 p1 p2 p3).bind fun y4 => ((loopO (cart_best_l1 p4 y4) (false,0,([]:(List TLeg)),0,0)).bind fun u19 => some ((TJ.mk u19.2.2.1 u19.2.2.2.1 u19.2.2.2.2),u19.1)))
def cart_Best (p0:TR) (p1:Int) (p2:Int) (p3:Int) (p4:Int) : Option (TJ × Int) :=
 ((cart_asked p0 p1 p2 p3 p4).bind fun y3 => (if (y3 != 0) = true then some ((TJ.mk ([]:(List TLeg)) 0 0),y3) else ((cart_best p0 p1 p2 p3 p4).bind fun y6 => (if (!y6.2) = true then some ((TJ.mk ([]:(List TLeg)) 0 0),5) else some (y6.1,0)))))
def cart_Latest_1 (p0:Int) (cap0:TR) (cap1:Int) (cap2:Int) (cap3:Int) (cap4:Int) : Option Bool :=
 ((cart_best cap0 cap1 cap2 p0 cap3).bind fun y1 => some (y1.2 && (decide (y1.1.fA ≤ cap4))))
def cart_Latest_l1 (p0:TR) (p1:Int) (p2:Int) (p3:Int) (p4:Int) (s10:(Int × Int)) : Option ((Int × Int) ⊕ (Int × Int)) :=
 (if decide (s10.1 ≤ s10.2) = true then ((cart_Latest_1 (w64 (Int.tdiv (w64 (s10.1 + s10.2)) 2)) p0 p1 p2 p4 p3).bind fun y13 => (if y13 = true then some (.inl (w64 ((w64 (Int.tdiv (w64 (s10.1 + s10.2)) 2)) + 1),s10.2)) else some (.inl (s10.1,w64 ((w64 (Int.tdiv (w64 (s10.1 + s10.2)) 2)) - 1))))) else some (.inr (s10.1,s10.2)))
def cart_Latest (p0:TR) (p1:Int) (p2:Int) (p3:Int) (p4:Int) : Option (Int × Int) :=
 ((cart_asked p0 p1 p2 p3 p4).bind fun y6 => (if (y6 != 0) = true then some (0,y6) else ((loopO (cart_Latest_l1 p0 p1 p2 p3 p4) (0,p3)).bind fun u11 => (if decide (u11.2 < 0) = true then some (0,5) else some (u11.2,0)))))
def slices_Delete_Track_Track (p0:(List TT)) (p1:Int) (p2:Int) : Option (List TT) :=
 guardO ((0:Int) ≤ p1 ∧ p1 ≤ p2 ∧ p2 ≤ (p0.length:Int) ∧ (p0.length:Int) ≤ (p0.length:Int)) ((if (p1 == p2) = true then some p0 else guardO ((0:Int) ≤ p1 ∧ p1 ≤ (p0.length:Int)) (guardO ((0:Int) ≤ p2 ∧ p2 ≤ (p0.length:Int)) (guardO (p1 ≤ p2) (some (p0.take (Int.toNat p1) ++ p0.drop (Int.toNat p2)))))))
def slices_Clone_Track_Track (p0:(List TT)) : Option (List TT) :=
 guardO (0 + p0.length ≤ 1000000000) (some (([]:List TT) ++ p0))
def cmp_isNaN_int (p0:Int) : Option Bool :=
 some (p0 != p0)
def cmp_Less_int (p0:Int) (p1:Int) : Option Bool :=
 ((cmp_isNaN_int p0).bind fun y1 => ((if y1 = true then ((cmp_isNaN_int p1).bind fun y7 => some ((!y7))) else (some (false))).bind fun b4 => some (b4 || (decide (p0 < p1)))))
def slices_insertionSortOrdered_int_l2 (p0:(List Int)) (p1:Int) (s8:(Int × (List Int))) : Option ((Int × (List Int)) ⊕ (Int × (List Int))) :=
 ((if decide (p1 < s8.1) = true then (guardO ((0:Int) ≤ s8.1 ∧ s8.1 < (p0.length:Int)) (guardO ((0:Int) ≤ w64 (s8.1 - 1) ∧ w64 (s8.1 - 1) < (p0.length:Int)) (((cmp_Less_int (rdL s8.2 s8.1) (rdL s8.2 (w64 (s8.1 - 1)))).bind fun y21 => some (y21))))) else (some (false))).bind fun b11 => (if b11 = true then guardO ((0:Int) ≤ w64 (s8.1 - 1) ∧ w64 (s8.1 - 1) < (p0.length:Int)) (guardO ((0:Int) ≤ s8.1 ∧ s8.1 < (p0.length:Int)) (guardO ((0:Int) ≤ s8.1 ∧ s8.1 < (p0.length:Int)) (guardO ((0:Int) ≤ w64 (s8.1 - 1) ∧ w64 (s8.1 - 1) < (p0.length:Int)) (some (.inl (w64 (s8.1 - 1),((s8.2.set (Int.toNat s8.1) (rdL s8.2 (w64 (s8.1 - 1)))).set (Int.toNat (w64 (s8.1 - 1))) (rdL s8.2 s8.1)))))))) else some (.inr (s8.1,s8.2))))
def slices_insertionSortOrdered_int_l1 (p0:(List Int)) (p1:Int) (p2:Int) (s3:(Int × (List Int))) : Option ((Int × (List Int)) ⊕ (Int × (List Int))) :=
 (if decide (s3.1 < p2) = true then ((loopO (slices_insertionSortOrdered_int_l2 p0 p1) (s3.1,s3.2)).bind fun u9 => some (.inl (w64 (s3.1 + 1),u9.2))) else some (.inr (s3.1,s3.2)))
def slices_insertionSortOrdered_int (p0:(List Int)) (p1:Int) (p2:Int) : Option (List Int) :=
 ((loopO (slices_insertionSortOrdered_int_l1 p0 p1 p2) (w64 (p1 + 1),p0)).bind fun u4 => some u4.2)
def lenv (x:Int) : Int:=if x < 1 then 0 else if x < 2 then 1 else if x < 4 then 2 else if x < 8 then 3 else 4
def math_bits_Len64 (p0:Int) : Option Int:=guardO (0 ≤ p0 ∧ p0 < 16) (some (w64 (0 + lenv p0)))
def math_bits_Len (p0:Int) : Option Int :=
 ((math_bits_Len64 p0).bind fun y1 => some y1)
def slices_pdqsortOrdered_int_l1 (s3:(Int × Int × Int × Bool × Bool × (List Int))) : Option ((Int × Int × Int × Bool × Bool × (List Int)) ⊕ (Int × Int × Int × Bool × Bool × (List Int))) :=
 guardO (decide (w64 (s3.2.1 - s3.1) ≤ 12) = true) (((slices_insertionSortOrdered_int s3.2.2.2.2.2 s3.1 s3.2.1).bind fun y6 => some (.inr (s3.1,s3.2.1,s3.2.2.1,s3.2.2.2.1,s3.2.2.2.2.1,y6))))
def slices_pdqsortOrdered_int (p0:(List Int)) (p1:Int) (p2:Int) (p3:Int) : Option (List Int) :=
 ((loopO (slices_pdqsortOrdered_int_l1) (p1,p2,p3,true,true,p0)).bind fun u4 => some u4.2.2.2.2.2)
def slices_Sort_int_int (p0:(List Int)) : Option (List Int):=guardO (p0.length ≤ 12) (some (srtI p0))
def cart_Needed_l1 (p0:TR) (p1:Int) (p2:Int) (p3:Int) (p4:Int) (y2:(TJ × Int)) (s16:(Int × (List Int))) : Option ((Int × (List Int)) ⊕ (Int × (List Int))) :=
 (if decide (s16.1 < (p0.fTracks.length:Int)) = true then guardO ((0:Int) ≤ s16.1 ∧ s16.1 < (p0.fTracks.length:Int)) (((slices_Clone_Track_Track p0.fTracks).bind fun y22 => ((slices_Delete_Track_Track y22 s16.1 (w64 (s16.1 + 1))).bind fun y31 => ((cart_best (TR.mk p0.fPlaces y31) p1 p2 p3 p4).bind fun y40 => (if ((!y40.2) || (y40.1.fA != y2.1.fA)) = true then guardO (s16.2.length + 1 ≤ 1000000000) (some (.inl (w64 (s16.1 + 1),(s16.2 ++ [(rdL p0.fTracks s16.1).fID])))) else some (.inl (w64 (s16.1 + 1),s16.2))))))) else some (.inr (s16.1,s16.2)))
def cart_Needed (p0:TR) (p1:Int) (p2:Int) (p3:Int) (p4:Int) : Option ((List Int) × Int) :=
 ((cart_Best p0 p1 p2 p3 p4).bind fun y2 => (if (y2.2 != 0) = true then some ([],y2.2) else ((loopO (cart_Needed_l1 p0 p1 p2 p3 p4 y2) (0,([]:List Int))).bind fun u17 => ((slices_Sort_int_int u17.2).bind fun y58 => some (y58,0)))))
def ref05_SameInts_l1 (p0:(List Int)) (p1:(List Int)) (s3:(Bool × Int)) : Option ((Bool × Int) ⊕ ((Bool × Int) ⊕ (Bool × Int))) :=
 (if decide (s3.2 < (p0.length:Int)) = true then guardO ((0:Int) ≤ s3.2 ∧ s3.2 < (p0.length:Int)) (guardO ((0:Int) ≤ s3.2 ∧ s3.2 < (p1.length:Int)) ((if ((rdL p0 s3.2) != (rdL p1 s3.2)) = true then some (.inr (.inl (false,s3.2))) else some (.inl (s3.1,w64 (s3.2 + 1)))))) else some (.inr (.inr (s3.1,s3.2))))
def ref05_SameInts (p0:(List Int)) (p1:(List Int)) : Option Bool :=
 (if ((p0.length:Int) != (p1.length:Int)) = true then some false else ((loopO (ref05_SameInts_l1 p0 p1) (false,0)).bind fun u4 => match u4 with | (.inl u10) => some u10.1 | (.inr u11) => some true))
def slices_IndexFunc_Order_Order_l1 (p0:(List TO)) (p1:TO → Option Bool) (s2:(Int × Int)) : Option ((Int × Int) ⊕ ((Int × Int) ⊕ (Int × Int))) :=
 (if decide (s2.2 < (p0.length:Int)) = true then guardO ((0:Int) ≤ s2.2 ∧ s2.2 < (p0.length:Int)) (((p1 (TO.mk ((rdL p0 s2.2).fID) (TSpan.mk ((rdL p0 s2.2).fH.fLo) ((rdL p0 s2.2).fH.fHi)) ((rdL p0 s2.2).fD) ((rdL p0 s2.2).fW))).bind fun y6 => (if y6 = true then some (.inr (.inl (s2.2,s2.2))) else some (.inl (s2.1,w64 (s2.2 + 1)))))) else some (.inr (.inr (s2.1,s2.2))))
def slices_IndexFunc_Order_Order (p0:(List TO)) (p1:TO → Option Bool) : Option Int :=
 ((loopO (slices_IndexFunc_Order_Order_l1 p0 p1) (0,0)).bind fun u3 => match u3 with | (.inl u10) => some u10.1 | (.inr u11) => some (-1))
def cart_index_calx_api_Order (p0:(List TO)) (p1:TO → Option Bool) : Option Int :=
 ((slices_IndexFunc_Order_Order p0 p1).bind fun y1 => some y1)
def cart_order_1 (p0:TO) (cap0:Int) : Option Bool :=
 some (p0.fID == cap0)
def cart_order (p0:TY) (p1:Int) : Option Int :=
 ((cart_index_calx_api_Order p0.fR (fun x3 => cart_order_1 x3 p1)).bind fun y4 => some y4)
def slices_IndexFunc_Bay_Bay_l1 (p0:(List TBay)) (p1:TBay → Option Bool) (s2:(Int × Int)) : Option ((Int × Int) ⊕ ((Int × Int) ⊕ (Int × Int))) :=
 (if decide (s2.2 < (p0.length:Int)) = true then guardO ((0:Int) ≤ s2.2 ∧ s2.2 < (p0.length:Int)) (((p1 (TBay.mk ((rdL p0 s2.2).fID) ((rdL p0 s2.2).fHour) ((rdL p0 s2.2).fD))).bind fun y6 => (if y6 = true then some (.inr (.inl (s2.2,s2.2))) else some (.inl (s2.1,w64 (s2.2 + 1)))))) else some (.inr (.inr (s2.1,s2.2))))
def slices_IndexFunc_Bay_Bay (p0:(List TBay)) (p1:TBay → Option Bool) : Option Int :=
 ((loopO (slices_IndexFunc_Bay_Bay_l1 p0 p1) (0,0)).bind fun u3 => match u3 with | (.inl u10) => some u10.1 | (.inr u11) => some (-1))
def cart_index_calx_api_Bay (p0:(List TBay)) (p1:TBay → Option Bool) : Option Int :=
 ((slices_IndexFunc_Bay_Bay p0 p1).bind fun y1 => some y1)
def cart_bay_1 (p0:TBay) (cap0:Int) : Option Bool :=
 some (p0.fID == cap0)
def cart_bay (p0:TY) (p1:Int) : Option Int :=
 ((cart_index_calx_api_Bay p0.fB (fun x3 => cart_bay_1 x3 p1)).bind fun y4 => some y4)
def cart_CheckYard_l1 (p0:TY) (s5:(Int × Int)) : Option ((Int × Int) ⊕ ((Int × Int) ⊕ (Int × Int))) :=
 (if decide (s5.2 < (p0.fB.length:Int)) = true then guardO ((0:Int) ≤ s5.2 ∧ s5.2 < (p0.fB.length:Int)) (((cart_within ((rdL p0.fB s5.2).fID) 1 1099511627776).bind fun y10 => ((if (!y10) = true then (some (true)) else ((cart_hour ((rdL p0.fB s5.2).fHour)).bind fun y24 => some ((!y24)))).bind fun b13 => ((if b13 = true then (some (true)) else ((cart_within ((rdL p0.fB s5.2).fD) 0 9).bind fun y22 => some ((!y22)))).bind fun b16 => (if b16 = true then some (.inr (.inl (1,s5.2))) else ((cart_bay p0 ((rdL p0.fB s5.2).fID)).bind fun y19 => (if decide (y19 < s5.2) = true then some (.inr (.inl (6,s5.2))) else some (.inl (s5.1,w64 (s5.2 + 1)))))))))) else some (.inr (.inr (s5.1,s5.2))))
def cart_CheckYard_l2 (p0:TY) (s30:(Int × Int)) : Option ((Int × Int) ⊕ ((Int × Int) ⊕ (Int × Int))) :=
 (if decide (s30.2 < (p0.fR.length:Int)) = true then guardO ((0:Int) ≤ s30.2 ∧ s30.2 < (p0.fR.length:Int)) (((cart_within ((rdL p0.fR s30.2).fID) 1 1099511627776).bind fun y35 => ((if (!y35) = true then (some (true)) else ((cart_hour ((rdL p0.fR s30.2).fH.fLo)).bind fun y60 => some ((!y60)))).bind fun b38 => ((if b38 = true then (some (true)) else ((cart_hour ((rdL p0.fR s30.2).fH.fHi)).bind fun y58 => some ((!y58)))).bind fun b41 => ((if (b41 || (decide ((rdL p0.fR s30.2).fH.fHi < (rdL p0.fR s30.2).fH.fLo))) = true then (some (true)) else ((cart_within ((rdL p0.fR s30.2).fD) 0 9).bind fun y56 => some ((!y56)))).bind fun b45 => ((if b45 = true then (some (true)) else ((cart_within ((rdL p0.fR s30.2).fW) 1 1000).bind fun y54 => some ((!y54)))).bind fun b48 => (if b48 = true then some (.inr (.inl (1,s30.2))) else ((cart_order p0 ((rdL p0.fR s30.2).fID)).bind fun y51 => (if decide (y51 < s30.2) = true then some (.inr (.inl (6,s30.2))) else some (.inl (s30.1,w64 (s30.2 + 1)))))))))))) else some (.inr (.inr (s30.1,s30.2))))
def cart_CheckYard (p0:TY) : Option Int :=
 (if ((decide (24 < (p0.fB.length:Int))) || (decide (24 < (p0.fR.length:Int)))) = true then some 2 else ((loopO (cart_CheckYard_l1 p0) (0,0)).bind fun u6 => match u6 with | (.inl u27) => some u27.1 | (.inr u28) => ((loopO (cart_CheckYard_l2 p0) (u28.1,0)).bind fun u31 => match u31 with | (.inl u63) => some u63.1 | (.inr u64) => some 0)))
def cart_suits (p0:TO) (p1:TBay) : Option Bool :=
 ((cart_within p1.fHour p0.fH.fLo p0.fH.fHi).bind fun y3 => some (y3 && (decide (p0.fD ≤ p1.fD))))
def cart_given_take_1_l1 (p0:Int) (cap0:TY) (rec_:Int → TY → (List (Int × Bool)) → (List (Int × Int)) → Option (Bool × (List (Int × Bool)) × (List (Int × Int)))) (s3:(Bool × Int × (List (Int × Bool)) × (List (Int × Int)))) : Option ((Bool × Int × (List (Int × Bool)) × (List (Int × Int))) ⊕ ((Bool × Int × (List (Int × Bool)) × (List (Int × Int))) ⊕ (Bool × Int × (List (Int × Bool)) × (List (Int × Int))))) :=
 (if decide (s3.2.1 < (cap0.fB.length:Int)) = true then guardO ((0:Int) ≤ s3.2.1 ∧ s3.2.1 < (cap0.fB.length:Int)) (guardO (rngB s3.2.1 = true) (((if mgetV false s3.2.2.1 s3.2.1 = true then (some (true)) else (guardO ((0:Int) ≤ p0 ∧ p0 < (cap0.fR.length:Int)) (((cart_suits (TO.mk ((rdL cap0.fR p0).fID) (TSpan.mk ((rdL cap0.fR p0).fH.fLo) ((rdL cap0.fR p0).fH.fHi)) ((rdL cap0.fR p0).fD) ((rdL cap0.fR p0).fW)) (TBay.mk ((rdL cap0.fB s3.2.1).fID) ((rdL cap0.fB s3.2.1).fHour) ((rdL cap0.fB s3.2.1).fD))).bind fun y22 => some ((!y22)))))).bind fun b10 => (if b10 = true then some (.inl (s3.1,w64 (s3.2.1 + 1),s3.2.2.1,s3.2.2.2)) else guardO (rngB s3.2.1 = true ∧ List.length s3.2.2.1 < 1000000) (guardO (rngB s3.2.1 = true) ((if (!(mhasV s3.2.2.2 s3.2.1)) = true then (guardO (rngB s3.2.1 = true ∧ List.length s3.2.2.2 < 1000000) (some (.inr (.inl (true,s3.2.1,((s3.2.1,true) :: s3.2.2.1),((s3.2.1,p0) :: s3.2.2.2)))))) else ((rec_ (mgetV 0 s3.2.2.2 s3.2.1) cap0 ((s3.2.1,true) :: s3.2.2.1) s3.2.2.2).bind fun y17 => (if y17.1 = true then guardO (rngB s3.2.1 = true ∧ List.length y17.2.2 < 1000000) (some (.inr (.inl (true,s3.2.1,y17.2.1,((s3.2.1,p0) :: y17.2.2))))) else some (.inl (s3.1,w64 (s3.2.1 + 1),y17.2.1,y17.2.2))))))))))) else some (.inr (.inr (s3.1,s3.2.1,s3.2.2.1,s3.2.2.2))))
def cart_given_take_1_f (rec_:Int → TY → (List (Int × Bool)) → (List (Int × Int)) → Option (Bool × (List (Int × Bool)) × (List (Int × Int)))) (p0:Int) (cap0:TY) (cap1:(List (Int × Bool))) (cap2:(List (Int × Int))) : Option (Bool × (List (Int × Bool)) × (List (Int × Int))) :=
 ((loopO (cart_given_take_1_l1 p0 cap0 rec_) (false,0,cap1,cap2)).bind fun u4 => match u4 with | (.inl u25) => some (u25.1,u25.2.2.1,u25.2.2.2) | (.inr u26) => some (false,u26.2.2.1,u26.2.2.2))
def cart_given_take_1 : Nat → Int → TY → (List (Int × Bool)) → (List (Int × Int)) → Option (Bool × (List (Int × Bool)) × (List (Int × Int)))
 | 0 => fun _ _ _ _ => none
 | fuel + 1 => cart_given_take_1_f (cart_given_take_1 fuel)
def cart_given_take (p0:(List (Int × Int))) (p1:TY) (p2:Int) : Option (Bool × (List (Int × Int))) :=
 ((cart_given_take_1 (p1.fB.length + 2) p2 p1 [] p0).bind fun y6 => some (y6.1,y6.2.2))
def slices_insertionSortCmpFunc_int_l2 (p0:(List Int)) (p1:Int) (p3:Int → Int → Option Int) (s8:(Int × (List Int))) : Option ((Int × (List Int)) ⊕ (Int × (List Int))) :=
 ((if decide (p1 < s8.1) = true then (guardO ((0:Int) ≤ s8.1 ∧ s8.1 < (p0.length:Int)) (guardO ((0:Int) ≤ w64 (s8.1 - 1) ∧ w64 (s8.1 - 1) < (p0.length:Int)) (((p3 (rdL s8.2 s8.1) (rdL s8.2 (w64 (s8.1 - 1)))).bind fun y21 => some (decide (y21 < 0)))))) else (some (false))).bind fun b11 => (if b11 = true then guardO ((0:Int) ≤ w64 (s8.1 - 1) ∧ w64 (s8.1 - 1) < (p0.length:Int)) (guardO ((0:Int) ≤ s8.1 ∧ s8.1 < (p0.length:Int)) (guardO ((0:Int) ≤ s8.1 ∧ s8.1 < (p0.length:Int)) (guardO ((0:Int) ≤ w64 (s8.1 - 1) ∧ w64 (s8.1 - 1) < (p0.length:Int)) (some (.inl (w64 (s8.1 - 1),((s8.2.set (Int.toNat s8.1) (rdL s8.2 (w64 (s8.1 - 1)))).set (Int.toNat (w64 (s8.1 - 1))) (rdL s8.2 s8.1)))))))) else some (.inr (s8.1,s8.2))))
def slices_insertionSortCmpFunc_int_l1 (p0:(List Int)) (p1:Int) (p2:Int) (p3:Int → Int → Option Int) (s3:(Int × (List Int))) : Option ((Int × (List Int)) ⊕ (Int × (List Int))) :=
 (if decide (s3.1 < p2) = true then ((loopO (slices_insertionSortCmpFunc_int_l2 p0 p1 p3) (s3.1,s3.2)).bind fun u9 => some (.inl (w64 (s3.1 + 1),u9.2))) else some (.inr (s3.1,s3.2)))
def slices_insertionSortCmpFunc_int (p0:(List Int)) (p1:Int) (p2:Int) (p3:Int → Int → Option Int) : Option (List Int) :=
 ((loopO (slices_insertionSortCmpFunc_int_l1 p0 p1 p2 p3) (w64 (p1 + 1),p0)).bind fun u4 => some u4.2)
def slices_stableCmpFunc_int_l1 (p1:Int) (s2:(Int × Int)) : Option ((Int × Int) ⊕ (Int × Int)) :=
 guardO (decide (s2.2 ≤ p1) = false) (some (.inr (s2.1,s2.2)))
def slices_stableCmpFunc_int_l2 (p1:Int) (s10:(Int × Int × Int)) : Option ((Int × Int × Int) ⊕ (Int × Int × Int)) :=
 guardO (decide (s10.1 < p1) = false) (some (.inr (s10.1,s10.2.1,s10.2.2)))
def slices_stableCmpFunc_int (p0:(List Int)) (p1:Int) (p2:Int → Int → Option Int) : Option (List Int) :=
 ((loopO (slices_stableCmpFunc_int_l1 p1) (0,20)).bind fun u3 => ((slices_insertionSortCmpFunc_int p0 u3.1 p1 p2).bind fun y6 => ((loopO (slices_stableCmpFunc_int_l2 p1) (20,u3.1,u3.2)).bind fun u11 => some y6)))
def slices_SortStableFunc_int_int (p0:(List Int)) (p1:Int → Int → Option Int) : Option (List Int) :=
 ((slices_stableCmpFunc_int p0 (p0.length:Int) p1).bind fun y1 => some y1)
def cmp_Compare_int (p0:Int) (p1:Int) : Option Int :=
 ((cmp_isNaN_int p0).bind fun y1 => ((cmp_isNaN_int p1).bind fun y3 => (if y1 = true then (if y3 = true then some 0 else some (-1)) else (if y3 = true then some 1 else (if decide (p0 < p1) = true then some (-1) else (if decide (p1 < p0) = true then some 1 else some 0))))))
def cart_serve_1 (p0:Int) (p1:Int) (cap0:TY) : Option Int :=
 guardO ((0:Int) ≤ p1 ∧ p1 < (cap0.fR.length:Int)) (guardO ((0:Int) ≤ p0 ∧ p0 < (cap0.fR.length:Int)) (((cmp_Compare_int ((rdL cap0.fR p1).fW) ((rdL cap0.fR p0).fW)).bind fun y3 => some y3)))
def cart_serve_l1 (p0:TY) (s4:(Int × (List Int))) : Option ((Int × (List Int)) ⊕ (Int × (List Int))) :=
 (if decide (s4.1 < (p0.fR.length:Int)) = true then guardO (s4.2.length + 1 ≤ 1000000000) (some (.inl (w64 (s4.1 + 1),(s4.2 ++ [s4.1])))) else some (.inr (s4.1,s4.2)))
def cart_serve_l2 (p0:TY) (u5:(Int × (List Int))) (y14:(List Int)) (s20:(Int × (List (Int × Int)))) : Option ((Int × (List (Int × Int))) ⊕ (Int × (List (Int × Int)))) :=
 (if decide (s20.1 < (u5.2.length:Int)) = true then guardO ((0:Int) ≤ s20.1 ∧ s20.1 < (u5.2.length:Int)) (((cart_given_take s20.2 p0 (rdL y14 s20.1)).bind fun y24 => some (.inl (w64 (s20.1 + 1),y24.2)))) else some (.inr (s20.1,s20.2)))
def cart_serve (p0:TY) : Option (List (Int × Int)) :=
 ((loopO (cart_serve_l1 p0) (0,([]:List Int))).bind fun u5 => ((slices_SortStableFunc_int_int u5.2 (fun x12 x13 => cart_serve_1 x12 x13 p0)).bind fun y14 => ((loopO (cart_serve_l2 p0 u5 y14) (0,[])).bind fun u21 => some u21.2)))
def cart_given_worth (p0:(List (Int × Int))) (p1:TY) : Option Int :=
 guardO ((keysV p0).all (fun y5 => rngB y5 && decide (((0:Int) ≤ mgetV 0 p0 y5 ∧ mgetV 0 p0 y5 < (p1.fR.length:Int)))) = true) (some ((keysV p0).foldl (fun a y5 => w64 (a + ((rdL p1.fR (mgetV 0 p0 y5)).fW))) 0))
def cart_worth (p0:TY) : Option Int :=
 ((cart_serve p0).bind fun y2 => ((cart_given_worth y2 p0).bind fun y5 => some y5))
def cart_Surely_1 (p0__:TO) (p1:Int → Option Int) (cap0:Int) : Option Bool :=
 ((p1 0).bind fun y2 => some (decide (y2 < cap0)))
def cart_Never_1 (p0:TO) (p1:Int → Option Int) (cap0:Int) : Option Bool :=
 ((p1 (w64 (p0.fW + 1))).bind fun y2 => some (y2 == cap0))
def slices_Clone_Order_Order (p0:(List TO)) : Option (List TO) :=
 guardO (0 + p0.length ≤ 1000000000) (some (([]:List TO) ++ p0))
def cart_which_1 (p0:Int) (cap0:TY) (cap1:Int) : Option Int :=
 ((slices_Clone_Order_Order cap0.fR).bind fun y2 => guardO ((0:Int) ≤ cap1 ∧ cap1 < (y2.length:Int)) (((cart_worth (TY.mk cap0.fB (y2.set (Int.toNat cap1) (TO.mk ((rdL y2 cap1).fID) (TSpan.mk ((rdL y2 cap1).fH.fLo) ((rdL y2 cap1).fH.fHi)) ((rdL y2 cap1).fD) p0)))).bind fun y10 => some y10)))
def cart_which__surely_l1 (p0:TY) (cap0:Int) (s4:(Int × (List Int))) : Option ((Int × (List Int)) ⊕ (Int × (List Int))) :=
 (if decide (s4.1 < (p0.fR.length:Int)) = true then guardO ((0:Int) ≤ s4.1 ∧ s4.1 < (p0.fR.length:Int)) (((cart_Surely_1 (TO.mk ((rdL p0.fR s4.1).fID) (TSpan.mk ((rdL p0.fR s4.1).fH.fLo) ((rdL p0.fR s4.1).fH.fHi)) ((rdL p0.fR s4.1).fD) ((rdL p0.fR s4.1).fW)) (fun x10 => cart_which_1 x10 p0 s4.1) cap0).bind fun y11 => (if y11 = true then guardO (s4.2.length + 1 ≤ 1000000000) (some (.inl (w64 (s4.1 + 1),(s4.2 ++ [(rdL p0.fR s4.1).fID])))) else some (.inl (w64 (s4.1 + 1),s4.2))))) else some (.inr (s4.1,s4.2)))
def cart_which__surely (p0:TY) (cap0:Int) : Option (List Int) :=
 ((loopO (cart_which__surely_l1 p0 cap0) (0,([]:List Int))).bind fun u5 => ((slices_Sort_int_int u5.2).bind fun y19 => some y19))
def cart_which__never_l1 (p0:TY) (cap0:Int) (s4:(Int × (List Int))) : Option ((Int × (List Int)) ⊕ (Int × (List Int))) :=
 (if decide (s4.1 < (p0.fR.length:Int)) = true then guardO ((0:Int) ≤ s4.1 ∧ s4.1 < (p0.fR.length:Int)) (((cart_Never_1 (TO.mk ((rdL p0.fR s4.1).fID) (TSpan.mk ((rdL p0.fR s4.1).fH.fLo) ((rdL p0.fR s4.1).fH.fHi)) ((rdL p0.fR s4.1).fD) ((rdL p0.fR s4.1).fW)) (fun x10 => cart_which_1 x10 p0 s4.1) cap0).bind fun y11 => (if y11 = true then guardO (s4.2.length + 1 ≤ 1000000000) (some (.inl (w64 (s4.1 + 1),(s4.2 ++ [(rdL p0.fR s4.1).fID])))) else some (.inl (w64 (s4.1 + 1),s4.2))))) else some (.inr (s4.1,s4.2)))
def cart_which__never (p0:TY) (cap0:Int) : Option (List Int) :=
 ((loopO (cart_which__never_l1 p0 cap0) (0,([]:List Int))).bind fun u5 => ((slices_Sort_int_int u5.2).bind fun y19 => some y19))
def cart_Surely (p0:TY) : Option ((List Int) × Int) :=
 ((cart_CheckYard p0).bind fun y2 => (if (y2 != 0) = true then some ([],y2) else ((cart_worth p0).bind fun y5 => ((cart_which__surely p0 y5).bind fun y8 => some (y8,0)))))
def cart_Never (p0:TY) : Option ((List Int) × Int) :=
 ((cart_CheckYard p0).bind fun y2 => (if (y2 != 0) = true then some ([],y2) else ((cart_worth p0).bind fun y5 => ((cart_which__never p0 y5).bind fun y8 => some (y8,0)))))
def cart_all_1 (p0:Int) (cap0:(List (Int × Int))) (cap1:TY) : Option (Bool × (List (Int × Int))) :=
 ((cart_order cap1 p0).bind fun y1 => ((cart_given_take cap0 cap1 y1).bind fun y3 => some ((!y3.1),y3.2)))
def slices_IndexFunc_int_int__all_l1 (p0:(List Int)) (cap1:TY) (s3:(Int × Int × (List (Int × Int)))) : Option ((Int × Int × (List (Int × Int))) ⊕ ((Int × Int × (List (Int × Int))) ⊕ (Int × Int × (List (Int × Int))))) :=
 (if decide (s3.2.1 < (p0.length:Int)) = true then guardO ((0:Int) ≤ s3.2.1 ∧ s3.2.1 < (p0.length:Int)) (((cart_all_1 (rdL p0 s3.2.1) s3.2.2 cap1).bind fun y7 => (if y7.1 = true then some (.inr (.inl (s3.2.1,s3.2.1,y7.2))) else some (.inl (s3.1,w64 (s3.2.1 + 1),y7.2))))) else some (.inr (.inr (s3.1,s3.2.1,s3.2.2))))
def slices_IndexFunc_int_int__all (p0:(List Int)) (cap0:(List (Int × Int))) (cap1:TY) : Option (Int × (List (Int × Int))) :=
 ((loopO (slices_IndexFunc_int_int__all_l1 p0 cap1) (0,0,cap0)).bind fun u4 => match u4 with | (.inl u11) => some (u11.1,u11.2.2) | (.inr u12) => some ((-1),u12.2.2))
def slices_IndexFunc_int_int_l1 (p0:(List Int)) (p1:Int → Option Bool) (s2:(Int × Int)) : Option ((Int × Int) ⊕ ((Int × Int) ⊕ (Int × Int))) :=
 (if decide (s2.2 < (p0.length:Int)) = true then guardO ((0:Int) ≤ s2.2 ∧ s2.2 < (p0.length:Int)) (((p1 (rdL p0 s2.2)).bind fun y6 => (if y6 = true then some (.inr (.inl (s2.2,s2.2))) else some (.inl (s2.1,w64 (s2.2 + 1)))))) else some (.inr (.inr (s2.1,s2.2))))
def slices_IndexFunc_int_int (p0:(List Int)) (p1:Int → Option Bool) : Option Int :=
 ((loopO (slices_IndexFunc_int_int_l1 p0 p1) (0,0)).bind fun u3 => match u3 with | (.inl u10) => some u10.1 | (.inr u11) => some (-1))
def cart_index_int__all (p0:(List Int)) (cap0:(List (Int × Int))) (cap1:TY) : Option (Int × (List (Int × Int))) :=
 ((slices_IndexFunc_int_int__all p0 cap0 cap1).bind fun y1 => some (y1.1,y1.2))
def cart_all (p0:TY) (p1:(List Int)) : Option Bool :=
 ((cart_index_int__all p1 [] p0).bind fun y4 => some (decide (y4.1 < 0)))
def slices_Clone_int_int (p0:(List Int)) : Option (List Int) :=
 guardO (0 + p0.length ≤ 1000000000) (some (([]:List Int) ++ p0))
def slices_DeleteFunc_int_int_l1 (p0:(List Int)) (p1:Int → Option Bool) (s6:(Int × Int × (List Int))) : Option ((Int × Int × (List Int)) ⊕ (Int × Int × (List Int))) :=
 (if decide (s6.2.1 < (p0.length:Int)) = true then guardO ((0:Int) ≤ s6.2.1 ∧ s6.2.1 < (p0.length:Int)) (((p1 (rdL s6.2.2 s6.2.1)).bind fun y10 => (if (!y10) = true then guardO ((0:Int) ≤ s6.1 ∧ s6.1 < (p0.length:Int)) (some (.inl (w64 (s6.1 + 1),w64 (s6.2.1 + 1),(s6.2.2.set (Int.toNat s6.1) (rdL s6.2.2 s6.2.1))))) else some (.inl (s6.1,w64 (s6.2.1 + 1),s6.2.2))))) else some (.inr (s6.1,s6.2.1,s6.2.2)))
def slices_DeleteFunc_int_int (p0:(List Int)) (p1:Int → Option Bool) : Option (List Int) :=
 ((slices_IndexFunc_int_int p0 p1).bind fun y1 => (if (y1 == (-1)) = true then some p0 else ((loopO (slices_DeleteFunc_int_int_l1 p0 p1) (y1,w64 (y1 + 1),p0)).bind fun u7 => guardO ((0:Int) ≤ u7.1 ∧ u7.1 ≤ (p0.length:Int)) (guardO ((0:Int) ≤ u7.1 ∧ u7.1 ≤ (p0.length:Int)) (some (u7.2.2.take (Int.toNat u7.1)))))))
def cart_Crowded_1 (p0:Int) (cap0:Int) : Option Bool :=
 some (p0 == cap0)
def cart_Crowded_l1 (p0:TY) (p1:(List Int)) (s6:(Int × Int)) : Option ((Int × Int) ⊕ ((Int × Int) ⊕ (Int × Int))) :=
 (if decide (s6.2 < (p1.length:Int)) = true then guardO ((0:Int) ≤ s6.2 ∧ s6.2 < (p1.length:Int)) (((cart_order p0 (rdL p1 s6.2)).bind fun y10 => ((if decide (y10 < 0) = true then (some (true)) else ((if decide (0 < s6.2) = true then (guardO ((0:Int) ≤ w64 (s6.2 - 1) ∧ w64 (s6.2 - 1) < (p1.length:Int)) (some (decide ((rdL p1 s6.2) ≤ (rdL p1 (w64 (s6.2 - 1))))))) else (some (false))).bind fun b17 => some (b17))).bind fun b13 => (if b13 = true then some (.inr (.inl (1,s6.2))) else some (.inl (s6.1,w64 (s6.2 + 1))))))) else some (.inr (.inr (s6.1,s6.2))))
def cart_Crowded_l2 (p0:TY) (p1:(List Int)) (s34:(Int × (List Int))) : Option ((Int × (List Int)) ⊕ (Int × (List Int))) :=
 (if decide (s34.1 < (p1.length:Int)) = true then guardO ((0:Int) ≤ s34.1 ∧ s34.1 < (p1.length:Int)) (((slices_Clone_int_int s34.2).bind fun y39 => ((slices_DeleteFunc_int_int y39 (fun x45 => cart_Crowded_1 x45 (rdL p1 s34.1))).bind fun y46 => ((cart_all p0 y46).bind fun y50 => (if (!y50) = true then some (.inl (w64 (s34.1 + 1),y46)) else some (.inl (w64 (s34.1 + 1),s34.2))))))) else some (.inr (s34.1,s34.2)))
def cart_Crowded (p0:TY) (p1:(List Int)) : Option ((List Int) × Int) :=
 ((cart_CheckYard p0).bind fun y2 => (if (y2 != 0) = true then some ([],y2) else ((loopO (cart_Crowded_l1 p0 p1) (0,0)).bind fun u7 => match u7 with | (.inl u21) => some (([]:List Int),u21.1) | (.inr u22) => ((cart_all p0 p1).bind fun y23 => (if y23 = true then some ([],5) else ((slices_Clone_int_int p1).bind fun y26 => ((loopO (cart_Crowded_l2 p0 p1) (0,y26)).bind fun u35 => some (u35.2,0))))))))
def slices_Delete_Bay_Bay (p0:(List TBay)) (p1:Int) (p2:Int) : Option (List TBay) :=
 guardO ((0:Int) ≤ p1 ∧ p1 ≤ p2 ∧ p2 ≤ (p0.length:Int) ∧ (p0.length:Int) ≤ (p0.length:Int)) ((if (p1 == p2) = true then some p0 else guardO ((0:Int) ≤ p1 ∧ p1 ≤ (p0.length:Int)) (guardO ((0:Int) ≤ p2 ∧ p2 ≤ (p0.length:Int)) (guardO (p1 ≤ p2) (some (p0.take (Int.toNat p1) ++ p0.drop (Int.toNat p2)))))))
def slices_Clone_Bay_Bay (p0:(List TBay)) : Option (List TBay) :=
 guardO (0 + p0.length ≤ 1000000000) (some (([]:List TBay) ++ p0))
def cart_without (p0:TY) (p1:Int) : Option TY :=
 ((slices_Clone_Bay_Bay p0.fB).bind fun y4 => ((slices_Delete_Bay_Bay y4 p1 (w64 (p1 + 1))).bind fun y10 => some (TY.mk y10 p0.fR)))
def cart_Lost (p0:TY) (p1:Int) : Option (Int × Int) :=
 ((cart_CheckYard p0).bind fun y2 => (if (y2 != 0) = true then some (0,y2) else ((cart_bay p0 p1).bind fun y5 => (if decide (y5 < 0) = true then some (0,5) else ((cart_worth p0).bind fun y8 => ((cart_without p0 y5).bind fun y10 => ((cart_worth (TY.mk y10.fB p0.fR)).bind fun y20 => some (w64 (y8 - y20),0))))))))
def cart_plan_l1 (p0:TY) (y6:Int) (s27:(Int × (List Int))) : Option ((Int × (List Int)) ⊕ (Int × (List Int))) :=
 (if decide (s27.1 < (p0.fB.length:Int)) = true then ((cart_without p0 s27.1).bind fun y31 => ((cart_worth (TY.mk y31.fB p0.fR)).bind fun y41 => guardO (s27.2.length + 1 ≤ 1000000000) (some (.inl (w64 (s27.1 + 1),(s27.2 ++ [w64 (y6 - y41)])))))) else some (.inr (s27.1,s27.2)))
def cart_plan (p0:TY) (p1:(List (Int × Int))) : Option TPlan :=
 guardO ((0:Int) ≤ (p0.fR.length:Int) ∧ (p0.fR.length:Int) * 8 ≤ 281474976710656) (((cart_given_worth p1 p0).bind fun y6 => guardO ((keysV p1).all (fun y12 => rngB y12 && decide (((0:Int) ≤ y12 ∧ y12 < (p0.fB.length:Int)) ∧ ((0:Int) ≤ mgetV 0 p1 y12 ∧ mgetV 0 p1 y12 < ((Int.toNat (p0.fR.length:Int) : Nat) : Int)))) = true) (guardO (((keysV p1).map (fun y12 => Int.toNat (mgetV 0 p1 y12))).Nodup) (((loopO (cart_plan_l1 p0 y6) (0,([]:List Int))).bind fun u28 => some (TPlan.mk ((keysV p1).foldl (fun a y12 => a.set (Int.toNat (mgetV 0 p1 y12)) ((rdL p0.fB y12).fID)) (List.replicate (Int.toNat (p0.fR.length:Int)) 0)) y6 u28.2))))))
def cart_Serve (p0:TY) : Option (TPlan × Int) :=
 ((cart_CheckYard p0).bind fun y3 => (if (y3 != 0) = true then some ((TPlan.mk [] 0 []),y3) else ((cart_serve p0).bind fun y6 => ((cart_plan p0 y6).bind fun y9 => some (y9,0)))))
def ref05_within (p0:Int) (p1:Int) (p2:Int) : Option Bool :=
 some ((decide (p1 ≤ p0)) && (decide (p0 ≤ p2)))
def ref05_Hour (p0:Int) : Option Bool :=
 ((ref05_within p0 0 16384).bind fun y1 => some y1)
def ref05_CheckYard_l2 (p0:TY) (s5:(Int × Int)) (s20:(Int × Int)) : Option ((Int × Int) ⊕ ((Int × Int) ⊕ (Int × Int))) :=
 (if decide (s20.2 < s5.2) = true then guardO ((0:Int) ≤ s20.2 ∧ s20.2 < (p0.fB.length:Int)) ((if (((rdL p0.fB s20.2).fID) == ((rdL p0.fB s5.2).fID)) = true then some (.inr (.inl (6,s20.2))) else some (.inl (s20.1,w64 (s20.2 + 1))))) else some (.inr (.inr (s20.1,s20.2))))
def ref05_CheckYard_l1 (p0:TY) (s5:(Int × Int)) : Option ((Int × Int) ⊕ ((Int × Int) ⊕ (Int × Int))) :=
 (if decide (s5.2 < (p0.fB.length:Int)) = true then guardO ((0:Int) ≤ s5.2 ∧ s5.2 < (p0.fB.length:Int)) (((ref05_within ((rdL p0.fB s5.2).fID) 1 1099511627776).bind fun y10 => ((ref05_Hour ((rdL p0.fB s5.2).fHour)).bind fun y12 => ((ref05_within ((rdL p0.fB s5.2).fD) 0 9).bind fun y14 => (if (((!y10) || (!y12)) || (!y14)) = true then some (.inr (.inl (1,s5.2))) else ((loopO (ref05_CheckYard_l2 p0 s5) (s5.1,0)).bind fun u21 => match u21 with | (.inl u26) => some (.inr (.inl (u26.1,s5.2))) | (.inr u27) => some (.inl (u27.1,w64 (s5.2 + 1))))))))) else some (.inr (.inr (s5.1,s5.2))))
def ref05_CheckYard_l4 (p0:TY) (s32:(Int × Int)) (s54:(Int × Int)) : Option ((Int × Int) ⊕ ((Int × Int) ⊕ (Int × Int))) :=
 (if decide (s54.2 < s32.2) = true then guardO ((0:Int) ≤ s54.2 ∧ s54.2 < (p0.fR.length:Int)) ((if (((rdL p0.fR s54.2).fID) == ((rdL p0.fR s32.2).fID)) = true then some (.inr (.inl (6,s54.2))) else some (.inl (s54.1,w64 (s54.2 + 1))))) else some (.inr (.inr (s54.1,s54.2))))
def ref05_CheckYard_l3 (p0:TY) (s32:(Int × Int)) : Option ((Int × Int) ⊕ ((Int × Int) ⊕ (Int × Int))) :=
 (if decide (s32.2 < (p0.fR.length:Int)) = true then guardO ((0:Int) ≤ s32.2 ∧ s32.2 < (p0.fR.length:Int)) (((ref05_within ((rdL p0.fR s32.2).fID) 1 1099511627776).bind fun y37 => ((ref05_Hour ((rdL p0.fR s32.2).fH.fLo)).bind fun y39 => ((ref05_Hour ((rdL p0.fR s32.2).fH.fHi)).bind fun y41 => ((ref05_within ((rdL p0.fR s32.2).fD) 0 9).bind fun y43 => ((ref05_within ((rdL p0.fR s32.2).fW) 1 1000).bind fun y45 => (if ((((((!y37) || (!y39)) || (!y41)) || (decide ((rdL p0.fR s32.2).fH.fHi < (rdL p0.fR s32.2).fH.fLo))) || (!y43)) || (!y45)) = true then some (.inr (.inl (1,s32.2))) else ((loopO (ref05_CheckYard_l4 p0 s32) (s32.1,0)).bind fun u55 => match u55 with | (.inl u60) => some (.inr (.inl (u60.1,s32.2))) | (.inr u61) => some (.inl (u61.1,w64 (s32.2 + 1))))))))))) else some (.inr (.inr (s32.1,s32.2))))
def ref05_CheckYard (p0:TY) : Option Int :=
 (if ((decide (24 < (p0.fB.length:Int))) || (decide (24 < (p0.fR.length:Int)))) = true then some 2 else ((loopO (ref05_CheckYard_l1 p0) (0,0)).bind fun u6 => match u6 with | (.inl u29) => some u29.1 | (.inr u30) => ((loopO (ref05_CheckYard_l3 p0) (u30.1,0)).bind fun u33 => match u33 with | (.inl u63) => some u63.1 | (.inr u64) => some 0)))
def ref05_bay_l1 (p0:TY) (p1:Int) (s3:(Int × Int)) : Option ((Int × Int) ⊕ ((Int × Int) ⊕ (Int × Int))) :=
 (if decide (s3.2 < (p0.fB.length:Int)) = true then guardO ((0:Int) ≤ s3.2 ∧ s3.2 < (p0.fB.length:Int)) ((if (((rdL p0.fB s3.2).fID) == p1) = true then some (.inr (.inl (s3.2,s3.2))) else some (.inl (s3.1,w64 (s3.2 + 1))))) else some (.inr (.inr (s3.1,s3.2))))
def ref05_bay (p0:TY) (p1:Int) : Option Int :=
 ((loopO (ref05_bay_l1 p0 p1) (0,0)).bind fun u4 => match u4 with | (.inl u9) => some u9.1 | (.inr u10) => some (-1))
def ref05_suits (p0:TY) (p1:Int) (p2:Int) : Option Bool :=
 guardO ((0:Int) ≤ p2 ∧ p2 < (p0.fB.length:Int)) (guardO ((0:Int) ≤ p1 ∧ p1 < (p0.fR.length:Int)) (guardO ((0:Int) ≤ p1 ∧ p1 < (p0.fR.length:Int)) (((ref05_within ((rdL p0.fB p2).fHour) ((rdL p0.fR p1).fH.fLo) ((rdL p0.fR p1).fH.fHi)).bind fun y5 => ((if y5 = true then (guardO ((0:Int) ≤ p2 ∧ p2 < (p0.fB.length:Int)) (guardO ((0:Int) ≤ p1 ∧ p1 < (p0.fR.length:Int)) (some (decide ((rdL p0.fR p1).fD ≤ (rdL p0.fB p2).fD))))) else (some (false))).bind fun b8 => some b8)))))
def ref05_plan_l2 (p1:(List Int)) (s4:(Bool × Int × Int)) (s17:(Bool × Int)) : Option ((Bool × Int) ⊕ ((Bool × Int) ⊕ (Bool × Int))) :=
 (if decide (s17.2 < s4.2.2) = true then guardO ((0:Int) ≤ s17.2 ∧ s17.2 < (p1.length:Int)) (guardO ((0:Int) ≤ s4.2.2 ∧ s4.2.2 < (p1.length:Int)) ((if ((rdL p1 s17.2) == (rdL p1 s4.2.2)) = true then some (.inr (.inl (false,s17.2))) else some (.inl (s17.1,w64 (s17.2 + 1)))))) else some (.inr (.inr (s17.1,s17.2))))
def ref05_plan_l1 (p0:TY) (p1:(List Int)) (s4:(Bool × Int × Int)) : Option ((Bool × Int × Int) ⊕ ((Bool × Int × Int) ⊕ (Bool × Int × Int))) :=
 (if decide (s4.2.2 < (p1.length:Int)) = true then guardO ((0:Int) ≤ s4.2.2 ∧ s4.2.2 < (p1.length:Int)) ((if ((rdL p1 s4.2.2) == 0) = true then some (.inl (s4.1,s4.2.1,w64 (s4.2.2 + 1))) else guardO ((0:Int) ≤ s4.2.2 ∧ s4.2.2 < (p1.length:Int)) (((ref05_bay p0 (rdL p1 s4.2.2)).bind fun y10 => (if decide (y10 < 0) = true then some (.inr (.inl (false,s4.2.1,s4.2.2))) else ((ref05_suits p0 s4.2.2 y10).bind fun y13 => (if (!y13) = true then some (.inr (.inl (false,s4.2.1,s4.2.2))) else ((loopO (ref05_plan_l2 p1 s4) (s4.1,0)).bind fun u18 => match u18 with | (.inl u24) => some (.inr (.inl (u24.1,s4.2.1,s4.2.2))) | (.inr u25) => guardO ((0:Int) ≤ s4.2.2 ∧ s4.2.2 < (p0.fR.length:Int)) (some (.inl (u25.1,w64 (s4.2.1 + ((rdL p0.fR s4.2.2).fW)),w64 (s4.2.2 + 1)))))))))))) else some (.inr (.inr (s4.1,s4.2.1,s4.2.2))))
def ref05_plan (p0:TY) (p1:(List Int)) (p2:Int) : Option Bool :=
 (if ((p1.length:Int) != (p0.fR.length:Int)) = true then some false else ((loopO (ref05_plan_l1 p0 p1) (false,0,0)).bind fun u5 => match u5 with | (.inl u28) => some u28.1 | (.inr u29) => some (u29.2.1 == p2)))
def ref05_priced_l1 (p1:(List Int)) (s4:(Int × Int × Int)) : Option ((Int × Int × Int) ⊕ ((Int × Int × Int) ⊕ (Int × Int × Int))) :=
 (if decide (s4.2.2 < (p1.length:Int)) = true then guardO ((0:Int) ≤ s4.2.2 ∧ s4.2.2 < (p1.length:Int)) (((ref05_within (rdL p1 s4.2.2) 0 1000).bind fun y8 => (if (!y8) = true then some (.inr (.inl ((-1),s4.2.1,s4.2.2))) else guardO ((0:Int) ≤ s4.2.2 ∧ s4.2.2 < (p1.length:Int)) (some (.inl (s4.1,w64 (s4.2.1 + (rdL p1 s4.2.2)),w64 (s4.2.2 + 1))))))) else some (.inr (.inr (s4.1,s4.2.1,s4.2.2))))
def ref05_priced_l3 (p0:TY) (p1:(List Int)) (s16:(Int × Int)) (s21:(Int × Int)) : Option ((Int × Int) ⊕ (Int × Int)) :=
 (if decide (s21.2 < (p1.length:Int)) = true then ((ref05_suits p0 s16.2 s21.2).bind fun y24 => (if y24 = true then guardO ((0:Int) ≤ s21.2 ∧ s21.2 < (p1.length:Int)) (some (.inl (min s21.1 (rdL p1 s21.2),w64 (s21.2 + 1)))) else some (.inl (s21.1,w64 (s21.2 + 1))))) else some (.inr (s21.1,s21.2)))
def ref05_priced_l4 (p0:TY) (p1:(List Int)) (s16:(Int × Int)) (s30:(Bool × Int)) : Option ((Bool × Int) ⊕ (Bool × Int)) :=
 (if decide (s30.2 < (p1.length:Int)) = true then ((ref05_suits p0 s16.2 s30.2).bind fun y33 => some (.inl ((s30.1 || y33),w64 (s30.2 + 1)))) else some (.inr (s30.1,s30.2)))
def ref05_priced_l2 (p0:TY) (p1:(List Int)) (s16:(Int × Int)) : Option ((Int × Int) ⊕ (Int × Int)) :=
 (if decide (s16.2 < (p0.fR.length:Int)) = true then guardO ((0:Int) ≤ s16.2 ∧ s16.2 < (p0.fR.length:Int)) (((loopO (ref05_priced_l3 p0 p1 s16) ((rdL p0.fR s16.2).fW,0)).bind fun u22 => ((loopO (ref05_priced_l4 p0 p1 s16) (false,0)).bind fun u31 => (if u31.1 = true then guardO ((0:Int) ≤ s16.2 ∧ s16.2 < (p0.fR.length:Int)) (some (.inl (w64 ((w64 (s16.1 + ((rdL p0.fR s16.2).fW))) - u22.1),w64 (s16.2 + 1)))) else some (.inl (s16.1,w64 (s16.2 + 1))))))) else some (.inr (s16.1,s16.2)))
def ref05_priced (p0:TY) (p1:(List Int)) : Option Int :=
 (if ((p1.length:Int) != (p0.fB.length:Int)) = true then some (-1) else ((loopO (ref05_priced_l1 p1) (0,0,0)).bind fun u5 => match u5 with | (.inl u13) => some u13.1 | (.inr u14) => ((loopO (ref05_priced_l2 p0 p1) (u14.2.1,0)).bind fun u17 => some u17.1)))
def ref05_CheckPlan (p0:TY) (p1:TPlan) : Option Int :=
 ((ref05_CheckYard p0).bind fun y3 => (if (y3 != 0) = true then some y3 else ((ref05_plan p0 p1.fG p1.fW).bind fun y6 => ((if (!y6) = true then (some (true)) else ((ref05_priced p0 p1.fPrices).bind fun y12 => some ((y12 != p1.fW)))).bind fun b9 => (if b9 = true then some 8 else some 0)))))
def cart_Earliest_l1 (p0:TR) (y6:(List (Ts × Tl))) (s12:(Int × (List (List Int)))) : Option ((Int × (List (List Int))) ⊕ (Int × (List (List Int)))) :=
 (if decide (s12.1 < p0.fPlaces) = true then ((cart_earliest y6 s12.1).bind fun y15 => ((slices_Clone_int_int y15).bind fun y20 => guardO (s12.2.length + 1 ≤ 1000000000) (some (.inl (w64 (s12.1 + 1),(s12.2 ++ [y20])))))) else some (.inr (s12.1,s12.2)))
def cart_Earliest (p0:TR) (p1:Int) (p2:Int) : Option (TTimes × Int) :=
 ((cart_asked p0 p1 p1 p2 0).bind fun y3 => (if (y3 != 0) = true then some ((TTimes.mk []),y3) else ((cart_labels p0 p1 p2).bind fun y6 => ((loopO (cart_Earliest_l1 p0 y6) (0,([]:List (List Int)))).bind fun u13 => some ((TTimes.mk u13.2),0)))))
def cart_Front (p0:TR) (p1:Int) (p2:Int) (p3:Int) : Option ((List TJ) × Int) :=
 ((cart_asked p0 p1 p2 p3 0).bind fun y2 => (if (y2 != 0) = true then some ([],y2) else ((cart_front p0 p1 p2 p3).bind fun y5 => some (y5,0))))
def calxlaw05_Lanes  : Option TR :=
 some (TR.mk 3 [(TT.mk 1 0 1 5 0 ([]:(List TSpan))),(TT.mk 2 1 2 5 0 [(TSpan.mk 8 20)]),(TT.mk 3 0 2 9 6 ([]:(List TSpan))),(TT.mk 4 1 2 8 2 ([]:(List TSpan)))])
def calxlaw05_Wharf  : Option TY :=
 some (TY.mk [(TBay.mk 1 10 3),(TBay.mk 2 11 5)] [(TO.mk 7 (TSpan.mk 10 11) 3 5),(TO.mk 8 (TSpan.mk 11 12) 4 9),(TO.mk 9 (TSpan.mk 10 11) 4 7)])
def cart_Enter (p0:TT) (p1:Int) : Option (Int × Int) :=
 ((cart_closed p0.fK).bind fun y2 => ((if (!y2) = true then (some (true)) else ((cart_hour p1).bind fun y11 => some ((!y11)))).bind fun b5 => (if b5 = true then some (0,1) else ((cart_enter p0 p1).bind fun y8 => (if (!y8.2) = true then some (0,5) else some (y8.1,0))))))
def calxlaw05_sanity  : Option Bool :=
 ((calxlaw05_Lanes).bind fun y1 => ((calxlaw05_Wharf).bind fun y14 => guardO ((0:Int) ≤ 1 ∧ 1 < (y1.fTracks.length:Int)) (((cart_Enter (TT.mk ((rdL y1.fTracks 1).fID) ((rdL y1.fTracks 1).fFrom) ((rdL y1.fTracks 1).fTo) ((rdL y1.fTracks 1).fLong) ((rdL y1.fTracks 1).fToll) ((rdL y1.fTracks 1).fK)) 8).bind fun y26 => ((cart_Earliest y1 0 4).bind fun y28 => ((cart_Front y1 0 2 4).bind fun y41 => ((cart_Best y1 0 2 4 5).bind fun y53 => ((cart_Latest y1 0 2 26 0).bind fun y64 => ((cart_Needed y1 0 2 4 0).bind fun y66 => ((cart_Needed y1 0 2 4 60).bind fun y72 => ((if (((((((((y26.2 != 0) || (y28.2 != 0)) || (y41.2 != 0)) || (y53.2 != 0)) || (y64.2 != 0)) || (y66.2 != 0)) || (y72.2 != 0)) || (y26.1 != 21)) || ((y28.1.fH.length:Int) != 3)) = true then (some (true)) else (guardO ((0:Int) ≤ 2 ∧ 2 < (y28.1.fH.length:Int)) (some (((((rdL y28.1.fH 2).length : Nat) : Int) != 61))))).bind fun b87 => (if (b87 || ((y41.1.length:Int) != 3)) = true then some false else guardO ((0:Int) ≤ 2 ∧ 2 < (y28.1.fH.length:Int)) (guardO ((0:Int) ≤ 0 ∧ 0 < (((rdL y28.1.fH 2).length : Nat) : Int)) (((if ((rdL (rdL y28.1.fH 2) 0) == 26) = true then (guardO ((0:Int) ≤ 2 ∧ 2 < (y28.1.fH.length:Int)) (guardO ((0:Int) ≤ 2 ∧ 2 < (((rdL y28.1.fH 2).length : Nat) : Int)) (some (((rdL (rdL y28.1.fH 2) 2) == 17))))) else (some (false))).bind fun b94 => ((if b94 = true then (guardO ((0:Int) ≤ 2 ∧ 2 < (y28.1.fH.length:Int)) (guardO ((0:Int) ≤ 6 ∧ 6 < (((rdL y28.1.fH 2).length : Nat) : Int)) (some (((rdL (rdL y28.1.fH 2) 6) == 13))))) else (some (false))).bind fun b97 => ((if b97 = true then (guardO ((0:Int) ≤ 0 ∧ 0 < (y41.1.length:Int)) (some ((((rdL y41.1 0).fToll) == 0)))) else (some (false))).bind fun b100 => ((if b100 = true then (guardO ((0:Int) ≤ 1 ∧ 1 < (y41.1.length:Int)) (some ((((rdL y41.1 1).fA) == 17)))) else (some (false))).bind fun b103 => ((if b103 = true then (guardO ((0:Int) ≤ 2 ∧ 2 < (y41.1.length:Int)) (some ((((rdL y41.1 2).fToll) == 6)))) else (some (false))).bind fun b106 => ((if ((b106 && (y53.1.fA == 17)) && (y64.1 == 16)) = true then ((ref05_SameInts y66.1 [1,2]).bind fun y182 => some (y182)) else (some (false))).bind fun b111 => ((if b111 = true then ((ref05_SameInts y72.1 [3]).bind fun y179 => some (y179)) else (some (false))).bind fun b114 => ((cart_Serve y14).bind fun y116 => ((cart_Surely y14).bind fun y127 => ((cart_Never y14).bind fun y133 => ((cart_Crowded y14 [7,8,9]).bind fun y140 => ((cart_Lost y14 1).bind fun y146 => ((if ((y116.2 == 0) && (y116.1.fW == 14)) = true then ((ref05_CheckPlan y14 y116.1).bind fun y176 => some ((y176 == 0))) else (some (false))).bind fun b150 => ((if (b150 && (y127.2 == 0)) = true then ((ref05_SameInts y127.1 [7,8]).bind fun y174 => some (y174)) else (some (false))).bind fun b154 => ((if (b154 && (y133.2 == 0)) = true then ((ref05_SameInts y133.1 [9]).bind fun y171 => some (y171)) else (some (false))).bind fun b158 => ((if ((b114 && b158) && (y140.2 == 0)) = true then ((ref05_SameInts y140.1 [8,9]).bind fun y168 => some (y168)) else (some (false))).bind fun b163 => some ((b163 && (y146.2 == 0)) && (y146.1 == 5))))))))))))))))))))))))))))))))
def ref05_put_l1 (p0:(List Int)) (p1:Int) (s2:Int) : Option (Int ⊕ Int) :=
 ((if decide (s2 < (p0.length:Int)) = true then (guardO ((0:Int) ≤ s2 ∧ s2 < (p0.length:Int)) (some (decide ((rdL p0 s2) < p1)))) else (some (false))).bind fun b5 => (if b5 = true then some (.inl (w64 (s2 + 1))) else some (.inr s2)))
def ref05_put (p0:(List Int)) (p1:Int) : Option (List Int) :=
 ((loopO (ref05_put_l1 p0 p1) 0).bind fun u3 => guardO ((0:Int) ≤ u3 ∧ u3 ≤ (p0.length:Int)) (guardO (0 + (Int.toNat u3) ≤ 1000000000) (guardO ((0 + (Int.toNat u3)) + 1 ≤ 1000000000) (guardO ((0:Int) ≤ u3 ∧ u3 ≤ (p0.length:Int)) (guardO (((0 + (Int.toNat u3)) + 1) + (p0.length - Int.toNat u3) ≤ 1000000000) (some (((([]:List Int) ++ (p0.take (Int.toNat u3))) ++ [p1]) ++ (p0.drop (Int.toNat u3)))))))))
def calxlaw05_yard (p0:TY) : Option Bool :=
 some (((decide ((p0.fB.length:Int) ≤ 9)) || ((decide (24 < (p0.fB.length:Int))) && (decide ((p0.fB.length:Int) ≤ 40)))) && ((decide ((p0.fR.length:Int) ≤ 9)) || ((decide (24 < (p0.fR.length:Int))) && (decide ((p0.fR.length:Int) ≤ 40)))))
def calxlaw05_has_l1 (p0:(List Int)) (p1:Int) (s2:(Bool × Int)) : Option ((Bool × Int) ⊕ ((Bool × Int) ⊕ (Bool × Int))) :=
 (if decide (s2.2 < (p0.length:Int)) = true then guardO ((0:Int) ≤ s2.2 ∧ s2.2 < (p0.length:Int)) ((if ((rdL p0 s2.2) == p1) = true then some (.inr (.inl (true,s2.2))) else some (.inl (s2.1,w64 (s2.2 + 1))))) else some (.inr (.inr (s2.1,s2.2))))
def calxlaw05_has (p0:(List Int)) (p1:Int) : Option Bool :=
 ((loopO (calxlaw05_has_l1 p0 p1) (false,0)).bind fun u3 => match u3 with | (.inl u8) => some u8.1 | (.inr u9) => some false)
def cart_Suits (p0:TY) (p1:Int) (p2:Int) : Option (Bool × Int) :=
 ((cart_CheckYard p0).bind fun y2 => (if (y2 != 0) = true then some (false,y2) else ((cart_order p0 p1).bind fun y5 => ((cart_bay p0 p2).bind fun y7 => (if ((decide (y5 < 0)) || (decide (y7 < 0))) = true then some (false,5) else guardO ((0:Int) ≤ y5 ∧ y5 < (p0.fR.length:Int)) (guardO ((0:Int) ≤ y7 ∧ y7 < (p0.fB.length:Int)) (((cart_suits (TO.mk ((rdL p0.fR y5).fID) (TSpan.mk ((rdL p0.fR y5).fH.fLo) ((rdL p0.fR y5).fH.fHi)) ((rdL p0.fR y5).fD) ((rdL p0.fR y5).fW)) (TBay.mk ((rdL p0.fB y7).fID) ((rdL p0.fB y7).fHour) ((rdL p0.fB y7).fD))).bind fun y13 => some (y13,0)))))))))
def calxlaw05_CartCrowds_l1 (p0:TY) (p1:(List Int)) (y8:((List Int) × Int)) (s19:(Bool × Int)) : Option ((Bool × Int) ⊕ ((Bool × Int) ⊕ (Bool × Int))) :=
 (if decide (s19.2 < (y8.1.length:Int)) = true then guardO ((0:Int) ≤ s19.2 ∧ s19.2 ≤ (y8.1.length:Int)) (guardO (0 + (Int.toNat s19.2) ≤ 1000000000) (guardO ((0:Int) ≤ w64 (s19.2 + 1) ∧ w64 (s19.2 + 1) ≤ (y8.1.length:Int)) (guardO ((0 + (Int.toNat s19.2)) + (y8.1.length - Int.toNat (w64 (s19.2 + 1))) ≤ 1000000000) (((cart_Crowded p0 ((([]:List Int) ++ (y8.1.take (Int.toNat s19.2))) ++ (y8.1.drop (Int.toNat (w64 (s19.2 + 1)))))).bind fun y32 => ((if (y32.2 != 5) = true then (some (true)) else (guardO ((0:Int) ≤ s19.2 ∧ s19.2 < (y8.1.length:Int)) (((calxlaw05_has p1 (rdL y8.1 s19.2)).bind fun y43 => some ((!y43)))))).bind fun b39 => (if b39 = true then some (.inr (.inl (false,s19.2))) else some (.inl (s19.1,w64 (s19.2 + 1)))))))))) else some (.inr (.inr (s19.1,s19.2))))
def calxlaw05_CartCrowds_l3 (p0:TY) (y8:((List Int) × Int)) (s55:(Bool × Int × Int)) (s59:(Bool × Bool × Int)) : Option ((Bool × Bool × Int) ⊕ ((Bool × Bool × Int) ⊕ (Bool × Bool × Int))) :=
 (if decide (s59.2.2 < (y8.1.length:Int)) = true then guardO ((0:Int) ≤ s59.2.2 ∧ s59.2.2 < (y8.1.length:Int)) (guardO ((0:Int) ≤ s55.2.2 ∧ s55.2.2 < (p0.fB.length:Int)) (((cart_Suits p0 (rdL y8.1 s59.2.2) ((rdL p0.fB s55.2.2).fID)).bind fun y64 => (if (y64.2 != 0) = true then some (.inr (.inl (false,s59.2.1,s59.2.2))) else some (.inl (s59.1,(s59.2.1 || y64.1),w64 (s59.2.2 + 1))))))) else some (.inr (.inr (s59.1,s59.2.1,s59.2.2))))
def calxlaw05_CartCrowds_l2 (p0:TY) (y8:((List Int) × Int)) (s55:(Bool × Int × Int)) : Option ((Bool × Int × Int) ⊕ ((Bool × Int × Int) ⊕ (Bool × Int × Int))) :=
 (if decide (s55.2.2 < (p0.fB.length:Int)) = true then ((loopO (calxlaw05_CartCrowds_l3 p0 y8 s55) (s55.1,false,0)).bind fun u60 => match u60 with | (.inl u69) => some (.inr (.inl (u69.1,s55.2.1,s55.2.2))) | (.inr u70) => (if u70.2.1 = true then some (.inl (u70.1,w64 (s55.2.1 + 1),w64 (s55.2.2 + 1))) else some (.inl (u70.1,s55.2.1,w64 (s55.2.2 + 1))))) else some (.inr (.inr (s55.1,s55.2.1,s55.2.2))))
def calxlaw05_CartCrowds (p0:TY) (p1:(List Int)) : Option Bool :=
 ((calxlaw05_yard p0).bind fun y2 => (if ((!y2) || (decide (9 < (p1.length:Int)))) = true then ((calxlaw05_sanity).bind fun y6 => some y6) else ((cart_Crowded p0 p1).bind fun y8 => (if (y8.2 != 0) = true then ((calxlaw05_sanity).bind fun y15 => some (y15 && ((y8.1.length:Int) == 0))) else ((loopO (calxlaw05_CartCrowds_l1 p0 p1 y8) (false,0)).bind fun u20 => match u20 with | (.inl u46) => some u46.1 | (.inr u47) => ((cart_Crowded p0 y8.1).bind fun y48 => ((loopO (calxlaw05_CartCrowds_l2 p0 y8) (u47.1,0,0)).bind fun u56 => match u56 with | (.inl u73) => some u73.1 | (.inr u74) => ((calxlaw05_sanity).bind fun y75 => some ((y75 && (y48.2 == 0)) && (u74.2.1 == (w64 ((y8.1.length:Int) - 1))))))))))))
end
end Go.Proofs.YthndghnkebboaaaGreat
