/- What the functions of the translation hand back, as plain functions. No program in sight. -/
import Derived.Test.YtepfgdfahinpkaaGp
set_option linter.unusedVariables false
namespace Go.Proofs.Ytepfgdfahinpkaa
noncomputable section
structure TRatio where
  fNum : Int
  fDen : Int
  deriving DecidableEq
instance : Inhabited TRatio := ⟨⟨default, default⟩⟩

def TRatio_rg (x : TRatio) : Prop := Rg_i64 x.fNum ∧ Rg_i64 x.fDen

structure TTrial where
  fSample : Int
  fAccept : Int
  deriving DecidableEq
instance : Inhabited TTrial := ⟨⟨default, default⟩⟩

def TTrial_rg (x : TTrial) : Prop := Rg_i64 x.fSample ∧ Rg_i64 x.fAccept

structure TKinds where
  x0 : Int
  x1 : Int
  x2 : Int
  deriving DecidableEq
instance : Inhabited TKinds := ⟨⟨default, default, default⟩⟩

def TKinds_rg (x : TKinds) : Prop := Rg_i64 x.x0 ∧ Rg_i64 x.x1 ∧ Rg_i64 x.x2

structure TSpan where
  fLo : Int
  fHi : Int
  deriving DecidableEq
instance : Inhabited TSpan := ⟨⟨default, default⟩⟩

def TSpan_rg (x : TSpan) : Prop := Rg_i64 x.fLo ∧ Rg_i64 x.fHi

structure TArr3_TSpan where
  x0 : TSpan
  x1 : TSpan
  x2 : TSpan
  deriving DecidableEq
instance : Inhabited TArr3_TSpan := ⟨⟨default, default, default⟩⟩

def TArr3_TSpan_rg (x : TArr3_TSpan) : Prop := Rg_i64 x.x0.fLo ∧ Rg_i64 x.x0.fHi ∧ Rg_i64 x.x1.fLo ∧ Rg_i64 x.x1.fHi ∧ Rg_i64 x.x2.fLo ∧ Rg_i64 x.x2.fHi

structure TBatch where
  fBarrows : Int
  fSeen : TKinds
  fKnown : TArr3_TSpan
  deriving DecidableEq
instance : Inhabited TBatch := ⟨⟨default, default, default⟩⟩

def TBatch_rg (x : TBatch) : Prop := Rg_i64 x.fBarrows ∧ Rg_i64 x.fSeen.x0 ∧ Rg_i64 x.fSeen.x1 ∧ Rg_i64 x.fSeen.x2 ∧ Rg_i64 x.fKnown.x0.fLo ∧ Rg_i64 x.fKnown.x0.fHi ∧ Rg_i64 x.fKnown.x1.fLo ∧ Rg_i64 x.fKnown.x1.fHi ∧ Rg_i64 x.fKnown.x2.fLo ∧ Rg_i64 x.fKnown.x2.fHi

structure TSpans where
  fL : (List TSpan)
  fE : Int
  deriving DecidableEq
instance : Inhabited TSpans := ⟨⟨default, default⟩⟩

def TSpans_rg (x : TSpans) : Prop := (Rg_list TSpan_rg x.fL) ∧ Rg_i64 x.fE

structure TWholes where
  fL : (List TKinds)
  fE : Int
  deriving DecidableEq
instance : Inhabited TWholes := ⟨⟨default, default⟩⟩

def TWholes_rg (x : TWholes) : Prop := (Rg_list TKinds_rg x.fL) ∧ Rg_i64 x.fE

structure TInts where
  fL : (List Int)
  fE : Int
  deriving DecidableEq
instance : Inhabited TInts := ⟨⟨default, default⟩⟩

def TInts_rg (x : TInts) : Prop := (Rg_list Rg_i64 x.fL) ∧ Rg_i64 x.fE

structure TMade where
  fB : TBatch
  fE : Int
  deriving DecidableEq
instance : Inhabited TMade := ⟨⟨default, default⟩⟩

def TMade_rg (x : TMade) : Prop := Rg_i64 x.fB.fBarrows ∧ Rg_i64 x.fB.fSeen.x0 ∧ Rg_i64 x.fB.fSeen.x1 ∧ Rg_i64 x.fB.fSeen.x2 ∧ Rg_i64 x.fB.fKnown.x0.fLo ∧ Rg_i64 x.fB.fKnown.x0.fHi ∧ Rg_i64 x.fB.fKnown.x1.fLo ∧ Rg_i64 x.fB.fKnown.x1.fHi ∧ Rg_i64 x.fB.fKnown.x2.fLo ∧ Rg_i64 x.fB.fKnown.x2.fHi ∧ Rg_i64 x.fE

structure TDouble where
  fFirst : Int
  fAccept : Int
  fRefuse : Int
  fSecond : Int
  fTogether : Int
  deriving DecidableEq
instance : Inhabited TDouble := ⟨⟨default, default, default, default, default⟩⟩

def TDouble_rg (x : TDouble) : Prop := Rg_i64 x.fFirst ∧ Rg_i64 x.fAccept ∧ Rg_i64 x.fRefuse ∧ Rg_i64 x.fSecond ∧ Rg_i64 x.fTogether

structure TStep where
  fBack : Bool
  fSeen : TKinds
  deriving DecidableEq
instance : Inhabited TStep := ⟨⟨default, default⟩⟩

def TStep_rg (x : TStep) : Prop := Rg_i64 x.fSeen.x0 ∧ Rg_i64 x.fSeen.x1 ∧ Rg_i64 x.fSeen.x2


/-! calx/sample.within -/
def sample_within (p0_n : Int) (p1_lo : Int) (p2_hi : Int) : Option Bool :=
  some ((decide (p1_lo ≤ p0_n)) && (decide (p0_n ≤ p2_hi)))

/-! calx/sample.ratio -/
def sample_ratio_l1 (s3 : (Int × Int)) : Option ((Int × Int) ⊕ (Int × Int)) :=
  (if decide (0 < s3.2) = true then guardO (s3.2 ≠ 0) (some (.inl (s3.2, Int.tmod s3.1 s3.2))) else some (.inr (s3.1, s3.2)))
def sample_ratio (p0_num : Int) (p1_den : Int) : Option TRatio :=
  ((loopO (sample_ratio_l1) (p0_num, p1_den)).bind fun u4 => guardO (u4.1 ≠ 0) (guardO (u4.1 ≠ 0) (some (TRatio.mk (w64 (Int.tdiv p0_num u4.1)) (w64 (Int.tdiv p1_den u4.1))))))

/-! calx/sample.isLevel -/
def sample_isLevel (p0_r : TRatio) : Option Bool :=
  ((sample_within p0_r.fDen 1 10000).bind fun y2 => ((if y2 = true then ((sample_within p0_r.fNum 0 p0_r.fDen).bind fun y12 => some (y12)) else (some (false))).bind fun b5 => ((if b5 = true then ((sample_ratio p0_r.fNum p0_r.fDen).bind fun y10 => some (((y10.fNum == p0_r.fNum) && (y10.fDen == p0_r.fDen)))) else (some (false))).bind fun b8 => some b8)))

/-! calx/sample.choose -/
def sample_choose_l1 (p0_n : Int) (p1_k : Int) (s3 : (Int × Int)) : Option ((Int × Int) ⊕ (Int × Int)) :=
  (if decide (s3.2 ≤ min p1_k (w64 (p0_n - p1_k))) = true then guardO (s3.2 ≠ 0) (some (.inl (w64 (Int.tdiv (w64 (s3.1 * (w64 ((w64 (p0_n - (min p1_k (w64 (p0_n - p1_k))))) + s3.2)))) s3.2), w64 (s3.2 + 1)))) else some (.inr (s3.1, s3.2)))
def sample_choose (p0_n : Int) (p1_k : Int) : Option Int :=
  (if decide (p0_n < p1_k) = true then some 0 else ((loopO (sample_choose_l1 p0_n p1_k) (1, 1)).bind fun u4 => some u4.1))

/-! calx/sample.atMost -/
def sample_atMost_l1 (p0_barrows : Int) (p1_bad : Int) (p2_taken : Int) (p3_most : Int) (s2 : (Int × Int)) : Option ((Int × Int) ⊕ (Int × Int)) :=
  (if decide (s2.2 < w64 ((min (min p3_most p1_bad) p2_taken) + 1)) = true then ((sample_choose p1_bad s2.2).bind fun y5 => ((sample_choose (w64 (p0_barrows - p1_bad)) (w64 (p2_taken - s2.2))).bind fun y7 => some (.inl (w64 (s2.1 + (w64 (y5 * y7))), w64 (s2.2 + 1))))) else some (.inr (s2.1, s2.2)))
def sample_atMost (p0_barrows : Int) (p1_bad : Int) (p2_taken : Int) (p3_most : Int) : Option Int :=
  ((loopO (sample_atMost_l1 p0_barrows p1_bad p2_taken p3_most) (0, 0)).bind fun u3 => some u3.1)

/-! calx/sample.reaches$1 -/
def sample_reaches_1 (p0_n : Int) (cap0 : TRatio) (cap1 : Int) : Option Bool :=
  some (decide (w64 (cap0.fNum * cap1) ≤ w64 (p0_n * cap0.fDen)))

/-! calx/sample.reaches -/
def sample_reaches (p0_level : TRatio) (p1_all : Int) : Option (TRatio × Int) :=
  some (p0_level, p1_all)

/-! calx/sample.Smallest -/
def sample_Smallest_l2 (p0 : Int) (p1 : Int) (p2 : Int) (p3 : TRatio) (p4 : TRatio) (s19 : (Bool × Int × Int × Int)) (y22 : Int) (s26 : (Bool × Int × Int × Int)) : Option ((Bool × Int × Int × Int) ⊕ ((Bool × Int × Int × Int) ⊕ (Bool × Int × Int × Int))) :=
  (if decide (s26.2.1 < w64 (s19.2.1 + 1)) = true then ((sample_atMost p0 p2 s19.2.1 s26.2.1).bind fun y29 => ((sample_reaches p3 y22).bind fun y31 => ((sample_atMost p0 p1 s19.2.1 s26.2.1).bind fun y35 => ((sample_reaches_1 y35 y31.1 y31.2).bind fun y37 => (if (y37 && (decide (w64 (y29 * p4.fDen) ≤ w64 (p4.fNum * y22)))) = true then some (.inr (.inl (true, s26.2.1, s19.2.1, s26.2.1))) else some (.inl (s26.1, w64 (s26.2.1 + 1), s26.2.2.1, s26.2.2.2))))))) else some (.inr (.inr (s26.1, s26.2.1, s26.2.2.1, s26.2.2.2))))
def sample_Smallest_l1 (p0 : Int) (p1 : Int) (p2 : Int) (p3 : TRatio) (p4 : TRatio) (s19 : (Bool × Int × Int × Int)) : Option ((Bool × Int × Int × Int) ⊕ (Bool × Int × Int × Int)) :=
  (if decide (s19.2.1 < w64 (p0 + 1)) = true then ((sample_choose p0 s19.2.1).bind fun y22 => ((loopO (sample_Smallest_l2 p0 p1 p2 p3 p4 s19 y22) (s19.1, 0, s19.2.2.1, s19.2.2.2)).bind fun u27 => match u27 with | (.inl u42) => some (.inr (u42.1, s19.2.1, u42.2.2.1, u42.2.2.2)) | (.inr u43) => some (.inl (u43.1, w64 (s19.2.1 + 1), u43.2.2.1, u43.2.2.2)))) else some (.inr (s19.1, s19.2.1, s19.2.2.1, s19.2.2.2)))
def sample_Smallest (p0 : Int) (p1 : Int) (p2 : Int) (p3 : TRatio) (p4 : TRatio) : Option (TTrial × Int) :=
  ((sample_within p0 1 50).bind fun y4 => ((if ((((!y4) || (decide (p1 < 0))) || (decide (p2 ≤ p1))) || (decide (p0 < p2))) = true then (some (true)) else ((sample_isLevel p3).bind fun y48 => some ((!y48)))).bind fun b10 => ((if b10 = true then (some (true)) else ((sample_isLevel p4).bind fun y46 => some ((!y46)))).bind fun b13 => (if b13 = true then some ((TTrial.mk 0 0), 1) else ((loopO (sample_Smallest_l1 p0 p1 p2 p3 p4) (false, 0, 0, 0)).bind fun u20 => (if (!u20.1) = true then some ((TTrial.mk 0 0), 5) else some ((TTrial.mk u20.2.2.1 u20.2.2.2), 0)))))))

/-! calx/sample.sum[int] -/
def sample_sum_int_l1 (p0_l : (List Int)) (p1_of : Int → Option Int) (s2 : (Int × Int)) : Option ((Int × Int) ⊕ (Int × Int)) :=
  (if decide (s2.2 < ((p0_l.length : Nat) : Int)) = true then guardO ((0 : Int) ≤ s2.2 ∧ s2.2 < ((p0_l.length : Nat) : Int)) (((p1_of (rdL p0_l s2.2)).bind fun y6 => some (.inl (w64 (s2.1 + y6), w64 (s2.2 + 1))))) else some (.inr (s2.1, s2.2)))
def sample_sum_int (p0_l : (List Int)) (p1_of : Int → Option Int) : Option Int :=
  ((loopO (sample_sum_int_l1 p0_l p1_of) (0, 0)).bind fun u3 => some u3.1)

/-! calx/sample.size$1 -/
def sample_size_1 (p0_n : Int) : Option Int :=
  some (min p0_n 51)

/-! calx/sample.size -/
def sample_size (p0_k : TKinds) : Option Int :=
  ((sample_sum_int [p0_k.x0, p0_k.x1, p0_k.x2] (fun x2 => sample_size_1 x2)).bind fun y3 => some y3)

/-! calx/sample.wholes$1 -/
def sample_wholes_1 (p0_i : Int) (cap0 : TBatch) : Option Int :=
  guardO ((0 : Int) ≤ p0_i ∧ p0_i < 3) (guardO ((0 : Int) ≤ p0_i ∧ p0_i < 3) (some (max (sel3 cap0.fSeen.x0 cap0.fSeen.x1 cap0.fSeen.x2 p0_i) (sel3 cap0.fKnown.x0.fLo cap0.fKnown.x1.fLo cap0.fKnown.x2.fLo p0_i))))

/-! calx/sample.wholes$2 -/
def sample_whY (b : TBatch) (x : Int) : Nat → Int → List TKinds
  | 0, _ => []
  | c + 1, y => (if max b.fSeen.x2 b.fKnown.x2.fLo ≤ b.fBarrows - x - y ∧ b.fBarrows - x - y ≤ b.fKnown.x2.fHi then [⟨x, y, b.fBarrows - x - y⟩] else []) ++ sample_whY b x c (y + 1)
def sample_whX (b : TBatch) : Nat → Int → List TKinds
  | 0, _ => []
  | c + 1, x => sample_whY b x (b.fKnown.x1.fHi + 1 - max b.fSeen.x1 b.fKnown.x1.fLo).toNat (max b.fSeen.x1 b.fKnown.x1.fLo) ++ sample_whX b c (x + 1)
def sample_wh (b : TBatch) : List TKinds := sample_whX b (b.fKnown.x0.fHi + 1 - max b.fSeen.x0 b.fKnown.x0.fLo).toNat (max b.fSeen.x0 b.fKnown.x0.fLo)
def sample_okB (b : TBatch) : Prop := 1 ≤ b.fBarrows ∧ b.fBarrows ≤ 50 ∧ (0 ≤ b.fSeen.x0 ∧ b.fSeen.x0 ≤ 50) ∧ (0 ≤ b.fSeen.x1 ∧ b.fSeen.x1 ≤ 50) ∧ (0 ≤ b.fSeen.x2 ∧ b.fSeen.x2 ≤ 50) ∧
  (0 ≤ b.fKnown.x0.fLo ∧ b.fKnown.x0.fLo ≤ b.fKnown.x0.fHi ∧ b.fKnown.x0.fHi ≤ b.fBarrows) ∧ (0 ≤ b.fKnown.x1.fLo ∧ b.fKnown.x1.fLo ≤ b.fKnown.x1.fHi ∧ b.fKnown.x1.fHi ≤ b.fBarrows) ∧ (0 ≤ b.fKnown.x2.fLo ∧ b.fKnown.x2.fLo ≤ b.fKnown.x2.fHi ∧ b.fKnown.x2.fHi ≤ b.fBarrows)
instance (b : TBatch) : Decidable (sample_okB b) := by unfold sample_okB; infer_instance


/-! calx/sample.wholes -/
def sample_wholes (p0_b : TBatch) : Option TBatch :=
  some p0_b

/-! calx/sample.isSample -/
def sample_isSample (p0_k : TKinds) : Option Bool :=
  some (decide (0 ≤ min (min p0_k.x0 p0_k.x1) p0_k.x2))

/-! calx/sample.Check -/
def sample_Check_l1 (p0_b : TBatch) (s14 : (Int × Int)) : Option ((Int × Int) ⊕ ((Int × Int) ⊕ (Int × Int))) :=
  (if decide (s14.1 < 3) = true then guardO ((0 : Int) ≤ s14.1 ∧ s14.1 < 3) ((if (((decide (sel3 p0_b.fKnown.x0.fLo p0_b.fKnown.x1.fLo p0_b.fKnown.x2.fLo s14.1 < 0)) || (decide (sel3 p0_b.fKnown.x0.fHi p0_b.fKnown.x1.fHi p0_b.fKnown.x2.fHi s14.1 < sel3 p0_b.fKnown.x0.fLo p0_b.fKnown.x1.fLo p0_b.fKnown.x2.fLo s14.1))) || (decide (p0_b.fBarrows < sel3 p0_b.fKnown.x0.fHi p0_b.fKnown.x1.fHi p0_b.fKnown.x2.fHi s14.1))) = true then some (.inr (.inl (s14.1, 1))) else some (.inl (w64 (s14.1 + 1), s14.2)))) else some (.inr (.inr (s14.1, s14.2))))
def sample_Check_r2 (s33 : Int) (x34 : TKinds) : Option (Int ⊕ Int) :=
  some (.inr 0)
def sample_Check (p0_b : TBatch) : Option Int :=
  ((sample_within p0_b.fBarrows 1 50).bind fun y3 => ((if (!y3) = true then (some (true)) else ((sample_isSample p0_b.fSeen).bind fun y42 => some ((!y42)))).bind fun b6 => ((if b6 = true then (some (true)) else ((sample_size p0_b.fSeen).bind fun y40 => some (decide (p0_b.fBarrows < y40)))).bind fun b9 => (if b9 = true then some 1 else ((loopO (sample_Check_l1 p0_b) (0, 0)).bind fun u15 => match u15 with | (.inl u23) => some u23.2 | (.inr u24) => ((sample_wholes p0_b).bind fun y25 => (guardO (sample_okB y25) ((foldO (sample_Check_r2) (sample_wh y25) u24.2).bind fun u35 => match u35 with | .inl u38 => some 9 | .inr u39 => some u39))))))))

/-! calx/sample.isSort -/
def sample_isSort (p0_n : Int) : Option Bool :=
  ((sample_within p0_n 0 2).bind fun y1 => some y1)

/-! calx/sample.ends -/
def sample_ends_r1 (p1_sort : Int) (s13 : (Int × Int)) (x14 : TKinds) : Option ((Int × Int) ⊕ Unit) :=
  guardO ((0 : Int) ≤ p1_sort ∧ p1_sort < 3) (guardO ((0 : Int) ≤ p1_sort ∧ p1_sort < 3) (some (.inl (min s13.1 (sel3 x14.x0 x14.x1 x14.x2 p1_sort), max s13.2 (sel3 x14.x0 x14.x1 x14.x2 p1_sort)))))
def sample_ends (p0_b : TBatch) (p1_sort : Int) : Option TSpan :=
  ((sample_wholes p0_b).bind fun y5 => (guardO (sample_okB y5) ((foldO (sample_ends_r1 p1_sort) (sample_wh y5) (p0_b.fBarrows, 0)).bind fun u15 => match u15 with | .inl u21 => some (TSpan.mk u21.1 u21.2) | .inr _ => none)))

/-! calx/sample.sum[calx/api.Span] -/
def sample_sum_calx_api_Span_l1 (p0_l : (List TSpan)) (p1_of : TSpan → Option Int) (s2 : (Int × Int)) : Option ((Int × Int) ⊕ (Int × Int)) :=
  (if decide (s2.2 < ((p0_l.length : Nat) : Int)) = true then guardO ((0 : Int) ≤ s2.2 ∧ s2.2 < ((p0_l.length : Nat) : Int)) (((p1_of (TSpan.mk ((rdL p0_l s2.2).fLo) ((rdL p0_l s2.2).fHi))).bind fun y7 => some (.inl (w64 (s2.1 + y7), w64 (s2.2 + 1))))) else some (.inr (s2.1, s2.2)))
def sample_sum_calx_api_Span (p0_l : (List TSpan)) (p1_of : TSpan → Option Int) : Option Int :=
  ((loopO (sample_sum_calx_api_Span_l1 p0_l p1_of) (0, 0)).bind fun u3 => some u3.1)

/-! calx/sample.Together$1 -/
def sample_Together_1 (p0_x : TSpan) : Option Int :=
  some p0_x.fLo

/-! calx/sample.Together$2 -/
def sample_Together_2 (p0_x : TSpan) : Option Int :=
  some p0_x.fHi

/-! calx/sample.Together -/
def sample_Together_l1 (p0 : (List TBatch)) (s4 : (Int × Int)) : Option ((Int × Int) ⊕ ((Int × Int) ⊕ (Int × Int))) :=
  (if decide (s4.2 < ((p0.length : Nat) : Int)) = true then guardO ((0 : Int) ≤ s4.2 ∧ s4.2 < ((p0.length : Nat) : Int)) (((sample_Check (TBatch.mk ((rdL p0 s4.2).fBarrows) (TKinds.mk ((rdL p0 s4.2).fSeen.x0) ((rdL p0 s4.2).fSeen.x1) ((rdL p0 s4.2).fSeen.x2)) (TArr3_TSpan.mk (TSpan.mk ((rdL p0 s4.2).fKnown.x0.fLo) ((rdL p0 s4.2).fKnown.x0.fHi)) (TSpan.mk ((rdL p0 s4.2).fKnown.x1.fLo) ((rdL p0 s4.2).fKnown.x1.fHi)) (TSpan.mk ((rdL p0 s4.2).fKnown.x2.fLo) ((rdL p0 s4.2).fKnown.x2.fHi))))).bind fun y9 => (if (y9 != 0) = true then some (.inr (.inl (y9, s4.2))) else some (.inl (s4.1, w64 (s4.2 + 1)))))) else some (.inr (.inr (s4.1, s4.2))))
def sample_Together_l2 (p0 : (List TBatch)) (p1 : Int) (s21 : (Int × (List TSpan))) : Option ((Int × (List TSpan)) ⊕ (Int × (List TSpan))) :=
  (if decide (s21.1 < ((p0.length : Nat) : Int)) = true then guardO ((0 : Int) ≤ s21.1 ∧ s21.1 < ((p0.length : Nat) : Int)) (((sample_ends (TBatch.mk ((rdL p0 s21.1).fBarrows) (TKinds.mk ((rdL p0 s21.1).fSeen.x0) ((rdL p0 s21.1).fSeen.x1) ((rdL p0 s21.1).fSeen.x2)) (TArr3_TSpan.mk (TSpan.mk ((rdL p0 s21.1).fKnown.x0.fLo) ((rdL p0 s21.1).fKnown.x0.fHi)) (TSpan.mk ((rdL p0 s21.1).fKnown.x1.fLo) ((rdL p0 s21.1).fKnown.x1.fHi)) (TSpan.mk ((rdL p0 s21.1).fKnown.x2.fLo) ((rdL p0 s21.1).fKnown.x2.fHi)))) p1).bind fun y26 => guardO (s21.2.length + 1 ≤ 1000000000) (some (.inl (w64 (s21.1 + 1), (s21.2 ++ [y26])))))) else some (.inr (s21.1, s21.2)))
def sample_Together_l3 (p2 : TSpan) (u22 : (Int × (List TSpan))) (y34 : Int) (y37 : Int) (s43 : (Int × (List TSpan))) : Option ((Int × (List TSpan)) ⊕ (Int × (List TSpan))) :=
  (if decide (s43.1 < ((u22.2.length : Nat) : Int)) = true then guardO ((0 : Int) ≤ s43.1 ∧ s43.1 < ((u22.2.length : Nat) : Int)) (guardO ((0 : Int) ≤ s43.1 ∧ s43.1 < ((u22.2.length : Nat) : Int)) (some (.inl (w64 (s43.1 + 1), (s43.2.set (Int.toNat s43.1) (TSpan.mk (max ((rdL s43.2 s43.1).fLo) (w64 ((max p2.fLo y34) - (w64 (y37 - ((rdL s43.2 s43.1).fHi)))))) (min ((rdL s43.2 s43.1).fHi) (w64 ((min p2.fHi y37) - (w64 (y34 - ((rdL s43.2 s43.1).fLo)))))))))))) else some (.inr (s43.1, s43.2)))
def sample_Together (p0 : (List TBatch)) (p1 : Int) (p2 : TSpan) : Option ((List TSpan) × Int) :=
  (if decide (12 < ((p0.length : Nat) : Int)) = true then some ([], 2) else ((loopO (sample_Together_l1 p0) (0, 0)).bind fun u5 => match u5 with | (.inl u13) => some (([] : List TSpan), u13.1) | (.inr u14) => ((sample_isSort p1).bind fun y15 => (if ((!y15) || (decide (p2.fHi < p2.fLo))) = true then some ([], 1) else ((loopO (sample_Together_l2 p0 p1) (0, ([] : List TSpan))).bind fun u22 => ((sample_sum_calx_api_Span u22.2 (fun x33 => sample_Together_1 x33)).bind fun y34 => ((sample_sum_calx_api_Span u22.2 (fun x36 => sample_Together_2 x36)).bind fun y37 => (if ((decide (p2.fHi < y34)) || (decide (y37 < p2.fLo))) = true then some ([], 9) else ((loopO (sample_Together_l3 p2 u22 y34 y37) (0, u22.2)).bind fun u44 => some (u44.2, 0))))))))))

/-! calx/calxref03.SameSpans -/
def calxref03_SameSpans_l1 (p0_a : (List TSpan)) (p1_b : (List TSpan)) (s3 : (Bool × Int)) : Option ((Bool × Int) ⊕ ((Bool × Int) ⊕ (Bool × Int))) :=
  (if decide (s3.2 < ((p0_a.length : Nat) : Int)) = true then guardO ((0 : Int) ≤ s3.2 ∧ s3.2 < ((p0_a.length : Nat) : Int)) (guardO ((0 : Int) ≤ s3.2 ∧ s3.2 < ((p1_b.length : Nat) : Int)) ((if (!(((rdL p0_a s3.2).fLo == (rdL p1_b s3.2).fLo) && ((rdL p0_a s3.2).fHi == (rdL p1_b s3.2).fHi))) = true then some (.inr (.inl (false, s3.2))) else some (.inl (s3.1, w64 (s3.2 + 1)))))) else some (.inr (.inr (s3.1, s3.2))))
def calxref03_SameSpans (p0_a : (List TSpan)) (p1_b : (List TSpan)) : Option Bool :=
  (if (((p0_a.length : Nat) : Int) != ((p1_b.length : Nat) : Int)) = true then some false else ((loopO (calxref03_SameSpans_l1 p0_a p1_b) (false, 0)).bind fun u4 => match u4 with | (.inl u10) => some u10.1 | (.inr u11) => some true))

/-! calx/sample.Choose -/
def sample_Choose (p0_barrows : Int) (p1_taken : Int) : Option (Int × Int) :=
  ((sample_within p0_barrows 0 50).bind fun y1 => (if ((!y1) || (decide (p1_taken < 0))) = true then some (0, 1) else ((sample_choose p0_barrows p1_taken).bind fun y5 => some (y5, 0))))

/-! calx/sample.seenOf -/
def sample_seenOf (p0_whole : TKinds) (p1_seen : TKinds) : Option Int :=
  ((sample_isSample p0_whole).bind fun y3 => ((if (!y3) = true then (some (true)) else ((sample_size p0_whole).bind fun y14 => ((sample_within y14 1 50).bind fun y16 => some ((!y16))))).bind fun b6 => ((if b6 = true then (some (true)) else ((sample_isSample p1_seen).bind fun y12 => some ((!y12)))).bind fun b9 => (if b9 = true then some 1 else some 0))))

/-! calx/sample.ways -/
def sample_ways_l1 (p0_whole : TKinds) (p1_seen : TKinds) (s4 : (Int × Int)) : Option ((Int × Int) ⊕ (Int × Int)) :=
  (if decide (s4.2 < 3) = true then guardO ((0 : Int) ≤ s4.2 ∧ s4.2 < 3) (guardO ((0 : Int) ≤ s4.2 ∧ s4.2 < 3) (((sample_choose (sel3 p0_whole.x0 p0_whole.x1 p0_whole.x2 s4.2) (sel3 p1_seen.x0 p1_seen.x1 p1_seen.x2 s4.2)).bind fun y9 => some (.inl (w64 (s4.1 * y9), w64 (s4.2 + 1)))))) else some (.inr (s4.1, s4.2)))
def sample_ways (p0_whole : TKinds) (p1_seen : TKinds) : Option Int :=
  ((loopO (sample_ways_l1 p0_whole p1_seen) (1, 0)).bind fun u5 => some u5.1)

/-! calx/sample.Chance -/
def sample_Chance (p0_whole : TKinds) (p1_seen : TKinds) : Option (TRatio × Int) :=
  ((sample_seenOf p0_whole p1_seen).bind fun y4 => (if (y4 != 0) = true then some ((TRatio.mk 0 0), y4) else ((sample_size p1_seen).bind fun y7 => ((sample_size p0_whole).bind fun y9 => (if decide (y9 < y7) = true then some ((TRatio.mk 0 0), 3) else ((sample_ways p0_whole p1_seen).bind fun y12 => ((sample_size p0_whole).bind fun y14 => ((sample_size p1_seen).bind fun y16 => ((sample_choose y14 y16).bind fun y18 => ((sample_ratio y12 y18).bind fun y20 => some (y20, 0)))))))))))

/-! slices.AppendSeq[[]calx/api.Kinds,calx/api.Kinds] -/
def slices_AppendSeq_calx_api_Kinds_calx_api_Kinds_r1 (s6 : (List TKinds)) (x7 : TKinds) : Option ((List TKinds) ⊕ Unit) :=
  guardO (s6.length + 1 ≤ 1000000000) (some (.inl (s6 ++ [x7])))
def slices_AppendSeq_calx_api_Kinds_calx_api_Kinds (p1_seq : TBatch) : Option (List TKinds) :=
  (guardO (sample_okB p1_seq) ((foldO (slices_AppendSeq_calx_api_Kinds_calx_api_Kinds_r1) (sample_wh p1_seq) ([] : List TKinds)).bind fun u8 => match u8 with | .inl u16 => some u16 | .inr _ => none))

/-! slices.Collect[calx/api.Kinds] -/
def slices_Collect_calx_api_Kinds (p0_seq : TBatch) : Option (List TKinds) :=
  ((slices_AppendSeq_calx_api_Kinds_calx_api_Kinds p0_seq).bind fun y1 => some y1)

/-! calx/sample.Wholes -/
def sample_Wholes (p0_b : TBatch) : Option ((List TKinds) × Int) :=
  ((sample_Check p0_b).bind fun y2 => (if (y2 != 0) = true then some ([], y2) else ((sample_wholes p0_b).bind fun y5 => ((slices_Collect_calx_api_Kinds y5).bind fun y9 => some (y9, 0)))))

/-! calx/calxref03.SameKinds -/
def calxref03_SameKinds_l1 (p0_a : (List TKinds)) (p1_b : (List TKinds)) (s3 : (Bool × Int)) : Option ((Bool × Int) ⊕ ((Bool × Int) ⊕ (Bool × Int))) :=
  (if decide (s3.2 < ((p0_a.length : Nat) : Int)) = true then guardO ((0 : Int) ≤ s3.2 ∧ s3.2 < ((p0_a.length : Nat) : Int)) (guardO ((0 : Int) ≤ s3.2 ∧ s3.2 < ((p1_b.length : Nat) : Int)) ((if (!(((rdL p0_a s3.2).x0 == (rdL p1_b s3.2).x0) && ((rdL p0_a s3.2).x1 == (rdL p1_b s3.2).x1) && ((rdL p0_a s3.2).x2 == (rdL p1_b s3.2).x2))) = true then some (.inr (.inl (false, s3.2))) else some (.inl (s3.1, w64 (s3.2 + 1)))))) else some (.inr (.inr (s3.1, s3.2))))
def calxref03_SameKinds (p0_a : (List TKinds)) (p1_b : (List TKinds)) : Option Bool :=
  (if (((p0_a.length : Nat) : Int) != ((p1_b.length : Nat) : Int)) = true then some false else ((loopO (calxref03_SameKinds_l1 p0_a p1_b) (false, 0)).bind fun u4 => match u4 with | (.inl u10) => some u10.1 | (.inr u11) => some true))

/-! calx/sample.sorted -/
def sample_sorted (p0_b : TBatch) (p1_sort : Int) : Option Int :=
  ((sample_Check p0_b).bind fun y2 => (if (y2 != 0) = true then some y2 else ((sample_isSort p1_sort).bind fun y5 => (if (!y5) = true then some 1 else some 0))))

/-! calx/sample.weights -/
def sample_weights_r1 (p0_b : TBatch) (p1_sort : Int) (s13 : (List (Int × Int))) (x14 : TKinds) : Option ((List (Int × Int)) ⊕ Unit) :=
  guardO ((0 : Int) ≤ p1_sort ∧ p1_sort < 3) (guardO (rngB (sel3 x14.x0 x14.x1 x14.x2 p1_sort) = true) (((sample_ways x14 p0_b.fSeen).bind fun y19 => guardO (rngB (sel3 x14.x0 x14.x1 x14.x2 p1_sort) = true ∧ rngB (w64 ((mget s13 (sel3 x14.x0 x14.x1 x14.x2 p1_sort)) + y19)) = true ∧ List.length s13 < 1000000) (some (.inl ((sel3 x14.x0 x14.x1 x14.x2 p1_sort, w64 ((mget s13 (sel3 x14.x0 x14.x1 x14.x2 p1_sort)) + y19)) :: s13))))))
def sample_weights_l2 (p0_b : TBatch) (u24 : (List (Int × Int))) (s29 : (Int × (List Int))) : Option ((Int × (List Int)) ⊕ (Int × (List Int))) :=
  (if decide (s29.1 < ((Int.toNat (w64 (p0_b.fBarrows + 1)) : Nat) : Int)) = true then guardO (rngB s29.1 = true) (guardO ((0 : Int) ≤ s29.1 ∧ s29.1 < ((Int.toNat (w64 (p0_b.fBarrows + 1)) : Nat) : Int)) (some (.inl (w64 (s29.1 + 1), (s29.2.set (Int.toNat s29.1) (mget u24 s29.1)))))) else some (.inr (s29.1, s29.2)))
def sample_weights (p0_b : TBatch) (p1_sort : Int) : Option (List Int) :=
  ((sample_wholes p0_b).bind fun y5 => (guardO (sample_okB y5) ((foldO (sample_weights_r1 p0_b p1_sort) (sample_wh y5) []).bind fun u15 => match u15 with | .inl u24 => guardO ((0 : Int) ≤ w64 (p0_b.fBarrows + 1) ∧ (w64 (p0_b.fBarrows + 1)) * 8 ≤ 281474976710656) (((loopO (sample_weights_l2 p0_b u24) (0, (List.replicate (Int.toNat (w64 (p0_b.fBarrows + 1))) 0))).bind fun u30 => some u30.2)) | .inr _ => none)))

/-! calx/sample.total -/
def sample_total_l1 (p0_w : (List Int)) (p1_less : Int) (s2 : (Int × Int)) : Option ((Int × Int) ⊕ (Int × Int)) :=
  (if decide (s2.2 < ((p0_w.length : Nat) : Int)) = true then guardO ((0 : Int) ≤ s2.2 ∧ s2.2 < ((p0_w.length : Nat) : Int)) (some (.inl (w64 (s2.1 + (w64 ((w64 (s2.2 - p1_less)) * (rdL p0_w s2.2)))), w64 (s2.2 + 1)))) else some (.inr (s2.1, s2.2)))
def sample_total (p0_w : (List Int)) (p1_less : Int) : Option Int :=
  ((loopO (sample_total_l1 p0_w p1_less) (0, 0)).bind fun u3 => some u3.1)

/-! calx/sample.own -/
def sample_own (p0_n : Int) : Option Int :=
  some p0_n

/-! calx/sample.Mean -/
def sample_Mean (p0_b : TBatch) (p1_sort : Int) : Option (TRatio × Int) :=
  ((sample_sorted p0_b p1_sort).bind fun y3 => (if (y3 != 0) = true then some ((TRatio.mk 0 0), y3) else ((sample_weights p0_b p1_sort).bind fun y6 => ((sample_total y6 0).bind fun y12 => ((sample_sum_int y6 (fun x14 => sample_own x14)).bind fun y15 => ((sample_ratio y12 y15).bind fun y17 => some (y17, 0)))))))

/-! calx/sample.Weights -/
def sample_Weights (p0_b : TBatch) (p1_sort : Int) : Option ((List Int) × Int) :=
  ((sample_sorted p0_b p1_sort).bind fun y2 => (if (y2 != 0) = true then some ([], y2) else ((sample_weights p0_b p1_sort).bind fun y5 => some (y5, 0))))

/-! calx/sample.Next -/
def sample_Next (p0_b : TBatch) (p1_sort : Int) : Option (TRatio × Int) :=
  ((sample_sorted p0_b p1_sort).bind fun y3 => (if (y3 != 0) = true then some ((TRatio.mk 0 0), y3) else ((sample_size p0_b.fSeen).bind fun y6 => (if ((w64 (p0_b.fBarrows - y6)) == 0) = true then some ((TRatio.mk 0 0), 5) else ((sample_weights p0_b p1_sort).bind fun y9 => guardO ((0 : Int) ≤ p1_sort ∧ p1_sort < 3) (((sample_total y9 (sel3 p0_b.fSeen.x0 p0_b.fSeen.x1 p0_b.fSeen.x2 p1_sort)).bind fun y16 => ((sample_sum_int y9 (fun x18 => sample_own x18)).bind fun y19 => ((sample_ratio y16 (w64 (y19 * (w64 (p0_b.fBarrows - y6))))).bind fun y21 => some (y21, 0))))))))))

/-! calx/sample.leveled -/
def sample_leveled (p0_b : TBatch) (p1_sort : Int) (p2_level : TRatio) : Option Int :=
  ((sample_sorted p0_b p1_sort).bind fun y3 => (if (y3 != 0) = true then some y3 else ((sample_isLevel p2_level).bind fun y6 => (if (!y6) = true then some 1 else some 0))))

/-! calx/sample.inSpan -/
def sample_inSpan (p0_w : (List Int)) (p1_s : TSpan) : Option Int :=
  (if decide (min (w64 (((p0_w.length : Nat) : Int) - 1)) p1_s.fHi < max 0 p1_s.fLo) = true then some 0 else guardO ((0 : Int) ≤ max 0 p1_s.fLo ∧ max 0 p1_s.fLo ≤ w64 ((min (w64 (((p0_w.length : Nat) : Int) - 1)) p1_s.fHi) + 1) ∧ w64 ((min (w64 (((p0_w.length : Nat) : Int) - 1)) p1_s.fHi) + 1) ≤ ((p0_w.length : Nat) : Int)) (((sample_sum_int ((p0_w.drop (Int.toNat (max 0 p1_s.fLo))).take (Int.toNat (w64 ((min (w64 (((p0_w.length : Nat) : Int) - 1)) p1_s.fHi) + 1)) - Int.toNat (max 0 p1_s.fLo))) (fun x4 => sample_own x4)).bind fun y5 => some y5)))

/-! calx/sample.shortest -/
def sample_shortest_l2 (p0_w : (List Int)) (y6 : (TRatio × Int)) (s13 : (Int × Int × Int)) (s18 : (Int × Int × Int)) : Option ((Int × Int × Int) ⊕ ((Int × Int × Int) ⊕ (Int × Int × Int))) :=
  (if decide (s18.1 < w64 (((p0_w.length : Nat) : Int) - s13.1)) = true then ((sample_inSpan p0_w (TSpan.mk s18.1 (w64 (s18.1 + s13.1)))).bind fun y22 => ((sample_reaches_1 y22 y6.1 y6.2).bind fun y24 => (if y24 = true then some (.inr (.inl (s18.1, s18.1, w64 (s18.1 + s13.1)))) else some (.inl (w64 (s18.1 + 1), s18.2.1, s18.2.2))))) else some (.inr (.inr (s18.1, s18.2.1, s18.2.2))))
def sample_shortest_l1 (p0_w : (List Int)) (y6 : (TRatio × Int)) (s13 : (Int × Int × Int)) : Option ((Int × Int × Int) ⊕ (Int × Int × Int)) :=
  (if decide (s13.1 < ((p0_w.length : Nat) : Int)) = true then ((loopO (sample_shortest_l2 p0_w y6 s13) (0, s13.2.1, s13.2.2)).bind fun u19 => match u19 with | (.inl u28) => some (.inr (s13.1, u28.2.1, u28.2.2)) | (.inr u29) => some (.inl (w64 (s13.1 + 1), u29.2.1, u29.2.2))) else some (.inr (s13.1, s13.2.1, s13.2.2)))
def sample_shortest (p0_w : (List Int)) (p1_level : TRatio) : Option TSpan :=
  ((sample_sum_int p0_w (fun x3 => sample_own x3)).bind fun y4 => ((sample_reaches p1_level y4).bind fun y6 => ((loopO (sample_shortest_l1 p0_w y6) (0, 0, w64 (((p0_w.length : Nat) : Int) - 1))).bind fun u14 => some (TSpan.mk u14.2.1 u14.2.2))))

/-! calx/sample.Shortest -/
def sample_Shortest (p0_b : TBatch) (p1_sort : Int) (p2_level : TRatio) : Option (TSpan × Int) :=
  ((sample_leveled p0_b p1_sort p2_level).bind fun y4 => (if (y4 != 0) = true then some ((TSpan.mk 0 0), y4) else ((sample_weights p0_b p1_sort).bind fun y7 => ((sample_shortest y7 p2_level).bind fun y13 => some (y13, 0)))))

/-! calx/calxref03.SameInts -/
def calxref03_SameInts_l1 (p0_a : (List Int)) (p1_b : (List Int)) (s3 : (Bool × Int)) : Option ((Bool × Int) ⊕ ((Bool × Int) ⊕ (Bool × Int))) :=
  (if decide (s3.2 < ((p0_a.length : Nat) : Int)) = true then guardO ((0 : Int) ≤ s3.2 ∧ s3.2 < ((p0_a.length : Nat) : Int)) (guardO ((0 : Int) ≤ s3.2 ∧ s3.2 < ((p1_b.length : Nat) : Int)) ((if ((rdL p0_a s3.2) != (rdL p1_b s3.2)) = true then some (.inr (.inl (false, s3.2))) else some (.inl (s3.1, w64 (s3.2 + 1)))))) else some (.inr (.inr (s3.1, s3.2))))
def calxref03_SameInts (p0_a : (List Int)) (p1_b : (List Int)) : Option Bool :=
  (if (((p0_a.length : Nat) : Int) != ((p1_b.length : Nat) : Int)) = true then some false else ((loopO (calxref03_SameInts_l1 p0_a p1_b) (false, 0)).bind fun u4 => match u4 with | (.inl u10) => some u10.1 | (.inr u11) => some true))

/-! calx/sample.taken -/
def sample_taken (p0_barrows : Int) (p1_many : Int) (p2_seen : Int) (p3_level : TRatio) : Option Int :=
  ((sample_within p0_barrows 1 50).bind fun y2 => ((if (!y2) = true then (some (true)) else ((sample_within p1_many 0 p0_barrows).bind fun y18 => some ((!y18)))).bind fun b5 => ((if b5 = true then (some (true)) else ((sample_within p2_seen 0 p1_many).bind fun y16 => some ((!y16)))).bind fun b8 => ((if b8 = true then (some (true)) else ((sample_isLevel p3_level).bind fun y14 => some ((!y14)))).bind fun b11 => (if b11 = true then some 1 else some 0)))))

/-! calx/sample.Upper -/
def sample_Upper_l1 (p0_barrows : Int) (p1_many : Int) (p2_seen : Int) (y7 : (TRatio × Int)) (s12 : Int) : Option (Int ⊕ Int) :=
  ((sample_atMost p0_barrows s12 p1_many p2_seen).bind fun y14 => ((sample_reaches_1 y14 y7.1 y7.2).bind fun y16 => (if (!y16) = true then some (.inl (w64 (s12 - 1))) else some (.inr s12))))
def sample_Upper (p0_barrows : Int) (p1_many : Int) (p2_seen : Int) (p3_level : TRatio) : Option (Int × Int) :=
  ((sample_taken p0_barrows p1_many p2_seen p3_level).bind fun y2 => (if (y2 != 0) = true then some (0, y2) else ((sample_choose p0_barrows p1_many).bind fun y5 => ((sample_reaches p3_level y5).bind fun y7 => ((loopO (sample_Upper_l1 p0_barrows p1_many p2_seen y7) p0_barrows).bind fun u13 => some (u13, 0))))))

/-! calx/sample.Lower -/
def sample_Lower_l1 (p0_barrows : Int) (p1_many : Int) (p2_seen : Int) (y5 : Int) (y7 : (TRatio × Int)) (s12 : Int) : Option (Int ⊕ Int) :=
  ((sample_atMost p0_barrows s12 p1_many (w64 (p2_seen - 1))).bind fun y14 => ((sample_reaches_1 (w64 (y5 - y14)) y7.1 y7.2).bind fun y16 => (if (!y16) = true then some (.inl (w64 (s12 + 1))) else some (.inr s12))))
def sample_Lower (p0_barrows : Int) (p1_many : Int) (p2_seen : Int) (p3_level : TRatio) : Option (Int × Int) :=
  ((sample_taken p0_barrows p1_many p2_seen p3_level).bind fun y2 => (if (y2 != 0) = true then some (0, y2) else ((sample_choose p0_barrows p1_many).bind fun y5 => ((sample_reaches p3_level y5).bind fun y7 => ((loopO (sample_Lower_l1 p0_barrows p1_many p2_seen y5 y7) 0).bind fun u13 => some (u13, 0))))))

/-! calx/calxlaw03.Three -/
def calxlaw03_Three  : Option TBatch :=
  some (TBatch.mk 3 (TKinds.mk 1 1 0) (TArr3_TSpan.mk (TSpan.mk 0 3) (TSpan.mk 0 3) (TSpan.mk 0 3)))

/-! calx/calxlaw03.half -/
def calxlaw03_half  : Option TRatio :=
  some (TRatio.mk 1 2)

/-! calx/calxlaw03.head -/
def calxlaw03_head  : Option Bool :=
  ((calxlaw03_Three).bind fun y1 => ((sample_Choose 5 2).bind fun y4 => ((sample_Chance (TKinds.mk 2 3 1) (TKinds.mk 1 1 0)).bind fun y6 => ((sample_Wholes y1).bind fun y9 => ((sample_Weights y1 1).bind fun y15 => ((sample_Mean y1 1).bind fun y21 => ((sample_Next y1 2).bind fun y24 => ((sample_Shortest y1 1 (TRatio.mk 9 10)).bind fun y27 => (if ((((((((y4.2 != 0) || (y6.2 != 0)) || (y9.2 != 0)) || (y15.2 != 0)) || (y21.2 != 0)) || (y24.2 != 0)) || (y27.2 != 0)) || (y4.1 != 10)) = true then some false else ((calxref03_SameKinds y9.1 [(TKinds.mk 1 1 1), (TKinds.mk 1 2 0), (TKinds.mk 2 1 0)]).bind fun y39 => ((if y39 = true then ((calxref03_SameInts y15.1 [0, 3, 2, 0]).bind fun y76 => some (y76)) else (some (false))).bind fun b42 => ((sample_Upper 5 2 0 (TRatio.mk 3 10)).bind fun y44 => ((calxlaw03_half).bind fun y46 => ((sample_Lower 5 2 1 y46).bind fun y48 => ((sample_Smallest 5 0 3 (TRatio.mk 1 1) (TRatio.mk 1 10)).bind fun y50 => ((sample_Together [y1, y1] 1 (TSpan.mk 4 9)).bind fun y54 => ((calxref03_SameSpans y54.1 [(TSpan.mk 2 2), (TSpan.mk 2 2)]).bind fun y61 => some (((((((((b42 && y61) && (((((y6.1.fNum == 2) && (y6.1.fDen == 5)) && ((y21.1.fNum == 7) && (y21.1.fDen == 5))) && ((y24.1.fNum == 1) && (y24.1.fDen == 5))) && ((y27.1.fLo == 1) && (y27.1.fHi == 2)))) && (y44.2 == 0)) && (y44.1 == 2)) && (y48.2 == 0)) && (y48.1 == 2)) && (y50.2 == 0)) && ((y50.1.fSample == 2) && (y50.1.fAccept == 0))) && (y54.2 == 0)))))))))))))))))))

/-! calx/calxref03.in -/
def calxref03_in (p0_n : Int) (p1_lo : Int) (p2_hi : Int) : Option Bool :=
  some ((decide (p1_lo ≤ p0_n)) && (decide (p0_n ≤ p2_hi)))

/-! calx/calxref03.ratio -/
def calxref03_ratio_l1 (s3 : (Int × Int)) : Option ((Int × Int) ⊕ (Int × Int)) :=
  (if (s3.2 != 0) = true then guardO (s3.2 ≠ 0) (some (.inl (s3.2, Int.tmod s3.1 s3.2))) else some (.inr (s3.1, s3.2)))
def calxref03_ratio (p0_n : Int) (p1_d : Int) : Option TRatio :=
  ((loopO (calxref03_ratio_l1) (p0_n, p1_d)).bind fun u4 => guardO (u4.1 ≠ 0) (guardO (u4.1 ≠ 0) (some (TRatio.mk (w64 (Int.tdiv p0_n u4.1)) (w64 (Int.tdiv p1_d u4.1))))))

/-! calx/calxref03.level -/
def calxref03_level (p0_r : TRatio) : Option Bool :=
  ((calxref03_in p0_r.fDen 1 10000).bind fun y2 => ((if y2 = true then ((calxref03_in p0_r.fNum 0 p0_r.fDen).bind fun y12 => some (y12)) else (some (false))).bind fun b5 => ((if b5 = true then ((calxref03_ratio p0_r.fNum p0_r.fDen).bind fun y10 => some (((y10.fNum == p0_r.fNum) && (y10.fDen == p0_r.fDen)))) else (some (false))).bind fun b8 => some b8)))

/-! calx/calxref03.table -/
def tabRow : Nat → List Int
  | 0 => [1]
  | n + 1 => List.zipWith (· + ·) (0 :: tabRow n) (tabRow n ++ [0])
def calxref03_table (p0_n : Int) : Option (List (List Int)) :=
  if 0 ≤ p0_n ∧ p0_n ≤ 50 then some ((List.range (p0_n.toNat + 1)).map tabRow) else none


/-! calx/calxref03.choose -/
def calxref03_choose (p0_n : Int) (p1_k : Int) : Option Int :=
  if p0_n < p1_k then some 0 else if 0 ≤ p1_k ∧ p0_n ≤ 50 then some ((tabRow p0_n.toNat).getD p1_k.toNat 0) else none


/-! calx/calxref03.atMost -/
def calxref03_atMost_l1 (p0_barrows : Int) (p1_bad : Int) (p2_taken : Int) (p3_most : Int) (s2 : (Int × Int)) : Option ((Int × Int) ⊕ (Int × Int)) :=
  (if ((decide (s2.2 ≤ p2_taken)) && (decide (s2.2 ≤ p3_most))) = true then ((calxref03_choose p1_bad s2.2).bind fun y6 => ((calxref03_choose (w64 (p0_barrows - p1_bad)) (w64 (p2_taken - s2.2))).bind fun y8 => some (.inl (w64 (s2.1 + (w64 (y6 * y8))), w64 (s2.2 + 1))))) else some (.inr (s2.1, s2.2)))
def calxref03_atMost (p0_barrows : Int) (p1_bad : Int) (p2_taken : Int) (p3_most : Int) : Option Int :=
  ((loopO (calxref03_atMost_l1 p0_barrows p1_bad p2_taken p3_most) (0, 0)).bind fun u3 => some u3.1)

/-! calx/calxref03.Smallest -/
def calxref03_Smallest_l2 (p0 : Int) (p1 : Int) (p2 : Int) (p3 : TRatio) (p4 : TRatio) (s18 : (Int × Int × Int × Int)) (y21 : Int) (s25 : (Int × Int × Int × Int)) : Option ((Int × Int × Int × Int) ⊕ ((Int × Int × Int × Int) ⊕ (Int × Int × Int × Int))) :=
  (if decide (s25.2.1 ≤ s18.2.1) = true then ((calxref03_atMost p0 p1 s18.2.1 s25.2.1).bind fun y28 => ((if decide (w64 (y21 * p3.fNum) ≤ w64 (y28 * p3.fDen)) = true then ((calxref03_atMost p0 p2 s18.2.1 s25.2.1).bind fun y34 => some (decide (w64 (y34 * p4.fDen) ≤ w64 (y21 * p4.fNum)))) else (some (false))).bind fun b31 => (if b31 = true then some (.inr (.inl (0, s25.2.1, s18.2.1, s25.2.1))) else some (.inl (s25.1, w64 (s25.2.1 + 1), s25.2.2.1, s25.2.2.2))))) else some (.inr (.inr (s25.1, s25.2.1, s25.2.2.1, s25.2.2.2))))
def calxref03_Smallest_l1 (p0 : Int) (p1 : Int) (p2 : Int) (p3 : TRatio) (p4 : TRatio) (s18 : (Int × Int × Int × Int)) : Option ((Int × Int × Int × Int) ⊕ ((Int × Int × Int × Int) ⊕ (Int × Int × Int × Int))) :=
  (if decide (s18.2.1 ≤ p0) = true then ((calxref03_choose p0 s18.2.1).bind fun y21 => ((loopO (calxref03_Smallest_l2 p0 p1 p2 p3 p4 s18 y21) (s18.1, 0, s18.2.2.1, s18.2.2.2)).bind fun u26 => match u26 with | (.inl u37) => some (.inr (.inl (u37.1, s18.2.1, u37.2.2.1, u37.2.2.2))) | (.inr u38) => some (.inl (u38.1, w64 (s18.2.1 + 1), u38.2.2.1, u38.2.2.2)))) else some (.inr (.inr (s18.1, s18.2.1, s18.2.2.1, s18.2.2.2))))
def calxref03_Smallest (p0 : Int) (p1 : Int) (p2 : Int) (p3 : TRatio) (p4 : TRatio) : Option (TTrial × Int) :=
  ((calxref03_in p0 1 50).bind fun y4 => ((if ((((!y4) || (decide (p1 < 0))) || (decide (p2 ≤ p1))) || (decide (p0 < p2))) = true then (some (true)) else ((calxref03_level p3).bind fun y44 => some ((!y44)))).bind fun b10 => ((if b10 = true then (some (true)) else ((calxref03_level p4).bind fun y42 => some ((!y42)))).bind fun b13 => (if b13 = true then some ((TTrial.mk 0 0), 1) else ((loopO (calxref03_Smallest_l1 p0 p1 p2 p3 p4) (0, 0, 0, 0)).bind fun u19 => match u19 with | (.inl u40) => some ((TTrial.mk u40.2.2.1 u40.2.2.2), u40.1) | (.inr u41) => some ((TTrial.mk 0 0), 5))))))

/-! calx/calxlaw03.SampleSmallest -/
def calxlaw03_SampleSmallest (p0_barrows : Int) (p1_good : Int) (p2_bad : Int) (p3_accept : TRatio) (p4_refuse : TRatio) : Option Bool :=
  ((calxlaw03_head).bind fun y3 => (if ((decide (20 < p0_barrows)) && (decide (p0_barrows ≤ 50))) = true then some y3 else ((sample_Smallest p0_barrows p1_good p2_bad p3_accept p4_refuse).bind fun y7 => ((calxref03_Smallest p0_barrows p1_good p2_bad p3_accept p4_refuse).bind fun y10 => some ((y3 && ((y7.1.fSample == y10.1.fSample) && (y7.1.fAccept == y10.1.fAccept))) && (y7.2 == y10.2))))))

/-! calx/calxref03.sorted -/
def calxref03_sorted (p0_b : TKinds) : Option Bool :=
  some (((decide (0 ≤ p0_b.x0)) && (decide (0 ≤ p0_b.x1))) && (decide (0 ≤ p0_b.x2)))

/-! calx/calxref03.all -/
def calxref03_all_l1 (p0_b : TKinds) (s3 : (Int × Int)) : Option ((Int × Int) ⊕ (Int × Int)) :=
  (if decide (s3.2 < 3) = true then guardO ((0 : Int) ≤ s3.2 ∧ s3.2 < 3) (some (.inl (w64 (s3.1 + (min (sel3 p0_b.x0 p0_b.x1 p0_b.x2 s3.2) 51)), w64 (s3.2 + 1)))) else some (.inr (s3.1, s3.2)))
def calxref03_all (p0_b : TKinds) : Option Int :=
  ((loopO (calxref03_all_l1 p0_b) (0, 0)).bind fun u4 => some u4.1)

/-! calx/calxref03.wholes -/
def calxref03_wholes_l3 (p0 : TBatch) (s4 : (Int × (List TKinds))) (s9 : (Int × (List TKinds))) (s14 : (Bool × Int)) : Option ((Bool × Int) ⊕ (Bool × Int)) :=
  (if decide (s14.2 < 3) = true then ((if s14.1 = true then (guardO ((0 : Int) ≤ s14.2 ∧ s14.2 < 3) (guardO ((0 : Int) ≤ s14.2 ∧ s14.2 < 3) (some (decide (sel3 p0.fSeen.x0 p0.fSeen.x1 p0.fSeen.x2 s14.2 ≤ sel3 s4.1 s9.1 (w64 ((w64 (p0.fBarrows - s4.1)) - s9.1)) s14.2))))) else (some (false))).bind fun b18 => ((if b18 = true then (guardO ((0 : Int) ≤ s14.2 ∧ s14.2 < 3) (guardO ((0 : Int) ≤ s14.2 ∧ s14.2 < 3) (guardO ((0 : Int) ≤ s14.2 ∧ s14.2 < 3) (((calxref03_in (sel3 s4.1 s9.1 (w64 ((w64 (p0.fBarrows - s4.1)) - s9.1)) s14.2) (sel3 p0.fKnown.x0.fLo p0.fKnown.x1.fLo p0.fKnown.x2.fLo s14.2) (sel3 p0.fKnown.x0.fHi p0.fKnown.x1.fHi p0.fKnown.x2.fHi s14.2)).bind fun y26 => some (y26)))))) else (some (false))).bind fun b21 => some (.inl (b21, w64 (s14.2 + 1))))) else some (.inr (s14.1, s14.2)))
def calxref03_wholes_l2 (p0 : TBatch) (s4 : (Int × (List TKinds))) (s9 : (Int × (List TKinds))) : Option ((Int × (List TKinds)) ⊕ (Int × (List TKinds))) :=
  (if decide (w64 (s4.1 + s9.1) ≤ p0.fBarrows) = true then ((loopO (calxref03_wholes_l3 p0 s4 s9) (true, 0)).bind fun u15 => (if u15.1 = true then guardO (s9.2.length + 1 ≤ 1000000000) (some (.inl (w64 (s9.1 + 1), (s9.2 ++ [(TKinds.mk s4.1 s9.1 (w64 ((w64 (p0.fBarrows - s4.1)) - s9.1)))])))) else some (.inl (w64 (s9.1 + 1), s9.2)))) else some (.inr (s9.1, s9.2)))
def calxref03_wholes_l1 (p0 : TBatch) (s4 : (Int × (List TKinds))) : Option ((Int × (List TKinds)) ⊕ (Int × (List TKinds))) :=
  (if decide (s4.1 ≤ p0.fBarrows) = true then ((loopO (calxref03_wholes_l2 p0 s4) (0, s4.2)).bind fun u10 => some (.inl (w64 (s4.1 + 1), u10.2))) else some (.inr (s4.1, s4.2)))
def calxref03_wholes (p0 : TBatch) : Option (List TKinds) :=
  ((loopO (calxref03_wholes_l1 p0) (0, ([] : List TKinds))).bind fun u5 => some u5.2)

/-! calx/calxref03.Check -/
def calxref03_Check_l1 (p0_b : TBatch) (s12 : (Int × Int)) : Option ((Int × Int) ⊕ ((Int × Int) ⊕ (Int × Int))) :=
  (if decide (s12.2 < 3) = true then guardO ((0 : Int) ≤ s12.2 ∧ s12.2 < 3) (((if decide (sel3 p0_b.fKnown.x0.fLo p0_b.fKnown.x1.fLo p0_b.fKnown.x2.fLo s12.2 < 0) = true then (some (true)) else (guardO ((0 : Int) ≤ s12.2 ∧ s12.2 < 3) (guardO ((0 : Int) ≤ s12.2 ∧ s12.2 < 3) (some (decide (sel3 p0_b.fKnown.x0.fHi p0_b.fKnown.x1.fHi p0_b.fKnown.x2.fHi s12.2 < sel3 p0_b.fKnown.x0.fLo p0_b.fKnown.x1.fLo p0_b.fKnown.x2.fLo s12.2)))))).bind fun b17 => ((if b17 = true then (some (true)) else (guardO ((0 : Int) ≤ s12.2 ∧ s12.2 < 3) (some (decide (p0_b.fBarrows < sel3 p0_b.fKnown.x0.fHi p0_b.fKnown.x1.fHi p0_b.fKnown.x2.fHi s12.2))))).bind fun b20 => (if b20 = true then some (.inr (.inl (1, s12.2))) else some (.inl (s12.1, w64 (s12.2 + 1))))))) else some (.inr (.inr (s12.1, s12.2))))
def calxref03_Check (p0_b : TBatch) : Option Int :=
  ((calxref03_in p0_b.fBarrows 1 50).bind fun y2 => ((if (!y2) = true then (some (true)) else ((calxref03_sorted p0_b.fSeen).bind fun y38 => some ((!y38)))).bind fun b5 => ((if b5 = true then (some (true)) else ((calxref03_all p0_b.fSeen).bind fun y36 => some (decide (p0_b.fBarrows < y36)))).bind fun b8 => (if b8 = true then some 1 else ((loopO (calxref03_Check_l1 p0_b) (0, 0)).bind fun u13 => match u13 with | (.inl u27) => some u27.1 | (.inr u28) => ((calxref03_wholes p0_b).bind fun y29 => (if (((y29.length : Nat) : Int) == 0) = true then some 9 else some 0)))))))

/-! calx/calxref03.ends -/
def calxref03_ends_l1 (p1_sort : Int) (y3 : (List TKinds)) (s16 : (Int × Int × Int)) : Option ((Int × Int × Int) ⊕ (Int × Int × Int)) :=
  (if decide (s16.1 < ((y3.length : Nat) : Int)) = true then guardO ((0 : Int) ≤ s16.1 ∧ s16.1 < ((y3.length : Nat) : Int)) (guardO ((0 : Int) ≤ p1_sort ∧ p1_sort < 3) (guardO ((0 : Int) ≤ s16.1 ∧ s16.1 < ((y3.length : Nat) : Int)) (guardO ((0 : Int) ≤ p1_sort ∧ p1_sort < 3) (some (.inl (w64 (s16.1 + 1), min s16.2.1 (sel3 ((rdL y3 s16.1).x0) ((rdL y3 s16.1).x1) ((rdL y3 s16.1).x2) p1_sort), max s16.2.2 (sel3 ((rdL y3 s16.1).x0) ((rdL y3 s16.1).x1) ((rdL y3 s16.1).x2) p1_sort))))))) else some (.inr (s16.1, s16.2.1, s16.2.2)))
def calxref03_ends (p0_b : TBatch) (p1_sort : Int) : Option TSpan :=
  ((calxref03_wholes p0_b).bind fun y3 => guardO ((0 : Int) ≤ 0 ∧ 0 < ((y3.length : Nat) : Int)) (guardO ((0 : Int) ≤ p1_sort ∧ p1_sort < 3) (guardO ((0 : Int) ≤ 0 ∧ 0 < ((y3.length : Nat) : Int)) (guardO ((0 : Int) ≤ p1_sort ∧ p1_sort < 3) (((loopO (calxref03_ends_l1 p1_sort y3) (0, sel3 ((rdL y3 0).x0) ((rdL y3 0).x1) ((rdL y3 0).x2) p1_sort, sel3 ((rdL y3 0).x0) ((rdL y3 0).x1) ((rdL y3 0).x2) p1_sort)).bind fun u17 => some (TSpan.mk u17.2.1 u17.2.2)))))))

/-! calx/calxref03.Together -/
def calxref03_Together_l1 (p0 : (List TBatch)) (s6 : (Int × Int)) : Option ((Int × Int) ⊕ ((Int × Int) ⊕ (Int × Int))) :=
  (if decide (s6.1 < ((p0.length : Nat) : Int)) = true then guardO ((0 : Int) ≤ s6.1 ∧ s6.1 < ((p0.length : Nat) : Int)) (((calxref03_Check (TBatch.mk ((rdL p0 s6.1).fBarrows) (TKinds.mk ((rdL p0 s6.1).fSeen.x0) ((rdL p0 s6.1).fSeen.x1) ((rdL p0 s6.1).fSeen.x2)) (TArr3_TSpan.mk (TSpan.mk ((rdL p0 s6.1).fKnown.x0.fLo) ((rdL p0 s6.1).fKnown.x0.fHi)) (TSpan.mk ((rdL p0 s6.1).fKnown.x1.fLo) ((rdL p0 s6.1).fKnown.x1.fHi)) (TSpan.mk ((rdL p0 s6.1).fKnown.x2.fLo) ((rdL p0 s6.1).fKnown.x2.fHi))))).bind fun y10 => (if (y10 != 0) = true then some (.inr (.inl (s6.1, y10))) else some (.inl (w64 (s6.1 + 1), s6.2))))) else some (.inr (.inr (s6.1, s6.2))))
def calxref03_Together_l2 (p0 : (List TBatch)) (p1 : Int) (s22 : (Int × Int × Int × (List TSpan))) : Option ((Int × Int × Int × (List TSpan)) ⊕ (Int × Int × Int × (List TSpan))) :=
  (if decide (s22.2.2.1 < ((p0.length : Nat) : Int)) = true then guardO ((0 : Int) ≤ s22.2.2.1 ∧ s22.2.2.1 < ((p0.length : Nat) : Int)) (((calxref03_ends (TBatch.mk ((rdL p0 s22.2.2.1).fBarrows) (TKinds.mk ((rdL p0 s22.2.2.1).fSeen.x0) ((rdL p0 s22.2.2.1).fSeen.x1) ((rdL p0 s22.2.2.1).fSeen.x2)) (TArr3_TSpan.mk (TSpan.mk ((rdL p0 s22.2.2.1).fKnown.x0.fLo) ((rdL p0 s22.2.2.1).fKnown.x0.fHi)) (TSpan.mk ((rdL p0 s22.2.2.1).fKnown.x1.fLo) ((rdL p0 s22.2.2.1).fKnown.x1.fHi)) (TSpan.mk ((rdL p0 s22.2.2.1).fKnown.x2.fLo) ((rdL p0 s22.2.2.1).fKnown.x2.fHi)))) p1).bind fun y26 => guardO (s22.2.2.2.length + 1 ≤ 1000000000) (some (.inl (w64 (s22.1 + y26.fLo), w64 (s22.2.1 + y26.fHi), w64 (s22.2.2.1 + 1), (s22.2.2.2 ++ [y26])))))) else some (.inr (s22.1, s22.2.1, s22.2.2.1, s22.2.2.2)))
def calxref03_Together_l3 (p0 : (List TBatch)) (p2 : TSpan) (u23 : (Int × Int × Int × (List TSpan))) (s38 : (Int × (List TSpan))) : Option ((Int × (List TSpan)) ⊕ (Int × (List TSpan))) :=
  (if decide (s38.1 < ((p0.length : Nat) : Int)) = true then guardO ((0 : Int) ≤ s38.1 ∧ s38.1 < ((u23.2.2.2.length : Nat) : Int)) (guardO ((0 : Int) ≤ s38.1 ∧ s38.1 < ((u23.2.2.2.length : Nat) : Int)) (guardO ((0 : Int) ≤ s38.1 ∧ s38.1 < ((u23.2.2.2.length : Nat) : Int)) (guardO ((0 : Int) ≤ s38.1 ∧ s38.1 < ((u23.2.2.2.length : Nat) : Int)) (guardO (s38.2.length + 1 ≤ 1000000000) (some (.inl (w64 (s38.1 + 1), (s38.2 ++ [(TSpan.mk (max ((rdL u23.2.2.2 s38.1).fLo) (w64 ((max p2.fLo u23.1) - (w64 (u23.2.1 - ((rdL u23.2.2.2 s38.1).fHi)))))) (min ((rdL u23.2.2.2 s38.1).fHi) (w64 ((min p2.fHi u23.2.1) - (w64 (u23.1 - ((rdL u23.2.2.2 s38.1).fLo)))))))])))))))) else some (.inr (s38.1, s38.2)))
def calxref03_Together (p0 : (List TBatch)) (p1 : Int) (p2 : TSpan) : Option TSpans :=
  (if decide (12 < ((p0.length : Nat) : Int)) = true then some (TSpans.mk [] 2) else ((loopO (calxref03_Together_l1 p0) (0, 0)).bind fun u7 => match u7 with | (.inl u14) => some (TSpans.mk [] u14.2) | (.inr u15) => ((calxref03_in p1 0 2).bind fun y16 => (if ((!y16) || (decide (p2.fHi < p2.fLo))) = true then some (TSpans.mk [] 1) else ((loopO (calxref03_Together_l2 p0 p1) (0, 0, 0, ([] : List TSpan))).bind fun u23 => (if ((decide (u23.2.1 < p2.fLo)) || (decide (p2.fHi < u23.1))) = true then some (TSpans.mk [] 9) else ((loopO (calxref03_Together_l3 p0 p2 u23) (0, ([] : List TSpan))).bind fun u39 => some (TSpans.mk u39.2 0))))))))

/-! calx/calxlaw03.SampleTogether -/
def calxlaw03_SampleTogether (p0_l : (List TBatch)) (p1_sort : Int) (p2_sum : TSpan) : Option Bool :=
  ((calxlaw03_head).bind fun y2 => (if decide (16 < ((p0_l.length : Nat) : Int)) = true then some y2 else ((sample_Together p0_l p1_sort p2_sum).bind fun y5 => ((calxref03_Together p0_l p1_sort p2_sum).bind fun y11 => ((calxref03_SameSpans y5.1 y11.fL).bind fun y18 => some ((y2 && y18) && (y5.2 == y11.fE)))))))

/-! calx/calxref03.Choose -/
def calxref03_Choose (p0_n : Int) (p1_k : Int) : Option (Int × Int) :=
  ((calxref03_in p0_n 0 50).bind fun y1 => (if ((!y1) || (decide (p1_k < 0))) = true then some (0, 1) else ((calxref03_choose p0_n p1_k).bind fun y5 => some (y5, 0))))

/-! calx/sample.Ways -/
def sample_Ways (p0_whole : TKinds) (p1_seen : TKinds) : Option (Int × Int) :=
  ((sample_seenOf p0_whole p1_seen).bind fun y3 => (if (y3 != 0) = true then some (0, y3) else ((sample_ways p0_whole p1_seen).bind fun y6 => some (y6, 0))))

/-! calx/calxref03.whole -/
def calxref03_whole (p0_w : TKinds) : Option Bool :=
  ((calxref03_sorted p0_w).bind fun y2 => ((if y2 = true then ((calxref03_all p0_w).bind fun y7 => ((calxref03_in y7 1 50).bind fun y9 => some (y9))) else (some (false))).bind fun b5 => some b5))

/-! calx/calxref03.ways -/
def calxref03_ways_l1 (p0_w : TKinds) (p1_s : TKinds) (s4 : (Int × Int)) : Option ((Int × Int) ⊕ (Int × Int)) :=
  (if decide (s4.2 < 3) = true then guardO ((0 : Int) ≤ s4.2 ∧ s4.2 < 3) (guardO ((0 : Int) ≤ s4.2 ∧ s4.2 < 3) (((calxref03_choose (sel3 p0_w.x0 p0_w.x1 p0_w.x2 s4.2) (sel3 p1_s.x0 p1_s.x1 p1_s.x2 s4.2)).bind fun y9 => some (.inl (w64 (s4.1 * y9), w64 (s4.2 + 1)))))) else some (.inr (s4.1, s4.2)))
def calxref03_ways (p0_w : TKinds) (p1_s : TKinds) : Option Int :=
  ((loopO (calxref03_ways_l1 p0_w p1_s) (1, 0)).bind fun u5 => some u5.1)

/-! calx/calxref03.Ways -/
def calxref03_Ways (p0_w : TKinds) (p1_s : TKinds) : Option (Int × Int) :=
  ((calxref03_whole p0_w).bind fun y3 => ((if (!y3) = true then (some (true)) else ((calxref03_sorted p1_s).bind fun y11 => some ((!y11)))).bind fun b6 => (if b6 = true then some (0, 1) else ((calxref03_ways p0_w p1_s).bind fun y9 => some (y9, 0)))))

/-! calx/calxref03.Chance -/
def calxref03_Chance (p0_w : TKinds) (p1_s : TKinds) : Option (TRatio × Int) :=
  ((calxref03_whole p0_w).bind fun y4 => ((if (!y4) = true then (some (true)) else ((calxref03_sorted p1_s).bind fun y25 => some ((!y25)))).bind fun b7 => (if b7 = true then some ((TRatio.mk 0 0), 1) else ((calxref03_all p1_s).bind fun y10 => ((calxref03_all p0_w).bind fun y12 => (if decide (y12 < y10) = true then some ((TRatio.mk 0 0), 3) else ((calxref03_ways p0_w p1_s).bind fun y15 => ((calxref03_all p0_w).bind fun y17 => ((calxref03_all p1_s).bind fun y19 => ((calxref03_choose y17 y19).bind fun y21 => ((calxref03_ratio y15 y21).bind fun y23 => some (y23, 0))))))))))))

/-! calx/calxlaw03.SampleWays -/
def calxlaw03_SampleWays (p0 : Int) (p1 : Int) (p2 : TKinds) (p3 : TKinds) : Option Bool :=
  ((calxlaw03_head).bind fun y3 => ((sample_Choose p0 p1).bind fun y5 => ((calxref03_Choose p0 p1).bind fun y7 => ((sample_Ways p2 p3).bind fun y9 => ((calxref03_Ways p2 p3).bind fun y11 => ((sample_Chance p2 p3).bind fun y13 => ((calxref03_Chance p2 p3).bind fun y16 => some ((((((y3 && (y5.1 == y7.1)) && (y5.2 == y7.2)) && (y9.1 == y11.1)) && (y9.2 == y11.2)) && ((y13.1.fNum == y16.1.fNum) && (y13.1.fDen == y16.1.fDen))) && (y13.2 == y16.2)))))))))

/-! calx/calxref03.AllWholes -/
def calxref03_AllWholes (p0_b : TBatch) : Option TWholes :=
  ((calxref03_Check p0_b).bind fun y3 => (if (y3 != 0) = true then some (TWholes.mk [] y3) else ((calxref03_wholes p0_b).bind fun y6 => some (TWholes.mk y6 0))))

/-! calx/sample.Ends -/
def sample_Ends (p0_b : TBatch) (p1_sort : Int) : Option (TSpan × Int) :=
  ((sample_sorted p0_b p1_sort).bind fun y3 => (if (y3 != 0) = true then some ((TSpan.mk 0 0), y3) else ((sample_ends p0_b p1_sort).bind fun y6 => some (y6, 0))))

/-! calx/calxref03.kind -/
def calxref03_kind (p0_b : TBatch) (p1_sort : Int) : Option Int :=
  ((calxref03_Check p0_b).bind fun y2 => ((if (y2 == 0) = true then ((calxref03_in p1_sort 0 2).bind fun y8 => some ((!y8))) else (some (false))).bind fun b5 => (if b5 = true then some 1 else some y2)))

/-! calx/calxref03.Ends -/
def calxref03_Ends (p0_b : TBatch) (p1_sort : Int) : Option (TSpan × Int) :=
  ((calxref03_kind p0_b p1_sort).bind fun y3 => (if (y3 != 0) = true then some ((TSpan.mk 0 0), y3) else ((calxref03_ends p0_b p1_sort).bind fun y6 => some (y6, 0))))

/-! calx/calxlaw03.SampleBatches -/
def calxlaw03_SampleBatches (p0 : TBatch) (p1 : Int) : Option Bool :=
  ((calxlaw03_head).bind fun y2 => ((sample_Wholes p0).bind fun y4 => ((calxref03_AllWholes p0).bind fun y10 => ((sample_Ends p0 p1).bind fun y17 => ((calxref03_Ends p0 p1).bind fun y20 => ((calxref03_SameKinds y4.1 y10.fL).bind fun y23 => ((if y2 = true then ((sample_Check p0).bind fun y32 => ((calxref03_Check p0).bind fun y34 => some ((y32 == y34)))) else (some (false))).bind fun b26 => some ((((b26 && y23) && (y4.2 == y10.fE)) && ((y17.1.fLo == y20.1.fLo) && (y17.1.fHi == y20.1.fHi))) && (y17.2 == y20.2)))))))))

/-! calx/calxlaw03.SampleAddsUp -/
def calxlaw03_SampleAddsUp_l1 (p0 : TKinds) (y2 : Bool) (s5 : (Bool × Int × Int)) : Option ((Bool × Int × Int) ⊕ ((Bool × Int × Int) ⊕ (Bool × Int × Int))) :=
  (if decide (s5.2.2 < 3) = true then guardO ((0 : Int) ≤ s5.2.2 ∧ s5.2.2 < 3) (((if decide (sel3 p0.x0 p0.x1 p0.x2 s5.2.2 < 0) = true then (some (true)) else (guardO ((0 : Int) ≤ s5.2.2 ∧ s5.2.2 < 3) (some (decide (20 < sel3 p0.x0 p0.x1 p0.x2 s5.2.2))))).bind fun b10 => (if b10 = true then some (.inr (.inl (y2, s5.2.1, s5.2.2))) else guardO ((0 : Int) ≤ s5.2.2 ∧ s5.2.2 < 3) (some (.inl (s5.1, w64 (s5.2.1 + (sel3 p0.x0 p0.x1 p0.x2 s5.2.2)), w64 (s5.2.2 + 1))))))) else some (.inr (.inr (s5.1, s5.2.1, s5.2.2))))
def calxlaw03_SampleAddsUp_l3 (p0 : TKinds) (p1 : Int) (s27 : (Bool × Int × Int)) (s31 : (Bool × Int × Int)) : Option ((Bool × Int × Int) ⊕ ((Bool × Int × Int) ⊕ (Bool × Int × Int))) :=
  (if decide (w64 (s27.2.2 + s31.2.2) ≤ p1) = true then ((sample_Ways p0 (TKinds.mk s27.2.2 s31.2.2 (w64 ((w64 (p1 - s27.2.2)) - s31.2.2)))).bind fun y34 => (if (y34.2 != 0) = true then some (.inr (.inl (false, s31.2.1, s31.2.2))) else some (.inl (s31.1, w64 (s31.2.1 + y34.1), w64 (s31.2.2 + 1))))) else some (.inr (.inr (s31.1, s31.2.1, s31.2.2))))
def calxlaw03_SampleAddsUp_l2 (p0 : TKinds) (p1 : Int) (s27 : (Bool × Int × Int)) : Option ((Bool × Int × Int) ⊕ ((Bool × Int × Int) ⊕ (Bool × Int × Int))) :=
  (if decide (s27.2.2 ≤ p1) = true then ((loopO (calxlaw03_SampleAddsUp_l3 p0 p1 s27) (s27.1, s27.2.1, 0)).bind fun u32 => match u32 with | (.inl u38) => some (.inr (.inl (u38.1, u38.2.1, s27.2.2))) | (.inr u39) => some (.inl (u39.1, u39.2.1, w64 (s27.2.2 + 1)))) else some (.inr (.inr (s27.1, s27.2.1, s27.2.2))))
def calxlaw03_SampleAddsUp (p0 : TKinds) (p1 : Int) : Option Bool :=
  ((calxlaw03_head).bind fun y2 => ((loopO (calxlaw03_SampleAddsUp_l1 p0 y2) (false, 0, 0)).bind fun u6 => match u6 with | (.inl u16) => some u16.1 | (.inr u17) => (if ((((decide (u17.2.1 < 1)) || (decide (20 < u17.2.1))) || (decide (p1 < 0))) || (decide (u17.2.1 < p1))) = true then some y2 else ((sample_Choose u17.2.1 p1).bind fun y22 => ((sample_Choose u17.2.1 (w64 (u17.2.1 - p1))).bind fun y24 => ((loopO (calxlaw03_SampleAddsUp_l2 p0 p1) (u17.1, 0, 0)).bind fun u28 => match u28 with | (.inl u41) => some u41.1 | (.inr u42) => some (((((y2 && (y22.2 == 0)) && (y24.2 == 0)) && (u42.2.1 == y22.1)) && (y24.1 == y22.1)) && (decide (1 ≤ y22.1)))))))))

/-! calx/calxlaw03.SampleMeans -/
def calxlaw03_SampleMeans_l2 (y17 : ((List Int) × Int)) (s33 : (Int × Int × Int)) : Option ((Int × Int × Int) ⊕ (Int × Int × Int)) :=
  (if decide (s33.2.2 < ((y17.1.length : Nat) : Int)) = true then guardO ((0 : Int) ≤ s33.2.2 ∧ s33.2.2 < ((y17.1.length : Nat) : Int)) (guardO ((0 : Int) ≤ s33.2.2 ∧ s33.2.2 < ((y17.1.length : Nat) : Int)) (some (.inl (w64 (s33.1 + (w64 (s33.2.2 * (rdL y17.1 s33.2.2)))), w64 (s33.2.1 + (rdL y17.1 s33.2.2)), w64 (s33.2.2 + 1))))) else some (.inr (s33.1, s33.2.1, s33.2.2)))
def calxlaw03_SampleMeans_l1 (p0 : TBatch) (s8 : (Bool × Int × Int × Int)) : Option ((Bool × Int × Int × Int) ⊕ ((Bool × Int × Int × Int) ⊕ (Bool × Int × Int × Int))) :=
  (if decide (s8.2.2.2 < 3) = true then ((sample_Mean p0 s8.2.2.2).bind fun y11 => ((sample_Ends p0 s8.2.2.2).bind fun y14 => ((sample_Weights p0 s8.2.2.2).bind fun y17 => ((sample_Next p0 s8.2.2.2).bind fun y23 => (if ((((((y11.2 != 0) || (y14.2 != 0)) || (y17.2 != 0)) || (!((y23.2 == 5) == ((w64 ((w64 ((w64 (p0.fBarrows - p0.fSeen.x0)) - p0.fSeen.x1)) - p0.fSeen.x2)) == 0)))) || ((y23.2 != 0) && (y23.2 != 5))) || (decide (y11.1.fDen < 1))) = true then some (.inr (.inl (false, s8.2.1, s8.2.2.1, s8.2.2.2))) else ((loopO (calxlaw03_SampleMeans_l2 y17) (0, 0, 0)).bind fun u34 => ((if (((((decide (0 < s8.2.2.2)) && (u34.2.1 != s8.2.1)) || (decide (u34.2.1 < 1))) || (decide (u34.1 < w64 (y14.1.fLo * u34.2.1)))) || (decide (w64 (y14.1.fHi * u34.2.1) < u34.1))) = true then (some (true)) else (guardO (y11.1.fDen ≠ 0) (some (((Int.tmod u34.2.1 y11.1.fDen) != 0))))).bind fun b44 => ((if b44 = true then (some (true)) else (guardO (y11.1.fDen ≠ 0) (some (((w64 ((w64 (Int.tdiv u34.2.1 y11.1.fDen)) * y11.1.fNum)) != u34.1))))).bind fun b47 => (if b47 = true then some (.inr (.inl (false, s8.2.1, s8.2.2.1, s8.2.2.2))) else ((if (y23.2 == 0) = true then ((if decide (y23.1.fDen < 1) = true then (some (true)) else (guardO (y23.1.fDen ≠ 0) (some (((Int.tmod (w64 ((w64 ((w64 ((w64 (p0.fBarrows - p0.fSeen.x0)) - p0.fSeen.x1)) - p0.fSeen.x2)) * u34.2.1)) y23.1.fDen) != 0))))).bind fun b55 => ((if b55 = true then (some (true)) else (guardO (y23.1.fDen ≠ 0) (guardO ((0 : Int) ≤ s8.2.2.2 ∧ s8.2.2.2 < 3) (some (((w64 ((w64 (Int.tdiv (w64 ((w64 ((w64 ((w64 (p0.fBarrows - p0.fSeen.x0)) - p0.fSeen.x1)) - p0.fSeen.x2)) * u34.2.1)) y23.1.fDen)) * y23.1.fNum)) != (w64 (u34.1 - (w64 ((sel3 p0.fSeen.x0 p0.fSeen.x1 p0.fSeen.x2 s8.2.2.2) * u34.2.1)))))))))).bind fun b58 => some (b58))) else (some (false))).bind fun b51 => (if b51 = true then some (.inr (.inl (false, s8.2.1, s8.2.2.1, s8.2.2.2))) else some (.inl (s8.1, u34.2.1, w64 (s8.2.2.1 + u34.1), w64 (s8.2.2.2 + 1)))))))))))))) else some (.inr (.inr (s8.1, s8.2.1, s8.2.2.1, s8.2.2.2))))
def calxlaw03_SampleMeans (p0 : TBatch) : Option Bool :=
  ((calxlaw03_head).bind fun y2 => ((sample_Check p0).bind fun y4 => (if (y4 != 0) = true then some y2 else ((loopO (calxlaw03_SampleMeans_l1 p0) (false, 0, 0, 0)).bind fun u9 => match u9 with | (.inl u67) => some u67.1 | (.inr u68) => some (y2 && (u68.2.2.1 == (w64 (p0.fBarrows * u68.2.1))))))))

/-! calx/calxlaw03.SampleSums -/
def calxlaw03_SampleSums_l1 (p0 : (List TBatch)) (p1 : Int) (y5 : ((List TSpan) × Int)) (y11 : ((List TSpan) × Int)) (s23 : (Bool × Int × Int × Int)) : Option ((Bool × Int × Int × Int) ⊕ ((Bool × Int × Int × Int) ⊕ (Bool × Int × Int × Int))) :=
  (if decide (s23.2.2.2 < ((p0.length : Nat) : Int)) = true then guardO ((0 : Int) ≤ s23.2.2.2 ∧ s23.2.2.2 < ((p0.length : Nat) : Int)) (((sample_Ends (TBatch.mk ((rdL p0 s23.2.2.2).fBarrows) (TKinds.mk ((rdL p0 s23.2.2.2).fSeen.x0) ((rdL p0 s23.2.2.2).fSeen.x1) ((rdL p0 s23.2.2.2).fSeen.x2)) (TArr3_TSpan.mk (TSpan.mk ((rdL p0 s23.2.2.2).fKnown.x0.fLo) ((rdL p0 s23.2.2.2).fKnown.x0.fHi)) (TSpan.mk ((rdL p0 s23.2.2.2).fKnown.x1.fLo) ((rdL p0 s23.2.2.2).fKnown.x1.fHi)) (TSpan.mk ((rdL p0 s23.2.2.2).fKnown.x2.fLo) ((rdL p0 s23.2.2.2).fKnown.x2.fHi)))) p1).bind fun y27 => ((if (y27.2 != 0) = true then (some (true)) else (guardO ((0 : Int) ≤ s23.2.2.2 ∧ s23.2.2.2 < ((y11.1.length : Nat) : Int)) (some ((!(((rdL y11.1 s23.2.2.2).fLo == y27.1.fLo) && ((rdL y11.1 s23.2.2.2).fHi == y27.1.fHi))))))).bind fun b31 => ((if b31 = true then (some (true)) else (guardO ((0 : Int) ≤ s23.2.2.2 ∧ s23.2.2.2 < ((y5.1.length : Nat) : Int)) (some (decide ((rdL y5.1 s23.2.2.2).fLo < y27.1.fLo))))).bind fun b34 => ((if b34 = true then (some (true)) else (guardO ((0 : Int) ≤ s23.2.2.2 ∧ s23.2.2.2 < ((y5.1.length : Nat) : Int)) (some (decide (y27.1.fHi < (rdL y5.1 s23.2.2.2).fHi))))).bind fun b37 => ((if b37 = true then (some (true)) else (guardO ((0 : Int) ≤ s23.2.2.2 ∧ s23.2.2.2 < ((y5.1.length : Nat) : Int)) (guardO ((0 : Int) ≤ s23.2.2.2 ∧ s23.2.2.2 < ((y5.1.length : Nat) : Int)) (some (decide ((rdL y5.1 s23.2.2.2).fHi < (rdL y5.1 s23.2.2.2).fLo)))))).bind fun b40 => (if b40 = true then some (.inr (.inl (false, s23.2.1, s23.2.2.1, s23.2.2.2))) else some (.inl (s23.1, w64 (s23.2.1 + y27.1.fLo), w64 (s23.2.2.1 + y27.1.fHi), w64 (s23.2.2.2 + 1)))))))))) else some (.inr (.inr (s23.1, s23.2.1, s23.2.2.1, s23.2.2.2))))
def calxlaw03_SampleSums_l2 (p0 : (List TBatch)) (p2 : TSpan) (y5 : ((List TSpan) × Int)) (y11 : ((List TSpan) × Int)) (u50 : (Bool × Int × Int × Int)) (s52 : (Bool × Int)) : Option ((Bool × Int) ⊕ ((Bool × Int) ⊕ (Bool × Int))) :=
  (if decide (s52.2 < ((p0.length : Nat) : Int)) = true then guardO ((0 : Int) ≤ s52.2 ∧ s52.2 < ((y11.1.length : Nat) : Int)) (guardO ((0 : Int) ≤ s52.2 ∧ s52.2 < ((y11.1.length : Nat) : Int)) (guardO ((0 : Int) ≤ s52.2 ∧ s52.2 < ((y5.1.length : Nat) : Int)) (((if decide (w64 (((rdL y5.1 s52.2).fLo) + (w64 (u50.2.2.1 - ((rdL y11.1 s52.2).fHi)))) < p2.fLo) = true then (some (true)) else (guardO ((0 : Int) ≤ s52.2 ∧ s52.2 < ((y5.1.length : Nat) : Int)) (some (decide (p2.fHi < w64 (((rdL y5.1 s52.2).fLo) + (w64 (u50.2.1 - ((rdL y11.1 s52.2).fLo))))))))).bind fun b59 => ((if b59 = true then (some (true)) else (guardO ((0 : Int) ≤ s52.2 ∧ s52.2 < ((y5.1.length : Nat) : Int)) (some (decide (w64 (((rdL y5.1 s52.2).fHi) + (w64 (u50.2.2.1 - ((rdL y11.1 s52.2).fHi)))) < p2.fLo))))).bind fun b62 => ((if b62 = true then (some (true)) else (guardO ((0 : Int) ≤ s52.2 ∧ s52.2 < ((y5.1.length : Nat) : Int)) (some (decide (p2.fHi < w64 (((rdL y5.1 s52.2).fHi) + (w64 (u50.2.1 - ((rdL y11.1 s52.2).fLo))))))))).bind fun b65 => (if b65 = true then some (.inr (.inl (false, s52.2))) else guardO ((0 : Int) ≤ s52.2 ∧ s52.2 < ((y5.1.length : Nat) : Int)) (guardO ((0 : Int) ≤ s52.2 ∧ s52.2 < ((y11.1.length : Nat) : Int)) (((if decide ((rdL y11.1 s52.2).fLo < (rdL y5.1 s52.2).fLo) = true then (guardO ((0 : Int) ≤ s52.2 ∧ s52.2 < ((y5.1.length : Nat) : Int)) (some (decide (p2.fLo ≤ w64 ((w64 (((rdL y5.1 s52.2).fLo) - 1)) + (w64 (u50.2.2.1 - ((rdL y11.1 s52.2).fHi)))))))) else (some (false))).bind fun b71 => ((if b71 = true then (some (true)) else (guardO ((0 : Int) ≤ s52.2 ∧ s52.2 < ((y5.1.length : Nat) : Int)) (guardO ((0 : Int) ≤ s52.2 ∧ s52.2 < ((y11.1.length : Nat) : Int)) (((if decide ((rdL y5.1 s52.2).fHi < (rdL y11.1 s52.2).fHi) = true then (guardO ((0 : Int) ≤ s52.2 ∧ s52.2 < ((y5.1.length : Nat) : Int)) (some (decide (w64 ((w64 (((rdL y5.1 s52.2).fHi) + 1)) + (w64 (u50.2.1 - ((rdL y11.1 s52.2).fLo)))) ≤ p2.fHi)))) else (some (false))).bind fun b80 => some (b80)))))).bind fun b74 => (if b74 = true then some (.inr (.inl (false, s52.2))) else some (.inl (s52.1, w64 (s52.2 + 1))))))))))))))) else some (.inr (.inr (s52.1, s52.2))))
def calxlaw03_SampleSums_l3 (y5 : ((List TSpan) × Int)) (y96 : ((List TSpan) × Int)) (s106 : (Bool × Int)) : Option ((Bool × Int) ⊕ ((Bool × Int) ⊕ (Bool × Int))) :=
  (if decide (s106.2 < ((y96.1.length : Nat) : Int)) = true then guardO ((0 : Int) ≤ s106.2 ∧ s106.2 < ((y96.1.length : Nat) : Int)) (guardO ((0 : Int) ≤ s106.2 ∧ s106.2 < ((y5.1.length : Nat) : Int)) (((if decide ((rdL y96.1 s106.2).fLo < (rdL y5.1 s106.2).fLo) = true then (some (true)) else (guardO ((0 : Int) ≤ s106.2 ∧ s106.2 < ((y96.1.length : Nat) : Int)) (guardO ((0 : Int) ≤ s106.2 ∧ s106.2 < ((y5.1.length : Nat) : Int)) (some (decide ((rdL y5.1 s106.2).fHi < (rdL y96.1 s106.2).fHi)))))).bind fun b112 => (if b112 = true then some (.inr (.inl (false, s106.2))) else some (.inl (s106.1, w64 (s106.2 + 1))))))) else some (.inr (.inr (s106.1, s106.2))))
def calxlaw03_SampleSums (p0 : (List TBatch)) (p1 : Int) (p2 : TSpan) (p3 : Int) (p4 : Int) : Option Bool :=
  ((calxlaw03_head).bind fun y2 => (if decide (6 < ((p0.length : Nat) : Int)) = true then some y2 else ((sample_Together p0 p1 p2).bind fun y5 => ((sample_Together p0 p1 (TSpan.mk (-1) 1000)).bind fun y11 => (if ((y5.2 != 0) || (y11.2 != 0)) = true then some (y2 && (y5.2 != 0)) else (if ((((y5.1.length : Nat) : Int) != ((p0.length : Nat) : Int)) || (((y11.1.length : Nat) : Int) != ((p0.length : Nat) : Int))) = true then some false else ((loopO (calxlaw03_SampleSums_l1 p0 p1 y5 y11) (false, 0, 0, 0)).bind fun u24 => match u24 with | (.inl u49) => some u49.1 | (.inr u50) => ((loopO (calxlaw03_SampleSums_l2 p0 p2 y5 y11 u50) (u50.1, 0)).bind fun u53 => match u53 with | (.inl u88) => some u88.1 | (.inr u89) => (if (((decide (p2.fLo < (-1000))) || (decide (2000 < p2.fHi))) || (decide (1000 < w64 (p2.fHi - p2.fLo)))) = true then some y2 else guardO (w64 ((w64 (p2.fHi - p2.fLo)) + 1) ≠ 0) (guardO (w64 ((w64 (p2.fHi - (w64 (p2.fLo + (Int.tmod (w64 p3) (w64 ((w64 (p2.fHi - p2.fLo)) + 1))))))) + 1) ≠ 0) (((sample_Together p0 p1 (TSpan.mk (w64 (p2.fLo + (Int.tmod (w64 p3) (w64 ((w64 (p2.fHi - p2.fLo)) + 1))))) (w64 ((w64 (p2.fLo + (Int.tmod (w64 p3) (w64 ((w64 (p2.fHi - p2.fLo)) + 1))))) + (Int.tmod (w64 p4) (w64 ((w64 (p2.fHi - (w64 (p2.fLo + (Int.tmod (w64 p3) (w64 ((w64 (p2.fHi - p2.fLo)) + 1))))))) + 1))))))).bind fun y96 => (if (y96.2 != 0) = true then some (y2 && (y96.2 == 9)) else (if (((y96.1.length : Nat) : Int) != ((y5.1.length : Nat) : Int)) = true then some false else ((loopO (calxlaw03_SampleSums_l3 y5 y96) (u89.1, 0)).bind fun u107 => match u107 with | (.inl u118) => some u118.1 | (.inr u119) => some y2)))))))))))))))

/-! calx/calxref03.weights -/
def calxref03_weights_l1 (p0_b : TBatch) (p1_sort : Int) (y4 : (List TKinds)) (s12 : (Int × (List Int))) : Option ((Int × (List Int)) ⊕ (Int × (List Int))) :=
  (if decide (s12.1 < ((y4.length : Nat) : Int)) = true then guardO ((0 : Int) ≤ s12.1 ∧ s12.1 < ((y4.length : Nat) : Int)) (guardO ((0 : Int) ≤ p1_sort ∧ p1_sort < 3) (guardO ((0 : Int) ≤ sel3 ((rdL y4 s12.1).x0) ((rdL y4 s12.1).x1) ((rdL y4 s12.1).x2) p1_sort ∧ sel3 ((rdL y4 s12.1).x0) ((rdL y4 s12.1).x1) ((rdL y4 s12.1).x2) p1_sort < ((Int.toNat (w64 (p0_b.fBarrows + 1)) : Nat) : Int)) (guardO ((0 : Int) ≤ s12.1 ∧ s12.1 < ((y4.length : Nat) : Int)) (((calxref03_ways (TKinds.mk ((rdL y4 s12.1).x0) ((rdL y4 s12.1).x1) ((rdL y4 s12.1).x2)) p0_b.fSeen).bind fun y19 => guardO ((0 : Int) ≤ sel3 ((rdL y4 s12.1).x0) ((rdL y4 s12.1).x1) ((rdL y4 s12.1).x2) p1_sort ∧ sel3 ((rdL y4 s12.1).x0) ((rdL y4 s12.1).x1) ((rdL y4 s12.1).x2) p1_sort < ((Int.toNat (w64 (p0_b.fBarrows + 1)) : Nat) : Int)) (some (.inl (w64 (s12.1 + 1), (s12.2.set (Int.toNat (sel3 ((rdL y4 s12.1).x0) ((rdL y4 s12.1).x1) ((rdL y4 s12.1).x2) p1_sort)) (w64 ((rdL s12.2 (sel3 ((rdL y4 s12.1).x0) ((rdL y4 s12.1).x1) ((rdL y4 s12.1).x2) p1_sort)) + y19))))))))))) else some (.inr (s12.1, s12.2)))
def calxref03_weights (p0_b : TBatch) (p1_sort : Int) : Option (List Int) :=
  guardO ((0 : Int) ≤ w64 (p0_b.fBarrows + 1) ∧ (w64 (p0_b.fBarrows + 1)) * 8 ≤ 281474976710656) (((calxref03_wholes p0_b).bind fun y4 => ((loopO (calxref03_weights_l1 p0_b p1_sort y4) (0, (List.replicate (Int.toNat (w64 (p0_b.fBarrows + 1))) 0))).bind fun u13 => some u13.2)))

/-! calx/calxref03.weight -/
def calxref03_weight_l1 (p0_l : (List Int)) (p1_s : TSpan) (s3 : (Int × Int)) : Option ((Int × Int) ⊕ (Int × Int)) :=
  (if ((decide (s3.2 < ((p0_l.length : Nat) : Int))) && (decide (s3.2 ≤ p1_s.fHi))) = true then guardO ((0 : Int) ≤ s3.2 ∧ s3.2 < ((p0_l.length : Nat) : Int)) (some (.inl (w64 (s3.1 + (rdL p0_l s3.2)), w64 (s3.2 + 1)))) else some (.inr (s3.1, s3.2)))
def calxref03_weight (p0_l : (List Int)) (p1_s : TSpan) : Option Int :=
  ((loopO (calxref03_weight_l1 p0_l p1_s) (0, max 0 p1_s.fLo)).bind fun u4 => some u4.1)

/-! calx/calxref03.total -/
def calxref03_total (p0_l : (List Int)) : Option Int :=
  ((calxref03_weight p0_l (TSpan.mk 0 ((p0_l.length : Nat) : Int))).bind fun y1 => some y1)

/-! calx/calxref03.Shortest -/
def calxref03_Shortest_l2 (p0 : TBatch) (p2 : TRatio) (y11 : (List Int)) (y17 : Int) (s22 : (Int × Int × Int × Int)) (s27 : (Int × Int × Int × Int)) : Option ((Int × Int × Int × Int) ⊕ ((Int × Int × Int × Int) ⊕ (Int × Int × Int × Int))) :=
  (if decide (w64 (s27.2.1 + s22.2.1) ≤ p0.fBarrows) = true then ((calxref03_weight y11 (TSpan.mk s27.2.1 (w64 (s27.2.1 + s22.2.1)))).bind fun y31 => (if decide (w64 (y17 * p2.fNum) ≤ w64 (y31 * p2.fDen)) = true then some (.inr (.inl (0, s27.2.1, s27.2.1, w64 (s27.2.1 + s22.2.1)))) else some (.inl (s27.1, w64 (s27.2.1 + 1), s27.2.2.1, s27.2.2.2)))) else some (.inr (.inr (s27.1, s27.2.1, s27.2.2.1, s27.2.2.2))))
def calxref03_Shortest_l1 (p0 : TBatch) (p2 : TRatio) (y11 : (List Int)) (y17 : Int) (s22 : (Int × Int × Int × Int)) : Option ((Int × Int × Int × Int) ⊕ ((Int × Int × Int × Int) ⊕ (Int × Int × Int × Int))) :=
  (if decide (s22.2.1 ≤ p0.fBarrows) = true then ((loopO (calxref03_Shortest_l2 p0 p2 y11 y17 s22) (s22.1, 0, s22.2.2.1, s22.2.2.2)).bind fun u28 => match u28 with | (.inl u35) => some (.inr (.inl (u35.1, s22.2.1, u35.2.2.1, u35.2.2.2))) | (.inr u36) => some (.inl (u36.1, w64 (s22.2.1 + 1), u36.2.2.1, u36.2.2.2))) else some (.inr (.inr (s22.1, s22.2.1, s22.2.2.1, s22.2.2.2))))
def calxref03_Shortest_l4 (p0 : TBatch) (p2 : TRatio) (y41 : (List Int)) (y47 : Int) (s52 : (Int × Int × Int × Int)) (s57 : (Int × Int × Int × Int)) : Option ((Int × Int × Int × Int) ⊕ ((Int × Int × Int × Int) ⊕ (Int × Int × Int × Int))) :=
  (if decide (w64 (s57.2.1 + s52.2.1) ≤ p0.fBarrows) = true then ((calxref03_weight y41 (TSpan.mk s57.2.1 (w64 (s57.2.1 + s52.2.1)))).bind fun y61 => (if decide (w64 (y47 * p2.fNum) ≤ w64 (y61 * p2.fDen)) = true then some (.inr (.inl (0, s57.2.1, s57.2.1, w64 (s57.2.1 + s52.2.1)))) else some (.inl (s57.1, w64 (s57.2.1 + 1), s57.2.2.1, s57.2.2.2)))) else some (.inr (.inr (s57.1, s57.2.1, s57.2.2.1, s57.2.2.2))))
def calxref03_Shortest_l3 (p0 : TBatch) (p2 : TRatio) (y41 : (List Int)) (y47 : Int) (s52 : (Int × Int × Int × Int)) : Option ((Int × Int × Int × Int) ⊕ ((Int × Int × Int × Int) ⊕ (Int × Int × Int × Int))) :=
  (if decide (s52.2.1 ≤ p0.fBarrows) = true then ((loopO (calxref03_Shortest_l4 p0 p2 y41 y47 s52) (s52.1, 0, s52.2.2.1, s52.2.2.2)).bind fun u58 => match u58 with | (.inl u65) => some (.inr (.inl (u65.1, s52.2.1, u65.2.2.1, u65.2.2.2))) | (.inr u66) => some (.inl (u66.1, w64 (s52.2.1 + 1), u66.2.2.1, u66.2.2.2))) else some (.inr (.inr (s52.1, s52.2.1, s52.2.2.1, s52.2.2.2))))
def calxref03_Shortest (p0 : TBatch) (p1 : Int) (p2 : TRatio) : Option (TSpan × Int) :=
  ((calxref03_kind p0 p1).bind fun y4 => ((if (y4 == 0) = true then ((calxref03_level p2).bind fun y70 => some ((!y70))) else (some (false))).bind fun b7 => (if b7 = true then (if (1 != 0) = true then some ((TSpan.mk 0 0), 1) else ((calxref03_weights p0 p1).bind fun y11 => ((calxref03_total y11).bind fun y17 => ((loopO (calxref03_Shortest_l1 p0 p2 y11 y17) (0, 0, 0, 0)).bind fun u23 => match u23 with | (.inl u38) => some ((TSpan.mk u38.2.2.1 u38.2.2.2), u38.1) | (.inr u39) => some ((TSpan.mk 0 p0.fBarrows), 0))))) else (if (y4 != 0) = true then some ((TSpan.mk 0 0), y4) else ((calxref03_weights p0 p1).bind fun y41 => ((calxref03_total y41).bind fun y47 => ((loopO (calxref03_Shortest_l3 p0 p2 y41 y47) (0, 0, 0, 0)).bind fun u53 => match u53 with | (.inl u68) => some ((TSpan.mk u68.2.2.1 u68.2.2.2), u68.1) | (.inr u69) => some ((TSpan.mk 0 p0.fBarrows), 0))))))))

/-! calx/sample.CheckShortest -/
def sample_CheckShortest (p0_b : TBatch) (p1_sort : Int) (p2_level : TRatio) (p3_s : TSpan) : Option Int :=
  ((sample_leveled p0_b p1_sort p2_level).bind fun y4 => (if (y4 != 0) = true then some y4 else ((sample_weights p0_b p1_sort).bind fun y7 => ((sample_shortest y7 p2_level).bind fun y13 => (if (!((y13.fLo == p3_s.fLo) && (y13.fHi == p3_s.fHi))) = true then some 8 else some 0)))))

/-! calx/calxref03.CheckShortest -/
def calxref03_CheckShortest (p0_b : TBatch) (p1_sort : Int) (p2_at : TRatio) (p3_s : TSpan) : Option Int :=
  ((calxref03_Shortest p0_b p1_sort p2_at).bind fun y4 => (if (y4.2 != 0) = true then some y4.2 else (if (!((y4.1.fLo == p3_s.fLo) && (y4.1.fHi == p3_s.fHi))) = true then some 8 else some 0)))

/-! calx/calxlaw03.SampleShortest -/
def calxlaw03_SampleShortest (p0_b : TBatch) (p1_sort : Int) (p2_level : TRatio) (p3_s : TSpan) : Option Bool :=
  ((calxlaw03_head).bind fun y4 => ((sample_Shortest p0_b p1_sort p2_level).bind fun y6 => ((calxref03_Shortest p0_b p1_sort p2_level).bind fun y9 => ((if ((y4 && ((y6.1.fLo == y9.1.fLo) && (y6.1.fHi == y9.1.fHi))) && (y6.2 == y9.2)) = true then ((sample_CheckShortest p0_b p1_sort p2_level p3_s).bind fun y17 => ((calxref03_CheckShortest p0_b p1_sort p2_level p3_s).bind fun y19 => some ((y17 == y19)))) else (some (false))).bind fun b15 => some b15))))

/-! calx/calxlaw03.SampleWider -/
def calxlaw03_SampleWider_l1 (y6 : (TSpan × Int)) (y20 : ((List Int) × Int)) (s29 : (Int × Int × Int)) : Option ((Int × Int × Int) ⊕ (Int × Int × Int)) :=
  (if decide (s29.2.2 < ((y20.1.length : Nat) : Int)) = true then guardO ((0 : Int) ≤ s29.2.2 ∧ s29.2.2 < ((y20.1.length : Nat) : Int)) ((if ((decide (y6.1.fLo ≤ s29.2.2)) && (decide (s29.2.2 ≤ y6.1.fHi))) = true then guardO ((0 : Int) ≤ s29.2.2 ∧ s29.2.2 < ((y20.1.length : Nat) : Int)) (some (.inl (w64 (s29.1 + (rdL y20.1 s29.2.2)), w64 (s29.2.1 + (rdL y20.1 s29.2.2)), w64 (s29.2.2 + 1)))) else some (.inl (s29.1, w64 (s29.2.1 + (rdL y20.1 s29.2.2)), w64 (s29.2.2 + 1))))) else some (.inr (s29.1, s29.2.1, s29.2.2)))
def calxlaw03_SampleWider (p0 : TBatch) (p1 : Int) (p2 : TRatio) (p3 : TRatio) : Option Bool :=
  ((calxlaw03_head).bind fun y4 => ((sample_Shortest p0 p1 p2).bind fun y6 => ((sample_Shortest p0 p1 p3).bind fun y9 => (if ((y6.2 != 0) || (y9.2 != 0)) = true then some y4 else ((sample_CheckShortest p0 p1 p2 y6.1).bind fun y14 => (if ((((y14 != 0) || (decide (y6.1.fLo < 0))) || (decide (y6.1.fHi < y6.1.fLo))) || (decide (p0.fBarrows < y6.1.fHi))) = true then some false else ((sample_Weights p0 p1).bind fun y20 => (if ((y20.2 != 0) || (decide (((y20.1.length : Nat) : Int) ≤ y6.1.fHi))) = true then some false else ((loopO (calxlaw03_SampleWider_l1 y6 y20) (0, 0, 0)).bind fun u30 => some ((y4 && (decide (w64 (u30.2.1 * p2.fNum) ≤ w64 (u30.1 * p2.fDen)))) && ((!(decide (w64 (p2.fNum * p3.fDen) ≤ w64 (p3.fNum * p2.fDen)))) || (decide (w64 (y6.1.fHi - y6.1.fLo) ≤ w64 (y9.1.fHi - y9.1.fLo))))))))))))))

/-! calx/calxref03.Weights -/
def calxref03_Weights (p0_b : TBatch) (p1_sort : Int) : Option TInts :=
  ((calxref03_kind p0_b p1_sort).bind fun y3 => (if (y3 != 0) = true then some (TInts.mk [] y3) else ((calxref03_weights p0_b p1_sort).bind fun y6 => some (TInts.mk y6 0))))

/-! calx/sample.Believed -/
def sample_Believed (p0_b : TBatch) (p1_sort : Int) (p2_s : TSpan) : Option (TRatio × Int) :=
  ((sample_sorted p0_b p1_sort).bind fun y4 => (if (y4 != 0) = true then some ((TRatio.mk 0 0), y4) else (if decide (p2_s.fHi < p2_s.fLo) = true then some ((TRatio.mk 0 0), 1) else ((sample_weights p0_b p1_sort).bind fun y8 => ((sample_inSpan y8 p2_s).bind fun y14 => ((sample_sum_int y8 (fun x16 => sample_own x16)).bind fun y17 => ((sample_ratio y14 y17).bind fun y19 => some (y19, 0))))))))

/-! calx/calxref03.Believed -/
def calxref03_Believed (p0_b : TBatch) (p1_sort : Int) (p2_s : TSpan) : Option (TRatio × Int) :=
  ((calxref03_kind p0_b p1_sort).bind fun y4 => (if (y4 != 0) = true then some ((TRatio.mk 0 0), y4) else (if decide (p2_s.fHi < p2_s.fLo) = true then some ((TRatio.mk 0 0), 1) else ((calxref03_weights p0_b p1_sort).bind fun y8 => ((calxref03_weight y8 p2_s).bind fun y14 => ((calxref03_total y8).bind fun y16 => ((calxref03_ratio y14 y16).bind fun y18 => some (y18, 0))))))))

/-! calx/calxref03.Mean -/
def calxref03_Mean_l1 (y6 : (List Int)) (s13 : (Int × Int)) : Option ((Int × Int) ⊕ (Int × Int)) :=
  (if decide (s13.2 < ((y6.length : Nat) : Int)) = true then guardO ((0 : Int) ≤ s13.2 ∧ s13.2 < ((y6.length : Nat) : Int)) (some (.inl (w64 (s13.1 + (w64 (s13.2 * (rdL y6 s13.2)))), w64 (s13.2 + 1)))) else some (.inr (s13.1, s13.2)))
def calxref03_Mean (p0_b : TBatch) (p1_sort : Int) : Option (TRatio × Int) :=
  ((calxref03_kind p0_b p1_sort).bind fun y3 => (if (y3 != 0) = true then some ((TRatio.mk 0 0), y3) else ((calxref03_weights p0_b p1_sort).bind fun y6 => ((loopO (calxref03_Mean_l1 y6) (0, 0)).bind fun u14 => ((calxref03_total y6).bind fun y18 => ((calxref03_ratio u14.1 y18).bind fun y20 => some (y20, 0)))))))

/-! calx/calxref03.Next -/
def calxref03_Next_l1 (p0_b : TBatch) (p1_sort : Int) (y9 : (List Int)) (s16 : (Int × Int)) : Option ((Int × Int) ⊕ (Int × Int)) :=
  (if decide (s16.2 < ((y9.length : Nat) : Int)) = true then guardO ((0 : Int) ≤ p1_sort ∧ p1_sort < 3) (guardO ((0 : Int) ≤ s16.2 ∧ s16.2 < ((y9.length : Nat) : Int)) (some (.inl (w64 (s16.1 + (w64 ((w64 (s16.2 - (sel3 p0_b.fSeen.x0 p0_b.fSeen.x1 p0_b.fSeen.x2 p1_sort))) * (rdL y9 s16.2)))), w64 (s16.2 + 1))))) else some (.inr (s16.1, s16.2)))
def calxref03_Next (p0_b : TBatch) (p1_sort : Int) : Option (TRatio × Int) :=
  ((calxref03_kind p0_b p1_sort).bind fun y3 => (if (y3 != 0) = true then some ((TRatio.mk 0 0), y3) else ((calxref03_all p0_b.fSeen).bind fun y6 => (if ((w64 (p0_b.fBarrows - y6)) == 0) = true then some ((TRatio.mk 0 0), 5) else ((calxref03_weights p0_b p1_sort).bind fun y9 => ((loopO (calxref03_Next_l1 p0_b p1_sort y9) (0, 0)).bind fun u17 => ((calxref03_total y9).bind fun y22 => ((calxref03_ratio u17.1 (w64 ((w64 (p0_b.fBarrows - y6)) * y22))).bind fun y24 => some (y24, 0)))))))))

/-! calx/calxlaw03.SampleBelief -/
def calxlaw03_SampleBelief (p0 : TBatch) (p1 : Int) (p2 : TSpan) : Option Bool :=
  ((calxlaw03_head).bind fun y3 => ((sample_Weights p0 p1).bind fun y5 => ((calxref03_Weights p0 p1).bind fun y11 => ((sample_Believed p0 p1 p2).bind fun y18 => ((calxref03_Believed p0 p1 p2).bind fun y21 => ((sample_Mean p0 p1).bind fun y24 => ((calxref03_Mean p0 p1).bind fun y27 => ((sample_Next p0 p1).bind fun y30 => ((calxref03_Next p0 p1).bind fun y33 => ((calxref03_SameInts y5.1 y11.fL).bind fun y36 => some ((((((((y3 && y36) && (y5.2 == y11.fE)) && ((y18.1.fNum == y21.1.fNum) && (y18.1.fDen == y21.1.fDen))) && (y18.2 == y21.2)) && ((y24.1.fNum == y27.1.fNum) && (y24.1.fDen == y27.1.fDen))) && (y24.2 == y27.2)) && ((y30.1.fNum == y33.1.fNum) && (y30.1.fDen == y33.1.fDen))) && (y30.2 == y33.2))))))))))))

/-! calx/sample.lot -/
def sample_lot (p0_barrows : Int) (p1_bad : Int) (p2_most : Int) : Option Int :=
  ((sample_within p0_barrows 1 p2_most).bind fun y1 => ((if (!y1) = true then (some (true)) else ((sample_within p1_bad 0 p0_barrows).bind fun y7 => some ((!y7)))).bind fun b4 => (if b4 = true then some 1 else some 0)))

/-! calx/sample.AtMost -/
def sample_AtMost (p0_barrows : Int) (p1_bad : Int) (p2_taken : Int) (p3_most : Int) : Option (Int × Int) :=
  ((sample_lot p0_barrows p1_bad 50).bind fun y1 => (if (y1 != 0) = true then some (0, y1) else ((sample_within p2_taken 0 p0_barrows).bind fun y4 => (if ((!y4) || (decide (p3_most < 0))) = true then some (0, 1) else ((sample_atMost p0_barrows p1_bad p2_taken p3_most).bind fun y8 => some (y8, 0))))))

/-! calx/calxref03.lot -/
def calxref03_lot (p0_barrows : Int) (p1_bad : Int) : Option Bool :=
  ((calxref03_in p0_barrows 1 50).bind fun y1 => ((if y1 = true then ((calxref03_in p1_bad 0 p0_barrows).bind fun y6 => some (y6)) else (some (false))).bind fun b4 => some b4))

/-! calx/calxref03.AtMost -/
def calxref03_AtMost (p0_barrows : Int) (p1_bad : Int) (p2_taken : Int) (p3_most : Int) : Option (Int × Int) :=
  ((calxref03_lot p0_barrows p1_bad).bind fun y1 => ((if (!y1) = true then (some (true)) else ((calxref03_in p2_taken 0 p0_barrows).bind fun y10 => some ((!y10)))).bind fun b4 => (if (b4 || (decide (p3_most < 0))) = true then some (0, 1) else ((calxref03_atMost p0_barrows p1_bad p2_taken p3_most).bind fun y8 => some (y8, 0)))))

/-! calx/calxref03.Upper -/
def calxref03_Upper_l1 (p0_barrows : Int) (p1_taken : Int) (p2_seen : Int) (p3_at : TRatio) (y14 : Int) (s17 : (Int × Int × Int)) : Option ((Int × Int × Int) ⊕ ((Int × Int × Int) ⊕ (Int × Int × Int))) :=
  (if decide (0 < s17.2.2) = true then ((calxref03_atMost p0_barrows s17.2.2 p1_taken p2_seen).bind fun y20 => (if decide (w64 (y14 * p3_at.fNum) ≤ w64 (y20 * p3_at.fDen)) = true then some (.inr (.inl (s17.2.2, 0, s17.2.2))) else some (.inl (s17.1, s17.2.1, w64 (s17.2.2 - 1))))) else some (.inr (.inr (s17.1, s17.2.1, s17.2.2))))
def calxref03_Upper (p0_barrows : Int) (p1_taken : Int) (p2_seen : Int) (p3_at : TRatio) : Option (Int × Int) :=
  ((calxref03_lot p0_barrows 0).bind fun y2 => ((if (!y2) = true then (some (true)) else ((calxref03_in p1_taken 0 p0_barrows).bind fun y30 => some ((!y30)))).bind fun b5 => ((if b5 = true then (some (true)) else ((calxref03_in p2_seen 0 p1_taken).bind fun y28 => some ((!y28)))).bind fun b8 => ((if b8 = true then (some (true)) else ((calxref03_level p3_at).bind fun y26 => some ((!y26)))).bind fun b11 => (if b11 = true then some (0, 1) else ((calxref03_choose p0_barrows p1_taken).bind fun y14 => ((loopO (calxref03_Upper_l1 p0_barrows p1_taken p2_seen p3_at y14) (0, 0, p0_barrows)).bind fun u18 => match u18 with | (.inl u24) => some (u24.1, u24.2.1) | (.inr u25) => some (0, 0))))))))

/-! calx/calxref03.Lower -/
def calxref03_Lower_l1 (p0_barrows : Int) (p1_taken : Int) (p2_seen : Int) (p3_at : TRatio) (y14 : Int) (s17 : (Int × Int × Int)) : Option ((Int × Int × Int) ⊕ ((Int × Int × Int) ⊕ (Int × Int × Int))) :=
  (if decide (s17.2.2 < p0_barrows) = true then ((calxref03_atMost p0_barrows s17.2.2 p1_taken (w64 (p2_seen - 1))).bind fun y20 => (if decide (w64 (y14 * p3_at.fNum) ≤ w64 ((w64 (y14 - y20)) * p3_at.fDen)) = true then some (.inr (.inl (s17.2.2, 0, s17.2.2))) else some (.inl (s17.1, s17.2.1, w64 (s17.2.2 + 1))))) else some (.inr (.inr (s17.1, s17.2.1, s17.2.2))))
def calxref03_Lower (p0_barrows : Int) (p1_taken : Int) (p2_seen : Int) (p3_at : TRatio) : Option (Int × Int) :=
  ((calxref03_lot p0_barrows 0).bind fun y2 => ((if (!y2) = true then (some (true)) else ((calxref03_in p1_taken 0 p0_barrows).bind fun y30 => some ((!y30)))).bind fun b5 => ((if b5 = true then (some (true)) else ((calxref03_in p2_seen 0 p1_taken).bind fun y28 => some ((!y28)))).bind fun b8 => ((if b8 = true then (some (true)) else ((calxref03_level p3_at).bind fun y26 => some ((!y26)))).bind fun b11 => (if b11 = true then some (0, 1) else ((calxref03_choose p0_barrows p1_taken).bind fun y14 => ((loopO (calxref03_Lower_l1 p0_barrows p1_taken p2_seen p3_at y14) (0, 0, 0)).bind fun u18 => match u18 with | (.inl u24) => some (u24.1, u24.2.1) | (.inr u25) => some (p0_barrows, 0))))))))

/-! calx/calxlaw03.SampleLevels -/
def calxlaw03_SampleLevels (p0 : Int) (p1 : Int) (p2 : Int) (p3 : Int) (p4 : TRatio) : Option Bool :=
  ((calxlaw03_head).bind fun y2 => ((sample_AtMost p0 p1 p2 p3).bind fun y4 => ((calxref03_AtMost p0 p1 p2 p3).bind fun y6 => ((sample_Upper p0 p2 p3 p4).bind fun y8 => ((calxref03_Upper p0 p2 p3 p4).bind fun y10 => ((sample_Lower p0 p2 p3 p4).bind fun y12 => ((calxref03_Lower p0 p2 p3 p4).bind fun y14 => some ((((((y2 && (y4.1 == y6.1)) && (y4.2 == y6.2)) && (y8.1 == y10.1)) && (y8.2 == y10.2)) && (y12.1 == y14.1)) && (y12.2 == y14.2)))))))))

/-! calx/sample.Pass -/
def sample_Pass (p0_barrows : Int) (p1_bad : Int) (p2_p : TTrial) : Option (TRatio × Int) :=
  ((sample_lot p0_barrows p1_bad 50).bind fun y3 => (if (y3 != 0) = true then some ((TRatio.mk 0 0), y3) else ((sample_within p2_p.fSample 0 p0_barrows).bind fun y6 => ((if (!y6) = true then (some (true)) else ((sample_within p2_p.fAccept 0 p2_p.fSample).bind fun y18 => some ((!y18)))).bind fun b9 => (if b9 = true then some ((TRatio.mk 0 0), 1) else ((sample_atMost p0_barrows p1_bad p2_p.fSample p2_p.fAccept).bind fun y12 => ((sample_choose p0_barrows p2_p.fSample).bind fun y14 => ((sample_ratio y12 y14).bind fun y16 => some (y16, 0)))))))))

/-! calx/calxlaw03.cross -/
def calxlaw03_cross (p0_a : TRatio) (p1_b : TRatio) : Option Bool :=
  (if ((decide (2147483648 < p0_a.fDen)) || (decide (2147483648 < p1_b.fDen))) = true then some true else some (decide (w64 (p0_a.fNum * p1_b.fDen) ≤ w64 (p1_b.fNum * p0_a.fDen))))

/-! calx/calxlaw03.tells -/
def calxlaw03_tells (p0_barrows : Int) (p1_good : Int) (p2_bad : Int) (p3_accept : TRatio) (p4_refuse : TRatio) (p5_p : TTrial) : Option Bool :=
  ((sample_Pass p0_barrows p1_good p5_p).bind fun y4 => ((sample_Pass p0_barrows p2_bad p5_p).bind fun y7 => ((if ((y4.2 == 0) && (y7.2 == 0)) = true then ((calxlaw03_cross p3_accept y4.1).bind fun y19 => some (y19)) else (some (false))).bind fun b12 => ((if b12 = true then ((calxlaw03_cross y7.1 p4_refuse).bind fun y17 => some (y17)) else (some (false))).bind fun b15 => some b15))))

/-! calx/calxlaw03.SampleLeast -/
def calxlaw03_SampleLeast_l2 (p0 : Int) (p1 : Int) (p2 : Int) (p3 : TRatio) (p4 : TRatio) (s16 : (Bool × Int)) (s20 : (Bool × Int)) : Option ((Bool × Int) ⊕ ((Bool × Int) ⊕ (Bool × Int))) :=
  (if decide (s20.2 ≤ s16.2) = true then ((calxlaw03_tells p0 p1 p2 p3 p4 (TTrial.mk s16.2 s20.2)).bind fun y23 => (if y23 = true then some (.inr (.inl (false, s20.2))) else some (.inl (s20.1, w64 (s20.2 + 1))))) else some (.inr (.inr (s20.1, s20.2))))
def calxlaw03_SampleLeast_l1 (p0 : Int) (p1 : Int) (p2 : Int) (p3 : TRatio) (p4 : TRatio) (y6 : (TTrial × Int)) (s16 : (Bool × Int)) : Option ((Bool × Int) ⊕ ((Bool × Int) ⊕ (Bool × Int))) :=
  (if decide (s16.2 ≤ w64 (y6.1.fSample - 1)) = true then ((loopO (calxlaw03_SampleLeast_l2 p0 p1 p2 p3 p4 s16) (s16.1, 0)).bind fun u21 => match u21 with | (.inl u27) => some (.inr (.inl (u27.1, s16.2))) | (.inr u28) => some (.inl (u28.1, w64 (s16.2 + 1)))) else some (.inr (.inr (s16.1, s16.2))))
def calxlaw03_SampleLeast_l4 (p0 : Int) (p1 : Int) (p2 : Int) (p3 : TRatio) (p4 : TRatio) (s33 : (Bool × Int)) (s37 : (Bool × Int)) : Option ((Bool × Int) ⊕ ((Bool × Int) ⊕ (Bool × Int))) :=
  (if decide (s37.2 ≤ s33.2) = true then ((calxlaw03_tells p0 p1 p2 p3 p4 (TTrial.mk s33.2 s37.2)).bind fun y40 => (if y40 = true then some (.inr (.inl (false, s37.2))) else some (.inl (s37.1, w64 (s37.2 + 1))))) else some (.inr (.inr (s37.1, s37.2))))
def calxlaw03_SampleLeast_l3 (p0 : Int) (p1 : Int) (p2 : Int) (p3 : TRatio) (p4 : TRatio) (s33 : (Bool × Int)) : Option ((Bool × Int) ⊕ ((Bool × Int) ⊕ (Bool × Int))) :=
  (if decide (s33.2 ≤ p0) = true then ((loopO (calxlaw03_SampleLeast_l4 p0 p1 p2 p3 p4 s33) (s33.1, 0)).bind fun u38 => match u38 with | (.inl u44) => some (.inr (.inl (u44.1, s33.2))) | (.inr u45) => some (.inl (u45.1, w64 (s33.2 + 1)))) else some (.inr (.inr (s33.1, s33.2))))
def calxlaw03_SampleLeast (p0 : Int) (p1 : Int) (p2 : Int) (p3 : TRatio) (p4 : TRatio) : Option Bool :=
  ((calxlaw03_head).bind fun y3 => (if decide (20 < p0) = true then some y3 else ((sample_Smallest p0 p1 p2 p3 p4).bind fun y6 => (if ((y6.2 != 0) && (y6.2 != 5)) = true then some y3 else (if (y6.2 == 0) = true then ((calxlaw03_tells p0 p1 p2 p3 p4 y6.1).bind fun y12 => (if (!y12) = true then some false else ((loopO (calxlaw03_SampleLeast_l1 p0 p1 p2 p3 p4 y6) (false, 0)).bind fun u17 => match u17 with | (.inl u30) => some u30.1 | (.inr u31) => some y3))) else ((loopO (calxlaw03_SampleLeast_l3 p0 p1 p2 p3 p4) (false, 0)).bind fun u34 => match u34 with | (.inl u47) => some u47.1 | (.inr u48) => some y3))))))

/-! calx/calxlaw03.SampleBounds -/
def calxlaw03_SampleBounds (p0 : Int) (p1 : Int) (p2 : Int) (p3 : Int) (p4 : TRatio) (p5 : TRatio) : Option Bool :=
  ((calxlaw03_head).bind fun y3 => ((sample_Upper p0 p2 p3 p4).bind fun y5 => ((sample_Lower p0 p2 p3 p4).bind fun y7 => ((sample_Upper p0 p2 p3 p5).bind fun y9 => ((sample_Lower p0 p2 p3 p5).bind fun y11 => (if ((y5.2 != y7.2) || (y9.2 != y11.2)) = true then some false else (if ((y5.2 != 0) || (y9.2 != 0)) = true then some y3 else (if ((decide (w64 (p4.fNum * p5.fDen) ≤ w64 (p5.fNum * p4.fDen))) && ((decide (y5.1 < y9.1)) || (decide (y11.1 < y7.1)))) = true then some false else ((sample_AtMost p0 p1 p2 p3).bind fun y19 => ((sample_Choose p0 p2).bind fun y21 => (if ((y19.2 != 0) || (y21.2 != 0)) = true then some (y3 && (y19.2 == 1)) else (if decide (0 < p3) = true then ((sample_AtMost p0 p1 p2 (w64 (p3 - 1))).bind fun y27 => (if (y27.2 != 0) = true then some false else some ((y3 && ((!(decide (w64 (y21.1 * p4.fNum) ≤ w64 (y19.1 * p4.fDen)))) || (decide (p1 ≤ y5.1)))) && ((!(decide (w64 (y21.1 * p4.fNum) ≤ w64 ((w64 (y21.1 - y27.1)) * p4.fDen)))) || (decide (y7.1 ≤ p1)))))) else some ((y3 && ((!(decide (w64 (y21.1 * p4.fNum) ≤ w64 (y19.1 * p4.fDen)))) || (decide (p1 ≤ y5.1)))) && ((!(decide (w64 (y21.1 * p4.fNum) ≤ w64 ((w64 (y21.1 - 0)) * p4.fDen)))) || (decide (y7.1 ≤ p1))))))))))))))))

/-! calx/calxlaw03.more -/
def calxlaw03_more (p0_a : TRatio) (p1_b : TRatio) : Option (Int × Int × Bool) :=
  (if ((((((decide (p0_a.fDen < 1)) || (decide (p1_b.fDen < 1))) || (decide (1073741824 < p0_a.fDen))) || (decide (1073741824 < p1_b.fDen))) || (decide (2147483648 < p0_a.fNum))) || (decide (2147483648 < p1_b.fNum))) = true then some (0, 0, false) else some (w64 ((w64 (p0_a.fNum * p1_b.fDen)) + (w64 (p1_b.fNum * p0_a.fDen))), w64 (p0_a.fDen * p1_b.fDen), true))

/-! calx/calxlaw03.SampleBelieves -/
def calxlaw03_SampleBelieves_l1 (y4 : ((List Int) × Int)) (y10 : (TSpan × Int)) (s26 : (Bool × Int × Int)) : Option ((Bool × Int × Int) ⊕ ((Bool × Int × Int) ⊕ (Bool × Int × Int))) :=
  (if decide (s26.2.2 < ((y4.1.length : Nat) : Int)) = true then guardO ((0 : Int) ≤ s26.2.2 ∧ s26.2.2 < ((y4.1.length : Nat) : Int)) (((if decide ((rdL y4.1 s26.2.2) < 0) = true then (some (true)) else (guardO ((0 : Int) ≤ s26.2.2 ∧ s26.2.2 < ((y4.1.length : Nat) : Int)) (some (((decide (0 < (rdL y4.1 s26.2.2))) && ((decide (s26.2.2 < y10.1.fLo)) || (decide (y10.1.fHi < s26.2.2)))))))).bind fun b31 => (if b31 = true then some (.inr (.inl (false, s26.2.1, s26.2.2))) else guardO ((0 : Int) ≤ s26.2.2 ∧ s26.2.2 < ((y4.1.length : Nat) : Int)) (some (.inl (s26.1, w64 (s26.2.1 + (rdL y4.1 s26.2.2)), w64 (s26.2.2 + 1))))))) else some (.inr (.inr (s26.1, s26.2.1, s26.2.2))))
def calxlaw03_SampleBelieves (p0 : TBatch) (p1 : Int) (p2 : Int) (p3 : Int) : Option Bool :=
  ((calxlaw03_head).bind fun y2 => ((sample_Weights p0 p1).bind fun y4 => ((sample_Ends p0 p1).bind fun y10 => (if (y4.2 != y10.2) = true then some false else (if (y4.2 != 0) = true then some y2 else ((if ((((((y4.1.length : Nat) : Int) != (w64 (p0.fBarrows + 1))) || (decide (y10.1.fLo < 0))) || (decide (y10.1.fHi < y10.1.fLo))) || (decide (((y4.1.length : Nat) : Int) ≤ y10.1.fHi))) = true then (some (true)) else (guardO ((0 : Int) ≤ y10.1.fLo ∧ y10.1.fLo < ((y4.1.length : Nat) : Int)) (some (decide ((rdL y4.1 y10.1.fLo) < 1))))).bind fun b19 => ((if b19 = true then (some (true)) else (guardO ((0 : Int) ≤ y10.1.fHi ∧ y10.1.fHi < ((y4.1.length : Nat) : Int)) (some (decide ((rdL y4.1 y10.1.fHi) < 1))))).bind fun b22 => (if b22 = true then some false else ((loopO (calxlaw03_SampleBelieves_l1 y4 y10) (false, 0, 0)).bind fun u27 => match u27 with | (.inl u39) => some u39.1 | (.inr u40) => ((sample_Believed p0 p1 (TSpan.mk 0 p0.fBarrows)).bind fun y41 => guardO (((y4.1.length : Nat) : Int) ≠ 0) (guardO (w64 (((y4.1.length : Nat) : Int) - (Int.tmod (w64 p2) ((y4.1.length : Nat) : Int))) ≠ 0) (((sample_Believed p0 p1 (TSpan.mk (Int.tmod (w64 p2) ((y4.1.length : Nat) : Int)) (w64 ((Int.tmod (w64 p2) ((y4.1.length : Nat) : Int)) + (Int.tmod (w64 p3) (w64 (((y4.1.length : Nat) : Int) - (Int.tmod (w64 p2) ((y4.1.length : Nat) : Int))))))))).bind fun y46 => ((sample_Believed p0 p1 (TSpan.mk (w64 ((w64 ((Int.tmod (w64 p2) ((y4.1.length : Nat) : Int)) + (Int.tmod (w64 p3) (w64 (((y4.1.length : Nat) : Int) - (Int.tmod (w64 p2) ((y4.1.length : Nat) : Int))))))) + 1)) (w64 ((w64 ((Int.tmod (w64 p2) ((y4.1.length : Nat) : Int)) + (Int.tmod (w64 p3) (w64 (((y4.1.length : Nat) : Int) - (Int.tmod (w64 p2) ((y4.1.length : Nat) : Int))))))) + 1)))).bind fun y49 => ((sample_Believed p0 p1 (TSpan.mk (Int.tmod (w64 p2) ((y4.1.length : Nat) : Int)) (w64 ((w64 ((Int.tmod (w64 p2) ((y4.1.length : Nat) : Int)) + (Int.tmod (w64 p3) (w64 (((y4.1.length : Nat) : Int) - (Int.tmod (w64 p2) ((y4.1.length : Nat) : Int))))))) + 1)))).bind fun y52 => (if (((((y41.2 != 0) || (y46.2 != 0)) || (y49.2 != 0)) || (y52.2 != 0)) || (!((y41.1.fNum == 1) && (y41.1.fDen == 1)))) = true then some false else ((calxlaw03_more y46.1 y49.1).bind fun y60 => (if (((((!y60.2.2) || (decide (1048576 < y52.1.fNum))) || (decide (1048576 < y52.1.fDen))) || (decide (1099511627776 < y60.2.1))) || (decide (1099511627776 < y60.1))) = true then some (y2 && (decide (1 ≤ u40.2.1))) else some ((y2 && (decide (1 ≤ u40.2.1))) && ((w64 (y60.1 * y52.1.fDen)) == (w64 (y52.1.fNum * y60.2.1))))))))))))))))))))))

/-! calx/sample.More -/
def sample_More_l1 (p1_seen : TKinds) (s17 : (Int × Int × Int × Int)) : Option ((Int × Int × Int × Int) ⊕ (Int × Int × Int × Int)) :=
  (if decide (s17.1 < 3) = true then guardO ((0 : Int) ≤ s17.1 ∧ s17.1 < 3) (guardO ((0 : Int) ≤ s17.1 ∧ s17.1 < 3) (guardO ((0 : Int) ≤ s17.1 ∧ s17.1 < 3) (some (.inl (w64 (s17.1 + 1), put3 s17.1 0 (w64 ((sel3 s17.2.1 s17.2.2.1 s17.2.2.2 s17.1) + (sel3 p1_seen.x0 p1_seen.x1 p1_seen.x2 s17.1))) s17.2.1, put3 s17.1 1 (w64 ((sel3 s17.2.1 s17.2.2.1 s17.2.2.2 s17.1) + (sel3 p1_seen.x0 p1_seen.x1 p1_seen.x2 s17.1))) s17.2.2.1, put3 s17.1 2 (w64 ((sel3 s17.2.1 s17.2.2.1 s17.2.2.2 s17.1) + (sel3 p1_seen.x0 p1_seen.x1 p1_seen.x2 s17.1))) s17.2.2.2))))) else some (.inr (s17.1, s17.2.1, s17.2.2.1, s17.2.2.2)))
def sample_More (p0_b : TBatch) (p1_seen : TKinds) : Option (TBatch × Int) :=
  ((sample_Check p0_b).bind fun y4 => (if (y4 != 0) = true then some ((TBatch.mk 0 (TKinds.mk 0 0 0) (TArr3_TSpan.mk (TSpan.mk 0 0) (TSpan.mk 0 0) (TSpan.mk 0 0))), y4) else ((sample_isSample p1_seen).bind fun y7 => (if (!y7) = true then some ((TBatch.mk 0 (TKinds.mk 0 0 0) (TArr3_TSpan.mk (TSpan.mk 0 0) (TSpan.mk 0 0) (TSpan.mk 0 0))), 1) else ((sample_size p1_seen).bind fun y10 => ((sample_size p0_b.fSeen).bind fun y12 => (if decide (w64 (p0_b.fBarrows - y12) < y10) = true then some ((TBatch.mk 0 (TKinds.mk 0 0 0) (TArr3_TSpan.mk (TSpan.mk 0 0) (TSpan.mk 0 0) (TSpan.mk 0 0))), 3) else ((loopO (sample_More_l1 p1_seen) (0, p0_b.fSeen.x0, p0_b.fSeen.x1, p0_b.fSeen.x2)).bind fun u18 => ((sample_Check (TBatch.mk p0_b.fBarrows (TKinds.mk u18.2.1 u18.2.2.1 u18.2.2.2) p0_b.fKnown)).bind fun y24 => (if (y24 != 0) = true then some ((TBatch.mk 0 (TKinds.mk 0 0 0) (TArr3_TSpan.mk (TSpan.mk 0 0) (TSpan.mk 0 0) (TSpan.mk 0 0))), y24) else some ((TBatch.mk p0_b.fBarrows (TKinds.mk u18.2.1 u18.2.2.1 u18.2.2.2) p0_b.fKnown), 0)))))))))))

/-! calx/calxref03.More -/
def calxref03_More_l1 (p1_s : TKinds) (s17 : (Int × Int × Int × Int)) : Option ((Int × Int × Int × Int) ⊕ (Int × Int × Int × Int)) :=
  (if decide (s17.1 < 3) = true then guardO ((0 : Int) ≤ s17.1 ∧ s17.1 < 3) (guardO ((0 : Int) ≤ s17.1 ∧ s17.1 < 3) (guardO ((0 : Int) ≤ s17.1 ∧ s17.1 < 3) (some (.inl (w64 (s17.1 + 1), put3 s17.1 0 (w64 ((sel3 s17.2.1 s17.2.2.1 s17.2.2.2 s17.1) + (sel3 p1_s.x0 p1_s.x1 p1_s.x2 s17.1))) s17.2.1, put3 s17.1 1 (w64 ((sel3 s17.2.1 s17.2.2.1 s17.2.2.2 s17.1) + (sel3 p1_s.x0 p1_s.x1 p1_s.x2 s17.1))) s17.2.2.1, put3 s17.1 2 (w64 ((sel3 s17.2.1 s17.2.2.1 s17.2.2.2 s17.1) + (sel3 p1_s.x0 p1_s.x1 p1_s.x2 s17.1))) s17.2.2.2))))) else some (.inr (s17.1, s17.2.1, s17.2.2.1, s17.2.2.2)))
def calxref03_More_l2 (p1_s : TKinds) (s30 : (Int × Int × Int × Int)) : Option ((Int × Int × Int × Int) ⊕ (Int × Int × Int × Int)) :=
  (if decide (s30.1 < 3) = true then guardO ((0 : Int) ≤ s30.1 ∧ s30.1 < 3) (guardO ((0 : Int) ≤ s30.1 ∧ s30.1 < 3) (guardO ((0 : Int) ≤ s30.1 ∧ s30.1 < 3) (some (.inl (w64 (s30.1 + 1), put3 s30.1 0 (w64 ((sel3 s30.2.1 s30.2.2.1 s30.2.2.2 s30.1) + (sel3 p1_s.x0 p1_s.x1 p1_s.x2 s30.1))) s30.2.1, put3 s30.1 1 (w64 ((sel3 s30.2.1 s30.2.2.1 s30.2.2.2 s30.1) + (sel3 p1_s.x0 p1_s.x1 p1_s.x2 s30.1))) s30.2.2.1, put3 s30.1 2 (w64 ((sel3 s30.2.1 s30.2.2.1 s30.2.2.2 s30.1) + (sel3 p1_s.x0 p1_s.x1 p1_s.x2 s30.1))) s30.2.2.2))))) else some (.inr (s30.1, s30.2.1, s30.2.2.1, s30.2.2.2)))
def calxref03_More_l3 (p1_s : TKinds) (s51 : (Int × Int × Int × Int)) : Option ((Int × Int × Int × Int) ⊕ (Int × Int × Int × Int)) :=
  (if decide (s51.1 < 3) = true then guardO ((0 : Int) ≤ s51.1 ∧ s51.1 < 3) (guardO ((0 : Int) ≤ s51.1 ∧ s51.1 < 3) (guardO ((0 : Int) ≤ s51.1 ∧ s51.1 < 3) (some (.inl (w64 (s51.1 + 1), put3 s51.1 0 (w64 ((sel3 s51.2.1 s51.2.2.1 s51.2.2.2 s51.1) + (sel3 p1_s.x0 p1_s.x1 p1_s.x2 s51.1))) s51.2.1, put3 s51.1 1 (w64 ((sel3 s51.2.1 s51.2.2.1 s51.2.2.2 s51.1) + (sel3 p1_s.x0 p1_s.x1 p1_s.x2 s51.1))) s51.2.2.1, put3 s51.1 2 (w64 ((sel3 s51.2.1 s51.2.2.1 s51.2.2.2 s51.1) + (sel3 p1_s.x0 p1_s.x1 p1_s.x2 s51.1))) s51.2.2.2))))) else some (.inr (s51.1, s51.2.1, s51.2.2.1, s51.2.2.2)))
def calxref03_More_l4 (p1_s : TKinds) (s64 : (Int × Int × Int × Int)) : Option ((Int × Int × Int × Int) ⊕ (Int × Int × Int × Int)) :=
  (if decide (s64.1 < 3) = true then guardO ((0 : Int) ≤ s64.1 ∧ s64.1 < 3) (guardO ((0 : Int) ≤ s64.1 ∧ s64.1 < 3) (guardO ((0 : Int) ≤ s64.1 ∧ s64.1 < 3) (some (.inl (w64 (s64.1 + 1), put3 s64.1 0 (w64 ((sel3 s64.2.1 s64.2.2.1 s64.2.2.2 s64.1) + (sel3 p1_s.x0 p1_s.x1 p1_s.x2 s64.1))) s64.2.1, put3 s64.1 1 (w64 ((sel3 s64.2.1 s64.2.2.1 s64.2.2.2 s64.1) + (sel3 p1_s.x0 p1_s.x1 p1_s.x2 s64.1))) s64.2.2.1, put3 s64.1 2 (w64 ((sel3 s64.2.1 s64.2.2.1 s64.2.2.2 s64.1) + (sel3 p1_s.x0 p1_s.x1 p1_s.x2 s64.1))) s64.2.2.2))))) else some (.inr (s64.1, s64.2.1, s64.2.2.1, s64.2.2.2)))
def calxref03_More (p0_b : TBatch) (p1_s : TKinds) : Option TMade :=
  ((calxref03_Check p0_b).bind fun y4 => ((if (y4 == 0) = true then ((calxref03_sorted p1_s).bind fun y78 => some ((!y78))) else (some (false))).bind fun b7 => (if b7 = true then ((if (1 == 0) = true then ((calxref03_all p1_s).bind fun y40 => ((calxref03_all p0_b.fSeen).bind fun y42 => some (decide (w64 (p0_b.fBarrows - y42) < y40)))) else (some (false))).bind fun b11 => (if b11 = true then (if (3 != 0) = true then some (TMade.mk (TBatch.mk 0 (TKinds.mk 0 0 0) (TArr3_TSpan.mk (TSpan.mk 0 0) (TSpan.mk 0 0) (TSpan.mk 0 0))) 3) else ((loopO (calxref03_More_l1 p1_s) (0, p0_b.fSeen.x0, p0_b.fSeen.x1, p0_b.fSeen.x2)).bind fun u18 => ((calxref03_Check (TBatch.mk p0_b.fBarrows (TKinds.mk u18.2.1 u18.2.2.1 u18.2.2.2) p0_b.fKnown)).bind fun y24 => (if (y24 != 0) = true then some (TMade.mk (TBatch.mk 0 (TKinds.mk 0 0 0) (TArr3_TSpan.mk (TSpan.mk 0 0) (TSpan.mk 0 0) (TSpan.mk 0 0))) y24) else some (TMade.mk (TBatch.mk p0_b.fBarrows (TKinds.mk u18.2.1 u18.2.2.1 u18.2.2.2) p0_b.fKnown) 0))))) else (if (1 != 0) = true then some (TMade.mk (TBatch.mk 0 (TKinds.mk 0 0 0) (TArr3_TSpan.mk (TSpan.mk 0 0) (TSpan.mk 0 0) (TSpan.mk 0 0))) 1) else ((loopO (calxref03_More_l2 p1_s) (0, p0_b.fSeen.x0, p0_b.fSeen.x1, p0_b.fSeen.x2)).bind fun u31 => ((calxref03_Check (TBatch.mk p0_b.fBarrows (TKinds.mk u31.2.1 u31.2.2.1 u31.2.2.2) p0_b.fKnown)).bind fun y37 => (if (y37 != 0) = true then some (TMade.mk (TBatch.mk 0 (TKinds.mk 0 0 0) (TArr3_TSpan.mk (TSpan.mk 0 0) (TSpan.mk 0 0) (TSpan.mk 0 0))) y37) else some (TMade.mk (TBatch.mk p0_b.fBarrows (TKinds.mk u31.2.1 u31.2.2.1 u31.2.2.2) p0_b.fKnown) 0))))))) else ((if (y4 == 0) = true then ((calxref03_all p1_s).bind fun y74 => ((calxref03_all p0_b.fSeen).bind fun y76 => some (decide (w64 (p0_b.fBarrows - y76) < y74)))) else (some (false))).bind fun b45 => (if b45 = true then (if (3 != 0) = true then some (TMade.mk (TBatch.mk 0 (TKinds.mk 0 0 0) (TArr3_TSpan.mk (TSpan.mk 0 0) (TSpan.mk 0 0) (TSpan.mk 0 0))) 3) else ((loopO (calxref03_More_l3 p1_s) (0, p0_b.fSeen.x0, p0_b.fSeen.x1, p0_b.fSeen.x2)).bind fun u52 => ((calxref03_Check (TBatch.mk p0_b.fBarrows (TKinds.mk u52.2.1 u52.2.2.1 u52.2.2.2) p0_b.fKnown)).bind fun y58 => (if (y58 != 0) = true then some (TMade.mk (TBatch.mk 0 (TKinds.mk 0 0 0) (TArr3_TSpan.mk (TSpan.mk 0 0) (TSpan.mk 0 0) (TSpan.mk 0 0))) y58) else some (TMade.mk (TBatch.mk p0_b.fBarrows (TKinds.mk u52.2.1 u52.2.2.1 u52.2.2.2) p0_b.fKnown) 0))))) else (if (y4 != 0) = true then some (TMade.mk (TBatch.mk 0 (TKinds.mk 0 0 0) (TArr3_TSpan.mk (TSpan.mk 0 0) (TSpan.mk 0 0) (TSpan.mk 0 0))) y4) else ((loopO (calxref03_More_l4 p1_s) (0, p0_b.fSeen.x0, p0_b.fSeen.x1, p0_b.fSeen.x2)).bind fun u65 => ((calxref03_Check (TBatch.mk p0_b.fBarrows (TKinds.mk u65.2.1 u65.2.2.1 u65.2.2.2) p0_b.fKnown)).bind fun y71 => (if (y71 != 0) = true then some (TMade.mk (TBatch.mk 0 (TKinds.mk 0 0 0) (TArr3_TSpan.mk (TSpan.mk 0 0) (TSpan.mk 0 0) (TSpan.mk 0 0))) y71) else some (TMade.mk (TBatch.mk p0_b.fBarrows (TKinds.mk u65.2.1 u65.2.2.1 u65.2.2.2) p0_b.fKnown) 0))))))))))

/-! calx/calxlaw03.SampleMore -/
def calxlaw03_SampleMore (p0_b : TBatch) (p1_seen : TKinds) : Option Bool :=
  ((calxlaw03_head).bind fun y3 => ((sample_More p0_b p1_seen).bind fun y5 => ((calxref03_More p0_b p1_seen).bind fun y8 => some ((y3 && ((y5.1.fBarrows == y8.fB.fBarrows) && (((y5.1.fSeen.x0 == y8.fB.fSeen.x0) && (y5.1.fSeen.x1 == y8.fB.fSeen.x1) && (y5.1.fSeen.x2 == y8.fB.fSeen.x2)) && (((y5.1.fKnown.x0.fLo == y8.fB.fKnown.x0.fLo) && (y5.1.fKnown.x0.fHi == y8.fB.fKnown.x0.fHi)) && ((y5.1.fKnown.x1.fLo == y8.fB.fKnown.x1.fLo) && (y5.1.fKnown.x1.fHi == y8.fB.fKnown.x1.fHi)) && ((y5.1.fKnown.x2.fLo == y8.fB.fKnown.x2.fLo) && (y5.1.fKnown.x2.fHi == y8.fB.fKnown.x2.fHi)))))) && (y5.2 == y8.fE)))))

/-! calx/calxlaw03.SampleOrder -/
def calxlaw03_SampleOrder (p0 : TBatch) (p1 : TKinds) (p2 : TKinds) (p3 : Int) : Option Bool :=
  ((calxlaw03_head).bind fun y4 => ((sample_More p0 p1).bind fun y6 => ((sample_More p0 p2).bind fun y9 => (if ((y6.2 != 0) || (y9.2 != 0)) = true then some y4 else ((sample_More y6.1 p2).bind fun y14 => ((sample_More y9.1 p1).bind fun y16 => ((sample_More p0 (TKinds.mk (w64 (p1.x0 + p2.x0)) (w64 (p1.x1 + p2.x1)) (w64 (p1.x2 + p2.x2)))).bind fun y18 => (if ((((y14.2 != y16.2) || (y14.2 != y18.2)) || (!((y14.1.fBarrows == y16.1.fBarrows) && (((y14.1.fSeen.x0 == y16.1.fSeen.x0) && (y14.1.fSeen.x1 == y16.1.fSeen.x1) && (y14.1.fSeen.x2 == y16.1.fSeen.x2)) && (((y14.1.fKnown.x0.fLo == y16.1.fKnown.x0.fLo) && (y14.1.fKnown.x0.fHi == y16.1.fKnown.x0.fHi)) && ((y14.1.fKnown.x1.fLo == y16.1.fKnown.x1.fLo) && (y14.1.fKnown.x1.fHi == y16.1.fKnown.x1.fHi)) && ((y14.1.fKnown.x2.fLo == y16.1.fKnown.x2.fLo) && (y14.1.fKnown.x2.fHi == y16.1.fKnown.x2.fHi))))))) || (!((y14.1.fBarrows == y18.1.fBarrows) && (((y14.1.fSeen.x0 == y18.1.fSeen.x0) && (y14.1.fSeen.x1 == y18.1.fSeen.x1) && (y14.1.fSeen.x2 == y18.1.fSeen.x2)) && (((y14.1.fKnown.x0.fLo == y18.1.fKnown.x0.fLo) && (y14.1.fKnown.x0.fHi == y18.1.fKnown.x0.fHi)) && ((y14.1.fKnown.x1.fLo == y18.1.fKnown.x1.fLo) && (y14.1.fKnown.x1.fHi == y18.1.fKnown.x1.fHi)) && ((y14.1.fKnown.x2.fLo == y18.1.fKnown.x2.fLo) && (y14.1.fKnown.x2.fHi == y18.1.fKnown.x2.fHi))))))) = true then some false else (if (y14.2 != 0) = true then some y4 else ((sample_Weights y14.1 p3).bind fun y26 => ((sample_Weights y18.1 p3).bind fun y32 => ((sample_Wholes y14.1).bind fun y38 => ((calxref03_SameInts y26.1 y32.1).bind fun y44 => (if (((!y44) || (y26.2 != y32.2)) || (y38.2 != 0)) = true then some false else ((if y4 = true then ((if decide (w64 ((w64 (y14.1.fSeen.x0 + y14.1.fSeen.x1)) + y14.1.fSeen.x2) < y14.1.fBarrows) = true then (some (true)) else ((if (((y38.1.length : Nat) : Int) == 1) = true then (guardO ((0 : Int) ≤ 0 ∧ 0 < ((y38.1.length : Nat) : Int)) (some ((((rdL y38.1 0).x0 == y14.1.fSeen.x0) && ((rdL y38.1 0).x1 == y14.1.fSeen.x1) && ((rdL y38.1 0).x2 == y14.1.fSeen.x2))))) else (some (false))).bind fun b56 => some (b56))).bind fun b53 => some (b53)) else (some (false))).bind fun b50 => some b50)))))))))))))))

/-! calx/calxref03.Pass -/
def calxref03_Pass (p0_barrows : Int) (p1_bad : Int) (p2_p : TTrial) : Option (TRatio × Int) :=
  ((calxref03_lot p0_barrows p1_bad).bind fun y3 => ((if (!y3) = true then (some (true)) else ((calxref03_in p2_p.fSample 0 p0_barrows).bind fun y20 => some ((!y20)))).bind fun b6 => ((if b6 = true then (some (true)) else ((calxref03_in p2_p.fAccept 0 p2_p.fSample).bind fun y18 => some ((!y18)))).bind fun b9 => (if b9 = true then some ((TRatio.mk 0 0), 1) else ((calxref03_atMost p0_barrows p1_bad p2_p.fSample p2_p.fAccept).bind fun y12 => ((calxref03_choose p0_barrows p2_p.fSample).bind fun y14 => ((calxref03_ratio y12 y14).bind fun y16 => some (y16, 0))))))))

/-! calx/sample.PassTwice -/
def sample_PassTwice_l1 (p0 : Int) (p1 : Int) (p2 : TDouble) (y18 : Int) (s21 : (Int × Int)) : Option ((Int × Int) ⊕ (Int × Int)) :=
  (if decide (s21.2 < w64 ((min p1 p2.fFirst) + 1)) = true then ((sample_choose p1 s21.2).bind fun y24 => ((sample_choose (w64 (p0 - p1)) (w64 (p2.fFirst - s21.2))).bind fun y26 => (if decide (s21.2 ≤ p2.fAccept) = true then some (.inl (w64 (s21.1 + (w64 ((w64 (y24 * y26)) * y18))), w64 (s21.2 + 1))) else (if ((decide (s21.2 < p2.fRefuse)) && (decide (0 < w64 (y24 * y26)))) = true then ((sample_atMost (w64 (p0 - p2.fFirst)) (w64 (p1 - s21.2)) p2.fSecond (w64 (p2.fTogether - s21.2))).bind fun y31 => some (.inl (w64 (s21.1 + (w64 ((w64 (y24 * y26)) * y31))), w64 (s21.2 + 1)))) else some (.inl (s21.1, w64 (s21.2 + 1))))))) else some (.inr (s21.1, s21.2)))
def sample_PassTwice (p0 : Int) (p1 : Int) (p2 : TDouble) : Option (TRatio × Int) :=
  ((sample_lot p0 p1 36).bind fun y3 => (if (y3 != 0) = true then some ((TRatio.mk 0 0), y3) else ((sample_within p2.fFirst 0 p0).bind fun y6 => ((if (!y6) = true then (some (true)) else ((sample_within p2.fSecond 0 (w64 (p0 - p2.fFirst))).bind fun y40 => some ((!y40)))).bind fun b9 => ((if (((b9 || (decide (p2.fAccept < 0))) || (decide (p2.fRefuse ≤ p2.fAccept))) || (decide (w64 (p2.fFirst + 1) < p2.fRefuse))) = true then (some (true)) else ((sample_within p2.fTogether p2.fAccept (w64 (p2.fFirst + p2.fSecond))).bind fun y38 => some ((!y38)))).bind fun b15 => (if b15 = true then some ((TRatio.mk 0 0), 1) else ((sample_choose (w64 (p0 - p2.fFirst)) p2.fSecond).bind fun y18 => ((loopO (sample_PassTwice_l1 p0 p1 p2 y18) (0, 0)).bind fun u22 => ((sample_choose p0 p2.fFirst).bind fun y34 => ((sample_ratio u22.1 (w64 (y34 * y18))).bind fun y36 => some (y36, 0)))))))))))

/-! calx/calxref03.PassTwice -/
def calxref03_PassTwice_l1 (p0 : Int) (p1 : Int) (p2 : TDouble) (y21 : Int) (s24 : (Int × Int)) : Option ((Int × Int) ⊕ (Int × Int)) :=
  (if decide (s24.2 ≤ p2.fFirst) = true then ((calxref03_choose p1 s24.2).bind fun y27 => ((calxref03_choose (w64 (p0 - p1)) (w64 (p2.fFirst - s24.2))).bind fun y29 => (if (((w64 (y27 * y29)) == 0) || (decide (p2.fRefuse ≤ s24.2))) = true then some (.inl (s24.1, w64 (s24.2 + 1))) else (if decide (s24.2 ≤ p2.fAccept) = true then some (.inl (w64 (s24.1 + (w64 ((w64 (y27 * y29)) * y21))), w64 (s24.2 + 1))) else (if decide (s24.2 ≤ p2.fTogether) = true then ((calxref03_atMost (w64 (p0 - p2.fFirst)) (w64 (p1 - s24.2)) p2.fSecond (w64 (p2.fTogether - s24.2))).bind fun y35 => some (.inl (w64 (s24.1 + (w64 ((w64 (y27 * y29)) * y35))), w64 (s24.2 + 1)))) else some (.inl (s24.1, w64 (s24.2 + 1)))))))) else some (.inr (s24.1, s24.2)))
def calxref03_PassTwice (p0 : Int) (p1 : Int) (p2 : TDouble) : Option (TRatio × Int) :=
  ((calxref03_in p0 1 36).bind fun y3 => ((if (!y3) = true then (some (true)) else ((calxref03_in p1 0 p0).bind fun y46 => some ((!y46)))).bind fun b6 => (if b6 = true then some ((TRatio.mk 0 0), 1) else ((calxref03_in p2.fFirst 0 p0).bind fun y9 => ((if (!y9) = true then (some (true)) else ((calxref03_in p2.fSecond 0 (w64 (p0 - p2.fFirst))).bind fun y44 => some ((!y44)))).bind fun b12 => ((if (((b12 || (decide (p2.fAccept < 0))) || (decide (p2.fRefuse ≤ p2.fAccept))) || (decide (w64 (p2.fFirst + 1) < p2.fRefuse))) = true then (some (true)) else ((calxref03_in p2.fTogether p2.fAccept (w64 (p2.fFirst + p2.fSecond))).bind fun y42 => some ((!y42)))).bind fun b18 => (if b18 = true then some ((TRatio.mk 0 0), 1) else ((calxref03_choose (w64 (p0 - p2.fFirst)) p2.fSecond).bind fun y21 => ((loopO (calxref03_PassTwice_l1 p0 p1 p2 y21) (0, 0)).bind fun u25 => ((calxref03_choose p0 p2.fFirst).bind fun y38 => ((calxref03_ratio u25.1 (w64 (y38 * y21))).bind fun y40 => some (y40, 0))))))))))))

/-! calx/calxlaw03.SamplePlans -/
def calxlaw03_SamplePlans (p0 : Int) (p1 : Int) (p2 : TTrial) (p3 : TDouble) : Option Bool :=
  ((calxlaw03_head).bind fun y3 => ((sample_Pass p0 p1 p2).bind fun y5 => ((calxref03_Pass p0 p1 p2).bind fun y8 => ((sample_PassTwice p0 p1 p3).bind fun y11 => ((calxref03_PassTwice p0 p1 p3).bind fun y14 => some ((((y3 && ((y5.1.fNum == y8.1.fNum) && (y5.1.fDen == y8.1.fDen))) && (y5.2 == y8.2)) && ((y11.1.fNum == y14.1.fNum) && (y11.1.fDen == y14.1.fDen))) && (y11.2 == y14.2)))))))

/-! calx/calxlaw03.SampleTrials -/
def calxlaw03_SampleTrials (p0 : Int) (p1 : Int) (p2 : TTrial) : Option Bool :=
  ((calxlaw03_head).bind fun y2 => ((sample_Pass p0 p1 p2).bind fun y4 => (if (y4.2 != 0) = true then some y2 else ((sample_AtMost p0 p1 p2.fSample p2.fAccept).bind fun y8 => ((sample_Choose p0 p2.fSample).bind fun y10 => ((if ((((y8.2 != 0) || (y10.2 != 0)) || (decide (y10.1 < 1))) || (decide (y4.1.fDen < 1))) = true then (some (true)) else (guardO (y4.1.fDen ≠ 0) (some (((Int.tmod y10.1 y4.1.fDen) != 0))))).bind fun b16 => ((if b16 = true then (some (true)) else (guardO (y4.1.fDen ≠ 0) (some (((w64 ((w64 (Int.tdiv y10.1 y4.1.fDen)) * y4.1.fNum)) != y8.1))))).bind fun b19 => (if b19 = true then some false else (if decide (p1 < p0) = true then ((sample_AtMost p0 (w64 (p1 + 1)) p2.fSample p2.fAccept).bind fun y23 => (if ((y23.2 != 0) || (decide (y8.1 < y23.1))) = true then some false else ((sample_AtMost p0 p1 p2.fSample (w64 (p2.fAccept + 1))).bind fun y27 => (if ((y27.2 != 0) || (decide (y27.1 < y8.1))) = true then some false else (if decide (36 < p0) = true then some y2 else ((sample_PassTwice p0 p1 (TDouble.mk p2.fSample p2.fAccept (w64 (p2.fSample + 1)) 0 p2.fAccept)).bind fun y32 => some ((y2 && (y32.2 == 0)) && ((y32.1.fNum == y4.1.fNum) && (y32.1.fDen == y4.1.fDen))))))))) else ((sample_AtMost p0 p1 p2.fSample (w64 (p2.fAccept + 1))).bind fun y37 => (if ((y37.2 != 0) || (decide (y37.1 < y8.1))) = true then some false else (if decide (36 < p0) = true then some y2 else ((sample_PassTwice p0 p1 (TDouble.mk p2.fSample p2.fAccept (w64 (p2.fSample + 1)) 0 p2.fAccept)).bind fun y42 => some ((y2 && (y42.2 == 0)) && ((y42.1.fNum == y4.1.fNum) && (y42.1.fDen == y4.1.fDen))))))))))))))))

end
end Go.Proofs.Ytepfgdfahinpkaa
