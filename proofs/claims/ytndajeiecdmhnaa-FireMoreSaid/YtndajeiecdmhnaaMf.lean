/- Plain laws of fire: Rests; a fire with a look more; what a look must show. No program in sight. -/
import Derived.Test.YtndajeiecdmhnaaMa
set_option linter.unusedVariables false
namespace Go.Proofs.Ytndajeiecdmhnaa

/-! ### Rests -/
def resQ (f : TFire) (at_ : TSpot) (id : Int) : Bool := !((loS (woS f [id]) at_ == loS f at_) && (hiS (woS f [id]) at_ == hiS f at_))
def RestsS (f : TFire) (at_ : TSpot) : List Int × Int := if askS f [at_] = 0 then (namS f (resQ f at_), 0) else ([], askS f [at_])
theorem Rests_eq {f : TFire} {at_ : TSpot} (hf : f.fLooks.length < 1000000) (h : CheckS f = 0 → Ok12 f) : fire_Rests f at_ = some (RestsS f at_) := by
  unfold fire_Rests RestsS
  have h1 := ask_eq (l := [at_]) hf (by simp) h
  rw [spots_eq hf (by simp), Option.bind_some] at h1 ⊢
  rw [h1, Option.bind_some]
  by_cases h0 : askS f [at_] = 0
  · have h2 := askS_0.1 h0
    have h12 := h h2.1
    have ha := h2.2.1 at_ (by simp)
    rw [if_pos h0, h0, if_neg (by decide), ends_eq h12 ha, Option.bind_some]
    rw [named_eq (q := resQ f at_) h12 (fun x hx => by
      have hid := id_rng (h12.1.2.2.1 x hx)
      unfold fire_Rests_1
      rw [without_eq hf (by simp) (fun i hi => by rw [List.mem_singleton.1 hi]; exact hid) h12.1.2.2.1, Option.bind_some, ends_eq (woS_ok12 h12 _) ha]
      rfl)]
    rfl
  · rw [if_neg h0, if_pos (by simpa using h0)]
theorem RestsS_len {f : TFire} {at_ : TSpot} : (RestsS f at_).1.length ≤ f.fLooks.length := by
  unfold RestsS
  split
  · unfold namS
    refine Nat.le_trans (List.length_filter_le _ _) ?_
    rw [List.length_map, srt_len]
    exact Nat.le_refl _
  · simp

/-! ### A look more -/
def wiS (f : TFire) (x : TLook) : TFire := ⟨f.fRise, f.fFall, f.fUp, f.fDown, f.fLooks ++ [x]⟩
theorem with_eq {f : TFire} {x : TLook} (hf : f.fLooks.length < 1000000) : fire_with f x = some (wiS f x) := by
  unfold fire_with slices_Clone_calx_api_Look_calx_api_Look
  rw [guardO_pos (by omega), Option.bind_some, guardO_pos (by simp; omega)]
  rfl
theorem wi_len (f : TFire) (x : TLook) : (wiS f x).fLooks.length = f.fLooks.length + 1 := by
  show (f.fLooks ++ [x]).length = _
  simp
def WouldS (f : TFire) (x : TLook) (at_ : TSpot) : TBounds × Int :=
  if spotsS f [at_] = 0 then if CheckS (wiS f x) = 0 then if agreeS (wiS f x) = true then (endsS (wiS f x) at_, 0) else (⟨⟨0, 0⟩, 0, 0⟩, 9) else (⟨⟨0, 0⟩, 0, 0⟩, CheckS (wiS f x)) else (⟨⟨0, 0⟩, 0, 0⟩, spotsS f [at_])
theorem Would_eq {f : TFire} {x : TLook} {at_ : TSpot} (hf : f.fLooks.length < 1000000) (h : CheckS f = 0 → f.fLooks.length ≤ 12) : fire_Would f x at_ = some (WouldS f x at_) := by
  unfold fire_Would WouldS
  rw [spots_eq hf (by simp), Option.bind_some]
  by_cases h0 : spotsS f [at_] = 0
  · have h2 := spotsS_0.1 h0
    have hl := h h2.1
    have hg : (wiS f x).fLooks.length ≤ 13 := by rw [wi_len]; omega
    have hok : CheckS (wiS f x) = 0 → Ok12 (wiS f x) := fun hc => ⟨CheckS_ok.1 hc, hg⟩
    rw [if_neg (by simp [h0]), if_pos h0, with_eq hf, Option.bind_some, Check_eq _ (by omega), Option.bind_some, agreed_eq hok, Option.bind_some]
    by_cases hc : CheckS (wiS f x) = 0
    · rw [if_pos hc, if_pos hc]
      cases ha : agreeS (wiS f x)
      · rfl
      · rw [if_pos rfl, if_neg (by decide), ends_eq (hok hc) (h2.2 at_ (by simp))]
        rfl
    · rw [if_neg hc, if_neg hc, if_pos (by simpa using hc)]
  · rw [if_neg h0, if_pos (by simpa using h0)]
theorem lo_wi (f : TFire) (x : TLook) (p : TSpot) : loS (wiS f x) p = max (loS f p) (lowS f p x) := by
  show (f.fLooks ++ [x]).foldl (fun o y => max o (lowS (wiS f x) p y)) 0 = _
  rw [List.foldl_append]
  rfl
theorem hi_wi (f : TFire) (x : TLook) (p : TSpot) : hiS (wiS f x) p = min (hiS f p) (highS f p x) := by
  show (f.fLooks ++ [x]).foldl (fun o y => min o (highS (wiS f x) p y)) 1500 = _
  rw [List.foldl_append]
  rfl
theorem wi_ok {f : TFire} {x : TLook} (h : CheckS (wiS f x) = 0) : OkF f ∧ OkLook x := by
  have h1 := CheckS_ok.1 h
  have h2 : (wiS f x).fLooks = f.fLooks ++ [x] := rfl
  obtain ⟨a, b, c, d⟩ := h1
  rw [h2] at b c d
  refine ⟨⟨a, by simp at b; omega, fun y hy => c y (by simp [hy]), ?_⟩, c x (by simp)⟩
  rw [List.map_append, List.nodup_append] at d
  exact d.1
theorem wi_agree {f : TFire} {x : TLook} (ha : agreeS f = true) (hx : OkLook x) (h1 : loS f x.fAt ≤ x.fHeat.fHi) (h2 : x.fHeat.fLo ≤ hiS f x.fAt) : agreeS (wiS f x) = true := by
  unfold agreeS at ha ⊢
  rw [decide_eq_true_eq] at ha ⊢
  have e : (wiS f x).fLooks = f.fLooks ++ [x] := rfl
  have eg : ∀ a b, agS (wiS f x) a b = agS f a b := fun _ _ => rfl
  rw [e]
  intro a ma b mb
  rw [eg]
  rcases List.mem_append.1 ma with ma | ma <;> rcases List.mem_append.1 mb with mb | mb
  · exact ha a ma b mb
  · rw [List.mem_singleton.1 mb]
    have := hiS_ge (at_ := x.fAt) ma
    unfold highS at this
    unfold agS
    rw [decide_eq_false_iff_not]
    omega
  · rw [List.mem_singleton.1 ma]
    have := loS_ge (at_ := x.fAt) mb
    unfold lowS at this
    unfold agS
    rw [decide_eq_false_iff_not]
    omega
  · rw [List.mem_singleton.1 ma, List.mem_singleton.1 mb]
    unfold agS
    rw [decide_eq_false_iff_not, far_self]
    have := hx.2.2.2.2
    omega
theorem CheckS_rg {f : TFire} (h1 : OkSl f) (h2 : f.fLooks.length ≤ 24) : CheckS f = 0 ∨ CheckS f = 1 ∨ CheckS f = 6 := by
  unfold CheckS
  rw [if_pos h1, if_neg (by omega)]
  unfold LooksS
  rcases findSome_cases (R := errL f.fLooks) (n := f.fLooks.length) 0 with ⟨_, h⟩ | ⟨k, t, _, hR, _, h⟩
  · exact .inl h
  · rw [h]
    exact .inr (errL_rg hR)
/-- A look within the ends. -/
theorem Would_in {f : TFire} {x : TLook} {p : TSpot} (h0 : spotsS f [p] = 0) (ha : agreeS f = true) (hc : CheckS (wiS f x) = 0) (h1 : loS f x.fAt ≤ x.fHeat.fHi) (h2 : x.fHeat.fLo ≤ hiS f x.fAt) : WouldS f x p = (endsS (wiS f x) p, 0) := by
  unfold WouldS
  rw [if_pos h0, if_pos hc, if_pos (wi_agree ha (wi_ok hc).2 h1 h2)]
theorem Would_err {f : TFire} {x : TLook} {p : TSpot} (h0 : spotsS f [p] = 0) (hc : CheckS (wiS f x) ≠ 0) : (WouldS f x p).2 = CheckS (wiS f x) := by
  unfold WouldS
  rw [if_pos h0, if_neg hc]
theorem Would_0 {f : TFire} {x : TLook} {p : TSpot} (h : (WouldS f x p).2 = 0) : CheckS (wiS f x) = 0 ∧ (WouldS f x p).1 = endsS (wiS f x) p := by
  unfold WouldS at h ⊢
  by_cases h0 : spotsS f [p] = 0
  · rw [if_pos h0] at h ⊢
    by_cases hc : CheckS (wiS f x) = 0
    · rw [if_pos hc] at h ⊢
      cases ha : agreeS (wiS f x)
      · rw [ha] at h; simp at h
      · rw [if_pos rfl]; exact ⟨hc, rfl⟩
    · rw [if_neg hc] at h; exact absurd h hc
  · rw [if_neg h0] at h; exact absurd h h0
theorem woL_none {l : List TLook} {id : Int} (h : ∀ x ∈ l, x.fID ≠ id) : woL l [id] = l := by
  unfold woL
  rw [List.filter_eq_self]
  intro x hx
  have := h x hx
  simp [this]
theorem resQ_mem {f : TFire} {p : TSpot} {id : Int} : id ∈ namS f (resQ f p) ↔ resQ f p id = true := by
  unfold namS
  rw [List.mem_filter]
  constructor
  · exact fun h => h.2
  · intro h
    refine ⟨?_, h⟩
    refine Decidable.by_contra fun hn => ?_
    have h1 : woL f.fLooks [id] = f.fLooks := woL_none (fun x hx e => hn (List.mem_map.2 ⟨x, srt_mem.2 hx, e⟩))
    have h2 : woS f [id] = f := by unfold woS; rw [h1]
    unfold resQ at h
    rw [h2] at h
    simp at h
theorem more_in (id : Int) (l : List Int) (e : Int) (hl : l.length < 1000000) : loopO (calxlaw02_FireMore_l1 id (l, e)) (false, 0) = some (decide (id ∈ l), (l.length : Int)) := by
  have hm := loop_run (body := calxlaw02_FireMore_l1 id (l, e)) (fun k => (decide (id ∈ l.take k), (k : Int))) l.length (t := (decide (id ∈ l), (l.length : Int))) (fun k hk => by
    have c2 : (0 : Int) ≤ (k : Int) ∧ (k : Int) < ((l.length : Nat) : Int) := by omega
    unfold calxlaw02_FireMore_l1; dsimp only
    have ht : decide (id ∈ l.take (k + 1)) = (decide (id ∈ l.take k) || (l[k] == id)) := by
      rw [List.take_succ_eq_append_getElem hk, Bool.eq_iff_iff]
      simp only [List.mem_append, List.mem_singleton, decide_eq_true_eq, Bool.or_eq_true, beq_iff_eq]
      exact or_congr Iff.rfl eq_comm
    rw [ite_t (by omega), ht, w64_succ (by omega)]
    by_cases h : id ∈ l.take k
    · rw [if_pos (decide_eq_true h), decide_eq_true h, Bool.true_or]
      rfl
    · rw [if_neg (by simpa using h), guardO_pos c2, rdL_nat hk, decide_eq_false h, Bool.false_or]
      rfl) (by
    unfold calxlaw02_FireMore_l1; dsimp only
    rw [ite_f (by omega), List.take_length])
  simpa using hm
theorem FireMore_true (p0 : TFire) (p1 : TLook) (p2 : TSpot) (p3 : Int) (h0 : TFire_rg p0) (h1 : TLook_rg p1) (h2 : TSpot_rg p2) (h3 : Rg_i64 p3) : calxlaw02_FireMore p0 p1 p2 p3 = some true := by
  unfold calxlaw02_FireMore
  rw [few_eq, Option.bind_some, sanity_true]
  by_cases hf : few p0
  · have hl := few_len hf
    have hfl : CheckS p0 = 0 → p0.fLooks.length ≤ 12 := fun hc => by
      have := (CheckS_ok.1 hc).2.1
      unfold few at hf
      omega
    have hEn : ∀ q, fire_Ends p0 q = some (EndsS p0 q) := fun q => Ends_eq (by omega) (few_12 hf)
    have hWd : ∀ x q, fire_Would p0 x q = some (WouldS p0 x q) := fun x q => Would_eq (by omega) hfl
    have hRe : fire_Rests p0 p2 = some (RestsS p0 p2) := Rests_eq (by omega) (few_12 hf)
    rw [if_neg (by simp [hf])]
    simp only [hEn, hWd, hRe, Without_eq (f := p0) (ids := [p3]) (by omega) (by simp) (fun i hi => by rw [List.mem_singleton.1 hi]; exact rngB_of h3.1 h3.2), Option.bind_some]
    by_cases ha : askS p0 [p2] = 0
    · have hq := askS_0.1 ha
      have hok := CheckS_ok.1 hq.1
      have ho2 := hq.2.1 p2 (by simp)
      have hsp : spotsS p0 [p2] = 0 := spotsS_0.2 ⟨hq.1, hq.2.1⟩
      have hE : EndsS p0 p2 = (endsS p0 p2, 0) := by unfold EndsS; rw [if_pos ha]
      have hR : RestsS p0 p2 = (namS p0 (resQ p0 p2), 0) := by unfold RestsS; rw [if_pos ha]
      have hrl := @RestsS_len p0 p2
      rw [hR] at hrl; dsimp only at hrl
      rw [hE, hR, if_pos hq.1]
      dsimp only
      rw [if_neg (by decide)]
      have hwo := woS_ok hok [p3]
      have hwa : agreeS (woS p0 [p3]) = true := by
        have := hq.2.2
        unfold agreeS at this ⊢
        rw [decide_eq_true_eq] at this ⊢
        intro a ma b mb
        exact this a (List.mem_filter.1 ma).1 b (List.mem_filter.1 mb).1
      have hask : askS (woS p0 [p3]) [p2] = 0 := askS_0.2 ⟨CheckS_ok.2 hwo, hq.2.1, hwa⟩
      have hW : EndsS (woS p0 [p3]) p2 = (endsS (woS p0 [p3]) p2, 0) := by unfold EndsS; rw [if_pos hask]
      have hwl : (woS p0 [p3]).fLooks.length ≤ 24 := hwo.2.1
      rw [Ends_eq (by omega) (fun _ => woS_ok12 (few_12 hf hq.1) _), hW]
      dsimp only [Option.bind_some]
      have hfin : ((true && (decide (p3 ∈ namS p0 (resQ p0 p2)) == !(((endsS (woS p0 [p3]) p2).fSpan.fLo == (endsS p0 p2).fSpan.fLo) && ((endsS (woS p0 [p3]) p2).fSpan.fHi == (endsS p0 p2).fSpan.fHi))))) = true := by
        rw [Bool.true_and, beq_iff_eq]
        exact Eq.trans (Bool.eq_iff_iff.2 (by rw [decide_eq_true_eq]; exact resQ_mem)) rfl
      have hfirst : ¬ ((((WouldS p0 p1 p2).2 == 0) && (decide ((WouldS p0 p1 p2).1.fSpan.fLo < (endsS p0 p2).fSpan.fLo) || decide ((endsS p0 p2).fSpan.fHi < (WouldS p0 p1 p2).1.fSpan.fHi))) = true) := by
        rw [Bool.and_eq_true, beq_iff_eq, Bool.or_eq_true, decide_eq_true_eq, decide_eq_true_eq]
        rintro ⟨e1, e2⟩
        rw [(Would_0 e1).2] at e2
        have e3 : (endsS (wiS p0 p1) p2).fSpan.fLo = loS (wiS p0 p1) p2 := rfl
        have e4 : (endsS (wiS p0 p1) p2).fSpan.fHi = hiS (wiS p0 p1) p2 := rfl
        have e5 : (endsS p0 p2).fSpan.fLo = loS p0 p2 := rfl
        have e6 : (endsS p0 p2).fSpan.fHi = hiS p0 p2 := rfl
        rw [e3, e4, e5, e6, lo_wi, hi_wi] at e2
        omega
      rw [if_neg hfirst]
      by_cases hb : (EndsS p0 p1.fAt).2 = 0
      · have hb2 : askS p0 [p1.fAt] = 0 := by
          unfold EndsS at hb
          split at hb
          · assumption
          · exact hb
        have hb3 : (EndsS p0 p1.fAt).1 = endsS p0 p1.fAt := by unfold EndsS; rw [if_pos hb2]
        have ho1 := (askS_0.1 hb2).2.1 p1.fAt (by simp)
        rw [if_pos (by rw [hb]; rfl), hb3]
        have eS : (endsS p0 p1.fAt).fSpan = ⟨loS p0 p1.fAt, hiS p0 p1.fAt⟩ := rfl
        rw [eS]
        have hlh := lo_hi hok hq.2.2 ho1
        have l1 := lo_lip hok ho2 ho1
        have l2 := hi_lip hok ho1 ho2
        have hsecond : ¬ ((((WouldS p0 ⟨p1.fID, p1.fAt, ⟨loS p0 p1.fAt, hiS p0 p1.fAt⟩⟩ p2).2 == 0) && (!(((WouldS p0 ⟨p1.fID, p1.fAt, ⟨loS p0 p1.fAt, hiS p0 p1.fAt⟩⟩ p2).1.fSpan.fLo == (endsS p0 p2).fSpan.fLo) && ((WouldS p0 ⟨p1.fID, p1.fAt, ⟨loS p0 p1.fAt, hiS p0 p1.fAt⟩⟩ p2).1.fSpan.fHi == (endsS p0 p2).fSpan.fHi)))) || ((WouldS p0 ⟨p1.fID, p1.fAt, ⟨loS p0 p1.fAt, hiS p0 p1.fAt⟩⟩ p2).2 == 9)) = true := by
          by_cases hc : CheckS (wiS p0 ⟨p1.fID, p1.fAt, ⟨loS p0 p1.fAt, hiS p0 p1.fAt⟩⟩) = 0
          · rw [Would_in hsp hq.2.2 hc hlh hlh]
            have e3 : (endsS (wiS p0 ⟨p1.fID, p1.fAt, ⟨loS p0 p1.fAt, hiS p0 p1.fAt⟩⟩) p2).fSpan.fLo = loS p0 p2 := by
              refine (lo_wi _ _ _).trans ?_
              unfold lowS
              dsimp only
              omega
            have e4 : (endsS (wiS p0 ⟨p1.fID, p1.fAt, ⟨loS p0 p1.fAt, hiS p0 p1.fAt⟩⟩) p2).fSpan.fHi = hiS p0 p2 := by
              refine (hi_wi _ _ _).trans ?_
              unfold highS
              dsimp only
              omega
            have e5 : (endsS p0 p2).fSpan.fLo = loS p0 p2 := rfl
            have e6 : (endsS p0 p2).fSpan.fHi = hiS p0 p2 := rfl
            dsimp only
            rw [e3, e4, e5, e6]
            simp
          · have e1 := Would_err (x := ⟨p1.fID, p1.fAt, ⟨loS p0 p1.fAt, hiS p0 p1.fAt⟩⟩) hsp hc
            have hcr := CheckS_rg (f := wiS p0 ⟨p1.fID, p1.fAt, ⟨loS p0 p1.fAt, hiS p0 p1.fAt⟩⟩) hok.1 (by rw [wi_len]; have := hfl hq.1; omega)
            rw [e1]
            rcases hcr with h | h | h
            · exact absurd h hc
            · rw [h]; simp
            · rw [h]; simp
        rw [if_neg hsecond, if_neg (by decide), more_in _ _ _ (by omega)]
        exact congrArg some hfin
      · rw [if_neg (by simpa using hb), if_neg (by decide), show calxlaw02_FireMore_l2 = calxlaw02_FireMore_l1 from rfl, more_in _ _ _ (by omega)]
        exact congrArg some hfin
    · have hE : (EndsS p0 p2).2 = askS p0 [p2] := by unfold EndsS; rw [if_neg ha]
      rw [if_pos (by rw [hE]; simpa using ha)]
  · rw [if_pos (by simp [hf])]
    rfl
end Go.Proofs.Ytndajeiecdmhnaa
