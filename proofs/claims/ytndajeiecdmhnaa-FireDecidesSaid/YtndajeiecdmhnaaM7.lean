/- Plain laws of fire: the ends of a spot; looks in another order. No program in sight. -/
import Derived.Test.YtndajeiecdmhnaaM6
set_option linter.unusedVariables false
namespace Go.Proofs.Ytndajeiecdmhnaa

/-! ### The ends -/
def lowS (f : TFire) (at_ : TSpot) (x : TLook) : Int := x.fHeat.fLo - farS f at_ x.fAt
def highS (f : TFire) (at_ : TSpot) (x : TLook) : Int := x.fHeat.fHi + farS f x.fAt at_
def loS (f : TFire) (at_ : TSpot) : Int := f.fLooks.foldl (fun o x => max o (lowS f at_ x)) 0
def hiS (f : TFire) (at_ : TSpot) : Int := f.fLooks.foldl (fun o x => min o (highS f at_ x)) 1500
theorem foldmax {α : Type} (t : α → Int) : ∀ (l : List α) (o : Int), (o ≤ l.foldl (fun o x => max o (t x)) o) ∧ (∀ x ∈ l, t x ≤ l.foldl (fun o x => max o (t x)) o) ∧ (l.foldl (fun o x => max o (t x)) o = o ∨ ∃ x ∈ l, t x = l.foldl (fun o x => max o (t x)) o)
  | [], o => ⟨Int.le_refl _, by simp, .inl rfl⟩
  | y :: l, o => by
    obtain ⟨h1, h2, h3⟩ := foldmax t l (max o (t y))
    rw [List.foldl_cons]
    refine ⟨by omega, ?_, ?_⟩
    · intro x hx
      rcases List.mem_cons.1 hx with rfl | hx
      · omega
      · exact h2 x hx
    · rcases h3 with h3 | ⟨x, hx, h3⟩
      · by_cases hc : o ≤ t y
        · exact .inr ⟨y, by simp, by omega⟩
        · exact .inl (by omega)
      · exact .inr ⟨x, by simp [hx], h3⟩
theorem foldmin {α : Type} (t : α → Int) : ∀ (l : List α) (o : Int), (l.foldl (fun o x => min o (t x)) o ≤ o) ∧ (∀ x ∈ l, l.foldl (fun o x => min o (t x)) o ≤ t x) ∧ (l.foldl (fun o x => min o (t x)) o = o ∨ ∃ x ∈ l, t x = l.foldl (fun o x => min o (t x)) o)
  | [], o => ⟨Int.le_refl _, by simp, .inl rfl⟩
  | y :: l, o => by
    obtain ⟨h1, h2, h3⟩ := foldmin t l (min o (t y))
    rw [List.foldl_cons]
    refine ⟨by omega, ?_, ?_⟩
    · intro x hx
      rcases List.mem_cons.1 hx with rfl | hx
      · omega
      · exact h2 x hx
    · rcases h3 with h3 | ⟨x, hx, h3⟩
      · by_cases hc : t y ≤ o
        · exact .inr ⟨y, by simp, by omega⟩
        · exact .inl (by omega)
      · exact .inr ⟨x, by simp [hx], h3⟩
theorem foldmax_perm {α : Type} (t : α → Int) {l m : List α} (h : l.Perm m) (o : Int) : l.foldl (fun o x => max o (t x)) o = m.foldl (fun o x => max o (t x)) o := by
  obtain ⟨a1, a2, a3⟩ := foldmax t l o
  obtain ⟨b1, b2, b3⟩ := foldmax t m o
  have k1 : l.foldl (fun o x => max o (t x)) o ≤ m.foldl (fun o x => max o (t x)) o := by
    rcases a3 with a3 | ⟨x, hx, a3⟩
    · omega
    · have := b2 x (h.mem_iff.1 hx)
      omega
  have k2 : m.foldl (fun o x => max o (t x)) o ≤ l.foldl (fun o x => max o (t x)) o := by
    rcases b3 with b3 | ⟨x, hx, b3⟩
    · omega
    · have := a2 x (h.mem_iff.2 hx)
      omega
  omega
theorem foldmin_perm {α : Type} (t : α → Int) {l m : List α} (h : l.Perm m) (o : Int) : l.foldl (fun o x => min o (t x)) o = m.foldl (fun o x => min o (t x)) o := by
  obtain ⟨a1, a2, a3⟩ := foldmin t l o
  obtain ⟨b1, b2, b3⟩ := foldmin t m o
  have k1 : m.foldl (fun o x => min o (t x)) o ≤ l.foldl (fun o x => min o (t x)) o := by
    rcases a3 with a3 | ⟨x, hx, a3⟩
    · omega
    · have := b2 x (h.mem_iff.1 hx)
      omega
  have k2 : l.foldl (fun o x => min o (t x)) o ≤ m.foldl (fun o x => min o (t x)) o := by
    rcases b3 with b3 | ⟨x, hx, b3⟩
    · omega
    · have := a2 x (h.mem_iff.2 hx)
      omega
  omega
theorem loS_le (f : TFire) (at_ : TSpot) : 0 ≤ loS f at_ := (foldmax (lowS f at_) f.fLooks 0).1
theorem loS_ge {f : TFire} {at_ : TSpot} {x : TLook} (h : x ∈ f.fLooks) : lowS f at_ x ≤ loS f at_ := (foldmax (lowS f at_) f.fLooks 0).2.1 x h
theorem loS_at (f : TFire) (at_ : TSpot) : loS f at_ = 0 ∨ ∃ x ∈ f.fLooks, lowS f at_ x = loS f at_ := (foldmax (lowS f at_) f.fLooks 0).2.2
theorem hiS_le (f : TFire) (at_ : TSpot) : hiS f at_ ≤ 1500 := (foldmin (highS f at_) f.fLooks 1500).1
theorem hiS_ge {f : TFire} {at_ : TSpot} {x : TLook} (h : x ∈ f.fLooks) : hiS f at_ ≤ highS f at_ x := (foldmin (highS f at_) f.fLooks 1500).2.1 x h
theorem hiS_at (f : TFire) (at_ : TSpot) : hiS f at_ = 1500 ∨ ∃ x ∈ f.fLooks, highS f at_ x = hiS f at_ := (foldmin (highS f at_) f.fLooks 1500).2.2
/-- The least ID of a look of which q is so; 0 if there is none. -/
def idS (f : TFire) (q : TLook → Bool) : Int := match (srt f.fLooks).find? q with | some x => x.fID | none => 0
def endsS (f : TFire) (at_ : TSpot) : TBounds := ⟨⟨loS f at_, hiS f at_⟩, idS f (fun x => lowS f at_ x == loS f at_), idS f (fun x => highS f at_ x == hiS f at_)⟩
theorem low_rg {f : TFire} {at_ : TSpot} {x : TLook} (hf : OkSl f) (ha : OkSpot at_) (hx : OkLook x) : -10000000 ≤ lowS f at_ x ∧ lowS f at_ x ≤ 1500 := by
  have h1 := far_rg hf ha hx.2.1
  have h2 := hx.2.2.1
  unfold OkHeat at h2
  unfold lowS
  omega
theorem high_rg {f : TFire} {at_ : TSpot} {x : TLook} (hf : OkSl f) (ha : OkSpot at_) (hx : OkLook x) : 0 ≤ highS f at_ x ∧ highS f at_ x ≤ 10001500 := by
  have h1 := far_rg hf hx.2.1 ha
  have h2 := hx.2.2.2.1
  unfold OkHeat at h2
  unfold highS
  omega
theorem low1_eq {f : TFire} {at_ : TSpot} {x : TLook} (hf : OkSl f) (ha : OkSpot at_) (hx : OkLook x) : fire_low_1 x f at_ = some (lowS f at_ x) := by
  have h1 := low_rg hf ha hx
  unfold lowS at h1
  unfold fire_low_1 lowS
  rw [far_eq hf ha hx.2.1, Option.bind_some, w64_id (by omega) (by omega)]
theorem high1_eq {f : TFire} {at_ : TSpot} {x : TLook} (hf : OkSl f) (ha : OkSpot at_) (hx : OkLook x) : fire_high_1 x f at_ = some (highS f at_ x) := by
  have h1 := high_rg hf ha hx
  unfold highS at h1
  unfold fire_high_1 highS
  rw [far_eq hf hx.2.1 ha, Option.bind_some, w64_id (by omega) (by omega)]
theorem best_eq {l : List TLook} (hl : l.length ≤ 1000) (none_ : Int) {tell : TLook → Option Int} {better : Int → Int → Option Bool} (t : TLook → Int) (g : Int → TLook → Int) (ht : ∀ x ∈ l, tell x = some (t x)) (hb : ∀ o x, x ∈ l → ∃ b, better (t x) o = some b ∧ g o x = if b = true then t x else o) :
    ∃ y, fire_best_calx_api_Look l none_ tell better = some (l.foldl g none_, y) ∧ y.1.fID = match l.find? (fun x => t x == l.foldl g none_) with | some x => x.fID | none => 0 := by
  unfold fire_best_calx_api_Look
  rw [guardO_pos (show seqLook_ok l from hl)]
  have h1 := (foldO_fold (f := fire_best_calx_api_Look_r1 tell better) g (fun _ => True) l none_ trivial (fun o x hx _ => by
    obtain ⟨b, hb1, hb2⟩ := hb o x hx
    refine ⟨?_, trivial⟩
    unfold fire_best_calx_api_Look_r1
    rw [ht x hx, Option.bind_some, hb1, hb2, Option.bind_some]
    split <;> rfl)).1
  have e1 : foldO (fire_best_calx_api_Look_r1 tell better) (seqLook l) none_ = _ := h1
  rw [e1, Option.bind_some]
  dsimp only
  generalize l.foldl g none_ = u
  have h2 := foldO_search (f := fire_best_calx_api_Look_r2 tell u) (0, 0, 0, 0, 0, 0, false) (fun x => if t x == u then some (u, x.fID, x.fAt.fFoot, x.fAt.fHour, x.fHeat.fLo, x.fHeat.fHi, true) else none) l (fun x hx => by
    unfold fire_best_calx_api_Look_r2
    rw [ht x hx, Option.bind_some]
    by_cases hc : (t x == u) = true
    · rw [if_pos hc, if_pos hc]; rfl
    · rw [if_neg hc, if_neg hc]; rfl)
  have e2 : foldO (fire_best_calx_api_Look_r2 tell u) (seqLook l) (0, 0, 0, 0, 0, 0, false) = _ := h2
  rw [guardO_pos (show seqLook_ok l from hl), e2, Option.bind_some]
  have e3 : ∀ m : List TLook, m.findSome? (fun x => if t x == u then some (u, x.fID, x.fAt.fFoot, x.fAt.fHour, x.fHeat.fLo, x.fHeat.fHi, true) else none) = (m.find? (fun x => t x == u)).map (fun x => (u, x.fID, x.fAt.fFoot, x.fAt.fHour, x.fHeat.fLo, x.fHeat.fHi, true)) := by
    intro m
    induction m with
    | nil => rfl
    | cons x m ih =>
      rw [List.findSome?_cons, List.find?_cons, ih]
      cases hc : (t x == u)
      · simp
      · simp
  rw [e3]
  cases l.find? (fun x => t x == u) with
  | none => exact ⟨_, rfl, rfl⟩
  | some x => exact ⟨_, rfl, rfl⟩
theorem ends_eq {f : TFire} (h : Ok12 f) {at_ : TSpot} (ha : OkSpot at_) : fire_ends f at_ = some (endsS f at_) := by
  have hok := h.1.2.2.1
  have hlen : (srt f.fLooks).length ≤ 1000 := by rw [srt_len]; have := h.1.2.1; omega
  unfold fire_ends fire_low fire_high
  rw [sorted_eq h]
  dsimp only [Option.bind_some]
  obtain ⟨y, hy1, hy2⟩ := best_eq hlen 0 (tell := fun x17 => fire_low_1 x17 f at_) (better := fun x18 x19 => fire_more x18 x19) (lowS f at_) (fun o x => max o (lowS f at_ x)) (fun x hx => low1_eq h.1.1 ha (hok x (srt_mem.1 hx))) (fun o x _ => ⟨decide (o < lowS f at_ x), rfl, by by_cases hc : o < lowS f at_ x <;> simp [hc] <;> omega⟩)
  obtain ⟨z, hz1, hz2⟩ := best_eq hlen 1500 (tell := fun x35 => fire_high_1 x35 f at_) (better := fun x36 x37 => fire_less x36 x37) (highS f at_) (fun o x => min o (highS f at_ x)) (fun x hx => high1_eq h.1.1 ha (hok x (srt_mem.1 hx))) (fun o x _ => ⟨decide (highS f at_ x < o), rfl, by by_cases hc : highS f at_ x < o <;> simp [hc] <;> omega⟩)
  rw [hy1, hz1]
  dsimp only [Option.bind_some]
  have e1 : (srt f.fLooks).foldl (fun o x => max o (lowS f at_ x)) 0 = loS f at_ := foldmax_perm (lowS f at_) (srt_perm f.fLooks) 0
  have e2 : (srt f.fLooks).foldl (fun o x => min o (highS f at_ x)) 1500 = hiS f at_ := foldmin_perm (highS f at_) (srt_perm f.fLooks) 1500
  rw [e1] at hy2 ⊢
  rw [e2] at hz2 ⊢
  rw [hy2, hz2]
  rfl
theorem agreed_eq {f : TFire} {e : Int} (h : e = 0 → Ok12 f) : fire_agreed f e = some (if e = 0 then if agreeS f = true then 0 else 9 else e) := by
  unfold fire_agreed
  by_cases he : e = 0
  · subst he
    rw [if_pos (by rfl), agree_eq (h rfl), if_pos rfl]
    cases agreeS f <;> rfl
  · rw [if_neg (by simpa using he), if_neg he]
    rfl
/-- The error of a fire and spots, or of looks that do not agree. -/
def askS (f : TFire) (l : List TSpot) : Int := if spotsS f l = 0 then if agreeS f = true then 0 else 9 else spotsS f l
theorem askS_0 {f : TFire} {l : List TSpot} : askS f l = 0 ↔ CheckS f = 0 ∧ (∀ s ∈ l, OkSpot s) ∧ agreeS f = true := by
  unfold askS
  by_cases hs : spotsS f l = 0
  · have := spotsS_0.1 hs
    rw [if_pos hs]
    cases ha : agreeS f
    · simp
    · simp [this]
      exact this.2
  · rw [if_neg hs]
    exact ⟨fun h => absurd h hs, fun h => absurd (spotsS_0.2 ⟨h.1, h.2.1⟩) hs⟩
theorem ask_eq {f : TFire} {l : List TSpot} (hf : f.fLooks.length < 1000000) (hl : l.length < 1000000) (h : CheckS f = 0 → Ok12 f) : (fire_spots f l).bind (fun y => fire_agreed f y) = some (askS f l) := by
  rw [spots_eq hf hl, Option.bind_some, agreed_eq (fun h0 => h (spotsS_0.1 h0).1)]
  rfl
def EndsS (f : TFire) (at_ : TSpot) : TBounds × Int := if askS f [at_] = 0 then (endsS f at_, 0) else (⟨⟨0, 0⟩, 0, 0⟩, askS f [at_])
theorem Ends_eq {f : TFire} {at_ : TSpot} (hf : f.fLooks.length < 1000000) (h : CheckS f = 0 → Ok12 f) : fire_Ends f at_ = some (EndsS f at_) := by
  unfold fire_Ends EndsS
  have h1 := ask_eq (l := [at_]) hf (by simp) h
  rw [spots_eq hf (by simp), Option.bind_some] at h1 ⊢
  rw [h1, Option.bind_some]
  by_cases h0 : askS f [at_] = 0
  · have h2 := askS_0.1 h0
    rw [if_pos h0, h0, if_neg (by decide), ends_eq (h h2.1) (h2.2.1 at_ (by simp))]
    rfl
  · rw [if_neg h0, if_pos (by simpa using h0)]

/-! ### Another order -/
section
variable {f g : TFire}
/-- The same looks in another order. -/
def Turned (f g : TFire) : Prop := f.fRise = g.fRise ∧ f.fFall = g.fFall ∧ f.fUp = g.fUp ∧ f.fDown = g.fDown ∧ f.fLooks.Perm g.fLooks
theorem Turned.far (h : Turned f g) (p q : TSpot) : farS f p q = farS g p q := by
  obtain ⟨h1, h2, h3, h4, _⟩ := h
  unfold farS
  rw [h1, h2, h3, h4]
theorem Turned.ok (h : Turned f g) (ho : OkF f) : OkF g := by
  obtain ⟨h1, h2, h3, h4, h5⟩ := h
  obtain ⟨o1, o2, o3, o4⟩ := ho
  refine ⟨?_, ?_, fun x hx => o3 x (h5.mem_iff.2 hx), (h5.map (·.fID)).nodup_iff.1 o4⟩
  · unfold OkSl at o1 ⊢
    rw [← h1, ← h2, ← h3, ← h4]
    exact o1
  · rw [← h5.length_eq]; exact o2
theorem Turned.srt (h : Turned f g) (ho : OkF f) : srt f.fLooks = srt g.fLooks :=
  Sorted_unique ((srt_perm _).trans (h.2.2.2.2.trans (srt_perm _).symm)) (srt_sorted ho.2.2.2) (srt_sorted (h.ok ho).2.2.2)
theorem Turned.ag (h : Turned f g) (x y : TLook) : agS f x y = agS g x y := by unfold agS; rw [h.far]
theorem Turned.agree (h : Turned f g) : agreeS f = agreeS g := by
  unfold agreeS
  rw [Bool.eq_iff_iff, decide_eq_true_eq, decide_eq_true_eq]
  constructor
  · intro ha x hx y hy
    rw [← h.ag]
    exact ha x (h.2.2.2.2.mem_iff.2 hx) y (h.2.2.2.2.mem_iff.2 hy)
  · intro ha x hx y hy
    rw [h.ag]
    exact ha x (h.2.2.2.2.mem_iff.1 hx) y (h.2.2.2.2.mem_iff.1 hy)
theorem Turned.cl (h : Turned f g) (ho : OkF f) : clS f = clS g := by
  unfold clS
  rw [h.srt ho]
  congr 1
  funext x
  congr 1
  funext y
  rw [h.ag]
theorem Turned.low (h : Turned f g) (p : TSpot) : lowS f p = lowS g p := by funext x; unfold lowS; rw [h.far]
theorem Turned.high (h : Turned f g) (p : TSpot) : highS f p = highS g p := by funext x; unfold highS; rw [h.far]
theorem Turned.lo (h : Turned f g) (p : TSpot) : loS f p = loS g p := by
  unfold loS
  rw [h.low]
  exact foldmax_perm _ h.2.2.2.2 0
theorem Turned.hi (h : Turned f g) (p : TSpot) : hiS f p = hiS g p := by
  unfold hiS
  rw [h.high]
  exact foldmin_perm _ h.2.2.2.2 1500
theorem Turned.ends (h : Turned f g) (ho : OkF f) (p : TSpot) : endsS f p = endsS g p := by
  unfold endsS idS
  rw [h.lo, h.hi, h.low, h.high, h.srt ho]
theorem Turned.check (h : Turned f g) (ho : OkF f) : CheckS g = 0 := CheckS_ok.2 (h.ok ho)
theorem Turned.spots (h : Turned f g) (ho : OkF f) (l : List TSpot) : spotsS f l = spotsS g l := by
  unfold spotsS
  rw [CheckS_ok.2 ho, h.check ho]
theorem Turned.ask (h : Turned f g) (ho : OkF f) (l : List TSpot) : askS f l = askS g l := by
  unfold askS
  rw [h.spots ho, h.agree]
theorem Turned.Ends (h : Turned f g) (ho : OkF f) (p : TSpot) : EndsS f p = EndsS g p := by
  unfold EndsS
  rw [h.ask ho, h.ends ho]
theorem Turned.Clash (h : Turned f g) (ho : OkF f) : ClashS f = ClashS g := by
  unfold ClashS
  rw [h.cl ho]
end
end Go.Proofs.Ytndajeiecdmhnaa
