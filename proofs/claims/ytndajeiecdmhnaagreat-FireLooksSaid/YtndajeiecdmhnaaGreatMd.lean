/- The plain law FireEnds. No program in sight. -/
import Derived.Test.YtndajeiecdmhnaaGreatMf
set_option linter.unusedVariables false
namespace Go.Proofs.YtndajeiecdmhnaaGreat

/-! ### The reference: asked, shows, bounds -/
theorem rspots_eq {l : List TSpot} (hl : l.length < 1000000) : ref02_spots l = some (if 24 < l.length then 2 else if ∃ s ∈ l, ¬ OkSpot s then 1 else 0) := by
  unfold ref02_spots
  by_cases h1 : 24 < l.length
  · rw [ite_t (by omega), if_pos h1]
  · rw [ite_f (by omega), if_neg h1]
    have := loop_search (body := ref02_spots_l1 l) (fun k => ((0 : Int), (k : Int))) l.length (fun k => if OkSpot (l.getD k default) then none else some (Sum.inl ((1 : Int), (k : Int)))) (t0 := .inr (0, (l.length : Int))) (fun k hk => by
      have c1 : decide ((k : Int) < ((l.length : Nat) : Int)) = true := decide_eq_true (by omega)
      have c2 : (0 : Int) ≤ (k : Int) ∧ (k : Int) < ((l.length : Nat) : Int) := by omega
      unfold ref02_spots_l1; dsimp only
      simp only [c1, if_true, guardO_pos c2, rdL_nat hk, TSpot_eta, rSpot_eq, Option.bind_some, getD_lt hk, w64_succ (show k < 9223372036854775807 by omega)]
      by_cases ho : OkSpot l[k] <;> simp [ho]) (by
      unfold ref02_spots_l1; dsimp only
      rw [ite_f (by omega)])
    have e0 : loopO (ref02_spots_l1 l) (0, 0) = _ := this
    rw [e0, Option.bind_some]
    rcases findSome_cases (R := fun k => if OkSpot (l.getD k default) then none else some (Sum.inl ((1 : Int), (k : Int)) : (Int × Int) ⊕ (Int × Int))) (n := l.length) (.inr (0, (l.length : Int))) with ⟨hn, h4⟩ | ⟨k, t, hk, hR, hj, h4⟩
    · rw [h4, if_neg]
      rintro ⟨s, hs, hb⟩
      obtain ⟨k, hk, rfl⟩ := List.mem_iff_getElem.1 hs
      have := hn k hk
      rw [getD_lt hk, if_neg hb] at this
      cases this
    · rw [h4]
      rw [getD_lt hk] at hR
      split at hR
      · cases hR
      · rename_i hb
        cases hR
        rw [if_pos ⟨_, List.getElem_mem hk, hb⟩]
theorem asked_eq {f : TFire} {l : List TSpot} (hf : f.fLooks.length < 1000000) (hl : l.length < 1000000) : ref02_asked f l = some (askL f l) := by
  unfold ref02_asked askL ListS spotsS
  rw [rCheck_eq f (by omega), Option.bind_some]
  by_cases h1 : CheckS f = 0
  · simp only [if_pos h1]
    rw [h1, if_neg (by decide), rspots_eq hl, Option.bind_some]
    by_cases h2 : 24 < l.length
    · simp only [if_pos h2]
      rfl
    · simp only [if_neg h2]
      by_cases h3 : ∃ s ∈ l, ¬ OkSpot s
      · simp only [if_pos h3]
        rfl
      · simp only [if_neg h3]
        rw [if_neg (by decide), ragree_eq (CheckS_ok.1 h1), Option.bind_some]
        cases agreeS f <;> rfl
  · simp only [if_neg h1]
    rw [if_pos (by simpa using h1)]
theorem askL_one {f : TFire} {p : TSpot} : askL f [p] = askS f [p] := by
  unfold askL askS ListS
  by_cases h1 : CheckS f = 0
  · have e : ¬ 24 < [p].length := by simp
    rw [if_pos h1, if_neg e]
  · have : spotsS f [p] = CheckS f := by unfold spotsS; rw [if_neg h1]
    rw [if_neg h1, this]
def tellS (f : TFire) (at_ : TSpot) (b : Bool) : TLook → Int := if b = true then highS f at_ else lowS f at_
theorem rshows_eq {f : TFire} (h : OkF f) {at_ : TSpot} (ha : OkSpot at_) (id end_ : Int) (b : Bool) : ref02_shows f at_ id end_ b = some (decide (∃ x ∈ f.fLooks, x.fID = id ∧ tellS f at_ b x = end_)) := by
  have hlen := h.2.1
  unfold ref02_shows
  rw [rlook_eq (by omega), Option.bind_some]
  rcases idxI_cases f.fLooks (fun x => x.fID == id) with ⟨h1, h2⟩ | ⟨k, hk, hq, hj, h2⟩
  · rw [h2, ite_t (by decide), decide_eq_false]
    rintro ⟨x, hx, e1, _⟩
    have := h1 x hx
    simp [e1] at this
  · have hx := h.2.2.1 _ (List.getElem_mem hk)
    have r1 := low_rg h.1 ha hx
    have r2 := high_rg h.1 ha hx
    have huniq : ∀ x ∈ f.fLooks, x.fID = id → x = f.fLooks[k] := by
      intro x hx e1
      have hd := h.2.2.2
      obtain ⟨i, hi, rfl⟩ := List.mem_iff_getElem.1 hx
      rw [List.nodup_iff_pairwise_ne, List.pairwise_iff_getElem] at hd
      have hqk : f.fLooks[k].fID = id := by simpa using hq
      rcases Nat.lt_trichotomy i k with h' | h' | h'
      · exact absurd (by rw [List.getElem_map, List.getElem_map, e1, hqk]) (hd i k (by simp; omega) (by simp; omega) h')
      · subst h'; rfl
      · exact absurd (by rw [List.getElem_map, List.getElem_map, e1, hqk]) (hd k i (by simp; omega) (by simp; omega) h')
    rw [h2, ite_f (by omega), guardO_pos (by omega), rdL_nat hk, TSpot_eta, rfar_eq h.1 hx.2.1 ha, rfar_eq h.1 ha hx.2.1]
    dsimp only [Option.bind_some]
    unfold lowS at r1
    unfold highS at r2
    rw [w64_id (x := f.fLooks[k].fHeat.fHi + _) (by omega) (by omega), w64_id (x := f.fLooks[k].fHeat.fLo - _) (by omega) (by omega)]
    have key : (∃ x ∈ f.fLooks, x.fID = id ∧ tellS f at_ b x = end_) ↔ tellS f at_ b f.fLooks[k] = end_ := by
      constructor
      · rintro ⟨x, hx, e1, e2⟩
        rw [← huniq x hx e1]
        exact e2
      · intro he
        exact ⟨_, List.getElem_mem hk, by simpa using hq, he⟩
    have hd : decide (∃ x ∈ f.fLooks, x.fID = id ∧ tellS f at_ b x = end_) = (tellS f at_ b f.fLooks[k] == end_) := by
      rw [Bool.eq_iff_iff, decide_eq_true_eq, beq_iff_eq]; exact key
    rw [hd]
    cases b <;> rfl
theorem rshows_own {f : TFire} (h : OkF f) {at_ : TSpot} (ha : OkSpot at_) {x : TLook} (hx : x ∈ f.fLooks) (end_ : Int) (b : Bool) : ref02_shows f at_ x.fID end_ b = some (tellS f at_ b x == end_) := by
  rw [rshows_eq h ha]
  refine congrArg some ?_
  rw [Bool.eq_iff_iff, decide_eq_true_eq, beq_iff_eq]
  constructor
  · rintro ⟨y, hy, e1, e2⟩
    have hd := h.2.2.2
    have : y = x := by
      obtain ⟨i, hi, rfl⟩ := List.mem_iff_getElem.1 hy
      obtain ⟨k, hk, rfl⟩ := List.mem_iff_getElem.1 hx
      rw [List.nodup_iff_pairwise_ne, List.pairwise_iff_getElem] at hd
      rcases Nat.lt_trichotomy i k with h' | h' | h'
      · exact absurd (by rw [List.getElem_map, List.getElem_map, e1]) (hd i k (by simp; omega) (by simp; omega) h')
      · subst h'; rfl
      · exact absurd (by rw [List.getElem_map, List.getElem_map, e1]) (hd k i (by simp; omega) (by simp; omega) h')
    rw [← this]
    exact e2
  · exact fun he => ⟨x, hx, rfl, he⟩
def minStep (q : TLook → Bool) (m : Int) (x : TLook) : Int := if (q x && ((m == 0) || decide (x.fID < m))) = true then x.fID else m
theorem minF_eq {f : TFire} (h : OkF f) (q : TLook → Bool) : f.fLooks.foldl (minStep q) 0 = idS f q := by
  have key : ∀ (l pre : List TLook) (m : Int), (∀ x ∈ pre ++ l, 1 ≤ x.fID) → ((m = 0 ∧ ∀ x ∈ pre, q x = false) ∨ ∃ x ∈ pre, q x = true ∧ m = x.fID ∧ ∀ y ∈ pre, q y = true → m ≤ y.fID) →
      ((l.foldl (minStep q) m = 0 ∧ ∀ x ∈ pre ++ l, q x = false) ∨ ∃ x ∈ pre ++ l, q x = true ∧ l.foldl (minStep q) m = x.fID ∧ ∀ y ∈ pre ++ l, q y = true → l.foldl (minStep q) m ≤ y.fID) := by
    intro l
    induction l with
    | nil => intro pre m _ hm; simpa using hm
    | cons x l ih =>
      intro pre m hid hm
      have e : pre ++ x :: l = (pre ++ [x]) ++ l := by simp
      rw [e] at hid ⊢
      rw [List.foldl_cons]
      refine ih (pre ++ [x]) (minStep q m x) hid ?_
      unfold minStep
      have hx1 : 1 ≤ x.fID := hid x (by simp)
      cases hq : q x
      · rw [Bool.false_and, if_neg Bool.false_ne_true]
        rcases hm with ⟨h1, h2⟩ | ⟨y, hy, h1, h2, h3⟩
        · refine .inl ⟨h1, fun z hz => ?_⟩
          rcases List.mem_append.1 hz with hz | hz
          · exact h2 z hz
          · rw [List.mem_singleton.1 hz]; exact hq
        · refine .inr ⟨y, by simp [hy], h1, h2, fun z hz hzq => ?_⟩
          rcases List.mem_append.1 hz with hz | hz
          · exact h3 z hz hzq
          · rw [List.mem_singleton.1 hz, hq] at hzq; cases hzq
      · rw [Bool.true_and]
        rcases hm with ⟨h1, h2⟩ | ⟨y, hy, h1, h2, h3⟩
        · subst h1
          rw [if_pos (by rfl)]
          refine .inr ⟨x, by simp, hq, rfl, fun z hz hzq => ?_⟩
          rcases List.mem_append.1 hz with hz | hz
          · rw [h2 z hz] at hzq; cases hzq
          · rw [List.mem_singleton.1 hz]; exact Int.le_refl _
        · have hy1 : 1 ≤ y.fID := hid y (by simp [hy])
          have hm0 : (m == 0) = false := by rw [beq_eq_false_iff_ne]; omega
          rw [hm0, Bool.false_or]
          by_cases hlt : x.fID < m
          · rw [if_pos (decide_eq_true hlt)]
            refine .inr ⟨x, by simp, hq, rfl, fun z hz hzq => ?_⟩
            rcases List.mem_append.1 hz with hz | hz
            · have := h3 z hz hzq; omega
            · rw [List.mem_singleton.1 hz]; exact Int.le_refl _
          · rw [if_neg (by simpa using hlt)]
            refine .inr ⟨y, by simp [hy], h1, h2, fun z hz hzq => ?_⟩
            rcases List.mem_append.1 hz with hz | hz
            · exact h3 z hz hzq
            · rw [List.mem_singleton.1 hz]; omega
  have h1 := key f.fLooks [] 0 (fun x hx => (h.2.2.1 x (by simpa using hx)).1.1) (.inl ⟨rfl, by simp⟩)
  rw [List.nil_append] at h1
  unfold idS
  cases hf : (srt f.fLooks).find? q with
  | none =>
    have hn := List.find?_eq_none.1 hf
    rcases h1 with ⟨e1, _⟩ | ⟨x, hx, e1, _⟩
    · exact e1
    · exact absurd e1 (hn x (srt_mem.2 hx))
  | some y =>
    obtain ⟨hq, A, B, hs, hA⟩ := List.find?_eq_some_iff_append.1 hf
    have hym : y ∈ f.fLooks := srt_mem.1 (by rw [hs]; simp)
    have hmin : ∀ z ∈ f.fLooks, q z = true → y.fID ≤ z.fID := by
      intro z hz hzq
      have hz' := srt_mem.2 hz
      have hso := srt_sorted h.2.2.2
      rw [hs] at hz' hso
      unfold Sorted at hso
      rw [List.pairwise_append, List.pairwise_cons] at hso
      rcases List.mem_append.1 hz' with hz' | hz'
      · have := hA z hz'
        rw [hzq] at this
        cases this
      · rcases List.mem_cons.1 hz' with rfl | hz'
        · exact Int.le_refl _
        · exact Int.le_of_lt (hso.2.1.1 z hz')
    rcases h1 with ⟨_, e1⟩ | ⟨x, hx, e1, e2, e3⟩
    · rw [e1 y hym] at hq; cases hq
    · have a1 := e3 y hym hq
      have a2 := hmin x hx e1
      show _ = y.fID
      omega
theorem bounds_eq {f : TFire} (h : OkF f) {at_ : TSpot} (ha : OkSpot at_) : ref02_bounds f at_ = some (endsS f at_) := by
  have hlen := h.2.1
  unfold ref02_bounds
  rw [rends_eq h ha, Option.bind_some]
  have hm := (loop_foldl (body := ref02_bounds_l1 f at_ ⟨loS f at_, hiS f at_⟩) f.fLooks (fun k (s : Int × Int) => ((k : Int), s.1, s.2)) (fun s x => (minStep (fun x => lowS f at_ x == loS f at_) s.1 x, minStep (fun x => highS f at_ x == hiS f at_) s.2 x)) (0, 0) (fun s => ((f.fLooks.length : Int), s.1, s.2)) (fun _ _ => True) trivial (fun k s hk _ => by
    have c2 : (0 : Int) ≤ (k : Int) ∧ (k : Int) < ((f.fLooks.length : Nat) : Int) := by omega
    refine ⟨?_, trivial⟩
    unfold ref02_bounds_l1 minStep; dsimp only
    rw [ite_t (by omega), guardO_pos c2, rdL_nat hk, rshows_own h ha (List.getElem_mem hk), rshows_own h ha (List.getElem_mem hk), w64_succ (by omega)]
    have t1 : tellS f at_ false = lowS f at_ := rfl
    have t2 : tellS f at_ true = highS f at_ := rfl
    rw [t1, t2]
    dsimp only [Option.bind_some]
    split <;> split <;> rfl) (fun s _ => by
    unfold ref02_bounds_l1; dsimp only
    rw [ite_f (by omega)])).1
  have e0 : loopO (ref02_bounds_l1 f at_ ⟨loS f at_, hiS f at_⟩) (0, 0, 0) = _ := hm
  have hfold : ∀ (l : List TLook) (q r : TLook → Bool) (s : Int × Int), l.foldl (fun s x => (minStep q s.1 x, minStep r s.2 x)) s = (l.foldl (minStep q) s.1, l.foldl (minStep r) s.2) := by
    intro l q r
    induction l with
    | nil => intro s; rfl
    | cons x l ih => intro s; rw [List.foldl_cons, ih]; rfl
  rw [e0, Option.bind_some, hfold]
  dsimp only
  rw [minF_eq h, minF_eq h]
  rfl
theorem rEnds_eq {f : TFire} {at_ : TSpot} (hf : f.fLooks.length < 1000000) : ref02_Ends f at_ = some ⟨(EndsS f at_).1, (EndsS f at_).2⟩ := by
  unfold ref02_Ends EndsS
  rw [asked_eq hf (by simp), askL_one, Option.bind_some]
  by_cases h0 : askS f [at_] = 0
  · have h2 := askS_0.1 h0
    rw [if_pos h0, h0, if_neg (by decide), bounds_eq (CheckS_ok.1 h2.1) (h2.2.1 at_ (by simp))]
    rfl
  · rw [if_neg h0, if_pos (by simpa using h0)]
/-! ### Rests -/
end Go.Proofs.YtndajeiecdmhnaaGreat
