/- Plain laws of fire: Check, in the program and in the reference; how far it is; two looks against each other. No program in sight. -/
import Derived.Test.YtndajeiecdmhnaaM1
set_option linter.unusedVariables false
namespace Go.Proofs.Ytndajeiecdmhnaa

/-! ### Check -/
/-- The error of look number k. -/
def errL (l : List TLook) (k : Nat) : Option Int := if OkLook (l.getD k default) then if idxI l (fun x => x.fID == (l.getD k default).fID) < (k : Int) then some 6 else none else some 1
def LooksS (l : List TLook) : Int := ((List.range l.length).findSome? (errL l)).getD 0
def CheckS (f : TFire) : Int := if OkSl f then if 24 < f.fLooks.length then 2 else LooksS f.fLooks else 1
theorem idxI_lt {l : List TLook} {k : Nat} (hk : k < l.length) : idxI l (fun x => x.fID == (l.getD k default).fID) < (k : Int) ↔ ∃ j, ∃ h : j < k, (l[j]'(by omega)).fID = l[k].fID := by
  rw [getD_lt hk]
  rcases idxI_cases l (fun x => x.fID == l[k].fID) with ⟨h, h2⟩ | ⟨i, hi, hq, hj, h2⟩
  · have := h l[k] (List.getElem_mem hk)
    simp at this
  · rw [h2]
    constructor
    · intro h
      exact ⟨i, by omega, by simpa using hq⟩
    · rintro ⟨j, hjk, he⟩
      rcases Nat.lt_or_ge j i with h | h
      · have := hj j h
        simp [he] at this
      · omega
theorem LooksS_0 {l : List TLook} : LooksS l = 0 ↔ (∀ x ∈ l, OkLook x) ∧ (l.map (·.fID)).Nodup := by
  unfold LooksS
  rcases findSome_cases (R := errL l) (n := l.length) 0 with ⟨h, h2⟩ | ⟨k, t, hk, hR, hj, h2⟩
  · rw [h2]
    refine ⟨fun _ => ⟨fun x hx => ?_, ?_⟩, fun _ => rfl⟩
    · obtain ⟨k, hk, rfl⟩ := List.mem_iff_getElem.1 hx
      have := h k hk
      unfold errL at this
      rw [getD_lt hk] at this
      by_cases ho : OkLook l[k]
      · exact ho
      · rw [if_neg ho] at this; cases this
    · rw [List.nodup_iff_pairwise_ne, List.pairwise_iff_getElem]
      intro i j hi hj hij he
      rw [List.getElem_map, List.getElem_map] at he
      simp only [List.length_map] at hi hj
      have := h j hj
      unfold errL at this
      split at this
      · rw [if_pos ((idxI_lt hj).2 ⟨i, hij, he⟩)] at this
        cases this
      · cases this
  · rw [h2]
    constructor
    · intro h0
      subst h0
      unfold errL at hR
      split at hR
      · split at hR <;> cases hR
      · cases hR
    · rintro ⟨h3, h4⟩
      exfalso
      unfold errL at hR
      rw [if_pos (by rw [getD_lt hk]; exact h3 _ (List.getElem_mem hk))] at hR
      split at hR
      · rename_i hlt
        obtain ⟨j, hjk, he⟩ := (idxI_lt hk).1 hlt
        rw [List.nodup_iff_pairwise_ne, List.pairwise_iff_getElem] at h4
        exact h4 j k (by simp; omega) (by simp; omega) hjk (by rw [List.getElem_map, List.getElem_map]; exact he)
      · cases hR
theorem CheckS_0 {f : TFire} : CheckS f = 0 ↔ OkSl f ∧ f.fLooks.length ≤ 24 ∧ (∀ x ∈ f.fLooks, OkLook x) ∧ (f.fLooks.map (·.fID)).Nodup := by
  unfold CheckS
  by_cases h1 : OkSl f
  · rw [if_pos h1]
    by_cases h2 : 24 < f.fLooks.length
    · rw [if_pos h2]
      exact ⟨fun h => (by cases h), fun h => by omega⟩
    · rw [if_neg h2, LooksS_0]
      exact ⟨fun h => ⟨h1, by omega, h⟩, fun h => h.2.2⟩
  · rw [if_neg h1]
    exact ⟨fun h => (by cases h), fun h => absurd h.1 h1⟩
theorem errL_rg {l : List TLook} {k : Nat} {t : Int} (h : errL l k = some t) : t = 1 ∨ t = 6 := by
  unfold errL at h
  split at h
  · split at h
    · cases h; exact .inr rfl
    · cases h
  · cases h; exact .inl rfl
theorem sl_l1 (f : TFire) (i v : Int) (hi : 0 ≤ i ∧ i < 4) (h1 : sel4 f.fRise f.fFall f.fUp f.fDown i = v) : fire_Check_l1 f (0, i) = if 0 ≤ v ∧ v ≤ 200 then some (.inl (0, i + 1)) else some (.inr (.inl (1, i))) := by
  unfold fire_Check_l1; dsimp only
  rw [ite_t hi.2, guardO_pos hi, h1, within_eq, w64_id (by omega) (by omega)]
  by_cases h : 0 ≤ v ∧ v ≤ 200 <;> simp [h]
theorem sl_run (f : TFire) : (OkSl f ∧ loopO (fire_Check_l1 f) (0, 0) = some (.inr (0, 4))) ∨ (¬ OkSl f ∧ ∃ i, loopO (fire_Check_l1 f) (0, 0) = some (.inl (1, i))) := by
  have e0 := sl_l1 f 0 f.fRise (by decide) rfl
  have e1 := sl_l1 f (0 + 1) f.fFall (by decide) rfl
  have e2 := sl_l1 f (0 + 1 + 1) f.fUp (by decide) rfl
  have e3 := sl_l1 f (0 + 1 + 1 + 1) f.fDown (by decide) rfl
  unfold OkSl
  by_cases h0 : 0 ≤ f.fRise ∧ f.fRise ≤ 200
  · rw [if_pos h0] at e0
    by_cases h1 : 0 ≤ f.fFall ∧ f.fFall ≤ 200
    · rw [if_pos h1] at e1
      by_cases h2 : 0 ≤ f.fUp ∧ f.fUp ≤ 200
      · rw [if_pos h2] at e2
        by_cases h3 : 0 ≤ f.fDown ∧ f.fDown ≤ 200
        · rw [if_pos h3] at e3
          refine .inl ⟨⟨h0, h1, h2, h3⟩, ?_⟩
          rw [loopO_next e0, loopO_next e1, loopO_next e2, loopO_next e3]
          exact loopO_stop rfl
        · rw [if_neg h3] at e3
          exact .inr ⟨fun h => h3 h.2.2.2, _, by rw [loopO_next e0, loopO_next e1, loopO_next e2]; exact loopO_stop e3⟩
      · rw [if_neg h2] at e2
        exact .inr ⟨fun h => h2 h.2.2.1, _, by rw [loopO_next e0, loopO_next e1]; exact loopO_stop e2⟩
    · rw [if_neg h1] at e1
      exact .inr ⟨fun h => h1 h.2.1, _, by rw [loopO_next e0]; exact loopO_stop e1⟩
  · rw [if_neg h0] at e0
    exact .inr ⟨fun h => h0 h.1, _, loopO_stop e0⟩
theorem Check_eq (f : TFire) (hl : f.fLooks.length < 1000000000) : fire_Check f = some (CheckS f) := by
  unfold fire_Check CheckS
  rcases sl_run f with ⟨h1, h2⟩ | ⟨h1, i, h2⟩
  · rw [h2, if_pos h1]
    dsimp only [Option.bind_some]
    by_cases h3 : 24 < f.fLooks.length
    · rw [if_pos h3, ite_t (by omega)]
    · rw [if_neg h3, ite_f (by omega)]
      have := loop_search (body := fire_Check_l2 f) (fun k => ((0 : Int), (k : Int))) f.fLooks.length (fun k => (errL f.fLooks k).map fun e => Sum.inl (e, (k : Int))) (t0 := .inr (0, (f.fLooks.length : Int))) (fun k hk => by
        have c1 : decide ((k : Int) < ((f.fLooks.length : Nat) : Int)) = true := decide_eq_true (by omega)
        have c2 : (0 : Int) ≤ (k : Int) ∧ (k : Int) < ((f.fLooks.length : Nat) : Int) := by omega
        unfold fire_Check_l2 errL; dsimp only
        simp only [c1, if_true, guardO_pos c2, rdL_nat hk, TLook_eta, rightLook_eq, Option.bind_some, getD_lt hk, w64_succ (show k < 9223372036854775807 by omega), find_eq hl]
        by_cases ho : OkLook f.fLooks[k]
        · by_cases hi : idxI f.fLooks (fun x => x.fID == f.fLooks[k].fID) < (k : Int) <;> simp [ho, hi]
        · simp [ho]) (by
        unfold fire_Check_l2; dsimp only
        rw [ite_f (by omega)])
      have h0 : loopO (fire_Check_l2 f) (0, 0) = _ := this
      rw [h0, Option.bind_some]
      unfold LooksS
      rcases findSome_cases (R := fun k => (errL f.fLooks k).map fun e => (Sum.inl (e, (k : Int)) : (Int × Int) ⊕ (Int × Int))) (n := f.fLooks.length) (.inr (0, (f.fLooks.length : Int))) with ⟨hn, h4⟩ | ⟨k, t, hk, hR, hj, h4⟩
      · rw [h4, search_none (fun k hk => by have := hn k hk; cases he : errL f.fLooks k; rfl; rw [he] at this; cases this)]
      · rw [h4]
        cases he : errL f.fLooks k with
        | none => rw [he] at hR; cases hR
        | some e =>
          rw [he] at hR
          cases hR
          rw [search_some k hk he (fun j hj' => by have := hj j hj'; cases he : errL f.fLooks j; rfl; rw [he] at this; cases this)]
  · rw [h2, if_neg h1]
    rfl
/-! ### How far -/
def farS (f : TFire) (p q : TSpot) : Int := f.fRise * max 0 (q.fHour - p.fHour) + f.fFall * max 0 (p.fHour - q.fHour) + f.fUp * max 0 (q.fFoot - p.fFoot) + f.fDown * max 0 (p.fFoot - q.fFoot)
theorem mul_rg {a b c : Int} (ha : 0 ≤ a ∧ a ≤ 200) (hb : 0 ≤ b ∧ b ≤ c) : 0 ≤ a * b ∧ a * b ≤ 200 * c := by
  refine ⟨Int.mul_nonneg ha.1 hb.1, ?_⟩
  have h1 : a * b ≤ 200 * b := Int.mul_le_mul_of_nonneg_right ha.2 hb.1
  omega
theorem far_parts {f : TFire} {p q : TSpot} (hf : OkSl f) (hp : OkSpot p) (hq : OkSpot q) : (0 ≤ f.fRise * max 0 (q.fHour - p.fHour) ∧ f.fRise * max 0 (q.fHour - p.fHour) ≤ 3276800) ∧ (0 ≤ f.fFall * max 0 (p.fHour - q.fHour) ∧ f.fFall * max 0 (p.fHour - q.fHour) ≤ 3276800) ∧ (0 ≤ f.fUp * max 0 (q.fFoot - p.fFoot) ∧ f.fUp * max 0 (q.fFoot - p.fFoot) ≤ 12000) ∧ (0 ≤ f.fDown * max 0 (p.fFoot - q.fFoot) ∧ f.fDown * max 0 (p.fFoot - q.fFoot) ≤ 12000) := by
  unfold OkSl at hf
  unfold OkSpot at hp hq
  exact ⟨mul_rg (c := 16384) hf.1 (by omega), mul_rg (c := 16384) hf.2.1 (by omega), mul_rg (c := 60) hf.2.2.1 (by omega), mul_rg (c := 60) hf.2.2.2 (by omega)⟩
theorem far_rg {f : TFire} {p q : TSpot} (hf : OkSl f) (hp : OkSpot p) (hq : OkSpot q) : 0 ≤ farS f p q ∧ farS f p q ≤ 10000000 := by
  have := far_parts hf hp hq
  unfold farS
  omega
theorem far_l1 (f : TFire) (p q : TSpot) (n i s v : Int) (hi : 0 ≤ i ∧ i < 4) (h1 : sel4 f.fRise f.fFall f.fUp f.fDown i = s) (h2 : sel4 (w64 (q.fHour - p.fHour)) (w64 (p.fHour - q.fHour)) (w64 (q.fFoot - p.fFoot)) (w64 (p.fFoot - q.fFoot)) i = v)
    (hn : 0 ≤ n ∧ n ≤ 10000000) (hv : 0 ≤ s * max 0 v ∧ s * max 0 v ≤ 10000000) : fire_far_l1 f p q (n, i) = some (.inl (n + s * max 0 v, i + 1)) := by
  unfold fire_far_l1; dsimp only
  rw [ite_t hi.2, guardO_pos hi, guardO_pos hi, h1, h2]
  generalize s * max 0 v = m at *
  rw [w64_id (x := m) (by omega) (by omega), w64_id (x := n + m) (by omega) (by omega), w64_id (x := i + 1) (by omega) (by omega)]
theorem far_eq {f : TFire} {p q : TSpot} (hf : OkSl f) (hp : OkSpot p) (hq : OkSpot q) : fire_far f p q = some (farS f p q) := by
  have hpt := far_parts hf hp hq
  have hp' := hp
  have hq' := hq
  unfold OkSpot at hp' hq'
  have w1 : w64 (q.fHour - p.fHour) = q.fHour - p.fHour := w64_id (by omega) (by omega)
  have w2 : w64 (p.fHour - q.fHour) = p.fHour - q.fHour := w64_id (by omega) (by omega)
  have w3 : w64 (q.fFoot - p.fFoot) = q.fFoot - p.fFoot := w64_id (by omega) (by omega)
  have w4 : w64 (p.fFoot - q.fFoot) = p.fFoot - q.fFoot := w64_id (by omega) (by omega)
  obtain ⟨g1, g2, g3, g4⟩ := hpt
  have e0 := far_l1 f p q 0 0 f.fRise (q.fHour - p.fHour) (by decide) rfl (by rw [w1]; rfl) (by decide) (by omega)
  generalize hA : f.fRise * max 0 (q.fHour - p.fHour) = A at *
  have e1 := far_l1 f p q (0 + A) (0 + 1) f.fFall (p.fHour - q.fHour) (by decide) rfl (by rw [w2]; rfl) (by omega) (by omega)
  generalize hB : f.fFall * max 0 (p.fHour - q.fHour) = B at *
  have e2 := far_l1 f p q (0 + A + B) (0 + 1 + 1) f.fUp (q.fFoot - p.fFoot) (by decide) rfl (by rw [w3]; rfl) (by omega) (by omega)
  generalize hC : f.fUp * max 0 (q.fFoot - p.fFoot) = C at *
  have e3 := far_l1 f p q (0 + A + B + C) (0 + 1 + 1 + 1) f.fDown (p.fFoot - q.fFoot) (by decide) rfl (by rw [w4]; rfl) (by omega) (by omega)
  generalize hD : f.fDown * max 0 (p.fFoot - q.fFoot) = D at *
  have e4 : fire_far_l1 f p q (0 + A + B + C + D, 0 + 1 + 1 + 1 + 1) = some (.inr (0 + A + B + C + D, 4)) := by
    unfold fire_far_l1; dsimp only
    rw [ite_f (by decide)]
    rfl
  unfold fire_far farS
  rw [loopO_next e0, loopO_next e1, loopO_next e2, loopO_next e3, loopO_stop e4, hA, hB, hC, hD, Int.zero_add]
  rfl
theorem far_self (f : TFire) (p : TSpot) : farS f p p = 0 := by unfold farS; simp
theorem far_tri {f : TFire} (hf : OkSl f) (p q r : TSpot) : farS f p r ≤ farS f p q + farS f q r := by
  have key : ∀ (s a b c : Int), 0 ≤ s → s * max 0 (c - a) ≤ s * max 0 (b - a) + s * max 0 (c - b) := by
    intro s a b c hs
    rw [← Int.mul_add]
    exact Int.mul_le_mul_of_nonneg_left (by omega) hs
  unfold OkSl at hf
  have h1 := key f.fRise p.fHour q.fHour r.fHour (by omega)
  have h2 := key f.fFall r.fHour q.fHour p.fHour (by omega)
  have h3 := key f.fUp p.fFoot q.fFoot r.fFoot (by omega)
  have h4 := key f.fDown r.fFoot q.fFoot p.fFoot (by omega)
  unfold farS
  omega
def agS (f : TFire) (a b : TLook) : Bool := decide (a.fHeat.fHi + farS f a.fAt b.fAt < b.fHeat.fLo)
theorem against_eq {f : TFire} {a b : TLook} (hf : OkSl f) (ha : OkLook a) (hb : OkLook b) : fire_against f a b = some (agS f a b) := by
  have hr := far_rg hf ha.2.1 hb.2.1
  have h1 := ha.2.2.2.1
  unfold OkHeat at h1
  unfold fire_against agS
  rw [far_eq hf ha.2.1 hb.2.1, Option.bind_some, w64_id (by omega) (by omega)]
end Go.Proofs.Ytndajeiecdmhnaa
