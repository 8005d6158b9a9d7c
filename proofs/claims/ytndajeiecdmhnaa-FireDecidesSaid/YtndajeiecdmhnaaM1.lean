/- Plain laws of fire: loops with an index; what is right; Check. No program in sight. -/
import Derived.Test.YtndajeiecdmhnaaE
set_option linter.unusedVariables false
namespace Go.Proofs.Ytndajeiecdmhnaa

/-! ### Loops -/
theorem loop_for {S T : Type} {body : S → Option (S ⊕ T)} (st : Nat → S) : ∀ (n : Nat), (∀ k, k < n → body (st k) = some (.inl (st (k + 1)))) → loopO body (st 0) = loopO body (st n)
  | 0, _ => rfl
  | n + 1, h => by rw [loop_for st n (fun k hk => h k (by omega)), loopO_next (h n (by omega))]
theorem loop_run {S T : Type} {body : S → Option (S ⊕ T)} (st : Nat → S) (n : Nat) {t : T} (h : ∀ k, k < n → body (st k) = some (.inl (st (k + 1)))) (hs : body (st n) = some (.inr t)) : loopO body (st 0) = some t := by
  rw [loop_for st n h, loopO_stop hs]
/-- A loop that is left at the first index of which R tells something. -/
theorem loop_search {S T : Type} {body : S → Option (S ⊕ T)} (st : Nat → S) (n : Nat) (R : Nat → Option T) {t0 : T} (h : ∀ k, k < n → body (st k) = some (match R k with | none => .inl (st (k + 1)) | some t => .inr t)) (hs : body (st n) = some (.inr t0)) :
    loopO body (st 0) = some (((List.range n).findSome? R).getD t0) := by
  have key : ∀ c k, k + c = n → loopO body (st k) = some (((List.range' k c).findSome? R).getD t0) := by
    intro c
    induction c with
    | zero =>
      intro k hk
      have : k = n := by omega
      subst this
      rw [loopO_stop hs]
      rfl
    | succ c ih =>
      intro k hk
      have hb := h k (by omega)
      rw [List.range'_succ]
      cases hR : R k with
      | none =>
        rw [hR] at hb
        rw [loopO_next hb, ih (k + 1) (by omega)]
        simp [hR]
      | some t =>
        rw [hR] at hb
        rw [loopO_stop hb]
        simp [hR]
  have := key n 0 (by omega)
  rw [this, List.range_eq_range']
theorem ite_t {α : Type} {p : Prop} [Decidable p] {x y : α} (h : p) : (if decide p = true then x else y) = x := by rw [if_pos (decide_eq_true h)]
theorem ite_f {α : Type} {p : Prop} [Decidable p] {x y : α} (h : ¬p) : (if decide p = true then x else y) = y := by rw [if_neg (by rw [decide_eq_false h]; exact Bool.false_ne_true)]
theorem rdL_nat {α : Type} [Inhabited α] {xs : List α} {k : Nat} (h : k < xs.length) : rdL xs (k : Int) = xs[k] := by
  unfold rdL
  rw [Int.toNat_natCast, List.getD_eq_getElem?_getD, List.getElem?_eq_getElem h]
  rfl
theorem w64_succ {k : Nat} (h : k < 9223372036854775807) : w64 ((k : Int) + 1) = ((k + 1 : Nat) : Int) := by
  rw [w64_id (by omega) (by omega)]; rfl
theorem findSome_cases {T : Type} {R : Nat → Option T} {n : Nat} (t0 : T) : ((∀ k, k < n → R k = none) ∧ ((List.range n).findSome? R).getD t0 = t0) ∨ ∃ k t, k < n ∧ R k = some t ∧ (∀ j, j < k → R j = none) ∧ ((List.range n).findSome? R).getD t0 = t := by
  induction n with
  | zero => exact .inl ⟨fun k hk => by omega, rfl⟩
  | succ n ih =>
    rw [List.range_succ, List.findSome?_append]
    rcases ih with ⟨h1, h2⟩ | ⟨k, t, hk, hR, hj, h2⟩
    · have h3 : (List.range n).findSome? R = none := List.findSome?_eq_none_iff.2 (fun x hx => h1 x (List.mem_range.1 hx))
      rw [h3]
      cases hR : R n with
      | none => exact .inl ⟨fun k hk => by rcases Nat.lt_or_ge k n with h | h; · exact h1 k h
                                           · rw [show k = n by omega]; exact hR, by simp [hR]⟩
      | some t => exact .inr ⟨n, t, by omega, hR, h1, by simp [hR]⟩
    · refine .inr ⟨k, t, by omega, hR, hj, ?_⟩
      have h3 : ((List.range n).findSome? R) = some t := by
        cases hf : (List.range n).findSome? R with
        | none => have := List.findSome?_eq_none_iff.1 hf k (List.mem_range.2 hk); rw [hR] at this; cases this
        | some u => rw [hf] at h2; exact congrArg some h2
      rw [h3]
      rfl
theorem search_none {T : Type} {R : Nat → Option T} {n : Nat} {t0 : T} (h : ∀ k, k < n → R k = none) : ((List.range n).findSome? R).getD t0 = t0 := by
  rw [List.findSome?_eq_none_iff.2 (fun x hx => h x (List.mem_range.1 hx))]; rfl
theorem search_some {T : Type} {R : Nat → Option T} {n : Nat} {t0 t : T} (k : Nat) (hk : k < n) (hR : R k = some t) (hj : ∀ j, j < k → R j = none) : ((List.range n).findSome? R).getD t0 = t := by
  rcases findSome_cases (R := R) (n := n) t0 with ⟨h, _⟩ | ⟨k', t', hk', hR', hj', h⟩
  · rw [h k hk] at hR; cases hR
  · rcases Nat.lt_trichotomy k k' with h' | h' | h'
    · rw [hj' k h'] at hR; cases hR
    · subst h'; rw [hR] at hR'; cases hR'; exact h
    · rw [hj k' h'] at hR'; cases hR'

/-! ### What is right -/
theorem TLook_eta (x : TLook) : TLook.mk x.fID (TSpot.mk x.fAt.fFoot x.fAt.fHour) (TSpan.mk x.fHeat.fLo x.fHeat.fHi) = x := rfl
theorem TSpot_eta (x : TSpot) : TSpot.mk x.fFoot x.fHour = x := rfl
def OkSpot (s : TSpot) : Prop := (0 ≤ s.fFoot ∧ s.fFoot ≤ 60) ∧ 0 ≤ s.fHour ∧ s.fHour ≤ 16384
def OkHeat (n : Int) : Prop := 0 ≤ n ∧ n ≤ 1500
def OkLook (x : TLook) : Prop := (1 ≤ x.fID ∧ x.fID ≤ 1099511627776) ∧ OkSpot x.fAt ∧ OkHeat x.fHeat.fLo ∧ OkHeat x.fHeat.fHi ∧ x.fHeat.fLo ≤ x.fHeat.fHi
def OkSl (f : TFire) : Prop := (0 ≤ f.fRise ∧ f.fRise ≤ 200) ∧ (0 ≤ f.fFall ∧ f.fFall ≤ 200) ∧ (0 ≤ f.fUp ∧ f.fUp ≤ 200) ∧ 0 ≤ f.fDown ∧ f.fDown ≤ 200
instance (s : TSpot) : Decidable (OkSpot s) := by unfold OkSpot; infer_instance
instance (n : Int) : Decidable (OkHeat n) := by unfold OkHeat; infer_instance
instance (x : TLook) : Decidable (OkLook x) := by unfold OkLook; infer_instance
instance (f : TFire) : Decidable (OkSl f) := by unfold OkSl; infer_instance
theorem within_eq (n lo hi : Int) : fire_within n lo hi = some (decide (lo ≤ n ∧ n ≤ hi)) := by unfold fire_within; rw [Bool.decide_and]
theorem right_eq (s : TSpot) : fire_right s = some (decide (OkSpot s)) := by
  unfold fire_right OkSpot
  rw [within_eq, within_eq]
  by_cases h : 0 ≤ s.fFoot ∧ s.fFoot ≤ 60 <;> simp [h]
theorem heat_eq (n : Int) : fire_heat n = some (decide (OkHeat n)) := by unfold fire_heat OkHeat; rw [within_eq]; rfl
theorem rightLook_eq (x : TLook) : fire_rightLook x = some (decide (OkLook x)) := by
  unfold fire_rightLook OkLook
  rw [within_eq, right_eq, heat_eq, heat_eq]
  by_cases h1 : 1 ≤ x.fID ∧ x.fID ≤ 1099511627776 <;> by_cases h2 : OkSpot x.fAt <;> by_cases h3 : OkHeat x.fHeat.fLo <;> by_cases h4 : OkHeat x.fHeat.fHi <;> simp [h1, h2, h3, h4]
/-! ### Indices -/
/-- The first index of which q is so; -1 if there is none. -/
def idxI {α : Type} [Inhabited α] (l : List α) (q : α → Bool) : Int := ((List.range l.length).findSome? fun k => if q (l.getD k default) = true then some (k : Int) else none).getD (-1)
theorem getD_lt {α : Type} [Inhabited α] {l : List α} {k : Nat} (h : k < l.length) : l.getD k default = l[k] := by
  rw [List.getD_eq_getElem?_getD, List.getElem?_eq_getElem h]; rfl
theorem idxI_cases {α : Type} [Inhabited α] (l : List α) (q : α → Bool) : ((∀ x ∈ l, q x = false) ∧ idxI l q = -1) ∨ ∃ k, ∃ h : k < l.length, q l[k] = true ∧ (∀ j, (hj : j < k) → q (l[j]'(by omega)) = false) ∧ idxI l q = (k : Int) := by
  unfold idxI
  rcases findSome_cases (R := fun k => if q (l.getD k default) = true then some (k : Int) else none) (n := l.length) (-1) with ⟨h, h2⟩ | ⟨k, t, hk, hR, hj, h2⟩
  · refine .inl ⟨fun x hx => ?_, h2⟩
    obtain ⟨k, hk, rfl⟩ := List.mem_iff_getElem.1 hx
    have := h k hk
    rw [getD_lt hk] at this
    cases hq : q l[k]
    · rfl
    · rw [hq] at this; simp at this
  · rw [getD_lt hk] at hR
    cases hq : q l[k] with
    | false => rw [hq] at hR; simp at hR
    | true =>
      rw [hq] at hR
      simp only [if_true] at hR
      refine .inr ⟨k, hk, hq, fun j hj' => ?_, h2.trans (Option.some.inj hR).symm⟩
      have := hj j hj'
      rw [getD_lt (by omega)] at this
      cases hq' : q (l[j]'(by omega))
      · rfl
      · rw [hq'] at this; simp at this
theorem IndexLook_eq {l : List TLook} {f : TLook → Option Bool} {q : TLook → Bool} (hl : l.length < 1000000000) (h : ∀ x ∈ l, f x = some (q x)) : slices_IndexFunc_calx_api_Look_calx_api_Look l f = some (idxI l q) := by
  unfold slices_IndexFunc_calx_api_Look_calx_api_Look
  have := loop_search (body := slices_IndexFunc_calx_api_Look_calx_api_Look_l1 l f) (fun k => ((0 : Int), (k : Int))) l.length (fun k => if q (l.getD k default) = true then some (Sum.inl ((k : Int), (k : Int))) else none) (t0 := .inr (0, (l.length : Int))) (fun k hk => by
    have c1 : decide ((k : Int) < ((l.length : Nat) : Int)) = true := decide_eq_true (by omega)
    have c2 : (0 : Int) ≤ (k : Int) ∧ (k : Int) < ((l.length : Nat) : Int) := by omega
    unfold slices_IndexFunc_calx_api_Look_calx_api_Look_l1; dsimp only
    simp only [c1, if_true, guardO_pos c2, rdL_nat hk, TLook_eta, h _ (List.getElem_mem hk), Option.bind_some, getD_lt hk, w64_succ (show k < 9223372036854775807 by omega)]
    cases q l[k] <;> rfl) (by
    unfold slices_IndexFunc_calx_api_Look_calx_api_Look_l1; dsimp only
    rw [ite_f (by omega)])
  have h0 : loopO (slices_IndexFunc_calx_api_Look_calx_api_Look_l1 l f) (0, 0) = _ := this
  rw [h0, Option.bind_some]
  unfold idxI
  rcases findSome_cases (R := fun k => if q (l.getD k default) = true then some (Sum.inl ((k : Int), (k : Int)) : (Int × Int) ⊕ (Int × Int)) else none) (n := l.length) (.inr (0, (l.length : Int))) with ⟨hn, h2⟩ | ⟨k, t, hk, hR, hj, h2⟩
  · rw [h2, search_none (fun k hk => by have := hn k hk; split at this <;> simp_all)]
  · rw [h2]
    have hq : q (l.getD k default) = true := by by_cases hq : q (l.getD k default) = true; · exact hq
                                                · rw [if_neg hq] at hR; cases hR
    rw [if_pos hq] at hR
    cases hR
    rw [search_some k hk (by rw [if_pos hq]) (fun j hj' => by have := hj j hj'; split at this <;> simp_all)]
theorem IndexSpot_eq {l : List TSpot} {f : TSpot → Option Bool} {q : TSpot → Bool} (hl : l.length < 1000000000) (h : ∀ x ∈ l, f x = some (q x)) : slices_IndexFunc_calx_api_Spot_calx_api_Spot l f = some (idxI l q) := by
  unfold slices_IndexFunc_calx_api_Spot_calx_api_Spot
  have := loop_search (body := slices_IndexFunc_calx_api_Spot_calx_api_Spot_l1 l f) (fun k => ((0 : Int), (k : Int))) l.length (fun k => if q (l.getD k default) = true then some (Sum.inl ((k : Int), (k : Int))) else none) (t0 := .inr (0, (l.length : Int))) (fun k hk => by
    have c1 : decide ((k : Int) < ((l.length : Nat) : Int)) = true := decide_eq_true (by omega)
    have c2 : (0 : Int) ≤ (k : Int) ∧ (k : Int) < ((l.length : Nat) : Int) := by omega
    unfold slices_IndexFunc_calx_api_Spot_calx_api_Spot_l1; dsimp only
    simp only [c1, if_true, guardO_pos c2, rdL_nat hk, TSpot_eta, h _ (List.getElem_mem hk), Option.bind_some, getD_lt hk, w64_succ (show k < 9223372036854775807 by omega)]
    cases q l[k] <;> rfl) (by
    unfold slices_IndexFunc_calx_api_Spot_calx_api_Spot_l1; dsimp only
    rw [ite_f (by omega)])
  have h0 : loopO (slices_IndexFunc_calx_api_Spot_calx_api_Spot_l1 l f) (0, 0) = _ := this
  rw [h0, Option.bind_some]
  unfold idxI
  rcases findSome_cases (R := fun k => if q (l.getD k default) = true then some (Sum.inl ((k : Int), (k : Int)) : (Int × Int) ⊕ (Int × Int)) else none) (n := l.length) (.inr (0, (l.length : Int))) with ⟨hn, h2⟩ | ⟨k, t, hk, hR, hj, h2⟩
  · rw [h2, search_none (fun k hk => by have := hn k hk; split at this <;> simp_all)]
  · rw [h2]
    have hq : q (l.getD k default) = true := by by_cases hq : q (l.getD k default) = true; · exact hq
                                                · rw [if_neg hq] at hR; cases hR
    rw [if_pos hq] at hR
    cases hR
    rw [search_some k hk (by rw [if_pos hq]) (fun j hj' => by have := hj j hj'; split at this <;> simp_all)]
theorem find_eq {l : List TLook} {id : Int} (hl : l.length < 1000000000) : fire_find l id = some (idxI l fun x => x.fID == id) := by
  unfold fire_find
  rw [IndexLook_eq (f := fun x2 => fire_find_1 x2 id) (q := fun x => x.fID == id) hl (fun x _ => rfl)]
  rfl
end Go.Proofs.Ytndajeiecdmhnaa
