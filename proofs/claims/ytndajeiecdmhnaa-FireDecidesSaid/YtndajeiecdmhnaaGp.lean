/- Plain words: loops as functions that hand back nothing where they never end; guards. No program in sight. -/
namespace Go.Proofs.Ytndajeiecdmhnaa

def loopN {S T : Type} (body : S → Option (S ⊕ T)) : Nat → S → Option T
  | 0, _ => none
  | k + 1, s => match body s with
    | none => none
    | some (.inl s') => loopN body k s'
    | some (.inr t) => some t
open Classical in
noncomputable def loopO {S T : Type} (body : S → Option (S ⊕ T)) (s : S) : Option T :=
  if h : ∃ t k, loopN body k s = some t then some (choose h) else none

section
variable {S T : Type} {body : S → Option (S ⊕ T)}
theorem loopN_more : ∀ (k : Nat) (s : S) (t : T), loopN body k s = some t → ∀ j, loopN body (k + j) s = some t
  | 0, s, t, h, _ => by cases h
  | k + 1, s, t, h, j => by
    rw [show k + 1 + j = (k + j) + 1 by omega]
    unfold loopN at h ⊢
    split
    · rename_i hb; rw [hb] at h; cases h
    · rename_i s' hb; rw [hb] at h; exact loopN_more k s' t h j
    · rename_i t' hb; rw [hb] at h; exact h
theorem loopN_same {k j : Nat} {s : S} {t u : T} (h : loopN body k s = some t) (h' : loopN body j s = some u) : t = u := by
  have h1 := loopN_more k s t h j
  have h2 := loopN_more j s u h' k
  rw [Nat.add_comm] at h2
  rw [h1] at h2
  exact Option.some.inj h2
theorem loopO_of {k : Nat} {s : S} {t : T} (h : loopN body k s = some t) : loopO body s = some t := by
  have hx : ∃ t k, loopN body k s = some t := ⟨t, k, h⟩
  unfold loopO
  rw [dif_pos hx]
  obtain ⟨j, hj⟩ := Classical.choose_spec hx
  rw [loopN_same hj h]
theorem loopO_some {s : S} {t : T} (h : loopO body s = some t) : ∃ k, loopN body k s = some t := by
  unfold loopO at h
  split at h
  · rename_i hx
    obtain ⟨j, hj⟩ := Classical.choose_spec hx
    exact ⟨j, by rw [hj]; exact h⟩
  · cases h
/-- One round. -/
theorem loopO_eq (s : S) : loopO body s = (body s).bind fun | .inl s' => loopO body s' | .inr t => some t := by
  cases hb : body s with
  | none =>
    cases hl : loopO body s with
    | none => rfl
    | some t =>
      obtain ⟨k, hk⟩ := loopO_some hl
      cases k with
      | zero => cases hk
      | succ k => unfold loopN at hk; rw [hb] at hk; cases hk
  | some st =>
    cases st with
    | inl s' =>
      show loopO body s = loopO body s'
      cases hl : loopO body s' with
      | none =>
        cases hl' : loopO body s with
        | none => rfl
        | some t =>
          obtain ⟨k, hk⟩ := loopO_some hl'
          cases k with
          | zero => cases hk
          | succ k =>
            unfold loopN at hk
            rw [hb] at hk
            rw [loopO_of hk] at hl
            cases hl
      | some t =>
        obtain ⟨k, hk⟩ := loopO_some hl
        exact loopO_of (k := k + 1) (by unfold loopN; rw [hb]; exact hk)
    | inr t => exact loopO_of (k := 1) (by unfold loopN; rw [hb])
theorem loopO_next {s s' : S} (h : body s = some (.inl s')) : loopO body s = loopO body s' := by rw [loopO_eq, h]; rfl
theorem loopO_stop {s : S} {t : T} (h : body s = some (.inr t)) : loopO body s = some t := by rw [loopO_eq, h]; rfl
/-- A loop whose measure falls, and what holds at its head. -/
theorem loopO_inv (I : S → Prop) (R : S → T → Prop) (μ : S → Nat) (h : ∀ s, I s → (∃ s', body s = some (.inl s') ∧ I s' ∧ μ s' < μ s ∧ ∀ t, R s' t → R s t) ∨ ∃ t, body s = some (.inr t) ∧ R s t) (s : S) (hs : I s) : ∃ t, loopO body s = some t ∧ R s t := by
  generalize hn : μ s = n
  induction n using Nat.strongRecOn generalizing s with
  | _ n ih =>
    rcases h s hs with ⟨s', hb, hI, hlt, hR⟩ | ⟨t, hb, hR⟩
    · obtain ⟨t, ht, hR'⟩ := ih (μ s') (by omega) s' hI rfl
      exact ⟨t, by rw [loopO_next hb]; exact ht, hR t hR'⟩
    · exact ⟨t, loopO_stop hb, hR⟩
end

theorem bind_some {α β : Type} {x : Option α} {f : α → Option β} {b : β} (h : x.bind f = some b) : ∃ a, x = some a ∧ f a = some b := by
  cases x with
  | none => cases h
  | some a => exact ⟨a, rfl, h⟩
def guardO {α : Type} (c : Prop) [Decidable c] (x : Option α) : Option α := if c then x else none
theorem guardO_some {α : Type} {c : Prop} [Decidable c] {x : Option α} {a : α} (h : guardO c x = some a) : c ∧ x = some a := by
  unfold guardO at h
  split at h
  · exact ⟨by assumption, h⟩
  · cases h
theorem guardO_pos {α : Type} {c : Prop} [Decidable c] {x : Option α} (h : c) : guardO c x = x := by unfold guardO; rw [if_pos h]
theorem ite_some {α : Type} {p : Bool} {x y : Option α} {a : α} (h : (if p = true then x else y) = some a) : (p = true ∧ x = some a) ∨ (p = false ∧ y = some a) := by
  cases p
  · exact .inr ⟨rfl, h⟩
  · exact .inl ⟨rfl, h⟩

def rdL {α : Type} [Inhabited α] (xs : List α) (i : Int) : α := xs.getD i.toNat default
def w64 (x : Int) : Int := (x + 9223372036854775808) % 18446744073709551616 - 9223372036854775808
theorem w64_id {x : Int} (h1 : -9223372036854775808 ≤ x) (h2 : x ≤ 9223372036854775807) : w64 x = x := by unfold w64; omega
/-- A list gone through. -/
def foldO {S T α : Type} (f : S → α → Option (S ⊕ T)) : List α → S → Option (S ⊕ T)
  | [], s => some (.inl s)
  | x :: xs, s => match f s x with
    | none => none
    | some (.inl s') => foldO f xs s'
    | some (.inr t) => some (.inr t)
theorem foldO_snoc {S T α : Type} {f : S → α → Option (S ⊕ T)} {x : α} : ∀ (xs : List α) (s s' : S), foldO f xs s = some (.inl s') → foldO f (xs ++ [x]) s = f s' x
  | [], s, s', h => by
    cases h
    show (match f s x with | none => none | some (.inl s') => foldO f [] s' | some (.inr t) => some (.inr t)) = _
    rcases f s x with _ | (_ | _) <;> rfl
  | y :: ys, s, s', h => by
    unfold foldO at h
    rw [List.cons_append]
    unfold foldO
    cases hf : f s y with
    | none => rw [hf] at h; cases h
    | some st =>
      rw [hf] at h
      cases st with
      | inl s1 => exact foldO_snoc ys s1 s' h
      | inr t => cases h
theorem foldO_app {S T α : Type} {f : S → α → Option (S ⊕ T)} : ∀ (xs ys : List α) (s s' : S), foldO f xs s = some (.inl s') → foldO f (xs ++ ys) s = foldO f ys s'
  | [], _, _, _, h => by cases h; rfl
  | x :: xs, ys, s, s', h => by
    unfold foldO at h
    rw [List.cons_append]
    conv => lhs; unfold foldO
    cases hf : f s x with
    | none => rw [hf] at h; cases h
    | some st =>
      rw [hf] at h
      cases st with
      | inl s1 => exact foldO_app xs ys s1 s' h
      | inr t => cases h
theorem foldO_step {S T α : Type} {f : S → α → Option (S ⊕ T)} {xs : List α} {s s' : S} {st : S ⊕ T} {i : Nat} {x : α} (hl : foldO f xs s = some st) (hi : foldO f (xs.take i) s = some (.inl s')) (hx : xs[i]? = some x) :
    ∃ r, f s' x = some r ∧ foldO f (xs.take (i + 1)) s = some r ∧ (∀ t, r = .inr t → st = .inr t) := by
  have hlt : i < xs.length := (List.getElem?_eq_some_iff.1 hx).1
  have hxe : xs[i] = x := (List.getElem?_eq_some_iff.1 hx).2
  have ht : xs.take (i + 1) = xs.take i ++ [x] := by rw [List.take_add_one, hx]; rfl
  have hsp : xs = xs.take i ++ (x :: xs.drop (i + 1)) := by rw [← hxe, ← List.drop_eq_getElem_cons hlt, List.take_append_drop]
  have h2 := foldO_app (xs.take i) (x :: xs.drop (i + 1)) s s' hi
  rw [← hsp, hl] at h2
  rw [ht, foldO_snoc _ _ _ hi]
  unfold foldO at h2
  cases hf : f s' x with
  | none => rw [hf] at h2; cases h2
  | some r =>
    refine ⟨r, rfl, rfl, fun t e => ?_⟩
    subst e
    rw [hf] at h2
    exact Option.some.inj h2


/-- One knows no more than the other. -/
def LeO {α : Type} (x y : Option α) : Prop := ∀ r, x = some r → y = some r
theorem LeO.refl {α : Type} (x : Option α) : LeO x x := fun _ h => h
theorem LeO.bind {α β : Type} {x y : Option α} {f g : α → Option β} (h : LeO x y) (h' : ∀ a, LeO (f a) (g a)) : LeO (x.bind f) (y.bind g) := fun r hr => by
  obtain ⟨a, ha, hf⟩ := bind_some hr
  rw [h a ha]
  exact h' a r hf
theorem LeO.guard {α : Type} {c : Prop} [Decidable c] {x y : Option α} (h : LeO x y) : LeO (guardO c x) (guardO c y) := fun r hr => by
  obtain ⟨hc, hx⟩ := guardO_some hr
  rw [guardO_pos hc]
  exact h r hx
theorem LeO.ite {α : Type} {c : Prop} [Decidable c] {x y x' y' : Option α} (h : LeO x x') (h' : LeO y y') : LeO (if c then x else y) (if c then x' else y') := by
  split
  · exact h
  · exact h'
/-- A loop of so many rounds at most. -/
def loopF {S T : Type} (fuel : Nat) (body : S → Option (S ⊕ T)) (s : S) : Option T := loopN body fuel s
theorem LeO.loopN {S T : Type} {f g : S → Option (S ⊕ T)} (h : ∀ s, LeO (f s) (g s)) : ∀ (k : Nat) (s : S) (t : T), loopN f k s = some t → Go.Proofs.Ytndajeiecdmhnaa.loopN g k s = some t
  | 0, s, t, hh => by cases hh
  | k + 1, s, t, hh => by
    unfold Go.Proofs.Ytndajeiecdmhnaa.loopN at hh ⊢
    cases hf : f s with
    | none => rw [hf] at hh; cases hh
    | some st =>
      rw [hf] at hh
      rw [h s st hf]
      cases st with
      | inl s' => exact LeO.loopN h k s' t hh
      | inr t' => exact hh
theorem LeO.loop {S T : Type} {fuel : Nat} {f g : S → Option (S ⊕ T)} {s : S} (h : ∀ s, LeO (f s) (g s)) : LeO (loopF fuel f s) (loopO g s) := fun r hr => loopO_of (LeO.loopN h fuel s r hr)
theorem LeO.fold {S T α : Type} {f g : S → α → Option (S ⊕ T)} (h : ∀ s x, LeO (f s x) (g s x)) : ∀ (xs : List α) (s : S), LeO (foldO f xs s) (foldO g xs s)
  | [], s => LeO.refl _
  | x :: xs, s => fun r hr => by
    unfold foldO at hr ⊢
    cases hf : f s x with
    | none => rw [hf] at hr; cases hr
    | some st =>
      rw [hf] at hr
      rw [h s x st hf]
      cases st with
      | inl s' => exact LeO.fold h xs s' r hr
      | inr t => exact hr

/-- What fits a kind. -/
def Rg_i64 (x : Int) : Prop := -9223372036854775808 ≤ x ∧ x ≤ 9223372036854775807
def Rg_list {α : Type} (R : α → Prop) (xs : List α) : Prop := xs.length ≤ 9223372036854775807 ∧ ∀ x ∈ xs, R x
/-- A 64-bit number; a map as what was put into it, the last one first. -/
def rngB (x : Int) : Bool := decide (-9223372036854775808 ≤ x) && decide (x ≤ 9223372036854775807)
def mget (m : List (Int × Int)) (x : Int) : Int := match m with
  | [] => 0
  | (k, v) :: m => if k = x then v else mget m x

end Go.Proofs.Ytndajeiecdmhnaa
