/- The plain law FirePaths. No program in sight. -/
import Derived.Test.YtndajeiecdmhnaaM7
set_option linter.unusedVariables false
namespace Go.Proofs.Ytndajeiecdmhnaa

/-! ### Paths -/
def badP (l : List TSpot) (k : Nat) : Prop := ¬ OkSpot (l.getD k default) ∨ (0 < k ∧ (l.getD k default).fHour ≠ w64 ((l.getD (k - 1) default).fHour + 1))
instance (l : List TSpot) (k : Nat) : Decidable (badP l k) := by unfold badP; infer_instance
def errP (l : List TSpot) : Option Int := (List.range l.length).findSome? fun k => if badP l k then some 1 else none
def PathS (l : List TSpot) : Int := if 200 < l.length then 2 else if l.length = 0 then 1 else (errP l).getD 0
theorem path_step (l : List TSpot) (k : Nat) (hk : k < l.length) (hl : l.length < 1000000) : ((0 : Int) ≤ w64 ((k : Int) - 1) ∧ w64 ((k : Int) - 1) < ((l.length : Nat) : Int)) ∨ k = 0 := by
  rcases Nat.eq_zero_or_pos k with h | h
  · exact .inr h
  · left
    rw [w64_id (by omega) (by omega)]
    omega
theorem CheckPath_eq {l : List TSpot} (hl : l.length < 1000000) : fire_CheckPath l = some (PathS l) := by
  unfold fire_CheckPath PathS
  by_cases h1 : 200 < l.length
  · rw [ite_t (by omega), if_pos h1]
  · rw [ite_f (by omega), if_neg h1]
    have := loop_search (body := fire_CheckPath_l1 l) (fun k => ((0 : Int), (k : Int))) l.length (fun k => if badP l k then some (Sum.inl ((1 : Int), (k : Int))) else none) (t0 := .inr (0, (l.length : Int))) (fun k hk => by
      have c1 : decide ((k : Int) < ((l.length : Nat) : Int)) = true := decide_eq_true (by omega)
      have c2 : (0 : Int) ≤ (k : Int) ∧ (k : Int) < ((l.length : Nat) : Int) := by omega
      unfold fire_CheckPath_l1 badP; dsimp only
      simp only [c1, if_true, guardO_pos c2, rdL_nat hk, TSpot_eta, right_eq, Option.bind_some, getD_lt hk, w64_succ (show k < 9223372036854775807 by omega)]
      by_cases ho : OkSpot l[k]
      · rcases Nat.eq_zero_or_pos k with h0 | h0
        · subst h0
          simp [ho]
        · have e1 : w64 ((k : Int) - 1) = ((k - 1 : Nat) : Int) := by rw [w64_id (by omega) (by omega)]; omega
          rw [e1, rdL_nat (show k - 1 < l.length by omega), getD_lt (show k - 1 < l.length by omega), guardO_pos (by omega)]
          have e2 : decide ((0 : Int) < (k : Int)) = true := decide_eq_true (by omega)
          by_cases hh : l[k].fHour = w64 (l[k - 1].fHour + 1)
          · simp [ho, e2, hh, h0]
          · simp [ho, e2, hh, h0]
      · simp [ho]) (by
      unfold fire_CheckPath_l1; dsimp only
      rw [ite_f (by omega)])
    have e0 : loopO (fire_CheckPath_l1 l) (0, 0) = _ := this
    rw [e0, Option.bind_some]
    unfold errP
    rcases findSome_cases (R := fun k => if badP l k then some (Sum.inl ((1 : Int), (k : Int)) : (Int × Int) ⊕ (Int × Int)) else none) (n := l.length) (.inr (0, (l.length : Int))) with ⟨hn, h4⟩ | ⟨k, t, hk, hR, hj, h4⟩
    · rw [h4, search_none (fun k hk => by have := hn k hk; split at this <;> simp_all)]
      by_cases h0 : l.length = 0
      · rw [if_pos h0, h0]; rfl
      · rw [if_neg h0]
        dsimp only
        rw [if_neg (by rw [beq_iff_eq]; omega)]
    · rw [h4]
      have hb : badP l k := Decidable.byContradiction fun hb => by rw [if_neg hb] at hR; cases hR
      rw [if_pos hb] at hR
      cases hR
      rw [if_neg (show ¬ l.length = 0 by omega), search_some k hk (by rw [if_pos hb]) (fun j hj' => by have := hj j hj'; split at this <;> simp_all)]
theorem rCheckPath_eq {l : List TSpot} (hl : l.length < 1000000) : calxref02_CheckPath l = some (PathS l) := by
  unfold calxref02_CheckPath PathS
  by_cases h1 : 200 < l.length
  · rw [ite_t (by omega), if_pos h1]
  · rw [ite_f (by omega), if_neg h1]
    by_cases h0 : l.length = 0
    · rw [if_pos (by simp [h0]), if_pos h0]
    rw [if_neg (by rw [beq_iff_eq]; omega), if_neg h0]
    have := loop_search (body := calxref02_CheckPath_l1 l) (fun k => ((0 : Int), (k : Int))) l.length (fun k => if badP l k then some (Sum.inl ((1 : Int), (k : Int))) else none) (t0 := .inr (0, (l.length : Int))) (fun k hk => by
      have c1 : decide ((k : Int) < ((l.length : Nat) : Int)) = true := decide_eq_true (by omega)
      have c2 : (0 : Int) ≤ (k : Int) ∧ (k : Int) < ((l.length : Nat) : Int) := by omega
      unfold calxref02_CheckPath_l1 badP; dsimp only
      simp only [c1, if_true, guardO_pos c2, rdL_nat hk, TSpot_eta, rSpot_eq, Option.bind_some, getD_lt hk, w64_succ (show k < 9223372036854775807 by omega)]
      by_cases ho : OkSpot l[k]
      · rcases Nat.eq_zero_or_pos k with h0 | h0
        · subst h0
          simp [ho]
        · have e1 : max 0 (w64 ((k : Int) - 1)) = ((k - 1 : Nat) : Int) := by rw [w64_id (by omega) (by omega)]; omega
          rw [e1, rdL_nat (show k - 1 < l.length by omega), getD_lt (show k - 1 < l.length by omega), guardO_pos (by omega)]
          have e2 : decide ((0 : Int) < (k : Int)) = true := decide_eq_true (by omega)
          by_cases hh : l[k].fHour = w64 (l[k - 1].fHour + 1)
          · simp [ho, e2, hh, h0]
          · simp [ho, e2, hh, h0]
      · simp [ho]) (by
      unfold calxref02_CheckPath_l1; dsimp only
      rw [ite_f (by omega)])
    have e0 : loopO (calxref02_CheckPath_l1 l) (0, 0) = _ := this
    rw [e0, Option.bind_some]
    unfold errP
    rcases findSome_cases (R := fun k => if badP l k then some (Sum.inl ((1 : Int), (k : Int)) : (Int × Int) ⊕ (Int × Int)) else none) (n := l.length) (.inr (0, (l.length : Int))) with ⟨hn, h4⟩ | ⟨k, t, hk, hR, hj, h4⟩
    · rw [h4, search_none (fun k hk => by have := hn k hk; split at this <;> simp_all)]
    · rw [h4]
      have hb : badP l k := Decidable.byContradiction fun hb => by rw [if_neg hb] at hR; cases hR
      rw [if_pos hb] at hR
      cases hR
      rw [search_some k hk (by rw [if_pos hb]) (fun j hj' => by have := hj j hj'; split at this <;> simp_all)]
theorem PathS_0 {l : List TSpot} (h : PathS l = 0) : l.length ≤ 200 ∧ ∀ s ∈ l, OkSpot s := by
  unfold PathS at h
  split at h
  · cases h
  · split at h
    · cases h
    · refine ⟨by omega, fun s hs => ?_⟩
      obtain ⟨k, hk, rfl⟩ := List.mem_iff_getElem.1 hs
      unfold errP at h
      rcases findSome_cases (R := fun k => if badP l k then some (1 : Int) else none) (n := l.length) 0 with ⟨hn, h4⟩ | ⟨k', t, hk', hR, hj, h4⟩
      · have := hn k hk
        refine Decidable.byContradiction fun hc => ?_
        rw [if_pos (.inl (by rw [getD_lt hk]; exact hc))] at this
        cases this
      · rw [h4] at h
        subst h
        split at hR <;> cases hR
def WalkS (f : TFire) (l : List TSpot) (need : Int) : Int := if CheckS f = 0 then if PathS l = 0 then if OkHeat need then if agreeS f = true then 0 else 9 else 1 else PathS l else CheckS f
theorem WalkS_0 {f : TFire} {l : List TSpot} {need : Int} : WalkS f l need = 0 ↔ CheckS f = 0 ∧ PathS l = 0 ∧ OkHeat need ∧ agreeS f = true := by
  unfold WalkS
  split
  · rename_i h1
    split
    · rename_i h2
      split
      · rename_i h3
        split
        · rename_i h4; exact ⟨fun _ => ⟨h1, h2, h3, h4⟩, fun _ => rfl⟩
        · rename_i h4; exact ⟨fun h => (by cases h), fun h => absurd h.2.2.2 h4⟩
      · rename_i h3; exact ⟨fun h => (by cases h), fun h => absurd h.2.2.1 h3⟩
    · rename_i h2; exact ⟨fun h => absurd h h2, fun h => absurd h.2.1 h2⟩
  · rename_i h1; exact ⟨fun h => absurd h h1, fun h => absurd h.1 h1⟩
theorem walked_eq {f : TFire} {l : List TSpot} {need : Int} (hf : f.fLooks.length < 1000000) (hl : l.length < 1000000) (h : CheckS f = 0 → Ok12 f) : fire_walked f l need = some (WalkS f l need) := by
  unfold fire_walked WalkS
  rw [Check_eq f (by omega), Option.bind_some]
  by_cases h1 : CheckS f = 0
  · rw [if_pos h1, h1, if_neg (by decide), CheckPath_eq hl, Option.bind_some]
    by_cases h2 : PathS l = 0
    · rw [if_pos h2, h2, if_neg (by decide), heat_eq, Option.bind_some]
      by_cases h3 : OkHeat need
      · rw [if_pos h3, if_neg (by simp [h3]), agreed_eq (fun _ => h h1)]
        rfl
      · rw [if_neg h3, if_pos (by simp [h3])]
    · rw [if_neg h2, if_pos (by simpa using h2)]
  · rw [if_neg h1, if_pos (by simpa using h1)]
theorem sunk_eq {f : TFire} {l : List TSpot} {need : Int} (hf : f.fLooks.length < 1000000) (hl : l.length < 1000000) : calxref02_sunk f l need = some (WalkS f l need) := by
  unfold calxref02_sunk WalkS
  rw [rCheck_eq f (by omega), Option.bind_some]
  by_cases h1 : CheckS f = 0
  · rw [if_pos h1, h1, if_neg (by decide), rCheckPath_eq hl, Option.bind_some]
    by_cases h2 : PathS l = 0
    · rw [if_pos h2, h2, if_neg (by decide), rHeat_eq, Option.bind_some]
      by_cases h3 : OkHeat need
      · rw [if_pos h3, if_neg (by simp [h3]), ragree_eq (CheckS_ok.1 h1), Option.bind_some]
        cases agreeS f <;> rfl
      · rw [if_neg h3, if_pos (by simp [h3])]
    · rw [if_neg h2, if_pos (by simpa using h2)]
  · rw [if_neg h1, if_pos (by simpa using h1)]
theorem foldl_app {α β : Type} (g : α → β) : ∀ (l : List α) (m : List β), l.foldl (fun m x => m ++ [g x]) m = m ++ l.map g
  | [], m => by simp
  | x :: l, m => by rw [List.foldl_cons, foldl_app g l]; simp
theorem foldl_app2 {α β : Type} (g h : α → β) : ∀ (l : List α) (m : List β × List β), l.foldl (fun m x => (m.1 ++ [g x], m.2 ++ [h x])) m = (m.1 ++ l.map g, m.2 ++ l.map h)
  | [], m => by simp
  | x :: l, m => by rw [List.foldl_cons, foldl_app2 g h l]; simp
theorem heats_eq {f : TFire} (h : Ok12 f) {l : List TSpot} (hl : l.length < 1000000) (ho : ∀ s ∈ l, OkSpot s) : fire_heats f l = some (l.map (loS f), l.map (hiS f)) := by
  unfold fire_heats
  have hm := (loop_foldl (body := fire_heats_l1 f l) l (fun k (s : List Int × List Int) => ((k : Int), s.1, s.2)) (fun s x => (s.1 ++ [loS f x], s.2 ++ [hiS f x])) ([], []) (fun s => ((l.length : Int), s.1, s.2)) (fun k s => s.1.length = k ∧ s.2.length = k) ⟨rfl, rfl⟩ (fun k s hk hs => by
    have c2 : (0 : Int) ≤ (k : Int) ∧ (k : Int) < ((l.length : Nat) : Int) := by omega
    refine ⟨?_, by simp [hs.1], by simp [hs.2]⟩
    unfold fire_heats_l1; dsimp only
    rw [ite_t (by omega), guardO_pos c2, rdL_nat hk, TSpot_eta, ends_eq h (ho _ (List.getElem_mem hk)), Option.bind_some, guardO_pos (by omega), guardO_pos (by omega), w64_succ (by omega)]
    rfl) (fun s _ => by
    unfold fire_heats_l1; dsimp only
    rw [ite_f (by omega)])).1
  have e0 : loopO (fire_heats_l1 f l) (0, ([] : List Int), ([] : List Int)) = _ := hm
  rw [e0, Option.bind_some, foldl_app2]
  rfl
theorem along_eq {f : TFire} (h : OkF f) {l : List TSpot} (hl : l.length < 1000000) (ho : ∀ s ∈ l, OkSpot s) (b : Bool) : calxref02_along f l b = some (if b = true then l.map (hiS f) else l.map (loS f)) := by
  unfold calxref02_along
  have hm := (loop_foldl (body := calxref02_along_l1 f l b) l (fun k (s : List Int) => ((k : Int), s)) (fun s x => s ++ [if b = true then hiS f x else loS f x]) [] (fun s => ((l.length : Int), s)) (fun k s => s.length = k) rfl (fun k s hk hs => by
    have c2 : (0 : Int) ≤ (k : Int) ∧ (k : Int) < ((l.length : Nat) : Int) := by omega
    refine ⟨?_, by simp [hs]⟩
    unfold calxref02_along_l1; dsimp only
    rw [ite_t (by omega), guardO_pos c2, rdL_nat hk, TSpot_eta, rends_eq h (ho _ (List.getElem_mem hk)), Option.bind_some, guardO_pos (by omega), guardO_pos (by omega), w64_succ (by omega)]
    cases b <;> rfl) (fun s _ => by
    unfold calxref02_along_l1; dsimp only
    rw [ite_f (by omega)])).1
  have e0 : loopO (calxref02_along_l1 f l b) (0, ([] : List Int)) = _ := hm
  rw [e0, Option.bind_some, foldl_app]
  cases b <;> rfl
theorem lo_rg {f : TFire} (h : OkF f) {s : TSpot} (hs : OkSpot s) : 0 ≤ loS f s ∧ loS f s ≤ 1500 := by
  refine ⟨loS_le f s, ?_⟩
  rcases loS_at f s with h1 | ⟨x, hx, h1⟩
  · omega
  · have := low_rg h.1 hs (h.2.2.1 x hx)
    omega
theorem hi_rg {f : TFire} (h : OkF f) {s : TSpot} (hs : OkSpot s) : 0 ≤ hiS f s ∧ hiS f s ≤ 1500 := by
  refine ⟨?_, hiS_le f s⟩
  rcases hiS_at f s with h1 | ⟨x, hx, h1⟩
  · omega
  · have := high_rg h.1 hs (h.2.2.1 x hx)
    omega
/-! ### How it burns -/
/-- row, hours, the longest row, sum -/
def burnStep (need : Int) (s : Int × Int × Int × Int) (n : Int) : Int × Int × Int × Int := if n < need then (0, s.2.1, s.2.2.1, s.2.2.2) else (s.1 + 1, s.2.1 + 1, max s.2.2.1 (s.1 + 1), s.2.2.2 + (n - need))
def burnF (l : List Int) (need : Int) : Int × Int × Int × Int := l.foldl (burnStep need) (0, 0, 0, 0)
def BurnS (l : List Int) (need : Int) : TBurn := ⟨(burnF l need).2.1, (burnF l need).2.2.1, (burnF l need).2.2.2⟩
def QB (k : Nat) (s : Int × Int × Int × Int) : Prop := (0 ≤ s.1 ∧ s.1 ≤ k) ∧ (0 ≤ s.2.1 ∧ s.2.1 ≤ k) ∧ (0 ≤ s.2.2.1 ∧ s.2.2.1 ≤ k) ∧ 0 ≤ s.2.2.2 ∧ s.2.2.2 ≤ k * 1500
theorem QB_step {k : Nat} {s : Int × Int × Int × Int} {n need : Int} (h : QB k s) (hn : OkHeat n) (hd : OkHeat need) : QB (k + 1) (burnStep need s n) := by
  unfold QB at h ⊢
  unfold burnStep
  unfold OkHeat at hn hd
  split <;> dsimp only <;> omega
theorem burnt_eq {l : List Int} {need : Int} (hl : l.length < 1000000) (ho : ∀ n ∈ l, OkHeat n) (hd : OkHeat need) : fire_burnt l need = some (BurnS l need) := by
  unfold fire_burnt
  have hm := (loop_foldl (body := fire_burnt_l1 l need) l (fun k (s : Int × Int × Int × Int) => (s.1, (k : Int), s.2.1, s.2.2.1, s.2.2.2)) (burnStep need) (0, 0, 0, 0) (fun s => (s.1, (l.length : Int), s.2.1, s.2.2.1, s.2.2.2)) QB (by unfold QB; decide) (fun k s hk hs => by
    have hn := ho _ (List.getElem_mem hk)
    refine ⟨?_, QB_step hs hn hd⟩
    have c2 : (0 : Int) ≤ (k : Int) ∧ (k : Int) < ((l.length : Nat) : Int) := by omega
    unfold QB at hs
    unfold OkHeat at hn hd
    unfold fire_burnt_l1 burnStep; dsimp only
    rw [ite_t (by omega), guardO_pos c2, rdL_nat hk, w64_succ (by omega), w64_id (x := s.1 + 1) (by omega) (by omega), w64_id (x := s.2.1 + 1) (by omega) (by omega), w64_id (x := l[k] - need) (by omega) (by omega), w64_id (by omega) (by omega)]
    by_cases hc : l[k] < need
    · rw [if_pos (decide_eq_true hc), if_pos hc]
    · rw [if_neg (by simpa using hc), if_neg hc]) (fun s _ => by
    unfold fire_burnt_l1; dsimp only
    rw [ite_f (by omega)])).1
  have e0 : loopO (fire_burnt_l1 l need) (0, 0, 0, 0, 0) = _ := hm
  rw [e0]
  rfl
theorem rBurn_eq {l : List Int} {need : Int} (hl : l.length < 1000000) (ho : ∀ n ∈ l, OkHeat n) (hd : OkHeat need) : calxref02_Burn l need = some (BurnS l need) := by
  unfold calxref02_Burn
  have hm := (loop_foldl (body := calxref02_Burn_l1 l need) l (fun k (s : Int × Int × Int × Int) => (s.1, (k : Int), s.2.1, s.2.2.1, s.2.2.2)) (burnStep need) (0, 0, 0, 0) (fun s => (s.1, (l.length : Int), s.2.1, s.2.2.1, s.2.2.2)) QB (by unfold QB; decide) (fun k s hk hs => by
    have hn := ho _ (List.getElem_mem hk)
    refine ⟨?_, QB_step hs hn hd⟩
    have c2 : (0 : Int) ≤ (k : Int) ∧ (k : Int) < ((l.length : Nat) : Int) := by omega
    unfold QB at hs
    unfold OkHeat at hn hd
    unfold calxref02_Burn_l1 burnStep; dsimp only
    rw [ite_t (by omega), guardO_pos c2, guardO_pos c2, rdL_nat hk, w64_succ (by omega), w64_id (x := s.1 + 1) (by omega) (by omega), w64_id (x := s.2.1 + 1) (by omega) (by omega), w64_id (x := s.2.2.2 + l[k]) (by omega) (by omega)]
    by_cases hc : l[k] < need
    · rw [if_pos (decide_eq_true hc), if_pos hc]
    · rw [if_neg (by simpa using hc), if_neg hc, w64_id (by omega) (by omega)]
      have : s.2.2.2 + l[k] - need = s.2.2.2 + (l[k] - need) := by omega
      rw [this]) (fun s _ => by
    unfold calxref02_Burn_l1; dsimp only
    rw [ite_f (by omega)])).1
  have e0 : loopO (calxref02_Burn_l1 l need) (0, 0, 0, 0, 0) = _ := hm
  rw [e0]
  rfl
/-! ### The steps that are hot enough -/
def hotStep (need : Int) (s : Nat × List TSpan) (n : Int) : Nat × List TSpan :=
  (s.1 + 1, if n < need then s.2 else match s.2.getLast? with
    | some t => if t.fHi = (s.1 : Int) - 1 then s.2.dropLast ++ [⟨t.fLo, (s.1 : Int)⟩] else s.2 ++ [⟨(s.1 : Int), (s.1 : Int)⟩]
    | none => s.2 ++ [⟨(s.1 : Int), (s.1 : Int)⟩])
def hotS (l : List Int) (need : Int) : List TSpan := (l.foldl (hotStep need) (0, [])).2
theorem hotStep_len (need : Int) (s : Nat × List TSpan) (n : Int) : (hotStep need s n).2.length ≤ s.2.length + 1 := by
  unfold hotStep
  dsimp only
  split
  · omega
  · split
    · split
      · simp
      · simp
    · simp
theorem last_cases (l : List TSpan) : (l = [] ∧ l.getLast? = none) ∨ ∃ m t, l = m ++ [t] ∧ l.getLast? = some t ∧ l.dropLast = m := by
  rcases List.eq_nil_or_concat l with rfl | ⟨m, t, rfl⟩
  · exact .inl ⟨rfl, rfl⟩
  · exact .inr ⟨m, t, by simp, by simp, by simp⟩
theorem hot_eq {l : List Int} {need : Int} (hl : l.length < 1000000) : fire_hot l need = some (hotS l need) := by
  unfold fire_hot
  have hm := (loop_foldl (body := fire_hot_l1 l need) l (fun k (s : Nat × List TSpan) => ((k : Int), s.2)) (hotStep need) (0, []) (fun s => ((l.length : Int), s.2)) (fun k s => s.1 = k ∧ s.2.length ≤ k) ⟨rfl, Nat.le_refl _⟩ (fun k s hk hs => by
    refine ⟨?_, by unfold hotStep; dsimp only; omega, by have := hotStep_len need s l[k]; omega⟩
    have c2 : (0 : Int) ≤ (k : Int) ∧ (k : Int) < ((l.length : Nat) : Int) := by omega
    obtain ⟨n, o⟩ := s
    obtain ⟨rfl, ho⟩ := hs
    dsimp only at ho
    unfold fire_hot_l1 hotStep; dsimp only
    rw [ite_t (by omega), guardO_pos c2, rdL_nat hk, w64_succ (by omega), w64_id (x := (n : Int) - 1) (by omega) (by omega)]
    by_cases hc : l[n] < need
    · rw [if_pos (decide_eq_true hc), if_pos hc]
    · rw [if_neg (by simpa using hc), if_neg hc]
      rcases last_cases o with ⟨rfl, h2⟩ | ⟨m, t, rfl, h2, h3⟩
      · rw [h2, ite_f (by simp), Option.bind_some, if_neg (by decide), guardO_pos (by simp)]
      · have e1 : w64 (((m ++ [t]).length : Int) - 1) = (m.length : Int) := by
          have : ((m ++ [t]).length : Int) - 1 = (m.length : Int) := by simp
          rw [this, w64_id (by simp at ho; omega) (by simp at ho; omega)]
        have e2 : rdL (m ++ [t]) (m.length : Int) = t := rdL_mid m t [] _ rfl
        have g1 : (0 : Int) ≤ (m.length : Int) ∧ (m.length : Int) < (((m ++ [t]).length : Nat) : Int) := by simp; omega
        rw [h2, h3, e1, e2, ite_t (by simp), guardO_pos g1, guardO_pos g1, Option.bind_some]
        by_cases hh : t.fHi = (n : Int) - 1
        · rw [if_pos (by simpa using hh), Int.toNat_natCast, set_mid m t _ [] _ rfl]
          dsimp only
          rw [if_pos hh]
        · rw [if_neg (by simpa using hh), guardO_pos (by simp at ho ⊢; omega)]
          dsimp only
          rw [if_neg hh]) (fun s _ => by
    unfold fire_hot_l1; dsimp only
    rw [ite_f (by omega)])).1
  have e0 : loopO (fire_hot_l1 l need) (0, ([] : List TSpan)) = _ := hm
  rw [e0]
  rfl
theorem steps_eq {l : List Int} {need : Int} (hl : l.length < 1000000) : calxref02_steps l need = some (hotS l need) := by
  unfold calxref02_steps
  have hm := (loop_foldl (body := calxref02_steps_l1 l need) l (fun k (s : Nat × List TSpan) => ((k : Int), s.2)) (hotStep need) (0, []) (fun s => ((l.length : Int), s.2)) (fun k s => s.1 = k ∧ s.2.length ≤ k) ⟨rfl, Nat.le_refl _⟩ (fun k s hk hs => by
    refine ⟨?_, by unfold hotStep; dsimp only; omega, by have := hotStep_len need s l[k]; omega⟩
    have c2 : (0 : Int) ≤ (k : Int) ∧ (k : Int) < ((l.length : Nat) : Int) := by omega
    obtain ⟨n, o⟩ := s
    obtain ⟨rfl, ho⟩ := hs
    dsimp only at ho
    unfold calxref02_steps_l1 hotStep; dsimp only
    rw [ite_t (by omega), guardO_pos c2, rdL_nat hk, w64_succ (by omega), w64_id (x := (n : Int) - 1) (by omega) (by omega)]
    by_cases hc : l[n] < need
    · rw [if_pos (decide_eq_true hc), if_pos hc]
    · rw [if_neg (by simpa using hc), if_neg hc]
      rcases last_cases o with ⟨rfl, h2⟩ | ⟨m, t, rfl, h2, h3⟩
      · rw [h2, ite_f (by simp), Option.bind_some, if_neg (by decide), guardO_pos (by simp)]
      · have e1 : w64 (((m ++ [t]).length : Int) - 1) = (m.length : Int) := by
          have : ((m ++ [t]).length : Int) - 1 = (m.length : Int) := by simp
          rw [this, w64_id (by simp at ho; omega) (by simp at ho; omega)]
        have e3 : max 0 (m.length : Int) = (m.length : Int) := by omega
        have e2 : rdL (m ++ [t]) (m.length : Int) = t := rdL_mid m t [] _ rfl
        have g1 : (0 : Int) ≤ (m.length : Int) ∧ (m.length : Int) < (((m ++ [t]).length : Nat) : Int) := by simp; omega
        rw [h2, h3, e1, e3, e2, ite_t (by simp), guardO_pos g1, guardO_pos g1, Option.bind_some]
        by_cases hh : t.fHi = (n : Int) - 1
        · rw [if_pos (by simpa using hh), Int.toNat_natCast, set_mid m t _ [] _ rfl]
          dsimp only
          rw [if_pos hh]
        · rw [if_neg (by simpa using hh), guardO_pos (by simp at ho ⊢; omega)]
          dsimp only
          rw [if_neg hh]) (fun s _ => by
    unfold calxref02_steps_l1; dsimp only
    rw [ite_f (by omega)])).1
  have e0 : loopO (calxref02_steps_l1 l need) (0, ([] : List TSpan)) = _ := hm
  rw [e0]
  rfl
theorem hotS_len (l : List Int) (need : Int) : (hotS l need).length ≤ l.length := by
  have key : ∀ (l : List Int) (s : Nat × List TSpan), (l.foldl (hotStep need) s).2.length ≤ s.2.length + l.length := by
    intro l
    induction l with
    | nil => intro s; simp
    | cons x l ih =>
      intro s
      have h1 := ih (hotStep need s x)
      have h2 := hotStep_len need s x
      rw [List.foldl_cons, List.length_cons]
      omega
  have := key l (0, [])
  simpa [hotS] using this
theorem SameSpans_self {l : List TSpan} (hl : l.length < 1000000) : calxref02_SameSpans l l = some true := by
  unfold calxref02_SameSpans
  rw [if_neg (by simp)]
  have := loop_run (body := calxref02_SameSpans_l1 l l) (fun k => (false, (k : Int))) l.length (t := .inr (false, (l.length : Int))) (fun k hk => by
    have c2 : (0 : Int) ≤ (k : Int) ∧ (k : Int) < ((l.length : Nat) : Int) := by omega
    unfold calxref02_SameSpans_l1; dsimp only
    rw [ite_t (by omega), guardO_pos c2, guardO_pos c2, if_neg (by simp), w64_succ (by omega)]) (by
    unfold calxref02_SameSpans_l1; dsimp only
    rw [ite_f (by omega)])
  have h0 : loopO (calxref02_SameSpans_l1 l l) (false, 0) = _ := this
  rw [h0]
  rfl
/-! ### Burnt, Surely, Possibly -/
section
variable {f : TFire} {l : List TSpot} {need : Int}
theorem map_ok (h : OkF f) (ho : ∀ s ∈ l, OkSpot s) : (∀ n ∈ l.map (loS f), OkHeat n) ∧ (∀ n ∈ l.map (hiS f), OkHeat n) := by
  constructor
  · intro n hn
    obtain ⟨s, hs, rfl⟩ := List.mem_map.1 hn
    exact lo_rg h (ho s hs)
  · intro n hn
    obtain ⟨s, hs, rfl⟩ := List.mem_map.1 hn
    exact hi_rg h (ho s hs)
theorem Burnt_eq (hf : f.fLooks.length < 1000000) (hl : l.length < 1000000) (h : CheckS f = 0 → Ok12 f) : fire_Burnt f l need = some (if WalkS f l need = 0 then (BurnS (l.map (loS f)) need, BurnS (l.map (hiS f)) need, 0) else (⟨0, 0, 0⟩, ⟨0, 0, 0⟩, WalkS f l need)) := by
  unfold fire_Burnt
  rw [walked_eq hf hl h, Option.bind_some]
  by_cases h0 : WalkS f l need = 0
  · obtain ⟨h1, h2, h3, h4⟩ := WalkS_0.1 h0
    have ho := (PathS_0 h2).2
    have hm := map_ok (CheckS_ok.1 h1) ho
    rw [if_pos h0, h0, if_neg (by decide), heats_eq (h h1) hl ho, Option.bind_some]
    dsimp only
    rw [burnt_eq (by rw [List.length_map]; exact hl) hm.1 h3, burnt_eq (by rw [List.length_map]; exact hl) hm.2 h3]
    rfl
  · rw [if_neg h0, if_pos (by simpa using h0)]
theorem rBurnt_eq (hf : f.fLooks.length < 1000000) (hl : l.length < 1000000) : calxref02_Burnt f l need = some (if WalkS f l need = 0 then ⟨BurnS (l.map (loS f)) need, BurnS (l.map (hiS f)) need, 0⟩ else ⟨⟨0, 0, 0⟩, ⟨0, 0, 0⟩, WalkS f l need⟩) := by
  unfold calxref02_Burnt
  rw [sunk_eq hf hl, Option.bind_some]
  by_cases h0 : WalkS f l need = 0
  · obtain ⟨h1, h2, h3, h4⟩ := WalkS_0.1 h0
    have ho := (PathS_0 h2).2
    have hm := map_ok (CheckS_ok.1 h1) ho
    rw [if_pos h0, h0, if_neg (by decide), along_eq (CheckS_ok.1 h1) hl ho, along_eq (CheckS_ok.1 h1) hl ho, if_neg (by decide), if_pos rfl]
    dsimp only [Option.bind_some]
    rw [rBurn_eq (by rw [List.length_map]; exact hl) hm.1 h3, rBurn_eq (by rw [List.length_map]; exact hl) hm.2 h3]
    rfl
  · rw [if_neg h0, if_pos (by simpa using h0)]
theorem Surely_eq (hf : f.fLooks.length < 1000000) (hl : l.length < 1000000) (h : CheckS f = 0 → Ok12 f) : fire_Surely f l need = some (if WalkS f l need = 0 then (hotS (l.map (loS f)) need, 0) else ([], WalkS f l need)) := by
  unfold fire_Surely
  rw [walked_eq hf hl h, Option.bind_some]
  by_cases h0 : WalkS f l need = 0
  · obtain ⟨h1, h2, h3, h4⟩ := WalkS_0.1 h0
    rw [if_pos h0, h0, if_neg (by decide), heats_eq (h h1) hl (PathS_0 h2).2, Option.bind_some]
    dsimp only
    rw [hot_eq (by rw [List.length_map]; exact hl)]
    rfl
  · rw [if_neg h0, if_pos (by simpa using h0)]
theorem Possibly_eq (hf : f.fLooks.length < 1000000) (hl : l.length < 1000000) (h : CheckS f = 0 → Ok12 f) : fire_Possibly f l need = some (if WalkS f l need = 0 then (hotS (l.map (hiS f)) need, 0) else ([], WalkS f l need)) := by
  unfold fire_Possibly
  rw [walked_eq hf hl h, Option.bind_some]
  by_cases h0 : WalkS f l need = 0
  · obtain ⟨h1, h2, h3, h4⟩ := WalkS_0.1 h0
    rw [if_pos h0, h0, if_neg (by decide), heats_eq (h h1) hl (PathS_0 h2).2, Option.bind_some]
    dsimp only
    rw [hot_eq (by rw [List.length_map]; exact hl)]
    rfl
  · rw [if_neg h0, if_pos (by simpa using h0)]
theorem rSurely_eq (hf : f.fLooks.length < 1000000) (hl : l.length < 1000000) : calxref02_Surely f l need = some (if WalkS f l need = 0 then ⟨hotS (l.map (loS f)) need, 0⟩ else ⟨[], WalkS f l need⟩) := by
  unfold calxref02_Surely
  rw [sunk_eq hf hl, Option.bind_some]
  by_cases h0 : WalkS f l need = 0
  · obtain ⟨h1, h2, h3, h4⟩ := WalkS_0.1 h0
    rw [if_pos h0, h0, if_neg (by decide), along_eq (CheckS_ok.1 h1) hl (PathS_0 h2).2, if_neg (by decide), Option.bind_some, steps_eq (by rw [List.length_map]; exact hl)]
    rfl
  · rw [if_neg h0, if_pos (by simpa using h0)]
theorem rPossibly_eq (hf : f.fLooks.length < 1000000) (hl : l.length < 1000000) : calxref02_Possibly f l need = some (if WalkS f l need = 0 then ⟨hotS (l.map (hiS f)) need, 0⟩ else ⟨[], WalkS f l need⟩) := by
  unfold calxref02_Possibly
  rw [sunk_eq hf hl, Option.bind_some]
  by_cases h0 : WalkS f l need = 0
  · obtain ⟨h1, h2, h3, h4⟩ := WalkS_0.1 h0
    rw [if_pos h0, h0, if_neg (by decide), along_eq (CheckS_ok.1 h1) hl (PathS_0 h2).2, if_pos rfl, Option.bind_some, steps_eq (by rw [List.length_map]; exact hl)]
    rfl
  · rw [if_neg h0, if_pos (by simpa using h0)]
end
def pathQ (l : List TSpot) : Prop := l.length ≤ 40 ∨ (200 < l.length ∧ l.length ≤ 230)
instance (l : List TSpot) : Decidable (pathQ l) := by unfold pathQ; infer_instance
theorem path_eq (l : List TSpot) : calxlaw02_path l = some (decide (pathQ l)) := by
  unfold calxlaw02_path
  refine congrArg some ?_
  rw [Bool.eq_iff_iff]
  simp only [Bool.or_eq_true, Bool.and_eq_true, decide_eq_true_eq]
  unfold pathQ
  omega
theorem FirePaths_true (p0 : TFire) (p1 : List TSpot) (p2 : Int) (h0 : TFire_rg p0) (h1 : Rg_list TSpot_rg p1) (h2 : Rg_i64 p2) : calxlaw02_FirePaths p0 p1 p2 = some true := by
  unfold calxlaw02_FirePaths
  rw [few_eq, Option.bind_some, sanity_true, path_eq]
  by_cases hf : few p0
  · have hl := few_len hf
    rw [if_neg (by simp [hf])]
    by_cases hp : pathQ p1
    · have hpl : p1.length < 1000000 := by unfold pathQ at hp; omega
      rw [decide_eq_true hp]
      dsimp only [Option.bind_some]
      rw [if_neg (by decide), Burnt_eq (by omega) hpl (few_12 hf), rBurnt_eq (by omega) hpl, Surely_eq (by omega) hpl (few_12 hf), rSurely_eq (by omega) hpl, Possibly_eq (by omega) hpl (few_12 hf), rPossibly_eq (by omega) hpl, CheckPath_eq hpl, rCheckPath_eq hpl]
      dsimp only [Option.bind_some]
      by_cases hw : WalkS p0 p1 p2 = 0
      · simp only [if_pos hw]
        have k1 := hotS_len (p1.map (loS p0)) p2
        have k2 := hotS_len (p1.map (hiS p0)) p2
        rw [List.length_map] at k1 k2
        rw [SameSpans_self (by omega), SameSpans_self (by omega)]
        simp
      · simp only [if_neg hw]
        rw [SameSpans_self (by simp)]
        simp
    · rw [decide_eq_false hp]
      rfl
  · rw [if_pos (by simp [hf])]
    rfl
end Go.Proofs.Ytndajeiecdmhnaa
