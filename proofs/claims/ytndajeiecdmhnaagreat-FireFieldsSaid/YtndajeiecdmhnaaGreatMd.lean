/- The plain law FireEnds. No program in sight. -/
import Derived.Test.YtndajeiecdmhnaaGreatMa
set_option linter.unusedVariables false
namespace Go.Proofs.YtndajeiecdmhnaaGreat

/-! ### The reference: asked, shows, bounds -/
theorem rspots_eq {l : List TSpot} (hl : l.length < 1000000) : calxref02_spots l = some (if 24 < l.length then 2 else if ∃ s ∈ l, ¬ OkSpot s then 1 else 0) := by
  unfold calxref02_spots
  by_cases h1 : 24 < l.length
  · rw [ite_t (by omega), if_pos h1]
  · rw [ite_f (by omega), if_neg h1]
    have := loop_search (body := calxref02_spots_l1 l) (fun k => ((0 : Int), (k : Int))) l.length (fun k => if OkSpot (l.getD k default) then none else some (Sum.inl ((1 : Int), (k : Int)))) (t0 := .inr (0, (l.length : Int))) (fun k hk => by
      have c1 : decide ((k : Int) < ((l.length : Nat) : Int)) = true := decide_eq_true (by omega)
      have c2 : (0 : Int) ≤ (k : Int) ∧ (k : Int) < ((l.length : Nat) : Int) := by omega
      unfold calxref02_spots_l1; dsimp only
      simp only [c1, if_true, guardO_pos c2, rdL_nat hk, TSpot_eta, rSpot_eq, Option.bind_some, getD_lt hk, w64_succ (show k < 9223372036854775807 by omega)]
      by_cases ho : OkSpot l[k] <;> simp [ho]) (by
      unfold calxref02_spots_l1; dsimp only
      rw [ite_f (by omega)])
    have e0 : loopO (calxref02_spots_l1 l) (0, 0) = _ := this
    rw [e0, Option.bind_some]
    rcases findSome_cases (R := fun k => if OkSpot (l.getD k default) then none else some (Sum.inl ((1 : Int), (k : Int)) : (Int × Int) ⊕ (Int × Int))) (n := l.length) (.inr (0, (l.length : Int))) with ⟨hn, h4⟩ | ⟨k, t, hk, hR, hj, h4⟩
    · rw [h4, if_neg]
      rintro ⟨s, hs, hb⟩
      obtain ⟨k, hk, rfl⟩ := List.mem_iff_getElem.1 hs
      have := hn k hk
      rw [getD_lt hk, if_neg hb] at this
      cases this
    · rw [h4]
      rw [getD_lt hk] at hR
      split at hR
      · cases hR
      · rename_i hb
        cases hR
        rw [if_pos ⟨_, List.getElem_mem hk, hb⟩]
theorem asked_eq {f : TFire} {l : List TSpot} (hf : f.fLooks.length < 1000000) (hl : l.length < 1000000) : calxref02_asked f l = some (askL f l) := by
  unfold calxref02_asked askL ListS spotsS
  rw [rCheck_eq f (by omega), Option.bind_some]
  by_cases h1 : CheckS f = 0
  · simp only [if_pos h1]
    rw [h1, if_neg (by decide), rspots_eq hl, Option.bind_some]
    by_cases h2 : 24 < l.length
    · simp only [if_pos h2]
      rfl
    · simp only [if_neg h2]
      by_cases h3 : ∃ s ∈ l, ¬ OkSpot s
      · simp only [if_pos h3]
        rfl
      · simp only [if_neg h3]
        rw [if_neg (by decide), ragree_eq (CheckS_ok.1 h1), Option.bind_some]
        cases agreeS f <;> rfl
  · simp only [if_neg h1]
    rw [if_pos (by simpa using h1)]
/-! ### Rests -/
end Go.Proofs.YtndajeiecdmhnaaGreat
