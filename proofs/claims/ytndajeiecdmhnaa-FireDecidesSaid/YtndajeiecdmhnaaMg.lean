/- Plain laws of fire: Needed, Decides; FireDecides. No program in sight. -/
import Derived.Test.YtndajeiecdmhnaaMf
set_option linter.unusedVariables false
namespace Go.Proofs.Ytndajeiecdmhnaa

/-- The least heat of a look at q that makes sure that p was hot enough. -/
def neS (f : TFire) (q p : TSpot) (need : Int) : Int × Bool := if need ≤ loS f p then (loS f q, true) else if hiS f q < max (loS f q) (need + farS f p q) then (0, false) else (max (loS f q) (need + farS f p q), true)
theorem needed_eq {f : TFire} (h : Ok12 f) {q p : TSpot} (hq : OkSpot q) (hp : OkSpot p) {need : Int} (hn : OkHeat need) : fire_needed f q p need = some (neS f q p need) := by
  have hr := far_rg h.1.1 hp hq
  have hn' := hn
  unfold OkHeat at hn'
  unfold fire_needed neS
  rw [ends_eq h hq, Option.bind_some, ends_eq h hp, Option.bind_some, far_eq h.1.1 hp hq]
  have e1 : (endsS f q).fSpan.fLo = loS f q := rfl
  have e2 : (endsS f q).fSpan.fHi = hiS f q := rfl
  have e3 : (endsS f p).fSpan.fLo = loS f p := rfl
  rw [e1, e2, e3]
  by_cases h1 : need ≤ loS f p
  · rw [ite_t h1, if_pos h1]
  · rw [ite_f h1, if_neg h1]
    dsimp only [Option.bind_some]
    rw [w64_id (x := need + farS f p q) (by omega) (by omega)]
    by_cases h2 : hiS f q < max (loS f q) (need + farS f p q)
    · rw [ite_t h2, if_pos h2]
    · rw [ite_f h2, if_neg h2]
/-- The error of a fire, spots to look at, a spot and a need. -/
def hotS (f : TFire) (l : List TSpot) (p : TSpot) (need : Int) : Int :=
  if CheckS f = 0 then if 24 < l.length then 2 else if (∀ s ∈ l, OkSpot s) ∧ OkSpot p ∧ OkHeat need then if agreeS f = true then 0 else 9 else 1 else CheckS f
theorem hotS_0 {f : TFire} {l : List TSpot} {p : TSpot} {need : Int} : hotS f l p need = 0 ↔ CheckS f = 0 ∧ l.length ≤ 24 ∧ (∀ s ∈ l, OkSpot s) ∧ OkSpot p ∧ OkHeat need ∧ agreeS f = true := by
  unfold hotS
  by_cases h1 : CheckS f = 0
  · rw [if_pos h1]
    by_cases h2 : 24 < l.length
    · rw [if_pos h2]
      exact ⟨fun h => (by cases h), fun h => by omega⟩
    · rw [if_neg h2]
      by_cases h3 : (∀ s ∈ l, OkSpot s) ∧ OkSpot p ∧ OkHeat need
      · rw [if_pos h3]
        cases ha : agreeS f
        · simp
        · exact ⟨fun _ => ⟨h1, by omega, h3.1, h3.2.1, h3.2.2, rfl⟩, fun _ => rfl⟩
      · rw [if_neg h3]
        exact ⟨fun h => (by cases h), fun h => absurd ⟨h.2.2.1, h.2.2.2.1, h.2.2.2.2.1⟩ h3⟩
  · rw [if_neg h1]
    exact ⟨fun h => absurd h h1, fun h => absurd h.1 h1⟩
theorem agreed_1 {f : TFire} : fire_agreed f 1 = some 1 := by
  rw [agreed_eq (fun h => (by cases h))]
  rfl
def NeededS (f : TFire) (q p : TSpot) (need : Int) : Int × Bool × Int := if hotS f [q] p need = 0 then ((neS f q p need).1, (neS f q p need).2, 0) else (0, false, hotS f [q] p need)
theorem Needed_eq {f : TFire} {q p : TSpot} {need : Int} (hf : f.fLooks.length < 1000000) (h : CheckS f = 0 → Ok12 f) : fire_Needed f q p need = some (NeededS f q p need) := by
  unfold fire_Needed NeededS
  rw [spots_eq hf (by simp), Option.bind_some, agreed_1]
  by_cases hs : spotsS f [q, p] = 0
  · have h2 := spotsS_0.1 hs
    have hq := h2.2 q (by simp)
    have hp := h2.2 p (by simp)
    rw [if_pos (by rw [hs]; rfl), heat_eq]
    dsimp only [Option.bind_some]
    by_cases hn : OkHeat need
    · have ha : hotS f [q] p need = if agreeS f = true then 0 else 9 := by
        unfold hotS
        rw [if_pos h2.1, if_neg (by simp), if_pos ⟨fun s hs => by rw [List.mem_singleton.1 hs]; exact hq, hp, hn⟩]
      rw [if_neg (by simp [hn]), hs, agreed_eq (fun _ => h h2.1), ha, needed_eq (h h2.1) hq hp hn]
      dsimp only [Option.bind_some]
      cases agreeS f <;> rfl
    · have ha : hotS f [q] p need = 1 := by
        unfold hotS
        rw [if_pos h2.1, if_neg (by simp), if_neg (fun hc => hn hc.2.2)]
      rw [if_pos (by simp [hn]), ha]
      rfl
  · have ha : hotS f [q] p need = spotsS f [q, p] := by
      unfold hotS
      unfold spotsS at hs ⊢
      by_cases hc : CheckS f = 0
      · rw [if_pos hc] at hs ⊢
        rw [if_pos hc]
        by_cases he : ∃ s ∈ [q, p], ¬ OkSpot s
        · rw [if_pos he, if_neg (by simp), if_neg]
          rintro ⟨a, b, _⟩
          obtain ⟨s, hs1, hs2⟩ := he
          simp at hs1
          rcases hs1 with rfl | rfl
          · exact hs2 (a _ (by simp))
          · exact hs2 b
        · rw [if_neg he] at hs
          exact absurd rfl hs
      · rw [if_neg hc, if_neg hc]
    rw [if_neg (by simpa using hs), Option.bind_some, if_neg Bool.false_ne_true, agreed_eq (fun h0 => absurd h0 hs), if_neg hs, ha, if_neg hs]
    dsimp only [Option.bind_some]
    rw [if_pos (by simpa using hs)]
/-- That a look at q could decide, in both ways. -/
def decQ (f : TFire) (q p : TSpot) (need : Int) : Bool := ((neS f q p need).2 && decide (loS f q < (neS f q p need).1)) && decide (min (hiS f p) (loS f q + farS f q p) < need)
def decL (f : TFire) (l : List TSpot) (p : TSpot) (need : Int) (k : Nat) : List Int := ((List.range k).filter fun k => decQ f (l.getD k default) p need).map (fun k : Nat => (k : Int))
theorem decL_succ (f : TFire) (l : List TSpot) (p : TSpot) (need : Int) (k : Nat) : decL f l p need (k + 1) = if decQ f (l.getD k default) p need = true then decL f l p need k ++ [(k : Int)] else decL f l p need k := by
  unfold decL
  rw [List.range_succ, List.filter_append, List.map_append]
  by_cases h : decQ f (l.getD k default) p need = true
  · rw [if_pos h, List.filter_cons_of_pos (p := fun k => decQ f (l.getD k default) p need) h]; rfl
  · rw [if_neg h, List.filter_cons_of_neg (p := fun k => decQ f (l.getD k default) p need) h]; exact List.append_nil _
theorem decL_len (f : TFire) (l : List TSpot) (p : TSpot) (need : Int) (k : Nat) : (decL f l p need k).length ≤ k := by
  unfold decL
  rw [List.length_map]
  refine Nat.le_trans (List.length_filter_le _ _) ?_
  rw [List.length_range]
  exact Nat.le_refl _
def DecidesS (f : TFire) (l : List TSpot) (p : TSpot) (need : Int) : List Int × Int := if hotS f l p need = 0 then (decL f l p need l.length, 0) else ([], hotS f l p need)
theorem Decides_run {f : TFire} (h : Ok12 f) {l : List TSpot} {p : TSpot} {need : Int} (hl : l.length < 1000000) (ho : ∀ s ∈ l, OkSpot s) (hp : OkSpot p) (hn : OkHeat need) : loopO (fire_Decides_l2 f l p need) (0, ([] : List Int)) = some ((l.length : Int), decL f l p need l.length) :=
  loop_run (body := fire_Decides_l2 f l p need) (fun k => ((k : Int), decL f l p need k)) l.length (fun k hk => by
    have c2 : (0 : Int) ≤ (k : Int) ∧ (k : Int) < ((l.length : Nat) : Int) := by omega
    have hq := ho _ (List.getElem_mem hk)
    have hr := far_rg h.1.1 hq hp
    have h1 := loS_le f l[k]
    have h2 := loS_at f l[k]
    have h3 : loS f l[k] ≤ 1500 := by
      rcases h2 with h2 | ⟨x, hx, h2⟩
      · omega
      · have := low_rg h.1.1 hq (h.1.2.2.1 x hx); omega
    have hdl := decL_len f l p need k
    unfold fire_Decides_l2; dsimp only
    rw [ite_t (by omega), guardO_pos c2, rdL_nat hk, TSpot_eta, ends_eq h hq, needed_eq h hq hp hn, ends_eq h hp, far_eq h.1.1 hq hp]
    dsimp only [Option.bind_some]
    have e1 : (endsS f l[k]).fSpan.fLo = loS f l[k] := rfl
    have e2 : (endsS f p).fSpan.fHi = hiS f p := rfl
    rw [e1, e2, w64_id (x := loS f l[k] + _) (by omega) (by omega), w64_succ (by omega), guardO_pos (by omega), decL_succ, getD_lt hk]
    unfold decQ
    by_cases hb : ((neS f l[k] p need).2 && decide (loS f l[k] < (neS f l[k] p need).1)) = true
    · rw [if_pos hb, hb, Bool.true_and]
      dsimp only [Option.bind_some]
      split <;> rfl
    · rw [if_neg hb, (Bool.not_eq_true _).mp hb, Bool.false_and]
      rfl) (by
    unfold fire_Decides_l2; dsimp only
    rw [ite_f (by omega)])
theorem Decides_eq {f : TFire} {l : List TSpot} {p : TSpot} {need : Int} (hf : f.fLooks.length < 1000000) (hl : l.length < 1000000) (h : CheckS f = 0 → Ok12 f) : fire_Decides f l p need = some (DecidesS f l p need) := by
  unfold fire_Decides DecidesS
  rw [listed_eq hf hl, Option.bind_some, agreed_1, right_eq, heat_eq]
  by_cases hL : ListS f l = 0
  · have h2 := ListS_0.1 hL
    rw [if_pos (by rw [hL]; rfl)]
    dsimp only [Option.bind_some]
    by_cases hp : OkSpot p ∧ OkHeat need
    · have ha : hotS f l p need = if agreeS f = true then 0 else 9 := by
        unfold hotS
        rw [if_pos h2.1, if_neg (by omega), if_pos ⟨h2.2.2, hp.1, hp.2⟩]
      rw [if_neg (by simp [hp.1])]
      dsimp only [Option.bind_some]
      rw [if_neg (by simp [hp.2]), hL, agreed_eq (fun _ => h h2.1), ha, Decides_run (h h2.1) hl h2.2.2 hp.1 hp.2]
      dsimp only [Option.bind_some]
      cases agreeS f <;> rfl
    · have ha : hotS f l p need = 1 := by
        unfold hotS
        rw [if_pos h2.1, if_neg (by omega), if_neg (fun hc => hp ⟨hc.2.1, hc.2.2⟩)]
      rw [ha]
      by_cases hp1 : OkSpot p
      · rw [if_neg (by simp [hp1])]
        dsimp only [Option.bind_some]
        rw [if_pos (by simp; exact fun hc => hp ⟨hp1, hc⟩)]
        rfl
      · rw [if_pos (by simp [hp1])]
        rfl
  · have ha : hotS f l p need = ListS f l := by
      unfold hotS
      unfold ListS spotsS at hL ⊢
      by_cases hc : CheckS f = 0
      · rw [if_pos hc] at hL ⊢
        rw [if_pos hc]
        by_cases h24 : 24 < l.length
        · rw [if_pos h24, if_pos h24]
        · rw [if_neg h24] at hL ⊢
          rw [if_neg h24]
          rw [if_pos hc] at hL ⊢
          by_cases he : ∃ s ∈ l, ¬ OkSpot s
          · rw [if_pos he, if_neg]
            rintro ⟨a, _⟩
            obtain ⟨s, hs1, hs2⟩ := he
            exact hs2 (a s hs1)
          · rw [if_neg he] at hL
            exact absurd rfl hL
      · rw [if_neg hc, if_neg hc]
    rw [if_neg (by simpa using hL), Option.bind_some, if_neg Bool.false_ne_true, agreed_eq (fun h0 => absurd h0 hL), if_neg hL, ha, if_neg hL]
    dsimp only [Option.bind_some]
    rw [if_pos (by simpa using hL)]
/-! ### FireDecides -/
/-- A look at q whose heat reaches from n, within the ends. -/
def lookN (id : Int) (q : TSpot) (n m : Int) : TLook := ⟨id, q, ⟨n, m⟩⟩
section
variable {f : TFire} {p q : TSpot} {need id a b : Int}
theorem okN (h : CheckS (wiS f (lookN id q a b)) = 0) {n m : Int} (hn : OkHeat n) (hm : OkHeat m) (hnm : n ≤ m) : CheckS (wiS f (lookN id q n m)) = 0 :=
  wi_again h rfl ⟨(wi_ok h).2.1, (wi_ok h).2.2.1, hn, hm, hnm⟩
end
theorem FireDecides_true (p0 : TFire) (p1 p2 : TSpot) (p3 p4 : Int) (h0 : TFire_rg p0) (h1 : TSpot_rg p1) (h2 : TSpot_rg p2) (h3 : Rg_i64 p3) (h4 : Rg_i64 p4) : calxlaw02_FireDecides p0 p1 p2 p3 p4 = some true := by
  unfold calxlaw02_FireDecides
  rw [few_eq, Option.bind_some, sanity_true]
  by_cases hf : few p0 ∧ p0.fLooks.length < 24
  · obtain ⟨hf, hlt⟩ := hf
    have hl : p0.fLooks.length ≤ 12 := by unfold few at hf; omega
    have hEn : ∀ s, fire_Ends p0 s = some (EndsS p0 s) := fun s => Ends_eq (by omega) (few_12 hf)
    have hWd : ∀ x s, fire_Would p0 x s = some (WouldS p0 x s) := fun x s => Would_eq (by omega) (fun _ => hl)
    rw [if_neg (by simp [hf]; omega)]
    simp only [hEn, hWd, Needed_eq (f := p0) (q := p2) (p := p1) (need := p3) (by omega) (few_12 hf), Decides_eq (f := p0) (l := [p2]) (p := p1) (need := p3) (by omega) (by simp) (few_12 hf), Option.bind_some]
    by_cases hh : hotS p0 [p2] p1 p3 = 0
    · have hN : NeededS p0 p2 p1 p3 = ((neS p0 p2 p1 p3).1, (neS p0 p2 p1 p3).2, 0) := by unfold NeededS; rw [if_pos hh]
      have hD : DecidesS p0 [p2] p1 p3 = (decL p0 [p2] p1 p3 1, 0) := by unfold DecidesS; rw [if_pos hh]; rfl
      obtain ⟨hc, _, hqs, hp, hn, hag⟩ := hotS_0.1 hh
      have hq := hqs p2 (by simp)
      have hok := CheckS_ok.1 hc
      have hsp : spotsS p0 [p1] = 0 := spotsS_0.2 ⟨hc, fun s hs => by rw [List.mem_singleton.1 hs]; exact hp⟩
      have hE : EndsS p0 p2 = (endsS p0 p2, 0) := by
        unfold EndsS
        rw [if_pos (askS_0.2 ⟨hc, fun s hs => by rw [List.mem_singleton.1 hs]; exact hq, hag⟩)]
      have e1 : (endsS p0 p2).fSpan.fLo = loS p0 p2 := rfl
      have e2 : (endsS p0 p2).fSpan.fHi = hiS p0 p2 := rfl
      have hr := far_rg hok.1 hp hq
      have hr2 := far_rg hok.1 hq hp
      have hlh := lo_hi hok hag hq
      have hl0 := loS_le p0 p2
      have hh0 := hiS_le p0 p2
      have hdl : decL p0 [p2] p1 p3 1 = if decQ p0 p2 p1 p3 = true then [0] else [] := by
        rw [decL_succ]
        rfl
      rw [hN, hD, hE, e1, e2]
      dsimp only
      rw [if_neg (by decide), if_neg (by decide), hdl]
      -- the last look
      have hlast : ∀ (hdq : decQ p0 p2 p1 p3 = true) (hck : CheckS (wiS p0 (lookN p4 p2 (loS p0 p2) (loS p0 p2))) = 0), WouldS p0 ⟨p4, p2, ⟨loS p0 p2, loS p0 p2⟩⟩ p1 = (endsS (wiS p0 (lookN p4 p2 (loS p0 p2) (loS p0 p2))) p1, 0) ∧ (endsS (wiS p0 (lookN p4 p2 (loS p0 p2) (loS p0 p2))) p1).fSpan.fHi < p3 := by
        intro hdq hck
        refine ⟨Would_in (x := lookN p4 p2 (loS p0 p2) (loS p0 p2)) hsp hag hck (Int.le_refl _) hlh, ?_⟩
        unfold decQ at hdq
        simp only [Bool.and_eq_true, decide_eq_true_eq] at hdq
        have e3 : (endsS (wiS p0 (lookN p4 p2 (loS p0 p2) (loS p0 p2))) p1).fSpan.fHi = min (hiS p0 p1) (loS p0 p2 + farS p0 p2 p1) := hi_wi p0 (lookN p4 p2 (loS p0 p2) (loS p0 p2)) p1
        rw [e3]
        exact hdq.2
      by_cases his : (neS p0 p2 p1 p3).2 = true
      · have hn1 : loS p0 p2 ≤ (neS p0 p2 p1 p3).1 ∧ (neS p0 p2 p1 p3).1 ≤ hiS p0 p2 := by
          unfold neS at his ⊢
          by_cases a1 : p3 ≤ loS p0 p1
          · rw [if_pos a1]; exact ⟨Int.le_refl _, hlh⟩
          · rw [if_neg a1] at his ⊢
            by_cases a2 : hiS p0 p2 < max (loS p0 p2) (p3 + farS p0 p1 p2)
            · rw [if_pos a2] at his; cases his
            · rw [if_neg a2]; dsimp only; omega
        have hn2 : p3 ≤ max (loS p0 p1) ((neS p0 p2 p1 p3).1 - farS p0 p1 p2) := by
          unfold neS at his ⊢
          by_cases a1 : p3 ≤ loS p0 p1
          · omega
          · rw [if_neg a1] at his ⊢
            by_cases a2 : hiS p0 p2 < max (loS p0 p2) (p3 + farS p0 p1 p2)
            · rw [if_pos a2] at his; cases his
            · rw [if_neg a2]; dsimp only; omega
        have hn3 : loS p0 p2 < (neS p0 p2 p1 p3).1 → max (loS p0 p1) ((neS p0 p2 p1 p3).1 - 1 - farS p0 p1 p2) < p3 := by
          unfold neS at his ⊢
          by_cases a1 : p3 ≤ loS p0 p1
          · rw [if_pos a1]; dsimp only; omega
          · rw [if_neg a1] at his ⊢
            by_cases a2 : hiS p0 p2 < max (loS p0 p2) (p3 + farS p0 p1 p2)
            · rw [if_pos a2] at his; cases his
            · rw [if_neg a2]; dsimp only; omega
        generalize hnn : (neS p0 p2 p1 p3).1 = n at *
        rw [if_neg (by simp [his]), if_pos his, show w64 (n - 1) = n - 1 from w64_id (by omega) (by omega)]
        by_cases hck : CheckS (wiS p0 (lookN p4 p2 n (hiS p0 p2))) = 0
        · have hW1 : WouldS p0 ⟨p4, p2, ⟨n, hiS p0 p2⟩⟩ p1 = (endsS (wiS p0 (lookN p4 p2 n (hiS p0 p2))) p1, 0) := Would_in (x := lookN p4 p2 n (hiS p0 p2)) hsp hag hck (by show loS p0 p2 ≤ hiS p0 p2; omega) hn1.2
          have e3 : (endsS (wiS p0 (lookN p4 p2 n (hiS p0 p2))) p1).fSpan.fLo = max (loS p0 p1) (n - farS p0 p1 p2) := lo_wi p0 (lookN p4 p2 n (hiS p0 p2)) p1
          rw [hW1]
          dsimp only
          rw [if_neg (by decide), e3, if_neg (by simp; omega)]
          have hheat : ∀ {a : Int}, loS p0 p2 ≤ a → a ≤ hiS p0 p2 → OkHeat a := fun h1 h2 => ⟨by omega, by omega⟩
          have hck3 : CheckS (wiS p0 (lookN p4 p2 (loS p0 p2) (loS p0 p2))) = 0 := okN hck (hheat (Int.le_refl _) hlh) (hheat (Int.le_refl _) hlh) (Int.le_refl _)
          have htail : ∀ (X : Option Bool), X = X → (if ((((if decQ p0 p2 p1 p3 = true then [0] else [] : List Int)).length : Int) == 0) = true then some true else ((if (true && (((((if decQ p0 p2 p1 p3 = true then [0] else [] : List Int)).length : Nat) : Int) == 1)) = true then (guardO ((0 : Int) ≤ 0 ∧ 0 < ((((if decQ p0 p2 p1 p3 = true then [0] else [] : List Int)).length : Nat) : Int)) (some (((rdL (if decQ p0 p2 p1 p3 = true then [0] else [] : List Int) 0) == 0)))) else (some (false))).bind fun b56 => some (((b56 && (decide (loS p0 p2 < n))) && ((WouldS p0 ⟨p4, p2, ⟨loS p0 p2, loS p0 p2⟩⟩ p1).2 == 0)) && (decide ((WouldS p0 ⟨p4, p2, ⟨loS p0 p2, loS p0 p2⟩⟩ p1).1.fSpan.fHi < p3))))) = some true := by
            intro _ _
            by_cases hdq : decQ p0 p2 p1 p3 = true
            · obtain ⟨w1, w2⟩ := hlast hdq hck3
              have hgt : loS p0 p2 < n := by
                unfold decQ at hdq
                simp only [Bool.and_eq_true, decide_eq_true_eq] at hdq
                rw [hnn] at hdq
                exact hdq.1.2
              simp only [if_pos hdq]
              rw [w1, if_neg (by decide), if_pos (by decide), guardO_pos (by decide), Option.bind_some, decide_eq_true hgt]
              dsimp only
              rw [decide_eq_true w2]
              rfl
            · simp only [if_neg hdq]
              rfl
          by_cases hgt : loS p0 p2 < n
          · rw [ite_t hgt]
            have hck2 : CheckS (wiS p0 (lookN p4 p2 (n - 1) (hiS p0 p2))) = 0 := okN hck (hheat (by omega) (by omega)) (hheat hlh (Int.le_refl _)) (by omega)
            have hW2 : WouldS p0 ⟨p4, p2, ⟨n - 1, hiS p0 p2⟩⟩ p1 = (endsS (wiS p0 (lookN p4 p2 (n - 1) (hiS p0 p2))) p1, 0) := Would_in (x := lookN p4 p2 (n - 1) (hiS p0 p2)) hsp hag hck2 (by show loS p0 p2 ≤ hiS p0 p2; omega) (by show n - 1 ≤ hiS p0 p2; omega)
            have e4 : (endsS (wiS p0 (lookN p4 p2 (n - 1) (hiS p0 p2))) p1).fSpan.fLo = max (loS p0 p1) (n - 1 - farS p0 p1 p2) := lo_wi p0 (lookN p4 p2 (n - 1) (hiS p0 p2)) p1
            have h6 := hn3 hgt
            rw [hW2]
            dsimp only
            rw [e4, if_neg (by simp; omega)]
            exact htail none rfl
          · rw [ite_f hgt]
            exact htail none rfl
        · have hW1 : (WouldS p0 ⟨p4, p2, ⟨n, hiS p0 p2⟩⟩ p1).2 = CheckS (wiS p0 (lookN p4 p2 n (hiS p0 p2))) := Would_err (x := lookN p4 p2 n (hiS p0 p2)) hsp hck
          have hcr := CheckS_rg (f := wiS p0 (lookN p4 p2 n (hiS p0 p2))) hok.1 (by rw [wi_len]; omega)
          rw [hW1, if_pos (by simpa using hck)]
          rcases hcr with h | h | h
          · exact absurd h hck
          · rw [h]; rfl
          · rw [h]; rfl
      · have hdq : decQ p0 p2 p1 p3 = false := by
          unfold decQ
          rw [(Bool.not_eq_true _).mp his]
          rfl
        rw [hdq, if_neg (by simp), if_neg his, if_pos (by rfl)]
    · have hN : (NeededS p0 p2 p1 p3).2.2 = hotS p0 [p2] p1 p3 := by unfold NeededS; rw [if_neg hh]
      have hD : (DecidesS p0 [p2] p1 p3).2 = hotS p0 [p2] p1 p3 := by unfold DecidesS; rw [if_neg hh]
      rw [hN, hD, if_neg (by simp), if_pos (by simpa using hh)]
  · rw [if_pos]
    · rfl
    · simp only [Bool.or_eq_true, Bool.not_eq_true', decide_eq_false_iff_not, decide_eq_true_eq]
      rcases Decidable.not_and_iff_or_not.1 hf with h | h
      · exact .inl h
      · right; omega
end Go.Proofs.Ytndajeiecdmhnaa
