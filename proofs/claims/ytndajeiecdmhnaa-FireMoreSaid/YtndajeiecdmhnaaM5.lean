/- Plain laws of fire: a fire without some looks; Suspects; Far; comparisons. No program in sight. -/
import Derived.Test.YtndajeiecdmhnaaM4
set_option linter.unusedVariables false
namespace Go.Proofs.Ytndajeiecdmhnaa

theorem rngB_of {x : Int} (h1 : -9223372036854775808 ≤ x) (h2 : x ≤ 9223372036854775807) : rngB x = true := by unfold rngB; simp [h1, h2]
/-! ### A fire without some looks -/
def woL (l : List TLook) (ids : List Int) : List TLook := l.filter fun x => !decide (x.fID ∈ ids)
def woS (f : TFire) (ids : List Int) : TFire := ⟨f.fRise, f.fFall, f.fUp, f.fDown, woL f.fLooks ids⟩
theorem mget_ids (x : Int) : ∀ (ids : List Int) (m : List (Int × Bool)), (∀ y, mgetV false m y = true → True) → mgetV false (ids.foldl (fun m i => (i, true) :: m) m) x = (decide (x ∈ ids) || mgetV false m x)
  | [], m, _ => by simp
  | i :: ids, m, h => by
    rw [List.foldl_cons, mget_ids x ids _ (fun _ _ => trivial)]
    by_cases e : i = x
    · subst e
      have e1 : mgetV false ((i, true) :: m) i = true := if_pos rfl
      rw [e1, Bool.or_true, decide_eq_true (List.mem_cons_self), Bool.true_or]
    · have e1 : mgetV false ((i, true) :: m) x = mgetV false m x := if_neg e
      have e2 : decide (x ∈ i :: ids) = decide (x ∈ ids) := by
        rw [Bool.eq_iff_iff, decide_eq_true_eq, decide_eq_true_eq, List.mem_cons]
        exact ⟨fun h => h.resolve_left (fun h' => e h'.symm), .inr⟩
      rw [e1, e2]
theorem DeleteFunc_eq {l : List TLook} {f : TLook → Option Bool} {q : TLook → Bool} (hl : l.length < 1000000) (h : ∀ x ∈ l, f x = some (q x)) : slices_DeleteFunc_calx_api_Look_calx_api_Look l f = some (l.filter fun x => !q x) := by
  unfold slices_DeleteFunc_calx_api_Look_calx_api_Look
  rw [IndexLook_eq (q := q) (by omega) h, Option.bind_some]
  rcases idxI_cases l q with ⟨h1, h2⟩ | ⟨i, hi, hq, hj, h2⟩
  · rw [h2, if_pos (by rfl)]
    refine congrArg some (List.filter_eq_self.2 (fun x hx => by rw [h1 x hx]; rfl)).symm
  · rw [h2, if_neg (by rw [beq_iff_eq]; omega)]
    have hpre : (l.take i).filter (fun x => !q x) = l.take i := by
      refine List.filter_eq_self.2 (fun x hx => ?_)
      obtain ⟨j, hj', rfl⟩ := List.mem_iff_getElem.1 hx
      rw [List.length_take] at hj'
      rw [List.getElem_take, hj j (by omega)]
      rfl
    have hinv := loopO_inv (body := slices_DeleteFunc_calx_api_Look_calx_api_Look_l1 l f)
      (fun s => ∃ (j : Nat) (d : List TLook), s = ((((l.take j).filter (fun x => !q x)).length : Int), (j : Int), d) ∧ j ≤ l.length ∧ d.length = l.length ∧ ((l.take j).filter (fun x => !q x)).length < j ∧ d.take ((l.take j).filter (fun x => !q x)).length = (l.take j).filter (fun x => !q x) ∧ d.drop j = l.drop j)
      (fun _ t => 0 ≤ t.1 ∧ t.1 ≤ (l.length : Int) ∧ t.2.2.take t.1.toNat = l.filter fun x => !q x) (fun s => l.length - s.2.1.toNat) (by
        rintro _ ⟨j, d, rfl, hjl, hdl, hlt, htk, hdr⟩
        generalize hm : ((l.take j).filter (fun x => !q x)).length = m at *
        rcases Nat.lt_or_ge j l.length with hjn | hjn
        · left
          have hdj : rdL d (j : Int) = l[j] := by
            rw [rdL_nat (by omega)]
            have e1 : (d.drop j)[0]? = (l.drop j)[0]? := by rw [hdr]
            rw [List.getElem?_drop, List.getElem?_drop, Nat.add_zero, List.getElem?_eq_getElem (by omega), List.getElem?_eq_getElem hjn] at e1
            exact Option.some.inj e1
          have c1 : decide ((j : Int) < ((l.length : Nat) : Int)) = true := decide_eq_true (by omega)
          have c2 : (0 : Int) ≤ (j : Int) ∧ (j : Int) < ((l.length : Nat) : Int) := by omega
          have c3 : (0 : Int) ≤ (m : Int) ∧ (m : Int) < ((l.length : Nat) : Int) := by omega
          have step : slices_DeleteFunc_calx_api_Look_calx_api_Look_l1 l f ((m : Int), (j : Int), d) = if q l[j] = true then some (.inl ((m : Int), ((j + 1 : Nat) : Int), d)) else some (.inl (((m + 1 : Nat) : Int), ((j + 1 : Nat) : Int), d.set m l[j])) := by
            unfold slices_DeleteFunc_calx_api_Look_calx_api_Look_l1; dsimp only
            simp only [c1, if_true, guardO_pos c2, guardO_pos c3, hdj, TLook_eta, h _ (List.getElem_mem hjn), Option.bind_some, w64_succ (show j < 9223372036854775807 by omega), w64_succ (show m < 9223372036854775807 by omega), Int.toNat_natCast]
            cases q l[j] <;> rfl
          have htk1 : l.take (j + 1) = l.take j ++ [l[j]] := List.take_succ_eq_append_getElem hjn
          by_cases hqj : q l[j] = true
          · rw [if_pos hqj] at step
            have hf1 : (l.take (j + 1)).filter (fun x => !q x) = (l.take j).filter (fun x => !q x) := by
              rw [htk1, List.filter_append]; simp [hqj]
            refine ⟨_, step, ⟨j + 1, d, by rw [hf1, hm], by omega, hdl, by rw [hf1, hm]; omega, by rw [hf1, hm]; exact htk, ?_⟩, by dsimp only; omega, fun t h => h⟩
            have : d.drop (j + 1) = (d.drop j).drop 1 := by rw [List.drop_drop]
            rw [this, hdr, List.drop_drop]
          · rw [if_neg hqj] at step
            have hf1 : (l.take (j + 1)).filter (fun x => !q x) = (l.take j).filter (fun x => !q x) ++ [l[j]] := by
              rw [htk1, List.filter_append]; simp [hqj]
            have hm1 : ((l.take (j + 1)).filter (fun x => !q x)).length = m + 1 := by rw [hf1, List.length_append, hm]; rfl
            refine ⟨_, step, ⟨j + 1, d.set m l[j], by rw [hm1], by omega, by rw [List.length_set]; exact hdl, by rw [hm1]; omega, ?_, ?_⟩, by dsimp only; omega, fun t h => h⟩
            · rw [hm1, hf1, List.take_succ_eq_append_getElem (by rw [List.length_set]; omega), List.getElem_set_self, List.take_set_of_le (Nat.le_refl _), htk]
            · rw [List.drop_set_of_lt (by omega)]
              have : d.drop (j + 1) = (d.drop j).drop 1 := by rw [List.drop_drop]
              rw [this, hdr, List.drop_drop]
        · right
          have : j = l.length := by omega
          subst this
          refine ⟨((m : Int), ((l.length : Nat) : Int), d), ?_, ?_⟩
          · unfold slices_DeleteFunc_calx_api_Look_calx_api_Look_l1; dsimp only
            rw [ite_f (by omega)]
          · dsimp only
            rw [List.take_length] at htk
            exact ⟨by omega, by omega, by rw [Int.toNat_natCast]; exact htk⟩) ((i : Int), w64 ((i : Int) + 1), l) (by
        have htk1 : l.take (i + 1) = l.take i ++ [l[i]] := List.take_succ_eq_append_getElem hi
        have hf1 : (l.take (i + 1)).filter (fun x => !q x) = l.take i := by
          rw [htk1, List.filter_append, hpre]; simp [hq]
        refine ⟨i + 1, l, ?_, by omega, rfl, ?_, ?_, rfl⟩
        · rw [hf1, List.length_take, Nat.min_eq_left (by omega), w64_succ (by omega)]
        · rw [hf1, List.length_take]; omega
        · rw [hf1, List.length_take, Nat.min_eq_left (by omega)])
    obtain ⟨t, ht, h3, h4, h5⟩ := hinv
    rw [ht, Option.bind_some, guardO_pos ⟨h3, h4⟩, guardO_pos ⟨h3, h4⟩, h5]
theorem without_eq {f : TFire} {ids : List Int} (hl : f.fLooks.length < 1000000) (hi : ids.length < 100000) (hr : ∀ i ∈ ids, rngB i = true) (ho : ∀ x ∈ f.fLooks, OkLook x) : fire_without f ids = some (woS f ids) := by
  unfold fire_without
  have hm := (loop_foldl (body := fire_without_l1 ids) ids (fun k (m : List (Int × Bool)) => ((k : Int), m)) (fun m i => (i, true) :: m) [] (fun m => ((ids.length : Int), m)) (fun k m => m.length = k) rfl (fun k m hk hm => by
    have c1 : decide ((k : Int) < ((ids.length : Nat) : Int)) = true := decide_eq_true (by omega)
    have c2 : (0 : Int) ≤ (k : Int) ∧ (k : Int) < ((ids.length : Nat) : Int) := by omega
    refine ⟨?_, by simp [hm]⟩
    unfold fire_without_l1; dsimp only
    rw [if_pos c1, guardO_pos c2, rdL_nat hk, guardO_pos ⟨hr _ (List.getElem_mem hk), by omega⟩, w64_succ (by omega)]) (fun m _ => by
    unfold fire_without_l1; dsimp only
    rw [ite_f (by omega)])).1
  have h0 : loopO (fire_without_l1 ids) (0, []) = _ := hm
  rw [h0, Option.bind_some]
  unfold slices_Clone_calx_api_Look_calx_api_Look
  rw [guardO_pos (by omega), Option.bind_some, List.nil_append]
  rw [DeleteFunc_eq (q := fun x => decide (x.fID ∈ ids)) hl (fun x hx => by
    have hx' := (ho x hx).1
    unfold fire_without_1
    rw [guardO_pos (rngB_of (by omega) (by omega)), mget_ids _ _ _ (fun _ _ => trivial)]
    simp [mgetV])]
  rfl
theorem woS_ok {f : TFire} (h : OkF f) (ids : List Int) : OkF (woS f ids) := by
  refine ⟨h.1, ?_, ?_, ?_⟩
  · have : (woL f.fLooks ids).length ≤ f.fLooks.length := List.length_filter_le _ _
    have := h.2.1
    show (woL f.fLooks ids).length ≤ 24
    omega
  · intro x hx
    exact h.2.2.1 x (List.mem_filter.1 hx).1
  · have : ((woL f.fLooks ids).map (·.fID)).Sublist (f.fLooks.map (·.fID)) := List.Sublist.map _ List.filter_sublist
    exact h.2.2.2.sublist this
theorem woS_ok12 {f : TFire} (h : Ok12 f) (ids : List Int) : Ok12 (woS f ids) := ⟨woS_ok h.1 ids, by
  have : (woL f.fLooks ids).length ≤ f.fLooks.length := List.length_filter_le _ _
  have := h.2
  show (woL f.fLooks ids).length ≤ 13
  omega⟩
theorem Without_eq {f : TFire} {ids : List Int} (hl : f.fLooks.length < 1000000) (hi : ids.length < 100000) (hr : ∀ i ∈ ids, rngB i = true) : fire_Without f ids = some (if CheckS f = 0 then (woS f ids, 0) else (⟨0, 0, 0, 0, []⟩, CheckS f)) := by
  unfold fire_Without
  rw [Check_eq f (by omega), Option.bind_some]
  by_cases hc : CheckS f = 0
  · rw [if_pos hc, hc, without_eq hl hi hr (CheckS_ok.1 hc).2.2.1]
    rfl
  · rw [if_neg hc, if_pos (by simpa using hc)]
/-! ### The IDs of looks of which something is so -/
def namS (f : TFire) (q : Int → Bool) : List Int := ((srt f.fLooks).map (·.fID)).filter q
theorem named_eq {f : TFire} {is : Int → Option Bool} {q : Int → Bool} (h : Ok12 f) (hq : ∀ x ∈ f.fLooks, is x.fID = some (q x.fID)) : fire_named f is = some (namS f q) := by
  unfold fire_named
  rw [sorted_eq h, Option.bind_some, guardO_pos (seqLook_of h.1.2.1)]
  have hstep : ∀ (m : List Int) (x : TLook), x ∈ f.fLooks → m.length ≤ 1000 → fire_named_r1 is m x = some (.inl (if q x.fID = true then m ++ [x.fID] else m)) := by
    intro m x hx hm
    unfold fire_named_r1
    rw [hq x hx, Option.bind_some, guardO_pos (by omega)]
    split <;> rfl
  have key : ∀ (l : List TLook) (m : List Int), (∀ x ∈ l, x ∈ f.fLooks) → m.length + l.length ≤ 1000 → foldO (fire_named_r1 is) l m = some (.inl (m ++ (l.map (·.fID)).filter q)) := by
    intro l
    induction l with
    | nil => intro m _ _; simp [foldO]
    | cons x l ih =>
      intro m hm hl
      simp only [List.length_cons] at hl
      unfold foldO
      rw [hstep m x (hm x (by simp)) (by omega)]
      show foldO (fire_named_r1 is) l _ = _
      by_cases hx : q x.fID = true
      · rw [if_pos hx, ih _ (fun y hy => hm y (by simp [hy])) (by simp; omega)]
        simp [hx]
      · rw [if_neg hx, ih _ (fun y hy => hm y (by simp [hy])) (by omega)]
        simp [hx]
  have h2 := key (seqLook (srt f.fLooks)) [] (fun x hx => srt_mem.1 hx) (by
    show 0 + (srt f.fLooks).length ≤ 1000
    rw [srt_len]; have := h.2; omega)
  rw [h2]
  rfl
theorem id_rng {x : TLook} (h : OkLook x) : rngB x.fID = true := by
  have := h.1
  exact rngB_of (by omega) (by omega)
/-! #### put -/
end Go.Proofs.Ytndajeiecdmhnaa
