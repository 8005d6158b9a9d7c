/- Plain laws of fire: a fire without some looks; Suspects; Far; comparisons. No program in sight. -/
import Derived.Test.YtndajeiecdmhnaaGreatM4
set_option linter.unusedVariables false
namespace Go.Proofs.YtndajeiecdmhnaaGreat

theorem rngB_of {x : Int} (h1 : -9223372036854775808 ≤ x) (h2 : x ≤ 9223372036854775807) : rngB x = true := by unfold rngB; simp [h1, h2]
/-! ### A fire without some looks -/
def woL (l : List TLook) (ids : List Int) : List TLook := l.filter fun x => !decide (x.fID ∈ ids)
def woS (f : TFire) (ids : List Int) : TFire := ⟨f.fRise, f.fFall, f.fUp, f.fDown, woL f.fLooks ids⟩
theorem mget_ids (x : Int) : ∀ (ids : List Int) (m : List (Int × Bool)), (∀ y, mgetV false m y = true → True) → mgetV false (ids.foldl (fun m i => (i, true) :: m) m) x = (decide (x ∈ ids) || mgetV false m x)
  | [], m, _ => by simp
  | i :: ids, m, h => by
    rw [List.foldl_cons, mget_ids x ids _ (fun _ _ => trivial)]
    by_cases e : i = x
    · subst e
      have e1 : mgetV false ((i, true) :: m) i = true := if_pos rfl
      rw [e1, Bool.or_true, decide_eq_true (List.mem_cons_self), Bool.true_or]
    · have e1 : mgetV false ((i, true) :: m) x = mgetV false m x := if_neg e
      have e2 : decide (x ∈ i :: ids) = decide (x ∈ ids) := by
        rw [Bool.eq_iff_iff, decide_eq_true_eq, decide_eq_true_eq, List.mem_cons]
        exact ⟨fun h => h.resolve_left (fun h' => e h'.symm), .inr⟩
      rw [e1, e2]
theorem DeleteFunc_eq {l : List TLook} {f : TLook → Option Bool} {q : TLook → Bool} (hl : l.length < 1000000) (h : ∀ x ∈ l, f x = some (q x)) : slices_DeleteFunc_calx_api_Look_calx_api_Look l f = some (l.filter fun x => !q x) := by
  unfold slices_DeleteFunc_calx_api_Look_calx_api_Look
  rw [IndexLook_eq (q := q) (by omega) h, Option.bind_some]
  rcases idxI_cases l q with ⟨h1, h2⟩ | ⟨i, hi, hq, hj, h2⟩
  · rw [h2, if_pos (by rfl)]
    refine congrArg some (List.filter_eq_self.2 (fun x hx => by rw [h1 x hx]; rfl)).symm
  · rw [h2, if_neg (by rw [beq_iff_eq]; omega)]
    have hpre : (l.take i).filter (fun x => !q x) = l.take i := by
      refine List.filter_eq_self.2 (fun x hx => ?_)
      obtain ⟨j, hj', rfl⟩ := List.mem_iff_getElem.1 hx
      rw [List.length_take] at hj'
      rw [List.getElem_take, hj j (by omega)]
      rfl
    have hinv := loopO_inv (body := slices_DeleteFunc_calx_api_Look_calx_api_Look_l1 l f)
      (fun s => ∃ (j : Nat) (d : List TLook), s = ((((l.take j).filter (fun x => !q x)).length : Int), (j : Int), d) ∧ j ≤ l.length ∧ d.length = l.length ∧ ((l.take j).filter (fun x => !q x)).length < j ∧ d.take ((l.take j).filter (fun x => !q x)).length = (l.take j).filter (fun x => !q x) ∧ d.drop j = l.drop j)
      (fun _ t => 0 ≤ t.1 ∧ t.1 ≤ (l.length : Int) ∧ t.2.2.take t.1.toNat = l.filter fun x => !q x) (fun s => l.length - s.2.1.toNat) (by
        rintro _ ⟨j, d, rfl, hjl, hdl, hlt, htk, hdr⟩
        generalize hm : ((l.take j).filter (fun x => !q x)).length = m at *
        rcases Nat.lt_or_ge j l.length with hjn | hjn
        · left
          have hdj : rdL d (j : Int) = l[j] := by
            rw [rdL_nat (by omega)]
            have e1 : (d.drop j)[0]? = (l.drop j)[0]? := by rw [hdr]
            rw [List.getElem?_drop, List.getElem?_drop, Nat.add_zero, List.getElem?_eq_getElem (by omega), List.getElem?_eq_getElem hjn] at e1
            exact Option.some.inj e1
          have c1 : decide ((j : Int) < ((l.length : Nat) : Int)) = true := decide_eq_true (by omega)
          have c2 : (0 : Int) ≤ (j : Int) ∧ (j : Int) < ((l.length : Nat) : Int) := by omega
          have c3 : (0 : Int) ≤ (m : Int) ∧ (m : Int) < ((l.length : Nat) : Int) := by omega
          have step : slices_DeleteFunc_calx_api_Look_calx_api_Look_l1 l f ((m : Int), (j : Int), d) = if q l[j] = true then some (.inl ((m : Int), ((j + 1 : Nat) : Int), d)) else some (.inl (((m + 1 : Nat) : Int), ((j + 1 : Nat) : Int), d.set m l[j])) := by
            unfold slices_DeleteFunc_calx_api_Look_calx_api_Look_l1; dsimp only
            simp only [c1, if_true, guardO_pos c2, guardO_pos c3, hdj, TLook_eta, h _ (List.getElem_mem hjn), Option.bind_some, w64_succ (show j < 9223372036854775807 by omega), w64_succ (show m < 9223372036854775807 by omega), Int.toNat_natCast]
            cases q l[j] <;> rfl
          have htk1 : l.take (j + 1) = l.take j ++ [l[j]] := List.take_succ_eq_append_getElem hjn
          by_cases hqj : q l[j] = true
          · rw [if_pos hqj] at step
            have hf1 : (l.take (j + 1)).filter (fun x => !q x) = (l.take j).filter (fun x => !q x) := by
              rw [htk1, List.filter_append]; simp [hqj]
            refine ⟨_, step, ⟨j + 1, d, by rw [hf1, hm], by omega, hdl, by rw [hf1, hm]; omega, by rw [hf1, hm]; exact htk, ?_⟩, by dsimp only; omega, fun t h => h⟩
            have : d.drop (j + 1) = (d.drop j).drop 1 := by rw [List.drop_drop]
            rw [this, hdr, List.drop_drop]
          · rw [if_neg hqj] at step
            have hf1 : (l.take (j + 1)).filter (fun x => !q x) = (l.take j).filter (fun x => !q x) ++ [l[j]] := by
              rw [htk1, List.filter_append]; simp [hqj]
            have hm1 : ((l.take (j + 1)).filter (fun x => !q x)).length = m + 1 := by rw [hf1, List.length_append, hm]; rfl
            refine ⟨_, step, ⟨j + 1, d.set m l[j], by rw [hm1], by omega, by rw [List.length_set]; exact hdl, by rw [hm1]; omega, ?_, ?_⟩, by dsimp only; omega, fun t h => h⟩
            · rw [hm1, hf1, List.take_succ_eq_append_getElem (by rw [List.length_set]; omega), List.getElem_set_self, List.take_set_of_le (Nat.le_refl _), htk]
            · rw [List.drop_set_of_lt (by omega)]
              have : d.drop (j + 1) = (d.drop j).drop 1 := by rw [List.drop_drop]
              rw [this, hdr, List.drop_drop]
        · right
          have : j = l.length := by omega
          subst this
          refine ⟨((m : Int), ((l.length : Nat) : Int), d), ?_, ?_⟩
          · unfold slices_DeleteFunc_calx_api_Look_calx_api_Look_l1; dsimp only
            rw [ite_f (by omega)]
          · dsimp only
            rw [List.take_length] at htk
            exact ⟨by omega, by omega, by rw [Int.toNat_natCast]; exact htk⟩) ((i : Int), w64 ((i : Int) + 1), l) (by
        have htk1 : l.take (i + 1) = l.take i ++ [l[i]] := List.take_succ_eq_append_getElem hi
        have hf1 : (l.take (i + 1)).filter (fun x => !q x) = l.take i := by
          rw [htk1, List.filter_append, hpre]; simp [hq]
        refine ⟨i + 1, l, ?_, by omega, rfl, ?_, ?_, rfl⟩
        · rw [hf1, List.length_take, Nat.min_eq_left (by omega), w64_succ (by omega)]
        · rw [hf1, List.length_take]; omega
        · rw [hf1, List.length_take, Nat.min_eq_left (by omega)])
    obtain ⟨t, ht, h3, h4, h5⟩ := hinv
    rw [ht, Option.bind_some, guardO_pos ⟨h3, h4⟩, guardO_pos ⟨h3, h4⟩, h5]
theorem without_eq {f : TFire} {ids : List Int} (hl : f.fLooks.length < 1000000) (hi : ids.length < 100000) (hr : ∀ i ∈ ids, rngB i = true) (ho : ∀ x ∈ f.fLooks, OkLook x) : fire_without f ids = some (woS f ids) := by
  unfold fire_without
  have hm := (loop_foldl (body := fire_without_l1 ids) ids (fun k (m : List (Int × Bool)) => ((k : Int), m)) (fun m i => (i, true) :: m) [] (fun m => ((ids.length : Int), m)) (fun k m => m.length = k) rfl (fun k m hk hm => by
    have c1 : decide ((k : Int) < ((ids.length : Nat) : Int)) = true := decide_eq_true (by omega)
    have c2 : (0 : Int) ≤ (k : Int) ∧ (k : Int) < ((ids.length : Nat) : Int) := by omega
    refine ⟨?_, by simp [hm]⟩
    unfold fire_without_l1; dsimp only
    rw [if_pos c1, guardO_pos c2, rdL_nat hk, guardO_pos ⟨hr _ (List.getElem_mem hk), by omega⟩, w64_succ (by omega)]) (fun m _ => by
    unfold fire_without_l1; dsimp only
    rw [ite_f (by omega)])).1
  have h0 : loopO (fire_without_l1 ids) (0, []) = _ := hm
  rw [h0, Option.bind_some]
  unfold slices_Clone_calx_api_Look_calx_api_Look
  rw [guardO_pos (by omega), Option.bind_some, List.nil_append]
  rw [DeleteFunc_eq (q := fun x => decide (x.fID ∈ ids)) hl (fun x hx => by
    have hx' := (ho x hx).1
    unfold fire_without_1
    rw [guardO_pos (rngB_of (by omega) (by omega)), mget_ids _ _ _ (fun _ _ => trivial)]
    simp [mgetV])]
  rfl
theorem in_eq {l : List Int} {n : Int} (hl : l.length < 1000000) : calxref02_in l n = some (decide (n ∈ l)) := by
  unfold calxref02_in
  have := loop_search (body := calxref02_in_l1 l n) (fun k => (false, (k : Int))) l.length (fun k => if l.getD k default = n then some (Sum.inl (true, (k : Int))) else none) (t0 := .inr (false, (l.length : Int))) (fun k hk => by
    have c1 : decide ((k : Int) < ((l.length : Nat) : Int)) = true := decide_eq_true (by omega)
    have c2 : (0 : Int) ≤ (k : Int) ∧ (k : Int) < ((l.length : Nat) : Int) := by omega
    unfold calxref02_in_l1; dsimp only
    simp only [c1, if_true, guardO_pos c2, rdL_nat hk, getD_lt hk, w64_succ (show k < 9223372036854775807 by omega)]
    by_cases e : l[k] = n <;> simp [e]) (by
    unfold calxref02_in_l1; dsimp only
    rw [ite_f (by omega)])
  have h0 : loopO (calxref02_in_l1 l n) (false, 0) = _ := this
  rw [h0, Option.bind_some]
  rcases findSome_cases (R := fun k => if l.getD k default = n then some (Sum.inl (true, (k : Int)) : (Bool × Int) ⊕ (Bool × Int)) else none) (n := l.length) (.inr (false, (l.length : Int))) with ⟨hn, h4⟩ | ⟨j, t, hj, hR, hj', h4⟩
  · rw [h4, decide_eq_false]
    intro hm
    obtain ⟨k, hk, rfl⟩ := List.mem_iff_getElem.1 hm
    have := hn k hk
    rw [getD_lt hk, if_pos rfl] at this
    cases this
  · rw [getD_lt hj] at hR
    split at hR
    · rename_i e
      cases hR
      rw [h4, decide_eq_true (by rw [← e]; exact List.getElem_mem hj)]
    · cases hR
theorem rwithout_eq {f : TFire} {ids : List Int} (hl : f.fLooks.length < 1000000) (hi : ids.length < 100000) : calxref02_without f ids = some (woS f ids) := by
  unfold calxref02_without
  have hm := loop_foldl (body := calxref02_without_l1 f ids) f.fLooks (fun k (m : List TLook) => ((k : Int), m)) (fun m x => if decide (x.fID ∈ ids) = true then m else m ++ [x]) [] (fun m => ((f.fLooks.length : Int), m)) (fun k m => m.length ≤ k) (Nat.le_refl _) (fun k m hk hm => by
    have c1 : decide ((k : Int) < ((f.fLooks.length : Nat) : Int)) = true := decide_eq_true (by omega)
    have c2 : (0 : Int) ≤ (k : Int) ∧ (k : Int) < ((f.fLooks.length : Nat) : Int) := by omega
    refine ⟨?_, by
      split
      · omega
      · rw [List.length_append, List.length_singleton]; omega⟩
    unfold calxref02_without_l1; dsimp only
    rw [if_pos c1, guardO_pos c2, rdL_nat hk, in_eq (by omega), Option.bind_some, guardO_pos c2, guardO_pos (by omega), w64_succ (by omega)]
    cases decide (f.fLooks[k].fID ∈ ids) <;> rfl) (fun m _ => by
    unfold calxref02_without_l1; dsimp only
    rw [ite_f (by omega)])
  have h0 : loopO (calxref02_without_l1 f ids) (0, ([] : List TLook)) = _ := hm.1
  rw [h0, Option.bind_some]
  have hfold : ∀ (l m : List TLook), l.foldl (fun m x => if decide (x.fID ∈ ids) = true then m else m ++ [x]) m = m ++ woL l ids := by
    intro l
    induction l with
    | nil => intro m; simp [woL]
    | cons x l ih =>
      intro m
      rw [List.foldl_cons, ih]
      unfold woL
      by_cases hx : x.fID ∈ ids
      · simp [hx]
      · simp [hx]
  rw [hfold]
  rfl
theorem woS_ok {f : TFire} (h : OkF f) (ids : List Int) : OkF (woS f ids) := by
  refine ⟨h.1, ?_, ?_, ?_⟩
  · have : (woL f.fLooks ids).length ≤ f.fLooks.length := List.length_filter_le _ _
    have := h.2.1
    show (woL f.fLooks ids).length ≤ 24
    omega
  · intro x hx
    exact h.2.2.1 x (List.mem_filter.1 hx).1
  · have : ((woL f.fLooks ids).map (·.fID)).Sublist (f.fLooks.map (·.fID)) := List.Sublist.map _ List.filter_sublist
    exact h.2.2.2.sublist this
theorem woS_ok12 {f : TFire} (h : Ok12 f) (ids : List Int) : Ok12 (woS f ids) := ⟨woS_ok h.1 ids, by
  have : (woL f.fLooks ids).length ≤ f.fLooks.length := List.length_filter_le _ _
  have := h.2
  show (woL f.fLooks ids).length ≤ 12
  omega⟩
/-! ### The IDs of looks of which something is so -/
def namS (f : TFire) (q : Int → Bool) : List Int := ((srt f.fLooks).map (·.fID)).filter q
theorem named_eq {f : TFire} {is : Int → Option Bool} {q : Int → Bool} (h : Ok12 f) (hq : ∀ x ∈ f.fLooks, is x.fID = some (q x.fID)) : fire_named f is = some (namS f q) := by
  unfold fire_named
  rw [sorted_eq h, Option.bind_some, guardO_pos (seqLook_of h.1.2.1)]
  have hstep : ∀ (m : List Int) (x : TLook), x ∈ f.fLooks → m.length ≤ 1000 → fire_named_r1 is m x = some (.inl (if q x.fID = true then m ++ [x.fID] else m)) := by
    intro m x hx hm
    unfold fire_named_r1
    rw [hq x hx, Option.bind_some, guardO_pos (by omega)]
    split <;> rfl
  have key : ∀ (l : List TLook) (m : List Int), (∀ x ∈ l, x ∈ f.fLooks) → m.length + l.length ≤ 1000 → foldO (fire_named_r1 is) l m = some (.inl (m ++ (l.map (·.fID)).filter q)) := by
    intro l
    induction l with
    | nil => intro m _ _; simp [foldO]
    | cons x l ih =>
      intro m hm hl
      simp only [List.length_cons] at hl
      unfold foldO
      rw [hstep m x (hm x (by simp)) (by omega)]
      show foldO (fire_named_r1 is) l _ = _
      by_cases hx : q x.fID = true
      · rw [if_pos hx, ih _ (fun y hy => hm y (by simp [hy])) (by simp; omega)]
        simp [hx]
      · rw [if_neg hx, ih _ (fun y hy => hm y (by simp [hy])) (by omega)]
        simp [hx]
  have h2 := key (seqLook (srt f.fLooks)) [] (fun x hx => srt_mem.1 hx) (by
    show 0 + (srt f.fLooks).length ≤ 1000
    rw [srt_len]; have := h.2; omega)
  rw [h2]
  rfl
theorem id_rng {x : TLook} (h : OkLook x) : rngB x.fID = true := by
  have := h.1
  exact rngB_of (by omega) (by omega)
/-! #### put -/
def putS (l : List Int) (n : Int) : List Int := l.takeWhile (fun x => decide (x < n)) ++ n :: l.dropWhile (fun x => decide (x < n))
theorem put_eq {l : List Int} {n : Int} (hl : l.length < 1000000) : calxref02_put l n = some (putS l n) := by
  unfold calxref02_put
  have htl : (l.takeWhile (fun x => decide (x < n))).length ≤ l.length := (List.takeWhile_prefix _).length_le
  have hget : ∀ k, (hk : k < (l.takeWhile (fun x => decide (x < n))).length) → l[k]'(by omega) < n := by
    intro k hk
    have h1 := List.all_eq_true.1 (List.all_takeWhile (p := fun x => decide (x < n)) (l := l)) _ (List.getElem_mem hk)
    have h2 : (l.takeWhile (fun x => decide (x < n)))[k] = l[k]'(by omega) := (List.takeWhile_prefix _).getElem hk
    rw [h2] at h1
    simpa using h1
  have hrun := loop_run (body := calxref02_put_l1 l n) (fun k => (k : Int)) (l.takeWhile (fun x => decide (x < n))).length (t := ((l.takeWhile (fun x => decide (x < n))).length : Int)) (fun k hk => by
    unfold calxref02_put_l1
    rw [ite_t (by omega), guardO_pos (by omega), rdL_nat (by omega), Option.bind_some, if_pos (decide_eq_true (hget k hk)), w64_succ (by omega)]) (by
    unfold calxref02_put_l1
    by_cases hlt : (l.takeWhile (fun x => decide (x < n))).length < l.length
    · rw [ite_t (by omega), guardO_pos (by omega), rdL_nat hlt, Option.bind_some, if_neg]
      rw [decide_eq_true_eq]
      intro hc
      have hsplit := List.takeWhile_append_dropWhile (p := fun x => decide (x < n)) (l := l)
      cases hd : l.dropWhile (fun x => decide (x < n)) with
      | nil =>
        rw [hd, List.append_nil] at hsplit
        rw [hsplit] at hlt
        omega
      | cons y r =>
        have hy : ¬ (decide (y < n) = true) := by
          have := List.head?_dropWhile_not (p := fun x => decide (x < n)) (l := l)
          rw [hd] at this
          simpa using this
        have : l[(l.takeWhile (fun x => decide (x < n))).length] = y := by
          have e : l[(l.takeWhile (fun x => decide (x < n))).length]? = some y := by
            conv => lhs; arg 1; rw [← hsplit]
            rw [List.getElem?_append_right (Nat.le_refl _), Nat.sub_self, hd]
            rfl
          rw [List.getElem?_eq_getElem hlt] at e
          exact Option.some.inj e
        rw [this] at hc
        exact hy (decide_eq_true hc)
    · rw [ite_f (by omega)]
      rfl)
  have h0 : loopO (calxref02_put_l1 l n) 0 = _ := hrun
  rw [h0, Option.bind_some, guardO_pos (by omega), guardO_pos (by omega), guardO_pos (by omega), guardO_pos (by omega), guardO_pos (by omega)]
  refine congrArg some ?_
  unfold putS
  rw [Int.toNat_natCast, List.nil_append, List.append_assoc]
  have hsplit := List.takeWhile_append_dropWhile (p := fun x => decide (x < n)) (l := l)
  have e1 : l.take (l.takeWhile (fun x => decide (x < n))).length = l.takeWhile (fun x => decide (x < n)) := by
    conv => lhs; arg 2; rw [← hsplit]
    exact List.take_left
  have e2 : l.drop (l.takeWhile (fun x => decide (x < n))).length = l.dropWhile (fun x => decide (x < n)) := by
    conv => lhs; arg 2; rw [← hsplit]
    exact List.drop_left
  rw [e1, e2]
  rfl
end Go.Proofs.YtndajeiecdmhnaaGreat
