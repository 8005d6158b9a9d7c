/- The plain law FireChecks. No program in sight. -/
import Derived.Test.YtndajeiecdmhnaaGreatM5
import Derived.KernelRfl
set_option linter.unusedVariables false
namespace Go.Proofs.YtndajeiecdmhnaaGreat

theorem sanity_true : calxlaw02_sanity = some true := calxlaw02_sanity_le 100 _ (by kernel_rfl)
/-! ### put, again and again -/
def SortI (l : List Int) : Prop := l.Pairwise (fun a b => a < b)
theorem SortI_unique {s t : List Int} (h : s.Perm t) (hs : SortI s) (ht : SortI t) : s = t :=
  List.Perm.eq_of_pairwise (le := fun (a b : Int) => a < b) (fun a b _ _ h1 h2 => by
    have h1' : a < b := h1
    have h2' : b < a := h2
    omega) hs ht h
theorem putS_perm (l : List Int) (n : Int) : (putS l n).Perm (n :: l) := by
  unfold putS
  refine List.perm_middle.trans (List.Perm.cons n ?_)
  rw [List.takeWhile_append_dropWhile]
theorem putS_sort {l : List Int} {n : Int} (hs : SortI l) (hn : n ∉ l) : SortI (putS l n) := by
  unfold putS SortI
  have h0 := List.takeWhile_append_dropWhile (p := fun x => decide (x < n)) (l := l)
  have hs' := hs
  unfold SortI at hs'
  rw [← h0, List.pairwise_append] at hs'
  obtain ⟨h1, h2, h3⟩ := hs'
  have hlt : ∀ x ∈ l.takeWhile (fun x => decide (x < n)), x < n := by
    intro x hx
    have := List.all_eq_true.1 (List.all_takeWhile (p := fun x => decide (x < n)) (l := l)) x hx
    simpa using this
  have hgt : ∀ y ∈ l.dropWhile (fun x => decide (x < n)), n < y := by
    cases hd : l.dropWhile (fun x => decide (x < n)) with
    | nil => intro y hy; cases hy
    | cons z r =>
      have hz : ¬ z < n := by
        have := List.head?_dropWhile_not (p := fun x => decide (x < n)) (l := l)
        rw [hd] at this
        simpa using this
      have hzl : z ∈ l := by rw [← h0, hd]; simp
      have hzn : n < z := by
        have : z ≠ n := fun e => hn (e ▸ hzl)
        omega
      rw [hd, List.pairwise_cons] at h2
      intro y hy
      rcases List.mem_cons.1 hy with rfl | hy
      · exact hzn
      · have := h2.1 y hy
        omega
  rw [List.pairwise_append, List.pairwise_cons]
  refine ⟨h1, ⟨hgt, h2⟩, ?_⟩
  intro x hx y hy
  rcases List.mem_cons.1 hy with rfl | hy
  · exact hlt x hx
  · exact h3 x hx y hy
def putQ (q : Int → Bool) (out : List Int) (x : TLook) : List Int := if q x.fID = true then putS out x.fID else out
theorem put_fold {f : TFire} (h : OkF f) (q : Int → Bool) : f.fLooks.foldl (putQ q) [] = namS f q := by
  have key : ∀ (l : List TLook) (acc : List Int), SortI acc → (acc ++ l.map (·.fID)).Nodup → SortI (l.foldl (putQ q) acc) ∧ (l.foldl (putQ q) acc).Perm (acc ++ (l.map (·.fID)).filter q) := by
    intro l
    induction l with
    | nil => intro acc ha _; simp [ha]
    | cons x l ih =>
      intro acc ha hn
      rw [List.foldl_cons]
      unfold putQ
      rw [List.map_cons, List.nodup_append, List.nodup_cons] at hn
      obtain ⟨n1, ⟨n2, n3⟩, n4⟩ := hn
      have hx : x.fID ∉ acc := fun hc => n4 x.fID hc x.fID (by simp) rfl
      by_cases hq : q x.fID = true
      · rw [if_pos hq]
        have hp := putS_perm acc x.fID
        have hnd : (putS acc x.fID ++ l.map (·.fID)).Nodup := by
          refine ((hp.append_right _).nodup_iff).2 ?_
          rw [List.cons_append, List.nodup_cons, List.mem_append, List.nodup_append]
          exact ⟨fun hc => hc.elim hx n2, n1, n3, fun a ha' b hb => n4 a ha' b (by simp [hb])⟩
        obtain ⟨k1, k2⟩ := ih _ (putS_sort ha hx) hnd
        refine ⟨k1, k2.trans ?_⟩
        rw [List.map_cons, List.filter_cons_of_pos hq]
        exact (hp.append_right _).trans (by rw [List.cons_append]; exact List.perm_middle.symm)
      · rw [if_neg hq]
        have hnd : (acc ++ l.map (·.fID)).Nodup := by
          rw [List.nodup_append]
          exact ⟨n1, n3, fun a ha' b hb => n4 a ha' b (by simp [hb])⟩
        obtain ⟨k1, k2⟩ := ih _ ha hnd
        refine ⟨k1, k2.trans ?_⟩
        rw [List.map_cons, List.filter_cons_of_neg hq]
  obtain ⟨k1, k2⟩ := key f.fLooks [] List.Pairwise.nil (by simpa using h.2.2.2)
  refine SortI_unique (k2.trans ?_) k1 ?_
  · unfold namS
    rw [List.nil_append]
    exact (((srt_perm f.fLooks).map (·.fID)).filter q).symm
  · unfold namS SortI
    have hs := srt_sorted h.2.2.2
    unfold Sorted at hs
    exact (List.pairwise_map.2 hs).filter q
theorem putQ_len {q : Int → Bool} {out : List Int} {x : TLook} : (putQ q out x).length ≤ out.length + 1 := by
  unfold putQ
  split
  · have := (putS_perm out x.fID).length_eq
    simp only [List.length_cons] at this
    omega
  · omega
/-! ### Comparisons -/
theorem SameInts_self {l : List Int} (hl : l.length < 1000000) : calxref02_SameInts l l = some true := by
  unfold calxref02_SameInts
  rw [if_neg (by simp)]
  have := loop_run (body := calxref02_SameInts_l1 l l) (fun k => (false, (k : Int))) l.length (t := .inr (false, (l.length : Int))) (fun k hk => by
    have c2 : (0 : Int) ≤ (k : Int) ∧ (k : Int) < ((l.length : Nat) : Int) := by omega
    unfold calxref02_SameInts_l1; dsimp only
    rw [ite_t (by omega), guardO_pos c2, guardO_pos c2, if_neg (by simp), w64_succ (by omega)]) (by
    unfold calxref02_SameInts_l1; dsimp only
    rw [ite_f (by omega)])
  have h0 : loopO (calxref02_SameInts_l1 l l) (false, 0) = _ := this
  rw [h0]
  rfl
/-! ### Spots; Far -/
theorem Contains_eq {l : List TSpot} (hl : l.length < 1000000) : slices_ContainsFunc_calx_api_Spot_calx_api_Spot l (fun x5 => fire_spots_1 x5) = some (decide (∃ s ∈ l, ¬ OkSpot s)) := by
  unfold slices_ContainsFunc_calx_api_Spot_calx_api_Spot
  rw [IndexSpot_eq (q := fun s => !decide (OkSpot s)) (by omega) (fun x _ => by unfold fire_spots_1; rw [right_eq]; rfl), Option.bind_some]
  refine congrArg some ?_
  rw [Bool.eq_iff_iff, decide_eq_true_eq, decide_eq_true_eq]
  rcases idxI_cases l (fun s => !decide (OkSpot s)) with ⟨h1, h2⟩ | ⟨k, hk, hq, hj, h2⟩
  · rw [h2]
    refine ⟨fun h => by omega, ?_⟩
    rintro ⟨s, hs, hn⟩
    have := h1 s hs
    simp [hn] at this
  · rw [h2]
    exact ⟨fun _ => ⟨l[k], List.getElem_mem hk, by simpa using hq⟩, fun _ => by omega⟩
def spotsS (f : TFire) (l : List TSpot) : Int := if CheckS f = 0 then if ∃ s ∈ l, ¬ OkSpot s then 1 else 0 else CheckS f
theorem spots_eq {f : TFire} {l : List TSpot} (hf : f.fLooks.length < 1000000) (hl : l.length < 1000000) : fire_spots f l = some (spotsS f l) := by
  unfold fire_spots spotsS
  rw [Check_eq f (by omega), Option.bind_some]
  by_cases hc : CheckS f = 0
  · rw [if_pos hc, hc, if_neg (by decide), Contains_eq hl, Option.bind_some]
    by_cases he : ∃ s ∈ l, ¬ OkSpot s
    · rw [if_pos he, if_pos (decide_eq_true he)]
    · rw [if_neg he, if_neg (by rw [decide_eq_false he]; decide)]
  · rw [if_neg hc, if_pos (by simpa using hc)]
theorem spotsS_0 {f : TFire} {l : List TSpot} : spotsS f l = 0 ↔ CheckS f = 0 ∧ ∀ s ∈ l, OkSpot s := by
  unfold spotsS
  by_cases hc : CheckS f = 0
  · rw [if_pos hc]
    by_cases he : ∃ s ∈ l, ¬ OkSpot s
    · rw [if_pos he]
      obtain ⟨s, hs, hn⟩ := he
      exact ⟨fun h => (by cases h), fun h => absurd (h.2 s hs) hn⟩
    · rw [if_neg he]
      exact ⟨fun _ => ⟨hc, fun s hs => Decidable.byContradiction fun hn => he ⟨s, hs, hn⟩⟩, fun _ => rfl⟩
  · rw [if_neg hc]
    exact ⟨fun h => absurd h hc, fun h => absurd h.1 hc⟩
/-! ### CheckClash -/
/-- What 'few' lets in. -/
def few (f : TFire) : Prop := f.fLooks.length ≤ 12 ∨ (24 < f.fLooks.length ∧ f.fLooks.length ≤ 40)
instance (f : TFire) : Decidable (few f) := by unfold few; infer_instance
theorem few_eq (f : TFire) : calxlaw02_few f = some (decide (few f)) := by
  unfold calxlaw02_few
  refine congrArg some ?_
  rw [Bool.eq_iff_iff]
  simp only [Bool.or_eq_true, Bool.and_eq_true, decide_eq_true_eq]
  unfold few
  omega
theorem few_12 {f : TFire} (h : few f) (hc : CheckS f = 0) : Ok12 f := by
  have ho := CheckS_ok.1 hc
  refine ⟨ho, ?_⟩
  have := ho.2.1
  unfold few at h
  omega
theorem few_len {f : TFire} (h : few f) : f.fLooks.length ≤ 40 := by unfold few at h; omega
end Go.Proofs.YtndajeiecdmhnaaGreat
