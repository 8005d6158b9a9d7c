/- The plain law FireChecks. No program in sight. -/
import Derived.Test.YtndajeiecdmhnaaM5
import Derived.KernelRfl
set_option linter.unusedVariables false
namespace Go.Proofs.Ytndajeiecdmhnaa

theorem sanity_true : calxlaw02_sanity = some true := calxlaw02_sanity_le 100 _ (by kernel_rfl)
/-! ### put, again and again -/
def SortI (l : List Int) : Prop := l.Pairwise (fun a b => a < b)
theorem SortI_unique {s t : List Int} (h : s.Perm t) (hs : SortI s) (ht : SortI t) : s = t :=
  List.Perm.eq_of_pairwise (le := fun (a b : Int) => a < b) (fun a b _ _ h1 h2 => by
    have h1' : a < b := h1
    have h2' : b < a := h2
    omega) hs ht h
theorem putS_perm (l : List Int) (n : Int) : (putS l n).Perm (n :: l) := by
  unfold putS
  refine List.perm_middle.trans (List.Perm.cons n ?_)
  rw [List.takeWhile_append_dropWhile]
theorem putS_sort {l : List Int} {n : Int} (hs : SortI l) (hn : n ∉ l) : SortI (putS l n) := by
  unfold putS SortI
  have h0 := List.takeWhile_append_dropWhile (p := fun x => decide (x < n)) (l := l)
  have hs' := hs
  unfold SortI at hs'
  rw [← h0, List.pairwise_append] at hs'
  obtain ⟨h1, h2, h3⟩ := hs'
  have hlt : ∀ x ∈ l.takeWhile (fun x => decide (x < n)), x < n := by
    intro x hx
    have := List.all_eq_true.1 (List.all_takeWhile (p := fun x => decide (x < n)) (l := l)) x hx
    simpa using this
  have hgt : ∀ y ∈ l.dropWhile (fun x => decide (x < n)), n < y := by
    cases hd : l.dropWhile (fun x => decide (x < n)) with
    | nil => intro y hy; cases hy
    | cons z r =>
      have hz : ¬ z < n := by
        have := List.head?_dropWhile_not (p := fun x => decide (x < n)) (l := l)
        rw [hd] at this
        simpa using this
      have hzl : z ∈ l := by rw [← h0, hd]; simp
      have hzn : n < z := by
        have : z ≠ n := fun e => hn (e ▸ hzl)
        omega
      rw [hd, List.pairwise_cons] at h2
      intro y hy
      rcases List.mem_cons.1 hy with rfl | hy
      · exact hzn
      · have := h2.1 y hy
        omega
  rw [List.pairwise_append, List.pairwise_cons]
  refine ⟨h1, ⟨hgt, h2⟩, ?_⟩
  intro x hx y hy
  rcases List.mem_cons.1 hy with rfl | hy
  · exact hlt x hx
  · exact h3 x hx y hy
def putQ (q : Int → Bool) (out : List Int) (x : TLook) : List Int := if q x.fID = true then putS out x.fID else out
theorem put_fold {f : TFire} (h : OkF f) (q : Int → Bool) : f.fLooks.foldl (putQ q) [] = namS f q := by
  have key : ∀ (l : List TLook) (acc : List Int), SortI acc → (acc ++ l.map (·.fID)).Nodup → SortI (l.foldl (putQ q) acc) ∧ (l.foldl (putQ q) acc).Perm (acc ++ (l.map (·.fID)).filter q) := by
    intro l
    induction l with
    | nil => intro acc ha _; simp [ha]
    | cons x l ih =>
      intro acc ha hn
      rw [List.foldl_cons]
      unfold putQ
      rw [List.map_cons, List.nodup_append, List.nodup_cons] at hn
      obtain ⟨n1, ⟨n2, n3⟩, n4⟩ := hn
      have hx : x.fID ∉ acc := fun hc => n4 x.fID hc x.fID (by simp) rfl
      by_cases hq : q x.fID = true
      · rw [if_pos hq]
        have hp := putS_perm acc x.fID
        have hnd : (putS acc x.fID ++ l.map (·.fID)).Nodup := by
          refine ((hp.append_right _).nodup_iff).2 ?_
          rw [List.cons_append, List.nodup_cons, List.mem_append, List.nodup_append]
          exact ⟨fun hc => hc.elim hx n2, n1, n3, fun a ha' b hb => n4 a ha' b (by simp [hb])⟩
        obtain ⟨k1, k2⟩ := ih _ (putS_sort ha hx) hnd
        refine ⟨k1, k2.trans ?_⟩
        rw [List.map_cons, List.filter_cons_of_pos hq]
        exact (hp.append_right _).trans (by rw [List.cons_append]; exact List.perm_middle.symm)
      · rw [if_neg hq]
        have hnd : (acc ++ l.map (·.fID)).Nodup := by
          rw [List.nodup_append]
          exact ⟨n1, n3, fun a ha' b hb => n4 a ha' b (by simp [hb])⟩
        obtain ⟨k1, k2⟩ := ih _ ha hnd
        refine ⟨k1, k2.trans ?_⟩
        rw [List.map_cons, List.filter_cons_of_neg hq]
  obtain ⟨k1, k2⟩ := key f.fLooks [] List.Pairwise.nil (by simpa using h.2.2.2)
  refine SortI_unique (k2.trans ?_) k1 ?_
  · unfold namS
    rw [List.nil_append]
    exact (((srt_perm f.fLooks).map (·.fID)).filter q).symm
  · unfold namS SortI
    have hs := srt_sorted h.2.2.2
    unfold Sorted at hs
    exact (List.pairwise_map.2 hs).filter q
theorem putQ_len {q : Int → Bool} {out : List Int} {x : TLook} : (putQ q out x).length ≤ out.length + 1 := by
  unfold putQ
  split
  · have := (putS_perm out x.fID).length_eq
    simp only [List.length_cons] at this
    omega
  · omega
theorem rSuspects_eq {f : TFire} (hl : f.fLooks.length < 1000000) : calxref02_Suspects f = some (if CheckS f = 0 then ⟨susS f, 0⟩ else ⟨[], CheckS f⟩) := by
  unfold calxref02_Suspects
  rw [rCheck_eq f (by omega), Option.bind_some]
  by_cases hc : CheckS f = 0
  · have ho := CheckS_ok.1 hc
    rw [if_pos hc, hc, if_neg (by decide), ragree_eq ho, Option.bind_some]
    unfold susS
    cases ha : agreeS f
    · rw [if_neg (by decide), if_neg (by decide)]
      have hm := loop_foldl (body := calxref02_Suspects_l1 f) f.fLooks (fun k (m : List Int) => ((k : Int), m)) (putQ (susQ f)) [] (fun m => ((f.fLooks.length : Int), m)) (fun k m => m.length ≤ k) (Nat.le_refl _) (fun k m hk hm => by
        have c1 : decide ((k : Int) < ((f.fLooks.length : Nat) : Int)) = true := decide_eq_true (by omega)
        have c2 : (0 : Int) ≤ (k : Int) ∧ (k : Int) < ((f.fLooks.length : Nat) : Int) := by omega
        refine ⟨?_, by have := @putQ_len (susQ f) m f.fLooks[k]; omega⟩
        unfold calxref02_Suspects_l1 putQ susQ; dsimp only
        rw [if_pos c1, guardO_pos c2, rdL_nat hk, rwithout_eq hl (by simp), Option.bind_some, ragree_eq (woS_ok ho _), Option.bind_some, guardO_pos c2, put_eq (by omega), Option.bind_some, w64_succ (by omega)]
        cases agreeS (woS f [f.fLooks[k].fID]) <;> rfl) (fun m _ => by
        unfold calxref02_Suspects_l1; dsimp only
        rw [ite_f (by omega)])
      have h0 : loopO (calxref02_Suspects_l1 f) (0, ([] : List Int)) = _ := hm.1
      rw [h0, Option.bind_some, put_fold ho]
    · rfl
  · rw [if_neg hc, if_pos (by simpa using hc)]

/-! ### Comparisons -/
theorem SameInts_self {l : List Int} (hl : l.length < 1000000) : calxref02_SameInts l l = some true := by
  unfold calxref02_SameInts
  rw [if_neg (by simp)]
  have := loop_run (body := calxref02_SameInts_l1 l l) (fun k => (false, (k : Int))) l.length (t := .inr (false, (l.length : Int))) (fun k hk => by
    have c2 : (0 : Int) ≤ (k : Int) ∧ (k : Int) < ((l.length : Nat) : Int) := by omega
    unfold calxref02_SameInts_l1; dsimp only
    rw [ite_t (by omega), guardO_pos c2, guardO_pos c2, if_neg (by simp), w64_succ (by omega)]) (by
    unfold calxref02_SameInts_l1; dsimp only
    rw [ite_f (by omega)])
  have h0 : loopO (calxref02_SameInts_l1 l l) (false, 0) = _ := this
  rw [h0]
  rfl
theorem SameFire_self {f : TFire} (hl : f.fLooks.length < 1000000) : calxref02_SameFire f f = some true := by
  unfold calxref02_SameFire
  rw [if_neg (by simp)]
  have := loop_run (body := calxref02_SameFire_l1 f f) (fun k => (false, (k : Int))) f.fLooks.length (t := .inr (false, (f.fLooks.length : Int))) (fun k hk => by
    have c2 : (0 : Int) ≤ (k : Int) ∧ (k : Int) < ((f.fLooks.length : Nat) : Int) := by omega
    unfold calxref02_SameFire_l1; dsimp only
    rw [ite_t (by omega), guardO_pos c2, guardO_pos c2, if_neg (by simp), w64_succ (by omega)]) (by
    unfold calxref02_SameFire_l1; dsimp only
    rw [ite_f (by omega)])
  have h0 : loopO (calxref02_SameFire_l1 f f) (false, 0) = _ := this
  rw [h0]
  rfl

/-! ### Spots; Far -/
theorem Contains_eq {l : List TSpot} (hl : l.length < 1000000) : slices_ContainsFunc_calx_api_Spot_calx_api_Spot l (fun x5 => fire_spots_1 x5) = some (decide (∃ s ∈ l, ¬ OkSpot s)) := by
  unfold slices_ContainsFunc_calx_api_Spot_calx_api_Spot
  rw [IndexSpot_eq (q := fun s => !decide (OkSpot s)) (by omega) (fun x _ => by unfold fire_spots_1; rw [right_eq]; rfl), Option.bind_some]
  refine congrArg some ?_
  rw [Bool.eq_iff_iff, decide_eq_true_eq, decide_eq_true_eq]
  rcases idxI_cases l (fun s => !decide (OkSpot s)) with ⟨h1, h2⟩ | ⟨k, hk, hq, hj, h2⟩
  · rw [h2]
    refine ⟨fun h => by omega, ?_⟩
    rintro ⟨s, hs, hn⟩
    have := h1 s hs
    simp [hn] at this
  · rw [h2]
    exact ⟨fun _ => ⟨l[k], List.getElem_mem hk, by simpa using hq⟩, fun _ => by omega⟩
def spotsS (f : TFire) (l : List TSpot) : Int := if CheckS f = 0 then if ∃ s ∈ l, ¬ OkSpot s then 1 else 0 else CheckS f
theorem spots_eq {f : TFire} {l : List TSpot} (hf : f.fLooks.length < 1000000) (hl : l.length < 1000000) : fire_spots f l = some (spotsS f l) := by
  unfold fire_spots spotsS
  rw [Check_eq f (by omega), Option.bind_some]
  by_cases hc : CheckS f = 0
  · rw [if_pos hc, hc, if_neg (by decide), Contains_eq hl, Option.bind_some]
    by_cases he : ∃ s ∈ l, ¬ OkSpot s
    · rw [if_pos he, if_pos (decide_eq_true he)]
    · rw [if_neg he, if_neg (by rw [decide_eq_false he]; decide)]
  · rw [if_neg hc, if_pos (by simpa using hc)]
theorem spotsS_0 {f : TFire} {l : List TSpot} : spotsS f l = 0 ↔ CheckS f = 0 ∧ ∀ s ∈ l, OkSpot s := by
  unfold spotsS
  by_cases hc : CheckS f = 0
  · rw [if_pos hc]
    by_cases he : ∃ s ∈ l, ¬ OkSpot s
    · rw [if_pos he]
      obtain ⟨s, hs, hn⟩ := he
      exact ⟨fun h => (by cases h), fun h => absurd (h.2 s hs) hn⟩
    · rw [if_neg he]
      exact ⟨fun _ => ⟨hc, fun s hs => Decidable.byContradiction fun hn => he ⟨s, hs, hn⟩⟩, fun _ => rfl⟩
  · rw [if_neg hc]
    exact ⟨fun h => absurd h hc, fun h => absurd h.1 hc⟩
def FarS (f : TFire) (p q : TSpot) : Int × Int := if spotsS f [p, q] = 0 then (farS f p q, 0) else (0, spotsS f [p, q])
theorem Far_eq {f : TFire} {p q : TSpot} (hf : f.fLooks.length < 1000000) : fire_Far f p q = some (FarS f p q) := by
  unfold fire_Far FarS
  rw [spots_eq hf (by simp), Option.bind_some]
  by_cases hc : spotsS f [p, q] = 0
  · have := spotsS_0.1 hc
    rw [if_pos hc, hc, if_neg (by decide), far_eq (CheckS_ok.1 this.1).1 (this.2 p (by simp)) (this.2 q (by simp))]
    rfl
  · rw [if_neg hc, if_pos (by simpa using hc)]
theorem rFar_eq {f : TFire} {p q : TSpot} (hf : f.fLooks.length < 1000000) : calxref02_Far f p q = some (FarS f p q) := by
  unfold calxref02_Far FarS
  rw [rCheck_eq f (by omega), Option.bind_some]
  by_cases hc : CheckS f = 0
  · rw [hc, if_neg (by decide), rSpot_eq, rSpot_eq]
    dsimp only [Option.bind_some]
    by_cases he : OkSpot p ∧ OkSpot q
    · have h0 : spotsS f [p, q] = 0 := spotsS_0.2 ⟨hc, by intro s hs; simp at hs; rcases hs with rfl | rfl; exact he.1; exact he.2⟩
      rw [if_neg (by simp [he]), if_pos h0, rfar_eq (CheckS_ok.1 hc).1 he.1 he.2]
      rfl
    · have h0 : spotsS f [p, q] = 1 := by
        unfold spotsS
        rw [if_pos hc, if_pos]
        by_cases hp : OkSpot p
        · exact ⟨q, by simp, fun hq => he ⟨hp, hq⟩⟩
        · exact ⟨p, by simp, hp⟩
      rw [if_pos, h0]
      · rfl
      · by_cases hp : OkSpot p
        · have hq : ¬ OkSpot q := fun hq => he ⟨hp, hq⟩
          simp [hp, hq]
        · simp [hp]
  · have h0 : spotsS f [p, q] = CheckS f := by unfold spotsS; rw [if_neg hc]
    rw [if_pos (by simpa using hc), h0, if_neg hc]

/-! ### CheckClash -/
theorem CheckClash_same {f : TFire} (hl : f.fLooks.length < 1000000) (a b : Int) : ∃ v, fire_CheckClash f a b = some v ∧ calxref02_CheckClash f a b = some v := by
  unfold fire_CheckClash calxref02_CheckClash
  rw [Check_eq f (by omega), rCheck_eq f (by omega), Option.bind_some, Option.bind_some]
  by_cases hc : CheckS f = 0
  · have ho := CheckS_ok.1 hc
    rw [hc, if_neg (by decide), if_neg (by decide), find_eq (by omega), find_eq (by omega), rlook_eq (by omega), rlook_eq (by omega)]
    dsimp only [Option.bind_some]
    rcases idxI_cases f.fLooks (fun x => x.fID == a) with ⟨h1, h2⟩ | ⟨k, hk, hq, hj, h2⟩
    · rw [h2]
      exact ⟨5, rfl, rfl⟩
    · rcases idxI_cases f.fLooks (fun x => x.fID == b) with ⟨h3, h4⟩ | ⟨j, hj', hq', _, h4⟩
      · rw [h4, if_pos (by simp), if_pos (by simp)]
        exact ⟨5, rfl, rfl⟩
      · rw [h2, h4, if_neg (by simp), if_neg (by simp), guardO_pos (by omega), guardO_pos (by omega), guardO_pos (by omega), guardO_pos (by omega), rdL_nat hk, rdL_nat hj', TLook_eta, TLook_eta, against_eq ho.1 (ho.2.2.1 _ (List.getElem_mem _)) (ho.2.2.1 _ (List.getElem_mem _)), ragainst_eq ho.1 (ho.2.2.1 _ (List.getElem_mem _)) (ho.2.2.1 _ (List.getElem_mem _))]
        cases agS f f.fLooks[k] f.fLooks[j]
        · exact ⟨8, rfl, rfl⟩
        · exact ⟨0, rfl, rfl⟩
  · rw [if_pos (by simpa using hc), if_pos (by simpa using hc)]
    exact ⟨_, rfl, rfl⟩
/-- What 'few' lets in. -/
def few (f : TFire) : Prop := f.fLooks.length ≤ 12 ∨ (24 < f.fLooks.length ∧ f.fLooks.length ≤ 40)
instance (f : TFire) : Decidable (few f) := by unfold few; infer_instance
theorem few_eq (f : TFire) : calxlaw02_few f = some (decide (few f)) := by
  unfold calxlaw02_few
  refine congrArg some ?_
  rw [Bool.eq_iff_iff]
  simp only [Bool.or_eq_true, Bool.and_eq_true, decide_eq_true_eq]
  unfold few
  omega
theorem few_12 {f : TFire} (h : few f) (hc : CheckS f = 0) : Ok12 f := by
  have ho := CheckS_ok.1 hc
  refine ⟨ho, ?_⟩
  have := ho.2.1
  unfold few at h
  omega
theorem few_len {f : TFire} (h : few f) : f.fLooks.length ≤ 40 := by unfold few at h; omega
theorem susS_len {f : TFire} : (susS f).length ≤ f.fLooks.length := by
  unfold susS
  split
  · simp
  · unfold namS
    refine Nat.le_trans (List.length_filter_le _ _) ?_
    rw [List.length_map, srt_len]
    exact Nat.le_refl _
theorem FireChecks_true (p0 : TFire) (p1 p2 : TSpot) (p3 p4 : Int) (p5 : List Int) (h0 : TFire_rg p0) (h1 : TSpot_rg p1) (h2 : TSpot_rg p2) (h3 : Rg_i64 p3) (h4 : Rg_i64 p4) (h5 : Rg_list Rg_i64 p5) : calxlaw02_FireChecks p0 p1 p2 p3 p4 p5 = some true := by
  unfold calxlaw02_FireChecks
  rw [few_eq, Option.bind_some, sanity_true]
  by_cases hf : few p0
  · by_cases hi : 40 < p5.length
    · rw [if_pos (by simp; omega)]
      rfl
    · rw [if_neg (by simp [hf]; omega)]
      have hl := few_len hf
      have hr : ∀ i ∈ p5, rngB i = true := fun i hi => rngB_of (h5.2 i hi).1 (h5.2 i hi).2
      obtain ⟨v, hv1, hv2⟩ := CheckClash_same (f := p0) (by omega) p3 p4
      rw [Far_eq (by omega), rFar_eq (by omega), Clash_eq (by omega) (few_12 hf), rClash_eq (by omega), Suspects_eq (by omega) (few_12 hf), rSuspects_eq (by omega), Without_eq (by omega) (by omega) hr, rWithout_eq (by omega) (by omega), Check_eq _ (by omega), rCheck_eq _ (by omega), hv1, hv2]
      dsimp only [Option.bind_some]
      have hs := @susS_len p0
      by_cases hc : CheckS p0 = 0
      · simp only [if_pos hc]
        have hw : (woS p0 p5).fLooks.length < 1000000 := by
          have : (woL p0.fLooks p5).length ≤ p0.fLooks.length := List.length_filter_le _ _
          show (woL p0.fLooks p5).length < 1000000
          omega
        rw [SameInts_self (by omega), SameFire_self hw]
        simp
      · simp only [if_neg hc]
        rw [SameInts_self (by simp), SameFire_self (by simp)]
        simp
  · rw [if_pos (by simp [hf])]
    rfl
end Go.Proofs.Ytndajeiecdmhnaa
