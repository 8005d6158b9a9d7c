/- Plain laws of sample: sums of weights in a span; what SampleBelieves' plain function says is true. No program in sight. -/
import Derived.Test.YtepfgdfahinpkaaNa
set_option linter.unusedVariables false
namespace Go.Proofs.Ytepfgdfahinpkaa

def spanS (w : List Int) (lo hi : Int) : Int :=
  if min ((w.length : Int) - 1) hi < max 0 lo then 0 else ((w.drop (max 0 lo).toNat).take ((min ((w.length : Int) - 1) hi + 1).toNat - (max 0 lo).toNat)).sum
theorem sum_part (w : List Int) {a c : Nat} (h : a ≤ c) : ((w.drop a).take (c - a)).sum = (w.take c).sum - (w.take a).sum := by
  have : w.take c = w.take a ++ (w.drop a).take (c - a) := by
    rw [← List.take_add]; congr 1; omega
  rw [this, List.sum_append_int]; omega
theorem part_nn {w : List Int} (h : ∀ x ∈ w, 0 ≤ x) (a c : Nat) : ∀ x ∈ (w.drop a).take c, 0 ≤ x := fun x hx => h x (List.mem_of_mem_drop (List.mem_of_mem_take hx))
theorem part_le {w : List Int} (h : ∀ x ∈ w, 0 ≤ x) (a c : Nat) : ((w.drop a).take c).sum ≤ w.sum := by
  have h1 := take_sum_le (l := w.drop a) (fun x hx => h x (List.mem_of_mem_drop hx)) c
  have h2 : w.sum = (w.take a).sum + (w.drop a).sum := by rw [← List.sum_append_int, List.take_append_drop]
  have h3 := sum_nn (l := w.take a) (fun x hx => h x (List.mem_of_mem_take hx))
  omega
theorem spanS_rg {w : List Int} (h : Gd w) (lo hi : Int) : 0 ≤ spanS w lo hi ∧ spanS w lo hi ≤ w.sum := by
  unfold spanS
  split
  · exact ⟨Int.le_refl _, sum_nn h.2.1⟩
  · exact ⟨sum_nn (part_nn h.2.1 _ _), part_le h.2.1 _ _⟩
theorem spanS_diff {w : List Int} {lo hi : Int} (h0 : 0 ≤ lo) (h1 : lo ≤ hi) (h2 : hi < w.length) : spanS w lo hi = (w.take (hi + 1).toNat).sum - (w.take lo.toNat).sum := by
  unfold spanS
  rw [if_neg (by omega), show max 0 lo = lo by omega, show min ((w.length : Int) - 1) hi = hi by omega, sum_part w (by omega)]
theorem spanS_none {w : List Int} {lo hi : Int} (h : (w.length : Int) ≤ lo) (h0 : 1 ≤ lo) : spanS w lo hi = 0 := by
  unfold spanS
  rw [if_pos (by omega)]
theorem inSpan_eq {w : List Int} (h : Gd w) (h1 : 1 ≤ w.length) (lo hi : Int) (hh : -9223372036854775808 ≤ hi) : sample_inSpan w ⟨lo, hi⟩ = some (spanS w lo hi) := by
  have h' := h
  obtain ⟨hlen, h0, hs⟩ := h'
  unfold sample_inSpan spanS
  dsimp only
  rw [w64_id (x := (w.length : Int) - 1) (by omega) (by omega)]
  by_cases hc : min ((w.length : Int) - 1) hi < max 0 lo
  · rw [ite_t hc, if_pos hc]
  · rw [ite_f hc, if_neg hc, w64_id (x := min ((w.length : Int) - 1) hi + 1) (by omega) (by omega), guardO_pos (by omega), sum_int_eq (by rw [List.length_take, List.length_drop]; omega) (part_nn h0 _ _) (by have := part_le h0 (max 0 lo).toNat ((min ((w.length : Int) - 1) hi + 1).toNat - (max 0 lo).toNat); omega)]
    rfl
theorem Believed_spec {b : TBatch} {s : Int} (h : SortS b s = 0) {lo hi : Int} (hle : lo ≤ hi) (hh : -9223372036854775808 ≤ hi) : sample_Believed b s ⟨lo, hi⟩ = some (RatS (spanS (WtS b s) lo hi).toNat (totN b), 0) := by
  obtain ⟨hc, hs⟩ := Sort_0.1 h
  have h2 := tot_pos hc
  have h3 := totN_le (Check_okB hc)
  have hg := WtS_Gd hc hs
  have hr := spanS_rg hg lo hi
  rw [WtS_tot hc hs] at hr
  unfold sample_Believed
  rw [sorted_spec, bnd rfl, h]
  dsimp only
  rw [if_neg (by simp), ite_f (by omega), weights_eq (Check_okB hc) hs, bnd rfl, inSpan_eq hg (by rw [WtS_len]; omega) lo hi hh, bnd rfl, sum_int_eq (by have := hg.1; omega) hg.2.1 hg.2.2, bnd rfl, WtS_tot hc hs, ← Int.toNat_of_nonneg hr.1, ratio_eq (by omega) (by omega) (by omega)]
  rfl
theorem wt_pos {b : TBatch} (hc : CheckS b = 0) {k : TKinds} (hk : k ∈ wl b) : 1 ≤ wtN b.fSeen k := by
  have hb := Check_bd hc
  have h1 := mem_wl hk (by omega)
  have h2 := h1.1
  unfold OkK at h2
  unfold wtN
  exact Nat.mul_pos (Nat.mul_pos (binom_pos _ _ (by omega)) (binom_pos _ _ (by omega))) (binom_pos _ _ (by omega))
theorem mem_sum_le {α : Type} (f : α → Nat) : ∀ (l : List α) (x : α), x ∈ l → f x ≤ (l.map f).sum
  | [], x, h => by cases h
  | y :: l, x, h => by
    simp only [List.map_cons, List.sum_cons]
    rcases List.mem_cons.1 h with rfl | h
    · omega
    · have := mem_sum_le f l x h; omega
theorem ws_pos {b : TBatch} (hc : CheckS b = 0) {s : Int} {k : TKinds} (hk : k ∈ wl b) : 1 ≤ wsN b.fSeen s (wl b) (kv s k) := by
  unfold wsN
  have := mem_sum_le (wtN b.fSeen) ((wl b).filter fun q => decide (kv s q = kv s k)) k (List.mem_filter.2 ⟨hk, by simp⟩)
  have := wt_pos hc hk
  omega
theorem ws_some {sn : TKinds} {s : Int} {l : List TKinds} {m : Int} (h : 0 < wsN sn s l m) : ∃ k ∈ l, kv s k = m := by
  unfold wsN at h
  cases hf : l.filter (fun k => decide (kv s k = m)) with
  | nil => rw [hf] at h; simp at h
  | cons k t =>
    have : k ∈ l.filter (fun k => decide (kv s k = m)) := by rw [hf]; exact List.mem_cons_self ..
    obtain ⟨h1, h2⟩ := List.mem_filter.1 this
    exact ⟨k, h1, of_decide_eq_true h2⟩
theorem WtS_at {b : TBatch} (hc : CheckS b = 0) {s : Int} {m : Int} (h0 : 0 ≤ m) (h1 : m ≤ b.fBarrows) : rdL (WtS b s) m = (wsN b.fSeen s (wl b) m : Int) := by
  obtain ⟨n, rfl⟩ : ∃ n : Nat, m = (n : Int) := ⟨m.toNat, by omega⟩
  have hn : n < b.fBarrows.toNat + 1 := by omega
  have := WtS_get b s hn
  rw [rdL_nat (by rw [WtS_len]; exact hn), ← this, getD_get (by rw [WtS_len]; exact hn)]
theorem Believes_l1_run {b : TBatch} (hc : CheckS b = 0) {s : Int} (hs : 0 ≤ s ∧ s ≤ 2) (e e' : Int) :
    loopO (calxlaw03_SampleBelieves_l1 (WtS b s, e) (EndsS b s, e')) (false, 0, 0) = some (.inr (false, (totN b : Int), ((b.fBarrows.toNat + 1 : Nat) : Int))) := by
  have hb := Check_bd hc
  have hg := WtS_Gd hc hs
  have h' := hg
  obtain ⟨hlen, h0, hsum⟩ := h'
  obtain ⟨_, _, ha⟩ := Ends_is hc hs
  have := loop_run (body := calxlaw03_SampleBelieves_l1 (WtS b s, e) (EndsS b s, e')) (fun k => (false, ((WtS b s).take k).sum, (k : Int))) (b.fBarrows.toNat + 1) (t := .inr (false, (totN b : Int), ((b.fBarrows.toNat + 1 : Nat) : Int))) (fun k hk => by
    have hk' : k < (WtS b s).length := by rw [WtS_len]; exact hk
    have a1 := take_sum_le h0 (k + 1)
    have a2 := sum_nn (l := (WtS b s).take k) (fun x hx => h0 x (List.mem_of_mem_take hx))
    have a3 := h0 (WtS b s)[k] (List.getElem_mem _)
    rw [take_sum_succ hk'] at a1
    have hrd : (WtS b s)[k] = (wsN b.fSeen s (wl b) (k : Int) : Int) := by rw [← rdL_nat hk', WtS_at hc (by omega) (by omega)]
    unfold calxlaw03_SampleBelieves_l1; dsimp only
    rw [ite_t (by omega), guardO_pos (by omega), guardO_pos (by omega), guardO_pos (by omega), rdL_nat hk', ite_f (by omega), bnd rfl]
    have hno : (decide (0 < (WtS b s)[k]) && (decide ((k : Int) < (EndsS b s).fLo) || decide ((EndsS b s).fHi < (k : Int)))) = false := by
      by_cases hp : 0 < (WtS b s)[k]
      · rw [hrd] at hp
        obtain ⟨q, hq, hqk⟩ := ws_some (sn := b.fSeen) (s := s) (l := wl b) (m := (k : Int)) (by omega)
        have := ha q hq
        rw [decide_eq_false (show ¬ (k : Int) < (EndsS b s).fLo by omega), decide_eq_false (show ¬ (EndsS b s).fHi < (k : Int) by omega)]
        simp
      · rw [decide_eq_false hp]; simp
    rw [hno, if_neg (by simp), w64_id (x := ((WtS b s).take k).sum + _) (by omega) (by omega), w64_succ (by omega), take_sum_succ hk']) (by
    unfold calxlaw03_SampleBelieves_l1; dsimp only
    rw [WtS_len, ite_f (by omega)]
    have e1 : (WtS b s).take (b.fBarrows.toNat + 1) = WtS b s := by rw [← WtS_len b s, List.take_length]
    rw [e1, WtS_tot hc hs])
  exact this
theorem three_fr {T n1 n2 g1 p1 q1 g2 p2 q2 g3 p3 q3 : Nat} (hT : 0 < T) (a1 : n1 = g1 * p1) (b1 : T = g1 * q1) (a2 : n2 = g2 * p2) (b2 : T = g2 * q2) (a3 : n1 + n2 = g3 * p3) (b3 : T = g3 * q3) : (p1 * q2 + p2 * q1) * q3 = p3 * (q1 * q2) := by
  have h1 : 0 < g1 := by rcases Nat.eq_zero_or_pos g1 with h | h; · rw [h] at b1; omega
                         · exact h
  have h2 : 0 < g2 := by rcases Nat.eq_zero_or_pos g2 with h | h; · rw [h] at b2; omega
                         · exact h
  have h3 : 0 < g3 := by rcases Nat.eq_zero_or_pos g3 with h | h; · rw [h] at b3; omega
                         · exact h
  have e1 : g1 * g2 * g3 * ((p1 * q2 + p2 * q1) * q3) = (n1 + n2) * T * T := by
    have x1 : g1 * g2 * g3 * ((p1 * q2 + p2 * q1) * q3) = (g1 * p1) * (g2 * q2) * (g3 * q3) + (g2 * p2) * (g1 * q1) * (g3 * q3) := by
      simp only [Nat.mul_add, Nat.add_mul, Nat.mul_assoc, Nat.mul_comm, Nat.mul_left_comm]
    rw [x1, ← a1, ← b2, ← b3, ← a2, ← b1, Nat.add_mul, Nat.add_mul]
  have e2 : g1 * g2 * g3 * (p3 * (q1 * q2)) = (n1 + n2) * T * T := by
    have x1 : g1 * g2 * g3 * (p3 * (q1 * q2)) = (g3 * p3) * (g1 * q1) * (g2 * q2) := by
      simp only [Nat.mul_assoc, Nat.mul_comm, Nat.mul_left_comm]
    rw [x1, ← a3, ← b1, ← b2]
  have hpos : 0 < g1 * g2 * g3 := Nat.mul_pos (Nat.mul_pos h1 h2) h3
  exact Nat.eq_of_mul_eq_mul_left hpos (e1.trans e2.symm)
theorem more_eq (a b : TRatio) (h1 : 1 ≤ a.fDen) (h2 : 1 ≤ b.fDen) (n1 : 0 ≤ a.fNum) (n2 : 0 ≤ b.fNum) :
    calxlaw03_more a b = some (if a.fDen ≤ 1073741824 ∧ b.fDen ≤ 1073741824 ∧ a.fNum ≤ 2147483648 ∧ b.fNum ≤ 2147483648 then (a.fNum * b.fDen + b.fNum * a.fDen, a.fDen * b.fDen, true) else (0, 0, false)) := by
  unfold calxlaw03_more
  by_cases h : a.fDen ≤ 1073741824 ∧ b.fDen ≤ 1073741824 ∧ a.fNum ≤ 2147483648 ∧ b.fNum ≤ 2147483648
  · rw [if_pos h, if_neg (by simp; omega)]
    have e1 : 0 ≤ a.fNum * b.fDen ∧ a.fNum * b.fDen ≤ 2147483648 * 1073741824 := ⟨Int.mul_nonneg n1 (by omega), Int.mul_le_mul (by omega) (by omega) (by omega) (by decide)⟩
    have e2 : 0 ≤ b.fNum * a.fDen ∧ b.fNum * a.fDen ≤ 2147483648 * 1073741824 := ⟨Int.mul_nonneg n2 (by omega), Int.mul_le_mul (by omega) (by omega) (by omega) (by decide)⟩
    have e3 : 0 ≤ a.fDen * b.fDen ∧ a.fDen * b.fDen ≤ 1073741824 * 1073741824 := ⟨Int.mul_nonneg (by omega) (by omega), Int.mul_le_mul (by omega) (by omega) (by omega) (by decide)⟩
    rw [w64_id (x := a.fNum * b.fDen) (by omega) (by omega), w64_id (x := b.fNum * a.fDen) (by omega) (by omega), w64_id (x := a.fDen * b.fDen) (by omega) (by omega), w64_id (by omega) (by omega)]
  · rw [if_neg h, if_pos (by simp; omega)]
theorem SampleBelieves_true (b : TBatch) (s at_ long : Int) (_ : TBatch_rg b) (_ : Rg_i64 s) (hat : Rg_u8 at_) (hlong : Rg_u8 long) : calxlaw03_SampleBelieves b s at_ long = some true := by
  unfold Rg_u8 at hat hlong
  unfold calxlaw03_SampleBelieves
  rw [head_true, bnd rfl, Weights_spec, bnd rfl, sample_Ends_spec, bnd rfl]
  dsimp only
  rw [if_neg (by simp)]
  by_cases h : SortS b s = 0
  · obtain ⟨hc, hs⟩ := Sort_0.1 h
    have hb := Check_bd hc
    have h2 := tot_pos hc
    have h3 := totN_le (Check_okB hc)
    have hg := WtS_Gd hc hs
    have hE := Ends_rg hc hs
    obtain ⟨⟨k1, hk1, e1⟩, ⟨k2, hk2, e2⟩, ha⟩ := Ends_is hc hs
    simp only [h, if_true]
    have hlen : ((WtS b s).length : Int) = b.fBarrows + 1 := by rw [WtS_len]; omega
    rw [if_neg (show ¬ ((0 : Int) != 0) = true by simp), hlen, w64_id (x := b.fBarrows + 1) (by omega) (by omega)]
    have c0 : ((((b.fBarrows + 1 != b.fBarrows + 1) || decide ((EndsS b s).fLo < 0)) || decide ((EndsS b s).fHi < (EndsS b s).fLo)) || decide (b.fBarrows + 1 ≤ (EndsS b s).fHi)) = false := by
      rw [decide_eq_false (show ¬ (EndsS b s).fLo < 0 by omega), decide_eq_false (show ¬ (EndsS b s).fHi < (EndsS b s).fLo by omega), decide_eq_false (show ¬ b.fBarrows + 1 ≤ (EndsS b s).fHi by omega)]
      simp
    have w1 : ¬ rdL (WtS b s) (EndsS b s).fLo < 1 := by
      rw [WtS_at hc (by omega) (by omega), ← e1]
      have := ws_pos hc hk1 (s := s)
      omega
    have w2 : ¬ rdL (WtS b s) (EndsS b s).fHi < 1 := by
      rw [WtS_at hc (by omega) (by omega), ← e2]
      have := ws_pos hc hk2 (s := s)
      omega
    rw [c0, if_neg (show ¬ false = true by simp), guardO_pos (by omega), bnd rfl, if_neg (by simpa using w1), guardO_pos (by omega), bnd rfl, if_neg (by simpa using w2), Believes_l1_run hc hs]
    dsimp only [Option.bind_some]
    -- the spans
    have hat' : w64 at_ = at_ := w64_id (by omega) (by omega)
    have hlong' : w64 long = long := w64_id (by omega) (by omega)
    rw [hat', hlong']
    obtain ⟨lo, hlo⟩ : ∃ lo, lo = Int.tmod at_ (b.fBarrows + 1) := ⟨_, rfl⟩
    have hlo0 : 0 ≤ lo ∧ lo < b.fBarrows + 1 := by
      rw [hlo]
      exact ⟨Int.tmod_nonneg _ (by omega), Int.tmod_lt_of_pos _ (by omega)⟩
    rw [← hlo, w64_id (x := b.fBarrows + 1 - lo) (by omega) (by omega)]
    obtain ⟨dl, hdl⟩ : ∃ dl, dl = Int.tmod long (b.fBarrows + 1 - lo) := ⟨_, rfl⟩
    have hdl0 : 0 ≤ dl ∧ dl < b.fBarrows + 1 - lo := by
      rw [hdl]
      exact ⟨Int.tmod_nonneg _ (by omega), Int.tmod_lt_of_pos _ (by omega)⟩
    rw [← hdl, w64_id (x := lo + dl) (by omega) (by omega), w64_id (x := lo + dl + 1) (by omega) (by omega)]
    rw [Believed_spec h (show (0 : Int) ≤ b.fBarrows by omega) (by omega), bnd rfl, guardO_pos (by omega), guardO_pos (by omega), Believed_spec h (show lo ≤ lo + dl by omega) (by omega), bnd rfl, Believed_spec h (show lo + dl + 1 ≤ lo + dl + 1 by omega) (by omega), bnd rfl, Believed_spec h (show lo ≤ lo + dl + 1 by omega) (by omega), bnd rfl]
    have r0 : (spanS (WtS b s) 0 b.fBarrows).toNat = totN b := by
      have hT : (WtS b s).take (b.fBarrows + 1).toNat = WtS b s := List.take_of_length_le (by rw [WtS_len]; omega)
      rw [spanS_diff (by omega) (by omega) (by omega), hT, WtS_tot hc hs]
      simp
    have r1 := spanS_rg hg lo (lo + dl)
    have r2 := spanS_rg hg (lo + dl + 1) (lo + dl + 1)
    have r3 : spanS (WtS b s) lo (lo + dl + 1) = spanS (WtS b s) lo (lo + dl) + spanS (WtS b s) (lo + dl + 1) (lo + dl + 1) := by
      by_cases hend : lo + dl + 1 < b.fBarrows + 1
      · rw [spanS_diff (by omega) (by omega) (by omega), spanS_diff (by omega) (by omega) (by omega), spanS_diff (by omega) (by omega) (by omega)]
        omega
      · have e3 : spanS (WtS b s) lo (lo + dl + 1) = spanS (WtS b s) lo (lo + dl) := by
          unfold spanS
          rw [show min (((WtS b s).length : Int) - 1) (lo + dl + 1) = min (((WtS b s).length : Int) - 1) (lo + dl) by omega]
        rw [e3, spanS_none (lo := lo + dl + 1) (by omega) (by omega)]; omega
    rw [r0, RatS_self (by omega)]
    obtain ⟨p1, q1, hr1, hq1, ha1, hb1, _, _⟩ := RatS_is (a := (spanS (WtS b s) lo (lo + dl)).toNat) (b := totN b) (by omega)
    obtain ⟨p2, q2, hr2, hq2, ha2, hb2, _, _⟩ := RatS_is (a := (spanS (WtS b s) (lo + dl + 1) (lo + dl + 1)).toNat) (b := totN b) (by omega)
    obtain ⟨p3, q3, hr3, hq3, ha3, hb3, _, _⟩ := RatS_is (a := (spanS (WtS b s) lo (lo + dl + 1)).toNat) (b := totN b) (by omega)
    rw [hr1, hr2, hr3]
    rw [r3, show (spanS (WtS b s) lo (lo + dl) + spanS (WtS b s) (lo + dl + 1) (lo + dl + 1)).toNat = (spanS (WtS b s) lo (lo + dl)).toNat + (spanS (WtS b s) (lo + dl + 1) (lo + dl + 1)).toNat by omega] at ha3
    have h3f := three_fr (by omega) ha1 hb1 ha2 hb2 ha3 (by rw [r3, show (spanS (WtS b s) lo (lo + dl) + spanS (WtS b s) (lo + dl + 1) (lo + dl + 1)).toNat = (spanS (WtS b s) lo (lo + dl)).toNat + (spanS (WtS b s) (lo + dl + 1) (lo + dl + 1)).toNat by omega] at hb3; exact hb3)
    rw [if_neg (by simp), more_eq _ _ (by dsimp only; omega) (by dsimp only; omega) (by dsimp only; omega) (by dsimp only; omega), bnd rfl]
    dsimp only
    have hone : decide (1 ≤ (totN b : Int)) = true := decide_eq_true (by omega)
    by_cases hm : (q1 : Int) ≤ 1073741824 ∧ (q2 : Int) ≤ 1073741824 ∧ (p1 : Int) ≤ 2147483648 ∧ (p2 : Int) ≤ 2147483648
    · rw [if_pos hm]
      dsimp only
      split
      · rw [hone]; rfl
      · rename_i hnot
        simp only [Bool.not_true, Bool.or_eq_true, decide_eq_true_eq, not_or] at hnot
        obtain ⟨⟨⟨⟨_, g1⟩, g2⟩, g3⟩, g4⟩ := hnot
        have z1 : ((p1 : Int) * q2 + (p2 : Int) * q1) = ((p1 * q2 + p2 * q1 : Nat) : Int) := by simp
        have z2 : (q1 : Int) * q2 = ((q1 * q2 : Nat) : Int) := by simp
        rw [z1] at g4 ⊢
        rw [z2] at g3 ⊢
        have y1 : (p1 * q2 + p2 * q1) * q3 ≤ 1099511627776 * 1048576 := Nat.mul_le_mul (by omega) (by omega)
        rw [← Int.natCast_mul, ← Int.natCast_mul, h3f, hone]
        simp
    · rw [if_neg hm]
      rw [if_pos (by simp), hone]; rfl
  · rw [if_pos (by simpa using h)]
end Go.Proofs.Ytepfgdfahinpkaa
