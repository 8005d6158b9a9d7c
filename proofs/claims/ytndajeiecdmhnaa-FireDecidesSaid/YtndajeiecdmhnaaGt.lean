/- Words for rows: what an argument without pointers reads as. -/
import Derived.Test.YtndajeiecdmhnaaGs
import Derived.WalkKit
import Derived.ProofKit
import Derived.OpenShut
import Derived.Carry
import Derived.ChangeOld
namespace Go.Proofs.Ytndajeiecdmhnaa
open Go.RowKit (Below)

/-- A cell of a type without pointers: a number of a kind, a bool, a slice whose elements' cells are so. -/
inductive Lf where
  | i (k : IntKind)
  | b
  | sl (ks : List Lf)
/-- Leaf by leaf. -/
def All2 (ok : Lf → Value → Prop) : List Lf → List Value → Prop
  | [], [] => True
  | k :: ks, v :: vs => ok k v ∧ All2 ok ks vs
  | _, _ => False
def Lf.okN (W : World) : Nat → Lf → Value → Prop
  | _, .i k, v => ∃ n, v = .int k n ∧ (Lit.int k n).wf = true
  | _, .b, v => ∃ x, v = .bool x
  | 0, .sl _, _ => False
  | m + 1, .sl ks, v => ∃ A n c, v = .slice A n c ∧ ∃ css : List (List Value), n = css.length ∧ n ≤ maxLen ∧ Rd W A n c css.flatten ∧ ∀ cs ∈ css, All2 (Lf.okN W m) ks cs
/-- The cells of type t are as ks says. -/
def flatB (P : Program) : Nat → TypeId → List Lf → Bool
  | 0, _, _ => false
  | fuel + 1, t, ks => match P.underlying t with
    | some .bool => match ks with | [.b] => true | _ => false
    | some (.int k) => match ks with | [.i k'] => decide (k' = k) | _ => false
    | some (.slice e) => match ks with | [.sl ks'] => decide (ks'.length = P.cellsOf e) && flatB P fuel e ks' | _ => false
    | some (.struct fs) => (List.range ks.length).all (fun i => fs.toList.any fun f => decide (f.offset ≤ i) && decide (i < f.offset + P.cellsOf f.type)) &&
        fs.toList.all fun f => flatB P fuel f.type ((ks.drop f.offset).take (P.cellsOf f.type))
    | some (.array n e) => (List.range ks.length).all (fun i => (List.range n).any fun j => decide (j * P.cellsOf e ≤ i) && decide (i < j * P.cellsOf e + P.cellsOf e)) &&
        (List.range n).all fun j => flatB P fuel e ((ks.drop (j * P.cellsOf e)).take (P.cellsOf e))
    | _ => false
theorem mapM_some {α β : Type} {f : α → Option β} : ∀ {l : List α} {r : List β}, l.mapM f = some r → ∀ x ∈ l, ∃ y, f x = some y
  | [], _, _, x, hx => by cases hx
  | a :: l, r, h, x, hx => by
    rw [List.mapM_cons] at h
    cases ha : f a with
    | none => rw [ha] at h; cases h
    | some y =>
      rw [ha] at h
      cases hl : l.mapM f with
      | none => rw [hl] at h; cases h
      | some r' =>
        rcases List.mem_cons.1 hx with rfl | hx
        · exact ⟨y, ha⟩
        · exact mapM_some hl x hx
theorem part_get {α : Type} {l : List α} {o n i : Nat} (h1 : o ≤ i) (h2 : i < o + n) : ((l.drop o).take n)[i - o]? = l[i]? := by
  rw [List.getElem?_take, if_pos (by omega), List.getElem?_drop]
  congr 1
  omega
theorem listed {α : Type} {Q : Nat → α → Prop} : ∀ (n : Nat), (∀ i, i < n → ∃ x, Q i x) → ∃ l : List α, l.length = n ∧ ∀ i x, l[i]? = some x → Q i x
  | 0, _ => ⟨[], rfl, fun i x h => by simp at h⟩
  | n + 1, h => by
    obtain ⟨l, hl, hq⟩ := listed n (fun i hi => h i (by omega))
    obtain ⟨x, hx⟩ := h n (by omega)
    refine ⟨l ++ [x], by simp [hl], fun i y hy => ?_⟩
    rcases Nat.lt_or_ge i l.length with hlt | hge
    · rw [List.getElem?_append_left hlt] at hy; exact hq i y hy
    · rw [List.getElem?_append_right hge] at hy
      by_cases e : i - l.length = 0
      · rw [e] at hy
        have hyx : x = y := by simpa using hy
        subst hyx
        have : i = n := by omega
        rw [this]; exact hx
      · rw [List.getElem?_eq_none (by simp; omega)] at hy; cases hy
theorem flat_get {α : Type} {C : Nat → α → Prop} {sz : Nat} : ∀ (css : List (List α)) (o : Nat), (∀ i cs, css[i]? = some cs → cs.length = sz ∧ ∀ q v, cs[q]? = some v → C (o + (i * sz + q)) v) → ∀ j v, css.flatten[j]? = some v → C (o + j) v
  | [], _, _, j, v, h => by simp at h
  | cs :: css, o, hh, j, v, h => by
    obtain ⟨hl, hc⟩ := hh 0 cs rfl
    rw [List.flatten_cons] at h
    rcases Nat.lt_or_ge j cs.length with hlt | hge
    · rw [List.getElem?_append_left hlt] at h
      have := hc j v h
      rw [Nat.zero_mul, Nat.zero_add] at this
      exact this
    · rw [List.getElem?_append_right hge] at h
      have := flat_get css (o + sz) (fun i cs' hi => by
        obtain ⟨h1, h2⟩ := hh (i + 1) cs' hi
        refine ⟨h1, fun q v hq => ?_⟩
        have := h2 q v hq
        rw [Nat.add_mul, Nat.one_mul] at this
        rw [show o + sz + (i * sz + q) = o + (i * sz + sz + q) by omega]
        exact this) (j - cs.length) v h
      rw [show o + sz + (j - cs.length) = o + j by omega] at this
      exact this
theorem All2.of {ok : Lf → Value → Prop} : ∀ {ks : List Lf} {vs : List Value}, vs.length = ks.length → (∀ (i : Nat) (k : Lf), ks[i]? = some k → ∃ v, vs[i]? = some v ∧ ok k v) → All2 ok ks vs
  | [], [], _, _ => trivial
  | [], _ :: _, h, _ => by simp at h
  | _ :: _, [], h, _ => by simp at h
  | k :: ks, v :: vs, h, hh => by
    obtain ⟨u, hu, hok⟩ := hh 0 k rfl
    have : v = u := by simpa using hu
    subst this
    exact ⟨hok, All2.of (by simpa using h) (fun i k hk => by simpa using hh (i + 1) k (by simpa using hk))⟩
theorem trod_flat {H : Type} {enc : TypeId × Value → H} {P : Program} {w : World} {base : Nat} {sp : Nat → Bool} {held : Bool} : ∀ (fl m fuel : Nat) (t : TypeId) (ks : List Lf) (cs : List Value) (x : DataW H × List MemPlace), fl ≤ m → flatB P fl t ks = true → DataW.trod enc P w base sp held fuel t cs = some x →
    ∀ (i : Nat) (k : Lf), ks[i]? = some k → ∃ v, cs[i]? = some v ∧ Lf.okN w m k v := by
  intro fl
  induction fl with
  | zero => intro m fuel t ks cs x _ h; cases h
  | succ fl ih =>
    intro m fuel t ks cs x hm h ht i k hk
    cases m with
    | zero => omega
    | succ m =>
    cases fuel with
    | zero => cases ht
    | succ fuel =>
      unfold flatB at h
      unfold DataW.trod at ht
      cases hu : P.underlying t with
      | none => rw [hu] at h; cases h
      | some d =>
        rw [hu] at h ht
        cases d with
        | bool =>
          match ks, h with
          | [.b], _ =>
          cases i with
          | succ i => simp at hk
          | zero =>
            obtain rfl : Lf.b = k := by simpa using hk
            match cs, ht with
            | [.bool b], _ => exact ⟨.bool b, rfl, b, rfl⟩
        | int q =>
          match ks, h with
          | [.i q0], h =>
          obtain rfl := of_decide_eq_true h
          cases i with
          | succ i => simp at hk
          | zero =>
            obtain rfl : Lf.i q0 = k := by simpa using hk
            match cs, ht with
            | [.int q' n], ht =>
              simp only at ht
              split at ht
              · rename_i hc
                obtain ⟨rfl, hw⟩ := hc
                exact ⟨.int q' n, rfl, n, rfl, hw⟩
              · cases ht
        | slice e =>
          match ks, h with
          | [.sl ks'], h =>
          simp only [Bool.and_eq_true, decide_eq_true_eq] at h
          obtain ⟨hsz, hf⟩ := h
          cases i with
          | succ i => simp at hk
          | zero =>
            obtain rfl : Lf.sl ks' = k := by simpa using hk
            match cs, ht with
            | [.slice none 0 0], _ => exact ⟨_, rfl, none, 0, 0, rfl, [], rfl, Nat.zero_le _, ⟨fun j v hj => by simp at hj, Nat.le_refl _⟩, fun cs hc => by cases hc⟩
            | [.slice (some a) len cap], ht =>
              simp only at ht
              split at ht
              · rename_i hc
                obtain ⟨hb, hlc, hcm⟩ := hc
                cases hmm : ((List.range len).mapM fun i => (w.cells? base (a.add (i * P.cellsOf e)) (P.cellsOf e)).bind (DataW.trod enc P w base sp held fuel e)) with
                | none => rw [hmm] at ht; cases ht
                | some els =>
                  obtain ⟨css, hlen, hcss⟩ := listed (Q := fun i cs => (∃ y, DataW.trod enc P w base sp held fuel e cs = some y) ∧ w.cells? base (a.add (i * P.cellsOf e)) (P.cellsOf e) = some cs) len (fun i hi => by
                    obtain ⟨y, hy⟩ := mapM_some hmm i (List.mem_range.2 hi)
                    cases hcc : w.cells? base (a.add (i * P.cellsOf e)) (P.cellsOf e) with
                    | none => rw [hcc] at hy; cases hy
                    | some cs => rw [hcc] at hy; exact ⟨cs, ⟨y, hy⟩, rfl⟩)
                  have hall : ∀ (i : Nat) (cs : List Value), css[i]? = some cs → cs.length = P.cellsOf e ∧ ∀ q v, cs[q]? = some v → w.cell? (a.add (0 + (i * P.cellsOf e + q))) = some v := fun i cs hi => by
                    obtain ⟨_, hcc⟩ := hcss i cs hi
                    obtain ⟨_, h1, h2⟩ := World.cells?_some hcc
                    refine ⟨h1, fun q v hq => ?_⟩
                    have hlt : q < P.cellsOf e := by rw [← h1]; exact (List.getElem?_eq_some_iff.1 hq).1
                    have := h2 q hlt
                    rw [hq, Addr.add_add] at this
                    rw [Nat.zero_add]
                    exact this
                  refine ⟨_, rfl, some a, len, cap, rfl, css, hlen.symm, Nat.le_trans hlc hcm, ⟨fun j v hj => ?_, hlc⟩, fun cs hc => ?_⟩
                  · have := flat_get (C := fun k v => w.cell? (a.add k) = some v) css 0 hall j v hj
                    simp only [Nat.zero_add] at this
                    have h0 : 0 < css.flatten.length := by
                      have := (List.getElem?_eq_some_iff.1 hj).1
                      omega
                    have t0 := flat_get (C := fun k v => w.cell? (a.add k) = some v) css 0 hall 0 _ (List.getElem?_eq_getElem h0)
                    obtain ⟨b, off, spot⟩ := a
                    have hspot : spot = none := World.cell?_spot (by simpa [Addr.add] using t0)
                    subst hspot
                    exact ⟨b, off, rfl, by simpa [Addr.add_lit] using this⟩
                  · obtain ⟨i, hi⟩ := List.getElem?_of_mem hc
                    obtain ⟨⟨y, hy⟩, _⟩ := hcss i cs hi
                    exact All2.of (by rw [(hall i cs hi).1, hsz]) (ih m fuel e ks' cs y (by omega) hf hy)
              · cases ht
        | struct fs =>
          simp only [Bool.and_eq_true] at h
          obtain ⟨hc, hf⟩ := h
          have hi : i < ks.length := (List.getElem?_eq_some_iff.1 hk).1
          obtain ⟨f, hfm, hfi⟩ := List.any_eq_true.1 (List.all_eq_true.1 hc i (List.mem_range.2 hi))
          simp only [Bool.and_eq_true, decide_eq_true_eq] at hfi
          have hff := List.all_eq_true.1 hf f hfm
          simp only at ht
          split at ht
          · cases hmm : (fs.toList.mapM fun f => DataW.trod enc P w base sp held fuel f.type ((cs.drop f.offset).take (P.cellsOf f.type))) with
            | none => rw [hmm] at ht; cases ht
            | some ys =>
              obtain ⟨y, hy⟩ := mapM_some hmm f hfm
              obtain ⟨v, hv, hok⟩ := ih (m + 1) fuel f.type _ _ y (by omega) hff hy (i - f.offset) k (by rw [part_get hfi.1 hfi.2]; exact hk)
              rw [part_get hfi.1 hfi.2] at hv
              exact ⟨v, hv, hok⟩
          · cases ht
        | array n e =>
          simp only [Bool.and_eq_true] at h
          obtain ⟨hc, hf⟩ := h
          have hi : i < ks.length := (List.getElem?_eq_some_iff.1 hk).1
          obtain ⟨j, hjm, hji⟩ := List.any_eq_true.1 (List.all_eq_true.1 hc i (List.mem_range.2 hi))
          simp only [Bool.and_eq_true, decide_eq_true_eq] at hji
          have hff := List.all_eq_true.1 hf j hjm
          simp only at ht
          split at ht
          · cases hmm : ((List.range n).mapM fun i => DataW.trod enc P w base sp held fuel e ((cs.drop (i * P.cellsOf e)).take (P.cellsOf e))) with
            | none => rw [hmm] at ht; cases ht
            | some ys =>
              obtain ⟨y, hy⟩ := mapM_some hmm j hjm
              obtain ⟨v, hv, hok⟩ := ih (m + 1) fuel e _ _ y (by omega) hff hy (i - j * P.cellsOf e) k (by rw [part_get hji.1 hji.2]; exact hk)
              rw [part_get hji.1 hji.2] at hv
              exact ⟨v, hv, hok⟩
          · cases ht
        | _ => cases h
theorem All2.inv {ok : Lf → Value → Prop} {k : Lf} {ks : List Lf} {vs : List Value} (h : All2 ok (k :: ks) vs) : ∃ v us, vs = v :: us ∧ ok k v ∧ All2 ok ks us := by
  cases vs with
  | nil => exact h.elim
  | cons v us => exact ⟨v, us, rfl, h.1, h.2⟩
theorem All2.inv0 {ok : Lf → Value → Prop} {vs : List Value} (h : All2 ok [] vs) : vs = [] := by
  cases vs with
  | nil => rfl
  | cons v us => exact h.elim
theorem okN_i {W : World} {m : Nat} {k : IntKind} {v : Value} (h : Lf.okN W m (.i k) v) : ∃ n, v = .int k n ∧ (Lit.int k n).wf = true := by cases m <;> exact h
theorem okN_sl {W : World} {m : Nat} {ks : List Lf} {v : Value} (h : Lf.okN W (m + 1) (.sl ks) v) : ∃ A n c, v = .slice A n c ∧ ∃ css : List (List Value), n = css.length ∧ n ≤ maxLen ∧ Rd W A n c css.flatten ∧ ∀ cs ∈ css, All2 (Lf.okN W m) ks cs := h
def isAggB (P : Program) (t : TypeId) : Bool := match P.underlying t with
  | some (.struct _) => true
  | some (.array _ _) => true
  | _ => false
/-- An argument that is a struct or an array without pointers. -/
theorem open_flat {H : Type} {enc : TypeId × Value → H} {P : Program} {W : World} {base : Nat} {sp : Nat → Bool} {held : Bool} {r : Reach} {b0 : Nat} {t : TypeId} {v : Value} {d : DataW H} {ps : List MemPlace} (ks : List Lf) (hf : flatB P 8 t ks = true) (ha : isAggB P t = true) (hsz : P.cellsOf t = ks.length)
    (hval : Value.okWide P W r b0 t v) (hd : DataW.Trod enc P W base sp held t v d ps) : ∃ vs : List Value, v = .agg vs.toArray ∧ All2 (Lf.okN W 8) ks vs := by
  obtain ⟨cs, rfl, hcs⟩ : ∃ cs, v = .agg cs ∧ cs.size = P.cellsOf t := by
    unfold Value.okWide at hval
    unfold isAggB at ha
    split at ha
    · rename_i hu
      rw [hu] at hval
      obtain ⟨cs, h1, h2, _⟩ := hval
      exact ⟨cs, h1, h2⟩
    · rename_i hu
      rw [hu] at hval
      obtain ⟨cs, h1, h2, _⟩ := hval
      exact ⟨cs, h1, h2⟩
    · cases ha
  obtain ⟨fuel, hfu⟩ := hd
  refine ⟨cs.toList, rfl, All2.of (by simp [hcs, hsz]) (trod_flat 8 8 fuel t ks _ _ (Nat.le_refl _) hf hfu)⟩
/-- .. each with what its cells say. -/
theorem rows_with {α : Type} {cells : α → List Value} {ok : List Value → Prop} {R : α → Prop} (h : ∀ cs, ok cs → ∃ x, cells x = cs ∧ R x) : ∀ (css : List (List Value)), (∀ cs ∈ css, ok cs) → ∃ xs : List α, css.length = xs.length ∧ css.flatten = encL cells xs ∧ ∀ x ∈ xs, R x
  | [], _ => ⟨[], rfl, rfl, fun x h => by cases h⟩
  | cs :: css, hh => by
    obtain ⟨x, rfl, hx⟩ := h cs (hh cs (List.mem_cons_self ..))
    obtain ⟨xs, h1, h2, h3⟩ := rows_with h css (fun c hc => hh c (List.mem_cons_of_mem _ hc))
    refine ⟨x :: xs, by simp [h1], by simp [encL] at h2 ⊢; exact h2, fun y hy => ?_⟩
    rcases List.mem_cons.1 hy with rfl | hy
    · exact hx
    · exact h3 y hy
theorem rg_i64 {n : Int} (h : (Lit.int .i64 n).wf = true) : Rg_i64 n := Go.bounds_i64 h
end Go.Proofs.Ytndajeiecdmhnaa
