/- Words for walks: what a call has laid in memory, piece by piece; a step of a walk. -/
import Derived.Test.YtndajeiecdmhnaaGb
namespace Go.Proofs.Ytndajeiecdmhnaa
open Go.RowKit (Below)

/-! ### Pieces of memory -/
/-- A piece: the blocks that it speaks of, and what it says of them. -/
structure Res where
  dom : Nat → Prop
  holds : World → Prop
  loc : ∀ W W', (∀ b, dom b → W'.heap[b]? = W.heap[b]?) → W.heap.size ≤ W'.heap.size → holds W → holds W'
  inb : ∀ W, holds W → ∀ b, dom b → b < W.heap.size

theorem lt_of_block {W : World} {b : Nat} {o : Obj} (h : W.heap[b]? = some o) : b < W.heap.size := (Array.getElem?_eq_some_iff.1 h).1
/-- Block b holds o. -/
def blk (b : Nat) (o : Obj) : Res where
  dom c := c = b
  holds W := W.heap[b]? = some o
  loc W W' h _ hh := (h b rfl).trans hh
  inb W h c hc := by subst hc; exact lt_of_block h

/-- W is w0 with the pieces L, all of them new, each apart from the others. -/
structure Ext (w0 W : World) (L : List Res) : Prop where
  below : Below w0.heap.size w0 W
  all : ∀ (i : Nat) (p : Res), L[i]? = some p → p.holds W
  new : ∀ (i : Nat) (p : Res), L[i]? = some p → ∀ b, p.dom b → w0.heap.size ≤ b
  sep : ∀ (i j : Nat) (p q : Res), L[i]? = some p → L[j]? = some q → i ≠ j → ∀ b, p.dom b → ¬ q.dom b

theorem Ext.nil (w : World) : Ext w w [] := ⟨Below.refl _ _, fun i p h => by simp at h, fun i p h => by simp at h, fun i j p q h => by simp at h⟩
theorem Ext.size {w0 W : World} {L : List Res} (h : Ext w0 W L) : w0.heap.size ≤ W.heap.size := h.below.size

/-- The pieces stay where blocks that none of them speaks of are turned. -/
theorem Ext.keep {w0 W W' : World} {L : List Res} (h : Ext w0 W L) (hb : Below w0.heap.size w0 W') (hs : W.heap.size ≤ W'.heap.size) (hk : ∀ (i : Nat) (p : Res), L[i]? = some p → ∀ b, p.dom b → W'.heap[b]? = W.heap[b]?) : Ext w0 W' L :=
  ⟨hb, fun i p hp => p.loc W W' (hk i p hp) hs (h.all i p hp), h.new, h.sep⟩
theorem Ext.drawn {w0 W : World} {L : List Res} (h : Ext w0 W L) : Ext w0 { W with drawn := W.drawn + 1 } L :=
  h.keep (h.below.trans ⟨rfl, rfl, rfl, Nat.le_refl _, fun _ _ => rfl⟩) (Nat.le_refl _) (fun _ _ _ _ _ => rfl)
theorem Ext.below' {w0 W W' : World} {L : List Res} (h : Ext w0 W L) (hb : Below W.heap.size W W') : Ext w0 W' L :=
  h.keep (h.below.trans (hb.mono h.size)) hb.size (fun i p hp b hd => hb.block b (p.inb W (h.all i p hp) b hd))
theorem Ext.mem {w0 W : World} {L : List Res} (h : Ext w0 W L) {i : Nat} {p : Res} (hp : L[i]? = some p) : p.holds W := h.all i p hp

/-- A further piece, apart from all others. -/
theorem Ext.snoc {w0 W : World} {L : List Res} (h : Ext w0 W L) {p : Res} (hp : p.holds W) (hn : ∀ b, p.dom b → w0.heap.size ≤ b) (ha : ∀ (i : Nat) (q : Res), L[i]? = some q → ∀ b, q.dom b → ¬ p.dom b) : Ext w0 W (L ++ [p]) := by
  have hget : ∀ (i : Nat) (q : Res), (L ++ [p])[i]? = some q → L[i]? = some q ∨ (i = L.length ∧ q = p) := by
    intro i q hq
    rcases Nat.lt_or_ge i L.length with hl | hl
    · rw [List.getElem?_append_left hl] at hq; exact .inl hq
    · rw [List.getElem?_append_right hl] at hq
      by_cases e : i = L.length
      · subst e; simp at hq; exact .inr ⟨rfl, hq.symm⟩
      · rw [List.getElem?_eq_none (by simp; omega)] at hq; cases hq
  refine ⟨h.below, fun i q hq => ?_, fun i q hq => ?_, fun i j q s hq hs hne b hb => ?_⟩
  · rcases hget i q hq with h1 | ⟨_, rfl⟩
    · exact h.all i q h1
    · exact hp
  · rcases hget i q hq with h1 | ⟨_, rfl⟩
    · exact h.new i q h1
    · exact hn
  · rcases hget i q hq with h1 | ⟨rfl, rfl⟩
    · rcases hget j s hs with h2 | ⟨rfl, rfl⟩
      · exact h.sep i j q s h1 h2 hne b hb
      · exact ha i q h1 b hb
    · rcases hget j s hs with h2 | ⟨rfl, rfl⟩
      · exact fun hs' => ha j s h2 b hs' hb
      · exact absurd rfl hne
theorem Ext.alloc {w0 W : World} {L : List Res} (h : Ext w0 W L) (o : Obj) : Ext w0 (W.alloc o) (L ++ [blk W.heap.size o]) := by
  have h1 : Ext w0 (W.alloc o) L := h.keep (h.below.alloc h.size o) (by simp) (fun i p hp b hd => Below.heap_alloc W o b (p.inb W (h.all i p hp) b hd))
  refine h1.snoc (p := blk W.heap.size o) (World.alloc_heap_new W o) (fun b hb => by cases hb; exact h.size) (fun i q hq b hb hb' => ?_)
  have hb'' : b = W.heap.size := hb'
  have := q.inb W (h.all i q hq) b hb
  omega
/-- A piece is turned. -/
theorem Ext.set {w0 W W' : World} {L : List Res} {i : Nat} {p : Res} (h : Ext w0 W L) (hp : L[i]? = some p) (q : Res) (hq : q.holds W')
    (ho : W'.os = W.os) (ht : W'.tape = W.tape) (hu : W'.output = W.output) (hs : W.heap.size ≤ W'.heap.size)
    (hk : ∀ b, b < W.heap.size → ¬ p.dom b → W'.heap[b]? = W.heap[b]?) (hd : ∀ b, q.dom b → p.dom b ∨ W.heap.size ≤ b) : Ext w0 W' (L.set i q) := by
  have hb : Below w0.heap.size w0 W' := h.below.trans ⟨ho, ht, hu, hs, fun b hb => hk b (Nat.lt_of_lt_of_le hb h.size) (fun hd => by have := h.new i p hp b hd; omega)⟩
  have hget : ∀ (j : Nat) (s : Res), (L.set i q)[j]? = some s → (j ≠ i ∧ L[j]? = some s) ∨ (j = i ∧ s = q) := by
    intro j s hj
    rw [List.getElem?_set] at hj
    by_cases e : i = j
    · subst e
      rw [if_pos rfl] at hj
      split at hj
      · cases hj; exact .inr ⟨rfl, rfl⟩
      · cases hj
    · rw [if_neg e] at hj; exact .inl ⟨fun e' => e e'.symm, hj⟩
  have hin : ∀ (j : Nat) (s : Res), L[j]? = some s → ∀ b, s.dom b → b < W.heap.size := fun j s hj b hb => s.inb W (h.all j s hj) b hb
  refine ⟨hb, fun j s hj => ?_, fun j s hj b hb => ?_, fun j k s u hj hk' hne b hb hu' => ?_⟩
  · rcases hget j s hj with ⟨hne, h1⟩ | ⟨_, rfl⟩
    · exact s.loc W W' (fun b hb => hk b (hin j s h1 b hb) (h.sep j i s p h1 hp hne b hb)) hs (h.all j s h1)
    · exact hq
  · rcases hget j s hj with ⟨_, h1⟩ | ⟨_, rfl⟩
    · exact h.new j s h1 b hb
    · rcases hd b hb with h2 | h2
      · exact h.new i p hp b h2
      · exact Nat.le_trans h.size h2
  · rcases hget j s hj with ⟨hnj, h1⟩ | ⟨rfl, rfl⟩
    · rcases hget k u hk' with ⟨hnk, h2⟩ | ⟨rfl, rfl⟩
      · exact h.sep j k s u h1 h2 hne b hb hu'
      · rcases hd b hu' with h3 | h3
        · exact h.sep j _ s p h1 hp hnj b hb h3
        · have := hin j s h1 b hb; omega
    · rcases hget k u hk' with ⟨hnk, h2⟩ | ⟨rfl, rfl⟩
      · rcases hd b hb with h3 | h3
        · exact h.sep k _ u p h2 hp hnk b hu' h3
        · have := hin k u h2 b hu'; omega
      · exact absurd rfl hne
theorem Ext.take {w0 W : World} {L : List Res} (h : Ext w0 W L) (k : Nat) : Ext w0 W (L.take k) := by
  have hget : ∀ (i : Nat) (q : Res), (L.take k)[i]? = some q → L[i]? = some q := fun i q hq => by
    rw [List.getElem?_take] at hq
    split at hq
    · exact hq
    · cases hq
  exact ⟨h.below, fun i q hq => h.all i q (hget i q hq), fun i q hq => h.new i q (hget i q hq), fun i j q s hq hs => h.sep i j q s (hget i q hq) (hget j s hs)⟩
theorem Ext.append {w0 W W' : World} {L L' : List Res} (h : Ext w0 W L) (h' : Ext W W' L') : Ext w0 W' (L ++ L') := by
  have h1 : Ext w0 W' L := h.below' h'.below
  have hget : ∀ (i : Nat) (q : Res), (L ++ L')[i]? = some q → (i < L.length ∧ L[i]? = some q) ∨ (L.length ≤ i ∧ L'[i - L.length]? = some q) := by
    intro i q hq
    rcases Nat.lt_or_ge i L.length with hl | hl
    · rw [List.getElem?_append_left hl] at hq; exact .inl ⟨hl, hq⟩
    · rw [List.getElem?_append_right hl] at hq; exact .inr ⟨hl, hq⟩
  have hap : ∀ (i j : Nat) (p q : Res), L[i]? = some p → L'[j]? = some q → ∀ b, p.dom b → ¬ q.dom b := fun i j p q hp hq b hb hb' => by
    have := p.inb W (h.all i p hp) b hb
    have := h'.new j q hq b hb'
    omega
  refine ⟨h1.below, fun i q hq => ?_, fun i q hq b hb => ?_, fun i j q s hq hs hne b hb => ?_⟩
  · rcases hget i q hq with ⟨_, h2⟩ | ⟨_, h2⟩
    · exact h1.all i q h2
    · exact h'.all _ q h2
  · rcases hget i q hq with ⟨_, h2⟩ | ⟨_, h2⟩
    · exact h.new i q h2 b hb
    · exact Nat.le_trans h.size (h'.new _ q h2 b hb)
  · rcases hget i q hq with ⟨h3, h2⟩ | ⟨h3, h2⟩
    · rcases hget j s hs with ⟨h5, h4⟩ | ⟨h5, h4⟩
      · exact h.sep i j q s h2 h4 hne b hb
      · exact hap _ _ q s h2 h4 b hb
    · rcases hget j s hs with ⟨h5, h4⟩ | ⟨h5, h4⟩
      · exact fun hs' => hap _ _ s q h4 h2 b hs' hb
      · exact h'.sep _ _ q s h2 h4 (by omega) b hb

/-! ### Steps of a walk: whatever the world, if only its pieces are these -/
section
variable {r : Option Nat} {n : Nat} {P : Program} {ops : Array Oper} {Q : Exit → Act → World → Prop} {w0 : World} {L L' : List Res} {m : Nat} {tm : Nat → Value} {d : List Deferred}

/-- Operations, from a frame on. -/
def OX (r : Option Nat) (n : Nat) (P : Program) (ops : Array Oper) (Q : Exit → Act → World → Prop) (w0 : World) (L : List Res) (l : List Oper) (m : Nat) (tm : Nat → Value) (d : List Deferred) : Prop :=
  ∀ W, Ext w0 W L → OL r n P ops Q l (act m tm d) W
/-- The quiet ones of a region that draws its order. -/
def QX (r : Option Nat) (n : Nat) (P : Program) (ops : Array Oper) (Q : Exit → Act → World → Prop) (w0 : World) (L : List Res) (tail : List Oper) (l : List Oper) (m : Nat) (tm : Nat → Value) (d : List Deferred) : Prop :=
  QW r n P ops (fun W => Ext w0 W L) (fun a' => ∀ W, Ext w0 W L → OL r n P ops Q tail a' W) l (act m tm d)
/-- Code. -/
def CX (r : Option Nat) (n : Nat) (P : Program) (c : Code) (Q : Exit → Act → World → Prop) (w0 : World) (L : List Res) (m : Nat) (tm : Nat → Value) (d : List Deferred) : Prop :=
  ∀ W, Ext w0 W L → c.wpIn (Fw r) n P Q (act m tm d) W
/-- What holds where a way ends. -/
def EX (Q : Exit → Act → World → Prop) (e : Exit) (w0 : World) (L : List Res) (m : Nat) (tm : Nat → Value) (d : List Deferred) : Prop :=
  ∀ W, Ext w0 W L → Q e (act m tm d) W

theorem ox_nil (h : EX Q .normal w0 L m tm d) : OX r n P ops Q w0 L [] m tm d := h
theorem ox_y {t : Tmp} {op : Op} {ty : TypeId} {pos : String} {af : Array Edge} {g : Option (Nat × Bool)} {rest : List Oper} {v : Value}
    (hw : seesB ops m tm ⟨some t, op, ty, pos, af, g⟩ = true) (hy : OpY r n P ⟨some t, op, ty, pos, af, g⟩ (opv m tm) (fun W => Ext w0 W L) (fun W => Ext w0 W L') v)
    (h : OX r n P ops Q w0 L' rest m (upd tm t v) d) : OX r n P ops Q w0 L (⟨some t, op, ty, pos, af, g⟩ :: rest) m tm d := fun W hW => by
  unfold OL
  rw [wanted_act, if_pos hw]
  refine wpIn_of_opY (C := fun W => Ext w0 W L) (C' := fun W => Ext w0 W L') (v := v) (by rw [eval_act]; exact hy) hW ?_
  intro W' hW'
  rw [put_act]
  exact h W' hW'
theorem ox_n {op : Op} {ty : TypeId} {pos : String} {af : Array Edge} {g : Option (Nat × Bool)} {rest : List Oper} {v : Value}
    (hw : seesB ops m tm ⟨none, op, ty, pos, af, g⟩ = true) (hy : OpY r n P ⟨none, op, ty, pos, af, g⟩ (opv m tm) (fun W => Ext w0 W L) (fun W => Ext w0 W L') v)
    (h : OX r n P ops Q w0 L' rest m tm d) : OX r n P ops Q w0 L (⟨none, op, ty, pos, af, g⟩ :: rest) m tm d := fun W hW => by
  unfold OL
  rw [wanted_act, if_pos hw]
  refine wpIn_of_opY (C := fun W => Ext w0 W L) (C' := fun W => Ext w0 W L') (v := v) (by rw [eval_act]; exact hy) hW ?_
  intro W' hW'
  exact h W' hW'
/-- It is passed over. -/
theorem ox_skip {t : Tmp} {op : Op} {ty : TypeId} {pos : String} {af : Array Edge} {g : Option (Nat × Bool)} {rest : List Oper}
    (hw : seesB ops m tm ⟨some t, op, ty, pos, af, g⟩ = false) (h : OX r n P ops Q w0 L rest m (upd tm t undef) d) : OX r n P ops Q w0 L (⟨some t, op, ty, pos, af, g⟩ :: rest) m tm d := fun W hW => by
  unfold OL
  rw [wanted_act, if_neg (by rw [hw]; simp), put_act]
  exact h W hW
variable {tail : List Oper}
theorem qx_nil (h : OX r n P ops Q w0 L tail m tm d) : QX r n P ops Q w0 L tail [] m tm d := h
theorem qx_y {t : Tmp} {op : Op} {ty : TypeId} {pos : String} {af : Array Edge} {g : Option (Nat × Bool)} {rest : List Oper} {v : Value}
    (hw : seesB ops m tm ⟨some t, op, ty, pos, af, g⟩ = true) (hy : OpY r n P ⟨some t, op, ty, pos, af, g⟩ (opv m tm) (fun W => Ext w0 W L) (fun W => Ext w0 W L) v)
    (h : QX r n P ops Q w0 L tail rest m (upd tm t v) d) : QX r n P ops Q w0 L tail (⟨some t, op, ty, pos, af, g⟩ :: rest) m tm d := by
  unfold QX QW
  rw [wanted_act, if_pos hw, eval_act]
  refine ⟨v, hy, ?_⟩
  rw [put_act]
  exact h
theorem qx_skip {t : Tmp} {op : Op} {ty : TypeId} {pos : String} {af : Array Edge} {g : Option (Nat × Bool)} {rest : List Oper}
    (hw : seesB ops m tm ⟨some t, op, ty, pos, af, g⟩ = false) (h : QX r n P ops Q w0 L tail rest m (upd tm t undef) d) : QX r n P ops Q w0 L tail (⟨some t, op, ty, pos, af, g⟩ :: rest) m tm d := by
  unfold QX QW
  rw [wanted_act, if_neg (by rw [hw]; simp), put_act]
  exact h

/-! Code -/
theorem cx_region {id : Nat} {l : List Oper} (h : OX r n P l.toArray Q w0 L l m tm d) : CX r n P (.region id l.toArray false) Q w0 L m tm d :=
  fun W hW => wpIn_region_lit (ol_list l _ W (h W hW))
theorem cx_draws (k : Nat) {id : Nat} {l : List Oper} (hm : P.follows .mixedOrders = true) (hO : orderB l.toArray = true) (hT : tailB l.toArray k = true)
    (h : QX r n P l.toArray Q w0 L (l.drop k) (l.take k) m tm d) : CX r n P (.region id l.toArray true) Q w0 L m tm d :=
  fun _ hW => wp_draws k hm hO hT (C := fun W => Ext w0 W L) hW.drawn h
theorem cx_seq {x y : Code} (h : CX r n P x (Exit.then (y.wpIn (Fw r) n P Q) Q) w0 L m tm d) : CX r n P (.seq x y) Q w0 L m tm d := fun W hW => wpIn_seq (h W hW)
theorem cx_true {c : Operand} {x y : Code} (hc : opv m tm c = .bool true) (h : CX r n P x Q w0 L m tm d) : CX r n P (.cond c x y) Q w0 L m tm d := fun W hW =>
  wpIn_cond_true (by rw [eval_act]; exact hc) (h W hW)
theorem cx_false {c : Operand} {x y : Code} (hc : opv m tm c = .bool false) (h : CX r n P y Q w0 L m tm d) : CX r n P (.cond c x y) Q w0 L m tm d := fun W hW =>
  wpIn_cond_false (by rw [eval_act]; exact hc) (h W hW)
theorem cx_block {id : Nat} {x : Code} (h : CX r n P x (Exit.inBlock id Q) w0 L m tm d) : CX r n P (.block id x) Q w0 L m tm d := fun W hW => wpIn_block (h W hW)
theorem cx_skip (h : EX Q .normal w0 L m tm d) : CX r n P .skip Q w0 L m tm d := fun W hW => wpIn_skip (h W hW)
theorem cx_ret (h : EX Q .ret w0 L m tm d) : CX r n P .ret Q w0 L m tm d := fun W hW => wpIn_ret (h W hW)
theorem cx_exit {id : Nat} (h : EX Q (.exit id) w0 L m tm d) : CX r n P (.exit id) Q w0 L m tm d := fun W hW => wpIn_exit (h W hW)

theorem ex_then {x : Code} {Q' : Exit → Act → World → Prop} (h : CX r n P x Q w0 L m tm d) : EX (Exit.then (x.wpIn (Fw r) n P Q) Q') .normal w0 L m tm d := h
theorem ex_then_ret {J : Act → World → Prop} {Q' : Exit → Act → World → Prop} (h : EX Q' .ret w0 L m tm d) : EX (Exit.then J Q') .ret w0 L m tm d := h
theorem ex_then_exit {J : Act → World → Prop} {Q' : Exit → Act → World → Prop} {i : Nat} (h : EX Q' (.exit i) w0 L m tm d) : EX (Exit.then J Q') (.exit i) w0 L m tm d := h
theorem ex_block_ret {id : Nat} {Q' : Exit → Act → World → Prop} (h : EX Q' .ret w0 L m tm d) : EX (Exit.inBlock id Q') .ret w0 L m tm d := h
theorem ex_block {id : Nat} {Q' : Exit → Act → World → Prop} (h : EX Q' .normal w0 L m tm d) : EX (Exit.inBlock id Q') .normal w0 L m tm d := h
theorem ex_block_here {id : Nat} {Q' : Exit → Act → World → Prop} (h : EX Q' .normal w0 L m tm d) : EX (Exit.inBlock id Q') (.exit id) w0 L m tm d := fun W hW => by
  show (if id = id then Q' .normal _ _ else Q' (.exit id) _ _)
  rw [if_pos rfl]
  exact h W hW
theorem ex_block_past {id i : Nat} {Q' : Exit → Act → World → Prop} (hne : (i == id) = false) (h : EX Q' (.exit i) w0 L m tm d) : EX (Exit.inBlock id Q') (.exit i) w0 L m tm d := fun W hW => by
  show (if i = id then Q' .normal _ _ else Q' (.exit i) _ _)
  rw [if_neg (by simpa using hne)]
  exact h W hW
theorem ex_take {e : Exit} (k : Nat) (h : EX Q e w0 (L.take k) m tm d) : EX Q e w0 L m tm d := fun W hW => h W (hW.take k)
end

end Go.Proofs.Ytndajeiecdmhnaa
