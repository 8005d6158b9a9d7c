/- Words for walks: stores of aggregates into rows. -/
import Derived.Test.YtndajeiecdmhnaaGn
namespace Go.Proofs.Ytndajeiecdmhnaa
open Go.RowKit (Below)

theorem encL_setN {α : Type} {cells : α → List Value} {sz : Nat} (hc : ∀ x, (cells x).length = sz) (v : α) : ∀ (xs : List α) (j : Nat), j < xs.length → (encL cells xs).take (j * sz) ++ cells v ++ (encL cells xs).drop ((j + 1) * sz) = encL cells (xs.set j v)
  | [], j, h => by simp at h
  | x :: xs, 0, _ => by
    have e : (encL cells (x :: xs)).drop ((0 + 1) * sz) = encL cells xs := by
      have := encL_drop hc (x :: xs) 1
      simpa using this
    rw [e]
    simp [encL]
  | x :: xs, j + 1, h => by
    have ih := encL_setN hc v xs j (by simpa using h)
    have e1 : (encL cells (x :: xs)).take ((j + 1) * sz) = cells x ++ (encL cells xs).take (j * sz) := by
      have h1 : encL cells (x :: xs) = cells x ++ encL cells xs := by simp [encL]
      rw [h1, Nat.add_mul, Nat.one_mul, Nat.add_comm, ← hc x, List.take_length_add_append, hc x]
    have e2 : (encL cells (x :: xs)).drop ((j + 1 + 1) * sz) = (encL cells xs).drop ((j + 1) * sz) := by
      rw [encL_drop hc, encL_drop hc]
      rfl
    rw [e1, e2, List.set_cons_succ]
    have h2 : encL cells (x :: xs.set j v) = cells x ++ encL cells (xs.set j v) := by simp [encL]
    rw [h2, ← ih]
    simp
section
variable {r : Option Nat} {n : Nat} {P : Program} {ρ : Operand → Value} {w0 : World} {L : List Res}
variable {t : Option Tmp} {ty : TypeId} {pos : String} {af : Array Edge} {g : Option (Nat × Bool)}
theorem y_storeRN (i : Nat) {α : Type} {cells : α → List Value} (vs : List Value) (hc : ∀ x, (cells x).length = vs.length) (hpos : 0 < vs.length) {xs : List α} (v : α) {x y : Operand} {u e : TypeId} {A : Option Addr} {k c : Nat} {j : Int} (hs : szB P u vs.length = true) (hL : L[i]? = some (rowR A c e vs.length k (encL cells xs))) (h0 : 0 ≤ j) (h1 : j < (xs.length : Int)) (hx : ρ x = slA A (j.toNat * vs.length)) (hw : cells v = vs) (hy : ρ y = .agg vs.toArray) (ho : (vs.all (·.oneCell')) = true) :
    OpY r n P ⟨t, .store u x y, ty, pos, af, g⟩ ρ (fun W => Ext w0 W L) (fun W => Ext w0 W (L.set i (rowR A c e vs.length k (encL cells (xs.set j.toNat v))))) undef :=
  opY_skip (by intro c h; cases h) (fun W hW => by
    have hown : W.ownsRow 0 e vs.length (.slice A k c) k (encL cells xs) := hW.mem hL
    have hk : xs.length = k := by
      have h5 := hown.1
      rw [encL_len hc rfl] at h5
      exact Nat.eq_of_mul_eq_mul_right hpos h5
    rcases hown.2 with ⟨_, h3⟩ | ⟨g', cap, cur, hv, _, hg, h3, h4, h5, h6⟩
    · omega
    · simp only [Value.slice.injEq] at hv
      obtain ⟨rfl, _, rfl⟩ := hv
      have hjk : j.toNat < k := by omega
      have hjs : j.toNat * vs.length + vs.length ≤ k * vs.length := by
        have := Nat.mul_le_mul_right vs.length (show j.toNat + 1 ≤ k by omega)
        rw [Nat.add_mul, Nat.one_mul] at this
        exact this
      have hcs : k * vs.length ≤ cur.size := by
        have := Nat.mul_le_mul_right vs.length h3
        omega
      have hx' : ρ x = .pointer (some ⟨g', j.toNat * vs.length, none⟩) := by
        rw [hx]
        simp [slA]
      have hcw : (Value.agg vs.toArray).cells.toList = vs := by simp [Value.cells]
      have hst := run_storeCells_at (P := P) g' (j.toNat * vs.length) e vs 0 cur W hg (by omega) (by simpa using ho)
      simp only [Nat.add_zero] at hst
      refine ⟨_, by
        simp only [execOp, hx', hy, Sem.run_bind]
        have : (Instr.storeAt u (.pointer (some ⟨g', j.toNat * vs.length, none⟩)) (.agg vs.toArray)).run P W = .ok () (W.setRow g' (cur.toList.take (j.toNat * vs.length) ++ vs ++ cur.toList.drop (j.toNat * vs.length + vs.length)).toArray) := by
          simp [Instr.storeAt, Instr.sureAddr, storeVar, run_sizeOf_sz hs, Value.cells, hst]
        rw [this]
        rfl, ?_⟩
      have hlen : (cur.toList.take (j.toNat * vs.length) ++ vs ++ cur.toList.drop (j.toNat * vs.length + vs.length)).length = cur.size := by
        simp; omega
      refine hW.set hL (rowR (some ⟨g', 0, none⟩) c e vs.length k (encL cells (xs.set j.toNat v))) ?_ rfl rfl rfl (by simp [World.setRow]) (fun b' _ hn => ?_) (fun b' hb' => .inl hb')
      · refine ⟨?_, .inr ⟨g', c, (cur.toList.take (j.toNat * vs.length) ++ vs ++ cur.toList.drop (j.toNat * vs.length + vs.length)).toArray, rfl, Nat.zero_le _, setRow_heap W g' _ _ e _ hg, h3, h4, by simp only [List.size_toArray]; rw [hlen]; exact h5, ?_⟩⟩
        · rw [encL_len hc rfl]; simp [hk]
        · have h6' : cur.toList.take (k * vs.length) = encL cells xs := h6
          show (cur.toList.take (j.toNat * vs.length) ++ vs ++ cur.toList.drop (j.toNat * vs.length + vs.length)).take (k * vs.length) = _
          rw [← encL_setN hc v xs j.toNat (by omega), hw, ← h6', List.take_take, Nat.min_eq_left (by omega)]
          rw [List.append_assoc, List.append_assoc, List.take_append, List.take_of_length_le (by simp; omega)]
          congr 1
          rw [List.take_append, List.take_of_length_le (by simp; omega)]
          congr 1
          rw [List.drop_take, Nat.add_mul, Nat.one_mul]
          congr 1
          simp
          omega
      · show (W.heap.modify g' _)[b']? = _
        rw [Array.getElem?_modify, if_neg (fun e' => hn ⟨_, rfl, e'⟩)])
end
end Go.Proofs.Ytndajeiecdmhnaa
