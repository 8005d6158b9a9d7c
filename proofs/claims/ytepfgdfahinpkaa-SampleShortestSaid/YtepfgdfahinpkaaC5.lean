/- The calls hand back what the plain functions say. -/
import Derived.Test.YtepfgdfahinpkaaF
set_option linter.unusedVariables false
set_option maxHeartbeats 4000000
namespace Go.Proofs.Ytepfgdfahinpkaa
open Go.RowKit (Below)
attribute [local irreducible] OX QX CX EX OpY Calls CallsIn

/-! calx/calxref03.ratio -/
set_option maxRecDepth 100000 in
theorem calxref03_ratio_ok (p0_n : Int) (p1_d : Int) (res : TRatio) (h : calxref03_ratio p0_n p1_d = some res) (W : World)  :
    Calls Try.prog 97 [.int .i64 p0_n, .int .i64 p1_d].toArray W fun e W2 => e = .returned (.agg #[.int .i64 res.fNum, .int .i64 res.fDen]) ∧ Ext W W2 [] := by
  unfold calxref03_ratio at h
  refine calls_enter (m := 24) Try.func97 rfl rfl (Nat.le_of_ble_eq_true rfl) ?_
  refine cx_seq ?_
  refine cx_region ?_
  refine ox_alloc ze_23 rfl (fun b1 => ?_)
  refine ox_nil ?_
  refine ex_then ?_
  refine cx_seq ?_
  refine cx_region ?_
  refine ox_y rfl (y_move_int rfl) ?_
  refine ox_y rfl (y_assign_int rfl) ?_
  refine ox_nil ?_
  refine ex_then ?_
  refine cx_seq ?_
  refine cx_region ?_
  refine ox_y rfl (y_move_int rfl) ?_
  refine ox_y rfl (y_assign_int rfl) ?_
  refine ox_nil ?_
  refine ex_then ?_
  refine cx_seq ?_
  refine cx_block ?_
  obtain ⟨u4, hl7, h⟩ := bind_some h
  refine cx_loop (fun (s : (Int × Int)) L tm => ∃ (tm0 : Nat → Value), L = [cellsR b1 23 [.int .i64 0, .int .i64 0]] ∧ tm = (upd (upd (upd (upd (upd tm0 0 (.int .i64 p0_n)) 1 (.int .i64 p1_d)) 4 (.pointer (some ⟨b1, 0, none⟩))) 5 (.int .i64 s.1)) 6 (.int .i64 s.2))) (fun s e L tm => e = .exit 0 ∧ ∃ (tm0 : Nat → Value), L = [cellsR b1 23 [.int .i64 0, .int .i64 0]] ∧ tm = (upd (upd (upd (upd (upd tm0 0 (.int .i64 p0_n)) 1 (.int .i64 p1_d)) 4 (.pointer (some ⟨b1, 0, none⟩))) 5 (.int .i64 s.1)) 6 (.int .i64 s.2))) hl7 ⟨_, rfl, (keep (keep (keep (keep (keep rfl rfl) rfl) rfl) rfl) rfl)⟩ ?_ ?_
  · rintro s3 L tm st ⟨tm0_s3, rfl, rfl⟩ h
    unfold calxref03_ratio_l1 at h
    refine cx_seq ?_
    refine cx_seq ?_
    refine cx_region ?_
    refine ox_y rfl (y_move_int rfl) ?_
    refine ox_y rfl (y_neq rfl rfl) ?_
    refine ox_nil ?_
    refine ex_then ?_
    rcases ite_some h with ⟨hp5, h⟩ | ⟨hp5, h⟩
    · refine cx_true (congrArg Value.bool hp5) ?_
      refine cx_skip ?_
      refine ex_then ?_
      refine cx_block ?_
      refine cx_seq ?_
      refine cx_region ?_
      refine ox_y rfl (y_move_int rfl) ?_
      refine ox_y rfl (y_move_int rfl) ?_
      obtain ⟨hg6, h⟩ := guardO_some h
      refine ox_y rfl (y_rem hg6 rfl rfl) ?_
      refine ox_y rfl (y_assign_int rfl) ?_
      refine ox_nil ?_
      refine ex_then ?_
      refine cx_seq ?_
      refine cx_region ?_
      refine ox_y rfl (y_move_int rfl) ?_
      refine ox_y rfl (y_assign_int rfl) ?_
      refine ox_nil ?_
      refine ex_then ?_
      refine cx_region ?_
      refine ox_y rfl (y_move_int rfl) ?_
      refine ox_y rfl (y_assign_int rfl) ?_
      refine ox_nil ?_
      refine ex_block ?_
      obtain rfl := Option.some.inj h
      exact ex_next ⟨_, rfl, (keep (keep (keep (keep (keep rfl rfl) rfl) rfl) rfl) rfl)⟩
    · refine cx_false (congrArg Value.bool hp5) ?_
      refine cx_exit ?_
      refine ex_then_exit ?_
      obtain rfl := Option.some.inj h
      exact ex_stop ⟨rfl, _, rfl, (keep (keep (keep (keep (keep rfl rfl) rfl) rfl) rfl) rfl)⟩
  · intro e L tm hJ
    obtain ⟨rfl, tm0_u4, rfl, rfl⟩ := hJ
    refine ⟨(by intro hc; cases hc), ?_⟩
    refine ex_block_here ?_
    refine ex_then ?_
    refine cx_seq ?_
    refine cx_draws 7 mixed (by kernel_rfl) (by kernel_rfl) ?_
    refine qx_y rfl (y_move_int rfl) ?_
    refine qx_y rfl (y_move_int rfl) ?_
    obtain ⟨hg8, h⟩ := guardO_some h
    refine qx_y rfl (y_quo hg8 rfl rfl) ?_
    refine qx_y rfl (y_move_int rfl) ?_
    refine qx_y rfl (y_move_int rfl) ?_
    obtain ⟨hg9, h⟩ := guardO_some h
    refine qx_y rfl (y_quo hg9 rfl rfl) ?_
    refine qx_y rfl (y_buildS [.int .i64 (w64 (Int.tdiv p0_n u4.1)), .int .i64 (w64 (Int.tdiv p1_d u4.1))] [(0, 1), (1, 1)] ust_23 ze_23 (by kernel_rfl)) ?_
    refine qx_nil ?_
    refine ox_n rfl (y_storeN 0 [.int .i64 (w64 (Int.tdiv p0_n u4.1)), .int .i64 (w64 (Int.tdiv p1_d u4.1))] sz_23 rfl (Nat.le_of_ble_eq_true rfl) rfl rfl rfl) ?_
    refine ox_nil ?_
    refine ex_then ?_
    refine cx_ret ?_
    obtain rfl := Option.some.inj h
    exact ex_res1 (.inl rfl) rfl (resV_cellN 0 [.int .i64 (w64 (Int.tdiv p0_n u4.1)), .int .i64 (w64 (Int.tdiv p1_d u4.1))] ag_23 rfl rfl rfl) (fun W2 hW2 => ⟨rfl, hW2.none⟩)

/-! calx/calxref03.table -/
theorem tabRow_len : ∀ n, (tabRow n).length = n + 1
  | 0 => rfl
  | n + 1 => by simp [tabRow, tabRow_len n]
theorem tabRow_mid (n k : Nat) (h : k < n) : (tabRow (n + 1)).getD (k + 1) 0 = (tabRow n).getD k 0 + (tabRow n).getD (k + 1) 0 := by
  have hl := tabRow_len n
  simp only [tabRow, List.getD_eq_getElem?_getD, List.getElem?_zipWith]
  rw [List.getElem?_cons_succ, List.getElem?_append_left (by omega), List.getElem?_eq_getElem (show k < (tabRow n).length by omega), List.getElem?_eq_getElem (show k + 1 < (tabRow n).length by omega)]
  rfl
theorem tabRow_last (n : Nat) : (tabRow (n + 1)).getD (n + 1) 0 = (tabRow n).getD n 0 := by
  have hl := tabRow_len n
  simp only [tabRow, List.getD_eq_getElem?_getD, List.getElem?_zipWith]
  rw [List.getElem?_cons_succ, List.getElem?_append_right (by omega), List.getElem?_eq_getElem (show n < (tabRow n).length by omega)]
  simp [hl]
theorem tabRow_first : ∀ n, (tabRow n).getD 0 0 = 1
  | 0 => rfl
  | n + 1 => by
    have hl := tabRow_len n
    have ih := tabRow_first n
    cases h : tabRow n with
    | nil => rw [h] at hl; simp at hl
    | cons x xs =>
      rw [h] at ih
      simp [tabRow, h] at ih ⊢
      exact ih
theorem tabRow_rg {n : Nat} (h : n ≤ 50) (k : Nat) : 0 ≤ (tabRow n).getD k 0 ∧ (tabRow n).getD k 0 ≤ 1125899906842624 := by
  have hc : ((List.range 51).all fun n => (tabRow n).all fun x => decide (0 ≤ x ∧ x ≤ 1125899906842624)) = true := by kernel_rfl
  have h1 := List.all_eq_true.1 hc n (List.mem_range.2 (by omega))
  by_cases hk : k < (tabRow n).length
  · rw [List.getD_eq_getElem?_getD, List.getElem?_eq_getElem hk]
    exact of_decide_eq_true (List.all_eq_true.1 h1 _ (List.getElem_mem hk))
  · rw [List.getD_eq_getElem?_getD, List.getElem?_eq_none (by omega)]
    exact ⟨Int.le_refl _, by decide⟩
/-- The table's cells, and its rows, by their blocks. -/
def tabO (bs : List Nat) : List Value := bs.zipIdx.map fun x => .slice (some ⟨x.1, 0, none⟩) (x.2 + 1) (x.2 + 1)
def tabI (bs : List Nat) : List Res := bs.zipIdx.map fun x => rowR (some ⟨x.1, 0, none⟩) (x.2 + 1) 3 1 (x.2 + 1) (encL cI (tabRow x.2))
theorem tabO_len (bs : List Nat) : (tabO bs).length = bs.length := by simp [tabO]
theorem tabI_len (bs : List Nat) : (tabI bs).length = bs.length := by simp [tabI]
theorem tabO_get {bs : List Nat} {j : Nat} (h : j < bs.length) : (tabO bs)[j]? = some (.slice (some ⟨bs[j], 0, none⟩) (j + 1) (j + 1)) := by
  simp [tabO, List.getElem?_zipIdx, h]
theorem tabI_get {bs : List Nat} {j : Nat} (h : j < bs.length) : (tabI bs)[j]? = some (rowR (some ⟨bs[j], 0, none⟩) (j + 1) 3 1 (j + 1) (encL cI (tabRow j))) := by
  simp [tabI, List.getElem?_zipIdx, h]
theorem tabO_snoc (bs : List Nat) (b : Nat) : tabO (bs ++ [b]) = tabO bs ++ [.slice (some ⟨b, 0, none⟩) (bs.length + 1) (bs.length + 1)] := by
  simp [tabO, List.zipIdx_append]
theorem tabI_snoc (bs : List Nat) (b : Nat) : tabI (bs ++ [b]) = tabI bs ++ [rowR (some ⟨b, 0, none⟩) (bs.length + 1) 3 1 (bs.length + 1) (encL cI (tabRow bs.length))] := by
  simp [tabI, List.zipIdx_append]
/-- A row up to a place. -/
def tabP (i k : Nat) : List Int := (tabRow i).take k ++ List.replicate (i + 1 - k) 0
theorem tabP_len {i k : Nat} (h : k ≤ i + 1) : (tabP i k).length = i + 1 := by
  unfold tabP
  rw [List.length_append, List.length_take, List.length_replicate, tabRow_len]; omega
theorem tabP_full (i : Nat) : tabP i (i + 1) = tabRow i := by
  unfold tabP
  rw [Nat.sub_self, List.replicate_zero, List.append_nil, List.take_of_length_le (by rw [tabRow_len]; omega)]
theorem tabP_set {i k : Nat} (h : k < i + 1) (y : Int) (hy : y = (tabRow i).getD k 0) (z : Int) : ((tabP i k).set k z).set k y = tabP i (k + 1) := by
  have hl : ((tabRow i).take k).length = k := by rw [List.length_take, tabRow_len]; omega
  have e : (tabRow i).getD k 0 = (tabRow i)[k]'(by rw [tabRow_len]; exact h) := by
    rw [List.getD_eq_getElem?_getD, List.getElem?_eq_getElem (by rw [tabRow_len]; exact h)]; rfl
  unfold tabP
  rw [show i + 1 - k = (i + 1 - (k + 1)) + 1 by omega, List.replicate_succ, List.set_append, hl, if_neg (by omega), Nat.sub_self, List.set_cons_zero, List.set_append, hl, if_neg (by omega), Nat.sub_self, List.set_cons_zero, List.take_add_one, List.getElem?_eq_getElem (by rw [tabRow_len]; exact h), hy, e, List.append_assoc]
  rfl
theorem tabP_set1 {i k : Nat} (h : k < i + 1) (y : Int) (hy : y = (tabRow i).getD k 0) : (tabP i k).set k y = tabP i (k + 1) := by
  rw [← tabP_set h y hy y, List.set_set]
theorem tabP_get {i k : Nat} (h : k < i + 1) (z : Int) : rdL ((tabP i k).set k z) (k : Int) = z := by
  have hl := tabP_len (i := i) (k := k) (by omega)
  unfold rdL
  rw [Int.toNat_natCast, List.getD_eq_getElem?_getD, List.getElem?_set_self (by omega)]
  rfl
theorem tabP_one (i : Nat) : (List.replicate (i + 1) (0 : Int)).set 0 1 = tabP i 1 := by
  unfold tabP
  have h := tabRow_first i
  have hl := tabRow_len i
  cases ht : tabRow i with
  | nil => rw [ht] at hl; simp at hl
  | cons x xs =>
    rw [ht] at h
    have hx : x = 1 := by simpa using h
    rw [List.replicate_succ, List.set_cons_zero, hx]
    rfl
theorem tabI_at {A : Option Addr} {c i j : Nat} {bs : List Nat} {X : List Res} {p : Res} (hb : bs.length = i) (h : j < i) : (p :: (tabI bs ++ X))[1 + j]? = some (rowR (some ⟨bs[j]'(by omega), 0, none⟩) (j + 1) 3 1 (j + 1) (encL cI (tabRow j))) := by
  rw [show 1 + j = j + 1 by omega, List.getElem?_cons_succ, List.getElem?_append_left (by rw [tabI_len]; omega), tabI_get (by omega)]
theorem tabX_at {i : Nat} {bs : List Nat} {x p : Res} {X : List Res} (hb : bs.length = i) : (p :: (tabI bs ++ (x :: X)))[i + 1]? = some x := by
  rw [List.getElem?_cons_succ, List.getElem?_append_right (by rw [tabI_len]; omega), tabI_len, hb, Nat.sub_self]; rfl
theorem tabX_set {i : Nat} {bs : List Nat} {x y p : Res} {X : List Res} (hb : bs.length = i) : (p :: (tabI bs ++ (x :: X))).set (i + 1) y = p :: (tabI bs ++ (y :: X)) := by
  rw [List.set_cons_succ, List.set_append, tabI_len, hb, if_neg (by omega), Nat.sub_self, List.set_cons_zero]
theorem tabAdd {p q : Nat} (h : p ≤ 50) (hq : q < p) : w64 ((tabRow p).getD q 0 + (tabRow p).getD (q + 1) 0) = (tabRow (p + 1)).getD (q + 1) 0 := by
  have hz := tabRow_rg h q
  have hz' := tabRow_rg h (q + 1)
  rw [tabRow_mid p q hq]
  generalize (tabRow p).getD q 0 = a at *
  generalize (tabRow p).getD (q + 1) 0 = b at *
  exact w64_id (by omega) (by omega)
def tabB (N : Int) (i : Nat) : Option (Nat ⊕ Nat) := if (i : Int) ≤ N then some (.inl (i + 1)) else some (.inr i)
theorem tabB_run {N : Int} (hN : 0 ≤ N) : loopO (tabB N) 1 = some (N.toNat + 1) := by
  have key : ∀ d i : Nat, i + d = N.toNat + 1 → loopO (tabB N) i = some (N.toNat + 1) := by
    intro d
    induction d with
    | zero =>
      intro i hi
      exact loopO_stop (by unfold tabB; rw [if_neg (by omega), show i = N.toNat + 1 by omega])
    | succ d ih =>
      intro i hi
      rw [loopO_next (s' := i + 1) (by unfold tabB; rw [if_pos (by omega)])]
      exact ih (i + 1) (by omega)
  exact key N.toNat 1 (by omega)
set_option maxRecDepth 100000 in
theorem calxref03_table_ok (N : Int) (hN : 0 ≤ N ∧ N ≤ 50) (W : World) :
    Calls Try.prog 121 [.int .i64 N].toArray W fun e W2 => ∃ x : Option Addr × Nat × List Nat, x.2.2.length = N.toNat + 1 ∧ e = .returned (.slice x.1 (N.toNat + 1) x.2.1) ∧ Ext W W2 (rowR x.1 x.2.1 66 1 (N.toNat + 1) (tabO x.2.2) :: tabI x.2.2) := by
  refine calls_enter (m := 58) Try.func121 rfl rfl (Nat.le_of_ble_eq_true rfl) ?_
  refine cx_seq ?_
  refine cx_region ?_
  refine ox_y rfl (y_assign_slice rfl) ?_
  refine ox_nil ?_
  refine ex_then ?_
  refine cx_seq ?_
  refine cx_region ?_
  refine ox_buildSliceE 1 (encL cI [1]) _ mc_3_1 us_66 ze_3 by_3 (by decide) (by decide) (by kernel_rfl) (encL_len cI_len rfl) rfl (fun b0 => ?_)
  refine ox_buildSliceE 1 [.slice (some ⟨b0, 0, none⟩) 1 1] _ mc_66_1 us_149 ze_66 by_66 (by decide) (by decide) (by kernel_rfl) rfl rfl (fun bo => ?_)
  refine ox_y rfl (y_assign_slice rfl) ?_
  refine ox_nil ?_
  refine ex_then ?_
  refine cx_seq ?_
  refine cx_seq ?_
  refine cx_region ?_
  refine ox_y rfl (y_assign_int rfl) ?_
  refine ox_nil ?_
  refine ex_then ?_
  refine cx_block ?_
  refine cx_perm (L' := [rowR (some ⟨bo, 0, none⟩) 1 66 1 1 (tabO [b0]), rowR (some ⟨b0, 0, none⟩) 1 3 1 1 (encL cI [1])]) (fun W2 hW2 => Ext.swap hW2) ?_
  refine cx_loop (S := Nat) (T := Nat) (body := tabB N) (s := 1) (u := N.toNat + 1) (fun i L tm => 1 ≤ i ∧ ∃ (tm0 : Nat → Value) (A : Option Addr) (c : Nat) (bs : List Nat), bs.length = i ∧ L = rowR A c 66 1 i (tabO bs) :: tabI bs ∧ tm = upd (upd (upd tm0 0 (.int .i64 N)) 3 (.slice A i c)) 4 (.int .i64 (i : Int)))
    (fun i e L tm => e = .exit 0 ∧ ∃ (tm0 : Nat → Value) (A : Option Addr) (c : Nat) (bs : List Nat), bs.length = i ∧ L = rowR A c 66 1 i (tabO bs) :: tabI bs ∧ tm = upd (upd (upd tm0 0 (.int .i64 N)) 3 (.slice A i c)) 4 (.int .i64 (i : Int))) (tabB_run hN.1)
    ⟨Nat.le_refl _, _, _, _, [b0], rfl, rfl, keep (keep (keep rfl rfl) rfl) rfl⟩ ?_ ?_
  · rintro i L tm st ⟨hi1, tm0, A, c, bs, hbs, rfl, rfl⟩ hst
    unfold tabB at hst
    refine cx_seq ?_
    refine cx_seq ?_
    refine cx_region ?_
    refine ox_y rfl (y_move_int rfl) ?_
    refine ox_y rfl (y_move_int rfl) ?_
    refine ox_y rfl (y_leq rfl rfl) ?_
    refine ox_nil ?_
    refine ex_then ?_
    by_cases hc : (i : Int) ≤ N
    · rw [if_pos hc] at hst
      obtain rfl := Option.some.inj hst
      refine cx_true (congrArg Value.bool (decide_eq_true hc)) ?_
      refine cx_skip ?_
      refine ex_then ?_
      refine cx_seq ?_
      refine cx_block ?_
      refine cx_seq ?_
      refine cx_region ?_
      refine ox_y rfl (y_move_int rfl) ?_
      refine ox_y rfl (y_add rfl rfl) ?_
      have hw1 : w64 ((i : Int) + 1) = ((i + 1 : Nat) : Int) := by rw [w64_id (by omega) (by omega)]; rfl
      rw [hw1]
      refine ox_make (encL cI (List.replicate (i + 1) 0)) us_66 ze_3 by_3 (by omega) (by omega) rfl (by rw [Int.toNat_natCast]; exact made_enc _ _ _ rfl rfl) rfl (fun b => ?_)
      rw [Int.toNat_natCast]
      refine ox_y rfl (y_assign_slice rfl) ?_
      refine ox_nil ?_
      refine ex_then ?_
      refine cx_seq ?_
      refine cx_region ?_
      refine ox_y rfl (y_move_slice rfl) ?_
      have hrowL : (rowR A c 66 1 i (tabO bs) :: tabI bs) ++ [rowR (some ⟨b, 0, none⟩) (i + 1) 3 1 (i + 1) (encL cI (List.replicate (i + 1) (0 : Int)))] = rowR A c 66 1 i (tabO bs) :: (tabI bs ++ [rowR (some ⟨b, 0, none⟩) (i + 1) 3 1 (i + 1) (encL cI (List.replicate (i + 1) (0 : Int)))]) := rfl
      rw [hrowL]
      refine ox_y rfl (y_indexR (A := some ⟨b, 0, none⟩) (k := i + 1) (c := i + 1) sl_66 (by decide) (i := 0) (by omega) (by omega) (RdL.row (i + 1) (tabX_at hbs)) (by rw [encL_len cI_len rfl, List.length_replicate]) rfl rfl) ?_
      refine ox_n rfl (y_storeR1 (i + 1) cI_len (1 : Int) sz_3 (tabX_at hbs) (j := 0) (by omega) (by rw [List.length_replicate]; omega) rfl rfl rfl rfl) ?_
      refine ox_nil ?_
      rw [tabX_set hbs, show (0 : Int).toNat = 0 from rfl, tabP_one]
      refine ex_then ?_
      refine cx_seq ?_
      refine cx_seq ?_
      refine cx_region ?_
      refine ox_y rfl (y_assign_int rfl) ?_
      refine ox_nil ?_
      refine ex_then ?_
      refine cx_block ?_
      refine cx_loop (S := Nat) (T := Nat) (body := tabB i) (s := 1) (u := ((i : Int)).toNat + 1) (fun k L tm => (1 ≤ k ∧ k ≤ i + 1) ∧ ∃ (tm0 : Nat → Value), L = rowR A c 66 1 i (tabO bs) :: (tabI bs ++ [rowR (some ⟨b, 0, none⟩) (i + 1) 3 1 (i + 1) (encL cI (tabP i k))]) ∧ tm = upd (upd (upd (upd (upd tm0 0 (.int .i64 N)) 3 (.slice A i c)) 4 (.int .i64 (i : Int))) 5 (.slice (some ⟨b, 0, none⟩) (i + 1) (i + 1))) 6 (.int .i64 (k : Int)))
        (fun k e L tm => e = .exit 2 ∧ ∃ (tm0 : Nat → Value), L = rowR A c 66 1 i (tabO bs) :: (tabI bs ++ [rowR (some ⟨b, 0, none⟩) (i + 1) 3 1 (i + 1) (encL cI (tabP i k))]) ∧ tm = upd (upd (upd (upd (upd tm0 0 (.int .i64 N)) 3 (.slice A i c)) 4 (.int .i64 (i : Int))) 5 (.slice (some ⟨b, 0, none⟩) (i + 1) (i + 1))) 6 (.int .i64 (k : Int))) (tabB_run (by omega))
        ⟨⟨Nat.le_refl _, by omega⟩, _, rfl, keep (keep (keep (keep (keep rfl rfl) rfl) rfl) rfl) rfl⟩ ?_ ?_
      · rintro k L tm st ⟨⟨hk1, hk2⟩, tm1, rfl, rfl⟩ hst
        unfold tabB at hst
        refine cx_seq ?_
        refine cx_seq ?_
        refine cx_region ?_
        refine ox_y rfl (y_move_int rfl) ?_
        refine ox_y rfl (y_move_int rfl) ?_
        refine ox_y rfl (y_leq rfl rfl) ?_
        refine ox_nil ?_
        refine ex_then ?_
        by_cases hck : (k : Int) ≤ (i : Int)
        · rw [if_pos hck] at hst
          obtain rfl := Option.some.inj hst
          obtain ⟨q, rfl⟩ : ∃ q, k = q + 1 := ⟨k - 1, by omega⟩
          obtain ⟨p, rfl⟩ : ∃ p, i = p + 1 := ⟨i - 1, by omega⟩
          have hw2 : w64 (((p + 1 : Nat) : Int) - 1) = (p : Int) := by rw [w64_id (by omega) (by omega)]; omega
          have hw3 : w64 (((q + 1 : Nat) : Int) - 1) = (q : Int) := by rw [w64_id (by omega) (by omega)]; omega
          have hpl := tabP_len (i := p + 1) (k := q + 1) (by omega)
          refine cx_true (congrArg Value.bool (decide_eq_true hck)) ?_
          refine cx_skip ?_
          refine ex_then ?_
          refine cx_seq ?_
          refine cx_block ?_
          refine cx_seq ?_
          refine cx_region ?_
          refine ox_y rfl (y_move_slice rfl) ?_
          refine ox_y rfl (y_move_int rfl) ?_
          refine ox_y rfl (y_move_slice rfl) ?_
          refine ox_y rfl (y_move_int rfl) ?_
          refine ox_y rfl (y_sub rfl rfl) ?_
          rw [hw2]
          refine ox_y rfl (y_indexR (A := A) (k := p + 1) (c := c) sl_149 (by decide) (i := (p : Int)) (by omega) (by omega) (RdL.row 0 rfl) (by rw [tabO_len, hbs, Nat.mul_one]) rfl rfl) ?_
          refine ox_y rfl (y_loadR1 (A := A) (j := (p : Int).toNat * 1) (k := p + 1) (c := c) (v := .slice (some ⟨bs[p]'(by omega), 0, none⟩) (p + 1) (p + 1)) sc_66 (RdL.row 0 rfl) rfl (by rw [Int.toNat_natCast, Nat.mul_one, tabO_get (by omega)])) ?_
          refine ox_y rfl (y_move_int rfl) ?_
          refine ox_y rfl (y_sub rfl rfl) ?_
          rw [hw3]
          refine ox_y rfl (y_indexR (A := some ⟨bs[p]'(by omega), 0, none⟩) (k := p + 1) (c := p + 1) sl_66 (by decide) (i := (q : Int)) (by omega) (by omega) (RdL.row (1 + p) (tabI_at (A := A) (c := c) hbs (by omega))) (by rw [encL_len cI_len rfl, tabRow_len]) rfl rfl) ?_
          refine ox_y rfl (y_loadR1 (A := some ⟨bs[p]'(by omega), 0, none⟩) (j := (q : Int).toNat * 1) (k := p + 1) (c := p + 1) (v := .int .i64 ((tabRow p).getD q 0)) sc_3 (RdL.row (1 + p) (tabI_at (A := A) (c := c) hbs (by omega))) rfl (by rw [Int.toNat_natCast]; exact encL_get' cI_len (d := 0) 0 (by decide) (tabRow p) q (by rw [tabRow_len]; omega))) ?_
          refine ox_y rfl (y_indexR (A := some ⟨b, 0, none⟩) (k := p + 1 + 1) (c := p + 1 + 1) sl_66 (by decide) (i := ((q + 1 : Nat) : Int)) (by omega) (by omega) (RdL.row (p + 1 + 1) (tabX_at hbs)) (by rw [encL_len cI_len rfl, hpl]) rfl rfl) ?_
          refine ox_n rfl (y_storeR1 (p + 1 + 1) cI_len ((tabRow p).getD q 0) sz_3 (tabX_at hbs) (j := ((q + 1 : Nat) : Int)) (by omega) (by rw [hpl]; omega) rfl rfl rfl rfl) ?_
          refine ox_nil ?_
          rw [tabX_set hbs, Int.toNat_natCast]
          refine ex_then ?_
          refine cx_seq ?_
          refine cx_region ?_
          refine ox_y rfl (y_move_int rfl) ?_
          refine ox_y rfl (y_move_int rfl) ?_
          refine ox_y rfl (y_lss rfl rfl) ?_
          refine ox_nil ?_
          refine ex_then ?_
          have hsl : ((tabP (p + 1) (q + 1)).set (q + 1) ((tabRow p).getD q 0)).length = p + 1 + 1 := by rw [List.length_set, hpl]
          have hw4 : w64 (((q + 1 : Nat) : Int) + 1) = ((q + 1 + 1 : Nat) : Int) := by rw [w64_id (by omega) (by omega)]; rfl
          by_cases hlt : q + 1 < p + 1
          · have hsum : Value.int .i64 (w64 ((tabRow p).getD q 0 + (tabRow p).getD (q + 1) 0)) = Value.int .i64 ((tabRow (p + 1)).getD (q + 1) 0) := congrArg (Value.int .i64) (tabAdd (p := p) (q := q) (by omega) (by omega))
            refine cx_true (congrArg Value.bool (decide_eq_true (show ((q + 1 : Nat) : Int) < ((p + 1 : Nat) : Int) by omega))) ?_
            refine cx_draws 14 mixed (by kernel_rfl) (by kernel_rfl) ?_
            refine qx_y rfl (y_move_slice rfl) ?_
            refine qx_y rfl (y_move_int rfl) ?_
            refine qx_y rfl (y_indexR (A := some ⟨b, 0, none⟩) (k := p + 1 + 1) (c := p + 1 + 1) sl_66 (by decide) (i := ((q + 1 : Nat) : Int)) (by omega) (by omega) (RdL.row (p + 1 + 1) (tabX_at hbs)) (by rw [encL_len cI_len rfl, hsl]) rfl rfl) ?_
            refine qx_y rfl (y_loadR1 (A := some ⟨b, 0, none⟩) (j := ((q + 1 : Nat) : Int).toNat * 1) (k := p + 1 + 1) (c := p + 1 + 1) (v := .int .i64 ((tabRow p).getD q 0)) sc_3 (RdL.row (p + 1 + 1) (tabX_at hbs)) rfl (encL_get0 cI_len (by omega) (by rw [hsl]; omega) (by rw [tabP_get (by omega)]; rfl))) ?_
            refine qx_y rfl (y_move_slice rfl) ?_
            refine qx_y rfl (y_move_int rfl) ?_
            refine qx_y rfl (y_sub rfl rfl) ?_
            rw [hw2]
            refine qx_y rfl (y_indexR (A := A) (k := p + 1) (c := c) sl_149 (by decide) (i := (p : Int)) (by omega) (by omega) (RdL.row 0 rfl) (by rw [tabO_len, hbs, Nat.mul_one]) rfl rfl) ?_
            refine qx_y rfl (y_loadR1 (A := A) (j := (p : Int).toNat * 1) (k := p + 1) (c := c) (v := .slice (some ⟨bs[p]'(by omega), 0, none⟩) (p + 1) (p + 1)) sc_66 (RdL.row 0 rfl) rfl (by rw [Int.toNat_natCast, Nat.mul_one, tabO_get (by omega)])) ?_
            refine qx_y rfl (y_move_int rfl) ?_
            refine qx_y rfl (y_indexR (A := some ⟨bs[p]'(by omega), 0, none⟩) (k := p + 1) (c := p + 1) sl_66 (by decide) (i := ((q + 1 : Nat) : Int)) (by omega) (by omega) (RdL.row (1 + p) (tabI_at (A := A) (c := c) hbs (by omega))) (by rw [encL_len cI_len rfl, tabRow_len]) rfl rfl) ?_
            refine qx_y rfl (y_loadR1 (A := some ⟨bs[p]'(by omega), 0, none⟩) (j := ((q + 1 : Nat) : Int).toNat * 1) (k := p + 1) (c := p + 1) (v := .int .i64 ((tabRow p).getD (q + 1) 0)) sc_3 (RdL.row (1 + p) (tabI_at (A := A) (c := c) hbs (by omega))) rfl (by rw [Int.toNat_natCast]; exact encL_get' cI_len (d := 0) 0 (by decide) (tabRow p) (q + 1) (by rw [tabRow_len]; omega))) ?_
            refine qx_y rfl (y_add rfl rfl) ?_
            rw [hsum]
            refine qx_y rfl (y_indexR (A := some ⟨b, 0, none⟩) (k := p + 1 + 1) (c := p + 1 + 1) sl_66 (by decide) (i := ((q + 1 : Nat) : Int)) (by omega) (by omega) (RdL.row (p + 1 + 1) (tabX_at hbs)) (by rw [encL_len cI_len rfl, hsl]) rfl rfl) ?_
            refine qx_nil ?_
            refine ox_n rfl (y_storeR1 (p + 1 + 1) cI_len ((tabRow (p + 1)).getD (q + 1) 0) sz_3 (tabX_at hbs) (j := ((q + 1 : Nat) : Int)) (by omega) (by rw [hsl]; omega) rfl rfl rfl rfl) ?_
            refine ox_nil ?_
            rw [tabX_set hbs, Int.toNat_natCast, tabP_set (by omega) _ rfl]
            refine ex_block ?_
            refine ex_then ?_
            refine cx_region ?_
            refine ox_y rfl (y_move_int rfl) ?_
            refine ox_y rfl (y_add rfl rfl) ?_
            rw [hw4]
            refine ox_y rfl (y_assign_int rfl) ?_
            refine ox_nil ?_
            exact ex_next ⟨⟨by omega, by omega⟩, _, rfl, keep (keep (keep (keep (keep rfl rfl) rfl) rfl) rfl) rfl⟩
          · have hqp : q = p := by omega
            subst hqp
            refine cx_false (congrArg Value.bool (decide_eq_false (show ¬ ((q + 1 : Nat) : Int) < ((q + 1 : Nat) : Int) by omega))) ?_
            refine cx_skip ?_
            rw [tabP_set1 (by omega) _ (tabRow_last q).symm]
            refine ex_block ?_
            refine ex_then ?_
            refine cx_region ?_
            refine ox_y rfl (y_move_int rfl) ?_
            refine ox_y rfl (y_add rfl rfl) ?_
            rw [hw4]
            refine ox_y rfl (y_assign_int rfl) ?_
            refine ox_nil ?_
            exact ex_next ⟨⟨by omega, by omega⟩, _, rfl, keep (keep (keep (keep (keep rfl rfl) rfl) rfl) rfl) rfl⟩
        · rw [if_neg hck] at hst
          obtain rfl := Option.some.inj hst
          refine cx_false (congrArg Value.bool (decide_eq_false hck)) ?_
          refine cx_exit ?_
          refine ex_then_exit ?_
          exact ex_stop ⟨rfl, _, rfl, keep (keep (keep (keep (keep rfl rfl) rfl) rfl) rfl) rfl⟩
      · intro e L tm hJ
        obtain ⟨rfl, tm1, rfl, rfl⟩ := hJ
        refine ⟨(by intro hc; cases hc), ?_⟩
        rw [show ((i : Int)).toNat + 1 = i + 1 from rfl, tabP_full]
        refine ex_block_here ?_
        refine ex_then ?_
        refine cx_region ?_
        refine ox_y rfl (y_move_slice rfl) ?_
        refine ox_y rfl (y_move_slice rfl) ?_
        refine ox_buildSliceE 1 [.slice (some ⟨b, 0, none⟩) (i + 1) (i + 1)] _ mc_66_1 us_149 ze_66 by_66 (by decide) (by decide) rfl rfl rfl (fun bt => ?_)
        have hL2 : (rowR A c 66 1 i (tabO bs) :: (tabI bs ++ [rowR (some ⟨b, 0, none⟩) (i + 1) 3 1 (i + 1) (encL cI (tabRow i))])) ++ [rowR (some ⟨bt, 0, none⟩) 1 66 1 1 [.slice (some ⟨b, 0, none⟩) (i + 1) (i + 1)]] = rowR A c 66 1 i (tabO bs) :: (tabI (bs ++ [b]) ++ [rowR (some ⟨bt, 0, none⟩) 1 66 1 1 [.slice (some ⟨b, 0, none⟩) (i + 1) (i + 1)]]) := by rw [tabI_snoc, hbs]; rfl
        rw [hL2]
        have hbs' : (bs ++ [b]).length = i + 1 := by rw [List.length_append, hbs]; rfl
        refine ox_append 0 us_149 ze_66 by_66 (L := rowR A c 66 1 i (tabO bs) :: (tabI (bs ++ [b]) ++ [rowR (some ⟨bt, 0, none⟩) 1 66 1 1 [.slice (some ⟨b, 0, none⟩) (i + 1) (i + 1)]])) (k := i) (q := 1) (cs := tabO bs) (news := [.slice (some ⟨b, 0, none⟩) (i + 1) (i + 1)]) rfl rfl rfl (by decide) (RdL.row (i + 1 + 1) (tabX_at hbs')) rfl rfl (by omega) rfl (fun A' c' => ?_)
        refine ox_y rfl (y_assign_slice rfl) ?_
        refine ox_nil ?_
        refine ex_block ?_
        refine ex_then ?_
        refine cx_region ?_
        refine ox_y rfl (y_move_int rfl) ?_
        refine ox_y rfl (y_add rfl rfl) ?_
        rw [hw1]
        refine ox_y rfl (y_assign_int rfl) ?_
        refine ox_nil ?_
        refine ex_take (i + 2) ?_
        refine ex_next ⟨by omega, _, A', c', bs ++ [b], hbs', ?_, keep (keep (keep rfl rfl) rfl) rfl⟩
        have e1 : tabO bs ++ [.slice (some ⟨b, 0, none⟩) (i + 1) (i + 1)] = tabO (bs ++ [b]) := by rw [tabO_snoc, hbs]
        rw [List.set_cons_zero, e1, List.take_succ_cons, List.take_append_of_le_length (by rw [tabI_len, hbs']; omega), List.take_of_length_le (by rw [tabI_len, hbs']; omega)]
    · rw [if_neg hc] at hst
      obtain rfl := Option.some.inj hst
      refine cx_false (congrArg Value.bool (decide_eq_false hc)) ?_
      refine cx_exit ?_
      refine ex_then_exit ?_
      exact ex_stop ⟨rfl, _, A, c, bs, hbs, rfl, keep (keep (keep rfl rfl) rfl) rfl⟩
  · intro e L tm hJ
    obtain ⟨rfl, tm1, A, c, bs, hbs, rfl, rfl⟩ := hJ
    refine ⟨(by intro hc; cases hc), ?_⟩
    refine ex_block_here ?_
    refine ex_then ?_
    refine cx_seq ?_
    refine cx_region ?_
    refine ox_y rfl (y_move_slice rfl) ?_
    refine ox_y rfl (y_assign_slice rfl) ?_
    refine ox_nil ?_
    refine ex_then ?_
    refine cx_ret ?_
    exact ex_res1 (.inl rfl) rfl (resV_tmp (v := .slice A (N.toNat + 1) c) rfl) (fun W2 hW2 => ⟨(A, c, bs), hbs, rfl, hW2⟩)

/-! calx/calxref03.choose -/
set_option maxRecDepth 100000 in
theorem calxref03_choose_ok (p0_n : Int) (p1_k : Int) (res : Int) (h : calxref03_choose p0_n p1_k = some res) (W : World) :
    Calls Try.prog 81 [.int .i64 p0_n, .int .i64 p1_k].toArray W fun e W2 => e = .returned (.int .i64 res) ∧ Ext W W2 [] := by
  unfold calxref03_choose at h
  refine calls_enter (m := 16) Try.func81 rfl rfl (Nat.le_of_ble_eq_true rfl) ?_
  refine cx_seq ?_
  refine cx_region ?_
  refine ox_y rfl (y_assign_int rfl) ?_
  refine ox_nil ?_
  refine ex_then ?_
  refine cx_seq ?_
  refine cx_seq ?_
  refine cx_region ?_
  refine ox_y rfl (y_move_int rfl) ?_
  refine ox_y rfl (y_move_int rfl) ?_
  refine ox_y rfl (y_gtr rfl rfl) ?_
  refine ox_nil ?_
  refine ex_then ?_
  by_cases hc : p0_n < p1_k
  · rw [if_pos hc] at h
    obtain rfl := Option.some.inj h
    refine cx_true (congrArg Value.bool (decide_eq_true hc)) ?_
    refine cx_seq ?_
    refine cx_region ?_
    refine ox_y rfl (y_assign_int rfl) ?_
    refine ox_nil ?_
    refine ex_then ?_
    refine cx_ret ?_
    refine ex_then_ret ?_
    exact ex_res1 (.inl rfl) rfl (resV_tmp (v := .int .i64 0) rfl) (fun W2 hW2 => ⟨rfl, hW2.none⟩)
  · rw [if_neg hc] at h
    by_cases hk : 0 ≤ p1_k ∧ p0_n ≤ 50
    · rw [if_pos hk] at h
      obtain rfl := Option.some.inj h
      refine cx_false (congrArg Value.bool (decide_eq_false hc)) ?_
      refine cx_skip ?_
      refine ex_then ?_
      refine cx_seq ?_
      refine cx_region ?_
      refine ox_y rfl (y_move_int rfl) ?_
      refine ox_call (α := Option Addr × Nat × List Nat) [.int .i64 p0_n] (fun x => x.2.2.length = p0_n.toNat + 1) (fun x => .slice x.1 (p0_n.toNat + 1) x.2.1) (fun x => rowR x.1 x.2.1 66 1 (p0_n.toNat + 1) (tabO x.2.2) :: tabI x.2.2) rfl go_121 rfl (fun W2 hW2 => calxref03_table_ok p0_n (by omega) W2) ?_
      rintro ⟨A, c, bs⟩ hbs
      have hbs' : bs.length = p0_n.toNat + 1 := hbs
      refine ox_y rfl (y_move_int rfl) ?_
      refine ox_y rfl (y_indexR (A := A) (k := p0_n.toNat + 1) (c := c) sl_149 (by decide) (i := p0_n) (by omega) (by omega) (RdL.row 0 rfl) (by rw [tabO_len, hbs', Nat.mul_one]) rfl rfl) ?_
      refine ox_y rfl (y_loadR1 (A := A) (j := p0_n.toNat * 1) (k := p0_n.toNat + 1) (c := c) (v := .slice (some ⟨bs[p0_n.toNat]'(by omega), 0, none⟩) (p0_n.toNat + 1) (p0_n.toNat + 1)) sc_66 (RdL.row 0 rfl) rfl (by rw [Nat.mul_one, tabO_get (by omega)])) ?_
      refine ox_y rfl (y_move_int rfl) ?_
      have hI : ([] ++ (rowR A c 66 1 (p0_n.toNat + 1) (tabO bs) :: tabI bs))[p0_n.toNat + 1]? = some (rowR (some ⟨bs[p0_n.toNat]'(by omega), 0, none⟩) (p0_n.toNat + 1) 3 1 (p0_n.toNat + 1) (encL cI (tabRow p0_n.toNat))) := by
        rw [List.nil_append, List.getElem?_cons_succ, tabI_get (by omega)]
      refine ox_y rfl (y_indexR (A := some ⟨bs[p0_n.toNat]'(by omega), 0, none⟩) (k := p0_n.toNat + 1) (c := p0_n.toNat + 1) sl_66 (by decide) (i := p1_k) (by omega) (by omega) (RdL.row (p0_n.toNat + 1) hI) (by rw [encL_len cI_len rfl, tabRow_len]) rfl rfl) ?_
      refine ox_y rfl (y_loadR1 (A := some ⟨bs[p0_n.toNat]'(by omega), 0, none⟩) (j := p1_k.toNat * 1) (k := p0_n.toNat + 1) (c := p0_n.toNat + 1) (v := .int .i64 ((tabRow p0_n.toNat).getD p1_k.toNat 0)) sc_3 (RdL.row (p0_n.toNat + 1) hI) rfl (encL_get' cI_len (d := 0) 0 (by decide) (tabRow p0_n.toNat) p1_k.toNat (by rw [tabRow_len]; omega))) ?_
      refine ox_y rfl (y_assign_int rfl) ?_
      refine ox_nil ?_
      refine ex_then ?_
      refine cx_ret ?_
      exact ex_res1 (.inl rfl) rfl (resV_tmp (v := .int .i64 ((tabRow p0_n.toNat).getD p1_k.toNat 0)) rfl) (fun W2 hW2 => ⟨rfl, hW2.none⟩)
    · rw [if_neg hk] at h; cases h

end Go.Proofs.Ytepfgdfahinpkaa
