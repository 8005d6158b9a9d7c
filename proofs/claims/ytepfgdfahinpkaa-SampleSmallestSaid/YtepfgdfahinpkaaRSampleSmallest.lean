/- The statement 'SampleSmallestSaid': whatever the input, the law returns true, and the input reads as it did. No condition. -/
import Derived.Test.YtepfgdfahinpkaaRows
import Derived.Test.YtepfgdfahinpkaaNj
import Derived.Test.YtepfgdfahinpkaaGt
import Derived.Test.YtepfgdfahinpkaaC22
namespace Go.Proofs.Ytepfgdfahinpkaa.sampleSmallest
open Go.ChangeShapes Go.WideShapes Go.ChangeAt Go.RowKit
set_option linter.unusedVariables false

theorem own : ownKnob Try.prog.godebug = none := by kernel_rfl
theorem laidOut : laidOutB Try.prog = true := by kernel_rfl
theorem fl23 : flatB Try.prog 8 23 [.i .i64, .i .i64] = true := by kernel_rfl
theorem ag23 : isAggB Try.prog 23 = true := by kernel_rfl
theorem cl23 : Try.prog.cellsOf 23 = 2 := by kernel_rfl
set_option maxRecDepth 100000 in
theorem lifted (os : Os) (started : os.Started) (H : Type) (enc : TypeId × Value → H) :
    ReturnsInHanded {} Try.checked os 3 .any (Rows.sampleSmallestSpec.pre6 enc Try.prog Try.f3 Rows.sampleSmallestRow.domain false) (Rows.sampleSmallestSpec.post enc Try.prog Try.f3 false true false false) := by
  refine returnsInHanded_of_change (C := Try.checked) own started (by kernel_rfl) Try.func3
    (ChangeSpec.witness6 (enc := enc) (C := Try.checked) false ⟨#[], #[.int .i64 0, .int .i64 0, .int .i64 0, .agg #[.int .i64 0, .int .i64 0], .agg #[.int .i64 0, .int .i64 0]], []⟩ 8 (by kernel_rfl) (by kernel_rfl) (by kernel_rfl) (by kernel_rfl)) ?_
  intro W base args ds gs before hval0 hW hcnd _
  have hval : ∀ (j : Nat) t v, Try.f3.params[j]? = some t → args[j]? = some v → Value.okWide Try.prog W .any base t v := hval0
  have hW' := hW
  obtain ⟨p, q, hA0, hV, rfl, hfz, hnd⟩ := hW
  have hA : DataW.TrodAll enc Try.prog W 0 (fun _ => true) true Try.f3.params.toList args.toList ds p := hA0
  rw [Try.params3] at hA hval
  obtain ⟨v0, vs0, d0, ds0, p0, q0, hargs, rfl, rfl, h0, r0⟩ := trodAll_cons hA
  obtain ⟨v1, vs1, d1, ds1, p1, q1, rfl, rfl, rfl, h1, r1⟩ := trodAll_cons r0
  obtain ⟨v2, vs2, d2, ds2, p2, q2, rfl, rfl, rfl, h2, r2⟩ := trodAll_cons r1
  obtain ⟨v3, vs3, d3, ds3, p3, q3, rfl, rfl, rfl, h3, r3⟩ := trodAll_cons r2
  obtain ⟨v4, vs4, d4, ds4, p4, q4, rfl, rfl, rfl, h4, r4⟩ := trodAll_cons r3
  obtain ⟨rfl, rfl, rfl⟩ := trodAll_nil r4
  obtain rfl : args = #[v0, v1, v2, v3, v4] := by cases args; simp_all
  obtain ⟨rfl, rfl⟩ := trodVars_none hV
  have k0 := h0
  have lt0 : ∀ x ∈ p0, x.block < W.heap.size := by obtain ⟨m, hm⟩ := k0; exact DataW.trod_lt m _ _ _ hm
  have k1 := h1
  have lt1 : ∀ x ∈ p1, x.block < W.heap.size := by obtain ⟨m, hm⟩ := k1; exact DataW.trod_lt m _ _ _ hm
  have k2 := h2
  have lt2 : ∀ x ∈ p2, x.block < W.heap.size := by obtain ⟨m, hm⟩ := k2; exact DataW.trod_lt m _ _ _ hm
  have k3 := h3
  have lt3 : ∀ x ∈ p3, x.block < W.heap.size := by obtain ⟨m, hm⟩ := k3; exact DataW.trod_lt m _ _ _ hm
  have k4 := h4
  have lt4 : ∀ x ∈ p4, x.block < W.heap.size := by obtain ⟨m, hm⟩ := k4; exact DataW.trod_lt m _ _ _ hm
  obtain ⟨a0, rfl, rfl, rfl, w0⟩ := open_int Try.underlying3 (hval 0 3 v0 rfl rfl) h0
  obtain ⟨a1, rfl, rfl, rfl, w1⟩ := open_int Try.underlying3 (hval 1 3 v1 rfl rfl) h1
  obtain ⟨a2, rfl, rfl, rfl, w2⟩ := open_int Try.underlying3 (hval 2 3 v2 rfl rfl) h2
  obtain ⟨ws3, rfl, hws3⟩ := open_flat _ fl23 ag23 cl23 (hval 3 23 v3 rfl rfl) h3
  obtain ⟨_, _, rfl, hx3_0, hws3_0⟩ := hws3.inv
  obtain ⟨x3_0, rfl, w3_0⟩ := okN_i hx3_0
  obtain ⟨_, _, rfl, hx3_1, hws3_1⟩ := hws3_0.inv
  obtain ⟨x3_1, rfl, w3_1⟩ := okN_i hx3_1
  obtain rfl := hws3_1.inv0
  obtain ⟨ws4, rfl, hws4⟩ := open_flat _ fl23 ag23 cl23 (hval 4 23 v4 rfl rfl) h4
  obtain ⟨_, _, rfl, hx4_0, hws4_0⟩ := hws4.inv
  obtain ⟨x4_0, rfl, w4_0⟩ := okN_i hx4_0
  obtain ⟨_, _, rfl, hx4_1, hws4_1⟩ := hws4_0.inv
  obtain ⟨x4_1, rfl, w4_1⟩ := okN_i hx4_1
  obtain rfl := hws4_1.inv0
  clear hA0 hval0
  refine (calxlaw03_SampleSmallest_ok a0 a1 a2 (TRatio.mk x3_0 x3_1) (TRatio.mk x4_0 x4_1) true (SampleSmallest_true a0 a1 a2 (TRatio.mk x3_0 x3_1) (TRatio.mk x4_0 x4_1) (rg_i64 w0) (rg_i64 w1) (rg_i64 w2) ⟨(rg_i64 w3_0), (rg_i64 w3_1)⟩ ⟨(rg_i64 w4_0), (rg_i64 w4_1)⟩) W ).mono fun e W' ⟨he, hg⟩ => ?_
  subst he
  have bel := hg.below
  exact ⟨_, rfl, _, _, _, [], _, [], hW', trodAll_mk1 (shut_bool Try.underlying4 _), (trodAll_cons_mk (Below.trod laidOut (by kernel_rfl) (of_decide_eq_true (by kernel_rfl)) k0 bel lt0) (trodAll_cons_mk (Below.trod laidOut (by kernel_rfl) (of_decide_eq_true (by kernel_rfl)) k1 bel lt1) (trodAll_cons_mk (Below.trod laidOut (by kernel_rfl) (of_decide_eq_true (by kernel_rfl)) k2 bel lt2) (trodAll_cons_mk (Below.trod laidOut (by kernel_rfl) (of_decide_eq_true (by kernel_rfl)) k3 bel lt3) (trodAll_cons_mk (Below.trod laidOut (by kernel_rfl) (of_decide_eq_true (by kernel_rfl)) k4 bel lt4) trodAll_mk0))))), rfl, bel.frame _, fun h => by cases h⟩

theorem over : Rows.sampleSmallestRow.holds Try.pinned (OpenSpec.ofChange Rows.sampleSmallestSpec) :=
  OpenClaim.holds_of_wide 3 Try.f3 rfl rfl rfl rfl rfl rfl rfl ⟨rfl, rfl, rfl, rfl, rfl⟩ rfl rfl rfl rfl rfl (by kernel_rfl) Try.func3 (by kernel_rfl)
    (of_decide_eq_true (by kernel_rfl)) (by unfold Func.isWrapper; first | (rw [if_pos (by decide +kernel)]; kernel_rfl) | (rw [if_neg (by decide +kernel)]; exact ⟨rfl, rfl⟩))
    (fun os started H enc _ => lifted os started H enc)
end Go.Proofs.Ytepfgdfahinpkaa.sampleSmallest
namespace Go.Proofs.Ytepfgdfahinpkaa
/-- The statement. -/
theorem SampleSmallest_holds : Rows.SampleSmallestSaid := sampleSmallest.over
#print axioms SampleSmallest_holds
end Go.Proofs.Ytepfgdfahinpkaa
