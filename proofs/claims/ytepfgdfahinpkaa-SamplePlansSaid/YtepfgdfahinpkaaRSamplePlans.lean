/- The statement 'SamplePlansSaid': whatever the input, the law returns true, and the input reads as it did. No condition. -/
import Derived.Test.YtepfgdfahinpkaaRows
import Derived.Test.YtepfgdfahinpkaaNk
import Derived.Test.YtepfgdfahinpkaaGt
import Derived.Test.YtepfgdfahinpkaaC36
namespace Go.Proofs.Ytepfgdfahinpkaa.samplePlans
open Go.ChangeShapes Go.WideShapes Go.ChangeAt Go.RowKit
set_option linter.unusedVariables false

theorem own : ownKnob Try.prog.godebug = none := by kernel_rfl
theorem laidOut : laidOutB Try.prog = true := by kernel_rfl
theorem fl26 : flatB Try.prog 8 26 [.i .i64, .i .i64] = true := by kernel_rfl
theorem ag26 : isAggB Try.prog 26 = true := by kernel_rfl
theorem cl26 : Try.prog.cellsOf 26 = 2 := by kernel_rfl
theorem fl97 : flatB Try.prog 8 97 [.i .i64, .i .i64, .i .i64, .i .i64, .i .i64] = true := by kernel_rfl
theorem ag97 : isAggB Try.prog 97 = true := by kernel_rfl
theorem cl97 : Try.prog.cellsOf 97 = 5 := by kernel_rfl
set_option maxRecDepth 100000 in
theorem lifted (os : Os) (started : os.Started) (H : Type) (enc : TypeId × Value → H) :
    ReturnsInHanded {} Try.checked os 19 .any (Rows.samplePlansSpec.pre6 enc Try.prog Try.f19 Rows.samplePlansRow.domain false) (Rows.samplePlansSpec.post enc Try.prog Try.f19 false true false false) := by
  refine returnsInHanded_of_change (C := Try.checked) own started (by kernel_rfl) Try.func19
    (ChangeSpec.witness6 (enc := enc) (C := Try.checked) false ⟨#[], #[.int .i64 0, .int .i64 0, .agg #[.int .i64 0, .int .i64 0], .agg #[.int .i64 0, .int .i64 0, .int .i64 0, .int .i64 0, .int .i64 0]], []⟩ 8 (by kernel_rfl) (by kernel_rfl) (by kernel_rfl) (by kernel_rfl)) ?_
  intro W base args ds gs before hval0 hW hcnd _
  have hval : ∀ (j : Nat) t v, Try.f19.params[j]? = some t → args[j]? = some v → Value.okWide Try.prog W .any base t v := hval0
  have hW' := hW
  obtain ⟨p, q, hA0, hV, rfl, hfz, hnd⟩ := hW
  have hA : DataW.TrodAll enc Try.prog W 0 (fun _ => true) true Try.f19.params.toList args.toList ds p := hA0
  rw [Try.params19] at hA hval
  obtain ⟨v0, vs0, d0, ds0, p0, q0, hargs, rfl, rfl, h0, r0⟩ := trodAll_cons hA
  obtain ⟨v1, vs1, d1, ds1, p1, q1, rfl, rfl, rfl, h1, r1⟩ := trodAll_cons r0
  obtain ⟨v2, vs2, d2, ds2, p2, q2, rfl, rfl, rfl, h2, r2⟩ := trodAll_cons r1
  obtain ⟨v3, vs3, d3, ds3, p3, q3, rfl, rfl, rfl, h3, r3⟩ := trodAll_cons r2
  obtain ⟨rfl, rfl, rfl⟩ := trodAll_nil r3
  obtain rfl : args = #[v0, v1, v2, v3] := by cases args; simp_all
  obtain ⟨rfl, rfl⟩ := trodVars_none hV
  have k0 := h0
  have lt0 : ∀ x ∈ p0, x.block < W.heap.size := by obtain ⟨m, hm⟩ := k0; exact DataW.trod_lt m _ _ _ hm
  have k1 := h1
  have lt1 : ∀ x ∈ p1, x.block < W.heap.size := by obtain ⟨m, hm⟩ := k1; exact DataW.trod_lt m _ _ _ hm
  have k2 := h2
  have lt2 : ∀ x ∈ p2, x.block < W.heap.size := by obtain ⟨m, hm⟩ := k2; exact DataW.trod_lt m _ _ _ hm
  have k3 := h3
  have lt3 : ∀ x ∈ p3, x.block < W.heap.size := by obtain ⟨m, hm⟩ := k3; exact DataW.trod_lt m _ _ _ hm
  obtain ⟨a0, rfl, rfl, rfl, w0⟩ := open_int Try.underlying3 (hval 0 3 v0 rfl rfl) h0
  obtain ⟨a1, rfl, rfl, rfl, w1⟩ := open_int Try.underlying3 (hval 1 3 v1 rfl rfl) h1
  obtain ⟨ws2, rfl, hws2⟩ := open_flat _ fl26 ag26 cl26 (hval 2 26 v2 rfl rfl) h2
  obtain ⟨_, _, rfl, hx2_0, hws2_0⟩ := hws2.inv
  obtain ⟨x2_0, rfl, w2_0⟩ := okN_i hx2_0
  obtain ⟨_, _, rfl, hx2_1, hws2_1⟩ := hws2_0.inv
  obtain ⟨x2_1, rfl, w2_1⟩ := okN_i hx2_1
  obtain rfl := hws2_1.inv0
  obtain ⟨ws3, rfl, hws3⟩ := open_flat _ fl97 ag97 cl97 (hval 3 97 v3 rfl rfl) h3
  obtain ⟨_, _, rfl, hx3_0, hws3_0⟩ := hws3.inv
  obtain ⟨x3_0, rfl, w3_0⟩ := okN_i hx3_0
  obtain ⟨_, _, rfl, hx3_1, hws3_1⟩ := hws3_0.inv
  obtain ⟨x3_1, rfl, w3_1⟩ := okN_i hx3_1
  obtain ⟨_, _, rfl, hx3_2, hws3_2⟩ := hws3_1.inv
  obtain ⟨x3_2, rfl, w3_2⟩ := okN_i hx3_2
  obtain ⟨_, _, rfl, hx3_3, hws3_3⟩ := hws3_2.inv
  obtain ⟨x3_3, rfl, w3_3⟩ := okN_i hx3_3
  obtain ⟨_, _, rfl, hx3_4, hws3_4⟩ := hws3_3.inv
  obtain ⟨x3_4, rfl, w3_4⟩ := okN_i hx3_4
  obtain rfl := hws3_4.inv0
  clear hA0 hval0
  refine (calxlaw03_SamplePlans_ok a0 a1 (TTrial.mk x2_0 x2_1) (TDouble.mk x3_0 x3_1 x3_2 x3_3 x3_4) true (SamplePlans_true a0 a1 (TTrial.mk x2_0 x2_1) (TDouble.mk x3_0 x3_1 x3_2 x3_3 x3_4) (rg_i64 w0) (rg_i64 w1) ⟨(rg_i64 w2_0), (rg_i64 w2_1)⟩ ⟨(rg_i64 w3_0), (rg_i64 w3_1), (rg_i64 w3_2), (rg_i64 w3_3), (rg_i64 w3_4)⟩) W ).mono fun e W' ⟨he, hg⟩ => ?_
  subst he
  have bel := hg.below
  exact ⟨_, rfl, _, _, _, [], _, [], hW', trodAll_mk1 (shut_bool Try.underlying4 _), (trodAll_cons_mk (Below.trod laidOut (by kernel_rfl) (of_decide_eq_true (by kernel_rfl)) k0 bel lt0) (trodAll_cons_mk (Below.trod laidOut (by kernel_rfl) (of_decide_eq_true (by kernel_rfl)) k1 bel lt1) (trodAll_cons_mk (Below.trod laidOut (by kernel_rfl) (of_decide_eq_true (by kernel_rfl)) k2 bel lt2) (trodAll_cons_mk (Below.trod laidOut (by kernel_rfl) (of_decide_eq_true (by kernel_rfl)) k3 bel lt3) trodAll_mk0)))), rfl, bel.frame _, fun h => by cases h⟩

theorem over : Rows.samplePlansRow.holds Try.pinned (OpenSpec.ofChange Rows.samplePlansSpec) :=
  OpenClaim.holds_of_wide 19 Try.f19 rfl rfl rfl rfl rfl rfl rfl ⟨rfl, rfl, rfl, rfl, rfl⟩ rfl rfl rfl rfl rfl (by kernel_rfl) Try.func19 (by kernel_rfl)
    (of_decide_eq_true (by kernel_rfl)) (by unfold Func.isWrapper; first | (rw [if_pos (by decide +kernel)]; kernel_rfl) | (rw [if_neg (by decide +kernel)]; exact ⟨rfl, rfl⟩))
    (fun os started H enc _ => lifted os started H enc)
end Go.Proofs.Ytepfgdfahinpkaa.samplePlans
namespace Go.Proofs.Ytepfgdfahinpkaa
/-- The statement. -/
theorem SamplePlans_holds : Rows.SamplePlansSaid := samplePlans.over
#print axioms SamplePlans_holds
end Go.Proofs.Ytepfgdfahinpkaa
