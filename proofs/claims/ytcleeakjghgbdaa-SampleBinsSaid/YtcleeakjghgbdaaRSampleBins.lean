import Derived.Test.YtcleeakjghgbdaaRows
import Derived.Test.YtcleeakjghgbdaaLB
import Derived.Test.YtcleeakjghgbdaaGr
import Derived.Test.YtcleeakjghgbdaaC5
/- The statement 'SampleBinsSaid': whatever the input, the law returns true, and the input reads as it did. No condition. -/
namespace Go.Proofs.Ytcleeakjghgbdaa.sampleBins
open Go.ChangeShapes Go.WideShapes Go.ChangeAt Go.RowKit
set_option linter.unusedVariables false

theorem own : ownKnob Try.prog.godebug = none := by kernel_rfl
theorem laidOut : laidOutB Try.prog = true := by kernel_rfl
theorem fl28 : flatB Try.prog 8 28 [.i .i64, .i .i64, .i .i64, .i .i64, .i .i64, .i .i64, .i .i64, .i .i64, .i .i64, .i .i64] = true := by kernel_rfl
theorem ag28 : isAggB Try.prog 28 = true := by kernel_rfl
theorem cl28 : Try.prog.cellsOf 28 = 10 := by kernel_rfl
theorem conv_38 {W : World} {m : Nat} : ∀ cs, All2 (Lf.okN W (m + 1)) [.b, .i .i64, .i .i64, .i .i64] cs → ∃ x : TStep, TStep_cells x = cs ∧ TStep_rg x := by
  intro cs h
  obtain ⟨_, _, rfl, hx0, h0⟩ := h.inv
  obtain ⟨x0, rfl⟩ := okN_b hx0
  obtain ⟨_, _, rfl, hx1, h1⟩ := h0.inv
  obtain ⟨x1, rfl, w1⟩ := okN_i hx1
  obtain ⟨_, _, rfl, hx2, h2⟩ := h1.inv
  obtain ⟨x2, rfl, w2⟩ := okN_i hx2
  obtain ⟨_, _, rfl, hx3, h3⟩ := h2.inv
  obtain ⟨x3, rfl, w3⟩ := okN_i hx3
  obtain rfl := h3.inv0
  exact ⟨(TStep.mk x0 (TKinds.mk x1 x2 x3)), rfl, ⟨(rg_i64 w1), (rg_i64 w2), (rg_i64 w3)⟩⟩

theorem fl29 : flatB Try.prog 8 29 [.sl [.b, .i .i64, .i .i64, .i .i64]] = true := by kernel_rfl
set_option maxRecDepth 100000 in
theorem lifted (os : Os) (started : os.Started) (H : Type) (enc : TypeId × Value → H) :
    ReturnsInHanded {} Try.checked os 3 .any (Rows.sampleBinsSpec.pre6 enc Try.prog Try.f3 Rows.sampleBinsRow.domain false) (Rows.sampleBinsSpec.post enc Try.prog Try.f3 false true false false) := by
  refine returnsInHanded_of_change (C := Try.checked) own started (by kernel_rfl) Try.func3
    (ChangeSpec.witness6 (enc := enc) (C := Try.checked) false ⟨#[], #[.agg #[.int .i64 0, .int .i64 0, .int .i64 0, .int .i64 0, .int .i64 0, .int .i64 0, .int .i64 0, .int .i64 0, .int .i64 0, .int .i64 0], .slice none 0 0], []⟩ 8 (by kernel_rfl) (by kernel_rfl) (by kernel_rfl) (by kernel_rfl)) ?_
  intro W base args ds gs before hval0 hW hcnd _
  have hval : ∀ (j : Nat) t v, Try.f3.params[j]? = some t → args[j]? = some v → Value.okWide Try.prog W .any base t v := hval0
  have hW' := hW
  obtain ⟨p, q, hA0, hV, rfl, hfz, hnd⟩ := hW
  have hA : DataW.TrodAll enc Try.prog W 0 (fun _ => true) true Try.f3.params.toList args.toList ds p := hA0
  rw [Try.params3] at hA hval
  obtain ⟨v0, vs0, d0, ds0, p0, q0, hargs, rfl, rfl, h0, r0⟩ := trodAll_cons hA
  obtain ⟨v1, vs1, d1, ds1, p1, q1, rfl, rfl, rfl, h1, r1⟩ := trodAll_cons r0
  obtain ⟨rfl, rfl, rfl⟩ := trodAll_nil r1
  obtain rfl : args = #[v0, v1] := by cases args; simp_all
  obtain ⟨rfl, rfl⟩ := trodVars_none hV
  have k0 := h0
  have lt0 : ∀ x ∈ p0, x.block < W.heap.size := by obtain ⟨m, hm⟩ := k0; exact DataW.trod_lt m _ _ _ hm
  have k1 := h1
  have lt1 : ∀ x ∈ p1, x.block < W.heap.size := by obtain ⟨m, hm⟩ := k1; exact DataW.trod_lt m _ _ _ hm
  obtain ⟨ws0, rfl, hws0⟩ := open_flat _ fl28 ag28 cl28 (hval 0 28 v0 rfl rfl) h0
  obtain ⟨_, _, rfl, hx0_0, hws0_0⟩ := hws0.inv
  obtain ⟨x0_0, rfl, w0_0⟩ := okN_i hx0_0
  obtain ⟨_, _, rfl, hx0_1, hws0_1⟩ := hws0_0.inv
  obtain ⟨x0_1, rfl, w0_1⟩ := okN_i hx0_1
  obtain ⟨_, _, rfl, hx0_2, hws0_2⟩ := hws0_1.inv
  obtain ⟨x0_2, rfl, w0_2⟩ := okN_i hx0_2
  obtain ⟨_, _, rfl, hx0_3, hws0_3⟩ := hws0_2.inv
  obtain ⟨x0_3, rfl, w0_3⟩ := okN_i hx0_3
  obtain ⟨_, _, rfl, hx0_4, hws0_4⟩ := hws0_3.inv
  obtain ⟨x0_4, rfl, w0_4⟩ := okN_i hx0_4
  obtain ⟨_, _, rfl, hx0_5, hws0_5⟩ := hws0_4.inv
  obtain ⟨x0_5, rfl, w0_5⟩ := okN_i hx0_5
  obtain ⟨_, _, rfl, hx0_6, hws0_6⟩ := hws0_5.inv
  obtain ⟨x0_6, rfl, w0_6⟩ := okN_i hx0_6
  obtain ⟨_, _, rfl, hx0_7, hws0_7⟩ := hws0_6.inv
  obtain ⟨x0_7, rfl, w0_7⟩ := okN_i hx0_7
  obtain ⟨_, _, rfl, hx0_8, hws0_8⟩ := hws0_7.inv
  obtain ⟨x0_8, rfl, w0_8⟩ := okN_i hx0_8
  obtain ⟨_, _, rfl, hx0_9, hws0_9⟩ := hws0_8.inv
  obtain ⟨x0_9, rfl, w0_9⟩ := okN_i hx0_9
  obtain rfl := hws0_9.inv0
  obtain ⟨A1, n1, c1, rfl, css1, rfl, hm1, hr1, he1⟩ := open_sl ([.b, .i .i64, .i .i64, .i .i64]) Try.underlying29 fl29 (hval 1 29 v1 rfl rfl) h1
  obtain ⟨xs1, hl1, hf1, hg1⟩ := rows_with conv_38 css1 he1
  rw [hf1] at hr1
  clear hA0 hval0
  refine (calxlaw03_SampleBins_ok (TBatch.mk x0_0 (TKinds.mk x0_1 x0_2 x0_3) (TArr3_TSpan.mk (TSpan.mk x0_4 x0_5) (TSpan.mk x0_6 x0_7) (TSpan.mk x0_8 x0_9))) xs1 true (SampleBins_true (TBatch.mk x0_0 (TKinds.mk x0_1 x0_2 x0_3) (TArr3_TSpan.mk (TSpan.mk x0_4 x0_5) (TSpan.mk x0_6 x0_7) (TSpan.mk x0_8 x0_9))) xs1 ⟨(rg_i64 w0_0), (rg_i64 w0_1), (rg_i64 w0_2), (rg_i64 w0_3), (rg_i64 w0_4), (rg_i64 w0_5), (rg_i64 w0_6), (rg_i64 w0_7), (rg_i64 w0_8), (rg_i64 w0_9)⟩ ⟨by rw [← hl1]; exact hm1, hg1⟩) W A1 css1.length c1 hl1 hr1).mono fun e W' ⟨he, hg⟩ => ?_
  subst he
  have bel := hg.below
  exact ⟨_, rfl, _, _, _, [], _, [], hW', trodAll_mk1 (shut_bool Try.underlying4 _), (trodAll_cons_mk (Below.trod laidOut (by kernel_rfl) (of_decide_eq_true (by kernel_rfl)) k0 bel lt0) (trodAll_cons_mk (Below.trod laidOut (by kernel_rfl) (of_decide_eq_true (by kernel_rfl)) k1 bel lt1) trodAll_mk0)), rfl, bel.frame _, fun h => by cases h⟩

theorem over : Rows.sampleBinsRow.holds Try.pinned (OpenSpec.ofChange Rows.sampleBinsSpec) :=
  OpenClaim.holds_of_wide 3 Try.f3 rfl rfl rfl rfl rfl rfl rfl ⟨rfl, rfl, rfl, rfl, rfl⟩ rfl rfl rfl rfl rfl (by kernel_rfl) Try.func3 (by kernel_rfl)
    (of_decide_eq_true (by kernel_rfl)) (by unfold Func.isWrapper; first | (rw [if_pos (by decide +kernel)]; kernel_rfl) | (rw [if_neg (by decide +kernel)]; exact ⟨rfl, rfl⟩))
    (fun os started H enc _ => lifted os started H enc)
end Go.Proofs.Ytcleeakjghgbdaa.sampleBins
namespace Go.Proofs.Ytcleeakjghgbdaa
/-- The statement. -/
theorem SampleBins_holds : Rows.SampleBinsSaid := sampleBins.over
#print axioms SampleBins_holds
end Go.Proofs.Ytcleeakjghgbdaa
