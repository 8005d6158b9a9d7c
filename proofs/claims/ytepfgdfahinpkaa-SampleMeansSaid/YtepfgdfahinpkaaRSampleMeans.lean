/- The statement 'SampleMeansSaid': whatever the input, the law returns true, and the input reads as it did. No condition. -/
import Derived.Test.YtepfgdfahinpkaaRows
import Derived.Test.YtepfgdfahinpkaaNb
import Derived.Test.YtepfgdfahinpkaaGt
import Derived.Test.YtepfgdfahinpkaaC14
namespace Go.Proofs.Ytepfgdfahinpkaa.sampleMeans
open Go.ChangeShapes Go.WideShapes Go.ChangeAt Go.RowKit
set_option linter.unusedVariables false

theorem own : ownKnob Try.prog.godebug = none := by kernel_rfl
theorem laidOut : laidOutB Try.prog = true := by kernel_rfl
theorem fl52 : flatB Try.prog 8 52 [.i .i64, .i .i64, .i .i64, .i .i64, .i .i64, .i .i64, .i .i64, .i .i64, .i .i64, .i .i64] = true := by kernel_rfl
theorem ag52 : isAggB Try.prog 52 = true := by kernel_rfl
theorem cl52 : Try.prog.cellsOf 52 = 10 := by kernel_rfl
set_option maxRecDepth 100000 in
theorem lifted (os : Os) (started : os.Started) (H : Type) (enc : TypeId × Value → H) :
    ReturnsInHanded {} Try.checked os 8 .any (Rows.sampleMeansSpec.pre6 enc Try.prog Try.f8 Rows.sampleMeansRow.domain false) (Rows.sampleMeansSpec.post enc Try.prog Try.f8 false true false false) := by
  refine returnsInHanded_of_change (C := Try.checked) own started (by kernel_rfl) Try.func8
    (ChangeSpec.witness6 (enc := enc) (C := Try.checked) false ⟨#[], #[.agg #[.int .i64 0, .int .i64 0, .int .i64 0, .int .i64 0, .int .i64 0, .int .i64 0, .int .i64 0, .int .i64 0, .int .i64 0, .int .i64 0]], []⟩ 8 (by kernel_rfl) (by kernel_rfl) (by kernel_rfl) (by kernel_rfl)) ?_
  intro W base args ds gs before hval0 hW hcnd _
  have hval : ∀ (j : Nat) t v, Try.f8.params[j]? = some t → args[j]? = some v → Value.okWide Try.prog W .any base t v := hval0
  have hW' := hW
  obtain ⟨p, q, hA0, hV, rfl, hfz, hnd⟩ := hW
  have hA : DataW.TrodAll enc Try.prog W 0 (fun _ => true) true Try.f8.params.toList args.toList ds p := hA0
  rw [Try.params8] at hA hval
  obtain ⟨v0, vs0, d0, ds0, p0, q0, hargs, rfl, rfl, h0, r0⟩ := trodAll_cons hA
  obtain ⟨rfl, rfl, rfl⟩ := trodAll_nil r0
  obtain rfl : args = #[v0] := by cases args; simp_all
  obtain ⟨rfl, rfl⟩ := trodVars_none hV
  have k0 := h0
  have lt0 : ∀ x ∈ p0, x.block < W.heap.size := by obtain ⟨m, hm⟩ := k0; exact DataW.trod_lt m _ _ _ hm
  obtain ⟨ws0, rfl, hws0⟩ := open_flat _ fl52 ag52 cl52 (hval 0 52 v0 rfl rfl) h0
  obtain ⟨_, _, rfl, hx0_0, hws0_0⟩ := hws0.inv
  obtain ⟨x0_0, rfl, w0_0⟩ := okN_i hx0_0
  obtain ⟨_, _, rfl, hx0_1, hws0_1⟩ := hws0_0.inv
  obtain ⟨x0_1, rfl, w0_1⟩ := okN_i hx0_1
  obtain ⟨_, _, rfl, hx0_2, hws0_2⟩ := hws0_1.inv
  obtain ⟨x0_2, rfl, w0_2⟩ := okN_i hx0_2
  obtain ⟨_, _, rfl, hx0_3, hws0_3⟩ := hws0_2.inv
  obtain ⟨x0_3, rfl, w0_3⟩ := okN_i hx0_3
  obtain ⟨_, _, rfl, hx0_4, hws0_4⟩ := hws0_3.inv
  obtain ⟨x0_4, rfl, w0_4⟩ := okN_i hx0_4
  obtain ⟨_, _, rfl, hx0_5, hws0_5⟩ := hws0_4.inv
  obtain ⟨x0_5, rfl, w0_5⟩ := okN_i hx0_5
  obtain ⟨_, _, rfl, hx0_6, hws0_6⟩ := hws0_5.inv
  obtain ⟨x0_6, rfl, w0_6⟩ := okN_i hx0_6
  obtain ⟨_, _, rfl, hx0_7, hws0_7⟩ := hws0_6.inv
  obtain ⟨x0_7, rfl, w0_7⟩ := okN_i hx0_7
  obtain ⟨_, _, rfl, hx0_8, hws0_8⟩ := hws0_7.inv
  obtain ⟨x0_8, rfl, w0_8⟩ := okN_i hx0_8
  obtain ⟨_, _, rfl, hx0_9, hws0_9⟩ := hws0_8.inv
  obtain ⟨x0_9, rfl, w0_9⟩ := okN_i hx0_9
  obtain rfl := hws0_9.inv0
  clear hA0 hval0
  refine (calxlaw03_SampleMeans_ok (TBatch.mk x0_0 (TKinds.mk x0_1 x0_2 x0_3) (TArr3_TSpan.mk (TSpan.mk x0_4 x0_5) (TSpan.mk x0_6 x0_7) (TSpan.mk x0_8 x0_9))) true (SampleMeans_true (TBatch.mk x0_0 (TKinds.mk x0_1 x0_2 x0_3) (TArr3_TSpan.mk (TSpan.mk x0_4 x0_5) (TSpan.mk x0_6 x0_7) (TSpan.mk x0_8 x0_9))) ⟨(rg_i64 w0_0), (rg_i64 w0_1), (rg_i64 w0_2), (rg_i64 w0_3), (rg_i64 w0_4), (rg_i64 w0_5), (rg_i64 w0_6), (rg_i64 w0_7), (rg_i64 w0_8), (rg_i64 w0_9)⟩) W ).mono fun e W' ⟨he, hg⟩ => ?_
  subst he
  have bel := hg.below
  exact ⟨_, rfl, _, _, _, [], _, [], hW', trodAll_mk1 (shut_bool Try.underlying4 _), (trodAll_cons_mk (Below.trod laidOut (by kernel_rfl) (of_decide_eq_true (by kernel_rfl)) k0 bel lt0) trodAll_mk0), rfl, bel.frame _, fun h => by cases h⟩

theorem over : Rows.sampleMeansRow.holds Try.pinned (OpenSpec.ofChange Rows.sampleMeansSpec) :=
  OpenClaim.holds_of_wide 8 Try.f8 rfl rfl rfl rfl rfl rfl rfl ⟨rfl, rfl, rfl, rfl, rfl⟩ rfl rfl rfl rfl rfl (by kernel_rfl) Try.func8 (by kernel_rfl)
    (of_decide_eq_true (by kernel_rfl)) (by unfold Func.isWrapper; first | (rw [if_pos (by decide +kernel)]; kernel_rfl) | (rw [if_neg (by decide +kernel)]; exact ⟨rfl, rfl⟩))
    (fun os started H enc _ => lifted os started H enc)
end Go.Proofs.Ytepfgdfahinpkaa.sampleMeans
namespace Go.Proofs.Ytepfgdfahinpkaa
/-- The statement. -/
theorem SampleMeans_holds : Rows.SampleMeansSaid := sampleMeans.over
#print axioms SampleMeans_holds
end Go.Proofs.Ytepfgdfahinpkaa
