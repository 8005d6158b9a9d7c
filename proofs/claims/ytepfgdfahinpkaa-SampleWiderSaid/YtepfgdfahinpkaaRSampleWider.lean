/- The statement 'SampleWiderSaid': whatever the input, the law returns true, and the input reads as it did. No condition. -/
import Derived.Test.YtepfgdfahinpkaaRows
import Derived.Test.YtepfgdfahinpkaaNl
import Derived.Test.YtepfgdfahinpkaaGt
import Derived.Test.YtepfgdfahinpkaaC32
namespace Go.Proofs.Ytepfgdfahinpkaa.sampleWider
open Go.ChangeShapes Go.WideShapes Go.ChangeAt Go.RowKit
set_option linter.unusedVariables false

theorem own : ownKnob Try.prog.godebug = none := by kernel_rfl
theorem laidOut : laidOutB Try.prog = true := by kernel_rfl
theorem fl52 : flatB Try.prog 8 52 [.i .i64, .i .i64, .i .i64, .i .i64, .i .i64, .i .i64, .i .i64, .i .i64, .i .i64, .i .i64] = true := by kernel_rfl
theorem ag52 : isAggB Try.prog 52 = true := by kernel_rfl
theorem cl52 : Try.prog.cellsOf 52 = 10 := by kernel_rfl
theorem fl23 : flatB Try.prog 8 23 [.i .i64, .i .i64] = true := by kernel_rfl
theorem ag23 : isAggB Try.prog 23 = true := by kernel_rfl
theorem cl23 : Try.prog.cellsOf 23 = 2 := by kernel_rfl
set_option maxRecDepth 100000 in
theorem lifted (os : Os) (started : os.Started) (H : Type) (enc : TypeId × Value → H) :
    ReturnsInHanded {} Try.checked os 11 .any (Rows.sampleWiderSpec.pre6 enc Try.prog Try.f11 Rows.sampleWiderRow.domain false) (Rows.sampleWiderSpec.post enc Try.prog Try.f11 false true false false) := by
  refine returnsInHanded_of_change (C := Try.checked) own started (by kernel_rfl) Try.func11
    (ChangeSpec.witness6 (enc := enc) (C := Try.checked) false ⟨#[], #[.agg #[.int .i64 0, .int .i64 0, .int .i64 0, .int .i64 0, .int .i64 0, .int .i64 0, .int .i64 0, .int .i64 0, .int .i64 0, .int .i64 0], .int .i64 0, .agg #[.int .i64 0, .int .i64 0], .agg #[.int .i64 0, .int .i64 0]], []⟩ 8 (by kernel_rfl) (by kernel_rfl) (by kernel_rfl) (by kernel_rfl)) ?_
  intro W base args ds gs before hval0 hW hcnd _
  have hval : ∀ (j : Nat) t v, Try.f11.params[j]? = some t → args[j]? = some v → Value.okWide Try.prog W .any base t v := hval0
  have hW' := hW
  obtain ⟨p, q, hA0, hV, rfl, hfz, hnd⟩ := hW
  have hA : DataW.TrodAll enc Try.prog W 0 (fun _ => true) true Try.f11.params.toList args.toList ds p := hA0
  rw [Try.params11] at hA hval
  obtain ⟨v0, vs0, d0, ds0, p0, q0, hargs, rfl, rfl, h0, r0⟩ := trodAll_cons hA
  obtain ⟨v1, vs1, d1, ds1, p1, q1, rfl, rfl, rfl, h1, r1⟩ := trodAll_cons r0
  obtain ⟨v2, vs2, d2, ds2, p2, q2, rfl, rfl, rfl, h2, r2⟩ := trodAll_cons r1
  obtain ⟨v3, vs3, d3, ds3, p3, q3, rfl, rfl, rfl, h3, r3⟩ := trodAll_cons r2
  obtain ⟨rfl, rfl, rfl⟩ := trodAll_nil r3
  obtain rfl : args = #[v0, v1, v2, v3] := by cases args; simp_all
  obtain ⟨rfl, rfl⟩ := trodVars_none hV
  have k0 := h0
  have lt0 : ∀ x ∈ p0, x.block < W.heap.size := by obtain ⟨m, hm⟩ := k0; exact DataW.trod_lt m _ _ _ hm
  have k1 := h1
  have lt1 : ∀ x ∈ p1, x.block < W.heap.size := by obtain ⟨m, hm⟩ := k1; exact DataW.trod_lt m _ _ _ hm
  have k2 := h2
  have lt2 : ∀ x ∈ p2, x.block < W.heap.size := by obtain ⟨m, hm⟩ := k2; exact DataW.trod_lt m _ _ _ hm
  have k3 := h3
  have lt3 : ∀ x ∈ p3, x.block < W.heap.size := by obtain ⟨m, hm⟩ := k3; exact DataW.trod_lt m _ _ _ hm
  obtain ⟨ws0, rfl, hws0⟩ := open_flat _ fl52 ag52 cl52 (hval 0 52 v0 rfl rfl) h0
  obtain ⟨_, _, rfl, hx0_0, hws0_0⟩ := hws0.inv
  obtain ⟨x0_0, rfl, w0_0⟩ := okN_i hx0_0
  obtain ⟨_, _, rfl, hx0_1, hws0_1⟩ := hws0_0.inv
  obtain ⟨x0_1, rfl, w0_1⟩ := okN_i hx0_1
  obtain ⟨_, _, rfl, hx0_2, hws0_2⟩ := hws0_1.inv
  obtain ⟨x0_2, rfl, w0_2⟩ := okN_i hx0_2
  obtain ⟨_, _, rfl, hx0_3, hws0_3⟩ := hws0_2.inv
  obtain ⟨x0_3, rfl, w0_3⟩ := okN_i hx0_3
  obtain ⟨_, _, rfl, hx0_4, hws0_4⟩ := hws0_3.inv
  obtain ⟨x0_4, rfl, w0_4⟩ := okN_i hx0_4
  obtain ⟨_, _, rfl, hx0_5, hws0_5⟩ := hws0_4.inv
  obtain ⟨x0_5, rfl, w0_5⟩ := okN_i hx0_5
  obtain ⟨_, _, rfl, hx0_6, hws0_6⟩ := hws0_5.inv
  obtain ⟨x0_6, rfl, w0_6⟩ := okN_i hx0_6
  obtain ⟨_, _, rfl, hx0_7, hws0_7⟩ := hws0_6.inv
  obtain ⟨x0_7, rfl, w0_7⟩ := okN_i hx0_7
  obtain ⟨_, _, rfl, hx0_8, hws0_8⟩ := hws0_7.inv
  obtain ⟨x0_8, rfl, w0_8⟩ := okN_i hx0_8
  obtain ⟨_, _, rfl, hx0_9, hws0_9⟩ := hws0_8.inv
  obtain ⟨x0_9, rfl, w0_9⟩ := okN_i hx0_9
  obtain rfl := hws0_9.inv0
  obtain ⟨a1, rfl, rfl, rfl, w1⟩ := open_int Try.underlying3 (hval 1 3 v1 rfl rfl) h1
  obtain ⟨ws2, rfl, hws2⟩ := open_flat _ fl23 ag23 cl23 (hval 2 23 v2 rfl rfl) h2
  obtain ⟨_, _, rfl, hx2_0, hws2_0⟩ := hws2.inv
  obtain ⟨x2_0, rfl, w2_0⟩ := okN_i hx2_0
  obtain ⟨_, _, rfl, hx2_1, hws2_1⟩ := hws2_0.inv
  obtain ⟨x2_1, rfl, w2_1⟩ := okN_i hx2_1
  obtain rfl := hws2_1.inv0
  obtain ⟨ws3, rfl, hws3⟩ := open_flat _ fl23 ag23 cl23 (hval 3 23 v3 rfl rfl) h3
  obtain ⟨_, _, rfl, hx3_0, hws3_0⟩ := hws3.inv
  obtain ⟨x3_0, rfl, w3_0⟩ := okN_i hx3_0
  obtain ⟨_, _, rfl, hx3_1, hws3_1⟩ := hws3_0.inv
  obtain ⟨x3_1, rfl, w3_1⟩ := okN_i hx3_1
  obtain rfl := hws3_1.inv0
  clear hA0 hval0
  refine (calxlaw03_SampleWider_ok (TBatch.mk x0_0 (TKinds.mk x0_1 x0_2 x0_3) (TArr3_TSpan.mk (TSpan.mk x0_4 x0_5) (TSpan.mk x0_6 x0_7) (TSpan.mk x0_8 x0_9))) a1 (TRatio.mk x2_0 x2_1) (TRatio.mk x3_0 x3_1) true (SampleWider_true (TBatch.mk x0_0 (TKinds.mk x0_1 x0_2 x0_3) (TArr3_TSpan.mk (TSpan.mk x0_4 x0_5) (TSpan.mk x0_6 x0_7) (TSpan.mk x0_8 x0_9))) a1 (TRatio.mk x2_0 x2_1) (TRatio.mk x3_0 x3_1) ⟨(rg_i64 w0_0), (rg_i64 w0_1), (rg_i64 w0_2), (rg_i64 w0_3), (rg_i64 w0_4), (rg_i64 w0_5), (rg_i64 w0_6), (rg_i64 w0_7), (rg_i64 w0_8), (rg_i64 w0_9)⟩ (rg_i64 w1) ⟨(rg_i64 w2_0), (rg_i64 w2_1)⟩ ⟨(rg_i64 w3_0), (rg_i64 w3_1)⟩) W ).mono fun e W' ⟨he, hg⟩ => ?_
  subst he
  have bel := hg.below
  exact ⟨_, rfl, _, _, _, [], _, [], hW', trodAll_mk1 (shut_bool Try.underlying4 _), (trodAll_cons_mk (Below.trod laidOut (by kernel_rfl) (of_decide_eq_true (by kernel_rfl)) k0 bel lt0) (trodAll_cons_mk (Below.trod laidOut (by kernel_rfl) (of_decide_eq_true (by kernel_rfl)) k1 bel lt1) (trodAll_cons_mk (Below.trod laidOut (by kernel_rfl) (of_decide_eq_true (by kernel_rfl)) k2 bel lt2) (trodAll_cons_mk (Below.trod laidOut (by kernel_rfl) (of_decide_eq_true (by kernel_rfl)) k3 bel lt3) trodAll_mk0)))), rfl, bel.frame _, fun h => by cases h⟩

theorem over : Rows.sampleWiderRow.holds Try.pinned (OpenSpec.ofChange Rows.sampleWiderSpec) :=
  OpenClaim.holds_of_wide 11 Try.f11 rfl rfl rfl rfl rfl rfl rfl ⟨rfl, rfl, rfl, rfl, rfl⟩ rfl rfl rfl rfl rfl (by kernel_rfl) Try.func11 (by kernel_rfl)
    (of_decide_eq_true (by kernel_rfl)) (by unfold Func.isWrapper; first | (rw [if_pos (by decide +kernel)]; kernel_rfl) | (rw [if_neg (by decide +kernel)]; exact ⟨rfl, rfl⟩))
    (fun os started H enc _ => lifted os started H enc)
end Go.Proofs.Ytepfgdfahinpkaa.sampleWider
namespace Go.Proofs.Ytepfgdfahinpkaa
/-- The statement. -/
theorem SampleWider_holds : Rows.SampleWiderSaid := sampleWider.over
#print axioms SampleWider_holds
end Go.Proofs.Ytepfgdfahinpkaa
