/- The statement 'FireDecidesSaid': whatever the input, the law returns true, and the input reads as it did. No condition. -/
import Derived.Test.YtndajeiecdmhnaaRows
import Derived.Test.YtndajeiecdmhnaaMg
import Derived.Test.YtndajeiecdmhnaaGt
import Derived.Test.YtndajeiecdmhnaaC20
namespace Go.Proofs.Ytndajeiecdmhnaa.fireDecides
open Go.ChangeShapes Go.WideShapes Go.ChangeAt Go.RowKit
set_option linter.unusedVariables false

theorem own : ownKnob Try.prog.godebug = none := by kernel_rfl
theorem laidOut : laidOutB Try.prog = true := by kernel_rfl
theorem fl24 : flatB Try.prog 8 24 [.i .i64, .i .i64, .i .i64, .i .i64, .sl [.i .i64, .i .i64, .i .i64, .i .i64, .i .i64]] = true := by kernel_rfl
theorem ag24 : isAggB Try.prog 24 = true := by kernel_rfl
theorem cl24 : Try.prog.cellsOf 24 = 5 := by kernel_rfl
theorem conv_34 {W : World} {m : Nat} : ∀ cs, All2 (Lf.okN W (m + 1)) [.i .i64, .i .i64, .i .i64, .i .i64, .i .i64] cs → ∃ x : TLook, TLook_cells x = cs ∧ TLook_rg x := by
  intro cs h
  obtain ⟨_, _, rfl, hx0, h0⟩ := h.inv
  obtain ⟨x0, rfl, w0⟩ := okN_i hx0
  obtain ⟨_, _, rfl, hx1, h1⟩ := h0.inv
  obtain ⟨x1, rfl, w1⟩ := okN_i hx1
  obtain ⟨_, _, rfl, hx2, h2⟩ := h1.inv
  obtain ⟨x2, rfl, w2⟩ := okN_i hx2
  obtain ⟨_, _, rfl, hx3, h3⟩ := h2.inv
  obtain ⟨x3, rfl, w3⟩ := okN_i hx3
  obtain ⟨_, _, rfl, hx4, h4⟩ := h3.inv
  obtain ⟨x4, rfl, w4⟩ := okN_i hx4
  obtain rfl := h4.inv0
  exact ⟨(TLook.mk x0 (TSpot.mk x1 x2) (TSpan.mk x3 x4)), rfl, ⟨(rg_i64 w0), (rg_i64 w1), (rg_i64 w2), (rg_i64 w3), (rg_i64 w4)⟩⟩

theorem fl26 : flatB Try.prog 8 26 [.i .i64, .i .i64] = true := by kernel_rfl
theorem ag26 : isAggB Try.prog 26 = true := by kernel_rfl
theorem cl26 : Try.prog.cellsOf 26 = 2 := by kernel_rfl
set_option maxRecDepth 100000 in
theorem lifted (os : Os) (started : os.Started) (H : Type) (enc : TypeId × Value → H) :
    ReturnsInHanded {} Try.checked os 9 .any (Rows.fireDecidesSpec.pre6 enc Try.prog Try.f9 Rows.fireDecidesRow.domain false) (Rows.fireDecidesSpec.post enc Try.prog Try.f9 false true false false) := by
  refine returnsInHanded_of_change (C := Try.checked) own started (by kernel_rfl) Try.func9
    (ChangeSpec.witness6 (enc := enc) (C := Try.checked) false ⟨#[], #[.agg #[.int .i64 0, .int .i64 0, .int .i64 0, .int .i64 0, .slice none 0 0], .agg #[.int .i64 0, .int .i64 0], .agg #[.int .i64 0, .int .i64 0], .int .i64 0, .int .i64 0], []⟩ 8 (by kernel_rfl) (by kernel_rfl) (by kernel_rfl) (by kernel_rfl)) ?_
  intro W base args ds gs before hval0 hW hcnd _
  have hval : ∀ (j : Nat) t v, Try.f9.params[j]? = some t → args[j]? = some v → Value.okWide Try.prog W .any base t v := hval0
  have hW' := hW
  obtain ⟨p, q, hA0, hV, rfl, hfz, hnd⟩ := hW
  have hA : DataW.TrodAll enc Try.prog W 0 (fun _ => true) true Try.f9.params.toList args.toList ds p := hA0
  rw [Try.params9] at hA hval
  obtain ⟨v0, vs0, d0, ds0, p0, q0, hargs, rfl, rfl, h0, r0⟩ := trodAll_cons hA
  obtain ⟨v1, vs1, d1, ds1, p1, q1, rfl, rfl, rfl, h1, r1⟩ := trodAll_cons r0
  obtain ⟨v2, vs2, d2, ds2, p2, q2, rfl, rfl, rfl, h2, r2⟩ := trodAll_cons r1
  obtain ⟨v3, vs3, d3, ds3, p3, q3, rfl, rfl, rfl, h3, r3⟩ := trodAll_cons r2
  obtain ⟨v4, vs4, d4, ds4, p4, q4, rfl, rfl, rfl, h4, r4⟩ := trodAll_cons r3
  obtain ⟨rfl, rfl, rfl⟩ := trodAll_nil r4
  obtain rfl : args = #[v0, v1, v2, v3, v4] := by cases args; simp_all
  obtain ⟨rfl, rfl⟩ := trodVars_none hV
  have k0 := h0
  have lt0 : ∀ x ∈ p0, x.block < W.heap.size := by obtain ⟨m, hm⟩ := k0; exact DataW.trod_lt m _ _ _ hm
  have k1 := h1
  have lt1 : ∀ x ∈ p1, x.block < W.heap.size := by obtain ⟨m, hm⟩ := k1; exact DataW.trod_lt m _ _ _ hm
  have k2 := h2
  have lt2 : ∀ x ∈ p2, x.block < W.heap.size := by obtain ⟨m, hm⟩ := k2; exact DataW.trod_lt m _ _ _ hm
  have k3 := h3
  have lt3 : ∀ x ∈ p3, x.block < W.heap.size := by obtain ⟨m, hm⟩ := k3; exact DataW.trod_lt m _ _ _ hm
  have k4 := h4
  have lt4 : ∀ x ∈ p4, x.block < W.heap.size := by obtain ⟨m, hm⟩ := k4; exact DataW.trod_lt m _ _ _ hm
  obtain ⟨ws0, rfl, hws0⟩ := open_flat _ fl24 ag24 cl24 (hval 0 24 v0 rfl rfl) h0
  obtain ⟨_, _, rfl, hx0_0, hws0_0⟩ := hws0.inv
  obtain ⟨x0_0, rfl, w0_0⟩ := okN_i hx0_0
  obtain ⟨_, _, rfl, hx0_1, hws0_1⟩ := hws0_0.inv
  obtain ⟨x0_1, rfl, w0_1⟩ := okN_i hx0_1
  obtain ⟨_, _, rfl, hx0_2, hws0_2⟩ := hws0_1.inv
  obtain ⟨x0_2, rfl, w0_2⟩ := okN_i hx0_2
  obtain ⟨_, _, rfl, hx0_3, hws0_3⟩ := hws0_2.inv
  obtain ⟨x0_3, rfl, w0_3⟩ := okN_i hx0_3
  obtain ⟨_, _, rfl, hx0_4, hws0_4⟩ := hws0_3.inv
  obtain ⟨A0_4, n0_4, c0_4, rfl, css0_4, rfl, hm0_4, hr0_4, he0_4⟩ := okN_sl hx0_4
  obtain rfl := hws0_4.inv0
  obtain ⟨xs0_4, hl0_4, hf0_4, hg0_4⟩ := rows_with conv_34 css0_4 he0_4
  rw [hf0_4] at hr0_4
  obtain ⟨ws1, rfl, hws1⟩ := open_flat _ fl26 ag26 cl26 (hval 1 26 v1 rfl rfl) h1
  obtain ⟨_, _, rfl, hx1_0, hws1_0⟩ := hws1.inv
  obtain ⟨x1_0, rfl, w1_0⟩ := okN_i hx1_0
  obtain ⟨_, _, rfl, hx1_1, hws1_1⟩ := hws1_0.inv
  obtain ⟨x1_1, rfl, w1_1⟩ := okN_i hx1_1
  obtain rfl := hws1_1.inv0
  obtain ⟨ws2, rfl, hws2⟩ := open_flat _ fl26 ag26 cl26 (hval 2 26 v2 rfl rfl) h2
  obtain ⟨_, _, rfl, hx2_0, hws2_0⟩ := hws2.inv
  obtain ⟨x2_0, rfl, w2_0⟩ := okN_i hx2_0
  obtain ⟨_, _, rfl, hx2_1, hws2_1⟩ := hws2_0.inv
  obtain ⟨x2_1, rfl, w2_1⟩ := okN_i hx2_1
  obtain rfl := hws2_1.inv0
  obtain ⟨a3, rfl, rfl, rfl, w3⟩ := open_int Try.underlying3 (hval 3 3 v3 rfl rfl) h3
  obtain ⟨a4, rfl, rfl, rfl, w4⟩ := open_int Try.underlying3 (hval 4 3 v4 rfl rfl) h4
  clear hA0 hval0
  refine (calxlaw02_FireDecides_ok (TFire.mk x0_0 x0_1 x0_2 x0_3 xs0_4) (TSpot.mk x1_0 x1_1) (TSpot.mk x2_0 x2_1) a3 a4 true (FireDecides_true (TFire.mk x0_0 x0_1 x0_2 x0_3 xs0_4) (TSpot.mk x1_0 x1_1) (TSpot.mk x2_0 x2_1) a3 a4 ⟨(rg_i64 w0_0), (rg_i64 w0_1), (rg_i64 w0_2), (rg_i64 w0_3), ⟨by rw [← hl0_4]; exact hm0_4, hg0_4⟩⟩ ⟨(rg_i64 w1_0), (rg_i64 w1_1)⟩ ⟨(rg_i64 w2_0), (rg_i64 w2_1)⟩ (rg_i64 w3) (rg_i64 w4)) W A0_4 css0_4.length c0_4 hl0_4 hr0_4).mono fun e W' ⟨he, hg⟩ => ?_
  subst he
  have bel := hg.below
  exact ⟨_, rfl, _, _, _, [], _, [], hW', trodAll_mk1 (shut_bool Try.underlying4 _), (trodAll_cons_mk (Below.trod laidOut (by kernel_rfl) (of_decide_eq_true (by kernel_rfl)) k0 bel lt0) (trodAll_cons_mk (Below.trod laidOut (by kernel_rfl) (of_decide_eq_true (by kernel_rfl)) k1 bel lt1) (trodAll_cons_mk (Below.trod laidOut (by kernel_rfl) (of_decide_eq_true (by kernel_rfl)) k2 bel lt2) (trodAll_cons_mk (Below.trod laidOut (by kernel_rfl) (of_decide_eq_true (by kernel_rfl)) k3 bel lt3) (trodAll_cons_mk (Below.trod laidOut (by kernel_rfl) (of_decide_eq_true (by kernel_rfl)) k4 bel lt4) trodAll_mk0))))), rfl, bel.frame _, fun h => by cases h⟩

theorem over : Rows.fireDecidesRow.holds Try.pinned (OpenSpec.ofChange Rows.fireDecidesSpec) :=
  OpenClaim.holds_of_wide 9 Try.f9 rfl rfl rfl rfl rfl rfl rfl ⟨rfl, rfl, rfl, rfl, rfl⟩ rfl rfl rfl rfl rfl (by kernel_rfl) Try.func9 (by kernel_rfl)
    (of_decide_eq_true (by kernel_rfl)) (by unfold Func.isWrapper; first | (rw [if_pos (by decide +kernel)]; kernel_rfl) | (rw [if_neg (by decide +kernel)]; exact ⟨rfl, rfl⟩))
    (fun os started H enc _ => lifted os started H enc)
end Go.Proofs.Ytndajeiecdmhnaa.fireDecides
namespace Go.Proofs.Ytndajeiecdmhnaa
/-- The statement. -/
theorem FireDecides_holds : Rows.FireDecidesSaid := fireDecides.over
#print axioms FireDecides_holds
end Go.Proofs.Ytndajeiecdmhnaa
