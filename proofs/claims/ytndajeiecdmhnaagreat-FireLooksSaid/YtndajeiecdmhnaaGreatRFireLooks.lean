/- The statement 'FireLooksSaid': whatever the input, the law returns true, and the input reads as it did. No condition. -/
import Derived.Test.YtndajeiecdmhnaaGreatRows
import Derived.Test.YtndajeiecdmhnaaGreatMh
import Derived.Test.YtndajeiecdmhnaaGreatGt
import Derived.Test.YtndajeiecdmhnaaGreatC12
namespace Go.Proofs.YtndajeiecdmhnaaGreat.fireLooks
open Go.ChangeShapes Go.WideShapes Go.ChangeAt Go.RowKit
set_option linter.unusedVariables false

theorem own : ownKnob Tryz.prog.godebug = none := by kernel_rfl
theorem laidOut : laidOutB Tryz.prog = true := by kernel_rfl
theorem fl24 : flatB Tryz.prog 8 24 [.i .i64, .i .i64, .i .i64, .i .i64, .sl [.i .i64, .i .i64, .i .i64, .i .i64, .i .i64]] = true := by kernel_rfl
theorem ag24 : isAggB Tryz.prog 24 = true := by kernel_rfl
theorem cl24 : Tryz.prog.cellsOf 24 = 5 := by kernel_rfl
theorem conv_49 {W : World} {m : Nat} : ∀ cs, All2 (Lf.okN W (m + 1)) [.i .i64, .i .i64, .i .i64, .i .i64, .i .i64] cs → ∃ x : TLook, TLook_cells x = cs ∧ TLook_rg x := by
  intro cs h
  obtain ⟨_, _, rfl, hx0, h0⟩ := h.inv
  obtain ⟨x0, rfl, w0⟩ := okN_i hx0
  obtain ⟨_, _, rfl, hx1, h1⟩ := h0.inv
  obtain ⟨x1, rfl, w1⟩ := okN_i hx1
  obtain ⟨_, _, rfl, hx2, h2⟩ := h1.inv
  obtain ⟨x2, rfl, w2⟩ := okN_i hx2
  obtain ⟨_, _, rfl, hx3, h3⟩ := h2.inv
  obtain ⟨x3, rfl, w3⟩ := okN_i hx3
  obtain ⟨_, _, rfl, hx4, h4⟩ := h3.inv
  obtain ⟨x4, rfl, w4⟩ := okN_i hx4
  obtain rfl := h4.inv0
  exact ⟨(TLook.mk x0 (TSpot.mk x1 x2) (TSpan.mk x3 x4)), rfl, ⟨(rg_i64 w0), (rg_i64 w1), (rg_i64 w2), (rg_i64 w3), (rg_i64 w4)⟩⟩

theorem fl49 : flatB Tryz.prog 8 49 [.i .i64, .i .i64, .i .i64, .i .i64, .i .i64] = true := by kernel_rfl
theorem ag49 : isAggB Tryz.prog 49 = true := by kernel_rfl
theorem cl49 : Tryz.prog.cellsOf 49 = 5 := by kernel_rfl
theorem fl26 : flatB Tryz.prog 8 26 [.i .i64, .i .i64] = true := by kernel_rfl
theorem ag26 : isAggB Tryz.prog 26 = true := by kernel_rfl
theorem cl26 : Tryz.prog.cellsOf 26 = 2 := by kernel_rfl
theorem conv_26 {W : World} {m : Nat} : ∀ cs, All2 (Lf.okN W (m + 1)) [.i .i64, .i .i64] cs → ∃ x : TSpot, TSpot_cells x = cs ∧ TSpot_rg x := by
  intro cs h
  obtain ⟨_, _, rfl, hx0, h0⟩ := h.inv
  obtain ⟨x0, rfl, w0⟩ := okN_i hx0
  obtain ⟨_, _, rfl, hx1, h1⟩ := h0.inv
  obtain ⟨x1, rfl, w1⟩ := okN_i hx1
  obtain rfl := h1.inv0
  exact ⟨(TSpot.mk x0 x1), rfl, ⟨(rg_i64 w0), (rg_i64 w1)⟩⟩

theorem fl50 : flatB Tryz.prog 8 50 [.sl [.i .i64, .i .i64]] = true := by kernel_rfl
set_option maxRecDepth 100000 in
theorem lifted (os : Os) (started : os.Started) (H : Type) (enc : TypeId × Value → H) :
    ReturnsInHanded {} Tryz.checked os 4 .any (Rows.fireLooksSpec.pre6 enc Tryz.prog Tryz.f4 Rows.fireLooksRow.domain false) (Rows.fireLooksSpec.post enc Tryz.prog Tryz.f4 false true false false) := by
  refine returnsInHanded_of_change (C := Tryz.checked) own started (by kernel_rfl) Tryz.func4
    (ChangeSpec.witness6 (enc := enc) (C := Tryz.checked) false ⟨#[], #[.agg #[.int .i64 0, .int .i64 0, .int .i64 0, .int .i64 0, .slice none 0 0], .agg #[.int .i64 0, .int .i64 0, .int .i64 0, .int .i64 0, .int .i64 0], .agg #[.int .i64 0, .int .i64 0], .int .i64 0, .agg #[.int .i64 0, .int .i64 0], .slice none 0 0], []⟩ 8 (by kernel_rfl) (by kernel_rfl) (by kernel_rfl) (by kernel_rfl)) ?_
  intro W base args ds gs before hval0 hW hcnd _
  have hval : ∀ (j : Nat) t v, Tryz.f4.params[j]? = some t → args[j]? = some v → Value.okWide Tryz.prog W .any base t v := hval0
  have hW' := hW
  obtain ⟨p, q, hA0, hV, rfl, hfz, hnd⟩ := hW
  have hA : DataW.TrodAll enc Tryz.prog W 0 (fun _ => true) true Tryz.f4.params.toList args.toList ds p := hA0
  rw [Tryz.params4] at hA hval
  obtain ⟨v0, vs0, d0, ds0, p0, q0, hargs, rfl, rfl, h0, r0⟩ := trodAll_cons hA
  obtain ⟨v1, vs1, d1, ds1, p1, q1, rfl, rfl, rfl, h1, r1⟩ := trodAll_cons r0
  obtain ⟨v2, vs2, d2, ds2, p2, q2, rfl, rfl, rfl, h2, r2⟩ := trodAll_cons r1
  obtain ⟨v3, vs3, d3, ds3, p3, q3, rfl, rfl, rfl, h3, r3⟩ := trodAll_cons r2
  obtain ⟨v4, vs4, d4, ds4, p4, q4, rfl, rfl, rfl, h4, r4⟩ := trodAll_cons r3
  obtain ⟨v5, vs5, d5, ds5, p5, q5, rfl, rfl, rfl, h5, r5⟩ := trodAll_cons r4
  obtain ⟨rfl, rfl, rfl⟩ := trodAll_nil r5
  obtain rfl : args = #[v0, v1, v2, v3, v4, v5] := by cases args; simp_all
  obtain ⟨rfl, rfl⟩ := trodVars_none hV
  have k0 := h0
  have lt0 : ∀ x ∈ p0, x.block < W.heap.size := by obtain ⟨m, hm⟩ := k0; exact DataW.trod_lt m _ _ _ hm
  have k1 := h1
  have lt1 : ∀ x ∈ p1, x.block < W.heap.size := by obtain ⟨m, hm⟩ := k1; exact DataW.trod_lt m _ _ _ hm
  have k2 := h2
  have lt2 : ∀ x ∈ p2, x.block < W.heap.size := by obtain ⟨m, hm⟩ := k2; exact DataW.trod_lt m _ _ _ hm
  have k3 := h3
  have lt3 : ∀ x ∈ p3, x.block < W.heap.size := by obtain ⟨m, hm⟩ := k3; exact DataW.trod_lt m _ _ _ hm
  have k4 := h4
  have lt4 : ∀ x ∈ p4, x.block < W.heap.size := by obtain ⟨m, hm⟩ := k4; exact DataW.trod_lt m _ _ _ hm
  have k5 := h5
  have lt5 : ∀ x ∈ p5, x.block < W.heap.size := by obtain ⟨m, hm⟩ := k5; exact DataW.trod_lt m _ _ _ hm
  obtain ⟨ws0, rfl, hws0⟩ := open_flat _ fl24 ag24 cl24 (hval 0 24 v0 rfl rfl) h0
  obtain ⟨_, _, rfl, hx0_0, hws0_0⟩ := hws0.inv
  obtain ⟨x0_0, rfl, w0_0⟩ := okN_i hx0_0
  obtain ⟨_, _, rfl, hx0_1, hws0_1⟩ := hws0_0.inv
  obtain ⟨x0_1, rfl, w0_1⟩ := okN_i hx0_1
  obtain ⟨_, _, rfl, hx0_2, hws0_2⟩ := hws0_1.inv
  obtain ⟨x0_2, rfl, w0_2⟩ := okN_i hx0_2
  obtain ⟨_, _, rfl, hx0_3, hws0_3⟩ := hws0_2.inv
  obtain ⟨x0_3, rfl, w0_3⟩ := okN_i hx0_3
  obtain ⟨_, _, rfl, hx0_4, hws0_4⟩ := hws0_3.inv
  obtain ⟨A0_4, n0_4, c0_4, rfl, css0_4, rfl, hm0_4, hr0_4, he0_4⟩ := okN_sl hx0_4
  obtain rfl := hws0_4.inv0
  obtain ⟨xs0_4, hl0_4, hf0_4, hg0_4⟩ := rows_with conv_49 css0_4 he0_4
  rw [hf0_4] at hr0_4
  obtain ⟨ws1, rfl, hws1⟩ := open_flat _ fl49 ag49 cl49 (hval 1 49 v1 rfl rfl) h1
  obtain ⟨_, _, rfl, hx1_0, hws1_0⟩ := hws1.inv
  obtain ⟨x1_0, rfl, w1_0⟩ := okN_i hx1_0
  obtain ⟨_, _, rfl, hx1_1, hws1_1⟩ := hws1_0.inv
  obtain ⟨x1_1, rfl, w1_1⟩ := okN_i hx1_1
  obtain ⟨_, _, rfl, hx1_2, hws1_2⟩ := hws1_1.inv
  obtain ⟨x1_2, rfl, w1_2⟩ := okN_i hx1_2
  obtain ⟨_, _, rfl, hx1_3, hws1_3⟩ := hws1_2.inv
  obtain ⟨x1_3, rfl, w1_3⟩ := okN_i hx1_3
  obtain ⟨_, _, rfl, hx1_4, hws1_4⟩ := hws1_3.inv
  obtain ⟨x1_4, rfl, w1_4⟩ := okN_i hx1_4
  obtain rfl := hws1_4.inv0
  obtain ⟨ws2, rfl, hws2⟩ := open_flat _ fl26 ag26 cl26 (hval 2 26 v2 rfl rfl) h2
  obtain ⟨_, _, rfl, hx2_0, hws2_0⟩ := hws2.inv
  obtain ⟨x2_0, rfl, w2_0⟩ := okN_i hx2_0
  obtain ⟨_, _, rfl, hx2_1, hws2_1⟩ := hws2_0.inv
  obtain ⟨x2_1, rfl, w2_1⟩ := okN_i hx2_1
  obtain rfl := hws2_1.inv0
  obtain ⟨a3, rfl, rfl, rfl, w3⟩ := open_int Tryz.underlying3 (hval 3 3 v3 rfl rfl) h3
  obtain ⟨ws4, rfl, hws4⟩ := open_flat _ fl26 ag26 cl26 (hval 4 26 v4 rfl rfl) h4
  obtain ⟨_, _, rfl, hx4_0, hws4_0⟩ := hws4.inv
  obtain ⟨x4_0, rfl, w4_0⟩ := okN_i hx4_0
  obtain ⟨_, _, rfl, hx4_1, hws4_1⟩ := hws4_0.inv
  obtain ⟨x4_1, rfl, w4_1⟩ := okN_i hx4_1
  obtain rfl := hws4_1.inv0
  obtain ⟨A5, n5, c5, rfl, css5, rfl, hm5, hr5, he5⟩ := open_sl ([.i .i64, .i .i64]) Tryz.underlying50 fl50 (hval 5 50 v5 rfl rfl) h5
  obtain ⟨xs5, hl5, hf5, hg5⟩ := rows_with conv_26 css5 he5
  rw [hf5] at hr5
  clear hA0 hval0
  refine (calxlaw02_FireLooks_ok (TFire.mk x0_0 x0_1 x0_2 x0_3 xs0_4) (TLook.mk x1_0 (TSpot.mk x1_1 x1_2) (TSpan.mk x1_3 x1_4)) (TSpot.mk x2_0 x2_1) a3 (TSpot.mk x4_0 x4_1) xs5 true (FireLooks_true (TFire.mk x0_0 x0_1 x0_2 x0_3 xs0_4) (TLook.mk x1_0 (TSpot.mk x1_1 x1_2) (TSpan.mk x1_3 x1_4)) (TSpot.mk x2_0 x2_1) a3 (TSpot.mk x4_0 x4_1) xs5 ⟨(rg_i64 w0_0), (rg_i64 w0_1), (rg_i64 w0_2), (rg_i64 w0_3), ⟨by rw [← hl0_4]; exact hm0_4, hg0_4⟩⟩ ⟨(rg_i64 w1_0), (rg_i64 w1_1), (rg_i64 w1_2), (rg_i64 w1_3), (rg_i64 w1_4)⟩ ⟨(rg_i64 w2_0), (rg_i64 w2_1)⟩ (rg_i64 w3) ⟨(rg_i64 w4_0), (rg_i64 w4_1)⟩ ⟨by rw [← hl5]; exact hm5, hg5⟩) W A0_4 css0_4.length c0_4 hl0_4 hr0_4 A5 css5.length c5 hl5 hr5).mono fun e W' ⟨he, hg⟩ => ?_
  subst he
  have bel := hg.below
  exact ⟨_, rfl, _, _, _, [], _, [], hW', trodAll_mk1 (shut_bool Tryz.underlying4 _), (trodAll_cons_mk (Below.trod laidOut (by kernel_rfl) (of_decide_eq_true (by kernel_rfl)) k0 bel lt0) (trodAll_cons_mk (Below.trod laidOut (by kernel_rfl) (of_decide_eq_true (by kernel_rfl)) k1 bel lt1) (trodAll_cons_mk (Below.trod laidOut (by kernel_rfl) (of_decide_eq_true (by kernel_rfl)) k2 bel lt2) (trodAll_cons_mk (Below.trod laidOut (by kernel_rfl) (of_decide_eq_true (by kernel_rfl)) k3 bel lt3) (trodAll_cons_mk (Below.trod laidOut (by kernel_rfl) (of_decide_eq_true (by kernel_rfl)) k4 bel lt4) (trodAll_cons_mk (Below.trod laidOut (by kernel_rfl) (of_decide_eq_true (by kernel_rfl)) k5 bel lt5) trodAll_mk0)))))), rfl, bel.frame _, fun h => by cases h⟩

theorem over : Rows.fireLooksRow.holds Tryz.pinned (OpenSpec.ofChange Rows.fireLooksSpec) :=
  OpenClaim.holds_of_wide 4 Tryz.f4 rfl rfl rfl rfl rfl rfl rfl ⟨rfl, rfl, rfl, rfl, rfl⟩ rfl rfl rfl rfl rfl (by kernel_rfl) Tryz.func4 (by kernel_rfl)
    (of_decide_eq_true (by kernel_rfl)) (by unfold Func.isWrapper; first | (rw [if_pos (by decide +kernel)]; kernel_rfl) | (rw [if_neg (by decide +kernel)]; exact ⟨rfl, rfl⟩))
    (fun os started H enc _ => lifted os started H enc)
end Go.Proofs.YtndajeiecdmhnaaGreat.fireLooks
namespace Go.Proofs.YtndajeiecdmhnaaGreat
/-- The statement. -/
theorem FireLooks_holds : Rows.FireLooksSaid := fireLooks.over
#print axioms FireLooks_holds
end Go.Proofs.YtndajeiecdmhnaaGreat
