import Derived.Test.YthndghnkebboaaaGreatRows
import Derived.Test.YthndghnkebboaaaGreatLk
import Derived.Test.YthndghnkebboaaaGreatGy
import Derived.Test.YthndghnkebboaaaGreatC35
/- The statement 'CartTimesSaid': whatever the input, the law returns true, and the input reads as it did. No condition. -/
namespace Go.Proofs.YthndghnkebboaaaGreat.cartTimes
open Go.ChangeShapes Go.WideShapes Go.ChangeAt Go.RowKit
set_option linter.unusedVariables false

theorem own : ownKnob Tryz.prog.godebug = none := by kernel_rfl
theorem laidOut : laidOutB Tryz.prog = true := by kernel_rfl
theorem fl24 : flatB Tryz.prog 8 24 [.i .i64, .sl [.i .i64, .i .i64, .i .i64, .i .i64, .i .i64, .sl [.i .i64, .i .i64]]] = true := by kernel_rfl
theorem ag24 : isAggB Tryz.prog 24 = true := by kernel_rfl
theorem cl24 : Tryz.prog.cellsOf 24 = 2 := by kernel_rfl
theorem conv_63 {W : World} {m : Nat} : ∀ cs, All2 (Lf.okN W (m + 1)) [.i .i64, .i .i64] cs → ∃ x : TSpan, TSpan_cells x = cs ∧ TSpan_rg x := by
  intro cs h
  obtain ⟨_, _, rfl, hx0, h0⟩ := h.inv
  obtain ⟨x0, rfl, w0⟩ := okN_i hx0
  obtain ⟨_, _, rfl, hx1, h1⟩ := h0.inv
  obtain ⟨x1, rfl, w1⟩ := okN_i hx1
  obtain rfl := h1.inv0
  exact ⟨(TSpan.mk x0 x1), rfl, ⟨(rg_i64 w0), (rg_i64 w1)⟩⟩

theorem conv_120 {W : World} {m : Nat} : ∀ cs, All2 (Lf.okN W (m + 2)) [.i .i64, .i .i64, .i .i64, .i .i64, .i .i64, .sl [.i .i64, .i .i64]] cs → ∃ p : Hd × TT, TTrack_cells2 p = cs ∧ (p.1.2.1 = p.2.fK.length ∧ Rd W p.1.1 p.1.2.1 p.1.2.2 (encL TSpan_cells p.2.fK)) ∧ TTrack_rg p.2 := by
  intro cs h
  obtain ⟨_, _, rfl, hx0, h0⟩ := h.inv
  obtain ⟨x0, rfl, w0⟩ := okN_i hx0
  obtain ⟨_, _, rfl, hx1, h1⟩ := h0.inv
  obtain ⟨x1, rfl, w1⟩ := okN_i hx1
  obtain ⟨_, _, rfl, hx2, h2⟩ := h1.inv
  obtain ⟨x2, rfl, w2⟩ := okN_i hx2
  obtain ⟨_, _, rfl, hx3, h3⟩ := h2.inv
  obtain ⟨x3, rfl, w3⟩ := okN_i hx3
  obtain ⟨_, _, rfl, hx4, h4⟩ := h3.inv
  obtain ⟨x4, rfl, w4⟩ := okN_i hx4
  obtain ⟨_, _, rfl, hx5, h5⟩ := h4.inv
  obtain ⟨A, n, c, rfl, css, rfl, hm, hr, he⟩ := okN_sl hx5
  obtain ⟨xs, hl, hf, hg⟩ := rows_with conv_63 css he
  rw [hf] at hr
  obtain rfl := h5.inv0
  exact ⟨((A, css.length, c), (TT.mk x0 x1 x2 x3 x4 xs)), rfl, ⟨hl, hr⟩, ⟨(rg_i64 w0), (rg_i64 w1), (rg_i64 w2), (rg_i64 w3), (rg_i64 w4), ⟨by rw [← hl]; exact hm, hg⟩⟩⟩

theorem fl29 : flatB Tryz.prog 8 29 [.sl [.i .i64, .i .i64], .i .i64, .i .i64] = true := by kernel_rfl
theorem ag29 : isAggB Tryz.prog 29 = true := by kernel_rfl
theorem cl29 : Tryz.prog.cellsOf 29 = 3 := by kernel_rfl
theorem conv_132 {W : World} {m : Nat} : ∀ cs, All2 (Lf.okN W (m + 1)) [.i .i64, .i .i64] cs → ∃ x : TLeg, TLeg_cells x = cs ∧ TLeg_rg x := by
  intro cs h
  obtain ⟨_, _, rfl, hx0, h0⟩ := h.inv
  obtain ⟨x0, rfl, w0⟩ := okN_i hx0
  obtain ⟨_, _, rfl, hx1, h1⟩ := h0.inv
  obtain ⟨x1, rfl, w1⟩ := okN_i hx1
  obtain rfl := h1.inv0
  exact ⟨(TLeg.mk x0 x1), rfl, ⟨(rg_i64 w0), (rg_i64 w1)⟩⟩

theorem fl87 : flatB Tryz.prog 8 87 [.sl [.sl [.i .i64]]] = true := by kernel_rfl
theorem ag87 : isAggB Tryz.prog 87 = true := by kernel_rfl
theorem cl87 : Tryz.prog.cellsOf 87 = 1 := by kernel_rfl
theorem conv_3 {W : World} {m : Nat} : ∀ cs, All2 (Lf.okN W (m + 1)) [.i .i64] cs → ∃ x : Int, cI x = cs ∧ Rg_i64 x := by
  intro cs h
  obtain ⟨_, _, rfl, hx0, h0⟩ := h.inv
  obtain ⟨x0, rfl, w0⟩ := okN_i hx0
  obtain rfl := h0.inv0
  exact ⟨x0, rfl, (rg_i64 w0)⟩

theorem conv_42 {W : World} {m : Nat} : ∀ cs, All2 (Lf.okN W (m + 2)) [.sl [.i .i64]] cs → ∃ p : Hd × (List Int), SlInt_cells2 p = cs ∧ (p.1.2.1 = p.2.length ∧ Rd W p.1.1 p.1.2.1 p.1.2.2 (encL cI p.2)) ∧ (Rg_list Rg_i64) p.2 := by
  intro cs h
  obtain ⟨_, _, rfl, hx0, h0⟩ := h.inv
  obtain ⟨A, n, c, rfl, css, rfl, hm, hr, he⟩ := okN_sl hx0
  obtain ⟨xs, hl, hf, hg⟩ := rows_with conv_3 css he
  rw [hf] at hr
  obtain rfl := h0.inv0
  exact ⟨((A, css.length, c), xs), rfl, ⟨hl, hr⟩, ⟨by rw [← hl]; exact hm, hg⟩⟩

set_option maxRecDepth 100000 in
theorem lifted (os : Os) (started : os.Started) (H : Type) (enc : TypeId × Value → H) :
    ReturnsInHanded {} Tryz.checked os 12 .any (Rows.cartTimesSpec.pre6 enc Tryz.prog Tryz.f12 Rows.cartTimesRow.domain false) (Rows.cartTimesSpec.post enc Tryz.prog Tryz.f12 false true false false) := by
  refine returnsInHanded_of_change (C := Tryz.checked) own started (by kernel_rfl) Tryz.func12
    (ChangeSpec.witness6 (enc := enc) (C := Tryz.checked) false ⟨#[], #[.agg #[.int .i64 0, .slice none 0 0], .int .i64 0, .int .i64 0, .int .i64 0, .agg #[.slice none 0 0, .int .i64 0, .int .i64 0], .agg #[.slice none 0 0]], []⟩ 8 (by kernel_rfl) (by kernel_rfl) (by kernel_rfl) (by kernel_rfl)) ?_
  intro W base args ds gs before hval0 hW hcnd _
  have hval : ∀ (j : Nat) t v, Tryz.f12.params[j]? = some t → args[j]? = some v → Value.okWide Tryz.prog W .any base t v := hval0
  have hW' := hW
  obtain ⟨p, q, hA0, hV, rfl, hfz, hnd⟩ := hW
  have hA : DataW.TrodAll enc Tryz.prog W 0 (fun _ => true) true Tryz.f12.params.toList args.toList ds p := hA0
  rw [Tryz.params12] at hA hval
  obtain ⟨v0, vs0, d0, ds0, p0, q0, hargs, rfl, rfl, h0, r0⟩ := trodAll_cons hA
  obtain ⟨v1, vs1, d1, ds1, p1, q1, rfl, rfl, rfl, h1, r1⟩ := trodAll_cons r0
  obtain ⟨v2, vs2, d2, ds2, p2, q2, rfl, rfl, rfl, h2, r2⟩ := trodAll_cons r1
  obtain ⟨v3, vs3, d3, ds3, p3, q3, rfl, rfl, rfl, h3, r3⟩ := trodAll_cons r2
  obtain ⟨v4, vs4, d4, ds4, p4, q4, rfl, rfl, rfl, h4, r4⟩ := trodAll_cons r3
  obtain ⟨v5, vs5, d5, ds5, p5, q5, rfl, rfl, rfl, h5, r5⟩ := trodAll_cons r4
  obtain ⟨rfl, rfl, rfl⟩ := trodAll_nil r5
  obtain rfl : args = #[v0, v1, v2, v3, v4, v5] := by cases args; simp_all
  obtain ⟨rfl, rfl⟩ := trodVars_none hV
  have k0 := h0
  have lt0 : ∀ x ∈ p0, x.block < W.heap.size := by obtain ⟨m, hm⟩ := k0; exact DataW.trod_lt m _ _ _ hm
  have k1 := h1
  have lt1 : ∀ x ∈ p1, x.block < W.heap.size := by obtain ⟨m, hm⟩ := k1; exact DataW.trod_lt m _ _ _ hm
  have k2 := h2
  have lt2 : ∀ x ∈ p2, x.block < W.heap.size := by obtain ⟨m, hm⟩ := k2; exact DataW.trod_lt m _ _ _ hm
  have k3 := h3
  have lt3 : ∀ x ∈ p3, x.block < W.heap.size := by obtain ⟨m, hm⟩ := k3; exact DataW.trod_lt m _ _ _ hm
  have k4 := h4
  have lt4 : ∀ x ∈ p4, x.block < W.heap.size := by obtain ⟨m, hm⟩ := k4; exact DataW.trod_lt m _ _ _ hm
  have k5 := h5
  have lt5 : ∀ x ∈ p5, x.block < W.heap.size := by obtain ⟨m, hm⟩ := k5; exact DataW.trod_lt m _ _ _ hm
  obtain ⟨ws0, rfl, hws0⟩ := open_flat _ fl24 ag24 cl24 (hval 0 24 v0 rfl rfl) h0
  obtain ⟨_, _, rfl, hx0_0, hws0_0⟩ := hws0.inv
  obtain ⟨x0_0, rfl, w0_0⟩ := okN_i hx0_0
  obtain ⟨_, _, rfl, hx0_1, hws0_1⟩ := hws0_0.inv
  obtain ⟨A0_1, n0_1, c0_1, rfl, css0_1, rfl, hm0_1, hr0_1, he0_1⟩ := okN_sl hx0_1
  obtain rfl := hws0_1.inv0
  obtain ⟨ys0_1, hl0_1, hf0_1, hg0_1⟩ := rows_with conv_120 css0_1 he0_1
  rw [hf0_1] at hr0_1
  have hl20_1 : css0_1.length = (ys0_1.map Prod.snd).length := by rw [List.length_map]; exact hl0_1
  obtain ⟨a1, rfl, rfl, rfl, w1⟩ := open_int Tryz.underlying3 (hval 1 3 v1 rfl rfl) h1
  obtain ⟨a2, rfl, rfl, rfl, w2⟩ := open_int Tryz.underlying3 (hval 2 3 v2 rfl rfl) h2
  obtain ⟨a3, rfl, rfl, rfl, w3⟩ := open_int Tryz.underlying3 (hval 3 3 v3 rfl rfl) h3
  obtain ⟨ws4, rfl, hws4⟩ := open_flat _ fl29 ag29 cl29 (hval 4 29 v4 rfl rfl) h4
  obtain ⟨_, _, rfl, hx4_0, hws4_0⟩ := hws4.inv
  obtain ⟨A4_0, n4_0, c4_0, rfl, css4_0, rfl, hm4_0, hr4_0, he4_0⟩ := okN_sl hx4_0
  obtain ⟨_, _, rfl, hx4_1, hws4_1⟩ := hws4_0.inv
  obtain ⟨x4_1, rfl, w4_1⟩ := okN_i hx4_1
  obtain ⟨_, _, rfl, hx4_2, hws4_2⟩ := hws4_1.inv
  obtain ⟨x4_2, rfl, w4_2⟩ := okN_i hx4_2
  obtain rfl := hws4_2.inv0
  obtain ⟨xs4_0, hl4_0, hf4_0, hg4_0⟩ := rows_with conv_132 css4_0 he4_0
  rw [hf4_0] at hr4_0
  obtain ⟨ws5, rfl, hws5⟩ := open_flat _ fl87 ag87 cl87 (hval 5 87 v5 rfl rfl) h5
  obtain ⟨_, _, rfl, hx5_0, hws5_0⟩ := hws5.inv
  obtain ⟨A5_0, n5_0, c5_0, rfl, css5_0, rfl, hm5_0, hr5_0, he5_0⟩ := okN_sl hx5_0
  obtain rfl := hws5_0.inv0
  obtain ⟨ys5_0, hl5_0, hf5_0, hg5_0⟩ := rows_with conv_42 css5_0 he5_0
  rw [hf5_0] at hr5_0
  have hl25_0 : css5_0.length = (ys5_0.map Prod.snd).length := by rw [List.length_map]; exact hl5_0
  clear hA0 hval0
  refine (calxlaw05_CartTimes_ok (TR.mk x0_0 (ys0_1.map Prod.snd)) a1 a2 a3 (TJ.mk xs4_0 x4_1 x4_2) (TTimes.mk (ys5_0.map Prod.snd)) true (CartTimes_true (TR.mk x0_0 (ys0_1.map Prod.snd)) a1 a2 a3 (TJ.mk xs4_0 x4_1 x4_2) (TTimes.mk (ys5_0.map Prod.snd)) ⟨(rg_i64 w0_0), ⟨by rw [← hl20_1]; exact hm0_1, fun x hx => by obtain ⟨y, hy, rfl⟩ := List.mem_map.1 hx; exact (hg0_1 y hy).2⟩⟩ (rg_i64 w1) (rg_i64 w2) (rg_i64 w3) ⟨⟨by rw [← hl4_0]; exact hm4_0, hg4_0⟩, (rg_i64 w4_1), (rg_i64 w4_2)⟩ ⟨by rw [← hl25_0]; exact hm5_0, fun x hx => by obtain ⟨y, hy, rfl⟩ := List.mem_map.1 hx; exact (hg5_0 y hy).2⟩) W A0_1 css0_1.length c0_1 ys0_1 hl20_1 hr0_1 ⟨⟨rfl, fun y hy => (hg0_1 y hy).1.1⟩, fun y hy => (hg0_1 y hy).1.2⟩ A4_0 css4_0.length c4_0 hl4_0 hr4_0 A5_0 css5_0.length c5_0 ys5_0 hl25_0 hr5_0 ⟨⟨rfl, fun y hy => (hg5_0 y hy).1.1⟩, fun y hy => (hg5_0 y hy).1.2⟩).mono fun e W' ⟨he, hg⟩ => ?_
  subst he
  have bel := hg.below
  exact ⟨_, rfl, _, _, _, [], _, [], hW', trodAll_mk1 (shut_bool Tryz.underlying4 _), (trodAll_cons_mk (Below.trod laidOut (by kernel_rfl) (of_decide_eq_true (by kernel_rfl)) k0 bel lt0) (trodAll_cons_mk (Below.trod laidOut (by kernel_rfl) (of_decide_eq_true (by kernel_rfl)) k1 bel lt1) (trodAll_cons_mk (Below.trod laidOut (by kernel_rfl) (of_decide_eq_true (by kernel_rfl)) k2 bel lt2) (trodAll_cons_mk (Below.trod laidOut (by kernel_rfl) (of_decide_eq_true (by kernel_rfl)) k3 bel lt3) (trodAll_cons_mk (Below.trod laidOut (by kernel_rfl) (of_decide_eq_true (by kernel_rfl)) k4 bel lt4) (trodAll_cons_mk (Below.trod laidOut (by kernel_rfl) (of_decide_eq_true (by kernel_rfl)) k5 bel lt5) trodAll_mk0)))))), rfl, bel.frame _, fun h => by cases h⟩

theorem over : Rows.cartTimesRow.holds Tryz.pinned (OpenSpec.ofChange Rows.cartTimesSpec) :=
  OpenClaim.holds_of_wide 12 Tryz.f12 rfl rfl rfl rfl rfl rfl rfl ⟨rfl, rfl, rfl, rfl, rfl⟩ rfl rfl rfl rfl rfl (by kernel_rfl) Tryz.func12 (by kernel_rfl)
    (of_decide_eq_true (by kernel_rfl)) (by unfold Func.isWrapper; first | (rw [if_pos (by decide +kernel)]; kernel_rfl) | (rw [if_neg (by decide +kernel)]; exact ⟨rfl, rfl⟩))
    (fun os started H enc _ => lifted os started H enc)
end Go.Proofs.YthndghnkebboaaaGreat.cartTimes
namespace Go.Proofs.YthndghnkebboaaaGreat
/-- The statement. -/
theorem CartTimes_holds : Rows.CartTimesSaid := cartTimes.over
#print axioms CartTimes_holds
end Go.Proofs.YthndghnkebboaaaGreat
