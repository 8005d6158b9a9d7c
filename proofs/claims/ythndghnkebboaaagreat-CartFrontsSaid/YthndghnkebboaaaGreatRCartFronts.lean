import Derived.Test.YthndghnkebboaaaGreatRows
import Derived.Test.YthndghnkebboaaaGreatLr
import Derived.Test.YthndghnkebboaaaGreatGy
import Derived.Test.YthndghnkebboaaaGreatC37
/- The statement 'CartFrontsSaid': whatever the input, the law returns true, and the input reads as it did. No condition. -/
namespace Go.Proofs.YthndghnkebboaaaGreat.cartFronts
open Go.ChangeShapes Go.WideShapes Go.ChangeAt Go.RowKit
set_option linter.unusedVariables false

theorem own : ownKnob Tryz.prog.godebug = none := by kernel_rfl
theorem laidOut : laidOutB Tryz.prog = true := by kernel_rfl
theorem fl24 : flatB Tryz.prog 8 24 [.i .i64, .sl [.i .i64, .i .i64, .i .i64, .i .i64, .i .i64, .sl [.i .i64, .i .i64]]] = true := by kernel_rfl
theorem ag24 : isAggB Tryz.prog 24 = true := by kernel_rfl
theorem cl24 : Tryz.prog.cellsOf 24 = 2 := by kernel_rfl
theorem conv_63 {W : World} {m : Nat} : ∀ cs, All2 (Lf.okN W (m + 1)) [.i .i64, .i .i64] cs → ∃ x : TSpan, TSpan_cells x = cs ∧ TSpan_rg x := by
  intro cs h
  obtain ⟨_, _, rfl, hx0, h0⟩ := h.inv
  obtain ⟨x0, rfl, w0⟩ := okN_i hx0
  obtain ⟨_, _, rfl, hx1, h1⟩ := h0.inv
  obtain ⟨x1, rfl, w1⟩ := okN_i hx1
  obtain rfl := h1.inv0
  exact ⟨(TSpan.mk x0 x1), rfl, ⟨(rg_i64 w0), (rg_i64 w1)⟩⟩

theorem conv_120 {W : World} {m : Nat} : ∀ cs, All2 (Lf.okN W (m + 2)) [.i .i64, .i .i64, .i .i64, .i .i64, .i .i64, .sl [.i .i64, .i .i64]] cs → ∃ p : Hd × TT, TTrack_cells2 p = cs ∧ (p.1.2.1 = p.2.fK.length ∧ Rd W p.1.1 p.1.2.1 p.1.2.2 (encL TSpan_cells p.2.fK)) ∧ TTrack_rg p.2 := by
  intro cs h
  obtain ⟨_, _, rfl, hx0, h0⟩ := h.inv
  obtain ⟨x0, rfl, w0⟩ := okN_i hx0
  obtain ⟨_, _, rfl, hx1, h1⟩ := h0.inv
  obtain ⟨x1, rfl, w1⟩ := okN_i hx1
  obtain ⟨_, _, rfl, hx2, h2⟩ := h1.inv
  obtain ⟨x2, rfl, w2⟩ := okN_i hx2
  obtain ⟨_, _, rfl, hx3, h3⟩ := h2.inv
  obtain ⟨x3, rfl, w3⟩ := okN_i hx3
  obtain ⟨_, _, rfl, hx4, h4⟩ := h3.inv
  obtain ⟨x4, rfl, w4⟩ := okN_i hx4
  obtain ⟨_, _, rfl, hx5, h5⟩ := h4.inv
  obtain ⟨A, n, c, rfl, css, rfl, hm, hr, he⟩ := okN_sl hx5
  obtain ⟨xs, hl, hf, hg⟩ := rows_with conv_63 css he
  rw [hf] at hr
  obtain rfl := h5.inv0
  exact ⟨((A, css.length, c), (TT.mk x0 x1 x2 x3 x4 xs)), rfl, ⟨hl, hr⟩, ⟨(rg_i64 w0), (rg_i64 w1), (rg_i64 w2), (rg_i64 w3), (rg_i64 w4), ⟨by rw [← hl]; exact hm, hg⟩⟩⟩

theorem conv_132 {W : World} {m : Nat} : ∀ cs, All2 (Lf.okN W (m + 1)) [.i .i64, .i .i64] cs → ∃ x : TLeg, TLeg_cells x = cs ∧ TLeg_rg x := by
  intro cs h
  obtain ⟨_, _, rfl, hx0, h0⟩ := h.inv
  obtain ⟨x0, rfl, w0⟩ := okN_i hx0
  obtain ⟨_, _, rfl, hx1, h1⟩ := h0.inv
  obtain ⟨x1, rfl, w1⟩ := okN_i hx1
  obtain rfl := h1.inv0
  exact ⟨(TLeg.mk x0 x1), rfl, ⟨(rg_i64 w0), (rg_i64 w1)⟩⟩

theorem conv_29 {W : World} {m : Nat} : ∀ cs, All2 (Lf.okN W (m + 2)) [.sl [.i .i64, .i .i64], .i .i64, .i .i64] cs → ∃ p : Hd × TJ, TJourney_cells2 p = cs ∧ (p.1.2.1 = p.2.fLegs.length ∧ Rd W p.1.1 p.1.2.1 p.1.2.2 (encL TLeg_cells p.2.fLegs)) ∧ TJourney_rg p.2 := by
  intro cs h
  obtain ⟨_, _, rfl, hx0, h0⟩ := h.inv
  obtain ⟨A, n, c, rfl, css, rfl, hm, hr, he⟩ := okN_sl hx0
  obtain ⟨_, _, rfl, hx1, h1⟩ := h0.inv
  obtain ⟨x1, rfl, w1⟩ := okN_i hx1
  obtain ⟨_, _, rfl, hx2, h2⟩ := h1.inv
  obtain ⟨x2, rfl, w2⟩ := okN_i hx2
  obtain ⟨xs, hl, hf, hg⟩ := rows_with conv_132 css he
  rw [hf] at hr
  obtain rfl := h2.inv0
  exact ⟨((A, css.length, c), (TJ.mk xs x1 x2)), rfl, ⟨hl, hr⟩, ⟨⟨by rw [← hl]; exact hm, hg⟩, (rg_i64 w1), (rg_i64 w2)⟩⟩

theorem fl106 : flatB Tryz.prog 8 106 [.sl [.sl [.i .i64, .i .i64], .i .i64, .i .i64]] = true := by kernel_rfl
theorem fl87 : flatB Tryz.prog 8 87 [.sl [.sl [.i .i64]]] = true := by kernel_rfl
theorem ag87 : isAggB Tryz.prog 87 = true := by kernel_rfl
theorem cl87 : Tryz.prog.cellsOf 87 = 1 := by kernel_rfl
theorem conv_3 {W : World} {m : Nat} : ∀ cs, All2 (Lf.okN W (m + 1)) [.i .i64] cs → ∃ x : Int, cI x = cs ∧ Rg_i64 x := by
  intro cs h
  obtain ⟨_, _, rfl, hx0, h0⟩ := h.inv
  obtain ⟨x0, rfl, w0⟩ := okN_i hx0
  obtain rfl := h0.inv0
  exact ⟨x0, rfl, (rg_i64 w0)⟩

theorem conv_42 {W : World} {m : Nat} : ∀ cs, All2 (Lf.okN W (m + 2)) [.sl [.i .i64]] cs → ∃ p : Hd × (List Int), SlInt_cells2 p = cs ∧ (p.1.2.1 = p.2.length ∧ Rd W p.1.1 p.1.2.1 p.1.2.2 (encL cI p.2)) ∧ (Rg_list Rg_i64) p.2 := by
  intro cs h
  obtain ⟨_, _, rfl, hx0, h0⟩ := h.inv
  obtain ⟨A, n, c, rfl, css, rfl, hm, hr, he⟩ := okN_sl hx0
  obtain ⟨xs, hl, hf, hg⟩ := rows_with conv_3 css he
  rw [hf] at hr
  obtain rfl := h0.inv0
  exact ⟨((A, css.length, c), xs), rfl, ⟨hl, hr⟩, ⟨by rw [← hl]; exact hm, hg⟩⟩

set_option maxRecDepth 100000 in
theorem lifted (os : Os) (started : os.Started) (H : Type) (enc : TypeId × Value → H) :
    ReturnsInHanded {} Tryz.checked os 14 .any (Rows.cartFrontsSpec.pre6 enc Tryz.prog Tryz.f14 Rows.cartFrontsRow.domain false) (Rows.cartFrontsSpec.post enc Tryz.prog Tryz.f14 false true false false) := by
  refine returnsInHanded_of_change (C := Tryz.checked) own started (by kernel_rfl) Tryz.func14
    (ChangeSpec.witness6 (enc := enc) (C := Tryz.checked) false ⟨#[], #[.agg #[.int .i64 0, .slice none 0 0], .int .i64 0, .int .i64 0, .int .i64 0, .slice none 0 0, .agg #[.slice none 0 0]], []⟩ 8 (by kernel_rfl) (by kernel_rfl) (by kernel_rfl) (by kernel_rfl)) ?_
  intro W base args ds gs before hval0 hW hcnd _
  have hval : ∀ (j : Nat) t v, Tryz.f14.params[j]? = some t → args[j]? = some v → Value.okWide Tryz.prog W .any base t v := hval0
  have hW' := hW
  obtain ⟨p, q, hA0, hV, rfl, hfz, hnd⟩ := hW
  have hA : DataW.TrodAll enc Tryz.prog W 0 (fun _ => true) true Tryz.f14.params.toList args.toList ds p := hA0
  rw [Tryz.params14] at hA hval
  obtain ⟨v0, vs0, d0, ds0, p0, q0, hargs, rfl, rfl, h0, r0⟩ := trodAll_cons hA
  obtain ⟨v1, vs1, d1, ds1, p1, q1, rfl, rfl, rfl, h1, r1⟩ := trodAll_cons r0
  obtain ⟨v2, vs2, d2, ds2, p2, q2, rfl, rfl, rfl, h2, r2⟩ := trodAll_cons r1
  obtain ⟨v3, vs3, d3, ds3, p3, q3, rfl, rfl, rfl, h3, r3⟩ := trodAll_cons r2
  obtain ⟨v4, vs4, d4, ds4, p4, q4, rfl, rfl, rfl, h4, r4⟩ := trodAll_cons r3
  obtain ⟨v5, vs5, d5, ds5, p5, q5, rfl, rfl, rfl, h5, r5⟩ := trodAll_cons r4
  obtain ⟨rfl, rfl, rfl⟩ := trodAll_nil r5
  obtain rfl : args = #[v0, v1, v2, v3, v4, v5] := by cases args; simp_all
  obtain ⟨rfl, rfl⟩ := trodVars_none hV
  have k0 := h0
  have lt0 : ∀ x ∈ p0, x.block < W.heap.size := by obtain ⟨m, hm⟩ := k0; exact DataW.trod_lt m _ _ _ hm
  have k1 := h1
  have lt1 : ∀ x ∈ p1, x.block < W.heap.size := by obtain ⟨m, hm⟩ := k1; exact DataW.trod_lt m _ _ _ hm
  have k2 := h2
  have lt2 : ∀ x ∈ p2, x.block < W.heap.size := by obtain ⟨m, hm⟩ := k2; exact DataW.trod_lt m _ _ _ hm
  have k3 := h3
  have lt3 : ∀ x ∈ p3, x.block < W.heap.size := by obtain ⟨m, hm⟩ := k3; exact DataW.trod_lt m _ _ _ hm
  have k4 := h4
  have lt4 : ∀ x ∈ p4, x.block < W.heap.size := by obtain ⟨m, hm⟩ := k4; exact DataW.trod_lt m _ _ _ hm
  have k5 := h5
  have lt5 : ∀ x ∈ p5, x.block < W.heap.size := by obtain ⟨m, hm⟩ := k5; exact DataW.trod_lt m _ _ _ hm
  obtain ⟨ws0, rfl, hws0⟩ := open_flat _ fl24 ag24 cl24 (hval 0 24 v0 rfl rfl) h0
  obtain ⟨_, _, rfl, hx0_0, hws0_0⟩ := hws0.inv
  obtain ⟨x0_0, rfl, w0_0⟩ := okN_i hx0_0
  obtain ⟨_, _, rfl, hx0_1, hws0_1⟩ := hws0_0.inv
  obtain ⟨A0_1, n0_1, c0_1, rfl, css0_1, rfl, hm0_1, hr0_1, he0_1⟩ := okN_sl hx0_1
  obtain rfl := hws0_1.inv0
  obtain ⟨ys0_1, hl0_1, hf0_1, hg0_1⟩ := rows_with conv_120 css0_1 he0_1
  rw [hf0_1] at hr0_1
  have hl20_1 : css0_1.length = (ys0_1.map Prod.snd).length := by rw [List.length_map]; exact hl0_1
  obtain ⟨a1, rfl, rfl, rfl, w1⟩ := open_int Tryz.underlying3 (hval 1 3 v1 rfl rfl) h1
  obtain ⟨a2, rfl, rfl, rfl, w2⟩ := open_int Tryz.underlying3 (hval 2 3 v2 rfl rfl) h2
  obtain ⟨a3, rfl, rfl, rfl, w3⟩ := open_int Tryz.underlying3 (hval 3 3 v3 rfl rfl) h3
  obtain ⟨A4, n4, c4, rfl, css4, rfl, hm4, hr4, he4⟩ := open_sl ([.sl [.i .i64, .i .i64], .i .i64, .i .i64]) Tryz.underlying106 fl106 (hval 4 106 v4 rfl rfl) h4
  obtain ⟨ys4, hl4, hf4, hg4⟩ := rows_with conv_29 css4 he4
  rw [hf4] at hr4
  have hl24 : css4.length = (ys4.map Prod.snd).length := by rw [List.length_map]; exact hl4
  obtain ⟨ws5, rfl, hws5⟩ := open_flat _ fl87 ag87 cl87 (hval 5 87 v5 rfl rfl) h5
  obtain ⟨_, _, rfl, hx5_0, hws5_0⟩ := hws5.inv
  obtain ⟨A5_0, n5_0, c5_0, rfl, css5_0, rfl, hm5_0, hr5_0, he5_0⟩ := okN_sl hx5_0
  obtain rfl := hws5_0.inv0
  obtain ⟨ys5_0, hl5_0, hf5_0, hg5_0⟩ := rows_with conv_42 css5_0 he5_0
  rw [hf5_0] at hr5_0
  have hl25_0 : css5_0.length = (ys5_0.map Prod.snd).length := by rw [List.length_map]; exact hl5_0
  clear hA0 hval0
  refine (calxlaw05_CartFronts_ok (TR.mk x0_0 (ys0_1.map Prod.snd)) a1 a2 a3 (ys4.map Prod.snd) (TTimes.mk (ys5_0.map Prod.snd)) true (CartFronts_true (TR.mk x0_0 (ys0_1.map Prod.snd)) a1 a2 a3 (ys4.map Prod.snd) (TTimes.mk (ys5_0.map Prod.snd)) ⟨(rg_i64 w0_0), ⟨by rw [← hl20_1]; exact hm0_1, fun x hx => by obtain ⟨y, hy, rfl⟩ := List.mem_map.1 hx; exact (hg0_1 y hy).2⟩⟩ (rg_i64 w1) (rg_i64 w2) (rg_i64 w3) ⟨by rw [← hl24]; exact hm4, fun x hx => by obtain ⟨y, hy, rfl⟩ := List.mem_map.1 hx; exact (hg4 y hy).2⟩ ⟨by rw [← hl25_0]; exact hm5_0, fun x hx => by obtain ⟨y, hy, rfl⟩ := List.mem_map.1 hx; exact (hg5_0 y hy).2⟩) W A0_1 css0_1.length c0_1 ys0_1 hl20_1 hr0_1 ⟨⟨rfl, fun y hy => (hg0_1 y hy).1.1⟩, fun y hy => (hg0_1 y hy).1.2⟩ A4 css4.length c4 ys4 hl24 hr4 ⟨⟨rfl, fun y hy => (hg4 y hy).1.1⟩, fun y hy => (hg4 y hy).1.2⟩ A5_0 css5_0.length c5_0 ys5_0 hl25_0 hr5_0 ⟨⟨rfl, fun y hy => (hg5_0 y hy).1.1⟩, fun y hy => (hg5_0 y hy).1.2⟩).mono fun e W' ⟨he, hg⟩ => ?_
  subst he
  have bel := hg.below
  exact ⟨_, rfl, _, _, _, [], _, [], hW', trodAll_mk1 (shut_bool Tryz.underlying4 _), (trodAll_cons_mk (Below.trod laidOut (by kernel_rfl) (of_decide_eq_true (by kernel_rfl)) k0 bel lt0) (trodAll_cons_mk (Below.trod laidOut (by kernel_rfl) (of_decide_eq_true (by kernel_rfl)) k1 bel lt1) (trodAll_cons_mk (Below.trod laidOut (by kernel_rfl) (of_decide_eq_true (by kernel_rfl)) k2 bel lt2) (trodAll_cons_mk (Below.trod laidOut (by kernel_rfl) (of_decide_eq_true (by kernel_rfl)) k3 bel lt3) (trodAll_cons_mk (Below.trod laidOut (by kernel_rfl) (of_decide_eq_true (by kernel_rfl)) k4 bel lt4) (trodAll_cons_mk (Below.trod laidOut (by kernel_rfl) (of_decide_eq_true (by kernel_rfl)) k5 bel lt5) trodAll_mk0)))))), rfl, bel.frame _, fun h => by cases h⟩

theorem over : Rows.cartFrontsRow.holds Tryz.pinned (OpenSpec.ofChange Rows.cartFrontsSpec) :=
  OpenClaim.holds_of_wide 14 Tryz.f14 rfl rfl rfl rfl rfl rfl rfl ⟨rfl, rfl, rfl, rfl, rfl⟩ rfl rfl rfl rfl rfl (by kernel_rfl) Tryz.func14 (by kernel_rfl)
    (of_decide_eq_true (by kernel_rfl)) (by unfold Func.isWrapper; first | (rw [if_pos (by decide +kernel)]; kernel_rfl) | (rw [if_neg (by decide +kernel)]; exact ⟨rfl, rfl⟩))
    (fun os started H enc _ => lifted os started H enc)
end Go.Proofs.YthndghnkebboaaaGreat.cartFronts
namespace Go.Proofs.YthndghnkebboaaaGreat
/-- The statement. -/
theorem CartFronts_holds : Rows.CartFrontsSaid := cartFronts.over
#print axioms CartFronts_holds
end Go.Proofs.YthndghnkebboaaaGreat
