import Derived.Test.YthndghnkebboaaaGreatRows
import Derived.Test.YthndghnkebboaaaGreatLb
import Derived.Test.YthndghnkebboaaaGreatGy
import Derived.Test.YthndghnkebboaaaGreatC26
/- The statement 'CartBestSaid': whatever the input, the law returns true, and the input reads as it did. No condition. -/
namespace Go.Proofs.YthndghnkebboaaaGreat.cartBest
open Go.ChangeShapes Go.WideShapes Go.ChangeAt Go.RowKit
set_option linter.unusedVariables false

theorem own : ownKnob Tryz.prog.godebug = none := by kernel_rfl
theorem laidOut : laidOutB Tryz.prog = true := by kernel_rfl
theorem fl24 : flatB Tryz.prog 8 24 [.i .i64, .sl [.i .i64, .i .i64, .i .i64, .i .i64, .i .i64, .sl [.i .i64, .i .i64]]] = true := by kernel_rfl
theorem ag24 : isAggB Tryz.prog 24 = true := by kernel_rfl
theorem cl24 : Tryz.prog.cellsOf 24 = 2 := by kernel_rfl
theorem conv_63 {W : World} {m : Nat} : ∀ cs, All2 (Lf.okN W (m + 1)) [.i .i64, .i .i64] cs → ∃ x : TSpan, TSpan_cells x = cs ∧ TSpan_rg x := by
  intro cs h
  obtain ⟨_, _, rfl, hx0, h0⟩ := h.inv
  obtain ⟨x0, rfl, w0⟩ := okN_i hx0
  obtain ⟨_, _, rfl, hx1, h1⟩ := h0.inv
  obtain ⟨x1, rfl, w1⟩ := okN_i hx1
  obtain rfl := h1.inv0
  exact ⟨(TSpan.mk x0 x1), rfl, ⟨(rg_i64 w0), (rg_i64 w1)⟩⟩

theorem conv_120 {W : World} {m : Nat} : ∀ cs, All2 (Lf.okN W (m + 2)) [.i .i64, .i .i64, .i .i64, .i .i64, .i .i64, .sl [.i .i64, .i .i64]] cs → ∃ p : Hd × TT, TTrack_cells2 p = cs ∧ (p.1.2.1 = p.2.fK.length ∧ Rd W p.1.1 p.1.2.1 p.1.2.2 (encL TSpan_cells p.2.fK)) ∧ TTrack_rg p.2 := by
  intro cs h
  obtain ⟨_, _, rfl, hx0, h0⟩ := h.inv
  obtain ⟨x0, rfl, w0⟩ := okN_i hx0
  obtain ⟨_, _, rfl, hx1, h1⟩ := h0.inv
  obtain ⟨x1, rfl, w1⟩ := okN_i hx1
  obtain ⟨_, _, rfl, hx2, h2⟩ := h1.inv
  obtain ⟨x2, rfl, w2⟩ := okN_i hx2
  obtain ⟨_, _, rfl, hx3, h3⟩ := h2.inv
  obtain ⟨x3, rfl, w3⟩ := okN_i hx3
  obtain ⟨_, _, rfl, hx4, h4⟩ := h3.inv
  obtain ⟨x4, rfl, w4⟩ := okN_i hx4
  obtain ⟨_, _, rfl, hx5, h5⟩ := h4.inv
  obtain ⟨A, n, c, rfl, css, rfl, hm, hr, he⟩ := okN_sl hx5
  obtain ⟨xs, hl, hf, hg⟩ := rows_with conv_63 css he
  rw [hf] at hr
  obtain rfl := h5.inv0
  exact ⟨((A, css.length, c), (TT.mk x0 x1 x2 x3 x4 xs)), rfl, ⟨hl, hr⟩, ⟨(rg_i64 w0), (rg_i64 w1), (rg_i64 w2), (rg_i64 w3), (rg_i64 w4), ⟨by rw [← hl]; exact hm, hg⟩⟩⟩

set_option maxRecDepth 100000 in
theorem lifted (os : Os) (started : os.Started) (H : Type) (enc : TypeId × Value → H) :
    ReturnsInHanded {} Tryz.checked os 4 .any (Rows.cartBestSpec.pre6 enc Tryz.prog Tryz.f4 Rows.cartBestRow.domain false) (Rows.cartBestSpec.post enc Tryz.prog Tryz.f4 false true false false) := by
  refine returnsInHanded_of_change (C := Tryz.checked) own started (by kernel_rfl) Tryz.func4
    (ChangeSpec.witness6 (enc := enc) (C := Tryz.checked) false ⟨#[], #[.agg #[.int .i64 0, .slice none 0 0], .int .i64 0, .int .i64 0, .int .i64 0, .int .i64 0], []⟩ 8 (by kernel_rfl) (by kernel_rfl) (by kernel_rfl) (by kernel_rfl)) ?_
  intro W base args ds gs before hval0 hW hcnd _
  have hval : ∀ (j : Nat) t v, Tryz.f4.params[j]? = some t → args[j]? = some v → Value.okWide Tryz.prog W .any base t v := hval0
  have hW' := hW
  obtain ⟨p, q, hA0, hV, rfl, hfz, hnd⟩ := hW
  have hA : DataW.TrodAll enc Tryz.prog W 0 (fun _ => true) true Tryz.f4.params.toList args.toList ds p := hA0
  rw [Tryz.params4] at hA hval
  obtain ⟨v0, vs0, d0, ds0, p0, q0, hargs, rfl, rfl, h0, r0⟩ := trodAll_cons hA
  obtain ⟨v1, vs1, d1, ds1, p1, q1, rfl, rfl, rfl, h1, r1⟩ := trodAll_cons r0
  obtain ⟨v2, vs2, d2, ds2, p2, q2, rfl, rfl, rfl, h2, r2⟩ := trodAll_cons r1
  obtain ⟨v3, vs3, d3, ds3, p3, q3, rfl, rfl, rfl, h3, r3⟩ := trodAll_cons r2
  obtain ⟨v4, vs4, d4, ds4, p4, q4, rfl, rfl, rfl, h4, r4⟩ := trodAll_cons r3
  obtain ⟨rfl, rfl, rfl⟩ := trodAll_nil r4
  obtain rfl : args = #[v0, v1, v2, v3, v4] := by cases args; simp_all
  obtain ⟨rfl, rfl⟩ := trodVars_none hV
  have k0 := h0
  have lt0 : ∀ x ∈ p0, x.block < W.heap.size := by obtain ⟨m, hm⟩ := k0; exact DataW.trod_lt m _ _ _ hm
  have k1 := h1
  have lt1 : ∀ x ∈ p1, x.block < W.heap.size := by obtain ⟨m, hm⟩ := k1; exact DataW.trod_lt m _ _ _ hm
  have k2 := h2
  have lt2 : ∀ x ∈ p2, x.block < W.heap.size := by obtain ⟨m, hm⟩ := k2; exact DataW.trod_lt m _ _ _ hm
  have k3 := h3
  have lt3 : ∀ x ∈ p3, x.block < W.heap.size := by obtain ⟨m, hm⟩ := k3; exact DataW.trod_lt m _ _ _ hm
  have k4 := h4
  have lt4 : ∀ x ∈ p4, x.block < W.heap.size := by obtain ⟨m, hm⟩ := k4; exact DataW.trod_lt m _ _ _ hm
  obtain ⟨ws0, rfl, hws0⟩ := open_flat _ fl24 ag24 cl24 (hval 0 24 v0 rfl rfl) h0
  obtain ⟨_, _, rfl, hx0_0, hws0_0⟩ := hws0.inv
  obtain ⟨x0_0, rfl, w0_0⟩ := okN_i hx0_0
  obtain ⟨_, _, rfl, hx0_1, hws0_1⟩ := hws0_0.inv
  obtain ⟨A0_1, n0_1, c0_1, rfl, css0_1, rfl, hm0_1, hr0_1, he0_1⟩ := okN_sl hx0_1
  obtain rfl := hws0_1.inv0
  obtain ⟨ys0_1, hl0_1, hf0_1, hg0_1⟩ := rows_with conv_120 css0_1 he0_1
  rw [hf0_1] at hr0_1
  have hl20_1 : css0_1.length = (ys0_1.map Prod.snd).length := by rw [List.length_map]; exact hl0_1
  obtain ⟨a1, rfl, rfl, rfl, w1⟩ := open_int Tryz.underlying3 (hval 1 3 v1 rfl rfl) h1
  obtain ⟨a2, rfl, rfl, rfl, w2⟩ := open_int Tryz.underlying3 (hval 2 3 v2 rfl rfl) h2
  obtain ⟨a3, rfl, rfl, rfl, w3⟩ := open_int Tryz.underlying3 (hval 3 3 v3 rfl rfl) h3
  obtain ⟨a4, rfl, rfl, rfl, w4⟩ := open_int Tryz.underlying3 (hval 4 3 v4 rfl rfl) h4
  clear hA0 hval0
  refine (calxlaw05_CartBest_ok (TR.mk x0_0 (ys0_1.map Prod.snd)) a1 a2 a3 a4 true (CartBest_true (TR.mk x0_0 (ys0_1.map Prod.snd)) a1 a2 a3 a4 ⟨(rg_i64 w0_0), ⟨by rw [← hl20_1]; exact hm0_1, fun x hx => by obtain ⟨y, hy, rfl⟩ := List.mem_map.1 hx; exact (hg0_1 y hy).2⟩⟩ (rg_i64 w1) (rg_i64 w2) (rg_i64 w3) (rg_i64 w4)) W A0_1 css0_1.length c0_1 ys0_1 hl20_1 hr0_1 ⟨⟨rfl, fun y hy => (hg0_1 y hy).1.1⟩, fun y hy => (hg0_1 y hy).1.2⟩).mono fun e W' ⟨he, hg⟩ => ?_
  subst he
  have bel := hg.below
  exact ⟨_, rfl, _, _, _, [], _, [], hW', trodAll_mk1 (shut_bool Tryz.underlying4 _), (trodAll_cons_mk (Below.trod laidOut (by kernel_rfl) (of_decide_eq_true (by kernel_rfl)) k0 bel lt0) (trodAll_cons_mk (Below.trod laidOut (by kernel_rfl) (of_decide_eq_true (by kernel_rfl)) k1 bel lt1) (trodAll_cons_mk (Below.trod laidOut (by kernel_rfl) (of_decide_eq_true (by kernel_rfl)) k2 bel lt2) (trodAll_cons_mk (Below.trod laidOut (by kernel_rfl) (of_decide_eq_true (by kernel_rfl)) k3 bel lt3) (trodAll_cons_mk (Below.trod laidOut (by kernel_rfl) (of_decide_eq_true (by kernel_rfl)) k4 bel lt4) trodAll_mk0))))), rfl, bel.frame _, fun h => by cases h⟩

theorem over : Rows.cartBestRow.holds Tryz.pinned (OpenSpec.ofChange Rows.cartBestSpec) :=
  OpenClaim.holds_of_wide 4 Tryz.f4 rfl rfl rfl rfl rfl rfl rfl ⟨rfl, rfl, rfl, rfl, rfl⟩ rfl rfl rfl rfl rfl (by kernel_rfl) Tryz.func4 (by kernel_rfl)
    (of_decide_eq_true (by kernel_rfl)) (by unfold Func.isWrapper; first | (rw [if_pos (by decide +kernel)]; kernel_rfl) | (rw [if_neg (by decide +kernel)]; exact ⟨rfl, rfl⟩))
    (fun os started H enc _ => lifted os started H enc)
end Go.Proofs.YthndghnkebboaaaGreat.cartBest
namespace Go.Proofs.YthndghnkebboaaaGreat
/-- The statement. -/
theorem CartBest_holds : Rows.CartBestSaid := cartBest.over
#print axioms CartBest_holds
end Go.Proofs.YthndghnkebboaaaGreat
