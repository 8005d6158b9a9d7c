import Derived.Test.YtbblpokfbmekfaaGreatRows
import Derived.Test.YtbblpokfbmekfaaGreatLy
import Derived.Test.YtbblpokfbmekfaaGreatG8
import Derived.Test.YtbblpokfbmekfaaGreatC35
/- The statement 'RecallOthersSaid': whatever the input, the law returns true, and the input reads as it did. No condition. -/
namespace Go.Proofs.YtbblpokfbmekfaaGreat.recallOthers
open Go.ChangeShapes Go.WideShapes Go.ChangeAt Go.RowKit
set_option linter.unusedVariables false

theorem own : ownKnob Tryz.prog.godebug = none := by kernel_rfl
theorem laidOut : laidOutB Tryz.prog = true := by kernel_rfl
theorem fl25 : flatB Tryz.prog 8 25 [.sl [.i .i64, .i .i64, .i .i64], .sl [.i .i64, .sl [.i .i64, .i .i64]]] = true := by kernel_rfl
theorem ag25 : isAggB Tryz.prog 25 = true := by kernel_rfl
theorem cl25 : Tryz.prog.cellsOf 25 = 2 := by kernel_rfl
theorem conv_97 {W : World} {m : Nat} : ∀ cs, All2 (Lf.okN W (m + 1)) [.i .i64, .i .i64, .i .i64] cs → ∃ x : TN, TNode_cells x = cs ∧ TNode_rg x := by
  intro cs h
  obtain ⟨_, _, rfl, hx0, h0⟩ := h.inv
  obtain ⟨x0, rfl, w0⟩ := okN_i hx0
  obtain ⟨_, _, rfl, hx1, h1⟩ := h0.inv
  obtain ⟨x1, rfl, w1⟩ := okN_i hx1
  obtain ⟨_, _, rfl, hx2, h2⟩ := h1.inv
  obtain ⟨x2, rfl, w2⟩ := okN_i hx2
  obtain rfl := h2.inv0
  exact ⟨(TN.mk x0 x1 x2), rfl, ⟨(rg_i64 w0), (rg_i64 w1), (rg_i64 w2)⟩⟩

theorem conv_111 {W : World} {m : Nat} : ∀ cs, All2 (Lf.okN W (m + 1)) [.i .i64, .i .i64] cs → ∃ x : TH, THop_cells x = cs ∧ THop_rg x := by
  intro cs h
  obtain ⟨_, _, rfl, hx0, h0⟩ := h.inv
  obtain ⟨x0, rfl, w0⟩ := okN_i hx0
  obtain ⟨_, _, rfl, hx1, h1⟩ := h0.inv
  obtain ⟨x1, rfl, w1⟩ := okN_i hx1
  obtain rfl := h1.inv0
  exact ⟨(TH.mk x0 x1), rfl, ⟨(rg_i64 w0), (rg_i64 w1)⟩⟩

theorem conv_90 {W : World} {m : Nat} : ∀ cs, All2 (Lf.okN W (m + 2)) [.i .i64, .sl [.i .i64, .i .i64]] cs → ∃ p : Hd × TC, TClaim_cells2 p = cs ∧ (p.1.2.1 = p.2.fO.length ∧ Rd W p.1.1 p.1.2.1 p.1.2.2 (encL THop_cells p.2.fO)) ∧ TClaim_rg p.2 := by
  intro cs h
  obtain ⟨_, _, rfl, hx0, h0⟩ := h.inv
  obtain ⟨x0, rfl, w0⟩ := okN_i hx0
  obtain ⟨_, _, rfl, hx1, h1⟩ := h0.inv
  obtain ⟨A, n, c, rfl, css, rfl, hm, hr, he⟩ := okN_sl hx1
  obtain ⟨xs, hl, hf, hg⟩ := rows_with conv_111 css he
  rw [hf] at hr
  obtain rfl := h1.inv0
  exact ⟨((A, css.length, c), (TC.mk x0 xs)), rfl, ⟨hl, hr⟩, ⟨(rg_i64 w0), ⟨by rw [← hl]; exact hm, hg⟩⟩⟩

theorem conv_3 {W : World} {m : Nat} : ∀ cs, All2 (Lf.okN W (m + 1)) [.i .i64] cs → ∃ x : Int, cI x = cs ∧ Rg_i64 x := by
  intro cs h
  obtain ⟨_, _, rfl, hx0, h0⟩ := h.inv
  obtain ⟨x0, rfl, w0⟩ := okN_i hx0
  obtain rfl := h0.inv0
  exact ⟨x0, rfl, (rg_i64 w0)⟩

theorem fl26 : flatB Tryz.prog 8 26 [.sl [.i .i64]] = true := by kernel_rfl
set_option maxRecDepth 100000 in
theorem lifted (os : Os) (started : os.Started) (H : Type) (enc : TypeId × Value → H) :
    ReturnsInHanded {} Tryz.checked os 12 .any (Rows.recallOthersSpec.pre6 enc Tryz.prog Tryz.f12 Rows.recallOthersRow.domain false) (Rows.recallOthersSpec.post enc Tryz.prog Tryz.f12 false true false false) := by
  refine returnsInHanded_of_change (C := Tryz.checked) own started (by kernel_rfl) Tryz.func12
    (ChangeSpec.witness6 (enc := enc) (C := Tryz.checked) false ⟨#[], #[.agg #[.slice none 0 0, .slice none 0 0], .agg #[.slice none 0 0, .slice none 0 0], .int .i64 0, .int .i64 0, .slice none 0 0], []⟩ 8 (by kernel_rfl) (by kernel_rfl) (by kernel_rfl) (by kernel_rfl)) ?_
  intro W base args ds gs before hval0 hW hcnd _
  have hval : ∀ (j : Nat) t v, Tryz.f12.params[j]? = some t → args[j]? = some v → Value.okWide Tryz.prog W .any base t v := hval0
  have hW' := hW
  obtain ⟨p, q, hA0, hV, rfl, hfz, hnd⟩ := hW
  have hA : DataW.TrodAll enc Tryz.prog W 0 (fun _ => true) true Tryz.f12.params.toList args.toList ds p := hA0
  rw [Tryz.params12] at hA hval
  obtain ⟨v0, vs0, d0, ds0, p0, q0, hargs, rfl, rfl, h0, r0⟩ := trodAll_cons hA
  obtain ⟨v1, vs1, d1, ds1, p1, q1, rfl, rfl, rfl, h1, r1⟩ := trodAll_cons r0
  obtain ⟨v2, vs2, d2, ds2, p2, q2, rfl, rfl, rfl, h2, r2⟩ := trodAll_cons r1
  obtain ⟨v3, vs3, d3, ds3, p3, q3, rfl, rfl, rfl, h3, r3⟩ := trodAll_cons r2
  obtain ⟨v4, vs4, d4, ds4, p4, q4, rfl, rfl, rfl, h4, r4⟩ := trodAll_cons r3
  obtain ⟨rfl, rfl, rfl⟩ := trodAll_nil r4
  obtain rfl : args = #[v0, v1, v2, v3, v4] := by cases args; simp_all
  obtain ⟨rfl, rfl⟩ := trodVars_none hV
  have k0 := h0
  have lt0 : ∀ x ∈ p0, x.block < W.heap.size := by obtain ⟨m, hm⟩ := k0; exact DataW.trod_lt m _ _ _ hm
  have k1 := h1
  have lt1 : ∀ x ∈ p1, x.block < W.heap.size := by obtain ⟨m, hm⟩ := k1; exact DataW.trod_lt m _ _ _ hm
  have k2 := h2
  have lt2 : ∀ x ∈ p2, x.block < W.heap.size := by obtain ⟨m, hm⟩ := k2; exact DataW.trod_lt m _ _ _ hm
  have k3 := h3
  have lt3 : ∀ x ∈ p3, x.block < W.heap.size := by obtain ⟨m, hm⟩ := k3; exact DataW.trod_lt m _ _ _ hm
  have k4 := h4
  have lt4 : ∀ x ∈ p4, x.block < W.heap.size := by obtain ⟨m, hm⟩ := k4; exact DataW.trod_lt m _ _ _ hm
  obtain ⟨ws0, rfl, hws0⟩ := open_flat _ fl25 ag25 cl25 (hval 0 25 v0 rfl rfl) h0
  obtain ⟨_, _, rfl, hx0_0, hws0_0⟩ := hws0.inv
  obtain ⟨A0_0, n0_0, c0_0, rfl, css0_0, rfl, hm0_0, hr0_0, he0_0⟩ := okN_sl hx0_0
  obtain ⟨_, _, rfl, hx0_1, hws0_1⟩ := hws0_0.inv
  obtain ⟨A0_1, n0_1, c0_1, rfl, css0_1, rfl, hm0_1, hr0_1, he0_1⟩ := okN_sl hx0_1
  obtain rfl := hws0_1.inv0
  obtain ⟨xs0_0, hl0_0, hf0_0, hg0_0⟩ := rows_with conv_97 css0_0 he0_0
  rw [hf0_0] at hr0_0
  obtain ⟨ys0_1, hl0_1, hf0_1, hg0_1⟩ := rows_with conv_90 css0_1 he0_1
  rw [hf0_1] at hr0_1
  have hl20_1 : css0_1.length = (ys0_1.map Prod.snd).length := by rw [List.length_map]; exact hl0_1
  obtain ⟨ws1, rfl, hws1⟩ := open_flat _ fl25 ag25 cl25 (hval 1 25 v1 rfl rfl) h1
  obtain ⟨_, _, rfl, hx1_0, hws1_0⟩ := hws1.inv
  obtain ⟨A1_0, n1_0, c1_0, rfl, css1_0, rfl, hm1_0, hr1_0, he1_0⟩ := okN_sl hx1_0
  obtain ⟨_, _, rfl, hx1_1, hws1_1⟩ := hws1_0.inv
  obtain ⟨A1_1, n1_1, c1_1, rfl, css1_1, rfl, hm1_1, hr1_1, he1_1⟩ := okN_sl hx1_1
  obtain rfl := hws1_1.inv0
  obtain ⟨xs1_0, hl1_0, hf1_0, hg1_0⟩ := rows_with conv_97 css1_0 he1_0
  rw [hf1_0] at hr1_0
  obtain ⟨ys1_1, hl1_1, hf1_1, hg1_1⟩ := rows_with conv_90 css1_1 he1_1
  rw [hf1_1] at hr1_1
  have hl21_1 : css1_1.length = (ys1_1.map Prod.snd).length := by rw [List.length_map]; exact hl1_1
  obtain ⟨a2, rfl, rfl, rfl, w2⟩ := open_int Tryz.underlying3 (hval 2 3 v2 rfl rfl) h2
  obtain ⟨a3, rfl, rfl, rfl, w3⟩ := open_int Tryz.underlying3 (hval 3 3 v3 rfl rfl) h3
  obtain ⟨A4, n4, c4, rfl, css4, rfl, hm4, hr4, he4⟩ := open_sl ([.i .i64]) Tryz.underlying26 fl26 (hval 4 26 v4 rfl rfl) h4
  obtain ⟨xs4, hl4, hf4, hg4⟩ := rows_with conv_3 css4 he4
  rw [hf4] at hr4
  clear hA0 hval0
  refine (calxlaw09_RecallOthers_ok (TL.mk xs0_0 (ys0_1.map Prod.snd)) (TL.mk xs1_0 (ys1_1.map Prod.snd)) a2 a3 xs4 true (RecallOthers_true (TL.mk xs0_0 (ys0_1.map Prod.snd)) (TL.mk xs1_0 (ys1_1.map Prod.snd)) a2 a3 xs4 ⟨⟨by rw [← hl0_0]; exact hm0_0, hg0_0⟩, ⟨by rw [← hl20_1]; exact hm0_1, fun x hx => by obtain ⟨y, hy, rfl⟩ := List.mem_map.1 hx; exact (hg0_1 y hy).2⟩⟩ ⟨⟨by rw [← hl1_0]; exact hm1_0, hg1_0⟩, ⟨by rw [← hl21_1]; exact hm1_1, fun x hx => by obtain ⟨y, hy, rfl⟩ := List.mem_map.1 hx; exact (hg1_1 y hy).2⟩⟩ (rg_i64 w2) (rg_i64 w3) ⟨by rw [← hl4]; exact hm4, hg4⟩) W A0_0 css0_0.length c0_0 hl0_0 hr0_0 A0_1 css0_1.length c0_1 ys0_1 hl20_1 hr0_1 ⟨⟨rfl, fun y hy => (hg0_1 y hy).1.1⟩, fun y hy => (hg0_1 y hy).1.2⟩ A1_0 css1_0.length c1_0 hl1_0 hr1_0 A1_1 css1_1.length c1_1 ys1_1 hl21_1 hr1_1 ⟨⟨rfl, fun y hy => (hg1_1 y hy).1.1⟩, fun y hy => (hg1_1 y hy).1.2⟩ A4 css4.length c4 hl4 hr4).mono fun e W' ⟨he, hg⟩ => ?_
  subst he
  have bel := hg.below
  exact ⟨_, rfl, _, _, _, [], _, [], hW', trodAll_mk1 (shut_bool Tryz.underlying4 _), (trodAll_cons_mk (Below.trod laidOut (by kernel_rfl) (of_decide_eq_true (by kernel_rfl)) k0 bel lt0) (trodAll_cons_mk (Below.trod laidOut (by kernel_rfl) (of_decide_eq_true (by kernel_rfl)) k1 bel lt1) (trodAll_cons_mk (Below.trod laidOut (by kernel_rfl) (of_decide_eq_true (by kernel_rfl)) k2 bel lt2) (trodAll_cons_mk (Below.trod laidOut (by kernel_rfl) (of_decide_eq_true (by kernel_rfl)) k3 bel lt3) (trodAll_cons_mk (Below.trod laidOut (by kernel_rfl) (of_decide_eq_true (by kernel_rfl)) k4 bel lt4) trodAll_mk0))))), rfl, bel.frame _, fun h => by cases h⟩

theorem over : Rows.recallOthersRow.holds Tryz.pinned (OpenSpec.ofChange Rows.recallOthersSpec) :=
  OpenClaim.holds_of_wide 12 Tryz.f12 rfl rfl rfl rfl rfl rfl rfl ⟨rfl, rfl, rfl, rfl, rfl⟩ rfl rfl rfl rfl rfl (by kernel_rfl) Tryz.func12 (by kernel_rfl)
    (of_decide_eq_true (by kernel_rfl)) (by unfold Func.isWrapper; first | (rw [if_pos (by decide +kernel)]; kernel_rfl) | (rw [if_neg (by decide +kernel)]; exact ⟨rfl, rfl⟩))
    (fun os started H enc _ => lifted os started H enc)
end Go.Proofs.YtbblpokfbmekfaaGreat.recallOthers
namespace Go.Proofs.YtbblpokfbmekfaaGreat
/-- The statement. -/
theorem RecallOthers_holds : Rows.RecallOthersSaid := recallOthers.over
#print axioms RecallOthers_holds
end Go.Proofs.YtbblpokfbmekfaaGreat
