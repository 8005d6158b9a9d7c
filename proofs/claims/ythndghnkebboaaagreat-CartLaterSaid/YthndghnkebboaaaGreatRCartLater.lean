import Derived.Test.YthndghnkebboaaaGreatRows
import Derived.Test.YthndghnkebboaaaGreatLz
import Derived.Test.YthndghnkebboaaaGreatGk
import Derived.Test.YthndghnkebboaaaGreatC26
/- The statement 'CartLaterSaid': whatever the input, the law returns true, and the input reads as it did. No condition. -/
namespace Go.Proofs.YthndghnkebboaaaGreat.cartLater
open Go.ChangeShapes Go.WideShapes Go.ChangeAt Go.RowKit
set_option linter.unusedVariables false

theorem own : ownKnob Tryz.prog.godebug = none := by kernel_rfl
theorem laidOut : laidOutB Tryz.prog = true := by kernel_rfl
theorem fl53 : flatB Tryz.prog 8 53 [.sl [.i .i64, .i .i64, .i .i64], .sl [.i .i64, .i .i64, .i .i64, .i .i64, .i .i64]] = true := by kernel_rfl
theorem ag53 : isAggB Tryz.prog 53 = true := by kernel_rfl
theorem cl53 : Tryz.prog.cellsOf 53 = 2 := by kernel_rfl
theorem conv_69 {W : World} {m : Nat} : ∀ cs, All2 (Lf.okN W (m + 1)) [.i .i64, .i .i64, .i .i64] cs → ∃ x : TBay, TBay_cells x = cs ∧ TBay_rg x := by
  intro cs h
  obtain ⟨_, _, rfl, hx0, h0⟩ := h.inv
  obtain ⟨x0, rfl, w0⟩ := okN_i hx0
  obtain ⟨_, _, rfl, hx1, h1⟩ := h0.inv
  obtain ⟨x1, rfl, w1⟩ := okN_i hx1
  obtain ⟨_, _, rfl, hx2, h2⟩ := h1.inv
  obtain ⟨x2, rfl, w2⟩ := okN_i hx2
  obtain rfl := h2.inv0
  exact ⟨(TBay.mk x0 x1 x2), rfl, ⟨(rg_i64 w0), (rg_i64 w1), (rg_i64 w2)⟩⟩

theorem conv_65 {W : World} {m : Nat} : ∀ cs, All2 (Lf.okN W (m + 1)) [.i .i64, .i .i64, .i .i64, .i .i64, .i .i64] cs → ∃ x : TO, TOrder_cells x = cs ∧ TOrder_rg x := by
  intro cs h
  obtain ⟨_, _, rfl, hx0, h0⟩ := h.inv
  obtain ⟨x0, rfl, w0⟩ := okN_i hx0
  obtain ⟨_, _, rfl, hx1, h1⟩ := h0.inv
  obtain ⟨x1, rfl, w1⟩ := okN_i hx1
  obtain ⟨_, _, rfl, hx2, h2⟩ := h1.inv
  obtain ⟨x2, rfl, w2⟩ := okN_i hx2
  obtain ⟨_, _, rfl, hx3, h3⟩ := h2.inv
  obtain ⟨x3, rfl, w3⟩ := okN_i hx3
  obtain ⟨_, _, rfl, hx4, h4⟩ := h3.inv
  obtain ⟨x4, rfl, w4⟩ := okN_i hx4
  obtain rfl := h4.inv0
  exact ⟨(TO.mk x0 (TSpan.mk x1 x2) x3 x4), rfl, ⟨(rg_i64 w0), (rg_i64 w1), (rg_i64 w2), (rg_i64 w3), (rg_i64 w4)⟩⟩

theorem fl71 : flatB Tryz.prog 8 71 [.sl [.i .i64], .i .i64, .sl [.i .i64]] = true := by kernel_rfl
theorem ag71 : isAggB Tryz.prog 71 = true := by kernel_rfl
theorem cl71 : Tryz.prog.cellsOf 71 = 3 := by kernel_rfl
theorem conv_3 {W : World} {m : Nat} : ∀ cs, All2 (Lf.okN W (m + 1)) [.i .i64] cs → ∃ x : Int, cI x = cs ∧ Rg_i64 x := by
  intro cs h
  obtain ⟨_, _, rfl, hx0, h0⟩ := h.inv
  obtain ⟨x0, rfl, w0⟩ := okN_i hx0
  obtain rfl := h0.inv0
  exact ⟨x0, rfl, (rg_i64 w0)⟩

theorem fl65 : flatB Tryz.prog 8 65 [.i .i64, .i .i64, .i .i64, .i .i64, .i .i64] = true := by kernel_rfl
theorem ag65 : isAggB Tryz.prog 65 = true := by kernel_rfl
theorem cl65 : Tryz.prog.cellsOf 65 = 5 := by kernel_rfl
set_option maxRecDepth 100000 in
theorem lifted (os : Os) (started : os.Started) (H : Type) (enc : TypeId × Value → H) :
    ReturnsInHanded {} Tryz.checked os 13 .any (Rows.cartLaterSpec.pre6 enc Tryz.prog Tryz.f13 Rows.cartLaterRow.domain false) (Rows.cartLaterSpec.post enc Tryz.prog Tryz.f13 false true false false) := by
  refine returnsInHanded_of_change (C := Tryz.checked) own started (by kernel_rfl) Tryz.func13
    (ChangeSpec.witness6 (enc := enc) (C := Tryz.checked) false ⟨#[], #[.agg #[.slice none 0 0, .slice none 0 0], .agg #[.slice none 0 0, .int .i64 0, .slice none 0 0], .agg #[.int .i64 0, .int .i64 0, .int .i64 0, .int .i64 0, .int .i64 0]], []⟩ 8 (by kernel_rfl) (by kernel_rfl) (by kernel_rfl) (by kernel_rfl)) ?_
  intro W base args ds gs before hval0 hW hcnd _
  have hval : ∀ (j : Nat) t v, Tryz.f13.params[j]? = some t → args[j]? = some v → Value.okWide Tryz.prog W .any base t v := hval0
  have hW' := hW
  obtain ⟨p, q, hA0, hV, rfl, hfz, hnd⟩ := hW
  have hA : DataW.TrodAll enc Tryz.prog W 0 (fun _ => true) true Tryz.f13.params.toList args.toList ds p := hA0
  rw [Tryz.params13] at hA hval
  obtain ⟨v0, vs0, d0, ds0, p0, q0, hargs, rfl, rfl, h0, r0⟩ := trodAll_cons hA
  obtain ⟨v1, vs1, d1, ds1, p1, q1, rfl, rfl, rfl, h1, r1⟩ := trodAll_cons r0
  obtain ⟨v2, vs2, d2, ds2, p2, q2, rfl, rfl, rfl, h2, r2⟩ := trodAll_cons r1
  obtain ⟨rfl, rfl, rfl⟩ := trodAll_nil r2
  obtain rfl : args = #[v0, v1, v2] := by cases args; simp_all
  obtain ⟨rfl, rfl⟩ := trodVars_none hV
  have k0 := h0
  have lt0 : ∀ x ∈ p0, x.block < W.heap.size := by obtain ⟨m, hm⟩ := k0; exact DataW.trod_lt m _ _ _ hm
  have k1 := h1
  have lt1 : ∀ x ∈ p1, x.block < W.heap.size := by obtain ⟨m, hm⟩ := k1; exact DataW.trod_lt m _ _ _ hm
  have k2 := h2
  have lt2 : ∀ x ∈ p2, x.block < W.heap.size := by obtain ⟨m, hm⟩ := k2; exact DataW.trod_lt m _ _ _ hm
  obtain ⟨ws0, rfl, hws0⟩ := open_flat _ fl53 ag53 cl53 (hval 0 53 v0 rfl rfl) h0
  obtain ⟨_, _, rfl, hx0_0, hws0_0⟩ := hws0.inv
  obtain ⟨A0_0, n0_0, c0_0, rfl, css0_0, rfl, hm0_0, hr0_0, he0_0⟩ := okN_sl hx0_0
  obtain ⟨_, _, rfl, hx0_1, hws0_1⟩ := hws0_0.inv
  obtain ⟨A0_1, n0_1, c0_1, rfl, css0_1, rfl, hm0_1, hr0_1, he0_1⟩ := okN_sl hx0_1
  obtain rfl := hws0_1.inv0
  obtain ⟨xs0_0, hl0_0, hf0_0, hg0_0⟩ := rows_with conv_69 css0_0 he0_0
  rw [hf0_0] at hr0_0
  obtain ⟨xs0_1, hl0_1, hf0_1, hg0_1⟩ := rows_with conv_65 css0_1 he0_1
  rw [hf0_1] at hr0_1
  obtain ⟨ws1, rfl, hws1⟩ := open_flat _ fl71 ag71 cl71 (hval 1 71 v1 rfl rfl) h1
  obtain ⟨_, _, rfl, hx1_0, hws1_0⟩ := hws1.inv
  obtain ⟨A1_0, n1_0, c1_0, rfl, css1_0, rfl, hm1_0, hr1_0, he1_0⟩ := okN_sl hx1_0
  obtain ⟨_, _, rfl, hx1_1, hws1_1⟩ := hws1_0.inv
  obtain ⟨x1_1, rfl, w1_1⟩ := okN_i hx1_1
  obtain ⟨_, _, rfl, hx1_2, hws1_2⟩ := hws1_1.inv
  obtain ⟨A1_2, n1_2, c1_2, rfl, css1_2, rfl, hm1_2, hr1_2, he1_2⟩ := okN_sl hx1_2
  obtain rfl := hws1_2.inv0
  obtain ⟨xs1_0, hl1_0, hf1_0, hg1_0⟩ := rows_with conv_3 css1_0 he1_0
  rw [hf1_0] at hr1_0
  obtain ⟨xs1_2, hl1_2, hf1_2, hg1_2⟩ := rows_with conv_3 css1_2 he1_2
  rw [hf1_2] at hr1_2
  obtain ⟨ws2, rfl, hws2⟩ := open_flat _ fl65 ag65 cl65 (hval 2 65 v2 rfl rfl) h2
  obtain ⟨_, _, rfl, hx2_0, hws2_0⟩ := hws2.inv
  obtain ⟨x2_0, rfl, w2_0⟩ := okN_i hx2_0
  obtain ⟨_, _, rfl, hx2_1, hws2_1⟩ := hws2_0.inv
  obtain ⟨x2_1, rfl, w2_1⟩ := okN_i hx2_1
  obtain ⟨_, _, rfl, hx2_2, hws2_2⟩ := hws2_1.inv
  obtain ⟨x2_2, rfl, w2_2⟩ := okN_i hx2_2
  obtain ⟨_, _, rfl, hx2_3, hws2_3⟩ := hws2_2.inv
  obtain ⟨x2_3, rfl, w2_3⟩ := okN_i hx2_3
  obtain ⟨_, _, rfl, hx2_4, hws2_4⟩ := hws2_3.inv
  obtain ⟨x2_4, rfl, w2_4⟩ := okN_i hx2_4
  obtain rfl := hws2_4.inv0
  clear hA0 hval0
  refine (calxlaw05_CartLater_ok (TY.mk xs0_0 xs0_1) (TPlan.mk xs1_0 x1_1 xs1_2) (TO.mk x2_0 (TSpan.mk x2_1 x2_2) x2_3 x2_4) true (CartLater_true (TY.mk xs0_0 xs0_1) (TPlan.mk xs1_0 x1_1 xs1_2) (TO.mk x2_0 (TSpan.mk x2_1 x2_2) x2_3 x2_4) ⟨⟨by rw [← hl0_0]; exact hm0_0, hg0_0⟩, ⟨by rw [← hl0_1]; exact hm0_1, hg0_1⟩⟩ ⟨⟨by rw [← hl1_0]; exact hm1_0, hg1_0⟩, (rg_i64 w1_1), ⟨by rw [← hl1_2]; exact hm1_2, hg1_2⟩⟩ ⟨(rg_i64 w2_0), (rg_i64 w2_1), (rg_i64 w2_2), (rg_i64 w2_3), (rg_i64 w2_4)⟩) W A0_0 css0_0.length c0_0 hl0_0 hr0_0 A0_1 css0_1.length c0_1 hl0_1 hr0_1 A1_0 css1_0.length c1_0 hl1_0 hr1_0 A1_2 css1_2.length c1_2 hl1_2 hr1_2).mono fun e W' ⟨he, hg⟩ => ?_
  subst he
  have bel := hg.below
  exact ⟨_, rfl, _, _, _, [], _, [], hW', trodAll_mk1 (shut_bool Tryz.underlying4 _), (trodAll_cons_mk (Below.trod laidOut (by kernel_rfl) (of_decide_eq_true (by kernel_rfl)) k0 bel lt0) (trodAll_cons_mk (Below.trod laidOut (by kernel_rfl) (of_decide_eq_true (by kernel_rfl)) k1 bel lt1) (trodAll_cons_mk (Below.trod laidOut (by kernel_rfl) (of_decide_eq_true (by kernel_rfl)) k2 bel lt2) trodAll_mk0))), rfl, bel.frame _, fun h => by cases h⟩

theorem over : Rows.cartLaterRow.holds Tryz.pinned (OpenSpec.ofChange Rows.cartLaterSpec) :=
  OpenClaim.holds_of_wide 13 Tryz.f13 rfl rfl rfl rfl rfl rfl rfl ⟨rfl, rfl, rfl, rfl, rfl⟩ rfl rfl rfl rfl rfl (by kernel_rfl) Tryz.func13 (by kernel_rfl)
    (of_decide_eq_true (by kernel_rfl)) (by unfold Func.isWrapper; first | (rw [if_pos (by decide +kernel)]; kernel_rfl) | (rw [if_neg (by decide +kernel)]; exact ⟨rfl, rfl⟩))
    (fun os started H enc _ => lifted os started H enc)
end Go.Proofs.YthndghnkebboaaaGreat.cartLater
namespace Go.Proofs.YthndghnkebboaaaGreat
/-- The statement. -/
theorem CartLater_holds : Rows.CartLaterSaid := cartLater.over
#print axioms CartLater_holds
end Go.Proofs.YthndghnkebboaaaGreat
