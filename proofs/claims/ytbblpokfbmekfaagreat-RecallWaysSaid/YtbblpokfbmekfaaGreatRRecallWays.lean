import Derived.Test.YtbblpokfbmekfaaGreatRows
import Derived.Test.YtbblpokfbmekfaaGreatLw
import Derived.Test.YtbblpokfbmekfaaGreatG8
import Derived.Test.YtbblpokfbmekfaaGreatC29
/- The statement 'RecallWaysSaid': whatever the input, the law returns true, and the input reads as it did. No condition. -/
namespace Go.Proofs.YtbblpokfbmekfaaGreat.recallWays
open Go.ChangeShapes Go.WideShapes Go.ChangeAt Go.RowKit
set_option linter.unusedVariables false

theorem own : ownKnob Tryz.prog.godebug = none := by kernel_rfl
theorem laidOut : laidOutB Tryz.prog = true := by kernel_rfl
theorem fl25 : flatB Tryz.prog 8 25 [.sl [.i .i64, .i .i64, .i .i64], .sl [.i .i64, .sl [.i .i64, .i .i64]]] = true := by kernel_rfl
theorem ag25 : isAggB Tryz.prog 25 = true := by kernel_rfl
theorem cl25 : Tryz.prog.cellsOf 25 = 2 := by kernel_rfl
theorem conv_97 {W : World} {m : Nat} : ∀ cs, All2 (Lf.okN W (m + 1)) [.i .i64, .i .i64, .i .i64] cs → ∃ x : TN, TNode_cells x = cs ∧ TNode_rg x := by
  intro cs h
  obtain ⟨_, _, rfl, hx0, h0⟩ := h.inv
  obtain ⟨x0, rfl, w0⟩ := okN_i hx0
  obtain ⟨_, _, rfl, hx1, h1⟩ := h0.inv
  obtain ⟨x1, rfl, w1⟩ := okN_i hx1
  obtain ⟨_, _, rfl, hx2, h2⟩ := h1.inv
  obtain ⟨x2, rfl, w2⟩ := okN_i hx2
  obtain rfl := h2.inv0
  exact ⟨(TN.mk x0 x1 x2), rfl, ⟨(rg_i64 w0), (rg_i64 w1), (rg_i64 w2)⟩⟩

theorem conv_111 {W : World} {m : Nat} : ∀ cs, All2 (Lf.okN W (m + 1)) [.i .i64, .i .i64] cs → ∃ x : TH, THop_cells x = cs ∧ THop_rg x := by
  intro cs h
  obtain ⟨_, _, rfl, hx0, h0⟩ := h.inv
  obtain ⟨x0, rfl, w0⟩ := okN_i hx0
  obtain ⟨_, _, rfl, hx1, h1⟩ := h0.inv
  obtain ⟨x1, rfl, w1⟩ := okN_i hx1
  obtain rfl := h1.inv0
  exact ⟨(TH.mk x0 x1), rfl, ⟨(rg_i64 w0), (rg_i64 w1)⟩⟩

theorem conv_90 {W : World} {m : Nat} : ∀ cs, All2 (Lf.okN W (m + 2)) [.i .i64, .sl [.i .i64, .i .i64]] cs → ∃ p : Hd × TC, TClaim_cells2 p = cs ∧ (p.1.2.1 = p.2.fO.length ∧ Rd W p.1.1 p.1.2.1 p.1.2.2 (encL THop_cells p.2.fO)) ∧ TClaim_rg p.2 := by
  intro cs h
  obtain ⟨_, _, rfl, hx0, h0⟩ := h.inv
  obtain ⟨x0, rfl, w0⟩ := okN_i hx0
  obtain ⟨_, _, rfl, hx1, h1⟩ := h0.inv
  obtain ⟨A, n, c, rfl, css, rfl, hm, hr, he⟩ := okN_sl hx1
  obtain ⟨xs, hl, hf, hg⟩ := rows_with conv_111 css he
  rw [hf] at hr
  obtain rfl := h1.inv0
  exact ⟨((A, css.length, c), (TC.mk x0 xs)), rfl, ⟨hl, hr⟩, ⟨(rg_i64 w0), ⟨by rw [← hl]; exact hm, hg⟩⟩⟩

theorem conv_3 {W : World} {m : Nat} : ∀ cs, All2 (Lf.okN W (m + 1)) [.i .i64] cs → ∃ x : Int, cI x = cs ∧ Rg_i64 x := by
  intro cs h
  obtain ⟨_, _, rfl, hx0, h0⟩ := h.inv
  obtain ⟨x0, rfl, w0⟩ := okN_i hx0
  obtain rfl := h0.inv0
  exact ⟨x0, rfl, (rg_i64 w0)⟩

theorem fl26 : flatB Tryz.prog 8 26 [.sl [.i .i64]] = true := by kernel_rfl
theorem fl64 : flatB Tryz.prog 8 64 [.sl [.i .i64], .sl [.i .i64]] = true := by kernel_rfl
theorem ag64 : isAggB Tryz.prog 64 = true := by kernel_rfl
theorem cl64 : Tryz.prog.cellsOf 64 = 2 := by kernel_rfl
set_option maxRecDepth 100000 in
theorem lifted (os : Os) (started : os.Started) (H : Type) (enc : TypeId × Value → H) :
    ReturnsInHanded {} Tryz.checked os 9 .any (Rows.recallWaysSpec.pre6 enc Tryz.prog Tryz.f9 Rows.recallWaysRow.domain false) (Rows.recallWaysSpec.post enc Tryz.prog Tryz.f9 false true false false) := by
  refine returnsInHanded_of_change (C := Tryz.checked) own started (by kernel_rfl) Tryz.func9
    (ChangeSpec.witness6 (enc := enc) (C := Tryz.checked) false ⟨#[], #[.agg #[.slice none 0 0, .slice none 0 0], .slice none 0 0, .int .i64 0, .agg #[.slice none 0 0, .slice none 0 0], .int .u8 0, .int .u8 0, .int .i64 0], []⟩ 8 (by kernel_rfl) (by kernel_rfl) (by kernel_rfl) (by kernel_rfl)) ?_
  intro W base args ds gs before hval0 hW hcnd _
  have hval : ∀ (j : Nat) t v, Tryz.f9.params[j]? = some t → args[j]? = some v → Value.okWide Tryz.prog W .any base t v := hval0
  have hW' := hW
  obtain ⟨p, q, hA0, hV, rfl, hfz, hnd⟩ := hW
  have hA : DataW.TrodAll enc Tryz.prog W 0 (fun _ => true) true Tryz.f9.params.toList args.toList ds p := hA0
  rw [Tryz.params9] at hA hval
  obtain ⟨v0, vs0, d0, ds0, p0, q0, hargs, rfl, rfl, h0, r0⟩ := trodAll_cons hA
  obtain ⟨v1, vs1, d1, ds1, p1, q1, rfl, rfl, rfl, h1, r1⟩ := trodAll_cons r0
  obtain ⟨v2, vs2, d2, ds2, p2, q2, rfl, rfl, rfl, h2, r2⟩ := trodAll_cons r1
  obtain ⟨v3, vs3, d3, ds3, p3, q3, rfl, rfl, rfl, h3, r3⟩ := trodAll_cons r2
  obtain ⟨v4, vs4, d4, ds4, p4, q4, rfl, rfl, rfl, h4, r4⟩ := trodAll_cons r3
  obtain ⟨v5, vs5, d5, ds5, p5, q5, rfl, rfl, rfl, h5, r5⟩ := trodAll_cons r4
  obtain ⟨v6, vs6, d6, ds6, p6, q6, rfl, rfl, rfl, h6, r6⟩ := trodAll_cons r5
  obtain ⟨rfl, rfl, rfl⟩ := trodAll_nil r6
  obtain rfl : args = #[v0, v1, v2, v3, v4, v5, v6] := by cases args; simp_all
  obtain ⟨rfl, rfl⟩ := trodVars_none hV
  have k0 := h0
  have lt0 : ∀ x ∈ p0, x.block < W.heap.size := by obtain ⟨m, hm⟩ := k0; exact DataW.trod_lt m _ _ _ hm
  have k1 := h1
  have lt1 : ∀ x ∈ p1, x.block < W.heap.size := by obtain ⟨m, hm⟩ := k1; exact DataW.trod_lt m _ _ _ hm
  have k2 := h2
  have lt2 : ∀ x ∈ p2, x.block < W.heap.size := by obtain ⟨m, hm⟩ := k2; exact DataW.trod_lt m _ _ _ hm
  have k3 := h3
  have lt3 : ∀ x ∈ p3, x.block < W.heap.size := by obtain ⟨m, hm⟩ := k3; exact DataW.trod_lt m _ _ _ hm
  have k4 := h4
  have lt4 : ∀ x ∈ p4, x.block < W.heap.size := by obtain ⟨m, hm⟩ := k4; exact DataW.trod_lt m _ _ _ hm
  have k5 := h5
  have lt5 : ∀ x ∈ p5, x.block < W.heap.size := by obtain ⟨m, hm⟩ := k5; exact DataW.trod_lt m _ _ _ hm
  have k6 := h6
  have lt6 : ∀ x ∈ p6, x.block < W.heap.size := by obtain ⟨m, hm⟩ := k6; exact DataW.trod_lt m _ _ _ hm
  obtain ⟨ws0, rfl, hws0⟩ := open_flat _ fl25 ag25 cl25 (hval 0 25 v0 rfl rfl) h0
  obtain ⟨_, _, rfl, hx0_0, hws0_0⟩ := hws0.inv
  obtain ⟨A0_0, n0_0, c0_0, rfl, css0_0, rfl, hm0_0, hr0_0, he0_0⟩ := okN_sl hx0_0
  obtain ⟨_, _, rfl, hx0_1, hws0_1⟩ := hws0_0.inv
  obtain ⟨A0_1, n0_1, c0_1, rfl, css0_1, rfl, hm0_1, hr0_1, he0_1⟩ := okN_sl hx0_1
  obtain rfl := hws0_1.inv0
  obtain ⟨xs0_0, hl0_0, hf0_0, hg0_0⟩ := rows_with conv_97 css0_0 he0_0
  rw [hf0_0] at hr0_0
  obtain ⟨ys0_1, hl0_1, hf0_1, hg0_1⟩ := rows_with conv_90 css0_1 he0_1
  rw [hf0_1] at hr0_1
  have hl20_1 : css0_1.length = (ys0_1.map Prod.snd).length := by rw [List.length_map]; exact hl0_1
  obtain ⟨A1, n1, c1, rfl, css1, rfl, hm1, hr1, he1⟩ := open_sl ([.i .i64]) Tryz.underlying26 fl26 (hval 1 26 v1 rfl rfl) h1
  obtain ⟨xs1, hl1, hf1, hg1⟩ := rows_with conv_3 css1 he1
  rw [hf1] at hr1
  obtain ⟨a2, rfl, rfl, rfl, w2⟩ := open_int Tryz.underlying3 (hval 2 3 v2 rfl rfl) h2
  obtain ⟨ws3, rfl, hws3⟩ := open_flat _ fl64 ag64 cl64 (hval 3 64 v3 rfl rfl) h3
  obtain ⟨_, _, rfl, hx3_0, hws3_0⟩ := hws3.inv
  obtain ⟨A3_0, n3_0, c3_0, rfl, css3_0, rfl, hm3_0, hr3_0, he3_0⟩ := okN_sl hx3_0
  obtain ⟨_, _, rfl, hx3_1, hws3_1⟩ := hws3_0.inv
  obtain ⟨A3_1, n3_1, c3_1, rfl, css3_1, rfl, hm3_1, hr3_1, he3_1⟩ := okN_sl hx3_1
  obtain rfl := hws3_1.inv0
  obtain ⟨xs3_0, hl3_0, hf3_0, hg3_0⟩ := rows_with conv_3 css3_0 he3_0
  rw [hf3_0] at hr3_0
  obtain ⟨xs3_1, hl3_1, hf3_1, hg3_1⟩ := rows_with conv_3 css3_1 he3_1
  rw [hf3_1] at hr3_1
  obtain ⟨a4, rfl, rfl, rfl, w4⟩ := open_int Tryz.underlying5 (hval 4 5 v4 rfl rfl) h4
  obtain ⟨a5, rfl, rfl, rfl, w5⟩ := open_int Tryz.underlying5 (hval 5 5 v5 rfl rfl) h5
  obtain ⟨a6, rfl, rfl, rfl, w6⟩ := open_int Tryz.underlying3 (hval 6 3 v6 rfl rfl) h6
  clear hA0 hval0
  refine (calxlaw09_RecallWays_ok (TL.mk xs0_0 (ys0_1.map Prod.snd)) xs1 a2 (TTrace.mk xs3_0 xs3_1) a4 a5 a6 true (RecallWays_true (TL.mk xs0_0 (ys0_1.map Prod.snd)) xs1 a2 (TTrace.mk xs3_0 xs3_1) a4 a5 a6 ⟨⟨by rw [← hl0_0]; exact hm0_0, hg0_0⟩, ⟨by rw [← hl20_1]; exact hm0_1, fun x hx => by obtain ⟨y, hy, rfl⟩ := List.mem_map.1 hx; exact (hg0_1 y hy).2⟩⟩ ⟨by rw [← hl1]; exact hm1, hg1⟩ (rg_i64 w2) ⟨⟨by rw [← hl3_0]; exact hm3_0, hg3_0⟩, ⟨by rw [← hl3_1]; exact hm3_1, hg3_1⟩⟩ (rg_u8 w4) (rg_u8 w5) (rg_i64 w6)) W A0_0 css0_0.length c0_0 hl0_0 hr0_0 A0_1 css0_1.length c0_1 ys0_1 hl20_1 hr0_1 ⟨⟨rfl, fun y hy => (hg0_1 y hy).1.1⟩, fun y hy => (hg0_1 y hy).1.2⟩ A1 css1.length c1 hl1 hr1 A3_0 css3_0.length c3_0 hl3_0 hr3_0 A3_1 css3_1.length c3_1 hl3_1 hr3_1).mono fun e W' ⟨he, hg⟩ => ?_
  subst he
  have bel := hg.below
  exact ⟨_, rfl, _, _, _, [], _, [], hW', trodAll_mk1 (shut_bool Tryz.underlying4 _), (trodAll_cons_mk (Below.trod laidOut (by kernel_rfl) (of_decide_eq_true (by kernel_rfl)) k0 bel lt0) (trodAll_cons_mk (Below.trod laidOut (by kernel_rfl) (of_decide_eq_true (by kernel_rfl)) k1 bel lt1) (trodAll_cons_mk (Below.trod laidOut (by kernel_rfl) (of_decide_eq_true (by kernel_rfl)) k2 bel lt2) (trodAll_cons_mk (Below.trod laidOut (by kernel_rfl) (of_decide_eq_true (by kernel_rfl)) k3 bel lt3) (trodAll_cons_mk (Below.trod laidOut (by kernel_rfl) (of_decide_eq_true (by kernel_rfl)) k4 bel lt4) (trodAll_cons_mk (Below.trod laidOut (by kernel_rfl) (of_decide_eq_true (by kernel_rfl)) k5 bel lt5) (trodAll_cons_mk (Below.trod laidOut (by kernel_rfl) (of_decide_eq_true (by kernel_rfl)) k6 bel lt6) trodAll_mk0))))))), rfl, bel.frame _, fun h => by cases h⟩

theorem over : Rows.recallWaysRow.holds Tryz.pinned (OpenSpec.ofChange Rows.recallWaysSpec) :=
  OpenClaim.holds_of_wide 9 Tryz.f9 rfl rfl rfl rfl rfl rfl rfl ⟨rfl, rfl, rfl, rfl, rfl⟩ rfl rfl rfl rfl rfl (by kernel_rfl) Tryz.func9 (by kernel_rfl)
    (of_decide_eq_true (by kernel_rfl)) (by unfold Func.isWrapper; first | (rw [if_pos (by decide +kernel)]; kernel_rfl) | (rw [if_neg (by decide +kernel)]; exact ⟨rfl, rfl⟩))
    (fun os started H enc _ => lifted os started H enc)
end Go.Proofs.YtbblpokfbmekfaaGreat.recallWays
namespace Go.Proofs.YtbblpokfbmekfaaGreat
/-- The statement. -/
theorem RecallWays_holds : Rows.RecallWaysSaid := recallWays.over
#print axioms RecallWays_holds
end Go.Proofs.YtbblpokfbmekfaaGreat
