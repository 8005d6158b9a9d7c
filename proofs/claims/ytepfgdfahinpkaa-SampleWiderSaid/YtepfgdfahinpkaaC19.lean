/- The calls hand back what the plain functions say. -/
import Derived.Test.YtepfgdfahinpkaaF
import Derived.Test.YtepfgdfahinpkaaGv
import Derived.Test.YtepfgdfahinpkaaC1
import Derived.Test.YtepfgdfahinpkaaC2
set_option linter.unusedVariables false
set_option maxHeartbeats 4000000
namespace Go.Proofs.Ytepfgdfahinpkaa
open Go.RowKit (Below)
attribute [local irreducible] OX QX CX EX OpY Calls CallsIn

/-! calx/sample.CheckShortest -/
set_option maxRecDepth 100000 in
theorem sample_CheckShortest_ok (p0_b : TBatch) (p1_sort : Int) (p2_level : TRatio) (p3_s : TSpan) (res : Int) (h : sample_CheckShortest p0_b p1_sort p2_level p3_s = some res) (W : World)  :
    Calls Try.prog 46 [.agg #[.int .i64 p0_b.fBarrows, .int .i64 p0_b.fSeen.x0, .int .i64 p0_b.fSeen.x1, .int .i64 p0_b.fSeen.x2, .int .i64 p0_b.fKnown.x0.fLo, .int .i64 p0_b.fKnown.x0.fHi, .int .i64 p0_b.fKnown.x1.fLo, .int .i64 p0_b.fKnown.x1.fHi, .int .i64 p0_b.fKnown.x2.fLo, .int .i64 p0_b.fKnown.x2.fHi], .int .i64 p1_sort, .agg #[.int .i64 p2_level.fNum, .int .i64 p2_level.fDen], .agg #[.int .i64 p3_s.fLo, .int .i64 p3_s.fHi]].toArray W fun e W2 => e = .returned (.int .i64 res) ∧ Ext W W2 [] := by
  unfold sample_CheckShortest at h
  refine calls_enter (m := 24) Try.func46 rfl rfl (Nat.le_of_ble_eq_true rfl) ?_
  refine cx_seq ?_
  refine cx_region ?_
  refine ox_box [.int .i64 p0_b.fBarrows, .int .i64 p0_b.fSeen.x0, .int .i64 p0_b.fSeen.x1, .int .i64 p0_b.fSeen.x2, .int .i64 p0_b.fKnown.x0.fLo, .int .i64 p0_b.fKnown.x0.fHi, .int .i64 p0_b.fKnown.x1.fLo, .int .i64 p0_b.fKnown.x1.fHi, .int .i64 p0_b.fKnown.x2.fLo, .int .i64 p0_b.fKnown.x2.fHi] rfl rfl rfl (fun b1 => ?_)
  refine ox_box [.int .i64 p2_level.fNum, .int .i64 p2_level.fDen] rfl rfl rfl (fun b2 => ?_)
  refine ox_box [.int .i64 p3_s.fLo, .int .i64 p3_s.fHi] rfl rfl rfl (fun b3 => ?_)
  refine ox_y rfl (y_assign_int rfl) ?_
  refine ox_nil ?_
  refine ex_then ?_
  refine cx_seq ?_
  refine cx_seq ?_
  refine cx_region ?_
  refine ox_y rfl (y_loadN 0 [.int .i64 p0_b.fBarrows, .int .i64 p0_b.fSeen.x0, .int .i64 p0_b.fSeen.x1, .int .i64 p0_b.fSeen.x2, .int .i64 p0_b.fKnown.x0.fLo, .int .i64 p0_b.fKnown.x0.fHi, .int .i64 p0_b.fKnown.x1.fLo, .int .i64 p0_b.fKnown.x1.fHi, .int .i64 p0_b.fKnown.x2.fLo, .int .i64 p0_b.fKnown.x2.fHi] ag_52 rfl rfl rfl) ?_
  refine ox_y rfl (y_move_int rfl) ?_
  refine ox_y rfl (y_loadN 1 [.int .i64 p2_level.fNum, .int .i64 p2_level.fDen] ag_23 rfl rfl rfl) ?_
  obtain ⟨y4, hy5, h⟩ := bind_some h
  refine ox_y rfl (y_call [.agg #[.int .i64 p0_b.fBarrows, .int .i64 p0_b.fSeen.x0, .int .i64 p0_b.fSeen.x1, .int .i64 p0_b.fSeen.x2, .int .i64 p0_b.fKnown.x0.fLo, .int .i64 p0_b.fKnown.x0.fHi, .int .i64 p0_b.fKnown.x1.fLo, .int .i64 p0_b.fKnown.x1.fHi, .int .i64 p0_b.fKnown.x2.fLo, .int .i64 p0_b.fKnown.x2.fHi], .int .i64 p1_sort, .agg #[.int .i64 p2_level.fNum, .int .i64 p2_level.fDen]] go_108 rfl (fun W2 hW2 => sample_leveled_ok p0_b p1_sort p2_level y4 hy5 W2 ) rfl) ?_
  refine ox_y rfl (y_assign_int rfl) ?_
  refine ox_nil ?_
  refine ex_then ?_
  refine cx_seq ?_
  refine cx_region ?_
  refine ox_y rfl (y_move_int rfl) ?_
  refine ox_y rfl (y_neq rfl rfl) ?_
  refine ox_nil ?_
  refine ex_then ?_
  rcases ite_some h with ⟨hp6, h⟩ | ⟨hp6, h⟩
  · refine cx_true (congrArg Value.bool hp6) ?_
    refine cx_seq ?_
    refine cx_region ?_
    refine ox_y rfl (y_move_int rfl) ?_
    refine ox_y rfl (y_assign_int rfl) ?_
    refine ox_nil ?_
    refine ex_then ?_
    refine cx_ret ?_
    refine ex_then_ret ?_
    obtain rfl := Option.some.inj h
    exact ex_res1 (.inl rfl) rfl (resV_tmp (v := .int .i64 y4) rfl) (fun W2 hW2 => ⟨rfl, hW2.none⟩)
  · refine cx_false (congrArg Value.bool hp6) ?_
    refine cx_skip ?_
    refine ex_then ?_
    refine cx_seq ?_
    refine cx_seq ?_
    obtain ⟨y7, hy8, h⟩ := bind_some h
    refine cx_drawsD 2 7 (fun v L1 => ∃ x : Option Addr × Nat × Nat, x.2.1 = y7.length ∧ v = .slice x.1 x.2.1 x.2.2 ∧ L1 = [rowR x.1 x.2.2 3 1 x.2.1 (encL cI y7)]) mixed (by kernel_rfl) (by kernel_rfl) (by kernel_rfl) ?_
    refine bdx_y rfl (fun _ => y_loadN 0 [.int .i64 p0_b.fBarrows, .int .i64 p0_b.fSeen.x0, .int .i64 p0_b.fSeen.x1, .int .i64 p0_b.fSeen.x2, .int .i64 p0_b.fKnown.x0.fLo, .int .i64 p0_b.fKnown.x0.fHi, .int .i64 p0_b.fKnown.x1.fLo, .int .i64 p0_b.fKnown.x1.fHi, .int .i64 p0_b.fKnown.x2.fLo, .int .i64 p0_b.fKnown.x2.fHi] ag_52 rfl rfl rfl) ?_
    refine bdx_y rfl (fun _ => y_move_int rfl) ?_
    refine bdx_q rfl (ox_call [.agg #[.int .i64 p0_b.fBarrows, .int .i64 p0_b.fSeen.x0, .int .i64 p0_b.fSeen.x1, .int .i64 p0_b.fSeen.x2, .int .i64 p0_b.fKnown.x0.fLo, .int .i64 p0_b.fKnown.x0.fHi, .int .i64 p0_b.fKnown.x1.fLo, .int .i64 p0_b.fKnown.x1.fHi, .int .i64 p0_b.fKnown.x2.fLo, .int .i64 p0_b.fKnown.x2.fHi], .int .i64 p1_sort] _ _ _ rfl go_104 rfl (fun W2 hW2 => sample_weights_ok p0_b p1_sort y7 hy8 W2 ) (fun x hx => ox_nil (ex_cap ⟨x, hx, rfl, rfl⟩))) ?_
    refine kdx_y rfl (by kernel_rfl) (fun _ => y_loadN 1 [.int .i64 p2_level.fNum, .int .i64 p2_level.fDen] ag_23 rfl rfl rfl) ?_
    obtain ⟨y13, hy14, h⟩ := bind_some h
    refine kdx_dep (v := .agg #[.int .i64 y13.fLo, .int .i64 y13.fHi]) rfl (by kernel_rfl) rfl (by rintro v1 L1 ⟨⟨A9, n11, c10⟩, hn12, rfl, rfl⟩; replace hn12 : n11 = y7.length := hn12; subst hn12; exact y_call [.slice A9 y7.length c10, .agg #[.int .i64 p2_level.fNum, .int .i64 p2_level.fDen]] go_109 rfl (fun W2 hW2 => sample_shortest_ok y7 p2_level y13 hy14 W2 A9 y7.length c10 rfl ((RdL.row 3 rfl) W2 hW2)) rfl) ?_
    refine kdx_y rfl (by kernel_rfl) (fun _ => y_loadN 2 [.int .i64 p3_s.fLo, .int .i64 p3_s.fHi] ag_33 rfl rfl rfl) ?_
    refine kdx_y rfl (by kernel_rfl) (fun _ => y_neqa (b := ((y13.fLo == p3_s.fLo) && (y13.fHi == p3_s.fHi))) eg_33 rfl rfl (fun _ => (eqS2 fl_33 (part1 sc_3 rfl) (part1 sc_3 rfl) (part1 sc_3 rfl) (part1 sc_3 rfl) (run_equalIn_int _ _ _ _ _ _ _ ui_3) (run_equalIn_int _ _ _ _ _ _ _ ui_3)))) ?_
    refine kdx_nil rfl ?_
    rintro v L1 ⟨⟨A15, n17, c16⟩, hn18, rfl, rfl⟩
    replace hn18 : n17 = y7.length := hn18; subst hn18
    refine ox_nil ?_
    refine ex_only ?_
    refine ex_then ?_
    rcases ite_some h with ⟨hp19, h⟩ | ⟨hp19, h⟩
    · refine cx_true (congrArg Value.bool hp19) ?_
      refine cx_seq ?_
      refine cx_region ?_
      refine ox_y rfl (y_assign_int rfl) ?_
      refine ox_nil ?_
      refine ex_then ?_
      refine cx_ret ?_
      refine ex_then_ret ?_
      obtain rfl := Option.some.inj h
      exact ex_res1 (.inl rfl) rfl (resV_tmp (v := .int .i64 8) rfl) (fun W2 hW2 => ⟨rfl, hW2.none⟩)
    · refine cx_false (congrArg Value.bool hp19) ?_
      refine cx_skip ?_
      refine ex_then ?_
      refine cx_seq ?_
      refine cx_region ?_
      refine ox_y rfl (y_assign_int rfl) ?_
      refine ox_nil ?_
      refine ex_then ?_
      refine cx_ret ?_
      obtain rfl := Option.some.inj h
      exact ex_res1 (.inl rfl) rfl (resV_tmp (v := .int .i64 0) rfl) (fun W2 hW2 => ⟨rfl, hW2.none⟩)

end Go.Proofs.Ytepfgdfahinpkaa
