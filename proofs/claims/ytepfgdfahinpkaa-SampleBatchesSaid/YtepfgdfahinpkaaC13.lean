/- The calls hand back what the plain functions say. -/
import Derived.Test.YtepfgdfahinpkaaF
import Derived.Test.YtepfgdfahinpkaaC0
import Derived.Test.YtepfgdfahinpkaaC1
import Derived.Test.YtepfgdfahinpkaaC3
import Derived.Test.YtepfgdfahinpkaaC4
import Derived.Test.YtepfgdfahinpkaaC5
import Derived.Test.YtepfgdfahinpkaaC7
set_option linter.unusedVariables false
set_option maxHeartbeats 4000000
namespace Go.Proofs.Ytepfgdfahinpkaa
open Go.RowKit (Below)
attribute [local irreducible] OX QX CX EX OpY Calls CallsIn

/-! calx/calxref03.AllWholes -/
set_option maxRecDepth 100000 in
theorem calxref03_AllWholes_ok (p0_b : TBatch) (res : TWholes) (h : calxref03_AllWholes p0_b = some res) (W : World)  :
    Calls Try.prog 35 [.agg #[.int .i64 p0_b.fBarrows, .int .i64 p0_b.fSeen.x0, .int .i64 p0_b.fSeen.x1, .int .i64 p0_b.fSeen.x2, .int .i64 p0_b.fKnown.x0.fLo, .int .i64 p0_b.fKnown.x0.fHi, .int .i64 p0_b.fKnown.x1.fLo, .int .i64 p0_b.fKnown.x1.fHi, .int .i64 p0_b.fKnown.x2.fLo, .int .i64 p0_b.fKnown.x2.fHi]].toArray W fun e W2 => ∃ x : Option Addr × Nat × Nat, x.2.1 = res.fL.length ∧ e = .returned (.agg #[.slice x.1 x.2.1 x.2.2, .int .i64 res.fE]) ∧ Ext W W2 [rowR x.1 x.2.2 43 3 x.2.1 (encL TKinds_cells res.fL)] := by
  unfold calxref03_AllWholes at h
  refine calls_enter (m := 13) Try.func35 rfl rfl (Nat.le_of_ble_eq_true rfl) ?_
  refine cx_seq ?_
  refine cx_region ?_
  refine ox_box [.int .i64 p0_b.fBarrows, .int .i64 p0_b.fSeen.x0, .int .i64 p0_b.fSeen.x1, .int .i64 p0_b.fSeen.x2, .int .i64 p0_b.fKnown.x0.fLo, .int .i64 p0_b.fKnown.x0.fHi, .int .i64 p0_b.fKnown.x1.fLo, .int .i64 p0_b.fKnown.x1.fHi, .int .i64 p0_b.fKnown.x2.fLo, .int .i64 p0_b.fKnown.x2.fHi] rfl rfl rfl (fun b1 => ?_)
  refine ox_alloc ze_57 rfl (fun b2 => ?_)
  refine ox_nil ?_
  refine ex_then ?_
  refine cx_seq ?_
  refine cx_region ?_
  refine ox_y rfl (y_loadN 0 [.int .i64 p0_b.fBarrows, .int .i64 p0_b.fSeen.x0, .int .i64 p0_b.fSeen.x1, .int .i64 p0_b.fSeen.x2, .int .i64 p0_b.fKnown.x0.fLo, .int .i64 p0_b.fKnown.x0.fHi, .int .i64 p0_b.fKnown.x1.fLo, .int .i64 p0_b.fKnown.x1.fHi, .int .i64 p0_b.fKnown.x2.fLo, .int .i64 p0_b.fKnown.x2.fHi] ag_52 rfl rfl rfl) ?_
  obtain ⟨y3, hy4, h⟩ := bind_some h
  refine ox_y rfl (y_call [.agg #[.int .i64 p0_b.fBarrows, .int .i64 p0_b.fSeen.x0, .int .i64 p0_b.fSeen.x1, .int .i64 p0_b.fSeen.x2, .int .i64 p0_b.fKnown.x0.fLo, .int .i64 p0_b.fKnown.x0.fHi, .int .i64 p0_b.fKnown.x1.fLo, .int .i64 p0_b.fKnown.x1.fHi, .int .i64 p0_b.fKnown.x2.fLo, .int .i64 p0_b.fKnown.x2.fHi]] go_40 rfl (fun W2 hW2 => calxref03_Check_ok p0_b y3 hy4 W2 ) rfl) ?_
  refine ox_y rfl (y_assign_int rfl) ?_
  refine ox_nil ?_
  refine ex_then ?_
  refine cx_seq ?_
  refine cx_seq ?_
  refine cx_region ?_
  refine ox_y rfl (y_move_int rfl) ?_
  refine ox_y rfl (y_neq rfl rfl) ?_
  refine ox_nil ?_
  refine ex_then ?_
  rcases ite_some h with ⟨hp5, h⟩ | ⟨hp5, h⟩
  · refine cx_true (congrArg Value.bool hp5) ?_
    refine cx_seq ?_
    refine cx_region ?_
    refine ox_y rfl (y_move_int rfl) ?_
    refine ox_y rfl (y_buildS [.slice none 0 0, .int .i64 y3] [(0, 1), (1, 1)] ust_57 ze_57 (by kernel_rfl)) ?_
    refine ox_n rfl (y_storeN 1 [.slice none 0 0, .int .i64 y3] sz_57 rfl (Nat.le_of_ble_eq_true rfl) rfl rfl rfl) ?_
    refine ox_nil ?_
    refine ex_then ?_
    refine cx_ret ?_
    refine ex_then_ret ?_
    obtain rfl := Option.some.inj h
    exact ex_res1 (.inl rfl) rfl (resV_cellN 1 [.slice none 0 0, .int .i64 y3] ag_57 rfl rfl rfl) (fun W2 hW2 => ⟨(none, 0, 0), rfl, rfl, ((hW2.nilrow 43 3).pick 2 rfl)⟩)
  · refine cx_false (congrArg Value.bool hp5) ?_
    refine cx_skip ?_
    refine ex_then ?_
    refine cx_seq ?_
    refine cx_region ?_
    refine ox_y rfl (y_loadN 0 [.int .i64 p0_b.fBarrows, .int .i64 p0_b.fSeen.x0, .int .i64 p0_b.fSeen.x1, .int .i64 p0_b.fSeen.x2, .int .i64 p0_b.fKnown.x0.fLo, .int .i64 p0_b.fKnown.x0.fHi, .int .i64 p0_b.fKnown.x1.fLo, .int .i64 p0_b.fKnown.x1.fHi, .int .i64 p0_b.fKnown.x2.fLo, .int .i64 p0_b.fKnown.x2.fHi] ag_52 rfl rfl rfl) ?_
    obtain ⟨y6, hy7, h⟩ := bind_some h
    refine ox_call [.agg #[.int .i64 p0_b.fBarrows, .int .i64 p0_b.fSeen.x0, .int .i64 p0_b.fSeen.x1, .int .i64 p0_b.fSeen.x2, .int .i64 p0_b.fKnown.x0.fLo, .int .i64 p0_b.fKnown.x0.fHi, .int .i64 p0_b.fKnown.x1.fLo, .int .i64 p0_b.fKnown.x1.fHi, .int .i64 p0_b.fKnown.x2.fLo, .int .i64 p0_b.fKnown.x2.fHi]] _ _ _ rfl go_100 rfl (fun W2 hW2 => calxref03_wholes_ok p0_b y6 hy7 W2 ) ?_
    rintro ⟨A8, n10, c9⟩ hn11
    replace hn11 : n10 = y6.length := hn11; subst hn11
    refine ox_y rfl (y_buildS [.slice A8 y6.length c9, .int .i64 0] [(0, 1), (1, 1)] ust_57 ze_57 (by kernel_rfl)) ?_
    refine ox_n rfl (y_storeN 1 [.slice A8 y6.length c9, .int .i64 0] sz_57 rfl (Nat.le_of_ble_eq_true rfl) rfl rfl rfl) ?_
    refine ox_nil ?_
    refine ex_then ?_
    refine cx_ret ?_
    obtain rfl := Option.some.inj h
    exact ex_res1 (.inl rfl) rfl (resV_cellN 1 [.slice A8 y6.length c9, .int .i64 0] ag_57 rfl rfl rfl) (fun W2 hW2 => ⟨(A8, y6.length, c9), rfl, rfl, (hW2.pick 2 rfl)⟩)

/-! calx/calxref03.kind -/
set_option maxRecDepth 100000 in
theorem calxref03_kind_ok (p0_b : TBatch) (p1_sort : Int) (res : Int) (h : calxref03_kind p0_b p1_sort = some res) (W : World)  :
    Calls Try.prog 102 [.agg #[.int .i64 p0_b.fBarrows, .int .i64 p0_b.fSeen.x0, .int .i64 p0_b.fSeen.x1, .int .i64 p0_b.fSeen.x2, .int .i64 p0_b.fKnown.x0.fLo, .int .i64 p0_b.fKnown.x0.fHi, .int .i64 p0_b.fKnown.x1.fLo, .int .i64 p0_b.fKnown.x1.fHi, .int .i64 p0_b.fKnown.x2.fLo, .int .i64 p0_b.fKnown.x2.fHi], .int .i64 p1_sort].toArray W fun e W2 => e = .returned (.int .i64 res) ∧ Ext W W2 [] := by
  unfold calxref03_kind at h
  refine calls_enter (m := 16) Try.func102 rfl rfl (Nat.le_of_ble_eq_true rfl) ?_
  refine cx_seq ?_
  refine cx_region ?_
  refine ox_box [.int .i64 p0_b.fBarrows, .int .i64 p0_b.fSeen.x0, .int .i64 p0_b.fSeen.x1, .int .i64 p0_b.fSeen.x2, .int .i64 p0_b.fKnown.x0.fLo, .int .i64 p0_b.fKnown.x0.fHi, .int .i64 p0_b.fKnown.x1.fLo, .int .i64 p0_b.fKnown.x1.fHi, .int .i64 p0_b.fKnown.x2.fLo, .int .i64 p0_b.fKnown.x2.fHi] rfl rfl rfl (fun b1 => ?_)
  refine ox_y rfl (y_assign_int rfl) ?_
  refine ox_nil ?_
  refine ex_then ?_
  refine cx_seq ?_
  refine cx_region ?_
  refine ox_y rfl (y_loadN 0 [.int .i64 p0_b.fBarrows, .int .i64 p0_b.fSeen.x0, .int .i64 p0_b.fSeen.x1, .int .i64 p0_b.fSeen.x2, .int .i64 p0_b.fKnown.x0.fLo, .int .i64 p0_b.fKnown.x0.fHi, .int .i64 p0_b.fKnown.x1.fLo, .int .i64 p0_b.fKnown.x1.fHi, .int .i64 p0_b.fKnown.x2.fLo, .int .i64 p0_b.fKnown.x2.fHi] ag_52 rfl rfl rfl) ?_
  obtain ⟨y2, hy3, h⟩ := bind_some h
  refine ox_y rfl (y_call [.agg #[.int .i64 p0_b.fBarrows, .int .i64 p0_b.fSeen.x0, .int .i64 p0_b.fSeen.x1, .int .i64 p0_b.fSeen.x2, .int .i64 p0_b.fKnown.x0.fLo, .int .i64 p0_b.fKnown.x0.fHi, .int .i64 p0_b.fKnown.x1.fLo, .int .i64 p0_b.fKnown.x1.fHi, .int .i64 p0_b.fKnown.x2.fLo, .int .i64 p0_b.fKnown.x2.fHi]] go_40 rfl (fun W2 hW2 => calxref03_Check_ok p0_b y2 hy3 W2 ) rfl) ?_
  refine ox_y rfl (y_assign_int rfl) ?_
  refine ox_nil ?_
  refine ex_then ?_
  refine cx_seq ?_
  refine cx_seq ?_
  refine cx_region ?_
  refine ox_y rfl (y_move_int rfl) ?_
  refine ox_y rfl (y_eql rfl rfl) ?_
  refine ox_y rfl (y_move_bool rfl) ?_
  obtain ⟨b5, hb6, h⟩ := bind_some h
  refine ox_join 4 (fun tm0 => (upd (upd (upd (upd (upd (upd tm0 0 (.agg #[.int .i64 p0_b.fBarrows, .int .i64 p0_b.fSeen.x0, .int .i64 p0_b.fSeen.x1, .int .i64 p0_b.fSeen.x2, .int .i64 p0_b.fKnown.x0.fLo, .int .i64 p0_b.fKnown.x0.fHi, .int .i64 p0_b.fKnown.x1.fLo, .int .i64 p0_b.fKnown.x1.fHi, .int .i64 p0_b.fKnown.x2.fLo, .int .i64 p0_b.fKnown.x2.fHi])) 1 (.int .i64 p1_sort)) 2 (.pointer (some ⟨b1, 0, none⟩))) 4 (.int .i64 0)) 5 (.int .i64 y2)) 14 (.bool b5))) (fun tm0 => ?_) (fun key => ?_)
  · refine ox_nil ?_
    refine ex_then ?_
    rcases ite_some h with ⟨hp7, h⟩ | ⟨hp7, h⟩
    · refine cx_true (congrArg Value.bool hp7) ?_
      refine cx_region ?_
      refine ox_y rfl (y_assign_int rfl) ?_
      refine ox_nil ?_
      refine ex_then ?_
      refine cx_seq ?_
      refine cx_region ?_
      refine ox_y rfl (y_move_int rfl) ?_
      refine ox_y rfl (y_assign_int rfl) ?_
      refine ox_nil ?_
      refine ex_then ?_
      refine cx_ret ?_
      obtain rfl := Option.some.inj h
      exact ex_res1 (.inl rfl) rfl (resV_tmp (v := .int .i64 1) rfl) (fun W2 hW2 => ⟨rfl, hW2.none⟩)
    · refine cx_false (congrArg Value.bool hp7) ?_
      refine cx_skip ?_
      refine ex_then ?_
      refine cx_seq ?_
      refine cx_region ?_
      refine ox_y rfl (y_move_int rfl) ?_
      refine ox_y rfl (y_assign_int rfl) ?_
      refine ox_nil ?_
      refine ex_then ?_
      refine cx_ret ?_
      obtain rfl := Option.some.inj h
      exact ex_res1 (.inl rfl) rfl (resV_tmp (v := .int .i64 y2) rfl) (fun W2 hW2 => ⟨rfl, hW2.none⟩)
  · clear h; rcases ite_some hb6 with ⟨hp4, h⟩ | ⟨hp4, h⟩
    · refine ox_y (sees_t rfl rfl rfl rfl hp4) (y_move_int rfl) ?_
      obtain ⟨y8, hy9, h⟩ := bind_some h
      refine ox_y (sees_t rfl rfl rfl rfl hp4) (y_call [.int .i64 p1_sort, .int .i64 0, .int .i64 2] go_79 rfl (fun W2 hW2 => calxref03_in_ok p1_sort 0 2 y8 hy9 W2 ) rfl) ?_
      refine ox_y (sees_t rfl rfl rfl rfl hp4) (y_not rfl) ?_
      refine ox_y rfl (y_pick_tb (congrArg Value.bool hp4) rfl) ?_
      obtain rfl := Option.some.inj h
      exact key _ _ (keep (keep (keep (keep (keep (keep rfl rfl) rfl) rfl) rfl) rfl) rfl)
    · refine ox_skip (sees_f rfl rfl rfl rfl hp4) ?_
      refine ox_skip (sees_f rfl rfl rfl rfl hp4) ?_
      refine ox_skip (sees_f rfl rfl rfl rfl hp4) ?_
      refine ox_y rfl (y_pick_fb (congrArg Value.bool hp4) rfl) ?_
      obtain rfl := Option.some.inj h
      exact key _ _ (keep (keep (keep (keep (keep (keep rfl rfl) rfl) rfl) rfl) rfl) rfl)

/-! calx/calxref03.Ends -/
set_option maxRecDepth 100000 in
theorem calxref03_Ends_ok (p0_b : TBatch) (p1_sort : Int) (res : (TSpan × Int)) (h : calxref03_Ends p0_b p1_sort = some res) (W : World)  :
    Calls Try.prog 37 [.agg #[.int .i64 p0_b.fBarrows, .int .i64 p0_b.fSeen.x0, .int .i64 p0_b.fSeen.x1, .int .i64 p0_b.fSeen.x2, .int .i64 p0_b.fKnown.x0.fLo, .int .i64 p0_b.fKnown.x0.fHi, .int .i64 p0_b.fKnown.x1.fLo, .int .i64 p0_b.fKnown.x1.fHi, .int .i64 p0_b.fKnown.x2.fLo, .int .i64 p0_b.fKnown.x2.fHi], .int .i64 p1_sort].toArray W fun e W2 => e = .returned (.tuple #[.agg #[.int .i64 res.1.fLo, .int .i64 res.1.fHi], .int .i64 res.2]) ∧ Ext W W2 [] := by
  unfold calxref03_Ends at h
  refine calls_enter (m := 17) Try.func37 rfl rfl (Nat.le_of_ble_eq_true rfl) ?_
  refine cx_seq ?_
  refine cx_region ?_
  refine ox_box [.int .i64 p0_b.fBarrows, .int .i64 p0_b.fSeen.x0, .int .i64 p0_b.fSeen.x1, .int .i64 p0_b.fSeen.x2, .int .i64 p0_b.fKnown.x0.fLo, .int .i64 p0_b.fKnown.x0.fHi, .int .i64 p0_b.fKnown.x1.fLo, .int .i64 p0_b.fKnown.x1.fHi, .int .i64 p0_b.fKnown.x2.fLo, .int .i64 p0_b.fKnown.x2.fHi] rfl rfl rfl (fun b1 => ?_)
  refine ox_alloc ze_33 rfl (fun b2 => ?_)
  refine ox_y rfl (y_assign_int rfl) ?_
  refine ox_nil ?_
  refine ex_then ?_
  refine cx_seq ?_
  refine cx_region ?_
  refine ox_y rfl (y_loadN 0 [.int .i64 p0_b.fBarrows, .int .i64 p0_b.fSeen.x0, .int .i64 p0_b.fSeen.x1, .int .i64 p0_b.fSeen.x2, .int .i64 p0_b.fKnown.x0.fLo, .int .i64 p0_b.fKnown.x0.fHi, .int .i64 p0_b.fKnown.x1.fLo, .int .i64 p0_b.fKnown.x1.fHi, .int .i64 p0_b.fKnown.x2.fLo, .int .i64 p0_b.fKnown.x2.fHi] ag_52 rfl rfl rfl) ?_
  refine ox_y rfl (y_move_int rfl) ?_
  obtain ⟨y3, hy4, h⟩ := bind_some h
  refine ox_y rfl (y_call [.agg #[.int .i64 p0_b.fBarrows, .int .i64 p0_b.fSeen.x0, .int .i64 p0_b.fSeen.x1, .int .i64 p0_b.fSeen.x2, .int .i64 p0_b.fKnown.x0.fLo, .int .i64 p0_b.fKnown.x0.fHi, .int .i64 p0_b.fKnown.x1.fLo, .int .i64 p0_b.fKnown.x1.fHi, .int .i64 p0_b.fKnown.x2.fLo, .int .i64 p0_b.fKnown.x2.fHi], .int .i64 p1_sort] go_102 rfl (fun W2 hW2 => calxref03_kind_ok p0_b p1_sort y3 hy4 W2 ) rfl) ?_
  refine ox_y rfl (y_assign_int rfl) ?_
  refine ox_nil ?_
  refine ex_then ?_
  refine cx_seq ?_
  refine cx_seq ?_
  refine cx_region ?_
  refine ox_y rfl (y_move_int rfl) ?_
  refine ox_y rfl (y_neq rfl rfl) ?_
  refine ox_nil ?_
  refine ex_then ?_
  rcases ite_some h with ⟨hp5, h⟩ | ⟨hp5, h⟩
  · refine cx_true (congrArg Value.bool hp5) ?_
    refine cx_seq ?_
    refine cx_region ?_
    refine ox_y rfl (y_buildS [.int .i64 0, .int .i64 0] [(0, 1), (1, 1)] ust_33 ze_33 (by kernel_rfl)) ?_
    refine ox_y rfl (y_move_int rfl) ?_
    refine ox_n rfl (y_storeN 1 [.int .i64 0, .int .i64 0] sz_33 rfl (Nat.le_of_ble_eq_true rfl) rfl rfl rfl) ?_
    refine ox_y rfl (y_assign_int rfl) ?_
    refine ox_nil ?_
    refine ex_then ?_
    refine cx_ret ?_
    refine ex_then_ret ?_
    obtain rfl := Option.some.inj h
    exact ex_res2 (.inl rfl) rfl (resV_cellN 1 [.int .i64 0, .int .i64 0] ag_33 rfl rfl rfl) (resV_tmp (v := .int .i64 y3) rfl) (fun W2 hW2 => ⟨rfl, hW2.none⟩)
  · refine cx_false (congrArg Value.bool hp5) ?_
    refine cx_skip ?_
    refine ex_then ?_
    refine cx_seq ?_
    refine cx_region ?_
    refine ox_y rfl (y_loadN 0 [.int .i64 p0_b.fBarrows, .int .i64 p0_b.fSeen.x0, .int .i64 p0_b.fSeen.x1, .int .i64 p0_b.fSeen.x2, .int .i64 p0_b.fKnown.x0.fLo, .int .i64 p0_b.fKnown.x0.fHi, .int .i64 p0_b.fKnown.x1.fLo, .int .i64 p0_b.fKnown.x1.fHi, .int .i64 p0_b.fKnown.x2.fLo, .int .i64 p0_b.fKnown.x2.fHi] ag_52 rfl rfl rfl) ?_
    refine ox_y rfl (y_move_int rfl) ?_
    obtain ⟨y6, hy7, h⟩ := bind_some h
    refine ox_y rfl (y_call [.agg #[.int .i64 p0_b.fBarrows, .int .i64 p0_b.fSeen.x0, .int .i64 p0_b.fSeen.x1, .int .i64 p0_b.fSeen.x2, .int .i64 p0_b.fKnown.x0.fLo, .int .i64 p0_b.fKnown.x0.fHi, .int .i64 p0_b.fKnown.x1.fLo, .int .i64 p0_b.fKnown.x1.fHi, .int .i64 p0_b.fKnown.x2.fLo, .int .i64 p0_b.fKnown.x2.fHi], .int .i64 p1_sort] go_88 rfl (fun W2 hW2 => calxref03_ends_ok p0_b p1_sort y6 hy7 W2 ) rfl) ?_
    refine ox_n rfl (y_storeN 1 [.int .i64 y6.fLo, .int .i64 y6.fHi] sz_33 rfl (Nat.le_of_ble_eq_true rfl) rfl rfl rfl) ?_
    refine ox_y rfl (y_assign_int rfl) ?_
    refine ox_nil ?_
    refine ex_then ?_
    refine cx_ret ?_
    obtain rfl := Option.some.inj h
    exact ex_res2 (.inl rfl) rfl (resV_cellN 1 [.int .i64 y6.fLo, .int .i64 y6.fHi] ag_33 rfl rfl rfl) (resV_tmp (v := .int .i64 0) rfl) (fun W2 hW2 => ⟨rfl, hW2.none⟩)

/-! calx/calxlaw03.SampleBatches -/
set_option maxRecDepth 100000 in
theorem calxlaw03_SampleBatches_ok (p0 : TBatch) (p1 : Int) (res : Bool) (h : calxlaw03_SampleBatches p0 p1 = some res) (W : World)  :
    Calls Try.prog 6 [.agg #[.int .i64 p0.fBarrows, .int .i64 p0.fSeen.x0, .int .i64 p0.fSeen.x1, .int .i64 p0.fSeen.x2, .int .i64 p0.fKnown.x0.fLo, .int .i64 p0.fKnown.x0.fHi, .int .i64 p0.fKnown.x1.fLo, .int .i64 p0.fKnown.x1.fHi, .int .i64 p0.fKnown.x2.fLo, .int .i64 p0.fKnown.x2.fHi], .int .i64 p1].toArray W fun e W2 => e = .returned (.bool res) ∧ Ext W W2 [] := by
  unfold calxlaw03_SampleBatches at h
  refine calls_enter (m := 65) Try.func6 rfl rfl (Nat.le_of_ble_eq_true rfl) ?_
  refine cx_seq ?_
  refine cx_region ?_
  refine ox_box [.int .i64 p0.fBarrows, .int .i64 p0.fSeen.x0, .int .i64 p0.fSeen.x1, .int .i64 p0.fSeen.x2, .int .i64 p0.fKnown.x0.fLo, .int .i64 p0.fKnown.x0.fHi, .int .i64 p0.fKnown.x1.fLo, .int .i64 p0.fKnown.x1.fHi, .int .i64 p0.fKnown.x2.fLo, .int .i64 p0.fKnown.x2.fHi] rfl rfl rfl (fun b1 => ?_)
  refine ox_y rfl (y_assign_bool rfl) ?_
  refine ox_nil ?_
  refine ex_then ?_
  refine cx_seq ?_
  refine cx_region ?_
  obtain ⟨y2, hy3, h⟩ := bind_some h
  refine ox_y rfl (y_call [] go_22 rfl (fun W2 hW2 => calxlaw03_head_ok  y2 hy3 W2 ) rfl) ?_
  refine ox_y rfl (y_assign_bool rfl) ?_
  refine ox_nil ?_
  refine ex_then ?_
  refine cx_seq ?_
  refine cx_region ?_
  refine ox_y rfl (y_loadN 0 [.int .i64 p0.fBarrows, .int .i64 p0.fSeen.x0, .int .i64 p0.fSeen.x1, .int .i64 p0.fSeen.x2, .int .i64 p0.fKnown.x0.fLo, .int .i64 p0.fKnown.x0.fHi, .int .i64 p0.fKnown.x1.fLo, .int .i64 p0.fKnown.x1.fHi, .int .i64 p0.fKnown.x2.fLo, .int .i64 p0.fKnown.x2.fHi] ag_52 rfl rfl rfl) ?_
  obtain ⟨y4, hy5, h⟩ := bind_some h
  refine ox_call [.agg #[.int .i64 p0.fBarrows, .int .i64 p0.fSeen.x0, .int .i64 p0.fSeen.x1, .int .i64 p0.fSeen.x2, .int .i64 p0.fKnown.x0.fLo, .int .i64 p0.fKnown.x0.fHi, .int .i64 p0.fKnown.x1.fLo, .int .i64 p0.fKnown.x1.fHi, .int .i64 p0.fKnown.x2.fLo, .int .i64 p0.fKnown.x2.fHi]] _ _ _ rfl go_34 rfl (fun W2 hW2 => sample_Wholes_ok p0 y4 hy5 W2 ) ?_
  rintro ⟨A6, n8, c7⟩ hn9
  replace hn9 : n8 = y4.1.length := hn9; subst hn9
  refine ox_y rfl (y_move_tuple rfl) ?_
  refine ox_y rfl (y_extract (vs := [.slice A6 y4.1.length c7, .int .i64 y4.2]) (v := .slice A6 y4.1.length c7) rfl rfl) ?_
  refine ox_y rfl (y_extract (vs := [.slice A6 y4.1.length c7, .int .i64 y4.2]) (v := .int .i64 y4.2) rfl rfl) ?_
  refine ox_y rfl (y_assign_slice rfl) ?_
  refine ox_y rfl (y_assign_int rfl) ?_
  refine ox_nil ?_
  refine ex_then ?_
  refine cx_seq ?_
  refine cx_region ?_
  refine ox_y rfl (y_loadN 0 [.int .i64 p0.fBarrows, .int .i64 p0.fSeen.x0, .int .i64 p0.fSeen.x1, .int .i64 p0.fSeen.x2, .int .i64 p0.fKnown.x0.fLo, .int .i64 p0.fKnown.x0.fHi, .int .i64 p0.fKnown.x1.fLo, .int .i64 p0.fKnown.x1.fHi, .int .i64 p0.fKnown.x2.fLo, .int .i64 p0.fKnown.x2.fHi] ag_52 rfl rfl rfl) ?_
  obtain ⟨y10, hy11, h⟩ := bind_some h
  refine ox_call [.agg #[.int .i64 p0.fBarrows, .int .i64 p0.fSeen.x0, .int .i64 p0.fSeen.x1, .int .i64 p0.fSeen.x2, .int .i64 p0.fKnown.x0.fLo, .int .i64 p0.fKnown.x0.fHi, .int .i64 p0.fKnown.x1.fLo, .int .i64 p0.fKnown.x1.fHi, .int .i64 p0.fKnown.x2.fLo, .int .i64 p0.fKnown.x2.fHi]] _ _ _ rfl go_35 rfl (fun W2 hW2 => calxref03_AllWholes_ok p0 y10 hy11 W2 ) ?_
  rintro ⟨A12, n14, c13⟩ hn15
  replace hn15 : n14 = y10.fL.length := hn15; subst hn15
  refine ox_alloc ze_57 rfl (fun b16 => ?_)
  refine ox_n rfl (y_storeN 3 [.slice A12 y10.fL.length c13, .int .i64 y10.fE] sz_57 rfl (Nat.le_of_ble_eq_true rfl) rfl rfl rfl) ?_
  refine ox_nil ?_
  refine ex_then ?_
  refine cx_seq ?_
  refine cx_region ?_
  refine ox_y rfl (y_loadN 0 [.int .i64 p0.fBarrows, .int .i64 p0.fSeen.x0, .int .i64 p0.fSeen.x1, .int .i64 p0.fSeen.x2, .int .i64 p0.fKnown.x0.fLo, .int .i64 p0.fKnown.x0.fHi, .int .i64 p0.fKnown.x1.fLo, .int .i64 p0.fKnown.x1.fHi, .int .i64 p0.fKnown.x2.fLo, .int .i64 p0.fKnown.x2.fHi] ag_52 rfl rfl rfl) ?_
  refine ox_y rfl (y_move_int rfl) ?_
  obtain ⟨y17, hy18, h⟩ := bind_some h
  refine ox_y rfl (y_call [.agg #[.int .i64 p0.fBarrows, .int .i64 p0.fSeen.x0, .int .i64 p0.fSeen.x1, .int .i64 p0.fSeen.x2, .int .i64 p0.fKnown.x0.fLo, .int .i64 p0.fKnown.x0.fHi, .int .i64 p0.fKnown.x1.fLo, .int .i64 p0.fKnown.x1.fHi, .int .i64 p0.fKnown.x2.fLo, .int .i64 p0.fKnown.x2.fHi], .int .i64 p1] go_36 rfl (fun W2 hW2 => sample_Ends_ok p0 p1 y17 hy18 W2 ) rfl) ?_
  refine ox_y rfl (y_move_tuple rfl) ?_
  refine ox_y rfl (y_extract (vs := [.agg #[.int .i64 y17.1.fLo, .int .i64 y17.1.fHi], .int .i64 y17.2]) (v := .agg #[.int .i64 y17.1.fLo, .int .i64 y17.1.fHi]) rfl rfl) ?_
  refine ox_y rfl (y_extract (vs := [.agg #[.int .i64 y17.1.fLo, .int .i64 y17.1.fHi], .int .i64 y17.2]) (v := .int .i64 y17.2) rfl rfl) ?_
  refine ox_alloc ze_33 rfl (fun b19 => ?_)
  refine ox_n rfl (y_storeN 4 [.int .i64 y17.1.fLo, .int .i64 y17.1.fHi] sz_33 rfl (Nat.le_of_ble_eq_true rfl) rfl rfl rfl) ?_
  refine ox_y rfl (y_assign_int rfl) ?_
  refine ox_nil ?_
  refine ex_then ?_
  refine cx_seq ?_
  refine cx_region ?_
  refine ox_y rfl (y_loadN 0 [.int .i64 p0.fBarrows, .int .i64 p0.fSeen.x0, .int .i64 p0.fSeen.x1, .int .i64 p0.fSeen.x2, .int .i64 p0.fKnown.x0.fLo, .int .i64 p0.fKnown.x0.fHi, .int .i64 p0.fKnown.x1.fLo, .int .i64 p0.fKnown.x1.fHi, .int .i64 p0.fKnown.x2.fLo, .int .i64 p0.fKnown.x2.fHi] ag_52 rfl rfl rfl) ?_
  refine ox_y rfl (y_move_int rfl) ?_
  obtain ⟨y20, hy21, h⟩ := bind_some h
  refine ox_y rfl (y_call [.agg #[.int .i64 p0.fBarrows, .int .i64 p0.fSeen.x0, .int .i64 p0.fSeen.x1, .int .i64 p0.fSeen.x2, .int .i64 p0.fKnown.x0.fLo, .int .i64 p0.fKnown.x0.fHi, .int .i64 p0.fKnown.x1.fLo, .int .i64 p0.fKnown.x1.fHi, .int .i64 p0.fKnown.x2.fLo, .int .i64 p0.fKnown.x2.fHi], .int .i64 p1] go_37 rfl (fun W2 hW2 => calxref03_Ends_ok p0 p1 y20 hy21 W2 ) rfl) ?_
  refine ox_y rfl (y_move_tuple rfl) ?_
  refine ox_y rfl (y_extract (vs := [.agg #[.int .i64 y20.1.fLo, .int .i64 y20.1.fHi], .int .i64 y20.2]) (v := .agg #[.int .i64 y20.1.fLo, .int .i64 y20.1.fHi]) rfl rfl) ?_
  refine ox_y rfl (y_extract (vs := [.agg #[.int .i64 y20.1.fLo, .int .i64 y20.1.fHi], .int .i64 y20.2]) (v := .int .i64 y20.2) rfl rfl) ?_
  refine ox_alloc ze_33 rfl (fun b22 => ?_)
  try dsimp only [List.nil_append, List.cons_append, List.set_cons_zero, List.set_cons_succ]
  refine ox_n rfl (y_storeN 5 [.int .i64 y20.1.fLo, .int .i64 y20.1.fHi] sz_33 rfl (Nat.le_of_ble_eq_true rfl) rfl rfl rfl) ?_
  refine ox_y rfl (y_assign_int rfl) ?_
  refine ox_nil ?_
  refine ex_then ?_
  refine cx_seq ?_
  refine cx_region ?_
  refine ox_y rfl (y_move_slice rfl) ?_
  refine ox_y rfl (y_fieldAddr fo_57_0 rfl) ?_
  refine ox_y rfl (y_load1 3 (v := .slice A12 y10.fL.length c13) sc_53 rfl rfl rfl) ?_
  obtain ⟨y23, hy24, h⟩ := bind_some h
  refine ox_y rfl (y_call [.slice A6 y4.1.length c7, .slice A12 y10.fL.length c13] go_38 rfl (fun W2 hW2 => calxref03_SameKinds_ok y4.1 y10.fL y23 hy24 W2 A6 y4.1.length c7 rfl ((RdL.row 1 rfl) W2 hW2) A12 y10.fL.length c13 rfl ((RdL.row 2 rfl) W2 hW2)) rfl) ?_
  refine ox_y rfl (y_assign_bool rfl) ?_
  refine ox_nil ?_
  refine ex_then ?_
  refine cx_seq ?_
  refine cx_draws 28 mixed (by kernel_rfl) (by kernel_rfl) ?_
  refine qx_y rfl (y_move_bool rfl) ?_
  refine qx_y rfl (y_move_bool rfl) ?_
  obtain ⟨b26, hb27, h⟩ := bind_some h
  refine qx_join 6 (fun tm0 => (upd (upd (upd (upd (upd (upd (upd (upd (upd (upd (upd (upd (upd (upd tm0 0 (.agg #[.int .i64 p0.fBarrows, .int .i64 p0.fSeen.x0, .int .i64 p0.fSeen.x1, .int .i64 p0.fSeen.x2, .int .i64 p0.fKnown.x0.fLo, .int .i64 p0.fKnown.x0.fHi, .int .i64 p0.fKnown.x1.fLo, .int .i64 p0.fKnown.x1.fHi, .int .i64 p0.fKnown.x2.fLo, .int .i64 p0.fKnown.x2.fHi])) 1 (.int .i64 p1)) 2 (.pointer (some ⟨b1, 0, none⟩))) 4 (.bool false)) 5 (.bool y2)) 6 (.slice A6 y4.1.length c7)) 7 (.int .i64 y4.2)) 8 (.pointer (some ⟨b16, 0, none⟩))) 9 (.pointer (some ⟨b19, 0, none⟩))) 10 (.int .i64 y17.2)) 11 (.pointer (some ⟨b22, 0, none⟩))) 12 (.int .i64 y20.2)) 13 (.bool y23)) 45 (.bool b26))) (fun tm0 => ?_) (fun key => ?_)
  · refine qx_y rfl (y_move_bool rfl) ?_
    refine qx_join 2 (fun tm0 => (upd (upd (upd (upd (upd (upd (upd (upd (upd (upd (upd (upd (upd (upd tm0 0 (.agg #[.int .i64 p0.fBarrows, .int .i64 p0.fSeen.x0, .int .i64 p0.fSeen.x1, .int .i64 p0.fSeen.x2, .int .i64 p0.fKnown.x0.fLo, .int .i64 p0.fKnown.x0.fHi, .int .i64 p0.fKnown.x1.fLo, .int .i64 p0.fKnown.x1.fHi, .int .i64 p0.fKnown.x2.fLo, .int .i64 p0.fKnown.x2.fHi])) 1 (.int .i64 p1)) 2 (.pointer (some ⟨b1, 0, none⟩))) 4 (.bool false)) 5 (.bool y2)) 6 (.slice A6 y4.1.length c7)) 7 (.int .i64 y4.2)) 8 (.pointer (some ⟨b16, 0, none⟩))) 9 (.pointer (some ⟨b19, 0, none⟩))) 10 (.int .i64 y17.2)) 11 (.pointer (some ⟨b22, 0, none⟩))) 12 (.int .i64 y20.2)) 13 (.bool y23)) 48 (.bool (b26 && y23)))) (fun tm0 => ?_) (fun key => ?_)
    · refine qx_y rfl (y_move_bool rfl) ?_
      refine qx_join 5 (fun tm0 => (upd (upd (upd (upd (upd (upd (upd (upd (upd (upd (upd (upd (upd (upd tm0 0 (.agg #[.int .i64 p0.fBarrows, .int .i64 p0.fSeen.x0, .int .i64 p0.fSeen.x1, .int .i64 p0.fSeen.x2, .int .i64 p0.fKnown.x0.fLo, .int .i64 p0.fKnown.x0.fHi, .int .i64 p0.fKnown.x1.fLo, .int .i64 p0.fKnown.x1.fHi, .int .i64 p0.fKnown.x2.fLo, .int .i64 p0.fKnown.x2.fHi])) 1 (.int .i64 p1)) 2 (.pointer (some ⟨b1, 0, none⟩))) 4 (.bool false)) 5 (.bool y2)) 6 (.slice A6 y4.1.length c7)) 7 (.int .i64 y4.2)) 8 (.pointer (some ⟨b16, 0, none⟩))) 9 (.pointer (some ⟨b19, 0, none⟩))) 10 (.int .i64 y17.2)) 11 (.pointer (some ⟨b22, 0, none⟩))) 12 (.int .i64 y20.2)) 13 (.bool y23)) 54 (.bool ((b26 && y23) && (y4.2 == y10.fE))))) (fun tm0 => ?_) (fun key => ?_)
      · refine qx_y rfl (y_move_bool rfl) ?_
        refine qx_join 4 (fun tm0 => (upd (upd (upd (upd (upd (upd (upd (upd (upd (upd (upd (upd (upd (upd tm0 0 (.agg #[.int .i64 p0.fBarrows, .int .i64 p0.fSeen.x0, .int .i64 p0.fSeen.x1, .int .i64 p0.fSeen.x2, .int .i64 p0.fKnown.x0.fLo, .int .i64 p0.fKnown.x0.fHi, .int .i64 p0.fKnown.x1.fLo, .int .i64 p0.fKnown.x1.fHi, .int .i64 p0.fKnown.x2.fLo, .int .i64 p0.fKnown.x2.fHi])) 1 (.int .i64 p1)) 2 (.pointer (some ⟨b1, 0, none⟩))) 4 (.bool false)) 5 (.bool y2)) 6 (.slice A6 y4.1.length c7)) 7 (.int .i64 y4.2)) 8 (.pointer (some ⟨b16, 0, none⟩))) 9 (.pointer (some ⟨b19, 0, none⟩))) 10 (.int .i64 y17.2)) 11 (.pointer (some ⟨b22, 0, none⟩))) 12 (.int .i64 y20.2)) 13 (.bool y23)) 59 (.bool (((b26 && y23) && (y4.2 == y10.fE)) && ((y17.1.fLo == y20.1.fLo) && (y17.1.fHi == y20.1.fHi)))))) (fun tm0 => ?_) (fun key => ?_)
        · refine qx_y rfl (y_move_bool rfl) ?_
          refine qx_join 4 (fun tm0 => (upd (upd (upd (upd (upd (upd (upd (upd (upd (upd (upd (upd (upd (upd tm0 0 (.agg #[.int .i64 p0.fBarrows, .int .i64 p0.fSeen.x0, .int .i64 p0.fSeen.x1, .int .i64 p0.fSeen.x2, .int .i64 p0.fKnown.x0.fLo, .int .i64 p0.fKnown.x0.fHi, .int .i64 p0.fKnown.x1.fLo, .int .i64 p0.fKnown.x1.fHi, .int .i64 p0.fKnown.x2.fLo, .int .i64 p0.fKnown.x2.fHi])) 1 (.int .i64 p1)) 2 (.pointer (some ⟨b1, 0, none⟩))) 4 (.bool false)) 5 (.bool y2)) 6 (.slice A6 y4.1.length c7)) 7 (.int .i64 y4.2)) 8 (.pointer (some ⟨b16, 0, none⟩))) 9 (.pointer (some ⟨b19, 0, none⟩))) 10 (.int .i64 y17.2)) 11 (.pointer (some ⟨b22, 0, none⟩))) 12 (.int .i64 y20.2)) 13 (.bool y23)) 64 (.bool ((((b26 && y23) && (y4.2 == y10.fE)) && ((y17.1.fLo == y20.1.fLo) && (y17.1.fHi == y20.1.fHi))) && (y17.2 == y20.2))))) (fun tm0 => ?_) (fun key => ?_)
          · refine qx_y rfl (y_assign_bool rfl) ?_
            refine qx_nil ?_
            refine ox_nil ?_
            refine ex_then ?_
            refine cx_ret ?_
            obtain rfl := Option.some.inj h
            exact ex_res1 (.inl rfl) rfl (resV_tmp (v := .bool ((((b26 && y23) && (y4.2 == y10.fE)) && ((y17.1.fLo == y20.1.fLo) && (y17.1.fHi == y20.1.fHi))) && (y17.2 == y20.2))) rfl) (fun W2 hW2 => ⟨rfl, hW2.none⟩)
          · rcases bool_cases (((b26 && y23) && (y4.2 == y10.fE)) && ((y17.1.fLo == y20.1.fLo) && (y17.1.fHi == y20.1.fHi))) with hp31 | hp31
            · refine qx_y (sees_t rfl rfl rfl rfl hp31) (y_move_int rfl) ?_
              refine qx_y (sees_t rfl rfl rfl rfl hp31) (y_move_int rfl) ?_
              refine qx_y (sees_t rfl rfl rfl rfl hp31) (y_eql rfl rfl) ?_
              refine qx_y rfl (y_pick_tb (congrArg Value.bool hp31) rfl) ?_
              exact key _ _ (keep (keep (keep (keep (keep (keep (keep (keep (keep (keep (keep (keep (keep (keep rfl rfl) rfl) rfl) rfl) rfl) rfl) rfl) rfl) rfl) rfl) rfl) rfl) rfl) (congrArg Value.bool (and_t hp31)))
            · refine qx_skip (sees_f rfl rfl rfl rfl hp31) ?_
              refine qx_skip (sees_f rfl rfl rfl rfl hp31) ?_
              refine qx_skip (sees_f rfl rfl rfl rfl hp31) ?_
              refine qx_y rfl (y_pick_fb (congrArg Value.bool hp31) rfl) ?_
              exact key _ _ (keep (keep (keep (keep (keep (keep (keep (keep (keep (keep (keep (keep (keep (keep rfl rfl) rfl) rfl) rfl) rfl) rfl) rfl) rfl) rfl) rfl) rfl) rfl) rfl) (congrArg Value.bool (and_f hp31)))
        · rcases bool_cases ((b26 && y23) && (y4.2 == y10.fE)) with hp30 | hp30
          · refine qx_y (sees_t rfl rfl rfl rfl hp30) (y_loadN 4 [.int .i64 y17.1.fLo, .int .i64 y17.1.fHi] ag_33 rfl rfl rfl) ?_
            refine qx_y (sees_t rfl rfl rfl rfl hp30) (y_loadN 5 [.int .i64 y20.1.fLo, .int .i64 y20.1.fHi] ag_33 rfl rfl rfl) ?_
            refine qx_y (sees_t rfl rfl rfl rfl hp30) (y_eqla (b := ((y17.1.fLo == y20.1.fLo) && (y17.1.fHi == y20.1.fHi))) eg_33 rfl rfl (fun _ => (eqS2 fl_33 (part1 sc_3 rfl) (part1 sc_3 rfl) (part1 sc_3 rfl) (part1 sc_3 rfl) (run_equalIn_int _ _ _ _ _ _ _ ui_3) (run_equalIn_int _ _ _ _ _ _ _ ui_3)))) ?_
            refine qx_y rfl (y_pick_tb (congrArg Value.bool hp30) rfl) ?_
            exact key _ _ (keep (keep (keep (keep (keep (keep (keep (keep (keep (keep (keep (keep (keep (keep rfl rfl) rfl) rfl) rfl) rfl) rfl) rfl) rfl) rfl) rfl) rfl) rfl) rfl) (congrArg Value.bool (and_t hp30)))
          · refine qx_skip (sees_f rfl rfl rfl rfl hp30) ?_
            refine qx_skip (sees_f rfl rfl rfl rfl hp30) ?_
            refine qx_skip (sees_f rfl rfl rfl rfl hp30) ?_
            refine qx_y rfl (y_pick_fb (congrArg Value.bool hp30) rfl) ?_
            exact key _ _ (keep (keep (keep (keep (keep (keep (keep (keep (keep (keep (keep (keep (keep (keep rfl rfl) rfl) rfl) rfl) rfl) rfl) rfl) rfl) rfl) rfl) rfl) rfl) rfl) (congrArg Value.bool (and_f hp30)))
      · rcases bool_cases (b26 && y23) with hp29 | hp29
        · refine qx_y (sees_t rfl rfl rfl rfl hp29) (y_move_int rfl) ?_
          refine qx_y (sees_t rfl rfl rfl rfl hp29) (y_fieldAddr fo_57_1 rfl) ?_
          refine qx_y (sees_t rfl rfl rfl rfl hp29) (y_load1 3 (v := .int .i64 y10.fE) sc_27 rfl rfl rfl) ?_
          refine qx_y (sees_t rfl rfl rfl rfl hp29) (y_eql rfl rfl) ?_
          refine qx_y rfl (y_pick_tb (congrArg Value.bool hp29) rfl) ?_
          exact key _ _ (keep (keep (keep (keep (keep (keep (keep (keep (keep (keep (keep (keep (keep (keep rfl rfl) rfl) rfl) rfl) rfl) rfl) rfl) rfl) rfl) rfl) rfl) rfl) rfl) (congrArg Value.bool (and_t hp29)))
        · refine qx_skip (sees_f rfl rfl rfl rfl hp29) ?_
          refine qx_skip (sees_f rfl rfl rfl rfl hp29) ?_
          refine qx_skip (sees_f rfl rfl rfl rfl hp29) ?_
          refine qx_skip (sees_f rfl rfl rfl rfl hp29) ?_
          refine qx_y rfl (y_pick_fb (congrArg Value.bool hp29) rfl) ?_
          exact key _ _ (keep (keep (keep (keep (keep (keep (keep (keep (keep (keep (keep (keep (keep (keep rfl rfl) rfl) rfl) rfl) rfl) rfl) rfl) rfl) rfl) rfl) rfl) rfl) rfl) (congrArg Value.bool (and_f hp29)))
    · rcases bool_cases b26 with hp28 | hp28
      · refine qx_y (sees_t rfl rfl rfl rfl hp28) (y_move_bool rfl) ?_
        refine qx_y rfl (y_pick_tb (congrArg Value.bool hp28) rfl) ?_
        exact key _ _ (keep (keep (keep (keep (keep (keep (keep (keep (keep (keep (keep (keep (keep (keep rfl rfl) rfl) rfl) rfl) rfl) rfl) rfl) rfl) rfl) rfl) rfl) rfl) rfl) (congrArg Value.bool (and_t hp28)))
      · refine qx_skip (sees_f rfl rfl rfl rfl hp28) ?_
        refine qx_y rfl (y_pick_fb (congrArg Value.bool hp28) rfl) ?_
        exact key _ _ (keep (keep (keep (keep (keep (keep (keep (keep (keep (keep (keep (keep (keep (keep rfl rfl) rfl) rfl) rfl) rfl) rfl) rfl) rfl) rfl) rfl) rfl) rfl) rfl) (congrArg Value.bool (and_f hp28)))
  · clear h; rcases ite_some hb27 with ⟨hp25, h⟩ | ⟨hp25, h⟩
    · refine qx_y (sees_t rfl rfl rfl rfl hp25) (y_loadN 0 [.int .i64 p0.fBarrows, .int .i64 p0.fSeen.x0, .int .i64 p0.fSeen.x1, .int .i64 p0.fSeen.x2, .int .i64 p0.fKnown.x0.fLo, .int .i64 p0.fKnown.x0.fHi, .int .i64 p0.fKnown.x1.fLo, .int .i64 p0.fKnown.x1.fHi, .int .i64 p0.fKnown.x2.fLo, .int .i64 p0.fKnown.x2.fHi] ag_52 rfl rfl rfl) ?_
      obtain ⟨y32, hy33, h⟩ := bind_some h
      refine qx_y (sees_t rfl rfl rfl rfl hp25) (y_call [.agg #[.int .i64 p0.fBarrows, .int .i64 p0.fSeen.x0, .int .i64 p0.fSeen.x1, .int .i64 p0.fSeen.x2, .int .i64 p0.fKnown.x0.fLo, .int .i64 p0.fKnown.x0.fHi, .int .i64 p0.fKnown.x1.fLo, .int .i64 p0.fKnown.x1.fHi, .int .i64 p0.fKnown.x2.fLo, .int .i64 p0.fKnown.x2.fHi]] go_39 rfl (fun W2 hW2 => sample_Check_ok p0 y32 hy33 W2 ) rfl) ?_
      refine qx_y (sees_t rfl rfl rfl rfl hp25) (y_loadN 0 [.int .i64 p0.fBarrows, .int .i64 p0.fSeen.x0, .int .i64 p0.fSeen.x1, .int .i64 p0.fSeen.x2, .int .i64 p0.fKnown.x0.fLo, .int .i64 p0.fKnown.x0.fHi, .int .i64 p0.fKnown.x1.fLo, .int .i64 p0.fKnown.x1.fHi, .int .i64 p0.fKnown.x2.fLo, .int .i64 p0.fKnown.x2.fHi] ag_52 rfl rfl rfl) ?_
      obtain ⟨y34, hy35, h⟩ := bind_some h
      refine qx_y (sees_t rfl rfl rfl rfl hp25) (y_call [.agg #[.int .i64 p0.fBarrows, .int .i64 p0.fSeen.x0, .int .i64 p0.fSeen.x1, .int .i64 p0.fSeen.x2, .int .i64 p0.fKnown.x0.fLo, .int .i64 p0.fKnown.x0.fHi, .int .i64 p0.fKnown.x1.fLo, .int .i64 p0.fKnown.x1.fHi, .int .i64 p0.fKnown.x2.fLo, .int .i64 p0.fKnown.x2.fHi]] go_40 rfl (fun W2 hW2 => calxref03_Check_ok p0 y34 hy35 W2 ) rfl) ?_
      refine qx_y (sees_t rfl rfl rfl rfl hp25) (y_eql rfl rfl) ?_
      refine qx_y rfl (y_pick_tb (congrArg Value.bool hp25) rfl) ?_
      obtain rfl := Option.some.inj h
      exact key _ _ (keep (keep (keep (keep (keep (keep (keep (keep (keep (keep (keep (keep (keep (keep rfl rfl) rfl) rfl) rfl) rfl) rfl) rfl) rfl) rfl) rfl) rfl) rfl) rfl) rfl)
    · refine qx_skip (sees_f rfl rfl rfl rfl hp25) ?_
      refine qx_skip (sees_f rfl rfl rfl rfl hp25) ?_
      refine qx_skip (sees_f rfl rfl rfl rfl hp25) ?_
      refine qx_skip (sees_f rfl rfl rfl rfl hp25) ?_
      refine qx_skip (sees_f rfl rfl rfl rfl hp25) ?_
      refine qx_y rfl (y_pick_fb (congrArg Value.bool hp25) rfl) ?_
      obtain rfl := Option.some.inj h
      exact key _ _ (keep (keep (keep (keep (keep (keep (keep (keep (keep (keep (keep (keep (keep (keep rfl rfl) rfl) rfl) rfl) rfl) rfl) rfl) rfl) rfl) rfl) rfl) rfl) rfl) rfl)

end Go.Proofs.Ytepfgdfahinpkaa
