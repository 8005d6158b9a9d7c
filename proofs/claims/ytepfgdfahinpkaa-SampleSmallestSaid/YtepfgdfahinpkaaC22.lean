/- The calls hand back what the plain functions say. -/
import Derived.Test.YtepfgdfahinpkaaF
import Derived.Test.YtepfgdfahinpkaaC0
import Derived.Test.YtepfgdfahinpkaaC3
import Derived.Test.YtepfgdfahinpkaaC4
import Derived.Test.YtepfgdfahinpkaaC5
import Derived.Test.YtepfgdfahinpkaaC10
import Derived.Test.YtepfgdfahinpkaaC13
set_option linter.unusedVariables false
set_option maxHeartbeats 4000000
namespace Go.Proofs.Ytepfgdfahinpkaa
open Go.RowKit (Below)
attribute [local irreducible] OX QX CX EX OpY Calls CallsIn

/-! calx/calxref03.Smallest -/
set_option maxRecDepth 100000 in
theorem calxref03_Smallest_ok (p0 : Int) (p1 : Int) (p2 : Int) (p3 : TRatio) (p4 : TRatio) (res : (TTrial × Int)) (h : calxref03_Smallest p0 p1 p2 p3 p4 = some res) (W : World)  :
    Calls Try.prog 24 [.int .i64 p0, .int .i64 p1, .int .i64 p2, .agg #[.int .i64 p3.fNum, .int .i64 p3.fDen], .agg #[.int .i64 p4.fNum, .int .i64 p4.fDen]].toArray W fun e W2 => e = .returned (.tuple #[.agg #[.int .i64 res.1.fSample, .int .i64 res.1.fAccept], .int .i64 res.2]) ∧ Ext W W2 [] := by
  unfold calxref03_Smallest at h
  refine calls_enter (m := 88) Try.func24 rfl rfl (Nat.le_of_ble_eq_true rfl) ?_
  refine cx_seq ?_
  refine cx_region ?_
  refine ox_box [.int .i64 p3.fNum, .int .i64 p3.fDen] rfl rfl rfl (fun b1 => ?_)
  refine ox_box [.int .i64 p4.fNum, .int .i64 p4.fDen] rfl rfl rfl (fun b2 => ?_)
  refine ox_alloc ze_26 rfl (fun b3 => ?_)
  refine ox_y rfl (y_assign_int rfl) ?_
  refine ox_nil ?_
  refine ex_then ?_
  refine cx_seq ?_
  refine cx_seq ?_
  refine cx_region ?_
  refine ox_y rfl (y_move_int rfl) ?_
  obtain ⟨y4, hy5, h⟩ := bind_some h
  refine ox_y rfl (y_call [.int .i64 p0, .int .i64 1, .int .i64 50] go_79 rfl (fun W2 hW2 => calxref03_in_ok p0 1 50 y4 hy5 W2 ) rfl) ?_
  refine ox_y rfl (y_not rfl) ?_
  refine ox_y rfl (y_move_bool rfl) ?_
  refine ox_join 3 (fun tm0 => (upd (upd (upd (upd (upd (upd (upd (upd (upd (upd tm0 0 (.int .i64 p0)) 1 (.int .i64 p1)) 2 (.int .i64 p2)) 3 (.agg #[.int .i64 p3.fNum, .int .i64 p3.fDen])) 4 (.agg #[.int .i64 p4.fNum, .int .i64 p4.fDen])) 8 (.pointer (some ⟨b1, 0, none⟩))) 9 (.pointer (some ⟨b2, 0, none⟩))) 10 (.pointer (some ⟨b3, 0, none⟩))) 11 (.int .i64 0)) 21 (.bool ((!y4) || (decide (p1 < 0)))))) (fun tm0 => ?_) (fun key => ?_)
  · refine ox_y rfl (y_move_bool rfl) ?_
    refine ox_join 4 (fun tm0 => (upd (upd (upd (upd (upd (upd (upd (upd (upd (upd tm0 0 (.int .i64 p0)) 1 (.int .i64 p1)) 2 (.int .i64 p2)) 3 (.agg #[.int .i64 p3.fNum, .int .i64 p3.fDen])) 4 (.agg #[.int .i64 p4.fNum, .int .i64 p4.fDen])) 8 (.pointer (some ⟨b1, 0, none⟩))) 9 (.pointer (some ⟨b2, 0, none⟩))) 10 (.pointer (some ⟨b3, 0, none⟩))) 11 (.int .i64 0)) 26 (.bool (((!y4) || (decide (p1 < 0))) || (decide (p2 ≤ p1)))))) (fun tm0 => ?_) (fun key => ?_)
    · refine ox_y rfl (y_move_bool rfl) ?_
      refine ox_join 4 (fun tm0 => (upd (upd (upd (upd (upd (upd (upd (upd (upd (upd tm0 0 (.int .i64 p0)) 1 (.int .i64 p1)) 2 (.int .i64 p2)) 3 (.agg #[.int .i64 p3.fNum, .int .i64 p3.fDen])) 4 (.agg #[.int .i64 p4.fNum, .int .i64 p4.fDen])) 8 (.pointer (some ⟨b1, 0, none⟩))) 9 (.pointer (some ⟨b2, 0, none⟩))) 10 (.pointer (some ⟨b3, 0, none⟩))) 11 (.int .i64 0)) 31 (.bool ((((!y4) || (decide (p1 < 0))) || (decide (p2 ≤ p1))) || (decide (p0 < p2)))))) (fun tm0 => ?_) (fun key => ?_)
      · refine ox_y rfl (y_move_bool rfl) ?_
        obtain ⟨b10, hb11, h⟩ := bind_some h
        refine ox_join 4 (fun tm0 => (upd (upd (upd (upd (upd (upd (upd (upd (upd (upd tm0 0 (.int .i64 p0)) 1 (.int .i64 p1)) 2 (.int .i64 p2)) 3 (.agg #[.int .i64 p3.fNum, .int .i64 p3.fDen])) 4 (.agg #[.int .i64 p4.fNum, .int .i64 p4.fDen])) 8 (.pointer (some ⟨b1, 0, none⟩))) 9 (.pointer (some ⟨b2, 0, none⟩))) 10 (.pointer (some ⟨b3, 0, none⟩))) 11 (.int .i64 0)) 36 (.bool b10))) (fun tm0 => ?_) (fun key => ?_)
        · refine ox_y rfl (y_move_bool rfl) ?_
          obtain ⟨b13, hb14, h⟩ := bind_some h
          refine ox_join 4 (fun tm0 => (upd (upd (upd (upd (upd (upd (upd (upd (upd (upd tm0 0 (.int .i64 p0)) 1 (.int .i64 p1)) 2 (.int .i64 p2)) 3 (.agg #[.int .i64 p3.fNum, .int .i64 p3.fDen])) 4 (.agg #[.int .i64 p4.fNum, .int .i64 p4.fDen])) 8 (.pointer (some ⟨b1, 0, none⟩))) 9 (.pointer (some ⟨b2, 0, none⟩))) 10 (.pointer (some ⟨b3, 0, none⟩))) 11 (.int .i64 0)) 41 (.bool b13))) (fun tm0 => ?_) (fun key => ?_)
          · refine ox_nil ?_
            refine ex_then ?_
            rcases ite_some h with ⟨hp15, h⟩ | ⟨hp15, h⟩
            · refine cx_true (congrArg Value.bool hp15) ?_
              refine cx_seq ?_
              refine cx_region ?_
              refine ox_y rfl (y_buildS [.int .i64 0, .int .i64 0] [(0, 1), (1, 1)] ust_26 ze_26 (by kernel_rfl)) ?_
              refine ox_n rfl (y_storeN 2 [.int .i64 0, .int .i64 0] sz_26 rfl (Nat.le_of_ble_eq_true rfl) rfl rfl rfl) ?_
              refine ox_y rfl (y_assign_int rfl) ?_
              refine ox_nil ?_
              refine ex_then ?_
              refine cx_ret ?_
              refine ex_then_ret ?_
              obtain rfl := Option.some.inj h
              exact ex_res2 (.inl rfl) rfl (resV_cellN 2 [.int .i64 0, .int .i64 0] ag_26 rfl rfl rfl) (resV_tmp (v := .int .i64 1) rfl) (fun W2 hW2 => ⟨rfl, hW2.none⟩)
            · refine cx_false (congrArg Value.bool hp15) ?_
              refine cx_skip ?_
              refine ex_then ?_
              refine cx_seq ?_
              refine cx_seq ?_
              refine cx_region ?_
              refine ox_y rfl (y_assign_int rfl) ?_
              refine ox_nil ?_
              refine ex_then ?_
              refine cx_block ?_
              obtain ⟨u19, hl39, h⟩ := bind_some h
              refine cx_loop (fun (s : (Int × Int × Int × Int)) L tm => ∃ (tm0 : Nat → Value), L = [cellsR b1 23 [.int .i64 p3.fNum, .int .i64 p3.fDen], cellsR b2 23 [.int .i64 p4.fNum, .int .i64 p4.fDen], cellsR b3 26 [.int .i64 s.2.2.1, .int .i64 s.2.2.2]] ∧ tm = (upd (upd (upd (upd (upd (upd (upd (upd (upd (upd (upd tm0 0 (.int .i64 p0)) 1 (.int .i64 p1)) 2 (.int .i64 p2)) 3 (.agg #[.int .i64 p3.fNum, .int .i64 p3.fDen])) 4 (.agg #[.int .i64 p4.fNum, .int .i64 p4.fDen])) 8 (.pointer (some ⟨b1, 0, none⟩))) 9 (.pointer (some ⟨b2, 0, none⟩))) 10 (.pointer (some ⟨b3, 0, none⟩))) 11 (.int .i64 s.1)) 41 (.bool b13)) 12 (.int .i64 s.2.1))) (fun | (.inl s), e, L, tm => e = .ret ∧ ∃ (tm0 : Nat → Value), L = [cellsR b1 23 [.int .i64 p3.fNum, .int .i64 p3.fDen], cellsR b2 23 [.int .i64 p4.fNum, .int .i64 p4.fDen], cellsR b3 26 [.int .i64 s.2.2.1, .int .i64 s.2.2.2]] ∧ tm = (upd (upd (upd (upd (upd (upd (upd (upd (upd (upd (upd tm0 0 (.int .i64 p0)) 1 (.int .i64 p1)) 2 (.int .i64 p2)) 3 (.agg #[.int .i64 p3.fNum, .int .i64 p3.fDen])) 4 (.agg #[.int .i64 p4.fNum, .int .i64 p4.fDen])) 8 (.pointer (some ⟨b1, 0, none⟩))) 9 (.pointer (some ⟨b2, 0, none⟩))) 10 (.pointer (some ⟨b3, 0, none⟩))) 11 (.int .i64 s.1)) 41 (.bool b13)) 12 (.int .i64 s.2.1)) | (.inr s), e, L, tm => e = .exit 0 ∧ ∃ (tm0 : Nat → Value), L = [cellsR b1 23 [.int .i64 p3.fNum, .int .i64 p3.fDen], cellsR b2 23 [.int .i64 p4.fNum, .int .i64 p4.fDen], cellsR b3 26 [.int .i64 s.2.2.1, .int .i64 s.2.2.2]] ∧ tm = (upd (upd (upd (upd (upd (upd (upd (upd (upd (upd (upd tm0 0 (.int .i64 p0)) 1 (.int .i64 p1)) 2 (.int .i64 p2)) 3 (.agg #[.int .i64 p3.fNum, .int .i64 p3.fDen])) 4 (.agg #[.int .i64 p4.fNum, .int .i64 p4.fDen])) 8 (.pointer (some ⟨b1, 0, none⟩))) 9 (.pointer (some ⟨b2, 0, none⟩))) 10 (.pointer (some ⟨b3, 0, none⟩))) 11 (.int .i64 s.1)) 41 (.bool b13)) 12 (.int .i64 s.2.1))) hl39 ⟨_, rfl, (keep (keep (keep (keep (keep (keep (keep (keep (keep (keep (keep rfl rfl) rfl) rfl) rfl) rfl) rfl) rfl) rfl) rfl) rfl) rfl)⟩ ?_ ?_
              · rintro s18 L tm st ⟨tm0_s18, rfl, rfl⟩ h
                unfold calxref03_Smallest_l1 at h
                refine cx_seq ?_
                refine cx_seq ?_
                refine cx_region ?_
                refine ox_y rfl (y_move_int rfl) ?_
                refine ox_y rfl (y_move_int rfl) ?_
                refine ox_y rfl (y_leq rfl rfl) ?_
                refine ox_nil ?_
                refine ex_then ?_
                rcases ite_some h with ⟨hp20, h⟩ | ⟨hp20, h⟩
                · refine cx_true (congrArg Value.bool hp20) ?_
                  refine cx_skip ?_
                  refine ex_then ?_
                  refine cx_seq ?_
                  refine cx_block ?_
                  refine cx_seq ?_
                  refine cx_region ?_
                  refine ox_y rfl (y_move_int rfl) ?_
                  refine ox_y rfl (y_move_int rfl) ?_
                  obtain ⟨y21, hy22, h⟩ := bind_some h
                  refine ox_y rfl (y_call [.int .i64 p0, .int .i64 s18.2.1] go_81 rfl (fun W2 hW2 => calxref03_choose_ok p0 s18.2.1 y21 hy22 W2 ) rfl) ?_
                  refine ox_y rfl (y_assign_int rfl) ?_
                  refine ox_nil ?_
                  refine ex_then ?_
                  refine cx_seq ?_
                  refine cx_region ?_
                  refine ox_y rfl (y_assign_int rfl) ?_
                  refine ox_nil ?_
                  refine ex_then ?_
                  refine cx_block ?_
                  obtain ⟨u26, hl36, h⟩ := bind_some h
                  refine cx_loop (fun (s : (Int × Int × Int × Int)) L tm => ∃ (tm0 : Nat → Value), L = [cellsR b1 23 [.int .i64 p3.fNum, .int .i64 p3.fDen], cellsR b2 23 [.int .i64 p4.fNum, .int .i64 p4.fDen], cellsR b3 26 [.int .i64 s.2.2.1, .int .i64 s.2.2.2]] ∧ tm = (upd (upd (upd (upd (upd (upd (upd (upd (upd (upd (upd (upd (upd (upd tm0 0 (.int .i64 p0)) 1 (.int .i64 p1)) 2 (.int .i64 p2)) 3 (.agg #[.int .i64 p3.fNum, .int .i64 p3.fDen])) 4 (.agg #[.int .i64 p4.fNum, .int .i64 p4.fDen])) 8 (.pointer (some ⟨b1, 0, none⟩))) 9 (.pointer (some ⟨b2, 0, none⟩))) 10 (.pointer (some ⟨b3, 0, none⟩))) 11 (.int .i64 s.1)) 41 (.bool b13)) 12 (.int .i64 s18.2.1)) 45 (.bool (decide (s18.2.1 ≤ p0)))) 13 (.int .i64 y21)) 14 (.int .i64 s.2.1))) (fun | (.inl s), e, L, tm => e = .ret ∧ ∃ (tm0 : Nat → Value), L = [cellsR b1 23 [.int .i64 p3.fNum, .int .i64 p3.fDen], cellsR b2 23 [.int .i64 p4.fNum, .int .i64 p4.fDen], cellsR b3 26 [.int .i64 s.2.2.1, .int .i64 s.2.2.2]] ∧ tm = (upd (upd (upd (upd (upd (upd (upd (upd (upd (upd (upd (upd (upd (upd tm0 0 (.int .i64 p0)) 1 (.int .i64 p1)) 2 (.int .i64 p2)) 3 (.agg #[.int .i64 p3.fNum, .int .i64 p3.fDen])) 4 (.agg #[.int .i64 p4.fNum, .int .i64 p4.fDen])) 8 (.pointer (some ⟨b1, 0, none⟩))) 9 (.pointer (some ⟨b2, 0, none⟩))) 10 (.pointer (some ⟨b3, 0, none⟩))) 11 (.int .i64 s.1)) 41 (.bool b13)) 12 (.int .i64 s18.2.1)) 45 (.bool (decide (s18.2.1 ≤ p0)))) 13 (.int .i64 y21)) 14 (.int .i64 s.2.1)) | (.inr s), e, L, tm => e = .exit 2 ∧ ∃ (tm0 : Nat → Value), L = [cellsR b1 23 [.int .i64 p3.fNum, .int .i64 p3.fDen], cellsR b2 23 [.int .i64 p4.fNum, .int .i64 p4.fDen], cellsR b3 26 [.int .i64 s.2.2.1, .int .i64 s.2.2.2]] ∧ tm = (upd (upd (upd (upd (upd (upd (upd (upd (upd (upd (upd (upd (upd (upd tm0 0 (.int .i64 p0)) 1 (.int .i64 p1)) 2 (.int .i64 p2)) 3 (.agg #[.int .i64 p3.fNum, .int .i64 p3.fDen])) 4 (.agg #[.int .i64 p4.fNum, .int .i64 p4.fDen])) 8 (.pointer (some ⟨b1, 0, none⟩))) 9 (.pointer (some ⟨b2, 0, none⟩))) 10 (.pointer (some ⟨b3, 0, none⟩))) 11 (.int .i64 s.1)) 41 (.bool b13)) 12 (.int .i64 s18.2.1)) 45 (.bool (decide (s18.2.1 ≤ p0)))) 13 (.int .i64 y21)) 14 (.int .i64 s.2.1))) hl36 ⟨_, rfl, (keep (keep (keep (keep (keep (keep (keep (keep (keep (keep (keep (keep (keep (keep rfl rfl) rfl) rfl) rfl) rfl) rfl) rfl) rfl) rfl) rfl) rfl) rfl) rfl) rfl)⟩ ?_ ?_
                  · rintro s25 L tm st ⟨tm0_s25, rfl, rfl⟩ h
                    unfold calxref03_Smallest_l2 at h
                    refine cx_seq ?_
                    refine cx_seq ?_
                    refine cx_region ?_
                    refine ox_y rfl (y_move_int rfl) ?_
                    refine ox_y rfl (y_move_int rfl) ?_
                    refine ox_y rfl (y_leq rfl rfl) ?_
                    refine ox_nil ?_
                    refine ex_then ?_
                    rcases ite_some h with ⟨hp27, h⟩ | ⟨hp27, h⟩
                    · refine cx_true (congrArg Value.bool hp27) ?_
                      refine cx_skip ?_
                      refine ex_then ?_
                      refine cx_seq ?_
                      refine cx_block ?_
                      refine cx_seq ?_
                      refine cx_draws 28 mixed (by kernel_rfl) (by kernel_rfl) ?_
                      refine qx_y rfl (y_move_int rfl) ?_
                      refine qx_y rfl (y_move_int rfl) ?_
                      refine qx_y rfl (y_move_int rfl) ?_
                      refine qx_y rfl (y_move_int rfl) ?_
                      obtain ⟨y28, hy29, h⟩ := bind_some h
                      refine qx_y rfl (y_call [.int .i64 p0, .int .i64 p1, .int .i64 s18.2.1, .int .i64 s25.2.1] go_82 rfl (fun W2 hW2 => calxref03_atMost_ok p0 p1 s18.2.1 s25.2.1 y28 hy29 W2 ) rfl) ?_
                      refine qx_y rfl (y_fieldAddr fo_23_1 rfl) ?_
                      refine qx_y rfl (y_load1 0 (v := .int .i64 p3.fDen) sc_3 rfl rfl rfl) ?_
                      refine qx_y rfl (y_mul rfl rfl) ?_
                      refine qx_y rfl (y_move_int rfl) ?_
                      refine qx_y rfl (y_fieldAddr fo_23_0 rfl) ?_
                      refine qx_y rfl (y_load1 0 (v := .int .i64 p3.fNum) sc_3 rfl rfl rfl) ?_
                      refine qx_y rfl (y_mul rfl rfl) ?_
                      refine qx_y rfl (y_geq rfl rfl) ?_
                      refine qx_y rfl (y_move_bool rfl) ?_
                      obtain ⟨b31, hb32, h⟩ := bind_some h
                      refine qx_join 14 (fun tm0 => (upd (upd (upd (upd (upd (upd (upd (upd (upd (upd (upd (upd (upd (upd (upd (upd tm0 0 (.int .i64 p0)) 1 (.int .i64 p1)) 2 (.int .i64 p2)) 3 (.agg #[.int .i64 p3.fNum, .int .i64 p3.fDen])) 4 (.agg #[.int .i64 p4.fNum, .int .i64 p4.fDen])) 8 (.pointer (some ⟨b1, 0, none⟩))) 9 (.pointer (some ⟨b2, 0, none⟩))) 10 (.pointer (some ⟨b3, 0, none⟩))) 11 (.int .i64 s25.1)) 41 (.bool b13)) 12 (.int .i64 s18.2.1)) 45 (.bool (decide (s18.2.1 ≤ p0)))) 13 (.int .i64 y21)) 14 (.int .i64 s25.2.1)) 53 (.bool (decide (s25.2.1 ≤ s18.2.1)))) 83 (.bool b31))) (fun tm0 => ?_) (fun key => ?_)
                      · refine qx_nil ?_
                        refine ox_nil ?_
                        refine ex_then ?_
                        rcases ite_some h with ⟨hp33, h⟩ | ⟨hp33, h⟩
                        · refine cx_true (congrArg Value.bool hp33) ?_
                          refine cx_seq ?_
                          refine cx_region ?_
                          refine ox_y rfl (y_move_int rfl) ?_
                          refine ox_y rfl (y_move_int rfl) ?_
                          refine ox_y rfl (y_buildS [.int .i64 s18.2.1, .int .i64 s25.2.1] [(0, 1), (1, 1)] ust_26 ze_26 (by kernel_rfl)) ?_
                          refine ox_n rfl (y_storeN 2 [.int .i64 s18.2.1, .int .i64 s25.2.1] sz_26 rfl (Nat.le_of_ble_eq_true rfl) rfl rfl rfl) ?_
                          refine ox_y rfl (y_assign_int rfl) ?_
                          refine ox_nil ?_
                          refine ex_then ?_
                          refine cx_ret ?_
                          refine ex_block_ret ?_
                          refine ex_then_ret ?_
                          obtain rfl := Option.some.inj h
                          exact ex_stop ⟨rfl, _, rfl, (keep (keep (keep (keep (keep (keep (keep (keep (keep (keep (keep (keep (keep (keep rfl rfl) rfl) rfl) rfl) rfl) rfl) rfl) rfl) rfl) rfl) rfl) rfl) rfl) rfl)⟩
                        · refine cx_false (congrArg Value.bool hp33) ?_
                          refine cx_skip ?_
                          refine ex_block ?_
                          refine ex_then ?_
                          refine cx_region ?_
                          refine ox_y rfl (y_move_int rfl) ?_
                          refine ox_y rfl (y_add rfl rfl) ?_
                          refine ox_y rfl (y_assign_int rfl) ?_
                          refine ox_nil ?_
                          obtain rfl := Option.some.inj h
                          exact ex_next ⟨_, rfl, (keep (keep (keep (keep (keep (keep (keep (keep (keep (keep (keep (keep (keep (keep rfl rfl) rfl) rfl) rfl) rfl) rfl) rfl) rfl) rfl) rfl) rfl) rfl) rfl) rfl)⟩
                      · clear h; rcases ite_some hb32 with ⟨hp30, h⟩ | ⟨hp30, h⟩
                        · refine qx_y (sees_t rfl rfl rfl rfl hp30) (y_move_int rfl) ?_
                          refine qx_y (sees_t rfl rfl rfl rfl hp30) (y_move_int rfl) ?_
                          refine qx_y (sees_t rfl rfl rfl rfl hp30) (y_move_int rfl) ?_
                          refine qx_y (sees_t rfl rfl rfl rfl hp30) (y_move_int rfl) ?_
                          obtain ⟨y34, hy35, h⟩ := bind_some h
                          refine qx_y (sees_t rfl rfl rfl rfl hp30) (y_call [.int .i64 p0, .int .i64 p2, .int .i64 s18.2.1, .int .i64 s25.2.1] go_82 rfl (fun W2 hW2 => calxref03_atMost_ok p0 p2 s18.2.1 s25.2.1 y34 hy35 W2 ) rfl) ?_
                          refine qx_y (sees_t rfl rfl rfl rfl hp30) (y_fieldAddr fo_23_1 rfl) ?_
                          refine qx_y (sees_t rfl rfl rfl rfl hp30) (y_load1 1 (v := .int .i64 p4.fDen) sc_3 rfl rfl rfl) ?_
                          refine qx_y (sees_t rfl rfl rfl rfl hp30) (y_mul rfl rfl) ?_
                          refine qx_y (sees_t rfl rfl rfl rfl hp30) (y_move_int rfl) ?_
                          refine qx_y (sees_t rfl rfl rfl rfl hp30) (y_fieldAddr fo_23_0 rfl) ?_
                          refine qx_y (sees_t rfl rfl rfl rfl hp30) (y_load1 1 (v := .int .i64 p4.fNum) sc_3 rfl rfl rfl) ?_
                          refine qx_y (sees_t rfl rfl rfl rfl hp30) (y_mul rfl rfl) ?_
                          refine qx_y (sees_t rfl rfl rfl rfl hp30) (y_leq rfl rfl) ?_
                          refine qx_y rfl (y_pick_tb (congrArg Value.bool hp30) rfl) ?_
                          obtain rfl := Option.some.inj h
                          exact key _ _ (keep (keep (keep (keep (keep (keep (keep (keep (keep (keep (keep (keep (keep (keep (keep (keep rfl rfl) rfl) rfl) rfl) rfl) rfl) rfl) rfl) rfl) rfl) rfl) rfl) rfl) rfl) rfl) rfl)
                        · refine qx_skip (sees_f rfl rfl rfl rfl hp30) ?_
                          refine qx_skip (sees_f rfl rfl rfl rfl hp30) ?_
                          refine qx_skip (sees_f rfl rfl rfl rfl hp30) ?_
                          refine qx_skip (sees_f rfl rfl rfl rfl hp30) ?_
                          refine qx_skip (sees_f rfl rfl rfl rfl hp30) ?_
                          refine qx_skip (sees_f rfl rfl rfl rfl hp30) ?_
                          refine qx_skip (sees_f rfl rfl rfl rfl hp30) ?_
                          refine qx_skip (sees_f rfl rfl rfl rfl hp30) ?_
                          refine qx_skip (sees_f rfl rfl rfl rfl hp30) ?_
                          refine qx_skip (sees_f rfl rfl rfl rfl hp30) ?_
                          refine qx_skip (sees_f rfl rfl rfl rfl hp30) ?_
                          refine qx_skip (sees_f rfl rfl rfl rfl hp30) ?_
                          refine qx_skip (sees_f rfl rfl rfl rfl hp30) ?_
                          refine qx_y rfl (y_pick_fb (congrArg Value.bool hp30) rfl) ?_
                          obtain rfl := Option.some.inj h
                          exact key _ _ (keep (keep (keep (keep (keep (keep (keep (keep (keep (keep (keep (keep (keep (keep (keep (keep rfl rfl) rfl) rfl) rfl) rfl) rfl) rfl) rfl) rfl) rfl) rfl) rfl) rfl) rfl) rfl) rfl)
                    · refine cx_false (congrArg Value.bool hp27) ?_
                      refine cx_exit ?_
                      refine ex_then_exit ?_
                      obtain rfl := Option.some.inj h
                      exact ex_stop ⟨rfl, _, rfl, (keep (keep (keep (keep (keep (keep (keep (keep (keep (keep (keep (keep (keep (keep rfl rfl) rfl) rfl) rfl) rfl) rfl) rfl) rfl) rfl) rfl) rfl) rfl) rfl) rfl)⟩
                  · intro e L tm hJ
                    rcases u26 with u37 | u38
                    · dsimp only at h hJ
                      obtain ⟨rfl, tm0_u37, rfl, rfl⟩ := hJ
                      refine ⟨(by intro hc; cases hc), ?_⟩
                      refine ex_block_ret ?_
                      refine ex_block_ret ?_
                      refine ex_then_ret ?_
                      obtain rfl := Option.some.inj h
                      exact ex_stop ⟨rfl, _, rfl, (keep (keep (keep (keep (keep (keep (keep (keep (keep (keep (keep rfl rfl) rfl) rfl) rfl) rfl) rfl) rfl) rfl) rfl) rfl) rfl)⟩
                    · dsimp only at h hJ
                      obtain ⟨rfl, tm0_u38, rfl, rfl⟩ := hJ
                      refine ⟨(by intro hc; cases hc), ?_⟩
                      refine ex_block_here ?_
                      refine ex_block ?_
                      refine ex_then ?_
                      refine cx_region ?_
                      refine ox_y rfl (y_move_int rfl) ?_
                      refine ox_y rfl (y_add rfl rfl) ?_
                      refine ox_y rfl (y_assign_int rfl) ?_
                      refine ox_nil ?_
                      obtain rfl := Option.some.inj h
                      exact ex_next ⟨_, rfl, (keep (keep (keep (keep (keep (keep (keep (keep (keep (keep (keep rfl rfl) rfl) rfl) rfl) rfl) rfl) rfl) rfl) rfl) rfl) rfl)⟩
                · refine cx_false (congrArg Value.bool hp20) ?_
                  refine cx_exit ?_
                  refine ex_then_exit ?_
                  obtain rfl := Option.some.inj h
                  exact ex_stop ⟨rfl, _, rfl, (keep (keep (keep (keep (keep (keep (keep (keep (keep (keep (keep rfl rfl) rfl) rfl) rfl) rfl) rfl) rfl) rfl) rfl) rfl) rfl)⟩
              · intro e L tm hJ
                rcases u19 with u40 | u41
                · dsimp only at h hJ
                  obtain ⟨rfl, tm0_u40, rfl, rfl⟩ := hJ
                  refine ⟨(by intro hc; cases hc), ?_⟩
                  refine ex_block_ret ?_
                  refine ex_then_ret ?_
                  obtain rfl := Option.some.inj h
                  exact ex_res2 (.inl rfl) rfl (resV_cellN 2 [.int .i64 u40.2.2.1, .int .i64 u40.2.2.2] ag_26 rfl rfl rfl) (resV_tmp (v := .int .i64 u40.1) rfl) (fun W2 hW2 => ⟨rfl, hW2.none⟩)
                · dsimp only at h hJ
                  obtain ⟨rfl, tm0_u41, rfl, rfl⟩ := hJ
                  refine ⟨(by intro hc; cases hc), ?_⟩
                  refine ex_block_here ?_
                  refine ex_then ?_
                  refine cx_seq ?_
                  refine cx_region ?_
                  refine ox_y rfl (y_buildS [.int .i64 0, .int .i64 0] [(0, 1), (1, 1)] ust_26 ze_26 (by kernel_rfl)) ?_
                  refine ox_n rfl (y_storeN 2 [.int .i64 0, .int .i64 0] sz_26 rfl (Nat.le_of_ble_eq_true rfl) rfl rfl rfl) ?_
                  refine ox_y rfl (y_assign_int rfl) ?_
                  refine ox_nil ?_
                  refine ex_then ?_
                  refine cx_ret ?_
                  obtain rfl := Option.some.inj h
                  exact ex_res2 (.inl rfl) rfl (resV_cellN 2 [.int .i64 0, .int .i64 0] ag_26 rfl rfl rfl) (resV_tmp (v := .int .i64 5) rfl) (fun W2 hW2 => ⟨rfl, hW2.none⟩)
          · clear h; rcases ite_some hb14 with ⟨hp12, h⟩ | ⟨hp12, h⟩
            · refine ox_skip (sees_f rfl rfl rfl rfl hp12) ?_
              refine ox_skip (sees_f rfl rfl rfl rfl hp12) ?_
              refine ox_skip (sees_f rfl rfl rfl rfl hp12) ?_
              refine ox_y rfl (y_pick_tb (congrArg Value.bool hp12) rfl) ?_
              obtain rfl := Option.some.inj h
              exact key _ _ (keep (keep (keep (keep (keep (keep (keep (keep (keep (keep rfl rfl) rfl) rfl) rfl) rfl) rfl) rfl) rfl) rfl) rfl)
            · refine ox_y (sees_t rfl rfl rfl rfl hp12) (y_loadN 1 [.int .i64 p4.fNum, .int .i64 p4.fDen] ag_23 rfl rfl rfl) ?_
              obtain ⟨y42, hy43, h⟩ := bind_some h
              refine ox_y (sees_t rfl rfl rfl rfl hp12) (y_call [.agg #[.int .i64 p4.fNum, .int .i64 p4.fDen]] go_80 rfl (fun W2 hW2 => calxref03_level_ok p4 y42 hy43 W2 ) rfl) ?_
              refine ox_y (sees_t rfl rfl rfl rfl hp12) (y_not rfl) ?_
              refine ox_y rfl (y_pick_fb (congrArg Value.bool hp12) rfl) ?_
              obtain rfl := Option.some.inj h
              exact key _ _ (keep (keep (keep (keep (keep (keep (keep (keep (keep (keep rfl rfl) rfl) rfl) rfl) rfl) rfl) rfl) rfl) rfl) rfl)
        · clear h; rcases ite_some hb11 with ⟨hp9, h⟩ | ⟨hp9, h⟩
          · refine ox_skip (sees_f rfl rfl rfl rfl hp9) ?_
            refine ox_skip (sees_f rfl rfl rfl rfl hp9) ?_
            refine ox_skip (sees_f rfl rfl rfl rfl hp9) ?_
            refine ox_y rfl (y_pick_tb (congrArg Value.bool hp9) rfl) ?_
            obtain rfl := Option.some.inj h
            exact key _ _ (keep (keep (keep (keep (keep (keep (keep (keep (keep (keep rfl rfl) rfl) rfl) rfl) rfl) rfl) rfl) rfl) rfl) rfl)
          · refine ox_y (sees_t rfl rfl rfl rfl hp9) (y_loadN 0 [.int .i64 p3.fNum, .int .i64 p3.fDen] ag_23 rfl rfl rfl) ?_
            obtain ⟨y44, hy45, h⟩ := bind_some h
            refine ox_y (sees_t rfl rfl rfl rfl hp9) (y_call [.agg #[.int .i64 p3.fNum, .int .i64 p3.fDen]] go_80 rfl (fun W2 hW2 => calxref03_level_ok p3 y44 hy45 W2 ) rfl) ?_
            refine ox_y (sees_t rfl rfl rfl rfl hp9) (y_not rfl) ?_
            refine ox_y rfl (y_pick_fb (congrArg Value.bool hp9) rfl) ?_
            obtain rfl := Option.some.inj h
            exact key _ _ (keep (keep (keep (keep (keep (keep (keep (keep (keep (keep rfl rfl) rfl) rfl) rfl) rfl) rfl) rfl) rfl) rfl) rfl)
      · rcases bool_cases (((!y4) || (decide (p1 < 0))) || (decide (p2 ≤ p1))) with hp8 | hp8
        · refine ox_skip (sees_f rfl rfl rfl rfl hp8) ?_
          refine ox_skip (sees_f rfl rfl rfl rfl hp8) ?_
          refine ox_skip (sees_f rfl rfl rfl rfl hp8) ?_
          refine ox_y rfl (y_pick_tb (congrArg Value.bool hp8) rfl) ?_
          exact key _ _ (keep (keep (keep (keep (keep (keep (keep (keep (keep (keep rfl rfl) rfl) rfl) rfl) rfl) rfl) rfl) rfl) rfl) (congrArg Value.bool (or_t hp8)))
        · refine ox_y (sees_t rfl rfl rfl rfl hp8) (y_move_int rfl) ?_
          refine ox_y (sees_t rfl rfl rfl rfl hp8) (y_move_int rfl) ?_
          refine ox_y (sees_t rfl rfl rfl rfl hp8) (y_gtr rfl rfl) ?_
          refine ox_y rfl (y_pick_fb (congrArg Value.bool hp8) rfl) ?_
          exact key _ _ (keep (keep (keep (keep (keep (keep (keep (keep (keep (keep rfl rfl) rfl) rfl) rfl) rfl) rfl) rfl) rfl) rfl) (congrArg Value.bool (or_f hp8)))
    · rcases bool_cases ((!y4) || (decide (p1 < 0))) with hp7 | hp7
      · refine ox_skip (sees_f rfl rfl rfl rfl hp7) ?_
        refine ox_skip (sees_f rfl rfl rfl rfl hp7) ?_
        refine ox_skip (sees_f rfl rfl rfl rfl hp7) ?_
        refine ox_y rfl (y_pick_tb (congrArg Value.bool hp7) rfl) ?_
        exact key _ _ (keep (keep (keep (keep (keep (keep (keep (keep (keep (keep rfl rfl) rfl) rfl) rfl) rfl) rfl) rfl) rfl) rfl) (congrArg Value.bool (or_t hp7)))
      · refine ox_y (sees_t rfl rfl rfl rfl hp7) (y_move_int rfl) ?_
        refine ox_y (sees_t rfl rfl rfl rfl hp7) (y_move_int rfl) ?_
        refine ox_y (sees_t rfl rfl rfl rfl hp7) (y_geq rfl rfl) ?_
        refine ox_y rfl (y_pick_fb (congrArg Value.bool hp7) rfl) ?_
        exact key _ _ (keep (keep (keep (keep (keep (keep (keep (keep (keep (keep rfl rfl) rfl) rfl) rfl) rfl) rfl) rfl) rfl) rfl) (congrArg Value.bool (or_f hp7)))
  · rcases bool_cases (!y4) with hp6 | hp6
    · refine ox_skip (sees_f rfl rfl rfl rfl hp6) ?_
      refine ox_skip (sees_f rfl rfl rfl rfl hp6) ?_
      refine ox_y rfl (y_pick_tb (congrArg Value.bool hp6) rfl) ?_
      exact key _ _ (keep (keep (keep (keep (keep (keep (keep (keep (keep (keep rfl rfl) rfl) rfl) rfl) rfl) rfl) rfl) rfl) rfl) (congrArg Value.bool (or_t hp6)))
    · refine ox_y (sees_t rfl rfl rfl rfl hp6) (y_move_int rfl) ?_
      refine ox_y (sees_t rfl rfl rfl rfl hp6) (y_lss rfl rfl) ?_
      refine ox_y rfl (y_pick_fb (congrArg Value.bool hp6) rfl) ?_
      exact key _ _ (keep (keep (keep (keep (keep (keep (keep (keep (keep (keep rfl rfl) rfl) rfl) rfl) rfl) rfl) rfl) rfl) rfl) (congrArg Value.bool (or_f hp6)))

/-! calx/calxlaw03.SampleSmallest -/
set_option maxRecDepth 100000 in
theorem calxlaw03_SampleSmallest_ok (p0_barrows : Int) (p1_good : Int) (p2_bad : Int) (p3_accept : TRatio) (p4_refuse : TRatio) (res : Bool) (h : calxlaw03_SampleSmallest p0_barrows p1_good p2_bad p3_accept p4_refuse = some res) (W : World)  :
    Calls Try.prog 3 [.int .i64 p0_barrows, .int .i64 p1_good, .int .i64 p2_bad, .agg #[.int .i64 p3_accept.fNum, .int .i64 p3_accept.fDen], .agg #[.int .i64 p4_refuse.fNum, .int .i64 p4_refuse.fDen]].toArray W fun e W2 => e = .returned (.bool res) ∧ Ext W W2 [] := by
  unfold calxlaw03_SampleSmallest at h
  refine calls_enter (m := 53) Try.func3 rfl rfl (Nat.le_of_ble_eq_true rfl) ?_
  refine cx_seq ?_
  refine cx_region ?_
  refine ox_box [.int .i64 p3_accept.fNum, .int .i64 p3_accept.fDen] rfl rfl rfl (fun b1 => ?_)
  refine ox_box [.int .i64 p4_refuse.fNum, .int .i64 p4_refuse.fDen] rfl rfl rfl (fun b2 => ?_)
  refine ox_y rfl (y_assign_bool rfl) ?_
  refine ox_nil ?_
  refine ex_then ?_
  refine cx_seq ?_
  refine cx_region ?_
  obtain ⟨y3, hy4, h⟩ := bind_some h
  refine ox_y rfl (y_call [] go_22 rfl (fun W2 hW2 => calxlaw03_head_ok  y3 hy4 W2 ) rfl) ?_
  refine ox_y rfl (y_assign_bool rfl) ?_
  refine ox_nil ?_
  refine ex_then ?_
  refine cx_seq ?_
  refine cx_seq ?_
  refine cx_region ?_
  refine ox_y rfl (y_move_int rfl) ?_
  refine ox_y rfl (y_gtr rfl rfl) ?_
  refine ox_y rfl (y_move_bool rfl) ?_
  refine ox_join 3 (fun tm0 => (upd (upd (upd (upd (upd (upd (upd (upd (upd (upd tm0 0 (.int .i64 p0_barrows)) 1 (.int .i64 p1_good)) 2 (.int .i64 p2_bad)) 3 (.agg #[.int .i64 p3_accept.fNum, .int .i64 p3_accept.fDen])) 4 (.agg #[.int .i64 p4_refuse.fNum, .int .i64 p4_refuse.fDen])) 8 (.pointer (some ⟨b1, 0, none⟩))) 9 (.pointer (some ⟨b2, 0, none⟩))) 10 (.bool false)) 11 (.bool y3)) 22 (.bool ((decide (20 < p0_barrows)) && (decide (p0_barrows ≤ 50)))))) (fun tm0 => ?_) (fun key => ?_)
  · refine ox_nil ?_
    refine ex_then ?_
    rcases ite_some h with ⟨hp6, h⟩ | ⟨hp6, h⟩
    · refine cx_true (congrArg Value.bool hp6) ?_
      refine cx_seq ?_
      refine cx_region ?_
      refine ox_y rfl (y_move_bool rfl) ?_
      refine ox_y rfl (y_assign_bool rfl) ?_
      refine ox_nil ?_
      refine ex_then ?_
      refine cx_ret ?_
      refine ex_then_ret ?_
      obtain rfl := Option.some.inj h
      exact ex_res1 (.inl rfl) rfl (resV_tmp (v := .bool y3) rfl) (fun W2 hW2 => ⟨rfl, hW2.none⟩)
    · refine cx_false (congrArg Value.bool hp6) ?_
      refine cx_skip ?_
      refine ex_then ?_
      refine cx_seq ?_
      refine cx_region ?_
      refine ox_y rfl (y_move_int rfl) ?_
      refine ox_y rfl (y_move_int rfl) ?_
      refine ox_y rfl (y_move_int rfl) ?_
      refine ox_y rfl (y_loadN 0 [.int .i64 p3_accept.fNum, .int .i64 p3_accept.fDen] ag_23 rfl rfl rfl) ?_
      refine ox_y rfl (y_loadN 1 [.int .i64 p4_refuse.fNum, .int .i64 p4_refuse.fDen] ag_23 rfl rfl rfl) ?_
      obtain ⟨y7, hy8, h⟩ := bind_some h
      refine ox_y rfl (y_call [.int .i64 p0_barrows, .int .i64 p1_good, .int .i64 p2_bad, .agg #[.int .i64 p3_accept.fNum, .int .i64 p3_accept.fDen], .agg #[.int .i64 p4_refuse.fNum, .int .i64 p4_refuse.fDen]] go_23 rfl (fun W2 hW2 => sample_Smallest_ok p0_barrows p1_good p2_bad p3_accept p4_refuse y7 hy8 W2 ) rfl) ?_
      refine ox_y rfl (y_move_tuple rfl) ?_
      refine ox_y rfl (y_extract (vs := [.agg #[.int .i64 y7.1.fSample, .int .i64 y7.1.fAccept], .int .i64 y7.2]) (v := .agg #[.int .i64 y7.1.fSample, .int .i64 y7.1.fAccept]) rfl rfl) ?_
      refine ox_y rfl (y_extract (vs := [.agg #[.int .i64 y7.1.fSample, .int .i64 y7.1.fAccept], .int .i64 y7.2]) (v := .int .i64 y7.2) rfl rfl) ?_
      refine ox_alloc ze_26 rfl (fun b9 => ?_)
      refine ox_n rfl (y_storeN 2 [.int .i64 y7.1.fSample, .int .i64 y7.1.fAccept] sz_26 rfl (Nat.le_of_ble_eq_true rfl) rfl rfl rfl) ?_
      refine ox_y rfl (y_assign_int rfl) ?_
      refine ox_nil ?_
      refine ex_then ?_
      refine cx_seq ?_
      refine cx_region ?_
      refine ox_y rfl (y_move_int rfl) ?_
      refine ox_y rfl (y_move_int rfl) ?_
      refine ox_y rfl (y_move_int rfl) ?_
      refine ox_y rfl (y_loadN 0 [.int .i64 p3_accept.fNum, .int .i64 p3_accept.fDen] ag_23 rfl rfl rfl) ?_
      refine ox_y rfl (y_loadN 1 [.int .i64 p4_refuse.fNum, .int .i64 p4_refuse.fDen] ag_23 rfl rfl rfl) ?_
      obtain ⟨y10, hy11, h⟩ := bind_some h
      refine ox_y rfl (y_call [.int .i64 p0_barrows, .int .i64 p1_good, .int .i64 p2_bad, .agg #[.int .i64 p3_accept.fNum, .int .i64 p3_accept.fDen], .agg #[.int .i64 p4_refuse.fNum, .int .i64 p4_refuse.fDen]] go_24 rfl (fun W2 hW2 => calxref03_Smallest_ok p0_barrows p1_good p2_bad p3_accept p4_refuse y10 hy11 W2 ) rfl) ?_
      refine ox_y rfl (y_move_tuple rfl) ?_
      refine ox_y rfl (y_extract (vs := [.agg #[.int .i64 y10.1.fSample, .int .i64 y10.1.fAccept], .int .i64 y10.2]) (v := .agg #[.int .i64 y10.1.fSample, .int .i64 y10.1.fAccept]) rfl rfl) ?_
      refine ox_y rfl (y_extract (vs := [.agg #[.int .i64 y10.1.fSample, .int .i64 y10.1.fAccept], .int .i64 y10.2]) (v := .int .i64 y10.2) rfl rfl) ?_
      refine ox_alloc ze_26 rfl (fun b12 => ?_)
      refine ox_n rfl (y_storeN 3 [.int .i64 y10.1.fSample, .int .i64 y10.1.fAccept] sz_26 rfl (Nat.le_of_ble_eq_true rfl) rfl rfl rfl) ?_
      refine ox_y rfl (y_assign_int rfl) ?_
      refine ox_nil ?_
      refine ex_then ?_
      refine cx_seq ?_
      refine cx_region ?_
      refine ox_y rfl (y_move_bool rfl) ?_
      refine ox_y rfl (y_move_bool rfl) ?_
      refine ox_join 4 (fun tm0 => (upd (upd (upd (upd (upd (upd (upd (upd (upd (upd (upd (upd (upd (upd (upd tm0 0 (.int .i64 p0_barrows)) 1 (.int .i64 p1_good)) 2 (.int .i64 p2_bad)) 3 (.agg #[.int .i64 p3_accept.fNum, .int .i64 p3_accept.fDen])) 4 (.agg #[.int .i64 p4_refuse.fNum, .int .i64 p4_refuse.fDen])) 8 (.pointer (some ⟨b1, 0, none⟩))) 9 (.pointer (some ⟨b2, 0, none⟩))) 10 (.bool false)) 11 (.bool y3)) 22 (.bool ((decide (20 < p0_barrows)) && (decide (p0_barrows ≤ 50))))) 12 (.pointer (some ⟨b9, 0, none⟩))) 13 (.int .i64 y7.2)) 14 (.pointer (some ⟨b12, 0, none⟩))) 15 (.int .i64 y10.2)) 47 (.bool (y3 && ((y7.1.fSample == y10.1.fSample) && (y7.1.fAccept == y10.1.fAccept)))))) (fun tm0 => ?_) (fun key => ?_)
      · refine ox_y rfl (y_move_bool rfl) ?_
        refine ox_join 4 (fun tm0 => (upd (upd (upd (upd (upd (upd (upd (upd (upd (upd (upd (upd (upd (upd (upd tm0 0 (.int .i64 p0_barrows)) 1 (.int .i64 p1_good)) 2 (.int .i64 p2_bad)) 3 (.agg #[.int .i64 p3_accept.fNum, .int .i64 p3_accept.fDen])) 4 (.agg #[.int .i64 p4_refuse.fNum, .int .i64 p4_refuse.fDen])) 8 (.pointer (some ⟨b1, 0, none⟩))) 9 (.pointer (some ⟨b2, 0, none⟩))) 10 (.bool false)) 11 (.bool y3)) 22 (.bool ((decide (20 < p0_barrows)) && (decide (p0_barrows ≤ 50))))) 12 (.pointer (some ⟨b9, 0, none⟩))) 13 (.int .i64 y7.2)) 14 (.pointer (some ⟨b12, 0, none⟩))) 15 (.int .i64 y10.2)) 52 (.bool ((y3 && ((y7.1.fSample == y10.1.fSample) && (y7.1.fAccept == y10.1.fAccept))) && (y7.2 == y10.2))))) (fun tm0 => ?_) (fun key => ?_)
        · refine ox_y rfl (y_assign_bool rfl) ?_
          refine ox_nil ?_
          refine ex_then ?_
          refine cx_ret ?_
          obtain rfl := Option.some.inj h
          exact ex_res1 (.inl rfl) rfl (resV_tmp (v := .bool ((y3 && ((y7.1.fSample == y10.1.fSample) && (y7.1.fAccept == y10.1.fAccept))) && (y7.2 == y10.2))) rfl) (fun W2 hW2 => ⟨rfl, hW2.none⟩)
        · rcases bool_cases (y3 && ((y7.1.fSample == y10.1.fSample) && (y7.1.fAccept == y10.1.fAccept))) with hp14 | hp14
          · refine ox_y (sees_t rfl rfl rfl rfl hp14) (y_move_int rfl) ?_
            refine ox_y (sees_t rfl rfl rfl rfl hp14) (y_move_int rfl) ?_
            refine ox_y (sees_t rfl rfl rfl rfl hp14) (y_eql rfl rfl) ?_
            refine ox_y rfl (y_pick_tb (congrArg Value.bool hp14) rfl) ?_
            exact key _ _ (keep (keep (keep (keep (keep (keep (keep (keep (keep (keep (keep (keep (keep (keep (keep rfl rfl) rfl) rfl) rfl) rfl) rfl) rfl) rfl) rfl) rfl) rfl) rfl) rfl) rfl) (congrArg Value.bool (and_t hp14)))
          · refine ox_skip (sees_f rfl rfl rfl rfl hp14) ?_
            refine ox_skip (sees_f rfl rfl rfl rfl hp14) ?_
            refine ox_skip (sees_f rfl rfl rfl rfl hp14) ?_
            refine ox_y rfl (y_pick_fb (congrArg Value.bool hp14) rfl) ?_
            exact key _ _ (keep (keep (keep (keep (keep (keep (keep (keep (keep (keep (keep (keep (keep (keep (keep rfl rfl) rfl) rfl) rfl) rfl) rfl) rfl) rfl) rfl) rfl) rfl) rfl) rfl) rfl) (congrArg Value.bool (and_f hp14)))
      · rcases bool_cases y3 with hp13 | hp13
        · refine ox_y (sees_t rfl rfl rfl rfl hp13) (y_loadN 2 [.int .i64 y7.1.fSample, .int .i64 y7.1.fAccept] ag_26 rfl rfl rfl) ?_
          refine ox_y (sees_t rfl rfl rfl rfl hp13) (y_loadN 3 [.int .i64 y10.1.fSample, .int .i64 y10.1.fAccept] ag_26 rfl rfl rfl) ?_
          refine ox_y (sees_t rfl rfl rfl rfl hp13) (y_eqla (b := ((y7.1.fSample == y10.1.fSample) && (y7.1.fAccept == y10.1.fAccept))) eg_26 rfl rfl (fun _ => (eqS2 fl_26 (part1 sc_3 rfl) (part1 sc_3 rfl) (part1 sc_3 rfl) (part1 sc_3 rfl) (run_equalIn_int _ _ _ _ _ _ _ ui_3) (run_equalIn_int _ _ _ _ _ _ _ ui_3)))) ?_
          refine ox_y rfl (y_pick_tb (congrArg Value.bool hp13) rfl) ?_
          exact key _ _ (keep (keep (keep (keep (keep (keep (keep (keep (keep (keep (keep (keep (keep (keep (keep rfl rfl) rfl) rfl) rfl) rfl) rfl) rfl) rfl) rfl) rfl) rfl) rfl) rfl) rfl) (congrArg Value.bool (and_t hp13)))
        · refine ox_skip (sees_f rfl rfl rfl rfl hp13) ?_
          refine ox_skip (sees_f rfl rfl rfl rfl hp13) ?_
          refine ox_skip (sees_f rfl rfl rfl rfl hp13) ?_
          refine ox_y rfl (y_pick_fb (congrArg Value.bool hp13) rfl) ?_
          exact key _ _ (keep (keep (keep (keep (keep (keep (keep (keep (keep (keep (keep (keep (keep (keep (keep rfl rfl) rfl) rfl) rfl) rfl) rfl) rfl) rfl) rfl) rfl) rfl) rfl) rfl) rfl) (congrArg Value.bool (and_f hp13)))
  · rcases bool_cases (decide (20 < p0_barrows)) with hp5 | hp5
    · refine ox_y (sees_t rfl rfl rfl rfl hp5) (y_move_int rfl) ?_
      refine ox_y (sees_t rfl rfl rfl rfl hp5) (y_leq rfl rfl) ?_
      refine ox_y rfl (y_pick_tb (congrArg Value.bool hp5) rfl) ?_
      exact key _ _ (keep (keep (keep (keep (keep (keep (keep (keep (keep (keep rfl rfl) rfl) rfl) rfl) rfl) rfl) rfl) rfl) rfl) (congrArg Value.bool (and_t hp5)))
    · refine ox_skip (sees_f rfl rfl rfl rfl hp5) ?_
      refine ox_skip (sees_f rfl rfl rfl rfl hp5) ?_
      refine ox_y rfl (y_pick_fb (congrArg Value.bool hp5) rfl) ?_
      exact key _ _ (keep (keep (keep (keep (keep (keep (keep (keep (keep (keep rfl rfl) rfl) rfl) rfl) rfl) rfl) rfl) rfl) rfl) (congrArg Value.bool (and_f hp5)))

end Go.Proofs.Ytepfgdfahinpkaa
