/- The calls hand back what the plain functions say. -/
import Derived.Test.YtepfgdfahinpkaaF
import Derived.Test.YtepfgdfahinpkaaC0
import Derived.Test.YtepfgdfahinpkaaC7
set_option linter.unusedVariables false
set_option maxHeartbeats 4000000
namespace Go.Proofs.Ytepfgdfahinpkaa
open Go.RowKit (Below)
attribute [local irreducible] OX QX CX EX OpY Calls CallsIn

/-! calx/sample.PassTwice -/
set_option maxRecDepth 100000 in
theorem sample_PassTwice_ok (p0 : Int) (p1 : Int) (p2 : TDouble) (res : (TRatio × Int)) (h : sample_PassTwice p0 p1 p2 = some res) (W : World)  :
    Calls Try.prog 66 [.int .i64 p0, .int .i64 p1, .agg #[.int .i64 p2.fFirst, .int .i64 p2.fAccept, .int .i64 p2.fRefuse, .int .i64 p2.fSecond, .int .i64 p2.fTogether]].toArray W fun e W2 => e = .returned (.tuple #[.agg #[.int .i64 res.1.fNum, .int .i64 res.1.fDen], .int .i64 res.2]) ∧ Ext W W2 [] := by
  unfold sample_PassTwice at h
  refine calls_enter (m := 142) Try.func66 rfl rfl (Nat.le_of_ble_eq_true rfl) ?_
  refine cx_seq ?_
  refine cx_region ?_
  refine ox_box [.int .i64 p2.fFirst, .int .i64 p2.fAccept, .int .i64 p2.fRefuse, .int .i64 p2.fSecond, .int .i64 p2.fTogether] rfl rfl rfl (fun b1 => ?_)
  refine ox_alloc ze_23 rfl (fun b2 => ?_)
  refine ox_y rfl (y_assign_int rfl) ?_
  refine ox_nil ?_
  refine ex_then ?_
  refine cx_seq ?_
  refine cx_seq ?_
  refine cx_region ?_
  refine ox_y rfl (y_move_int rfl) ?_
  refine ox_y rfl (y_move_int rfl) ?_
  obtain ⟨y3, hy4, h⟩ := bind_some h
  refine ox_y rfl (y_call [.int .i64 p0, .int .i64 p1, .int .i64 36] go_114 rfl (fun W2 hW2 => sample_lot_ok p0 p1 36 y3 hy4 W2 ) rfl) ?_
  refine ox_y rfl (y_assign_int rfl) ?_
  refine ox_nil ?_
  refine ex_then ?_
  refine cx_seq ?_
  refine cx_region ?_
  refine ox_y rfl (y_move_int rfl) ?_
  refine ox_y rfl (y_neq rfl rfl) ?_
  refine ox_nil ?_
  refine ex_then ?_
  rcases ite_some h with ⟨hp5, h⟩ | ⟨hp5, h⟩
  · refine cx_true (congrArg Value.bool hp5) ?_
    refine cx_seq ?_
    refine cx_region ?_
    refine ox_y rfl (y_buildS [.int .i64 0, .int .i64 0] [(0, 1), (1, 1)] ust_23 ze_23 (by kernel_rfl)) ?_
    refine ox_y rfl (y_move_int rfl) ?_
    refine ox_n rfl (y_storeN 1 [.int .i64 0, .int .i64 0] sz_23 rfl (Nat.le_of_ble_eq_true rfl) rfl rfl rfl) ?_
    refine ox_y rfl (y_assign_int rfl) ?_
    refine ox_nil ?_
    refine ex_then ?_
    refine cx_ret ?_
    refine ex_then_ret ?_
    obtain rfl := Option.some.inj h
    exact ex_res2 (.inl rfl) rfl (resV_cellN 1 [.int .i64 0, .int .i64 0] ag_23 rfl rfl rfl) (resV_tmp (v := .int .i64 y3) rfl) (fun W2 hW2 => ⟨rfl, hW2.none⟩)
  · refine cx_false (congrArg Value.bool hp5) ?_
    refine cx_skip ?_
    refine ex_then ?_
    refine cx_seq ?_
    refine cx_seq ?_
    refine cx_region ?_
    refine ox_y rfl (y_fieldAddr fo_97_0 rfl) ?_
    refine ox_y rfl (y_load1 0 (v := .int .i64 p2.fFirst) sc_3 rfl rfl rfl) ?_
    refine ox_y rfl (y_move_int rfl) ?_
    obtain ⟨y6, hy7, h⟩ := bind_some h
    refine ox_y rfl (y_call [.int .i64 p2.fFirst, .int .i64 0, .int .i64 p0] go_74 rfl (fun W2 hW2 => sample_within_ok p2.fFirst 0 p0 y6 hy7 W2 ) rfl) ?_
    refine ox_y rfl (y_not rfl) ?_
    refine ox_y rfl (y_move_bool rfl) ?_
    obtain ⟨b9, hb10, h⟩ := bind_some h
    refine ox_join 9 (fun tm0 => (upd (upd (upd (upd (upd (upd (upd (upd (upd tm0 0 (.int .i64 p0)) 1 (.int .i64 p1)) 2 (.agg #[.int .i64 p2.fFirst, .int .i64 p2.fAccept, .int .i64 p2.fRefuse, .int .i64 p2.fSecond, .int .i64 p2.fTogether])) 5 (.pointer (some ⟨b1, 0, none⟩))) 6 (.pointer (some ⟨b2, 0, none⟩))) 7 (.int .i64 0)) 8 (.int .i64 y3)) 17 (.bool (y3 != 0))) 34 (.bool b9))) (fun tm0 => ?_) (fun key => ?_)
    · refine ox_y rfl (y_move_bool rfl) ?_
      refine ox_join 4 (fun tm0 => (upd (upd (upd (upd (upd (upd (upd (upd (upd tm0 0 (.int .i64 p0)) 1 (.int .i64 p1)) 2 (.agg #[.int .i64 p2.fFirst, .int .i64 p2.fAccept, .int .i64 p2.fRefuse, .int .i64 p2.fSecond, .int .i64 p2.fTogether])) 5 (.pointer (some ⟨b1, 0, none⟩))) 6 (.pointer (some ⟨b2, 0, none⟩))) 7 (.int .i64 0)) 8 (.int .i64 y3)) 17 (.bool (y3 != 0))) 39 (.bool (b9 || (decide (p2.fAccept < 0)))))) (fun tm0 => ?_) (fun key => ?_)
      · refine ox_y rfl (y_move_bool rfl) ?_
        refine ox_join 6 (fun tm0 => (upd (upd (upd (upd (upd (upd (upd (upd (upd tm0 0 (.int .i64 p0)) 1 (.int .i64 p1)) 2 (.agg #[.int .i64 p2.fFirst, .int .i64 p2.fAccept, .int .i64 p2.fRefuse, .int .i64 p2.fSecond, .int .i64 p2.fTogether])) 5 (.pointer (some ⟨b1, 0, none⟩))) 6 (.pointer (some ⟨b2, 0, none⟩))) 7 (.int .i64 0)) 8 (.int .i64 y3)) 17 (.bool (y3 != 0))) 46 (.bool ((b9 || (decide (p2.fAccept < 0))) || (decide (p2.fRefuse ≤ p2.fAccept)))))) (fun tm0 => ?_) (fun key => ?_)
        · refine ox_y rfl (y_move_bool rfl) ?_
          refine ox_join 7 (fun tm0 => (upd (upd (upd (upd (upd (upd (upd (upd (upd tm0 0 (.int .i64 p0)) 1 (.int .i64 p1)) 2 (.agg #[.int .i64 p2.fFirst, .int .i64 p2.fAccept, .int .i64 p2.fRefuse, .int .i64 p2.fSecond, .int .i64 p2.fTogether])) 5 (.pointer (some ⟨b1, 0, none⟩))) 6 (.pointer (some ⟨b2, 0, none⟩))) 7 (.int .i64 0)) 8 (.int .i64 y3)) 17 (.bool (y3 != 0))) 54 (.bool (((b9 || (decide (p2.fAccept < 0))) || (decide (p2.fRefuse ≤ p2.fAccept))) || (decide (w64 (p2.fFirst + 1) < p2.fRefuse)))))) (fun tm0 => ?_) (fun key => ?_)
          · refine ox_y rfl (y_move_bool rfl) ?_
            obtain ⟨b15, hb16, h⟩ := bind_some h
            refine ox_join 12 (fun tm0 => (upd (upd (upd (upd (upd (upd (upd (upd (upd tm0 0 (.int .i64 p0)) 1 (.int .i64 p1)) 2 (.agg #[.int .i64 p2.fFirst, .int .i64 p2.fAccept, .int .i64 p2.fRefuse, .int .i64 p2.fSecond, .int .i64 p2.fTogether])) 5 (.pointer (some ⟨b1, 0, none⟩))) 6 (.pointer (some ⟨b2, 0, none⟩))) 7 (.int .i64 0)) 8 (.int .i64 y3)) 17 (.bool (y3 != 0))) 67 (.bool b15))) (fun tm0 => ?_) (fun key => ?_)
            · refine ox_nil ?_
              refine ex_then ?_
              rcases ite_some h with ⟨hp17, h⟩ | ⟨hp17, h⟩
              · refine cx_true (congrArg Value.bool hp17) ?_
                refine cx_seq ?_
                refine cx_region ?_
                refine ox_y rfl (y_buildS [.int .i64 0, .int .i64 0] [(0, 1), (1, 1)] ust_23 ze_23 (by kernel_rfl)) ?_
                refine ox_n rfl (y_storeN 1 [.int .i64 0, .int .i64 0] sz_23 rfl (Nat.le_of_ble_eq_true rfl) rfl rfl rfl) ?_
                refine ox_y rfl (y_assign_int rfl) ?_
                refine ox_nil ?_
                refine ex_then ?_
                refine cx_ret ?_
                refine ex_then_ret ?_
                obtain rfl := Option.some.inj h
                exact ex_res2 (.inl rfl) rfl (resV_cellN 1 [.int .i64 0, .int .i64 0] ag_23 rfl rfl rfl) (resV_tmp (v := .int .i64 1) rfl) (fun W2 hW2 => ⟨rfl, hW2.none⟩)
              · refine cx_false (congrArg Value.bool hp17) ?_
                refine cx_skip ?_
                refine ex_then ?_
                refine cx_seq ?_
                refine cx_region ?_
                refine ox_y rfl (y_move_int rfl) ?_
                refine ox_y rfl (y_fieldAddr fo_97_0 rfl) ?_
                refine ox_y rfl (y_load1 0 (v := .int .i64 p2.fFirst) sc_3 rfl rfl rfl) ?_
                refine ox_y rfl (y_sub rfl rfl) ?_
                refine ox_y rfl (y_fieldAddr fo_97_3 rfl) ?_
                refine ox_y rfl (y_load1 0 (v := .int .i64 p2.fSecond) sc_3 rfl rfl rfl) ?_
                obtain ⟨y18, hy19, h⟩ := bind_some h
                refine ox_y rfl (y_call [.int .i64 (w64 (p0 - p2.fFirst)), .int .i64 p2.fSecond] go_76 rfl (fun W2 hW2 => sample_choose_ok (w64 (p0 - p2.fFirst)) p2.fSecond y18 hy19 W2 ) rfl) ?_
                refine ox_y rfl (y_assign_int rfl) ?_
                refine ox_nil ?_
                refine ex_then ?_
                refine cx_seq ?_
                refine cx_region ?_
                refine ox_y rfl (y_assign_int rfl) ?_
                refine ox_nil ?_
                refine ex_then ?_
                refine cx_seq ?_
                refine cx_seq ?_
                refine cx_region ?_
                refine ox_y rfl (y_move_int rfl) ?_
                refine ox_y rfl (y_fieldAddr fo_97_0 rfl) ?_
                refine ox_y rfl (y_load1 0 (v := .int .i64 p2.fFirst) sc_3 rfl rfl rfl) ?_
                refine ox_y rfl (y_min rfl rfl) ?_
                refine ox_y rfl (y_add rfl rfl) ?_
                refine ox_y rfl (y_move_int rfl) ?_
                refine ox_nil ?_
                refine ex_then ?_
                refine cx_block ?_
                obtain ⟨u22, hl33, h⟩ := bind_some h
                refine cx_loop (fun (s : (Int × Int)) L tm => ∃ (tm0 : Nat → Value), L = [cellsR b1 97 [.int .i64 p2.fFirst, .int .i64 p2.fAccept, .int .i64 p2.fRefuse, .int .i64 p2.fSecond, .int .i64 p2.fTogether], cellsR b2 23 [.int .i64 0, .int .i64 0]] ∧ tm = (upd (upd (upd (upd (upd (upd (upd (upd (upd (upd (upd (upd (upd tm0 0 (.int .i64 p0)) 1 (.int .i64 p1)) 2 (.agg #[.int .i64 p2.fFirst, .int .i64 p2.fAccept, .int .i64 p2.fRefuse, .int .i64 p2.fSecond, .int .i64 p2.fTogether])) 5 (.pointer (some ⟨b1, 0, none⟩))) 6 (.pointer (some ⟨b2, 0, none⟩))) 7 (.int .i64 0)) 8 (.int .i64 y3)) 17 (.bool (y3 != 0))) 67 (.bool b15)) 9 (.int .i64 y18)) 10 (.int .i64 s.1)) 80 (.int .i64 (w64 ((min p1 p2.fFirst) + 1)))) 81 (.int .i64 s.2))) (fun s e L tm => e = .exit 0 ∧ ∃ (tm0 : Nat → Value), L = [cellsR b1 97 [.int .i64 p2.fFirst, .int .i64 p2.fAccept, .int .i64 p2.fRefuse, .int .i64 p2.fSecond, .int .i64 p2.fTogether], cellsR b2 23 [.int .i64 0, .int .i64 0]] ∧ tm = (upd (upd (upd (upd (upd (upd (upd (upd (upd (upd (upd (upd (upd tm0 0 (.int .i64 p0)) 1 (.int .i64 p1)) 2 (.agg #[.int .i64 p2.fFirst, .int .i64 p2.fAccept, .int .i64 p2.fRefuse, .int .i64 p2.fSecond, .int .i64 p2.fTogether])) 5 (.pointer (some ⟨b1, 0, none⟩))) 6 (.pointer (some ⟨b2, 0, none⟩))) 7 (.int .i64 0)) 8 (.int .i64 y3)) 17 (.bool (y3 != 0))) 67 (.bool b15)) 9 (.int .i64 y18)) 10 (.int .i64 s.1)) 80 (.int .i64 (w64 ((min p1 p2.fFirst) + 1)))) 81 (.int .i64 s.2))) hl33 ⟨_, rfl, (keep (keep (keep (keep (keep (keep (keep (keep (keep (keep (keep (keep (keep rfl rfl) rfl) rfl) rfl) rfl) rfl) rfl) rfl) rfl) rfl) rfl) rfl) rfl)⟩ ?_ ?_
                · rintro s21 L tm st ⟨tm0_s21, rfl, rfl⟩ h
                  unfold sample_PassTwice_l1 at h
                  refine cx_seq ?_
                  refine cx_region ?_
                  refine ox_y rfl (y_lss rfl rfl) ?_
                  refine ox_nil ?_
                  refine ex_then ?_
                  refine cx_seq ?_
                  rcases ite_some h with ⟨hp23, h⟩ | ⟨hp23, h⟩
                  · refine cx_true (congrArg Value.bool hp23) ?_
                    refine cx_skip ?_
                    refine ex_then ?_
                    refine cx_seq ?_
                    refine cx_block ?_
                    refine cx_seq ?_
                    refine cx_region ?_
                    refine ox_y rfl (y_move_int rfl) ?_
                    refine ox_y rfl (y_assign_int rfl) ?_
                    refine ox_nil ?_
                    refine ex_then ?_
                    refine cx_seq ?_
                    refine cx_draws 13 mixed (by kernel_rfl) (by kernel_rfl) ?_
                    refine qx_y rfl (y_move_int rfl) ?_
                    refine qx_y rfl (y_move_int rfl) ?_
                    obtain ⟨y24, hy25, h⟩ := bind_some h
                    refine qx_y rfl (y_call [.int .i64 p1, .int .i64 s21.2] go_76 rfl (fun W2 hW2 => sample_choose_ok p1 s21.2 y24 hy25 W2 ) rfl) ?_
                    refine qx_y rfl (y_move_int rfl) ?_
                    refine qx_y rfl (y_move_int rfl) ?_
                    refine qx_y rfl (y_sub rfl rfl) ?_
                    refine qx_y rfl (y_fieldAddr fo_97_0 rfl) ?_
                    refine qx_y rfl (y_load1 0 (v := .int .i64 p2.fFirst) sc_3 rfl rfl rfl) ?_
                    refine qx_y rfl (y_move_int rfl) ?_
                    refine qx_y rfl (y_sub rfl rfl) ?_
                    obtain ⟨y26, hy27, h⟩ := bind_some h
                    refine qx_y rfl (y_call [.int .i64 (w64 (p0 - p1)), .int .i64 (w64 (p2.fFirst - s21.2))] go_76 rfl (fun W2 hW2 => sample_choose_ok (w64 (p0 - p1)) (w64 (p2.fFirst - s21.2)) y26 hy27 W2 ) rfl) ?_
                    refine qx_y rfl (y_mul rfl rfl) ?_
                    refine qx_y rfl (y_assign_int rfl) ?_
                    refine qx_nil ?_
                    refine ox_nil ?_
                    refine ex_then ?_
                    refine cx_block ?_
                    refine cx_seq ?_
                    refine cx_region ?_
                    refine ox_y rfl (y_move_int rfl) ?_
                    refine ox_y rfl (y_fieldAddr fo_97_1 rfl) ?_
                    refine ox_y rfl (y_load1 0 (v := .int .i64 p2.fAccept) sc_3 rfl rfl rfl) ?_
                    refine ox_y rfl (y_leq rfl rfl) ?_
                    refine ox_y rfl (y_assign_bool rfl) ?_
                    refine ox_nil ?_
                    refine ex_then ?_
                    rcases ite_some h with ⟨hp28, h⟩ | ⟨hp28, h⟩
                    · refine cx_true (congrArg Value.bool hp28) ?_
                      refine cx_region ?_
                      refine ox_y rfl (y_move_int rfl) ?_
                      refine ox_y rfl (y_move_int rfl) ?_
                      refine ox_y rfl (y_move_int rfl) ?_
                      refine ox_y rfl (y_mul rfl rfl) ?_
                      refine ox_y rfl (y_add rfl rfl) ?_
                      refine ox_y rfl (y_assign_int rfl) ?_
                      refine ox_nil ?_
                      refine ex_block ?_
                      refine ex_block ?_
                      refine ex_then ?_
                      refine cx_region ?_
                      refine ox_y rfl (y_add rfl rfl) ?_
                      refine ox_y rfl (y_move_int rfl) ?_
                      refine ox_nil ?_
                      obtain rfl := Option.some.inj h
                      exact ex_next ⟨_, rfl, (keep (keep (keep (keep (keep (keep (keep (keep (keep (keep (keep (keep (keep rfl rfl) rfl) rfl) rfl) rfl) rfl) rfl) rfl) rfl) rfl) rfl) rfl) rfl)⟩
                    · refine cx_false (congrArg Value.bool hp28) ?_
                      refine cx_seq ?_
                      refine cx_region ?_
                      refine ox_y rfl (y_move_int rfl) ?_
                      refine ox_y rfl (y_fieldAddr fo_97_2 rfl) ?_
                      refine ox_y rfl (y_load1 0 (v := .int .i64 p2.fRefuse) sc_3 rfl rfl rfl) ?_
                      refine ox_y rfl (y_lss rfl rfl) ?_
                      refine ox_y rfl (y_move_bool rfl) ?_
                      refine ox_join 3 (fun tm0 => (upd (upd (upd (upd (upd (upd (upd (upd (upd (upd (upd (upd (upd (upd (upd (upd (upd (upd tm0 0 (.int .i64 p0)) 1 (.int .i64 p1)) 2 (.agg #[.int .i64 p2.fFirst, .int .i64 p2.fAccept, .int .i64 p2.fRefuse, .int .i64 p2.fSecond, .int .i64 p2.fTogether])) 5 (.pointer (some ⟨b1, 0, none⟩))) 6 (.pointer (some ⟨b2, 0, none⟩))) 7 (.int .i64 0)) 8 (.int .i64 y3)) 17 (.bool (y3 != 0))) 67 (.bool b15)) 9 (.int .i64 y18)) 10 (.int .i64 s21.1)) 80 (.int .i64 (w64 ((min p1 p2.fFirst) + 1)))) 81 (.int .i64 s21.2)) 82 (.bool (decide (s21.2 < w64 ((min p1 p2.fFirst) + 1))))) 11 (.int .i64 s21.2)) 12 (.int .i64 (w64 (y24 * y26)))) 96 (.bool (decide (s21.2 ≤ p2.fAccept)))) 114 (.bool ((decide (s21.2 < p2.fRefuse)) && (decide (0 < w64 (y24 * y26))))))) (fun tm0 => ?_) (fun key => ?_)
                      · refine ox_y rfl (y_assign_bool rfl) ?_
                        refine ox_nil ?_
                        refine ex_then ?_
                        rcases ite_some h with ⟨hp30, h⟩ | ⟨hp30, h⟩
                        · refine cx_true (congrArg Value.bool hp30) ?_
                          refine cx_region ?_
                          refine ox_y rfl (y_move_int rfl) ?_
                          refine ox_y rfl (y_move_int rfl) ?_
                          refine ox_y rfl (y_move_int rfl) ?_
                          refine ox_y rfl (y_fieldAddr fo_97_0 rfl) ?_
                          refine ox_y rfl (y_load1 0 (v := .int .i64 p2.fFirst) sc_3 rfl rfl rfl) ?_
                          refine ox_y rfl (y_sub rfl rfl) ?_
                          refine ox_y rfl (y_move_int rfl) ?_
                          refine ox_y rfl (y_move_int rfl) ?_
                          refine ox_y rfl (y_sub rfl rfl) ?_
                          refine ox_y rfl (y_fieldAddr fo_97_3 rfl) ?_
                          refine ox_y rfl (y_load1 0 (v := .int .i64 p2.fSecond) sc_3 rfl rfl rfl) ?_
                          refine ox_y rfl (y_fieldAddr fo_97_4 rfl) ?_
                          refine ox_y rfl (y_load1 0 (v := .int .i64 p2.fTogether) sc_3 rfl rfl rfl) ?_
                          refine ox_y rfl (y_move_int rfl) ?_
                          refine ox_y rfl (y_sub rfl rfl) ?_
                          obtain ⟨y31, hy32, h⟩ := bind_some h
                          refine ox_y rfl (y_call [.int .i64 (w64 (p0 - p2.fFirst)), .int .i64 (w64 (p1 - s21.2)), .int .i64 p2.fSecond, .int .i64 (w64 (p2.fTogether - s21.2))] go_77 rfl (fun W2 hW2 => sample_atMost_ok (w64 (p0 - p2.fFirst)) (w64 (p1 - s21.2)) p2.fSecond (w64 (p2.fTogether - s21.2)) y31 hy32 W2 ) rfl) ?_
                          refine ox_y rfl (y_mul rfl rfl) ?_
                          refine ox_y rfl (y_add rfl rfl) ?_
                          refine ox_y rfl (y_assign_int rfl) ?_
                          refine ox_nil ?_
                          refine ex_block ?_
                          refine ex_block ?_
                          refine ex_then ?_
                          refine cx_region ?_
                          refine ox_y rfl (y_add rfl rfl) ?_
                          refine ox_y rfl (y_move_int rfl) ?_
                          refine ox_nil ?_
                          obtain rfl := Option.some.inj h
                          exact ex_next ⟨_, rfl, (keep (keep (keep (keep (keep (keep (keep (keep (keep (keep (keep (keep (keep rfl rfl) rfl) rfl) rfl) rfl) rfl) rfl) rfl) rfl) rfl) rfl) rfl) rfl)⟩
                        · refine cx_false (congrArg Value.bool hp30) ?_
                          refine cx_skip ?_
                          refine ex_block ?_
                          refine ex_block ?_
                          refine ex_then ?_
                          refine cx_region ?_
                          refine ox_y rfl (y_add rfl rfl) ?_
                          refine ox_y rfl (y_move_int rfl) ?_
                          refine ox_nil ?_
                          obtain rfl := Option.some.inj h
                          exact ex_next ⟨_, rfl, (keep (keep (keep (keep (keep (keep (keep (keep (keep (keep (keep (keep (keep rfl rfl) rfl) rfl) rfl) rfl) rfl) rfl) rfl) rfl) rfl) rfl) rfl) rfl)⟩
                      · rcases bool_cases (decide (s21.2 < p2.fRefuse)) with hp29 | hp29
                        · refine ox_y (sees_t rfl rfl rfl rfl hp29) (y_move_int rfl) ?_
                          refine ox_y (sees_t rfl rfl rfl rfl hp29) (y_gtr rfl rfl) ?_
                          refine ox_y rfl (y_pick_tb (congrArg Value.bool hp29) rfl) ?_
                          exact key _ _ (keep (keep (keep (keep (keep (keep (keep (keep (keep (keep (keep (keep (keep (keep (keep (keep (keep (keep rfl rfl) rfl) rfl) rfl) rfl) rfl) rfl) rfl) rfl) rfl) rfl) rfl) rfl) rfl) rfl) rfl) rfl) (congrArg Value.bool (and_t hp29)))
                        · refine ox_skip (sees_f rfl rfl rfl rfl hp29) ?_
                          refine ox_skip (sees_f rfl rfl rfl rfl hp29) ?_
                          refine ox_y rfl (y_pick_fb (congrArg Value.bool hp29) rfl) ?_
                          exact key _ _ (keep (keep (keep (keep (keep (keep (keep (keep (keep (keep (keep (keep (keep (keep (keep (keep (keep (keep rfl rfl) rfl) rfl) rfl) rfl) rfl) rfl) rfl) rfl) rfl) rfl) rfl) rfl) rfl) rfl) rfl) rfl) (congrArg Value.bool (and_f hp29)))
                  · refine cx_false (congrArg Value.bool hp23) ?_
                    refine cx_exit ?_
                    refine ex_then_exit ?_
                    obtain rfl := Option.some.inj h
                    exact ex_stop ⟨rfl, _, rfl, (keep (keep (keep (keep (keep (keep (keep (keep (keep (keep (keep (keep (keep rfl rfl) rfl) rfl) rfl) rfl) rfl) rfl) rfl) rfl) rfl) rfl) rfl) rfl)⟩
                · intro e L tm hJ
                  obtain ⟨rfl, tm0_u22, rfl, rfl⟩ := hJ
                  refine ⟨(by intro hc; cases hc), ?_⟩
                  refine ex_block_here ?_
                  refine ex_then ?_
                  refine cx_seq ?_
                  refine cx_region ?_
                  refine ox_y rfl (y_move_int rfl) ?_
                  refine ox_y rfl (y_move_int rfl) ?_
                  refine ox_y rfl (y_fieldAddr fo_97_0 rfl) ?_
                  refine ox_y rfl (y_load1 0 (v := .int .i64 p2.fFirst) sc_3 rfl rfl rfl) ?_
                  obtain ⟨y34, hy35, h⟩ := bind_some h
                  refine ox_y rfl (y_call [.int .i64 p0, .int .i64 p2.fFirst] go_76 rfl (fun W2 hW2 => sample_choose_ok p0 p2.fFirst y34 hy35 W2 ) rfl) ?_
                  refine ox_y rfl (y_move_int rfl) ?_
                  refine ox_y rfl (y_mul rfl rfl) ?_
                  obtain ⟨y36, hy37, h⟩ := bind_some h
                  refine ox_y rfl (y_call [.int .i64 u22.1, .int .i64 (w64 (y34 * y18))] go_95 rfl (fun W2 hW2 => sample_ratio_ok u22.1 (w64 (y34 * y18)) y36 hy37 W2 ) rfl) ?_
                  refine ox_n rfl (y_storeN 1 [.int .i64 y36.fNum, .int .i64 y36.fDen] sz_23 rfl (Nat.le_of_ble_eq_true rfl) rfl rfl rfl) ?_
                  refine ox_y rfl (y_assign_int rfl) ?_
                  refine ox_nil ?_
                  refine ex_then ?_
                  refine cx_ret ?_
                  obtain rfl := Option.some.inj h
                  exact ex_res2 (.inl rfl) rfl (resV_cellN 1 [.int .i64 y36.fNum, .int .i64 y36.fDen] ag_23 rfl rfl rfl) (resV_tmp (v := .int .i64 0) rfl) (fun W2 hW2 => ⟨rfl, hW2.none⟩)
            · clear h; rcases ite_some hb16 with ⟨hp14, h⟩ | ⟨hp14, h⟩
              · refine ox_skip (sees_f rfl rfl rfl rfl hp14) ?_
                refine ox_skip (sees_f rfl rfl rfl rfl hp14) ?_
                refine ox_skip (sees_f rfl rfl rfl rfl hp14) ?_
                refine ox_skip (sees_f rfl rfl rfl rfl hp14) ?_
                refine ox_skip (sees_f rfl rfl rfl rfl hp14) ?_
                refine ox_skip (sees_f rfl rfl rfl rfl hp14) ?_
                refine ox_skip (sees_f rfl rfl rfl rfl hp14) ?_
                refine ox_skip (sees_f rfl rfl rfl rfl hp14) ?_
                refine ox_skip (sees_f rfl rfl rfl rfl hp14) ?_
                refine ox_skip (sees_f rfl rfl rfl rfl hp14) ?_
                refine ox_skip (sees_f rfl rfl rfl rfl hp14) ?_
                refine ox_y rfl (y_pick_tb (congrArg Value.bool hp14) rfl) ?_
                obtain rfl := Option.some.inj h
                exact key _ _ (keep (keep (keep (keep (keep (keep (keep (keep (keep rfl rfl) rfl) rfl) rfl) rfl) rfl) rfl) rfl) rfl)
              · refine ox_y (sees_t rfl rfl rfl rfl hp14) (y_fieldAddr fo_97_4 rfl) ?_
                refine ox_y (sees_t rfl rfl rfl rfl hp14) (y_load1 0 (v := .int .i64 p2.fTogether) sc_3 rfl rfl rfl) ?_
                refine ox_y (sees_t rfl rfl rfl rfl hp14) (y_fieldAddr fo_97_1 rfl) ?_
                refine ox_y (sees_t rfl rfl rfl rfl hp14) (y_load1 0 (v := .int .i64 p2.fAccept) sc_3 rfl rfl rfl) ?_
                refine ox_y (sees_t rfl rfl rfl rfl hp14) (y_fieldAddr fo_97_0 rfl) ?_
                refine ox_y (sees_t rfl rfl rfl rfl hp14) (y_load1 0 (v := .int .i64 p2.fFirst) sc_3 rfl rfl rfl) ?_
                refine ox_y (sees_t rfl rfl rfl rfl hp14) (y_fieldAddr fo_97_3 rfl) ?_
                refine ox_y (sees_t rfl rfl rfl rfl hp14) (y_load1 0 (v := .int .i64 p2.fSecond) sc_3 rfl rfl rfl) ?_
                refine ox_y (sees_t rfl rfl rfl rfl hp14) (y_add rfl rfl) ?_
                obtain ⟨y38, hy39, h⟩ := bind_some h
                refine ox_y (sees_t rfl rfl rfl rfl hp14) (y_call [.int .i64 p2.fTogether, .int .i64 p2.fAccept, .int .i64 (w64 (p2.fFirst + p2.fSecond))] go_74 rfl (fun W2 hW2 => sample_within_ok p2.fTogether p2.fAccept (w64 (p2.fFirst + p2.fSecond)) y38 hy39 W2 ) rfl) ?_
                refine ox_y (sees_t rfl rfl rfl rfl hp14) (y_not rfl) ?_
                refine ox_y rfl (y_pick_fb (congrArg Value.bool hp14) rfl) ?_
                obtain rfl := Option.some.inj h
                exact key _ _ (keep (keep (keep (keep (keep (keep (keep (keep (keep rfl rfl) rfl) rfl) rfl) rfl) rfl) rfl) rfl) rfl)
          · rcases bool_cases ((b9 || (decide (p2.fAccept < 0))) || (decide (p2.fRefuse ≤ p2.fAccept))) with hp13 | hp13
            · refine ox_skip (sees_f rfl rfl rfl rfl hp13) ?_
              refine ox_skip (sees_f rfl rfl rfl rfl hp13) ?_
              refine ox_skip (sees_f rfl rfl rfl rfl hp13) ?_
              refine ox_skip (sees_f rfl rfl rfl rfl hp13) ?_
              refine ox_skip (sees_f rfl rfl rfl rfl hp13) ?_
              refine ox_skip (sees_f rfl rfl rfl rfl hp13) ?_
              refine ox_y rfl (y_pick_tb (congrArg Value.bool hp13) rfl) ?_
              exact key _ _ (keep (keep (keep (keep (keep (keep (keep (keep (keep rfl rfl) rfl) rfl) rfl) rfl) rfl) rfl) rfl) (congrArg Value.bool (or_t hp13)))
            · refine ox_y (sees_t rfl rfl rfl rfl hp13) (y_fieldAddr fo_97_2 rfl) ?_
              refine ox_y (sees_t rfl rfl rfl rfl hp13) (y_load1 0 (v := .int .i64 p2.fRefuse) sc_3 rfl rfl rfl) ?_
              refine ox_y (sees_t rfl rfl rfl rfl hp13) (y_fieldAddr fo_97_0 rfl) ?_
              refine ox_y (sees_t rfl rfl rfl rfl hp13) (y_load1 0 (v := .int .i64 p2.fFirst) sc_3 rfl rfl rfl) ?_
              refine ox_y (sees_t rfl rfl rfl rfl hp13) (y_add rfl rfl) ?_
              refine ox_y (sees_t rfl rfl rfl rfl hp13) (y_gtr rfl rfl) ?_
              refine ox_y rfl (y_pick_fb (congrArg Value.bool hp13) rfl) ?_
              exact key _ _ (keep (keep (keep (keep (keep (keep (keep (keep (keep rfl rfl) rfl) rfl) rfl) rfl) rfl) rfl) rfl) (congrArg Value.bool (or_f hp13)))
        · rcases bool_cases (b9 || (decide (p2.fAccept < 0))) with hp12 | hp12
          · refine ox_skip (sees_f rfl rfl rfl rfl hp12) ?_
            refine ox_skip (sees_f rfl rfl rfl rfl hp12) ?_
            refine ox_skip (sees_f rfl rfl rfl rfl hp12) ?_
            refine ox_skip (sees_f rfl rfl rfl rfl hp12) ?_
            refine ox_skip (sees_f rfl rfl rfl rfl hp12) ?_
            refine ox_y rfl (y_pick_tb (congrArg Value.bool hp12) rfl) ?_
            exact key _ _ (keep (keep (keep (keep (keep (keep (keep (keep (keep rfl rfl) rfl) rfl) rfl) rfl) rfl) rfl) rfl) (congrArg Value.bool (or_t hp12)))
          · refine ox_y (sees_t rfl rfl rfl rfl hp12) (y_fieldAddr fo_97_1 rfl) ?_
            refine ox_y (sees_t rfl rfl rfl rfl hp12) (y_load1 0 (v := .int .i64 p2.fAccept) sc_3 rfl rfl rfl) ?_
            refine ox_y (sees_t rfl rfl rfl rfl hp12) (y_fieldAddr fo_97_2 rfl) ?_
            refine ox_y (sees_t rfl rfl rfl rfl hp12) (y_load1 0 (v := .int .i64 p2.fRefuse) sc_3 rfl rfl rfl) ?_
            refine ox_y (sees_t rfl rfl rfl rfl hp12) (y_geq rfl rfl) ?_
            refine ox_y rfl (y_pick_fb (congrArg Value.bool hp12) rfl) ?_
            exact key _ _ (keep (keep (keep (keep (keep (keep (keep (keep (keep rfl rfl) rfl) rfl) rfl) rfl) rfl) rfl) rfl) (congrArg Value.bool (or_f hp12)))
      · rcases bool_cases b9 with hp11 | hp11
        · refine ox_skip (sees_f rfl rfl rfl rfl hp11) ?_
          refine ox_skip (sees_f rfl rfl rfl rfl hp11) ?_
          refine ox_skip (sees_f rfl rfl rfl rfl hp11) ?_
          refine ox_y rfl (y_pick_tb (congrArg Value.bool hp11) rfl) ?_
          exact key _ _ (keep (keep (keep (keep (keep (keep (keep (keep (keep rfl rfl) rfl) rfl) rfl) rfl) rfl) rfl) rfl) (congrArg Value.bool (or_t hp11)))
        · refine ox_y (sees_t rfl rfl rfl rfl hp11) (y_fieldAddr fo_97_1 rfl) ?_
          refine ox_y (sees_t rfl rfl rfl rfl hp11) (y_load1 0 (v := .int .i64 p2.fAccept) sc_3 rfl rfl rfl) ?_
          refine ox_y (sees_t rfl rfl rfl rfl hp11) (y_lss rfl rfl) ?_
          refine ox_y rfl (y_pick_fb (congrArg Value.bool hp11) rfl) ?_
          exact key _ _ (keep (keep (keep (keep (keep (keep (keep (keep (keep rfl rfl) rfl) rfl) rfl) rfl) rfl) rfl) rfl) (congrArg Value.bool (or_f hp11)))
    · clear h; rcases ite_some hb10 with ⟨hp8, h⟩ | ⟨hp8, h⟩
      · refine ox_skip (sees_f rfl rfl rfl rfl hp8) ?_
        refine ox_skip (sees_f rfl rfl rfl rfl hp8) ?_
        refine ox_skip (sees_f rfl rfl rfl rfl hp8) ?_
        refine ox_skip (sees_f rfl rfl rfl rfl hp8) ?_
        refine ox_skip (sees_f rfl rfl rfl rfl hp8) ?_
        refine ox_skip (sees_f rfl rfl rfl rfl hp8) ?_
        refine ox_skip (sees_f rfl rfl rfl rfl hp8) ?_
        refine ox_skip (sees_f rfl rfl rfl rfl hp8) ?_
        refine ox_y rfl (y_pick_tb (congrArg Value.bool hp8) rfl) ?_
        obtain rfl := Option.some.inj h
        exact key _ _ (keep (keep (keep (keep (keep (keep (keep (keep (keep rfl rfl) rfl) rfl) rfl) rfl) rfl) rfl) rfl) rfl)
      · refine ox_y (sees_t rfl rfl rfl rfl hp8) (y_fieldAddr fo_97_3 rfl) ?_
        refine ox_y (sees_t rfl rfl rfl rfl hp8) (y_load1 0 (v := .int .i64 p2.fSecond) sc_3 rfl rfl rfl) ?_
        refine ox_y (sees_t rfl rfl rfl rfl hp8) (y_move_int rfl) ?_
        refine ox_y (sees_t rfl rfl rfl rfl hp8) (y_fieldAddr fo_97_0 rfl) ?_
        refine ox_y (sees_t rfl rfl rfl rfl hp8) (y_load1 0 (v := .int .i64 p2.fFirst) sc_3 rfl rfl rfl) ?_
        refine ox_y (sees_t rfl rfl rfl rfl hp8) (y_sub rfl rfl) ?_
        obtain ⟨y40, hy41, h⟩ := bind_some h
        refine ox_y (sees_t rfl rfl rfl rfl hp8) (y_call [.int .i64 p2.fSecond, .int .i64 0, .int .i64 (w64 (p0 - p2.fFirst))] go_74 rfl (fun W2 hW2 => sample_within_ok p2.fSecond 0 (w64 (p0 - p2.fFirst)) y40 hy41 W2 ) rfl) ?_
        refine ox_y (sees_t rfl rfl rfl rfl hp8) (y_not rfl) ?_
        refine ox_y rfl (y_pick_fb (congrArg Value.bool hp8) rfl) ?_
        obtain rfl := Option.some.inj h
        exact key _ _ (keep (keep (keep (keep (keep (keep (keep (keep (keep rfl rfl) rfl) rfl) rfl) rfl) rfl) rfl) rfl) rfl)

end Go.Proofs.Ytepfgdfahinpkaa
