/- The calls hand back what the plain functions say. -/
import Derived.Test.YtepfgdfahinpkaaF
import Derived.Test.YtepfgdfahinpkaaC1
import Derived.Test.YtepfgdfahinpkaaC2
import Derived.Test.YtepfgdfahinpkaaC3
import Derived.Test.YtepfgdfahinpkaaC8
set_option linter.unusedVariables false
set_option maxHeartbeats 4000000
namespace Go.Proofs.Ytepfgdfahinpkaa
open Go.RowKit (Below)
attribute [local irreducible] OX QX CX EX OpY Calls CallsIn

/-! calx/calxlaw03.SampleBounds -/
set_option maxRecDepth 100000 in
theorem calxlaw03_SampleBounds_ok (p0 : Int) (p1 : Int) (p2 : Int) (p3 : Int) (p4 : TRatio) (p5 : TRatio) (res : Bool) (h : calxlaw03_SampleBounds p0 p1 p2 p3 p4 p5 = some res) (W : World)  :
    Calls Try.prog 15 [.int .i64 p0, .int .i64 p1, .int .i64 p2, .int .i64 p3, .agg #[.int .i64 p4.fNum, .int .i64 p4.fDen], .agg #[.int .i64 p5.fNum, .int .i64 p5.fDen]].toArray W fun e W2 => e = .returned (.bool res) ∧ Ext W W2 [] := by
  unfold calxlaw03_SampleBounds at h
  refine calls_enter (m := 178) Try.func15 rfl rfl (Nat.le_of_ble_eq_true rfl) ?_
  refine cx_seq ?_
  refine cx_region ?_
  refine ox_box [.int .i64 p4.fNum, .int .i64 p4.fDen] rfl rfl rfl (fun b1 => ?_)
  refine ox_box [.int .i64 p5.fNum, .int .i64 p5.fDen] rfl rfl rfl (fun b2 => ?_)
  refine ox_y rfl (y_assign_bool rfl) ?_
  refine ox_nil ?_
  refine ex_then ?_
  refine cx_seq ?_
  refine cx_region ?_
  obtain ⟨y3, hy4, h⟩ := bind_some h
  refine ox_y rfl (y_call [] go_22 rfl (fun W2 hW2 => calxlaw03_head_ok  y3 hy4 W2 ) rfl) ?_
  refine ox_y rfl (y_assign_bool rfl) ?_
  refine ox_nil ?_
  refine ex_then ?_
  refine cx_seq ?_
  refine cx_region ?_
  refine ox_y rfl (y_move_int rfl) ?_
  refine ox_y rfl (y_move_int rfl) ?_
  refine ox_y rfl (y_move_int rfl) ?_
  refine ox_y rfl (y_loadN 0 [.int .i64 p4.fNum, .int .i64 p4.fDen] ag_23 rfl rfl rfl) ?_
  obtain ⟨y5, hy6, h⟩ := bind_some h
  refine ox_y rfl (y_call [.int .i64 p0, .int .i64 p2, .int .i64 p3, .agg #[.int .i64 p4.fNum, .int .i64 p4.fDen]] go_56 rfl (fun W2 hW2 => sample_Upper_ok p0 p2 p3 p4 y5 hy6 W2 ) rfl) ?_
  refine ox_y rfl (y_move_tuple rfl) ?_
  refine ox_y rfl (y_extract (vs := [.int .i64 y5.1, .int .i64 y5.2]) (v := .int .i64 y5.1) rfl rfl) ?_
  refine ox_y rfl (y_extract (vs := [.int .i64 y5.1, .int .i64 y5.2]) (v := .int .i64 y5.2) rfl rfl) ?_
  refine ox_y rfl (y_assign_int rfl) ?_
  refine ox_y rfl (y_assign_int rfl) ?_
  refine ox_nil ?_
  refine ex_then ?_
  refine cx_seq ?_
  refine cx_region ?_
  refine ox_y rfl (y_move_int rfl) ?_
  refine ox_y rfl (y_move_int rfl) ?_
  refine ox_y rfl (y_move_int rfl) ?_
  refine ox_y rfl (y_loadN 0 [.int .i64 p4.fNum, .int .i64 p4.fDen] ag_23 rfl rfl rfl) ?_
  obtain ⟨y7, hy8, h⟩ := bind_some h
  refine ox_y rfl (y_call [.int .i64 p0, .int .i64 p2, .int .i64 p3, .agg #[.int .i64 p4.fNum, .int .i64 p4.fDen]] go_58 rfl (fun W2 hW2 => sample_Lower_ok p0 p2 p3 p4 y7 hy8 W2 ) rfl) ?_
  refine ox_y rfl (y_move_tuple rfl) ?_
  refine ox_y rfl (y_extract (vs := [.int .i64 y7.1, .int .i64 y7.2]) (v := .int .i64 y7.1) rfl rfl) ?_
  refine ox_y rfl (y_extract (vs := [.int .i64 y7.1, .int .i64 y7.2]) (v := .int .i64 y7.2) rfl rfl) ?_
  refine ox_y rfl (y_assign_int rfl) ?_
  refine ox_y rfl (y_assign_int rfl) ?_
  refine ox_nil ?_
  refine ex_then ?_
  refine cx_seq ?_
  refine cx_region ?_
  refine ox_y rfl (y_move_int rfl) ?_
  refine ox_y rfl (y_move_int rfl) ?_
  refine ox_y rfl (y_move_int rfl) ?_
  refine ox_y rfl (y_loadN 1 [.int .i64 p5.fNum, .int .i64 p5.fDen] ag_23 rfl rfl rfl) ?_
  obtain ⟨y9, hy10, h⟩ := bind_some h
  refine ox_y rfl (y_call [.int .i64 p0, .int .i64 p2, .int .i64 p3, .agg #[.int .i64 p5.fNum, .int .i64 p5.fDen]] go_56 rfl (fun W2 hW2 => sample_Upper_ok p0 p2 p3 p5 y9 hy10 W2 ) rfl) ?_
  refine ox_y rfl (y_move_tuple rfl) ?_
  refine ox_y rfl (y_extract (vs := [.int .i64 y9.1, .int .i64 y9.2]) (v := .int .i64 y9.1) rfl rfl) ?_
  refine ox_y rfl (y_extract (vs := [.int .i64 y9.1, .int .i64 y9.2]) (v := .int .i64 y9.2) rfl rfl) ?_
  refine ox_y rfl (y_assign_int rfl) ?_
  refine ox_y rfl (y_assign_int rfl) ?_
  refine ox_nil ?_
  refine ex_then ?_
  refine cx_seq ?_
  refine cx_region ?_
  refine ox_y rfl (y_move_int rfl) ?_
  refine ox_y rfl (y_move_int rfl) ?_
  refine ox_y rfl (y_move_int rfl) ?_
  refine ox_y rfl (y_loadN 1 [.int .i64 p5.fNum, .int .i64 p5.fDen] ag_23 rfl rfl rfl) ?_
  obtain ⟨y11, hy12, h⟩ := bind_some h
  refine ox_y rfl (y_call [.int .i64 p0, .int .i64 p2, .int .i64 p3, .agg #[.int .i64 p5.fNum, .int .i64 p5.fDen]] go_58 rfl (fun W2 hW2 => sample_Lower_ok p0 p2 p3 p5 y11 hy12 W2 ) rfl) ?_
  refine ox_y rfl (y_move_tuple rfl) ?_
  refine ox_y rfl (y_extract (vs := [.int .i64 y11.1, .int .i64 y11.2]) (v := .int .i64 y11.1) rfl rfl) ?_
  refine ox_y rfl (y_extract (vs := [.int .i64 y11.1, .int .i64 y11.2]) (v := .int .i64 y11.2) rfl rfl) ?_
  refine ox_y rfl (y_assign_int rfl) ?_
  refine ox_y rfl (y_assign_int rfl) ?_
  refine ox_nil ?_
  refine ex_then ?_
  refine cx_seq ?_
  refine cx_seq ?_
  refine cx_region ?_
  refine ox_y rfl (y_move_int rfl) ?_
  refine ox_y rfl (y_move_int rfl) ?_
  refine ox_y rfl (y_neq rfl rfl) ?_
  refine ox_y rfl (y_move_bool rfl) ?_
  refine ox_join 4 (fun tm0 => (upd (upd (upd (upd (upd (upd (upd (upd (upd (upd (upd (upd (upd (upd (upd (upd (upd (upd (upd tm0 0 (.int .i64 p0)) 1 (.int .i64 p1)) 2 (.int .i64 p2)) 3 (.int .i64 p3)) 4 (.agg #[.int .i64 p4.fNum, .int .i64 p4.fDen])) 5 (.agg #[.int .i64 p5.fNum, .int .i64 p5.fDen])) 10 (.pointer (some ⟨b1, 0, none⟩))) 11 (.pointer (some ⟨b2, 0, none⟩))) 12 (.bool false)) 13 (.bool y3)) 14 (.int .i64 y5.1)) 15 (.int .i64 y5.2)) 16 (.int .i64 y7.1)) 17 (.int .i64 y7.2)) 18 (.int .i64 y9.1)) 19 (.int .i64 y9.2)) 20 (.int .i64 y11.1)) 21 (.int .i64 y11.2)) 71 (.bool ((y5.2 != y7.2) || (y9.2 != y11.2))))) (fun tm0 => ?_) (fun key => ?_)
  · refine ox_nil ?_
    refine ex_then ?_
    rcases ite_some h with ⟨hp14, h⟩ | ⟨hp14, h⟩
    · refine cx_true (congrArg Value.bool hp14) ?_
      refine cx_seq ?_
      refine cx_region ?_
      refine ox_y rfl (y_assign_bool rfl) ?_
      refine ox_nil ?_
      refine ex_then ?_
      refine cx_ret ?_
      refine ex_then_ret ?_
      obtain rfl := Option.some.inj h
      exact ex_res1 (.inl rfl) rfl (resV_tmp (v := .bool false) rfl) (fun W2 hW2 => ⟨rfl, hW2.none⟩)
    · refine cx_false (congrArg Value.bool hp14) ?_
      refine cx_skip ?_
      refine ex_then ?_
      refine cx_seq ?_
      refine cx_seq ?_
      refine cx_region ?_
      refine ox_y rfl (y_move_int rfl) ?_
      refine ox_y rfl (y_neq rfl rfl) ?_
      refine ox_y rfl (y_move_bool rfl) ?_
      refine ox_join 3 (fun tm0 => (upd (upd (upd (upd (upd (upd (upd (upd (upd (upd (upd (upd (upd (upd (upd (upd (upd (upd (upd (upd tm0 0 (.int .i64 p0)) 1 (.int .i64 p1)) 2 (.int .i64 p2)) 3 (.int .i64 p3)) 4 (.agg #[.int .i64 p4.fNum, .int .i64 p4.fDen])) 5 (.agg #[.int .i64 p5.fNum, .int .i64 p5.fDen])) 10 (.pointer (some ⟨b1, 0, none⟩))) 11 (.pointer (some ⟨b2, 0, none⟩))) 12 (.bool false)) 13 (.bool y3)) 14 (.int .i64 y5.1)) 15 (.int .i64 y5.2)) 16 (.int .i64 y7.1)) 17 (.int .i64 y7.2)) 18 (.int .i64 y9.1)) 19 (.int .i64 y9.2)) 20 (.int .i64 y11.1)) 21 (.int .i64 y11.2)) 71 (.bool ((y5.2 != y7.2) || (y9.2 != y11.2)))) 77 (.bool ((y5.2 != 0) || (y9.2 != 0))))) (fun tm0 => ?_) (fun key => ?_)
      · refine ox_nil ?_
        refine ex_then ?_
        rcases ite_some h with ⟨hp16, h⟩ | ⟨hp16, h⟩
        · refine cx_true (congrArg Value.bool hp16) ?_
          refine cx_seq ?_
          refine cx_region ?_
          refine ox_y rfl (y_move_bool rfl) ?_
          refine ox_y rfl (y_assign_bool rfl) ?_
          refine ox_nil ?_
          refine ex_then ?_
          refine cx_ret ?_
          refine ex_then_ret ?_
          obtain rfl := Option.some.inj h
          exact ex_res1 (.inl rfl) rfl (resV_tmp (v := .bool y3) rfl) (fun W2 hW2 => ⟨rfl, hW2.none⟩)
        · refine cx_false (congrArg Value.bool hp16) ?_
          refine cx_skip ?_
          refine ex_then ?_
          refine cx_seq ?_
          refine cx_seq ?_
          refine cx_region ?_
          refine ox_y rfl (y_fieldAddr fo_23_0 rfl) ?_
          refine ox_y rfl (y_load1 1 (v := .int .i64 p5.fNum) sc_3 rfl rfl rfl) ?_
          refine ox_y rfl (y_fieldAddr fo_23_1 rfl) ?_
          refine ox_y rfl (y_load1 0 (v := .int .i64 p4.fDen) sc_3 rfl rfl rfl) ?_
          refine ox_y rfl (y_mul rfl rfl) ?_
          refine ox_y rfl (y_fieldAddr fo_23_0 rfl) ?_
          refine ox_y rfl (y_load1 0 (v := .int .i64 p4.fNum) sc_3 rfl rfl rfl) ?_
          refine ox_y rfl (y_fieldAddr fo_23_1 rfl) ?_
          refine ox_y rfl (y_load1 1 (v := .int .i64 p5.fDen) sc_3 rfl rfl rfl) ?_
          refine ox_y rfl (y_mul rfl rfl) ?_
          refine ox_y rfl (y_geq rfl rfl) ?_
          refine ox_y rfl (y_move_bool rfl) ?_
          refine ox_join 9 (fun tm0 => (upd (upd (upd (upd (upd (upd (upd (upd (upd (upd (upd (upd (upd (upd (upd (upd (upd (upd (upd (upd (upd tm0 0 (.int .i64 p0)) 1 (.int .i64 p1)) 2 (.int .i64 p2)) 3 (.int .i64 p3)) 4 (.agg #[.int .i64 p4.fNum, .int .i64 p4.fDen])) 5 (.agg #[.int .i64 p5.fNum, .int .i64 p5.fDen])) 10 (.pointer (some ⟨b1, 0, none⟩))) 11 (.pointer (some ⟨b2, 0, none⟩))) 12 (.bool false)) 13 (.bool y3)) 14 (.int .i64 y5.1)) 15 (.int .i64 y5.2)) 16 (.int .i64 y7.1)) 17 (.int .i64 y7.2)) 18 (.int .i64 y9.1)) 19 (.int .i64 y9.2)) 20 (.int .i64 y11.1)) 21 (.int .i64 y11.2)) 71 (.bool ((y5.2 != y7.2) || (y9.2 != y11.2)))) 77 (.bool ((y5.2 != 0) || (y9.2 != 0)))) 99 (.bool ((decide (w64 (p4.fNum * p5.fDen) ≤ w64 (p5.fNum * p4.fDen))) && ((decide (y5.1 < y9.1)) || (decide (y11.1 < y7.1))))))) (fun tm0 => ?_) (fun key => ?_)
          · refine ox_nil ?_
            refine ex_then ?_
            rcases ite_some h with ⟨hp18, h⟩ | ⟨hp18, h⟩
            · refine cx_true (congrArg Value.bool hp18) ?_
              refine cx_seq ?_
              refine cx_region ?_
              refine ox_y rfl (y_assign_bool rfl) ?_
              refine ox_nil ?_
              refine ex_then ?_
              refine cx_ret ?_
              refine ex_then_ret ?_
              obtain rfl := Option.some.inj h
              exact ex_res1 (.inl rfl) rfl (resV_tmp (v := .bool false) rfl) (fun W2 hW2 => ⟨rfl, hW2.none⟩)
            · refine cx_false (congrArg Value.bool hp18) ?_
              refine cx_skip ?_
              refine ex_then ?_
              refine cx_seq ?_
              refine cx_region ?_
              refine ox_y rfl (y_move_int rfl) ?_
              refine ox_y rfl (y_move_int rfl) ?_
              refine ox_y rfl (y_move_int rfl) ?_
              refine ox_y rfl (y_move_int rfl) ?_
              obtain ⟨y19, hy20, h⟩ := bind_some h
              refine ox_y rfl (y_call [.int .i64 p0, .int .i64 p1, .int .i64 p2, .int .i64 p3] go_54 rfl (fun W2 hW2 => sample_AtMost_ok p0 p1 p2 p3 y19 hy20 W2 ) rfl) ?_
              refine ox_y rfl (y_move_tuple rfl) ?_
              refine ox_y rfl (y_extract (vs := [.int .i64 y19.1, .int .i64 y19.2]) (v := .int .i64 y19.1) rfl rfl) ?_
              refine ox_y rfl (y_extract (vs := [.int .i64 y19.1, .int .i64 y19.2]) (v := .int .i64 y19.2) rfl rfl) ?_
              refine ox_y rfl (y_assign_int rfl) ?_
              refine ox_y rfl (y_assign_int rfl) ?_
              refine ox_nil ?_
              refine ex_then ?_
              refine cx_seq ?_
              refine cx_region ?_
              refine ox_y rfl (y_move_int rfl) ?_
              refine ox_y rfl (y_move_int rfl) ?_
              obtain ⟨y21, hy22, h⟩ := bind_some h
              refine ox_y rfl (y_call [.int .i64 p0, .int .i64 p2] go_28 rfl (fun W2 hW2 => sample_Choose_ok p0 p2 y21 hy22 W2 ) rfl) ?_
              refine ox_y rfl (y_move_tuple rfl) ?_
              refine ox_y rfl (y_extract (vs := [.int .i64 y21.1, .int .i64 y21.2]) (v := .int .i64 y21.1) rfl rfl) ?_
              refine ox_y rfl (y_extract (vs := [.int .i64 y21.1, .int .i64 y21.2]) (v := .int .i64 y21.2) rfl rfl) ?_
              refine ox_y rfl (y_assign_int rfl) ?_
              refine ox_y rfl (y_assign_int rfl) ?_
              refine ox_nil ?_
              refine ex_then ?_
              refine cx_seq ?_
              refine cx_seq ?_
              refine cx_region ?_
              refine ox_y rfl (y_move_int rfl) ?_
              refine ox_y rfl (y_neq rfl rfl) ?_
              refine ox_y rfl (y_move_bool rfl) ?_
              refine ox_join 3 (fun tm0 => (upd (upd (upd (upd (upd (upd (upd (upd (upd (upd (upd (upd (upd (upd (upd (upd (upd (upd (upd (upd (upd (upd (upd (upd (upd (upd tm0 0 (.int .i64 p0)) 1 (.int .i64 p1)) 2 (.int .i64 p2)) 3 (.int .i64 p3)) 4 (.agg #[.int .i64 p4.fNum, .int .i64 p4.fDen])) 5 (.agg #[.int .i64 p5.fNum, .int .i64 p5.fDen])) 10 (.pointer (some ⟨b1, 0, none⟩))) 11 (.pointer (some ⟨b2, 0, none⟩))) 12 (.bool false)) 13 (.bool y3)) 14 (.int .i64 y5.1)) 15 (.int .i64 y5.2)) 16 (.int .i64 y7.1)) 17 (.int .i64 y7.2)) 18 (.int .i64 y9.1)) 19 (.int .i64 y9.2)) 20 (.int .i64 y11.1)) 21 (.int .i64 y11.2)) 71 (.bool ((y5.2 != y7.2) || (y9.2 != y11.2)))) 77 (.bool ((y5.2 != 0) || (y9.2 != 0)))) 99 (.bool ((decide (w64 (p4.fNum * p5.fDen) ≤ w64 (p5.fNum * p4.fDen))) && ((decide (y5.1 < y9.1)) || (decide (y11.1 < y7.1)))))) 22 (.int .i64 y19.1)) 23 (.int .i64 y19.2)) 24 (.int .i64 y21.1)) 25 (.int .i64 y21.2)) 119 (.bool ((y19.2 != 0) || (y21.2 != 0))))) (fun tm0 => ?_) (fun key => ?_)
              · refine ox_nil ?_
                refine ex_then ?_
                rcases ite_some h with ⟨hp24, h⟩ | ⟨hp24, h⟩
                · refine cx_true (congrArg Value.bool hp24) ?_
                  refine cx_seq ?_
                  refine cx_region ?_
                  refine ox_y rfl (y_move_bool rfl) ?_
                  refine ox_y rfl (y_move_bool rfl) ?_
                  refine ox_join 3 (fun tm0 => (upd (upd (upd (upd (upd (upd (upd (upd (upd (upd (upd (upd (upd (upd (upd (upd (upd (upd (upd (upd (upd (upd (upd (upd (upd (upd (upd tm0 0 (.int .i64 p0)) 1 (.int .i64 p1)) 2 (.int .i64 p2)) 3 (.int .i64 p3)) 4 (.agg #[.int .i64 p4.fNum, .int .i64 p4.fDen])) 5 (.agg #[.int .i64 p5.fNum, .int .i64 p5.fDen])) 10 (.pointer (some ⟨b1, 0, none⟩))) 11 (.pointer (some ⟨b2, 0, none⟩))) 12 (.bool false)) 13 (.bool y3)) 14 (.int .i64 y5.1)) 15 (.int .i64 y5.2)) 16 (.int .i64 y7.1)) 17 (.int .i64 y7.2)) 18 (.int .i64 y9.1)) 19 (.int .i64 y9.2)) 20 (.int .i64 y11.1)) 21 (.int .i64 y11.2)) 71 (.bool ((y5.2 != y7.2) || (y9.2 != y11.2)))) 77 (.bool ((y5.2 != 0) || (y9.2 != 0)))) 99 (.bool ((decide (w64 (p4.fNum * p5.fDen) ≤ w64 (p5.fNum * p4.fDen))) && ((decide (y5.1 < y9.1)) || (decide (y11.1 < y7.1)))))) 22 (.int .i64 y19.1)) 23 (.int .i64 y19.2)) 24 (.int .i64 y21.1)) 25 (.int .i64 y21.2)) 119 (.bool ((y19.2 != 0) || (y21.2 != 0)))) 124 (.bool (y3 && (y19.2 == 1))))) (fun tm0 => ?_) (fun key => ?_)
                  · refine ox_y rfl (y_assign_bool rfl) ?_
                    refine ox_nil ?_
                    refine ex_then ?_
                    refine cx_ret ?_
                    refine ex_then_ret ?_
                    obtain rfl := Option.some.inj h
                    exact ex_res1 (.inl rfl) rfl (resV_tmp (v := .bool (y3 && (y19.2 == 1))) rfl) (fun W2 hW2 => ⟨rfl, hW2.none⟩)
                  · rcases bool_cases y3 with hp25 | hp25
                    · refine ox_y (sees_t rfl rfl rfl rfl hp25) (y_move_int rfl) ?_
                      refine ox_y (sees_t rfl rfl rfl rfl hp25) (y_eql rfl rfl) ?_
                      refine ox_y rfl (y_pick_tb (congrArg Value.bool hp25) rfl) ?_
                      exact key _ _ (keep (keep (keep (keep (keep (keep (keep (keep (keep (keep (keep (keep (keep (keep (keep (keep (keep (keep (keep (keep (keep (keep (keep (keep (keep (keep (keep rfl rfl) rfl) rfl) rfl) rfl) rfl) rfl) rfl) rfl) rfl) rfl) rfl) rfl) rfl) rfl) rfl) rfl) rfl) rfl) rfl) rfl) rfl) rfl) rfl) rfl) rfl) (congrArg Value.bool (and_t hp25)))
                    · refine ox_skip (sees_f rfl rfl rfl rfl hp25) ?_
                      refine ox_skip (sees_f rfl rfl rfl rfl hp25) ?_
                      refine ox_y rfl (y_pick_fb (congrArg Value.bool hp25) rfl) ?_
                      exact key _ _ (keep (keep (keep (keep (keep (keep (keep (keep (keep (keep (keep (keep (keep (keep (keep (keep (keep (keep (keep (keep (keep (keep (keep (keep (keep (keep (keep rfl rfl) rfl) rfl) rfl) rfl) rfl) rfl) rfl) rfl) rfl) rfl) rfl) rfl) rfl) rfl) rfl) rfl) rfl) rfl) rfl) rfl) rfl) rfl) rfl) rfl) rfl) (congrArg Value.bool (and_f hp25)))
                · refine cx_false (congrArg Value.bool hp24) ?_
                  refine cx_skip ?_
                  refine ex_then ?_
                  refine cx_seq ?_
                  refine cx_region ?_
                  refine ox_y rfl (y_assign_int rfl) ?_
                  refine ox_nil ?_
                  refine ex_then ?_
                  refine cx_seq ?_
                  refine cx_seq ?_
                  refine cx_region ?_
                  refine ox_y rfl (y_move_int rfl) ?_
                  refine ox_y rfl (y_gtr rfl rfl) ?_
                  refine ox_nil ?_
                  refine ex_then ?_
                  rcases ite_some h with ⟨hp26, h⟩ | ⟨hp26, h⟩
                  · refine cx_true (congrArg Value.bool hp26) ?_
                    refine cx_seq ?_
                    refine cx_region ?_
                    refine ox_y rfl (y_move_int rfl) ?_
                    refine ox_y rfl (y_move_int rfl) ?_
                    refine ox_y rfl (y_move_int rfl) ?_
                    refine ox_y rfl (y_move_int rfl) ?_
                    refine ox_y rfl (y_sub rfl rfl) ?_
                    obtain ⟨y27, hy28, h⟩ := bind_some h
                    refine ox_y rfl (y_call [.int .i64 p0, .int .i64 p1, .int .i64 p2, .int .i64 (w64 (p3 - 1))] go_54 rfl (fun W2 hW2 => sample_AtMost_ok p0 p1 p2 (w64 (p3 - 1)) y27 hy28 W2 ) rfl) ?_
                    refine ox_y rfl (y_move_tuple rfl) ?_
                    refine ox_y rfl (y_extract (vs := [.int .i64 y27.1, .int .i64 y27.2]) (v := .int .i64 y27.1) rfl rfl) ?_
                    refine ox_y rfl (y_extract (vs := [.int .i64 y27.1, .int .i64 y27.2]) (v := .int .i64 y27.2) rfl rfl) ?_
                    refine ox_y rfl (y_assign_int rfl) ?_
                    refine ox_y rfl (y_assign_int rfl) ?_
                    refine ox_nil ?_
                    refine ex_then ?_
                    refine cx_seq ?_
                    refine cx_seq ?_
                    refine cx_region ?_
                    refine ox_y rfl (y_move_int rfl) ?_
                    refine ox_y rfl (y_neq rfl rfl) ?_
                    refine ox_nil ?_
                    refine ex_then ?_
                    rcases ite_some h with ⟨hp29, h⟩ | ⟨hp29, h⟩
                    · refine cx_true (congrArg Value.bool hp29) ?_
                      refine cx_seq ?_
                      refine cx_region ?_
                      refine ox_y rfl (y_assign_bool rfl) ?_
                      refine ox_nil ?_
                      refine ex_then ?_
                      refine cx_ret ?_
                      refine ex_then_ret ?_
                      refine ex_then_ret ?_
                      obtain rfl := Option.some.inj h
                      exact ex_res1 (.inl rfl) rfl (resV_tmp (v := .bool false) rfl) (fun W2 hW2 => ⟨rfl, hW2.none⟩)
                    · refine cx_false (congrArg Value.bool hp29) ?_
                      refine cx_skip ?_
                      refine ex_then ?_
                      refine cx_region ?_
                      refine ox_y rfl (y_move_int rfl) ?_
                      refine ox_y rfl (y_assign_int rfl) ?_
                      refine ox_nil ?_
                      refine ex_then ?_
                      refine cx_seq ?_
                      refine cx_region ?_
                      refine ox_y rfl (y_move_int rfl) ?_
                      refine ox_y rfl (y_fieldAddr fo_23_1 rfl) ?_
                      refine ox_y rfl (y_load1 0 (v := .int .i64 p4.fDen) sc_3 rfl rfl rfl) ?_
                      refine ox_y rfl (y_mul rfl rfl) ?_
                      refine ox_y rfl (y_move_int rfl) ?_
                      refine ox_y rfl (y_fieldAddr fo_23_0 rfl) ?_
                      refine ox_y rfl (y_load1 0 (v := .int .i64 p4.fNum) sc_3 rfl rfl rfl) ?_
                      refine ox_y rfl (y_mul rfl rfl) ?_
                      refine ox_y rfl (y_geq rfl rfl) ?_
                      refine ox_y rfl (y_assign_bool rfl) ?_
                      refine ox_nil ?_
                      refine ex_then ?_
                      refine cx_seq ?_
                      refine cx_region ?_
                      refine ox_y rfl (y_move_int rfl) ?_
                      refine ox_y rfl (y_move_int rfl) ?_
                      refine ox_y rfl (y_sub rfl rfl) ?_
                      refine ox_y rfl (y_fieldAddr fo_23_1 rfl) ?_
                      refine ox_y rfl (y_load1 0 (v := .int .i64 p4.fDen) sc_3 rfl rfl rfl) ?_
                      refine ox_y rfl (y_mul rfl rfl) ?_
                      refine ox_y rfl (y_move_int rfl) ?_
                      refine ox_y rfl (y_fieldAddr fo_23_0 rfl) ?_
                      refine ox_y rfl (y_load1 0 (v := .int .i64 p4.fNum) sc_3 rfl rfl rfl) ?_
                      refine ox_y rfl (y_mul rfl rfl) ?_
                      refine ox_y rfl (y_geq rfl rfl) ?_
                      refine ox_y rfl (y_assign_bool rfl) ?_
                      refine ox_nil ?_
                      refine ex_then ?_
                      refine cx_seq ?_
                      refine cx_region ?_
                      refine ox_y rfl (y_move_bool rfl) ?_
                      refine ox_y rfl (y_move_bool rfl) ?_
                      refine ox_join 8 (fun tm0 => (upd (upd (upd (upd (upd (upd (upd (upd (upd (upd (upd (upd (upd (upd (upd (upd (upd (upd (upd (upd (upd (upd (upd (upd (upd (upd (upd (upd (upd (upd (upd (upd (upd (upd tm0 0 (.int .i64 p0)) 1 (.int .i64 p1)) 2 (.int .i64 p2)) 3 (.int .i64 p3)) 4 (.agg #[.int .i64 p4.fNum, .int .i64 p4.fDen])) 5 (.agg #[.int .i64 p5.fNum, .int .i64 p5.fDen])) 10 (.pointer (some ⟨b1, 0, none⟩))) 11 (.pointer (some ⟨b2, 0, none⟩))) 12 (.bool false)) 13 (.bool y3)) 14 (.int .i64 y5.1)) 15 (.int .i64 y5.2)) 16 (.int .i64 y7.1)) 17 (.int .i64 y7.2)) 18 (.int .i64 y9.1)) 19 (.int .i64 y9.2)) 20 (.int .i64 y11.1)) 21 (.int .i64 y11.2)) 71 (.bool ((y5.2 != y7.2) || (y9.2 != y11.2)))) 77 (.bool ((y5.2 != 0) || (y9.2 != 0)))) 99 (.bool ((decide (w64 (p4.fNum * p5.fDen) ≤ w64 (p5.fNum * p4.fDen))) && ((decide (y5.1 < y9.1)) || (decide (y11.1 < y7.1)))))) 22 (.int .i64 y19.1)) 23 (.int .i64 y19.2)) 24 (.int .i64 y21.1)) 25 (.int .i64 y21.2)) 119 (.bool ((y19.2 != 0) || (y21.2 != 0)))) 26 (.int .i64 y27.1)) 126 (.bool (decide (0 < p3)))) 27 (.int .i64 y27.1)) 28 (.int .i64 y27.2)) 137 (.bool (y27.2 != 0))) 29 (.bool (decide (w64 (y21.1 * p4.fNum) ≤ w64 (y19.1 * p4.fDen))))) 30 (.bool (decide (w64 (y21.1 * p4.fNum) ≤ w64 ((w64 (y21.1 - y27.1)) * p4.fDen))))) 168 (.bool (y3 && ((!(decide (w64 (y21.1 * p4.fNum) ≤ w64 (y19.1 * p4.fDen)))) || (decide (p1 ≤ y5.1))))))) (fun tm0 => ?_) (fun key => ?_)
                      · refine ox_y rfl (y_move_bool rfl) ?_
                        refine ox_join 8 (fun tm0 => (upd (upd (upd (upd (upd (upd (upd (upd (upd (upd (upd (upd (upd (upd (upd (upd (upd (upd (upd (upd (upd (upd (upd (upd (upd (upd (upd (upd (upd (upd (upd (upd (upd (upd tm0 0 (.int .i64 p0)) 1 (.int .i64 p1)) 2 (.int .i64 p2)) 3 (.int .i64 p3)) 4 (.agg #[.int .i64 p4.fNum, .int .i64 p4.fDen])) 5 (.agg #[.int .i64 p5.fNum, .int .i64 p5.fDen])) 10 (.pointer (some ⟨b1, 0, none⟩))) 11 (.pointer (some ⟨b2, 0, none⟩))) 12 (.bool false)) 13 (.bool y3)) 14 (.int .i64 y5.1)) 15 (.int .i64 y5.2)) 16 (.int .i64 y7.1)) 17 (.int .i64 y7.2)) 18 (.int .i64 y9.1)) 19 (.int .i64 y9.2)) 20 (.int .i64 y11.1)) 21 (.int .i64 y11.2)) 71 (.bool ((y5.2 != y7.2) || (y9.2 != y11.2)))) 77 (.bool ((y5.2 != 0) || (y9.2 != 0)))) 99 (.bool ((decide (w64 (p4.fNum * p5.fDen) ≤ w64 (p5.fNum * p4.fDen))) && ((decide (y5.1 < y9.1)) || (decide (y11.1 < y7.1)))))) 22 (.int .i64 y19.1)) 23 (.int .i64 y19.2)) 24 (.int .i64 y21.1)) 25 (.int .i64 y21.2)) 119 (.bool ((y19.2 != 0) || (y21.2 != 0)))) 26 (.int .i64 y27.1)) 126 (.bool (decide (0 < p3)))) 27 (.int .i64 y27.1)) 28 (.int .i64 y27.2)) 137 (.bool (y27.2 != 0))) 29 (.bool (decide (w64 (y21.1 * p4.fNum) ≤ w64 (y19.1 * p4.fDen))))) 30 (.bool (decide (w64 (y21.1 * p4.fNum) ≤ w64 ((w64 (y21.1 - y27.1)) * p4.fDen))))) 177 (.bool ((y3 && ((!(decide (w64 (y21.1 * p4.fNum) ≤ w64 (y19.1 * p4.fDen)))) || (decide (p1 ≤ y5.1)))) && ((!(decide (w64 (y21.1 * p4.fNum) ≤ w64 ((w64 (y21.1 - y27.1)) * p4.fDen)))) || (decide (y7.1 ≤ p1))))))) (fun tm0 => ?_) (fun key => ?_)
                        · refine ox_y rfl (y_assign_bool rfl) ?_
                          refine ox_nil ?_
                          refine ex_then ?_
                          refine cx_ret ?_
                          obtain rfl := Option.some.inj h
                          exact ex_res1 (.inl rfl) rfl (resV_tmp (v := .bool ((y3 && ((!(decide (w64 (y21.1 * p4.fNum) ≤ w64 (y19.1 * p4.fDen)))) || (decide (p1 ≤ y5.1)))) && ((!(decide (w64 (y21.1 * p4.fNum) ≤ w64 ((w64 (y21.1 - y27.1)) * p4.fDen)))) || (decide (y7.1 ≤ p1))))) rfl) (fun W2 hW2 => ⟨rfl, hW2.none⟩)
                        · rcases bool_cases (y3 && ((!(decide (w64 (y21.1 * p4.fNum) ≤ w64 (y19.1 * p4.fDen)))) || (decide (p1 ≤ y5.1)))) with hp31 | hp31
                          · refine ox_y (sees_t rfl rfl rfl rfl hp31) (y_move_bool rfl) ?_
                            refine ox_y (sees_t rfl rfl rfl rfl hp31) (y_not rfl) ?_
                            refine ox_y (sees_t rfl rfl rfl rfl hp31) (y_move_bool rfl) ?_
                            refine ox_join 4 (fun tm0 => (upd (upd (upd (upd (upd (upd (upd (upd (upd (upd (upd (upd (upd (upd (upd (upd (upd (upd (upd (upd (upd (upd (upd (upd (upd (upd (upd (upd (upd (upd (upd (upd (upd (upd (upd tm0 0 (.int .i64 p0)) 1 (.int .i64 p1)) 2 (.int .i64 p2)) 3 (.int .i64 p3)) 4 (.agg #[.int .i64 p4.fNum, .int .i64 p4.fDen])) 5 (.agg #[.int .i64 p5.fNum, .int .i64 p5.fDen])) 10 (.pointer (some ⟨b1, 0, none⟩))) 11 (.pointer (some ⟨b2, 0, none⟩))) 12 (.bool false)) 13 (.bool y3)) 14 (.int .i64 y5.1)) 15 (.int .i64 y5.2)) 16 (.int .i64 y7.1)) 17 (.int .i64 y7.2)) 18 (.int .i64 y9.1)) 19 (.int .i64 y9.2)) 20 (.int .i64 y11.1)) 21 (.int .i64 y11.2)) 71 (.bool ((y5.2 != y7.2) || (y9.2 != y11.2)))) 77 (.bool ((y5.2 != 0) || (y9.2 != 0)))) 99 (.bool ((decide (w64 (p4.fNum * p5.fDen) ≤ w64 (p5.fNum * p4.fDen))) && ((decide (y5.1 < y9.1)) || (decide (y11.1 < y7.1)))))) 22 (.int .i64 y19.1)) 23 (.int .i64 y19.2)) 24 (.int .i64 y21.1)) 25 (.int .i64 y21.2)) 119 (.bool ((y19.2 != 0) || (y21.2 != 0)))) 26 (.int .i64 y27.1)) 126 (.bool (decide (0 < p3)))) 27 (.int .i64 y27.1)) 28 (.int .i64 y27.2)) 137 (.bool (y27.2 != 0))) 29 (.bool (decide (w64 (y21.1 * p4.fNum) ≤ w64 (y19.1 * p4.fDen))))) 30 (.bool (decide (w64 (y21.1 * p4.fNum) ≤ w64 ((w64 (y21.1 - y27.1)) * p4.fDen))))) 169 (.bool (y3 && ((!(decide (w64 (y21.1 * p4.fNum) ≤ w64 (y19.1 * p4.fDen)))) || (decide (p1 ≤ y5.1)))))) 176 (.bool ((!(decide (w64 (y21.1 * p4.fNum) ≤ w64 ((w64 (y21.1 - y27.1)) * p4.fDen)))) || (decide (y7.1 ≤ p1)))))) (fun tm0 => ?_) (fun key => ?_)
                            · refine ox_y rfl (y_pick_tb (congrArg Value.bool hp31) rfl) ?_
                              exact key _ _ (keep (keep (keep (keep (keep (keep (keep (keep (keep (keep (keep (keep (keep (keep (keep (keep (keep (keep (keep (keep (keep (keep (keep (keep (keep (keep (keep (keep (keep (keep (keep (keep (keep (keep rfl rfl) rfl) rfl) rfl) rfl) rfl) rfl) rfl) rfl) rfl) rfl) rfl) rfl) rfl) rfl) rfl) rfl) rfl) rfl) rfl) rfl) rfl) rfl) rfl) rfl) rfl) rfl) rfl) rfl) rfl) rfl) rfl) rfl) (congrArg Value.bool (and_t hp31)))
                            · rcases bool_cases (!(decide (w64 (y21.1 * p4.fNum) ≤ w64 ((w64 (y21.1 - y27.1)) * p4.fDen)))) with hp32 | hp32
                              · refine ox_skip (sees_f rfl rfl rfl rfl hp32) ?_
                                refine ox_skip (sees_f rfl rfl rfl rfl hp32) ?_
                                refine ox_skip (sees_f rfl rfl rfl rfl hp32) ?_
                                refine ox_y (sees_t rfl rfl rfl rfl hp31) (y_pick_tb (congrArg Value.bool hp32) rfl) ?_
                                exact key _ _ (keep (keep (keep (keep (keep (keep (keep (keep (keep (keep (keep (keep (keep (keep (keep (keep (keep (keep (keep (keep (keep (keep (keep (keep (keep (keep (keep (keep (keep (keep (keep (keep (keep (keep (keep rfl rfl) rfl) rfl) rfl) rfl) rfl) rfl) rfl) rfl) rfl) rfl) rfl) rfl) rfl) rfl) rfl) rfl) rfl) rfl) rfl) rfl) rfl) rfl) rfl) rfl) rfl) rfl) rfl) rfl) rfl) rfl) rfl) rfl) rfl) (congrArg Value.bool (or_t hp32)))
                              · refine ox_y (sees_t rfl rfl rfl rfl hp32) (y_move_int rfl) ?_
                                refine ox_y (sees_t rfl rfl rfl rfl hp32) (y_move_int rfl) ?_
                                refine ox_y (sees_t rfl rfl rfl rfl hp32) (y_geq rfl rfl) ?_
                                refine ox_y (sees_t rfl rfl rfl rfl hp31) (y_pick_fb (congrArg Value.bool hp32) rfl) ?_
                                exact key _ _ (keep (keep (keep (keep (keep (keep (keep (keep (keep (keep (keep (keep (keep (keep (keep (keep (keep (keep (keep (keep (keep (keep (keep (keep (keep (keep (keep (keep (keep (keep (keep (keep (keep (keep (keep rfl rfl) rfl) rfl) rfl) rfl) rfl) rfl) rfl) rfl) rfl) rfl) rfl) rfl) rfl) rfl) rfl) rfl) rfl) rfl) rfl) rfl) rfl) rfl) rfl) rfl) rfl) rfl) rfl) rfl) rfl) rfl) rfl) rfl) rfl) (congrArg Value.bool (or_f hp32)))
                          · refine ox_skip (sees_f rfl rfl rfl rfl hp31) ?_
                            refine ox_skip (sees_f rfl rfl rfl rfl hp31) ?_
                            refine ox_skip (sees_f rfl rfl rfl rfl hp31) ?_
                            refine ox_skip rfl ?_
                            refine ox_skip rfl ?_
                            refine ox_skip rfl ?_
                            refine ox_skip (sees_f rfl rfl rfl rfl hp31) ?_
                            refine ox_y rfl (y_pick_fb (congrArg Value.bool hp31) rfl) ?_
                            exact key _ _ (keep (keep (keep (keep (keep (keep (keep (keep (keep (keep (keep (keep (keep (keep (keep (keep (keep (keep (keep (keep (keep (keep (keep (keep (keep (keep (keep (keep (keep (keep (keep (keep (keep (keep rfl rfl) rfl) rfl) rfl) rfl) rfl) rfl) rfl) rfl) rfl) rfl) rfl) rfl) rfl) rfl) rfl) rfl) rfl) rfl) rfl) rfl) rfl) rfl) rfl) rfl) rfl) rfl) rfl) rfl) rfl) rfl) rfl) rfl) (congrArg Value.bool (and_f hp31)))
                      · rcases bool_cases y3 with hp30 | hp30
                        · refine ox_y (sees_t rfl rfl rfl rfl hp30) (y_move_bool rfl) ?_
                          refine ox_y (sees_t rfl rfl rfl rfl hp30) (y_not rfl) ?_
                          refine ox_y (sees_t rfl rfl rfl rfl hp30) (y_move_bool rfl) ?_
                          refine ox_join 4 (fun tm0 => (upd (upd (upd (upd (upd (upd (upd (upd (upd (upd (upd (upd (upd (upd (upd (upd (upd (upd (upd (upd (upd (upd (upd (upd (upd (upd (upd (upd (upd (upd (upd (upd (upd (upd (upd tm0 0 (.int .i64 p0)) 1 (.int .i64 p1)) 2 (.int .i64 p2)) 3 (.int .i64 p3)) 4 (.agg #[.int .i64 p4.fNum, .int .i64 p4.fDen])) 5 (.agg #[.int .i64 p5.fNum, .int .i64 p5.fDen])) 10 (.pointer (some ⟨b1, 0, none⟩))) 11 (.pointer (some ⟨b2, 0, none⟩))) 12 (.bool false)) 13 (.bool y3)) 14 (.int .i64 y5.1)) 15 (.int .i64 y5.2)) 16 (.int .i64 y7.1)) 17 (.int .i64 y7.2)) 18 (.int .i64 y9.1)) 19 (.int .i64 y9.2)) 20 (.int .i64 y11.1)) 21 (.int .i64 y11.2)) 71 (.bool ((y5.2 != y7.2) || (y9.2 != y11.2)))) 77 (.bool ((y5.2 != 0) || (y9.2 != 0)))) 99 (.bool ((decide (w64 (p4.fNum * p5.fDen) ≤ w64 (p5.fNum * p4.fDen))) && ((decide (y5.1 < y9.1)) || (decide (y11.1 < y7.1)))))) 22 (.int .i64 y19.1)) 23 (.int .i64 y19.2)) 24 (.int .i64 y21.1)) 25 (.int .i64 y21.2)) 119 (.bool ((y19.2 != 0) || (y21.2 != 0)))) 26 (.int .i64 y27.1)) 126 (.bool (decide (0 < p3)))) 27 (.int .i64 y27.1)) 28 (.int .i64 y27.2)) 137 (.bool (y27.2 != 0))) 29 (.bool (decide (w64 (y21.1 * p4.fNum) ≤ w64 (y19.1 * p4.fDen))))) 30 (.bool (decide (w64 (y21.1 * p4.fNum) ≤ w64 ((w64 (y21.1 - y27.1)) * p4.fDen))))) 160 (.bool y3)) 167 (.bool ((!(decide (w64 (y21.1 * p4.fNum) ≤ w64 (y19.1 * p4.fDen)))) || (decide (p1 ≤ y5.1)))))) (fun tm0 => ?_) (fun key => ?_)
                          · refine ox_y rfl (y_pick_tb (congrArg Value.bool hp30) rfl) ?_
                            exact key _ _ (keep (keep (keep (keep (keep (keep (keep (keep (keep (keep (keep (keep (keep (keep (keep (keep (keep (keep (keep (keep (keep (keep (keep (keep (keep (keep (keep (keep (keep (keep (keep (keep (keep (keep rfl rfl) rfl) rfl) rfl) rfl) rfl) rfl) rfl) rfl) rfl) rfl) rfl) rfl) rfl) rfl) rfl) rfl) rfl) rfl) rfl) rfl) rfl) rfl) rfl) rfl) rfl) rfl) rfl) rfl) rfl) rfl) rfl) rfl) (congrArg Value.bool (and_t hp30)))
                          · rcases bool_cases (!(decide (w64 (y21.1 * p4.fNum) ≤ w64 (y19.1 * p4.fDen)))) with hp33 | hp33
                            · refine ox_skip (sees_f rfl rfl rfl rfl hp33) ?_
                              refine ox_skip (sees_f rfl rfl rfl rfl hp33) ?_
                              refine ox_skip (sees_f rfl rfl rfl rfl hp33) ?_
                              refine ox_y (sees_t rfl rfl rfl rfl hp30) (y_pick_tb (congrArg Value.bool hp33) rfl) ?_
                              exact key _ _ (keep (keep (keep (keep (keep (keep (keep (keep (keep (keep (keep (keep (keep (keep (keep (keep (keep (keep (keep (keep (keep (keep (keep (keep (keep (keep (keep (keep (keep (keep (keep (keep (keep (keep (keep rfl rfl) rfl) rfl) rfl) rfl) rfl) rfl) rfl) rfl) rfl) rfl) rfl) rfl) rfl) rfl) rfl) rfl) rfl) rfl) rfl) rfl) rfl) rfl) rfl) rfl) rfl) rfl) rfl) rfl) rfl) rfl) rfl) rfl) rfl) (congrArg Value.bool (or_t hp33)))
                            · refine ox_y (sees_t rfl rfl rfl rfl hp33) (y_move_int rfl) ?_
                              refine ox_y (sees_t rfl rfl rfl rfl hp33) (y_move_int rfl) ?_
                              refine ox_y (sees_t rfl rfl rfl rfl hp33) (y_leq rfl rfl) ?_
                              refine ox_y (sees_t rfl rfl rfl rfl hp30) (y_pick_fb (congrArg Value.bool hp33) rfl) ?_
                              exact key _ _ (keep (keep (keep (keep (keep (keep (keep (keep (keep (keep (keep (keep (keep (keep (keep (keep (keep (keep (keep (keep (keep (keep (keep (keep (keep (keep (keep (keep (keep (keep (keep (keep (keep (keep (keep rfl rfl) rfl) rfl) rfl) rfl) rfl) rfl) rfl) rfl) rfl) rfl) rfl) rfl) rfl) rfl) rfl) rfl) rfl) rfl) rfl) rfl) rfl) rfl) rfl) rfl) rfl) rfl) rfl) rfl) rfl) rfl) rfl) rfl) rfl) (congrArg Value.bool (or_f hp33)))
                        · refine ox_skip (sees_f rfl rfl rfl rfl hp30) ?_
                          refine ox_skip (sees_f rfl rfl rfl rfl hp30) ?_
                          refine ox_skip (sees_f rfl rfl rfl rfl hp30) ?_
                          refine ox_skip rfl ?_
                          refine ox_skip rfl ?_
                          refine ox_skip rfl ?_
                          refine ox_skip (sees_f rfl rfl rfl rfl hp30) ?_
                          refine ox_y rfl (y_pick_fb (congrArg Value.bool hp30) rfl) ?_
                          exact key _ _ (keep (keep (keep (keep (keep (keep (keep (keep (keep (keep (keep (keep (keep (keep (keep (keep (keep (keep (keep (keep (keep (keep (keep (keep (keep (keep (keep (keep (keep (keep (keep (keep (keep (keep rfl rfl) rfl) rfl) rfl) rfl) rfl) rfl) rfl) rfl) rfl) rfl) rfl) rfl) rfl) rfl) rfl) rfl) rfl) rfl) rfl) rfl) rfl) rfl) rfl) rfl) rfl) rfl) rfl) rfl) rfl) rfl) rfl) rfl) (congrArg Value.bool (and_f hp30)))
                  · refine cx_false (congrArg Value.bool hp26) ?_
                    refine cx_skip ?_
                    refine ex_then ?_
                    refine cx_seq ?_
                    refine cx_region ?_
                    refine ox_y rfl (y_move_int rfl) ?_
                    refine ox_y rfl (y_fieldAddr fo_23_1 rfl) ?_
                    refine ox_y rfl (y_load1 0 (v := .int .i64 p4.fDen) sc_3 rfl rfl rfl) ?_
                    refine ox_y rfl (y_mul rfl rfl) ?_
                    refine ox_y rfl (y_move_int rfl) ?_
                    refine ox_y rfl (y_fieldAddr fo_23_0 rfl) ?_
                    refine ox_y rfl (y_load1 0 (v := .int .i64 p4.fNum) sc_3 rfl rfl rfl) ?_
                    refine ox_y rfl (y_mul rfl rfl) ?_
                    refine ox_y rfl (y_geq rfl rfl) ?_
                    refine ox_y rfl (y_assign_bool rfl) ?_
                    refine ox_nil ?_
                    refine ex_then ?_
                    refine cx_seq ?_
                    refine cx_region ?_
                    refine ox_y rfl (y_move_int rfl) ?_
                    refine ox_y rfl (y_move_int rfl) ?_
                    refine ox_y rfl (y_sub rfl rfl) ?_
                    refine ox_y rfl (y_fieldAddr fo_23_1 rfl) ?_
                    refine ox_y rfl (y_load1 0 (v := .int .i64 p4.fDen) sc_3 rfl rfl rfl) ?_
                    refine ox_y rfl (y_mul rfl rfl) ?_
                    refine ox_y rfl (y_move_int rfl) ?_
                    refine ox_y rfl (y_fieldAddr fo_23_0 rfl) ?_
                    refine ox_y rfl (y_load1 0 (v := .int .i64 p4.fNum) sc_3 rfl rfl rfl) ?_
                    refine ox_y rfl (y_mul rfl rfl) ?_
                    refine ox_y rfl (y_geq rfl rfl) ?_
                    refine ox_y rfl (y_assign_bool rfl) ?_
                    refine ox_nil ?_
                    refine ex_then ?_
                    refine cx_seq ?_
                    refine cx_region ?_
                    refine ox_y rfl (y_move_bool rfl) ?_
                    refine ox_y rfl (y_move_bool rfl) ?_
                    refine ox_join 8 (fun tm0 => (upd (upd (upd (upd (upd (upd (upd (upd (upd (upd (upd (upd (upd (upd (upd (upd (upd (upd (upd (upd (upd (upd (upd (upd (upd (upd (upd (upd (upd (upd (upd tm0 0 (.int .i64 p0)) 1 (.int .i64 p1)) 2 (.int .i64 p2)) 3 (.int .i64 p3)) 4 (.agg #[.int .i64 p4.fNum, .int .i64 p4.fDen])) 5 (.agg #[.int .i64 p5.fNum, .int .i64 p5.fDen])) 10 (.pointer (some ⟨b1, 0, none⟩))) 11 (.pointer (some ⟨b2, 0, none⟩))) 12 (.bool false)) 13 (.bool y3)) 14 (.int .i64 y5.1)) 15 (.int .i64 y5.2)) 16 (.int .i64 y7.1)) 17 (.int .i64 y7.2)) 18 (.int .i64 y9.1)) 19 (.int .i64 y9.2)) 20 (.int .i64 y11.1)) 21 (.int .i64 y11.2)) 71 (.bool ((y5.2 != y7.2) || (y9.2 != y11.2)))) 77 (.bool ((y5.2 != 0) || (y9.2 != 0)))) 99 (.bool ((decide (w64 (p4.fNum * p5.fDen) ≤ w64 (p5.fNum * p4.fDen))) && ((decide (y5.1 < y9.1)) || (decide (y11.1 < y7.1)))))) 22 (.int .i64 y19.1)) 23 (.int .i64 y19.2)) 24 (.int .i64 y21.1)) 25 (.int .i64 y21.2)) 119 (.bool ((y19.2 != 0) || (y21.2 != 0)))) 26 (.int .i64 0)) 126 (.bool (decide (0 < p3)))) 29 (.bool (decide (w64 (y21.1 * p4.fNum) ≤ w64 (y19.1 * p4.fDen))))) 30 (.bool (decide (w64 (y21.1 * p4.fNum) ≤ w64 ((w64 (y21.1 - 0)) * p4.fDen))))) 168 (.bool (y3 && ((!(decide (w64 (y21.1 * p4.fNum) ≤ w64 (y19.1 * p4.fDen)))) || (decide (p1 ≤ y5.1))))))) (fun tm0 => ?_) (fun key => ?_)
                    · refine ox_y rfl (y_move_bool rfl) ?_
                      refine ox_join 8 (fun tm0 => (upd (upd (upd (upd (upd (upd (upd (upd (upd (upd (upd (upd (upd (upd (upd (upd (upd (upd (upd (upd (upd (upd (upd (upd (upd (upd (upd (upd (upd (upd (upd tm0 0 (.int .i64 p0)) 1 (.int .i64 p1)) 2 (.int .i64 p2)) 3 (.int .i64 p3)) 4 (.agg #[.int .i64 p4.fNum, .int .i64 p4.fDen])) 5 (.agg #[.int .i64 p5.fNum, .int .i64 p5.fDen])) 10 (.pointer (some ⟨b1, 0, none⟩))) 11 (.pointer (some ⟨b2, 0, none⟩))) 12 (.bool false)) 13 (.bool y3)) 14 (.int .i64 y5.1)) 15 (.int .i64 y5.2)) 16 (.int .i64 y7.1)) 17 (.int .i64 y7.2)) 18 (.int .i64 y9.1)) 19 (.int .i64 y9.2)) 20 (.int .i64 y11.1)) 21 (.int .i64 y11.2)) 71 (.bool ((y5.2 != y7.2) || (y9.2 != y11.2)))) 77 (.bool ((y5.2 != 0) || (y9.2 != 0)))) 99 (.bool ((decide (w64 (p4.fNum * p5.fDen) ≤ w64 (p5.fNum * p4.fDen))) && ((decide (y5.1 < y9.1)) || (decide (y11.1 < y7.1)))))) 22 (.int .i64 y19.1)) 23 (.int .i64 y19.2)) 24 (.int .i64 y21.1)) 25 (.int .i64 y21.2)) 119 (.bool ((y19.2 != 0) || (y21.2 != 0)))) 26 (.int .i64 0)) 126 (.bool (decide (0 < p3)))) 29 (.bool (decide (w64 (y21.1 * p4.fNum) ≤ w64 (y19.1 * p4.fDen))))) 30 (.bool (decide (w64 (y21.1 * p4.fNum) ≤ w64 ((w64 (y21.1 - 0)) * p4.fDen))))) 177 (.bool ((y3 && ((!(decide (w64 (y21.1 * p4.fNum) ≤ w64 (y19.1 * p4.fDen)))) || (decide (p1 ≤ y5.1)))) && ((!(decide (w64 (y21.1 * p4.fNum) ≤ w64 ((w64 (y21.1 - 0)) * p4.fDen)))) || (decide (y7.1 ≤ p1))))))) (fun tm0 => ?_) (fun key => ?_)
                      · refine ox_y rfl (y_assign_bool rfl) ?_
                        refine ox_nil ?_
                        refine ex_then ?_
                        refine cx_ret ?_
                        obtain rfl := Option.some.inj h
                        exact ex_res1 (.inl rfl) rfl (resV_tmp (v := .bool ((y3 && ((!(decide (w64 (y21.1 * p4.fNum) ≤ w64 (y19.1 * p4.fDen)))) || (decide (p1 ≤ y5.1)))) && ((!(decide (w64 (y21.1 * p4.fNum) ≤ w64 ((w64 (y21.1 - 0)) * p4.fDen)))) || (decide (y7.1 ≤ p1))))) rfl) (fun W2 hW2 => ⟨rfl, hW2.none⟩)
                      · rcases bool_cases (y3 && ((!(decide (w64 (y21.1 * p4.fNum) ≤ w64 (y19.1 * p4.fDen)))) || (decide (p1 ≤ y5.1)))) with hp35 | hp35
                        · refine ox_y (sees_t rfl rfl rfl rfl hp35) (y_move_bool rfl) ?_
                          refine ox_y (sees_t rfl rfl rfl rfl hp35) (y_not rfl) ?_
                          refine ox_y (sees_t rfl rfl rfl rfl hp35) (y_move_bool rfl) ?_
                          refine ox_join 4 (fun tm0 => (upd (upd (upd (upd (upd (upd (upd (upd (upd (upd (upd (upd (upd (upd (upd (upd (upd (upd (upd (upd (upd (upd (upd (upd (upd (upd (upd (upd (upd (upd (upd (upd tm0 0 (.int .i64 p0)) 1 (.int .i64 p1)) 2 (.int .i64 p2)) 3 (.int .i64 p3)) 4 (.agg #[.int .i64 p4.fNum, .int .i64 p4.fDen])) 5 (.agg #[.int .i64 p5.fNum, .int .i64 p5.fDen])) 10 (.pointer (some ⟨b1, 0, none⟩))) 11 (.pointer (some ⟨b2, 0, none⟩))) 12 (.bool false)) 13 (.bool y3)) 14 (.int .i64 y5.1)) 15 (.int .i64 y5.2)) 16 (.int .i64 y7.1)) 17 (.int .i64 y7.2)) 18 (.int .i64 y9.1)) 19 (.int .i64 y9.2)) 20 (.int .i64 y11.1)) 21 (.int .i64 y11.2)) 71 (.bool ((y5.2 != y7.2) || (y9.2 != y11.2)))) 77 (.bool ((y5.2 != 0) || (y9.2 != 0)))) 99 (.bool ((decide (w64 (p4.fNum * p5.fDen) ≤ w64 (p5.fNum * p4.fDen))) && ((decide (y5.1 < y9.1)) || (decide (y11.1 < y7.1)))))) 22 (.int .i64 y19.1)) 23 (.int .i64 y19.2)) 24 (.int .i64 y21.1)) 25 (.int .i64 y21.2)) 119 (.bool ((y19.2 != 0) || (y21.2 != 0)))) 26 (.int .i64 0)) 126 (.bool (decide (0 < p3)))) 29 (.bool (decide (w64 (y21.1 * p4.fNum) ≤ w64 (y19.1 * p4.fDen))))) 30 (.bool (decide (w64 (y21.1 * p4.fNum) ≤ w64 ((w64 (y21.1 - 0)) * p4.fDen))))) 169 (.bool (y3 && ((!(decide (w64 (y21.1 * p4.fNum) ≤ w64 (y19.1 * p4.fDen)))) || (decide (p1 ≤ y5.1)))))) 176 (.bool ((!(decide (w64 (y21.1 * p4.fNum) ≤ w64 ((w64 (y21.1 - 0)) * p4.fDen)))) || (decide (y7.1 ≤ p1)))))) (fun tm0 => ?_) (fun key => ?_)
                          · refine ox_y rfl (y_pick_tb (congrArg Value.bool hp35) rfl) ?_
                            exact key _ _ (keep (keep (keep (keep (keep (keep (keep (keep (keep (keep (keep (keep (keep (keep (keep (keep (keep (keep (keep (keep (keep (keep (keep (keep (keep (keep (keep (keep (keep (keep (keep rfl rfl) rfl) rfl) rfl) rfl) rfl) rfl) rfl) rfl) rfl) rfl) rfl) rfl) rfl) rfl) rfl) rfl) rfl) rfl) rfl) rfl) rfl) rfl) rfl) rfl) rfl) rfl) rfl) rfl) rfl) (congrArg Value.bool (and_t hp35)))
                          · rcases bool_cases (!(decide (w64 (y21.1 * p4.fNum) ≤ w64 ((w64 (y21.1 - 0)) * p4.fDen)))) with hp36 | hp36
                            · refine ox_skip (sees_f rfl rfl rfl rfl hp36) ?_
                              refine ox_skip (sees_f rfl rfl rfl rfl hp36) ?_
                              refine ox_skip (sees_f rfl rfl rfl rfl hp36) ?_
                              refine ox_y (sees_t rfl rfl rfl rfl hp35) (y_pick_tb (congrArg Value.bool hp36) rfl) ?_
                              exact key _ _ (keep (keep (keep (keep (keep (keep (keep (keep (keep (keep (keep (keep (keep (keep (keep (keep (keep (keep (keep (keep (keep (keep (keep (keep (keep (keep (keep (keep (keep (keep (keep (keep rfl rfl) rfl) rfl) rfl) rfl) rfl) rfl) rfl) rfl) rfl) rfl) rfl) rfl) rfl) rfl) rfl) rfl) rfl) rfl) rfl) rfl) rfl) rfl) rfl) rfl) rfl) rfl) rfl) rfl) rfl) rfl) (congrArg Value.bool (or_t hp36)))
                            · refine ox_y (sees_t rfl rfl rfl rfl hp36) (y_move_int rfl) ?_
                              refine ox_y (sees_t rfl rfl rfl rfl hp36) (y_move_int rfl) ?_
                              refine ox_y (sees_t rfl rfl rfl rfl hp36) (y_geq rfl rfl) ?_
                              refine ox_y (sees_t rfl rfl rfl rfl hp35) (y_pick_fb (congrArg Value.bool hp36) rfl) ?_
                              exact key _ _ (keep (keep (keep (keep (keep (keep (keep (keep (keep (keep (keep (keep (keep (keep (keep (keep (keep (keep (keep (keep (keep (keep (keep (keep (keep (keep (keep (keep (keep (keep (keep (keep rfl rfl) rfl) rfl) rfl) rfl) rfl) rfl) rfl) rfl) rfl) rfl) rfl) rfl) rfl) rfl) rfl) rfl) rfl) rfl) rfl) rfl) rfl) rfl) rfl) rfl) rfl) rfl) rfl) rfl) rfl) rfl) (congrArg Value.bool (or_f hp36)))
                        · refine ox_skip (sees_f rfl rfl rfl rfl hp35) ?_
                          refine ox_skip (sees_f rfl rfl rfl rfl hp35) ?_
                          refine ox_skip (sees_f rfl rfl rfl rfl hp35) ?_
                          refine ox_skip rfl ?_
                          refine ox_skip rfl ?_
                          refine ox_skip rfl ?_
                          refine ox_skip (sees_f rfl rfl rfl rfl hp35) ?_
                          refine ox_y rfl (y_pick_fb (congrArg Value.bool hp35) rfl) ?_
                          exact key _ _ (keep (keep (keep (keep (keep (keep (keep (keep (keep (keep (keep (keep (keep (keep (keep (keep (keep (keep (keep (keep (keep (keep (keep (keep (keep (keep (keep (keep (keep (keep (keep rfl rfl) rfl) rfl) rfl) rfl) rfl) rfl) rfl) rfl) rfl) rfl) rfl) rfl) rfl) rfl) rfl) rfl) rfl) rfl) rfl) rfl) rfl) rfl) rfl) rfl) rfl) rfl) rfl) rfl) rfl) (congrArg Value.bool (and_f hp35)))
                    · rcases bool_cases y3 with hp34 | hp34
                      · refine ox_y (sees_t rfl rfl rfl rfl hp34) (y_move_bool rfl) ?_
                        refine ox_y (sees_t rfl rfl rfl rfl hp34) (y_not rfl) ?_
                        refine ox_y (sees_t rfl rfl rfl rfl hp34) (y_move_bool rfl) ?_
                        refine ox_join 4 (fun tm0 => (upd (upd (upd (upd (upd (upd (upd (upd (upd (upd (upd (upd (upd (upd (upd (upd (upd (upd (upd (upd (upd (upd (upd (upd (upd (upd (upd (upd (upd (upd (upd (upd tm0 0 (.int .i64 p0)) 1 (.int .i64 p1)) 2 (.int .i64 p2)) 3 (.int .i64 p3)) 4 (.agg #[.int .i64 p4.fNum, .int .i64 p4.fDen])) 5 (.agg #[.int .i64 p5.fNum, .int .i64 p5.fDen])) 10 (.pointer (some ⟨b1, 0, none⟩))) 11 (.pointer (some ⟨b2, 0, none⟩))) 12 (.bool false)) 13 (.bool y3)) 14 (.int .i64 y5.1)) 15 (.int .i64 y5.2)) 16 (.int .i64 y7.1)) 17 (.int .i64 y7.2)) 18 (.int .i64 y9.1)) 19 (.int .i64 y9.2)) 20 (.int .i64 y11.1)) 21 (.int .i64 y11.2)) 71 (.bool ((y5.2 != y7.2) || (y9.2 != y11.2)))) 77 (.bool ((y5.2 != 0) || (y9.2 != 0)))) 99 (.bool ((decide (w64 (p4.fNum * p5.fDen) ≤ w64 (p5.fNum * p4.fDen))) && ((decide (y5.1 < y9.1)) || (decide (y11.1 < y7.1)))))) 22 (.int .i64 y19.1)) 23 (.int .i64 y19.2)) 24 (.int .i64 y21.1)) 25 (.int .i64 y21.2)) 119 (.bool ((y19.2 != 0) || (y21.2 != 0)))) 26 (.int .i64 0)) 126 (.bool (decide (0 < p3)))) 29 (.bool (decide (w64 (y21.1 * p4.fNum) ≤ w64 (y19.1 * p4.fDen))))) 30 (.bool (decide (w64 (y21.1 * p4.fNum) ≤ w64 ((w64 (y21.1 - 0)) * p4.fDen))))) 160 (.bool y3)) 167 (.bool ((!(decide (w64 (y21.1 * p4.fNum) ≤ w64 (y19.1 * p4.fDen)))) || (decide (p1 ≤ y5.1)))))) (fun tm0 => ?_) (fun key => ?_)
                        · refine ox_y rfl (y_pick_tb (congrArg Value.bool hp34) rfl) ?_
                          exact key _ _ (keep (keep (keep (keep (keep (keep (keep (keep (keep (keep (keep (keep (keep (keep (keep (keep (keep (keep (keep (keep (keep (keep (keep (keep (keep (keep (keep (keep (keep (keep (keep rfl rfl) rfl) rfl) rfl) rfl) rfl) rfl) rfl) rfl) rfl) rfl) rfl) rfl) rfl) rfl) rfl) rfl) rfl) rfl) rfl) rfl) rfl) rfl) rfl) rfl) rfl) rfl) rfl) rfl) rfl) (congrArg Value.bool (and_t hp34)))
                        · rcases bool_cases (!(decide (w64 (y21.1 * p4.fNum) ≤ w64 (y19.1 * p4.fDen)))) with hp37 | hp37
                          · refine ox_skip (sees_f rfl rfl rfl rfl hp37) ?_
                            refine ox_skip (sees_f rfl rfl rfl rfl hp37) ?_
                            refine ox_skip (sees_f rfl rfl rfl rfl hp37) ?_
                            refine ox_y (sees_t rfl rfl rfl rfl hp34) (y_pick_tb (congrArg Value.bool hp37) rfl) ?_
                            exact key _ _ (keep (keep (keep (keep (keep (keep (keep (keep (keep (keep (keep (keep (keep (keep (keep (keep (keep (keep (keep (keep (keep (keep (keep (keep (keep (keep (keep (keep (keep (keep (keep (keep rfl rfl) rfl) rfl) rfl) rfl) rfl) rfl) rfl) rfl) rfl) rfl) rfl) rfl) rfl) rfl) rfl) rfl) rfl) rfl) rfl) rfl) rfl) rfl) rfl) rfl) rfl) rfl) rfl) rfl) rfl) rfl) (congrArg Value.bool (or_t hp37)))
                          · refine ox_y (sees_t rfl rfl rfl rfl hp37) (y_move_int rfl) ?_
                            refine ox_y (sees_t rfl rfl rfl rfl hp37) (y_move_int rfl) ?_
                            refine ox_y (sees_t rfl rfl rfl rfl hp37) (y_leq rfl rfl) ?_
                            refine ox_y (sees_t rfl rfl rfl rfl hp34) (y_pick_fb (congrArg Value.bool hp37) rfl) ?_
                            exact key _ _ (keep (keep (keep (keep (keep (keep (keep (keep (keep (keep (keep (keep (keep (keep (keep (keep (keep (keep (keep (keep (keep (keep (keep (keep (keep (keep (keep (keep (keep (keep (keep (keep rfl rfl) rfl) rfl) rfl) rfl) rfl) rfl) rfl) rfl) rfl) rfl) rfl) rfl) rfl) rfl) rfl) rfl) rfl) rfl) rfl) rfl) rfl) rfl) rfl) rfl) rfl) rfl) rfl) rfl) rfl) rfl) (congrArg Value.bool (or_f hp37)))
                      · refine ox_skip (sees_f rfl rfl rfl rfl hp34) ?_
                        refine ox_skip (sees_f rfl rfl rfl rfl hp34) ?_
                        refine ox_skip (sees_f rfl rfl rfl rfl hp34) ?_
                        refine ox_skip rfl ?_
                        refine ox_skip rfl ?_
                        refine ox_skip rfl ?_
                        refine ox_skip (sees_f rfl rfl rfl rfl hp34) ?_
                        refine ox_y rfl (y_pick_fb (congrArg Value.bool hp34) rfl) ?_
                        exact key _ _ (keep (keep (keep (keep (keep (keep (keep (keep (keep (keep (keep (keep (keep (keep (keep (keep (keep (keep (keep (keep (keep (keep (keep (keep (keep (keep (keep (keep (keep (keep (keep rfl rfl) rfl) rfl) rfl) rfl) rfl) rfl) rfl) rfl) rfl) rfl) rfl) rfl) rfl) rfl) rfl) rfl) rfl) rfl) rfl) rfl) rfl) rfl) rfl) rfl) rfl) rfl) rfl) rfl) rfl) (congrArg Value.bool (and_f hp34)))
              · rcases bool_cases (y19.2 != 0) with hp23 | hp23
                · refine ox_skip (sees_f rfl rfl rfl rfl hp23) ?_
                  refine ox_skip (sees_f rfl rfl rfl rfl hp23) ?_
                  refine ox_y rfl (y_pick_tb (congrArg Value.bool hp23) rfl) ?_
                  exact key _ _ (keep (keep (keep (keep (keep (keep (keep (keep (keep (keep (keep (keep (keep (keep (keep (keep (keep (keep (keep (keep (keep (keep (keep (keep (keep (keep rfl rfl) rfl) rfl) rfl) rfl) rfl) rfl) rfl) rfl) rfl) rfl) rfl) rfl) rfl) rfl) rfl) rfl) rfl) rfl) rfl) rfl) rfl) rfl) rfl) rfl) (congrArg Value.bool (or_t hp23)))
                · refine ox_y (sees_t rfl rfl rfl rfl hp23) (y_move_int rfl) ?_
                  refine ox_y (sees_t rfl rfl rfl rfl hp23) (y_neq rfl rfl) ?_
                  refine ox_y rfl (y_pick_fb (congrArg Value.bool hp23) rfl) ?_
                  exact key _ _ (keep (keep (keep (keep (keep (keep (keep (keep (keep (keep (keep (keep (keep (keep (keep (keep (keep (keep (keep (keep (keep (keep (keep (keep (keep (keep rfl rfl) rfl) rfl) rfl) rfl) rfl) rfl) rfl) rfl) rfl) rfl) rfl) rfl) rfl) rfl) rfl) rfl) rfl) rfl) rfl) rfl) rfl) rfl) rfl) rfl) (congrArg Value.bool (or_f hp23)))
          · rcases bool_cases (decide (w64 (p4.fNum * p5.fDen) ≤ w64 (p5.fNum * p4.fDen))) with hp17 | hp17
            · refine ox_y (sees_t rfl rfl rfl rfl hp17) (y_move_int rfl) ?_
              refine ox_y (sees_t rfl rfl rfl rfl hp17) (y_move_int rfl) ?_
              refine ox_y (sees_t rfl rfl rfl rfl hp17) (y_gtr rfl rfl) ?_
              refine ox_y (sees_t rfl rfl rfl rfl hp17) (y_move_bool rfl) ?_
              refine ox_join 4 (fun tm0 => (upd (upd (upd (upd (upd (upd (upd (upd (upd (upd (upd (upd (upd (upd (upd (upd (upd (upd (upd (upd (upd (upd tm0 0 (.int .i64 p0)) 1 (.int .i64 p1)) 2 (.int .i64 p2)) 3 (.int .i64 p3)) 4 (.agg #[.int .i64 p4.fNum, .int .i64 p4.fDen])) 5 (.agg #[.int .i64 p5.fNum, .int .i64 p5.fDen])) 10 (.pointer (some ⟨b1, 0, none⟩))) 11 (.pointer (some ⟨b2, 0, none⟩))) 12 (.bool false)) 13 (.bool y3)) 14 (.int .i64 y5.1)) 15 (.int .i64 y5.2)) 16 (.int .i64 y7.1)) 17 (.int .i64 y7.2)) 18 (.int .i64 y9.1)) 19 (.int .i64 y9.2)) 20 (.int .i64 y11.1)) 21 (.int .i64 y11.2)) 71 (.bool ((y5.2 != y7.2) || (y9.2 != y11.2)))) 77 (.bool ((y5.2 != 0) || (y9.2 != 0)))) 90 (.bool (decide (w64 (p4.fNum * p5.fDen) ≤ w64 (p5.fNum * p4.fDen))))) 98 (.bool ((decide (y5.1 < y9.1)) || (decide (y11.1 < y7.1)))))) (fun tm0 => ?_) (fun key => ?_)
              · refine ox_y rfl (y_pick_tb (congrArg Value.bool hp17) rfl) ?_
                exact key _ _ (keep (keep (keep (keep (keep (keep (keep (keep (keep (keep (keep (keep (keep (keep (keep (keep (keep (keep (keep (keep (keep rfl rfl) rfl) rfl) rfl) rfl) rfl) rfl) rfl) rfl) rfl) rfl) rfl) rfl) rfl) rfl) rfl) rfl) rfl) rfl) rfl) (congrArg Value.bool (and_t hp17)))
              · rcases bool_cases (decide (y5.1 < y9.1)) with hp38 | hp38
                · refine ox_skip (sees_f rfl rfl rfl rfl hp38) ?_
                  refine ox_skip (sees_f rfl rfl rfl rfl hp38) ?_
                  refine ox_skip (sees_f rfl rfl rfl rfl hp38) ?_
                  refine ox_y (sees_t rfl rfl rfl rfl hp17) (y_pick_tb (congrArg Value.bool hp38) rfl) ?_
                  exact key _ _ (keep (keep (keep (keep (keep (keep (keep (keep (keep (keep (keep (keep (keep (keep (keep (keep (keep (keep (keep (keep (keep (keep rfl rfl) rfl) rfl) rfl) rfl) rfl) rfl) rfl) rfl) rfl) rfl) rfl) rfl) rfl) rfl) rfl) rfl) rfl) rfl) rfl) rfl) (congrArg Value.bool (or_t hp38)))
                · refine ox_y (sees_t rfl rfl rfl rfl hp38) (y_move_int rfl) ?_
                  refine ox_y (sees_t rfl rfl rfl rfl hp38) (y_move_int rfl) ?_
                  refine ox_y (sees_t rfl rfl rfl rfl hp38) (y_lss rfl rfl) ?_
                  refine ox_y (sees_t rfl rfl rfl rfl hp17) (y_pick_fb (congrArg Value.bool hp38) rfl) ?_
                  exact key _ _ (keep (keep (keep (keep (keep (keep (keep (keep (keep (keep (keep (keep (keep (keep (keep (keep (keep (keep (keep (keep (keep (keep rfl rfl) rfl) rfl) rfl) rfl) rfl) rfl) rfl) rfl) rfl) rfl) rfl) rfl) rfl) rfl) rfl) rfl) rfl) rfl) rfl) rfl) (congrArg Value.bool (or_f hp38)))
            · refine ox_skip (sees_f rfl rfl rfl rfl hp17) ?_
              refine ox_skip (sees_f rfl rfl rfl rfl hp17) ?_
              refine ox_skip (sees_f rfl rfl rfl rfl hp17) ?_
              refine ox_skip (sees_f rfl rfl rfl rfl hp17) ?_
              refine ox_skip rfl ?_
              refine ox_skip rfl ?_
              refine ox_skip rfl ?_
              refine ox_skip (sees_f rfl rfl rfl rfl hp17) ?_
              refine ox_y rfl (y_pick_fb (congrArg Value.bool hp17) rfl) ?_
              exact key _ _ (keep (keep (keep (keep (keep (keep (keep (keep (keep (keep (keep (keep (keep (keep (keep (keep (keep (keep (keep (keep (keep rfl rfl) rfl) rfl) rfl) rfl) rfl) rfl) rfl) rfl) rfl) rfl) rfl) rfl) rfl) rfl) rfl) rfl) rfl) rfl) rfl) (congrArg Value.bool (and_f hp17)))
      · rcases bool_cases (y5.2 != 0) with hp15 | hp15
        · refine ox_skip (sees_f rfl rfl rfl rfl hp15) ?_
          refine ox_skip (sees_f rfl rfl rfl rfl hp15) ?_
          refine ox_y rfl (y_pick_tb (congrArg Value.bool hp15) rfl) ?_
          exact key _ _ (keep (keep (keep (keep (keep (keep (keep (keep (keep (keep (keep (keep (keep (keep (keep (keep (keep (keep (keep (keep rfl rfl) rfl) rfl) rfl) rfl) rfl) rfl) rfl) rfl) rfl) rfl) rfl) rfl) rfl) rfl) rfl) rfl) rfl) rfl) (congrArg Value.bool (or_t hp15)))
        · refine ox_y (sees_t rfl rfl rfl rfl hp15) (y_move_int rfl) ?_
          refine ox_y (sees_t rfl rfl rfl rfl hp15) (y_neq rfl rfl) ?_
          refine ox_y rfl (y_pick_fb (congrArg Value.bool hp15) rfl) ?_
          exact key _ _ (keep (keep (keep (keep (keep (keep (keep (keep (keep (keep (keep (keep (keep (keep (keep (keep (keep (keep (keep (keep rfl rfl) rfl) rfl) rfl) rfl) rfl) rfl) rfl) rfl) rfl) rfl) rfl) rfl) rfl) rfl) rfl) rfl) rfl) rfl) (congrArg Value.bool (or_f hp15)))
  · rcases bool_cases (y5.2 != y7.2) with hp13 | hp13
    · refine ox_skip (sees_f rfl rfl rfl rfl hp13) ?_
      refine ox_skip (sees_f rfl rfl rfl rfl hp13) ?_
      refine ox_skip (sees_f rfl rfl rfl rfl hp13) ?_
      refine ox_y rfl (y_pick_tb (congrArg Value.bool hp13) rfl) ?_
      exact key _ _ (keep (keep (keep (keep (keep (keep (keep (keep (keep (keep (keep (keep (keep (keep (keep (keep (keep (keep (keep rfl rfl) rfl) rfl) rfl) rfl) rfl) rfl) rfl) rfl) rfl) rfl) rfl) rfl) rfl) rfl) rfl) rfl) rfl) (congrArg Value.bool (or_t hp13)))
    · refine ox_y (sees_t rfl rfl rfl rfl hp13) (y_move_int rfl) ?_
      refine ox_y (sees_t rfl rfl rfl rfl hp13) (y_move_int rfl) ?_
      refine ox_y (sees_t rfl rfl rfl rfl hp13) (y_neq rfl rfl) ?_
      refine ox_y rfl (y_pick_fb (congrArg Value.bool hp13) rfl) ?_
      exact key _ _ (keep (keep (keep (keep (keep (keep (keep (keep (keep (keep (keep (keep (keep (keep (keep (keep (keep (keep (keep rfl rfl) rfl) rfl) rfl) rfl) rfl) rfl) rfl) rfl) rfl) rfl) rfl) rfl) rfl) rfl) rfl) rfl) rfl) (congrArg Value.bool (or_f hp13)))

end Go.Proofs.Ytepfgdfahinpkaa
