/- The calls hand back what the plain functions say. -/
import Derived.Test.YtepfgdfahinpkaaF
import Derived.Test.YtepfgdfahinpkaaC0
import Derived.Test.YtepfgdfahinpkaaC3
import Derived.Test.YtepfgdfahinpkaaC9
set_option linter.unusedVariables false
set_option maxHeartbeats 4000000
namespace Go.Proofs.Ytepfgdfahinpkaa
open Go.RowKit (Below)
attribute [local irreducible] OX QX CX EX OpY Calls CallsIn

/-! calx/calxlaw03.cross -/
set_option maxRecDepth 100000 in
theorem calxlaw03_cross_ok (p0_a : TRatio) (p1_b : TRatio) (res : Bool) (h : calxlaw03_cross p0_a p1_b = some res) (W : World)  :
    Calls Try.prog 117 [.agg #[.int .i64 p0_a.fNum, .int .i64 p0_a.fDen], .agg #[.int .i64 p1_b.fNum, .int .i64 p1_b.fDen]].toArray W fun e W2 => e = .returned (.bool res) ∧ Ext W W2 [] := by
  unfold calxlaw03_cross at h
  refine calls_enter (m := 24) Try.func117 rfl rfl (Nat.le_of_ble_eq_true rfl) ?_
  refine cx_seq ?_
  refine cx_region ?_
  refine ox_box [.int .i64 p0_a.fNum, .int .i64 p0_a.fDen] rfl rfl rfl (fun b1 => ?_)
  refine ox_box [.int .i64 p1_b.fNum, .int .i64 p1_b.fDen] rfl rfl rfl (fun b2 => ?_)
  refine ox_y rfl (y_assign_bool rfl) ?_
  refine ox_nil ?_
  refine ex_then ?_
  refine cx_seq ?_
  refine cx_seq ?_
  refine cx_region ?_
  refine ox_y rfl (y_fieldAddr fo_23_1 rfl) ?_
  refine ox_y rfl (y_load1 0 (v := .int .i64 p0_a.fDen) sc_3 rfl rfl rfl) ?_
  refine ox_y rfl (y_gtr rfl rfl) ?_
  refine ox_y rfl (y_move_bool rfl) ?_
  refine ox_join 4 (fun tm0 => (upd (upd (upd (upd (upd (upd tm0 0 (.agg #[.int .i64 p0_a.fNum, .int .i64 p0_a.fDen])) 1 (.agg #[.int .i64 p1_b.fNum, .int .i64 p1_b.fDen])) 2 (.pointer (some ⟨b1, 0, none⟩))) 3 (.pointer (some ⟨b2, 0, none⟩))) 4 (.bool false)) 12 (.bool ((decide (2147483648 < p0_a.fDen)) || (decide (2147483648 < p1_b.fDen)))))) (fun tm0 => ?_) (fun key => ?_)
  · refine ox_nil ?_
    refine ex_then ?_
    rcases ite_some h with ⟨hp4, h⟩ | ⟨hp4, h⟩
    · refine cx_true (congrArg Value.bool hp4) ?_
      refine cx_seq ?_
      refine cx_region ?_
      refine ox_y rfl (y_assign_bool rfl) ?_
      refine ox_nil ?_
      refine ex_then ?_
      refine cx_ret ?_
      refine ex_then_ret ?_
      obtain rfl := Option.some.inj h
      exact ex_res1 (.inl rfl) rfl (resV_tmp (v := .bool true) rfl) (fun W2 hW2 => ⟨rfl, hW2.none⟩)
    · refine cx_false (congrArg Value.bool hp4) ?_
      refine cx_skip ?_
      refine ex_then ?_
      refine cx_seq ?_
      refine cx_region ?_
      refine ox_y rfl (y_fieldAddr fo_23_0 rfl) ?_
      refine ox_y rfl (y_load1 0 (v := .int .i64 p0_a.fNum) sc_3 rfl rfl rfl) ?_
      refine ox_y rfl (y_fieldAddr fo_23_1 rfl) ?_
      refine ox_y rfl (y_load1 1 (v := .int .i64 p1_b.fDen) sc_3 rfl rfl rfl) ?_
      refine ox_y rfl (y_mul rfl rfl) ?_
      refine ox_y rfl (y_fieldAddr fo_23_0 rfl) ?_
      refine ox_y rfl (y_load1 1 (v := .int .i64 p1_b.fNum) sc_3 rfl rfl rfl) ?_
      refine ox_y rfl (y_fieldAddr fo_23_1 rfl) ?_
      refine ox_y rfl (y_load1 0 (v := .int .i64 p0_a.fDen) sc_3 rfl rfl rfl) ?_
      refine ox_y rfl (y_mul rfl rfl) ?_
      refine ox_y rfl (y_leq rfl rfl) ?_
      refine ox_y rfl (y_assign_bool rfl) ?_
      refine ox_nil ?_
      refine ex_then ?_
      refine cx_ret ?_
      obtain rfl := Option.some.inj h
      exact ex_res1 (.inl rfl) rfl (resV_tmp (v := .bool (decide (w64 (p0_a.fNum * p1_b.fDen) ≤ w64 (p1_b.fNum * p0_a.fDen)))) rfl) (fun W2 hW2 => ⟨rfl, hW2.none⟩)
  · rcases bool_cases (decide (2147483648 < p0_a.fDen)) with hp3 | hp3
    · refine ox_skip (sees_f rfl rfl rfl rfl hp3) ?_
      refine ox_skip (sees_f rfl rfl rfl rfl hp3) ?_
      refine ox_skip (sees_f rfl rfl rfl rfl hp3) ?_
      refine ox_y rfl (y_pick_tb (congrArg Value.bool hp3) rfl) ?_
      exact key _ _ (keep (keep (keep (keep (keep (keep rfl rfl) rfl) rfl) rfl) rfl) (congrArg Value.bool (or_t hp3)))
    · refine ox_y (sees_t rfl rfl rfl rfl hp3) (y_fieldAddr fo_23_1 rfl) ?_
      refine ox_y (sees_t rfl rfl rfl rfl hp3) (y_load1 1 (v := .int .i64 p1_b.fDen) sc_3 rfl rfl rfl) ?_
      refine ox_y (sees_t rfl rfl rfl rfl hp3) (y_gtr rfl rfl) ?_
      refine ox_y rfl (y_pick_fb (congrArg Value.bool hp3) rfl) ?_
      exact key _ _ (keep (keep (keep (keep (keep (keep rfl rfl) rfl) rfl) rfl) rfl) (congrArg Value.bool (or_f hp3)))

/-! calx/calxlaw03.tells -/
set_option maxRecDepth 100000 in
theorem calxlaw03_tells_ok (p0_barrows : Int) (p1_good : Int) (p2_bad : Int) (p3_accept : TRatio) (p4_refuse : TRatio) (p5_p : TTrial) (res : Bool) (h : calxlaw03_tells p0_barrows p1_good p2_bad p3_accept p4_refuse p5_p = some res) (W : World)  :
    Calls Try.prog 60 [.int .i64 p0_barrows, .int .i64 p1_good, .int .i64 p2_bad, .agg #[.int .i64 p3_accept.fNum, .int .i64 p3_accept.fDen], .agg #[.int .i64 p4_refuse.fNum, .int .i64 p4_refuse.fDen], .agg #[.int .i64 p5_p.fSample, .int .i64 p5_p.fAccept]].toArray W fun e W2 => e = .returned (.bool res) ∧ Ext W W2 [] := by
  unfold calxlaw03_tells at h
  refine calls_enter (m := 47) Try.func60 rfl rfl (Nat.le_of_ble_eq_true rfl) ?_
  refine cx_seq ?_
  refine cx_region ?_
  refine ox_box [.int .i64 p3_accept.fNum, .int .i64 p3_accept.fDen] rfl rfl rfl (fun b1 => ?_)
  refine ox_box [.int .i64 p4_refuse.fNum, .int .i64 p4_refuse.fDen] rfl rfl rfl (fun b2 => ?_)
  refine ox_box [.int .i64 p5_p.fSample, .int .i64 p5_p.fAccept] rfl rfl rfl (fun b3 => ?_)
  refine ox_y rfl (y_assign_bool rfl) ?_
  refine ox_nil ?_
  refine ex_then ?_
  refine cx_seq ?_
  refine cx_region ?_
  refine ox_y rfl (y_move_int rfl) ?_
  refine ox_y rfl (y_move_int rfl) ?_
  refine ox_y rfl (y_loadN 2 [.int .i64 p5_p.fSample, .int .i64 p5_p.fAccept] ag_26 rfl rfl rfl) ?_
  obtain ⟨y4, hy5, h⟩ := bind_some h
  refine ox_y rfl (y_call [.int .i64 p0_barrows, .int .i64 p1_good, .agg #[.int .i64 p5_p.fSample, .int .i64 p5_p.fAccept]] go_64 rfl (fun W2 hW2 => sample_Pass_ok p0_barrows p1_good p5_p y4 hy5 W2 ) rfl) ?_
  refine ox_y rfl (y_move_tuple rfl) ?_
  refine ox_y rfl (y_extract (vs := [.agg #[.int .i64 y4.1.fNum, .int .i64 y4.1.fDen], .int .i64 y4.2]) (v := .agg #[.int .i64 y4.1.fNum, .int .i64 y4.1.fDen]) rfl rfl) ?_
  refine ox_y rfl (y_extract (vs := [.agg #[.int .i64 y4.1.fNum, .int .i64 y4.1.fDen], .int .i64 y4.2]) (v := .int .i64 y4.2) rfl rfl) ?_
  refine ox_alloc ze_23 rfl (fun b6 => ?_)
  refine ox_n rfl (y_storeN 3 [.int .i64 y4.1.fNum, .int .i64 y4.1.fDen] sz_23 rfl (Nat.le_of_ble_eq_true rfl) rfl rfl rfl) ?_
  refine ox_y rfl (y_assign_int rfl) ?_
  refine ox_nil ?_
  refine ex_then ?_
  refine cx_seq ?_
  refine cx_region ?_
  refine ox_y rfl (y_move_int rfl) ?_
  refine ox_y rfl (y_move_int rfl) ?_
  refine ox_y rfl (y_loadN 2 [.int .i64 p5_p.fSample, .int .i64 p5_p.fAccept] ag_26 rfl rfl rfl) ?_
  obtain ⟨y7, hy8, h⟩ := bind_some h
  refine ox_y rfl (y_call [.int .i64 p0_barrows, .int .i64 p2_bad, .agg #[.int .i64 p5_p.fSample, .int .i64 p5_p.fAccept]] go_64 rfl (fun W2 hW2 => sample_Pass_ok p0_barrows p2_bad p5_p y7 hy8 W2 ) rfl) ?_
  refine ox_y rfl (y_move_tuple rfl) ?_
  refine ox_y rfl (y_extract (vs := [.agg #[.int .i64 y7.1.fNum, .int .i64 y7.1.fDen], .int .i64 y7.2]) (v := .agg #[.int .i64 y7.1.fNum, .int .i64 y7.1.fDen]) rfl rfl) ?_
  refine ox_y rfl (y_extract (vs := [.agg #[.int .i64 y7.1.fNum, .int .i64 y7.1.fDen], .int .i64 y7.2]) (v := .int .i64 y7.2) rfl rfl) ?_
  refine ox_alloc ze_23 rfl (fun b9 => ?_)
  refine ox_n rfl (y_storeN 4 [.int .i64 y7.1.fNum, .int .i64 y7.1.fDen] sz_23 rfl (Nat.le_of_ble_eq_true rfl) rfl rfl rfl) ?_
  refine ox_y rfl (y_assign_int rfl) ?_
  refine ox_nil ?_
  refine ex_then ?_
  refine cx_seq ?_
  refine cx_region ?_
  refine ox_y rfl (y_move_int rfl) ?_
  refine ox_y rfl (y_eql rfl rfl) ?_
  refine ox_y rfl (y_move_bool rfl) ?_
  refine ox_join 3 (fun tm0 => (upd (upd (upd (upd (upd (upd (upd (upd (upd (upd (upd (upd (upd (upd (upd tm0 0 (.int .i64 p0_barrows)) 1 (.int .i64 p1_good)) 2 (.int .i64 p2_bad)) 3 (.agg #[.int .i64 p3_accept.fNum, .int .i64 p3_accept.fDen])) 4 (.agg #[.int .i64 p4_refuse.fNum, .int .i64 p4_refuse.fDen])) 5 (.agg #[.int .i64 p5_p.fSample, .int .i64 p5_p.fAccept])) 9 (.pointer (some ⟨b1, 0, none⟩))) 10 (.pointer (some ⟨b2, 0, none⟩))) 11 (.pointer (some ⟨b3, 0, none⟩))) 12 (.bool false)) 13 (.pointer (some ⟨b6, 0, none⟩))) 14 (.int .i64 y4.2)) 15 (.pointer (some ⟨b9, 0, none⟩))) 16 (.int .i64 y7.2)) 36 (.bool ((y4.2 == 0) && (y7.2 == 0))))) (fun tm0 => ?_) (fun key => ?_)
  · refine ox_y rfl (y_move_bool rfl) ?_
    obtain ⟨b12, hb13, h⟩ := bind_some h
    refine ox_join 4 (fun tm0 => (upd (upd (upd (upd (upd (upd (upd (upd (upd (upd (upd (upd (upd (upd (upd tm0 0 (.int .i64 p0_barrows)) 1 (.int .i64 p1_good)) 2 (.int .i64 p2_bad)) 3 (.agg #[.int .i64 p3_accept.fNum, .int .i64 p3_accept.fDen])) 4 (.agg #[.int .i64 p4_refuse.fNum, .int .i64 p4_refuse.fDen])) 5 (.agg #[.int .i64 p5_p.fSample, .int .i64 p5_p.fAccept])) 9 (.pointer (some ⟨b1, 0, none⟩))) 10 (.pointer (some ⟨b2, 0, none⟩))) 11 (.pointer (some ⟨b3, 0, none⟩))) 12 (.bool false)) 13 (.pointer (some ⟨b6, 0, none⟩))) 14 (.int .i64 y4.2)) 15 (.pointer (some ⟨b9, 0, none⟩))) 16 (.int .i64 y7.2)) 41 (.bool b12))) (fun tm0 => ?_) (fun key => ?_)
    · refine ox_y rfl (y_move_bool rfl) ?_
      obtain ⟨b15, hb16, h⟩ := bind_some h
      refine ox_join 4 (fun tm0 => (upd (upd (upd (upd (upd (upd (upd (upd (upd (upd (upd (upd (upd (upd (upd tm0 0 (.int .i64 p0_barrows)) 1 (.int .i64 p1_good)) 2 (.int .i64 p2_bad)) 3 (.agg #[.int .i64 p3_accept.fNum, .int .i64 p3_accept.fDen])) 4 (.agg #[.int .i64 p4_refuse.fNum, .int .i64 p4_refuse.fDen])) 5 (.agg #[.int .i64 p5_p.fSample, .int .i64 p5_p.fAccept])) 9 (.pointer (some ⟨b1, 0, none⟩))) 10 (.pointer (some ⟨b2, 0, none⟩))) 11 (.pointer (some ⟨b3, 0, none⟩))) 12 (.bool false)) 13 (.pointer (some ⟨b6, 0, none⟩))) 14 (.int .i64 y4.2)) 15 (.pointer (some ⟨b9, 0, none⟩))) 16 (.int .i64 y7.2)) 46 (.bool b15))) (fun tm0 => ?_) (fun key => ?_)
      · refine ox_y rfl (y_assign_bool rfl) ?_
        refine ox_nil ?_
        refine ex_then ?_
        refine cx_ret ?_
        obtain rfl := Option.some.inj h
        exact ex_res1 (.inl rfl) rfl (resV_tmp (v := .bool b15) rfl) (fun W2 hW2 => ⟨rfl, hW2.none⟩)
      · clear h; rcases ite_some hb16 with ⟨hp14, h⟩ | ⟨hp14, h⟩
        · refine ox_y (sees_t rfl rfl rfl rfl hp14) (y_loadN 4 [.int .i64 y7.1.fNum, .int .i64 y7.1.fDen] ag_23 rfl rfl rfl) ?_
          refine ox_y (sees_t rfl rfl rfl rfl hp14) (y_loadN 1 [.int .i64 p4_refuse.fNum, .int .i64 p4_refuse.fDen] ag_23 rfl rfl rfl) ?_
          obtain ⟨y17, hy18, h⟩ := bind_some h
          refine ox_y (sees_t rfl rfl rfl rfl hp14) (y_call [.agg #[.int .i64 y7.1.fNum, .int .i64 y7.1.fDen], .agg #[.int .i64 p4_refuse.fNum, .int .i64 p4_refuse.fDen]] go_117 rfl (fun W2 hW2 => calxlaw03_cross_ok y7.1 p4_refuse y17 hy18 W2 ) rfl) ?_
          refine ox_y rfl (y_pick_tb (congrArg Value.bool hp14) rfl) ?_
          obtain rfl := Option.some.inj h
          exact key _ _ (keep (keep (keep (keep (keep (keep (keep (keep (keep (keep (keep (keep (keep (keep (keep rfl rfl) rfl) rfl) rfl) rfl) rfl) rfl) rfl) rfl) rfl) rfl) rfl) rfl) rfl) rfl)
        · refine ox_skip (sees_f rfl rfl rfl rfl hp14) ?_
          refine ox_skip (sees_f rfl rfl rfl rfl hp14) ?_
          refine ox_skip (sees_f rfl rfl rfl rfl hp14) ?_
          refine ox_y rfl (y_pick_fb (congrArg Value.bool hp14) rfl) ?_
          obtain rfl := Option.some.inj h
          exact key _ _ (keep (keep (keep (keep (keep (keep (keep (keep (keep (keep (keep (keep (keep (keep (keep rfl rfl) rfl) rfl) rfl) rfl) rfl) rfl) rfl) rfl) rfl) rfl) rfl) rfl) rfl) rfl)
    · clear h; rcases ite_some hb13 with ⟨hp11, h⟩ | ⟨hp11, h⟩
      · refine ox_y (sees_t rfl rfl rfl rfl hp11) (y_loadN 0 [.int .i64 p3_accept.fNum, .int .i64 p3_accept.fDen] ag_23 rfl rfl rfl) ?_
        refine ox_y (sees_t rfl rfl rfl rfl hp11) (y_loadN 3 [.int .i64 y4.1.fNum, .int .i64 y4.1.fDen] ag_23 rfl rfl rfl) ?_
        obtain ⟨y19, hy20, h⟩ := bind_some h
        refine ox_y (sees_t rfl rfl rfl rfl hp11) (y_call [.agg #[.int .i64 p3_accept.fNum, .int .i64 p3_accept.fDen], .agg #[.int .i64 y4.1.fNum, .int .i64 y4.1.fDen]] go_117 rfl (fun W2 hW2 => calxlaw03_cross_ok p3_accept y4.1 y19 hy20 W2 ) rfl) ?_
        refine ox_y rfl (y_pick_tb (congrArg Value.bool hp11) rfl) ?_
        obtain rfl := Option.some.inj h
        exact key _ _ (keep (keep (keep (keep (keep (keep (keep (keep (keep (keep (keep (keep (keep (keep (keep rfl rfl) rfl) rfl) rfl) rfl) rfl) rfl) rfl) rfl) rfl) rfl) rfl) rfl) rfl) rfl)
      · refine ox_skip (sees_f rfl rfl rfl rfl hp11) ?_
        refine ox_skip (sees_f rfl rfl rfl rfl hp11) ?_
        refine ox_skip (sees_f rfl rfl rfl rfl hp11) ?_
        refine ox_y rfl (y_pick_fb (congrArg Value.bool hp11) rfl) ?_
        obtain rfl := Option.some.inj h
        exact key _ _ (keep (keep (keep (keep (keep (keep (keep (keep (keep (keep (keep (keep (keep (keep (keep rfl rfl) rfl) rfl) rfl) rfl) rfl) rfl) rfl) rfl) rfl) rfl) rfl) rfl) rfl) rfl)
  · rcases bool_cases (y4.2 == 0) with hp10 | hp10
    · refine ox_y (sees_t rfl rfl rfl rfl hp10) (y_move_int rfl) ?_
      refine ox_y (sees_t rfl rfl rfl rfl hp10) (y_eql rfl rfl) ?_
      refine ox_y rfl (y_pick_tb (congrArg Value.bool hp10) rfl) ?_
      exact key _ _ (keep (keep (keep (keep (keep (keep (keep (keep (keep (keep (keep (keep (keep (keep (keep rfl rfl) rfl) rfl) rfl) rfl) rfl) rfl) rfl) rfl) rfl) rfl) rfl) rfl) rfl) (congrArg Value.bool (and_t hp10)))
    · refine ox_skip (sees_f rfl rfl rfl rfl hp10) ?_
      refine ox_skip (sees_f rfl rfl rfl rfl hp10) ?_
      refine ox_y rfl (y_pick_fb (congrArg Value.bool hp10) rfl) ?_
      exact key _ _ (keep (keep (keep (keep (keep (keep (keep (keep (keep (keep (keep (keep (keep (keep (keep rfl rfl) rfl) rfl) rfl) rfl) rfl) rfl) rfl) rfl) rfl) rfl) rfl) rfl) rfl) (congrArg Value.bool (and_f hp10)))

/-! calx/calxlaw03.SampleLeast -/
set_option maxRecDepth 100000 in
theorem calxlaw03_SampleLeast_ok (p0 : Int) (p1 : Int) (p2 : Int) (p3 : TRatio) (p4 : TRatio) (res : Bool) (h : calxlaw03_SampleLeast p0 p1 p2 p3 p4 = some res) (W : World)  :
    Calls Try.prog 14 [.int .i64 p0, .int .i64 p1, .int .i64 p2, .agg #[.int .i64 p3.fNum, .int .i64 p3.fDen], .agg #[.int .i64 p4.fNum, .int .i64 p4.fDen]].toArray W fun e W2 => e = .returned (.bool res) ∧ Ext W W2 [] := by
  unfold calxlaw03_SampleLeast at h
  refine calls_enter (m := 71) Try.func14 rfl rfl (Nat.le_of_ble_eq_true rfl) ?_
  refine cx_seq ?_
  refine cx_region ?_
  refine ox_box [.int .i64 p3.fNum, .int .i64 p3.fDen] rfl rfl rfl (fun b1 => ?_)
  refine ox_box [.int .i64 p4.fNum, .int .i64 p4.fDen] rfl rfl rfl (fun b2 => ?_)
  refine ox_y rfl (y_assign_bool rfl) ?_
  refine ox_nil ?_
  refine ex_then ?_
  refine cx_seq ?_
  refine cx_region ?_
  obtain ⟨y3, hy4, h⟩ := bind_some h
  refine ox_y rfl (y_call [] go_22 rfl (fun W2 hW2 => calxlaw03_head_ok  y3 hy4 W2 ) rfl) ?_
  refine ox_y rfl (y_assign_bool rfl) ?_
  refine ox_nil ?_
  refine ex_then ?_
  refine cx_seq ?_
  refine cx_seq ?_
  refine cx_region ?_
  refine ox_y rfl (y_move_int rfl) ?_
  refine ox_y rfl (y_gtr rfl rfl) ?_
  refine ox_nil ?_
  refine ex_then ?_
  rcases ite_some h with ⟨hp5, h⟩ | ⟨hp5, h⟩
  · refine cx_true (congrArg Value.bool hp5) ?_
    refine cx_seq ?_
    refine cx_region ?_
    refine ox_y rfl (y_move_bool rfl) ?_
    refine ox_y rfl (y_assign_bool rfl) ?_
    refine ox_nil ?_
    refine ex_then ?_
    refine cx_ret ?_
    refine ex_then_ret ?_
    obtain rfl := Option.some.inj h
    exact ex_res1 (.inl rfl) rfl (resV_tmp (v := .bool y3) rfl) (fun W2 hW2 => ⟨rfl, hW2.none⟩)
  · refine cx_false (congrArg Value.bool hp5) ?_
    refine cx_skip ?_
    refine ex_then ?_
    refine cx_seq ?_
    refine cx_region ?_
    refine ox_y rfl (y_move_int rfl) ?_
    refine ox_y rfl (y_move_int rfl) ?_
    refine ox_y rfl (y_move_int rfl) ?_
    refine ox_y rfl (y_loadN 0 [.int .i64 p3.fNum, .int .i64 p3.fDen] ag_23 rfl rfl rfl) ?_
    refine ox_y rfl (y_loadN 1 [.int .i64 p4.fNum, .int .i64 p4.fDen] ag_23 rfl rfl rfl) ?_
    obtain ⟨y6, hy7, h⟩ := bind_some h
    refine ox_y rfl (y_call [.int .i64 p0, .int .i64 p1, .int .i64 p2, .agg #[.int .i64 p3.fNum, .int .i64 p3.fDen], .agg #[.int .i64 p4.fNum, .int .i64 p4.fDen]] go_23 rfl (fun W2 hW2 => sample_Smallest_ok p0 p1 p2 p3 p4 y6 hy7 W2 ) rfl) ?_
    refine ox_y rfl (y_move_tuple rfl) ?_
    refine ox_y rfl (y_extract (vs := [.agg #[.int .i64 y6.1.fSample, .int .i64 y6.1.fAccept], .int .i64 y6.2]) (v := .agg #[.int .i64 y6.1.fSample, .int .i64 y6.1.fAccept]) rfl rfl) ?_
    refine ox_y rfl (y_extract (vs := [.agg #[.int .i64 y6.1.fSample, .int .i64 y6.1.fAccept], .int .i64 y6.2]) (v := .int .i64 y6.2) rfl rfl) ?_
    refine ox_alloc ze_26 rfl (fun b8 => ?_)
    refine ox_n rfl (y_storeN 2 [.int .i64 y6.1.fSample, .int .i64 y6.1.fAccept] sz_26 rfl (Nat.le_of_ble_eq_true rfl) rfl rfl rfl) ?_
    refine ox_y rfl (y_assign_int rfl) ?_
    refine ox_nil ?_
    refine ex_then ?_
    refine cx_seq ?_
    refine cx_seq ?_
    refine cx_region ?_
    refine ox_y rfl (y_move_int rfl) ?_
    refine ox_y rfl (y_neq rfl rfl) ?_
    refine ox_y rfl (y_move_bool rfl) ?_
    refine ox_join 3 (fun tm0 => (upd (upd (upd (upd (upd (upd (upd (upd (upd (upd (upd (upd (upd tm0 0 (.int .i64 p0)) 1 (.int .i64 p1)) 2 (.int .i64 p2)) 3 (.agg #[.int .i64 p3.fNum, .int .i64 p3.fDen])) 4 (.agg #[.int .i64 p4.fNum, .int .i64 p4.fDen])) 8 (.pointer (some ⟨b1, 0, none⟩))) 9 (.pointer (some ⟨b2, 0, none⟩))) 10 (.bool false)) 11 (.bool y3)) 19 (.bool (decide (20 < p0)))) 12 (.pointer (some ⟨b8, 0, none⟩))) 13 (.int .i64 y6.2)) 35 (.bool ((y6.2 != 0) && (y6.2 != 5))))) (fun tm0 => ?_) (fun key => ?_)
    · refine ox_nil ?_
      refine ex_then ?_
      rcases ite_some h with ⟨hp10, h⟩ | ⟨hp10, h⟩
      · refine cx_true (congrArg Value.bool hp10) ?_
        refine cx_seq ?_
        refine cx_region ?_
        refine ox_y rfl (y_move_bool rfl) ?_
        refine ox_y rfl (y_assign_bool rfl) ?_
        refine ox_nil ?_
        refine ex_then ?_
        refine cx_ret ?_
        refine ex_then_ret ?_
        obtain rfl := Option.some.inj h
        exact ex_res1 (.inl rfl) rfl (resV_tmp (v := .bool y3) rfl) (fun W2 hW2 => ⟨rfl, hW2.none⟩)
      · refine cx_false (congrArg Value.bool hp10) ?_
        refine cx_skip ?_
        refine ex_then ?_
        refine cx_seq ?_
        refine cx_region ?_
        refine ox_y rfl (y_move_int rfl) ?_
        refine ox_y rfl (y_assign_int rfl) ?_
        refine ox_nil ?_
        refine ex_then ?_
        refine cx_seq ?_
        refine cx_seq ?_
        refine cx_region ?_
        refine ox_y rfl (y_move_int rfl) ?_
        refine ox_y rfl (y_eql rfl rfl) ?_
        refine ox_nil ?_
        refine ex_then ?_
        rcases ite_some h with ⟨hp11, h⟩ | ⟨hp11, h⟩
        · refine cx_true (congrArg Value.bool hp11) ?_
          refine cx_seq ?_
          refine cx_seq ?_
          refine cx_region ?_
          refine ox_y rfl (y_move_int rfl) ?_
          refine ox_y rfl (y_move_int rfl) ?_
          refine ox_y rfl (y_move_int rfl) ?_
          refine ox_y rfl (y_loadN 0 [.int .i64 p3.fNum, .int .i64 p3.fDen] ag_23 rfl rfl rfl) ?_
          refine ox_y rfl (y_loadN 1 [.int .i64 p4.fNum, .int .i64 p4.fDen] ag_23 rfl rfl rfl) ?_
          refine ox_y rfl (y_loadN 2 [.int .i64 y6.1.fSample, .int .i64 y6.1.fAccept] ag_26 rfl rfl rfl) ?_
          obtain ⟨y12, hy13, h⟩ := bind_some h
          refine ox_y rfl (y_call [.int .i64 p0, .int .i64 p1, .int .i64 p2, .agg #[.int .i64 p3.fNum, .int .i64 p3.fDen], .agg #[.int .i64 p4.fNum, .int .i64 p4.fDen], .agg #[.int .i64 y6.1.fSample, .int .i64 y6.1.fAccept]] go_60 rfl (fun W2 hW2 => calxlaw03_tells_ok p0 p1 p2 p3 p4 y6.1 y12 hy13 W2 ) rfl) ?_
          refine ox_y rfl (y_not rfl) ?_
          refine ox_nil ?_
          refine ex_then ?_
          rcases ite_some h with ⟨hp14, h⟩ | ⟨hp14, h⟩
          · refine cx_true (congrArg Value.bool hp14) ?_
            refine cx_seq ?_
            refine cx_region ?_
            refine ox_y rfl (y_assign_bool rfl) ?_
            refine ox_nil ?_
            refine ex_then ?_
            refine cx_ret ?_
            refine ex_then_ret ?_
            refine ex_then_ret ?_
            obtain rfl := Option.some.inj h
            exact ex_res1 (.inl rfl) rfl (resV_tmp (v := .bool false) rfl) (fun W2 hW2 => ⟨rfl, hW2.none⟩)
          · refine cx_false (congrArg Value.bool hp14) ?_
            refine cx_skip ?_
            refine ex_then ?_
            refine cx_region ?_
            refine ox_y rfl (y_fieldAddr fo_26_0 rfl) ?_
            refine ox_y rfl (y_load1 2 (v := .int .i64 y6.1.fSample) sc_3 rfl rfl rfl) ?_
            refine ox_y rfl (y_sub rfl rfl) ?_
            refine ox_y rfl (y_assign_int rfl) ?_
            refine ox_nil ?_
            refine ex_then ?_
            refine cx_seq ?_
            refine cx_seq ?_
            refine cx_region ?_
            refine ox_y rfl (y_assign_int rfl) ?_
            refine ox_nil ?_
            refine ex_then ?_
            refine cx_block ?_
            obtain ⟨u17, hl29, h⟩ := bind_some h
            refine cx_loop (fun (s : (Bool × Int)) L tm => ∃ (tm0 : Nat → Value), L = [cellsR b1 23 [.int .i64 p3.fNum, .int .i64 p3.fDen], cellsR b2 23 [.int .i64 p4.fNum, .int .i64 p4.fDen], cellsR b8 26 [.int .i64 y6.1.fSample, .int .i64 y6.1.fAccept]] ∧ tm = (upd (upd (upd (upd (upd (upd (upd (upd (upd (upd (upd (upd (upd (upd (upd (upd (upd tm0 0 (.int .i64 p0)) 1 (.int .i64 p1)) 2 (.int .i64 p2)) 3 (.agg #[.int .i64 p3.fNum, .int .i64 p3.fDen])) 4 (.agg #[.int .i64 p4.fNum, .int .i64 p4.fDen])) 8 (.pointer (some ⟨b1, 0, none⟩))) 9 (.pointer (some ⟨b2, 0, none⟩))) 10 (.bool s.1)) 11 (.bool y3)) 19 (.bool (decide (20 < p0)))) 12 (.pointer (some ⟨b8, 0, none⟩))) 13 (.int .i64 y6.2)) 35 (.bool ((y6.2 != 0) && (y6.2 != 5)))) 14 (.int .i64 (w64 (y6.1.fSample - 1)))) 39 (.bool (y6.2 == 0))) 47 (.bool (!y12))) 15 (.int .i64 s.2))) (fun | (.inl s), e, L, tm => e = .ret ∧ ∃ (tm0 : Nat → Value), L = [cellsR b1 23 [.int .i64 p3.fNum, .int .i64 p3.fDen], cellsR b2 23 [.int .i64 p4.fNum, .int .i64 p4.fDen], cellsR b8 26 [.int .i64 y6.1.fSample, .int .i64 y6.1.fAccept]] ∧ tm = (upd (upd (upd (upd (upd (upd (upd (upd (upd (upd (upd (upd (upd (upd (upd (upd (upd tm0 0 (.int .i64 p0)) 1 (.int .i64 p1)) 2 (.int .i64 p2)) 3 (.agg #[.int .i64 p3.fNum, .int .i64 p3.fDen])) 4 (.agg #[.int .i64 p4.fNum, .int .i64 p4.fDen])) 8 (.pointer (some ⟨b1, 0, none⟩))) 9 (.pointer (some ⟨b2, 0, none⟩))) 10 (.bool s.1)) 11 (.bool y3)) 19 (.bool (decide (20 < p0)))) 12 (.pointer (some ⟨b8, 0, none⟩))) 13 (.int .i64 y6.2)) 35 (.bool ((y6.2 != 0) && (y6.2 != 5)))) 14 (.int .i64 (w64 (y6.1.fSample - 1)))) 39 (.bool (y6.2 == 0))) 47 (.bool (!y12))) 15 (.int .i64 s.2)) | (.inr s), e, L, tm => e = .exit 0 ∧ ∃ (tm0 : Nat → Value), L = [cellsR b1 23 [.int .i64 p3.fNum, .int .i64 p3.fDen], cellsR b2 23 [.int .i64 p4.fNum, .int .i64 p4.fDen], cellsR b8 26 [.int .i64 y6.1.fSample, .int .i64 y6.1.fAccept]] ∧ tm = (upd (upd (upd (upd (upd (upd (upd (upd (upd (upd (upd (upd (upd (upd (upd (upd (upd tm0 0 (.int .i64 p0)) 1 (.int .i64 p1)) 2 (.int .i64 p2)) 3 (.agg #[.int .i64 p3.fNum, .int .i64 p3.fDen])) 4 (.agg #[.int .i64 p4.fNum, .int .i64 p4.fDen])) 8 (.pointer (some ⟨b1, 0, none⟩))) 9 (.pointer (some ⟨b2, 0, none⟩))) 10 (.bool s.1)) 11 (.bool y3)) 19 (.bool (decide (20 < p0)))) 12 (.pointer (some ⟨b8, 0, none⟩))) 13 (.int .i64 y6.2)) 35 (.bool ((y6.2 != 0) && (y6.2 != 5)))) 14 (.int .i64 (w64 (y6.1.fSample - 1)))) 39 (.bool (y6.2 == 0))) 47 (.bool (!y12))) 15 (.int .i64 s.2))) hl29 ⟨_, rfl, (keep (keep (keep (keep (keep (keep (keep (keep (keep (keep (keep (keep (keep (keep (keep (keep (keep rfl rfl) rfl) rfl) rfl) rfl) rfl) rfl) rfl) rfl) rfl) rfl) rfl) rfl) rfl) rfl) rfl) rfl)⟩ ?_ ?_
            · rintro s16 L tm st ⟨tm0_s16, rfl, rfl⟩ h
              unfold calxlaw03_SampleLeast_l1 at h
              refine cx_seq ?_
              refine cx_seq ?_
              refine cx_region ?_
              refine ox_y rfl (y_move_int rfl) ?_
              refine ox_y rfl (y_move_int rfl) ?_
              refine ox_y rfl (y_leq rfl rfl) ?_
              refine ox_nil ?_
              refine ex_then ?_
              rcases ite_some h with ⟨hp18, h⟩ | ⟨hp18, h⟩
              · refine cx_true (congrArg Value.bool hp18) ?_
                refine cx_skip ?_
                refine ex_then ?_
                refine cx_seq ?_
                refine cx_block ?_
                refine cx_seq ?_
                refine cx_region ?_
                refine ox_y rfl (y_assign_int rfl) ?_
                refine ox_nil ?_
                refine ex_then ?_
                refine cx_block ?_
                obtain ⟨u21, hl26, h⟩ := bind_some h
                refine cx_loop (fun (s : (Bool × Int)) L tm => ∃ (tm0 : Nat → Value), L = [cellsR b1 23 [.int .i64 p3.fNum, .int .i64 p3.fDen], cellsR b2 23 [.int .i64 p4.fNum, .int .i64 p4.fDen], cellsR b8 26 [.int .i64 y6.1.fSample, .int .i64 y6.1.fAccept]] ∧ tm = (upd (upd (upd (upd (upd (upd (upd (upd (upd (upd (upd (upd (upd (upd (upd (upd (upd (upd (upd tm0 0 (.int .i64 p0)) 1 (.int .i64 p1)) 2 (.int .i64 p2)) 3 (.agg #[.int .i64 p3.fNum, .int .i64 p3.fDen])) 4 (.agg #[.int .i64 p4.fNum, .int .i64 p4.fDen])) 8 (.pointer (some ⟨b1, 0, none⟩))) 9 (.pointer (some ⟨b2, 0, none⟩))) 10 (.bool s.1)) 11 (.bool y3)) 19 (.bool (decide (20 < p0)))) 12 (.pointer (some ⟨b8, 0, none⟩))) 13 (.int .i64 y6.2)) 35 (.bool ((y6.2 != 0) && (y6.2 != 5)))) 14 (.int .i64 (w64 (y6.1.fSample - 1)))) 39 (.bool (y6.2 == 0))) 47 (.bool (!y12))) 15 (.int .i64 s16.2)) 53 (.bool (decide (s16.2 ≤ w64 (y6.1.fSample - 1))))) 16 (.int .i64 s.2))) (fun | (.inl s), e, L, tm => e = .ret ∧ ∃ (tm0 : Nat → Value), L = [cellsR b1 23 [.int .i64 p3.fNum, .int .i64 p3.fDen], cellsR b2 23 [.int .i64 p4.fNum, .int .i64 p4.fDen], cellsR b8 26 [.int .i64 y6.1.fSample, .int .i64 y6.1.fAccept]] ∧ tm = (upd (upd (upd (upd (upd (upd (upd (upd (upd (upd (upd (upd (upd (upd (upd (upd (upd (upd (upd tm0 0 (.int .i64 p0)) 1 (.int .i64 p1)) 2 (.int .i64 p2)) 3 (.agg #[.int .i64 p3.fNum, .int .i64 p3.fDen])) 4 (.agg #[.int .i64 p4.fNum, .int .i64 p4.fDen])) 8 (.pointer (some ⟨b1, 0, none⟩))) 9 (.pointer (some ⟨b2, 0, none⟩))) 10 (.bool s.1)) 11 (.bool y3)) 19 (.bool (decide (20 < p0)))) 12 (.pointer (some ⟨b8, 0, none⟩))) 13 (.int .i64 y6.2)) 35 (.bool ((y6.2 != 0) && (y6.2 != 5)))) 14 (.int .i64 (w64 (y6.1.fSample - 1)))) 39 (.bool (y6.2 == 0))) 47 (.bool (!y12))) 15 (.int .i64 s16.2)) 53 (.bool (decide (s16.2 ≤ w64 (y6.1.fSample - 1))))) 16 (.int .i64 s.2)) | (.inr s), e, L, tm => e = .exit 2 ∧ ∃ (tm0 : Nat → Value), L = [cellsR b1 23 [.int .i64 p3.fNum, .int .i64 p3.fDen], cellsR b2 23 [.int .i64 p4.fNum, .int .i64 p4.fDen], cellsR b8 26 [.int .i64 y6.1.fSample, .int .i64 y6.1.fAccept]] ∧ tm = (upd (upd (upd (upd (upd (upd (upd (upd (upd (upd (upd (upd (upd (upd (upd (upd (upd (upd (upd tm0 0 (.int .i64 p0)) 1 (.int .i64 p1)) 2 (.int .i64 p2)) 3 (.agg #[.int .i64 p3.fNum, .int .i64 p3.fDen])) 4 (.agg #[.int .i64 p4.fNum, .int .i64 p4.fDen])) 8 (.pointer (some ⟨b1, 0, none⟩))) 9 (.pointer (some ⟨b2, 0, none⟩))) 10 (.bool s.1)) 11 (.bool y3)) 19 (.bool (decide (20 < p0)))) 12 (.pointer (some ⟨b8, 0, none⟩))) 13 (.int .i64 y6.2)) 35 (.bool ((y6.2 != 0) && (y6.2 != 5)))) 14 (.int .i64 (w64 (y6.1.fSample - 1)))) 39 (.bool (y6.2 == 0))) 47 (.bool (!y12))) 15 (.int .i64 s16.2)) 53 (.bool (decide (s16.2 ≤ w64 (y6.1.fSample - 1))))) 16 (.int .i64 s.2))) hl26 ⟨_, rfl, (keep (keep (keep (keep (keep (keep (keep (keep (keep (keep (keep (keep (keep (keep (keep (keep (keep (keep (keep rfl rfl) rfl) rfl) rfl) rfl) rfl) rfl) rfl) rfl) rfl) rfl) rfl) rfl) rfl) rfl) rfl) rfl) rfl) rfl)⟩ ?_ ?_
                · rintro s20 L tm st ⟨tm0_s20, rfl, rfl⟩ h
                  unfold calxlaw03_SampleLeast_l2 at h
                  refine cx_seq ?_
                  refine cx_seq ?_
                  refine cx_region ?_
                  refine ox_y rfl (y_move_int rfl) ?_
                  refine ox_y rfl (y_move_int rfl) ?_
                  refine ox_y rfl (y_leq rfl rfl) ?_
                  refine ox_nil ?_
                  refine ex_then ?_
                  rcases ite_some h with ⟨hp22, h⟩ | ⟨hp22, h⟩
                  · refine cx_true (congrArg Value.bool hp22) ?_
                    refine cx_skip ?_
                    refine ex_then ?_
                    refine cx_seq ?_
                    refine cx_block ?_
                    refine cx_seq ?_
                    refine cx_region ?_
                    refine ox_y rfl (y_move_int rfl) ?_
                    refine ox_y rfl (y_move_int rfl) ?_
                    refine ox_y rfl (y_move_int rfl) ?_
                    refine ox_y rfl (y_loadN 0 [.int .i64 p3.fNum, .int .i64 p3.fDen] ag_23 rfl rfl rfl) ?_
                    refine ox_y rfl (y_loadN 1 [.int .i64 p4.fNum, .int .i64 p4.fDen] ag_23 rfl rfl rfl) ?_
                    refine ox_y rfl (y_move_int rfl) ?_
                    refine ox_y rfl (y_move_int rfl) ?_
                    refine ox_y rfl (y_buildS [.int .i64 s16.2, .int .i64 s20.2] [(0, 1), (1, 1)] ust_26 ze_26 (by kernel_rfl)) ?_
                    obtain ⟨y23, hy24, h⟩ := bind_some h
                    refine ox_y rfl (y_call [.int .i64 p0, .int .i64 p1, .int .i64 p2, .agg #[.int .i64 p3.fNum, .int .i64 p3.fDen], .agg #[.int .i64 p4.fNum, .int .i64 p4.fDen], .agg #[.int .i64 s16.2, .int .i64 s20.2]] go_60 rfl (fun W2 hW2 => calxlaw03_tells_ok p0 p1 p2 p3 p4 (TTrial.mk s16.2 s20.2) y23 hy24 W2 ) rfl) ?_
                    refine ox_nil ?_
                    refine ex_then ?_
                    rcases ite_some h with ⟨hp25, h⟩ | ⟨hp25, h⟩
                    · refine cx_true (congrArg Value.bool hp25) ?_
                      refine cx_seq ?_
                      refine cx_region ?_
                      refine ox_y rfl (y_assign_bool rfl) ?_
                      refine ox_nil ?_
                      refine ex_then ?_
                      refine cx_ret ?_
                      refine ex_block_ret ?_
                      refine ex_then_ret ?_
                      obtain rfl := Option.some.inj h
                      exact ex_stop ⟨rfl, _, rfl, (keep (keep (keep (keep (keep (keep (keep (keep (keep (keep (keep (keep (keep (keep (keep (keep (keep (keep (keep rfl rfl) rfl) rfl) rfl) rfl) rfl) rfl) rfl) rfl) rfl) rfl) rfl) rfl) rfl) rfl) rfl) rfl) rfl) rfl)⟩
                    · refine cx_false (congrArg Value.bool hp25) ?_
                      refine cx_skip ?_
                      refine ex_block ?_
                      refine ex_then ?_
                      refine cx_region ?_
                      refine ox_y rfl (y_move_int rfl) ?_
                      refine ox_y rfl (y_add rfl rfl) ?_
                      refine ox_y rfl (y_assign_int rfl) ?_
                      refine ox_nil ?_
                      obtain rfl := Option.some.inj h
                      exact ex_next ⟨_, rfl, (keep (keep (keep (keep (keep (keep (keep (keep (keep (keep (keep (keep (keep (keep (keep (keep (keep (keep (keep rfl rfl) rfl) rfl) rfl) rfl) rfl) rfl) rfl) rfl) rfl) rfl) rfl) rfl) rfl) rfl) rfl) rfl) rfl) rfl)⟩
                  · refine cx_false (congrArg Value.bool hp22) ?_
                    refine cx_exit ?_
                    refine ex_then_exit ?_
                    obtain rfl := Option.some.inj h
                    exact ex_stop ⟨rfl, _, rfl, (keep (keep (keep (keep (keep (keep (keep (keep (keep (keep (keep (keep (keep (keep (keep (keep (keep (keep (keep rfl rfl) rfl) rfl) rfl) rfl) rfl) rfl) rfl) rfl) rfl) rfl) rfl) rfl) rfl) rfl) rfl) rfl) rfl) rfl)⟩
                · intro e L tm hJ
                  rcases u21 with u27 | u28
                  · dsimp only at h hJ
                    obtain ⟨rfl, tm0_u27, rfl, rfl⟩ := hJ
                    refine ⟨(by intro hc; cases hc), ?_⟩
                    refine ex_block_ret ?_
                    refine ex_block_ret ?_
                    refine ex_then_ret ?_
                    obtain rfl := Option.some.inj h
                    exact ex_stop ⟨rfl, _, rfl, (keep (keep (keep (keep (keep (keep (keep (keep (keep (keep (keep (keep (keep (keep (keep (keep (keep rfl rfl) rfl) rfl) rfl) rfl) rfl) rfl) rfl) rfl) rfl) rfl) rfl) rfl) rfl) rfl) rfl) rfl)⟩
                  · dsimp only at h hJ
                    obtain ⟨rfl, tm0_u28, rfl, rfl⟩ := hJ
                    refine ⟨(by intro hc; cases hc), ?_⟩
                    refine ex_block_here ?_
                    refine ex_block ?_
                    refine ex_then ?_
                    refine cx_region ?_
                    refine ox_y rfl (y_move_int rfl) ?_
                    refine ox_y rfl (y_add rfl rfl) ?_
                    refine ox_y rfl (y_assign_int rfl) ?_
                    refine ox_nil ?_
                    obtain rfl := Option.some.inj h
                    exact ex_next ⟨_, rfl, (keep (keep (keep (keep (keep (keep (keep (keep (keep (keep (keep (keep (keep (keep (keep (keep (keep rfl rfl) rfl) rfl) rfl) rfl) rfl) rfl) rfl) rfl) rfl) rfl) rfl) rfl) rfl) rfl) rfl) rfl)⟩
              · refine cx_false (congrArg Value.bool hp18) ?_
                refine cx_exit ?_
                refine ex_then_exit ?_
                obtain rfl := Option.some.inj h
                exact ex_stop ⟨rfl, _, rfl, (keep (keep (keep (keep (keep (keep (keep (keep (keep (keep (keep (keep (keep (keep (keep (keep (keep rfl rfl) rfl) rfl) rfl) rfl) rfl) rfl) rfl) rfl) rfl) rfl) rfl) rfl) rfl) rfl) rfl) rfl)⟩
            · intro e L tm hJ
              rcases u17 with u30 | u31
              · dsimp only at h hJ
                obtain ⟨rfl, tm0_u30, rfl, rfl⟩ := hJ
                refine ⟨(by intro hc; cases hc), ?_⟩
                refine ex_block_ret ?_
                refine ex_then_ret ?_
                obtain rfl := Option.some.inj h
                exact ex_res1 (.inl rfl) rfl (resV_tmp (v := .bool u30.1) rfl) (fun W2 hW2 => ⟨rfl, hW2.none⟩)
              · dsimp only at h hJ
                obtain ⟨rfl, tm0_u31, rfl, rfl⟩ := hJ
                refine ⟨(by intro hc; cases hc), ?_⟩
                refine ex_block_here ?_
                refine ex_then ?_
                refine cx_seq ?_
                refine cx_region ?_
                refine ox_y rfl (y_move_bool rfl) ?_
                refine ox_y rfl (y_assign_bool rfl) ?_
                refine ox_nil ?_
                refine ex_then ?_
                refine cx_ret ?_
                obtain rfl := Option.some.inj h
                exact ex_res1 (.inl rfl) rfl (resV_tmp (v := .bool y3) rfl) (fun W2 hW2 => ⟨rfl, hW2.none⟩)
        · refine cx_false (congrArg Value.bool hp11) ?_
          refine cx_skip ?_
          refine ex_then ?_
          refine cx_seq ?_
          refine cx_seq ?_
          refine cx_region ?_
          refine ox_y rfl (y_assign_int rfl) ?_
          refine ox_nil ?_
          refine ex_then ?_
          refine cx_block ?_
          obtain ⟨u34, hl46, h⟩ := bind_some h
          refine cx_loop (fun (s : (Bool × Int)) L tm => ∃ (tm0 : Nat → Value), L = [cellsR b1 23 [.int .i64 p3.fNum, .int .i64 p3.fDen], cellsR b2 23 [.int .i64 p4.fNum, .int .i64 p4.fDen], cellsR b8 26 [.int .i64 y6.1.fSample, .int .i64 y6.1.fAccept]] ∧ tm = (upd (upd (upd (upd (upd (upd (upd (upd (upd (upd (upd (upd (upd (upd (upd (upd tm0 0 (.int .i64 p0)) 1 (.int .i64 p1)) 2 (.int .i64 p2)) 3 (.agg #[.int .i64 p3.fNum, .int .i64 p3.fDen])) 4 (.agg #[.int .i64 p4.fNum, .int .i64 p4.fDen])) 8 (.pointer (some ⟨b1, 0, none⟩))) 9 (.pointer (some ⟨b2, 0, none⟩))) 10 (.bool s.1)) 11 (.bool y3)) 19 (.bool (decide (20 < p0)))) 12 (.pointer (some ⟨b8, 0, none⟩))) 13 (.int .i64 y6.2)) 35 (.bool ((y6.2 != 0) && (y6.2 != 5)))) 14 (.int .i64 p0)) 39 (.bool (y6.2 == 0))) 15 (.int .i64 s.2))) (fun | (.inl s), e, L, tm => e = .ret ∧ ∃ (tm0 : Nat → Value), L = [cellsR b1 23 [.int .i64 p3.fNum, .int .i64 p3.fDen], cellsR b2 23 [.int .i64 p4.fNum, .int .i64 p4.fDen], cellsR b8 26 [.int .i64 y6.1.fSample, .int .i64 y6.1.fAccept]] ∧ tm = (upd (upd (upd (upd (upd (upd (upd (upd (upd (upd (upd (upd (upd (upd (upd (upd tm0 0 (.int .i64 p0)) 1 (.int .i64 p1)) 2 (.int .i64 p2)) 3 (.agg #[.int .i64 p3.fNum, .int .i64 p3.fDen])) 4 (.agg #[.int .i64 p4.fNum, .int .i64 p4.fDen])) 8 (.pointer (some ⟨b1, 0, none⟩))) 9 (.pointer (some ⟨b2, 0, none⟩))) 10 (.bool s.1)) 11 (.bool y3)) 19 (.bool (decide (20 < p0)))) 12 (.pointer (some ⟨b8, 0, none⟩))) 13 (.int .i64 y6.2)) 35 (.bool ((y6.2 != 0) && (y6.2 != 5)))) 14 (.int .i64 p0)) 39 (.bool (y6.2 == 0))) 15 (.int .i64 s.2)) | (.inr s), e, L, tm => e = .exit 0 ∧ ∃ (tm0 : Nat → Value), L = [cellsR b1 23 [.int .i64 p3.fNum, .int .i64 p3.fDen], cellsR b2 23 [.int .i64 p4.fNum, .int .i64 p4.fDen], cellsR b8 26 [.int .i64 y6.1.fSample, .int .i64 y6.1.fAccept]] ∧ tm = (upd (upd (upd (upd (upd (upd (upd (upd (upd (upd (upd (upd (upd (upd (upd (upd tm0 0 (.int .i64 p0)) 1 (.int .i64 p1)) 2 (.int .i64 p2)) 3 (.agg #[.int .i64 p3.fNum, .int .i64 p3.fDen])) 4 (.agg #[.int .i64 p4.fNum, .int .i64 p4.fDen])) 8 (.pointer (some ⟨b1, 0, none⟩))) 9 (.pointer (some ⟨b2, 0, none⟩))) 10 (.bool s.1)) 11 (.bool y3)) 19 (.bool (decide (20 < p0)))) 12 (.pointer (some ⟨b8, 0, none⟩))) 13 (.int .i64 y6.2)) 35 (.bool ((y6.2 != 0) && (y6.2 != 5)))) 14 (.int .i64 p0)) 39 (.bool (y6.2 == 0))) 15 (.int .i64 s.2))) hl46 ⟨_, rfl, (keep (keep (keep (keep (keep (keep (keep (keep (keep (keep (keep (keep (keep (keep (keep (keep rfl rfl) rfl) rfl) rfl) rfl) rfl) rfl) rfl) rfl) rfl) rfl) rfl) rfl) rfl) rfl) rfl)⟩ ?_ ?_
          · rintro s33 L tm st ⟨tm0_s33, rfl, rfl⟩ h
            unfold calxlaw03_SampleLeast_l3 at h
            refine cx_seq ?_
            refine cx_seq ?_
            refine cx_region ?_
            refine ox_y rfl (y_move_int rfl) ?_
            refine ox_y rfl (y_move_int rfl) ?_
            refine ox_y rfl (y_leq rfl rfl) ?_
            refine ox_nil ?_
            refine ex_then ?_
            rcases ite_some h with ⟨hp35, h⟩ | ⟨hp35, h⟩
            · refine cx_true (congrArg Value.bool hp35) ?_
              refine cx_skip ?_
              refine ex_then ?_
              refine cx_seq ?_
              refine cx_block ?_
              refine cx_seq ?_
              refine cx_region ?_
              refine ox_y rfl (y_assign_int rfl) ?_
              refine ox_nil ?_
              refine ex_then ?_
              refine cx_block ?_
              obtain ⟨u38, hl43, h⟩ := bind_some h
              refine cx_loop (fun (s : (Bool × Int)) L tm => ∃ (tm0 : Nat → Value), L = [cellsR b1 23 [.int .i64 p3.fNum, .int .i64 p3.fDen], cellsR b2 23 [.int .i64 p4.fNum, .int .i64 p4.fDen], cellsR b8 26 [.int .i64 y6.1.fSample, .int .i64 y6.1.fAccept]] ∧ tm = (upd (upd (upd (upd (upd (upd (upd (upd (upd (upd (upd (upd (upd (upd (upd (upd (upd (upd tm0 0 (.int .i64 p0)) 1 (.int .i64 p1)) 2 (.int .i64 p2)) 3 (.agg #[.int .i64 p3.fNum, .int .i64 p3.fDen])) 4 (.agg #[.int .i64 p4.fNum, .int .i64 p4.fDen])) 8 (.pointer (some ⟨b1, 0, none⟩))) 9 (.pointer (some ⟨b2, 0, none⟩))) 10 (.bool s.1)) 11 (.bool y3)) 19 (.bool (decide (20 < p0)))) 12 (.pointer (some ⟨b8, 0, none⟩))) 13 (.int .i64 y6.2)) 35 (.bool ((y6.2 != 0) && (y6.2 != 5)))) 14 (.int .i64 p0)) 39 (.bool (y6.2 == 0))) 15 (.int .i64 s33.2)) 53 (.bool (decide (s33.2 ≤ p0)))) 16 (.int .i64 s.2))) (fun | (.inl s), e, L, tm => e = .ret ∧ ∃ (tm0 : Nat → Value), L = [cellsR b1 23 [.int .i64 p3.fNum, .int .i64 p3.fDen], cellsR b2 23 [.int .i64 p4.fNum, .int .i64 p4.fDen], cellsR b8 26 [.int .i64 y6.1.fSample, .int .i64 y6.1.fAccept]] ∧ tm = (upd (upd (upd (upd (upd (upd (upd (upd (upd (upd (upd (upd (upd (upd (upd (upd (upd (upd tm0 0 (.int .i64 p0)) 1 (.int .i64 p1)) 2 (.int .i64 p2)) 3 (.agg #[.int .i64 p3.fNum, .int .i64 p3.fDen])) 4 (.agg #[.int .i64 p4.fNum, .int .i64 p4.fDen])) 8 (.pointer (some ⟨b1, 0, none⟩))) 9 (.pointer (some ⟨b2, 0, none⟩))) 10 (.bool s.1)) 11 (.bool y3)) 19 (.bool (decide (20 < p0)))) 12 (.pointer (some ⟨b8, 0, none⟩))) 13 (.int .i64 y6.2)) 35 (.bool ((y6.2 != 0) && (y6.2 != 5)))) 14 (.int .i64 p0)) 39 (.bool (y6.2 == 0))) 15 (.int .i64 s33.2)) 53 (.bool (decide (s33.2 ≤ p0)))) 16 (.int .i64 s.2)) | (.inr s), e, L, tm => e = .exit 2 ∧ ∃ (tm0 : Nat → Value), L = [cellsR b1 23 [.int .i64 p3.fNum, .int .i64 p3.fDen], cellsR b2 23 [.int .i64 p4.fNum, .int .i64 p4.fDen], cellsR b8 26 [.int .i64 y6.1.fSample, .int .i64 y6.1.fAccept]] ∧ tm = (upd (upd (upd (upd (upd (upd (upd (upd (upd (upd (upd (upd (upd (upd (upd (upd (upd (upd tm0 0 (.int .i64 p0)) 1 (.int .i64 p1)) 2 (.int .i64 p2)) 3 (.agg #[.int .i64 p3.fNum, .int .i64 p3.fDen])) 4 (.agg #[.int .i64 p4.fNum, .int .i64 p4.fDen])) 8 (.pointer (some ⟨b1, 0, none⟩))) 9 (.pointer (some ⟨b2, 0, none⟩))) 10 (.bool s.1)) 11 (.bool y3)) 19 (.bool (decide (20 < p0)))) 12 (.pointer (some ⟨b8, 0, none⟩))) 13 (.int .i64 y6.2)) 35 (.bool ((y6.2 != 0) && (y6.2 != 5)))) 14 (.int .i64 p0)) 39 (.bool (y6.2 == 0))) 15 (.int .i64 s33.2)) 53 (.bool (decide (s33.2 ≤ p0)))) 16 (.int .i64 s.2))) hl43 ⟨_, rfl, (keep (keep (keep (keep (keep (keep (keep (keep (keep (keep (keep (keep (keep (keep (keep (keep (keep (keep rfl rfl) rfl) rfl) rfl) rfl) rfl) rfl) rfl) rfl) rfl) rfl) rfl) rfl) rfl) rfl) rfl) rfl) rfl)⟩ ?_ ?_
              · rintro s37 L tm st ⟨tm0_s37, rfl, rfl⟩ h
                unfold calxlaw03_SampleLeast_l4 at h
                refine cx_seq ?_
                refine cx_seq ?_
                refine cx_region ?_
                refine ox_y rfl (y_move_int rfl) ?_
                refine ox_y rfl (y_move_int rfl) ?_
                refine ox_y rfl (y_leq rfl rfl) ?_
                refine ox_nil ?_
                refine ex_then ?_
                rcases ite_some h with ⟨hp39, h⟩ | ⟨hp39, h⟩
                · refine cx_true (congrArg Value.bool hp39) ?_
                  refine cx_skip ?_
                  refine ex_then ?_
                  refine cx_seq ?_
                  refine cx_block ?_
                  refine cx_seq ?_
                  refine cx_region ?_
                  refine ox_y rfl (y_move_int rfl) ?_
                  refine ox_y rfl (y_move_int rfl) ?_
                  refine ox_y rfl (y_move_int rfl) ?_
                  refine ox_y rfl (y_loadN 0 [.int .i64 p3.fNum, .int .i64 p3.fDen] ag_23 rfl rfl rfl) ?_
                  refine ox_y rfl (y_loadN 1 [.int .i64 p4.fNum, .int .i64 p4.fDen] ag_23 rfl rfl rfl) ?_
                  refine ox_y rfl (y_move_int rfl) ?_
                  refine ox_y rfl (y_move_int rfl) ?_
                  refine ox_y rfl (y_buildS [.int .i64 s33.2, .int .i64 s37.2] [(0, 1), (1, 1)] ust_26 ze_26 (by kernel_rfl)) ?_
                  obtain ⟨y40, hy41, h⟩ := bind_some h
                  refine ox_y rfl (y_call [.int .i64 p0, .int .i64 p1, .int .i64 p2, .agg #[.int .i64 p3.fNum, .int .i64 p3.fDen], .agg #[.int .i64 p4.fNum, .int .i64 p4.fDen], .agg #[.int .i64 s33.2, .int .i64 s37.2]] go_60 rfl (fun W2 hW2 => calxlaw03_tells_ok p0 p1 p2 p3 p4 (TTrial.mk s33.2 s37.2) y40 hy41 W2 ) rfl) ?_
                  refine ox_nil ?_
                  refine ex_then ?_
                  rcases ite_some h with ⟨hp42, h⟩ | ⟨hp42, h⟩
                  · refine cx_true (congrArg Value.bool hp42) ?_
                    refine cx_seq ?_
                    refine cx_region ?_
                    refine ox_y rfl (y_assign_bool rfl) ?_
                    refine ox_nil ?_
                    refine ex_then ?_
                    refine cx_ret ?_
                    refine ex_block_ret ?_
                    refine ex_then_ret ?_
                    obtain rfl := Option.some.inj h
                    exact ex_stop ⟨rfl, _, rfl, (keep (keep (keep (keep (keep (keep (keep (keep (keep (keep (keep (keep (keep (keep (keep (keep (keep (keep rfl rfl) rfl) rfl) rfl) rfl) rfl) rfl) rfl) rfl) rfl) rfl) rfl) rfl) rfl) rfl) rfl) rfl) rfl)⟩
                  · refine cx_false (congrArg Value.bool hp42) ?_
                    refine cx_skip ?_
                    refine ex_block ?_
                    refine ex_then ?_
                    refine cx_region ?_
                    refine ox_y rfl (y_move_int rfl) ?_
                    refine ox_y rfl (y_add rfl rfl) ?_
                    refine ox_y rfl (y_assign_int rfl) ?_
                    refine ox_nil ?_
                    obtain rfl := Option.some.inj h
                    exact ex_next ⟨_, rfl, (keep (keep (keep (keep (keep (keep (keep (keep (keep (keep (keep (keep (keep (keep (keep (keep (keep (keep rfl rfl) rfl) rfl) rfl) rfl) rfl) rfl) rfl) rfl) rfl) rfl) rfl) rfl) rfl) rfl) rfl) rfl) rfl)⟩
                · refine cx_false (congrArg Value.bool hp39) ?_
                  refine cx_exit ?_
                  refine ex_then_exit ?_
                  obtain rfl := Option.some.inj h
                  exact ex_stop ⟨rfl, _, rfl, (keep (keep (keep (keep (keep (keep (keep (keep (keep (keep (keep (keep (keep (keep (keep (keep (keep (keep rfl rfl) rfl) rfl) rfl) rfl) rfl) rfl) rfl) rfl) rfl) rfl) rfl) rfl) rfl) rfl) rfl) rfl) rfl)⟩
              · intro e L tm hJ
                rcases u38 with u44 | u45
                · dsimp only at h hJ
                  obtain ⟨rfl, tm0_u44, rfl, rfl⟩ := hJ
                  refine ⟨(by intro hc; cases hc), ?_⟩
                  refine ex_block_ret ?_
                  refine ex_block_ret ?_
                  refine ex_then_ret ?_
                  obtain rfl := Option.some.inj h
                  exact ex_stop ⟨rfl, _, rfl, (keep (keep (keep (keep (keep (keep (keep (keep (keep (keep (keep (keep (keep (keep (keep (keep rfl rfl) rfl) rfl) rfl) rfl) rfl) rfl) rfl) rfl) rfl) rfl) rfl) rfl) rfl) rfl) rfl)⟩
                · dsimp only at h hJ
                  obtain ⟨rfl, tm0_u45, rfl, rfl⟩ := hJ
                  refine ⟨(by intro hc; cases hc), ?_⟩
                  refine ex_block_here ?_
                  refine ex_block ?_
                  refine ex_then ?_
                  refine cx_region ?_
                  refine ox_y rfl (y_move_int rfl) ?_
                  refine ox_y rfl (y_add rfl rfl) ?_
                  refine ox_y rfl (y_assign_int rfl) ?_
                  refine ox_nil ?_
                  obtain rfl := Option.some.inj h
                  exact ex_next ⟨_, rfl, (keep (keep (keep (keep (keep (keep (keep (keep (keep (keep (keep (keep (keep (keep (keep (keep rfl rfl) rfl) rfl) rfl) rfl) rfl) rfl) rfl) rfl) rfl) rfl) rfl) rfl) rfl) rfl) rfl)⟩
            · refine cx_false (congrArg Value.bool hp35) ?_
              refine cx_exit ?_
              refine ex_then_exit ?_
              obtain rfl := Option.some.inj h
              exact ex_stop ⟨rfl, _, rfl, (keep (keep (keep (keep (keep (keep (keep (keep (keep (keep (keep (keep (keep (keep (keep (keep rfl rfl) rfl) rfl) rfl) rfl) rfl) rfl) rfl) rfl) rfl) rfl) rfl) rfl) rfl) rfl) rfl)⟩
          · intro e L tm hJ
            rcases u34 with u47 | u48
            · dsimp only at h hJ
              obtain ⟨rfl, tm0_u47, rfl, rfl⟩ := hJ
              refine ⟨(by intro hc; cases hc), ?_⟩
              refine ex_block_ret ?_
              refine ex_then_ret ?_
              obtain rfl := Option.some.inj h
              exact ex_res1 (.inl rfl) rfl (resV_tmp (v := .bool u47.1) rfl) (fun W2 hW2 => ⟨rfl, hW2.none⟩)
            · dsimp only at h hJ
              obtain ⟨rfl, tm0_u48, rfl, rfl⟩ := hJ
              refine ⟨(by intro hc; cases hc), ?_⟩
              refine ex_block_here ?_
              refine ex_then ?_
              refine cx_seq ?_
              refine cx_region ?_
              refine ox_y rfl (y_move_bool rfl) ?_
              refine ox_y rfl (y_assign_bool rfl) ?_
              refine ox_nil ?_
              refine ex_then ?_
              refine cx_ret ?_
              obtain rfl := Option.some.inj h
              exact ex_res1 (.inl rfl) rfl (resV_tmp (v := .bool y3) rfl) (fun W2 hW2 => ⟨rfl, hW2.none⟩)
    · rcases bool_cases (y6.2 != 0) with hp9 | hp9
      · refine ox_y (sees_t rfl rfl rfl rfl hp9) (y_move_int rfl) ?_
        refine ox_y (sees_t rfl rfl rfl rfl hp9) (y_neq rfl rfl) ?_
        refine ox_y rfl (y_pick_tb (congrArg Value.bool hp9) rfl) ?_
        exact key _ _ (keep (keep (keep (keep (keep (keep (keep (keep (keep (keep (keep (keep (keep rfl rfl) rfl) rfl) rfl) rfl) rfl) rfl) rfl) rfl) rfl) rfl) rfl) (congrArg Value.bool (and_t hp9)))
      · refine ox_skip (sees_f rfl rfl rfl rfl hp9) ?_
        refine ox_skip (sees_f rfl rfl rfl rfl hp9) ?_
        refine ox_y rfl (y_pick_fb (congrArg Value.bool hp9) rfl) ?_
        exact key _ _ (keep (keep (keep (keep (keep (keep (keep (keep (keep (keep (keep (keep (keep rfl rfl) rfl) rfl) rfl) rfl) rfl) rfl) rfl) rfl) rfl) rfl) rfl) (congrArg Value.bool (and_f hp9)))

end Go.Proofs.Ytepfgdfahinpkaa
