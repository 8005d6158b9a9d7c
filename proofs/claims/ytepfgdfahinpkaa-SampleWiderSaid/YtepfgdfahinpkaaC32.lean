/- The calls hand back what the plain functions say. -/
import Derived.Test.YtepfgdfahinpkaaF
import Derived.Test.YtepfgdfahinpkaaC1
import Derived.Test.YtepfgdfahinpkaaC2
import Derived.Test.YtepfgdfahinpkaaC3
import Derived.Test.YtepfgdfahinpkaaC19
set_option linter.unusedVariables false
set_option maxHeartbeats 4000000
namespace Go.Proofs.Ytepfgdfahinpkaa
open Go.RowKit (Below)
attribute [local irreducible] OX QX CX EX OpY Calls CallsIn

/-! calx/calxlaw03.SampleWider -/
set_option maxRecDepth 100000 in
theorem calxlaw03_SampleWider_ok (p0 : TBatch) (p1 : Int) (p2 : TRatio) (p3 : TRatio) (res : Bool) (h : calxlaw03_SampleWider p0 p1 p2 p3 = some res) (W : World)  :
    Calls Try.prog 11 [.agg #[.int .i64 p0.fBarrows, .int .i64 p0.fSeen.x0, .int .i64 p0.fSeen.x1, .int .i64 p0.fSeen.x2, .int .i64 p0.fKnown.x0.fLo, .int .i64 p0.fKnown.x0.fHi, .int .i64 p0.fKnown.x1.fLo, .int .i64 p0.fKnown.x1.fHi, .int .i64 p0.fKnown.x2.fLo, .int .i64 p0.fKnown.x2.fHi], .int .i64 p1, .agg #[.int .i64 p2.fNum, .int .i64 p2.fDen], .agg #[.int .i64 p3.fNum, .int .i64 p3.fDen]].toArray W fun e W2 => e = .returned (.bool res) ∧ Ext W W2 [] := by
  unfold calxlaw03_SampleWider at h
  refine calls_enter (m := 150) Try.func11 rfl rfl (Nat.le_of_ble_eq_true rfl) ?_
  refine cx_seq ?_
  refine cx_region ?_
  refine ox_box [.int .i64 p0.fBarrows, .int .i64 p0.fSeen.x0, .int .i64 p0.fSeen.x1, .int .i64 p0.fSeen.x2, .int .i64 p0.fKnown.x0.fLo, .int .i64 p0.fKnown.x0.fHi, .int .i64 p0.fKnown.x1.fLo, .int .i64 p0.fKnown.x1.fHi, .int .i64 p0.fKnown.x2.fLo, .int .i64 p0.fKnown.x2.fHi] rfl rfl rfl (fun b1 => ?_)
  refine ox_box [.int .i64 p2.fNum, .int .i64 p2.fDen] rfl rfl rfl (fun b2 => ?_)
  refine ox_box [.int .i64 p3.fNum, .int .i64 p3.fDen] rfl rfl rfl (fun b3 => ?_)
  refine ox_y rfl (y_assign_bool rfl) ?_
  refine ox_nil ?_
  refine ex_then ?_
  refine cx_seq ?_
  refine cx_region ?_
  obtain ⟨y4, hy5, h⟩ := bind_some h
  refine ox_y rfl (y_call [] go_22 rfl (fun W2 hW2 => calxlaw03_head_ok  y4 hy5 W2 ) rfl) ?_
  refine ox_y rfl (y_assign_bool rfl) ?_
  refine ox_nil ?_
  refine ex_then ?_
  refine cx_seq ?_
  refine cx_region ?_
  refine ox_y rfl (y_loadN 0 [.int .i64 p0.fBarrows, .int .i64 p0.fSeen.x0, .int .i64 p0.fSeen.x1, .int .i64 p0.fSeen.x2, .int .i64 p0.fKnown.x0.fLo, .int .i64 p0.fKnown.x0.fHi, .int .i64 p0.fKnown.x1.fLo, .int .i64 p0.fKnown.x1.fHi, .int .i64 p0.fKnown.x2.fLo, .int .i64 p0.fKnown.x2.fHi] ag_52 rfl rfl rfl) ?_
  refine ox_y rfl (y_move_int rfl) ?_
  refine ox_y rfl (y_loadN 1 [.int .i64 p2.fNum, .int .i64 p2.fDen] ag_23 rfl rfl rfl) ?_
  obtain ⟨y6, hy7, h⟩ := bind_some h
  refine ox_y rfl (y_call [.agg #[.int .i64 p0.fBarrows, .int .i64 p0.fSeen.x0, .int .i64 p0.fSeen.x1, .int .i64 p0.fSeen.x2, .int .i64 p0.fKnown.x0.fLo, .int .i64 p0.fKnown.x0.fHi, .int .i64 p0.fKnown.x1.fLo, .int .i64 p0.fKnown.x1.fHi, .int .i64 p0.fKnown.x2.fLo, .int .i64 p0.fKnown.x2.fHi], .int .i64 p1, .agg #[.int .i64 p2.fNum, .int .i64 p2.fDen]] go_44 rfl (fun W2 hW2 => sample_Shortest_ok p0 p1 p2 y6 hy7 W2 ) rfl) ?_
  refine ox_y rfl (y_move_tuple rfl) ?_
  refine ox_y rfl (y_extract (vs := [.agg #[.int .i64 y6.1.fLo, .int .i64 y6.1.fHi], .int .i64 y6.2]) (v := .agg #[.int .i64 y6.1.fLo, .int .i64 y6.1.fHi]) rfl rfl) ?_
  refine ox_y rfl (y_extract (vs := [.agg #[.int .i64 y6.1.fLo, .int .i64 y6.1.fHi], .int .i64 y6.2]) (v := .int .i64 y6.2) rfl rfl) ?_
  refine ox_alloc ze_33 rfl (fun b8 => ?_)
  refine ox_n rfl (y_storeN 3 [.int .i64 y6.1.fLo, .int .i64 y6.1.fHi] sz_33 rfl (Nat.le_of_ble_eq_true rfl) rfl rfl rfl) ?_
  refine ox_y rfl (y_assign_int rfl) ?_
  refine ox_nil ?_
  refine ex_then ?_
  refine cx_seq ?_
  refine cx_region ?_
  refine ox_y rfl (y_loadN 0 [.int .i64 p0.fBarrows, .int .i64 p0.fSeen.x0, .int .i64 p0.fSeen.x1, .int .i64 p0.fSeen.x2, .int .i64 p0.fKnown.x0.fLo, .int .i64 p0.fKnown.x0.fHi, .int .i64 p0.fKnown.x1.fLo, .int .i64 p0.fKnown.x1.fHi, .int .i64 p0.fKnown.x2.fLo, .int .i64 p0.fKnown.x2.fHi] ag_52 rfl rfl rfl) ?_
  refine ox_y rfl (y_move_int rfl) ?_
  refine ox_y rfl (y_loadN 2 [.int .i64 p3.fNum, .int .i64 p3.fDen] ag_23 rfl rfl rfl) ?_
  obtain ⟨y9, hy10, h⟩ := bind_some h
  refine ox_y rfl (y_call [.agg #[.int .i64 p0.fBarrows, .int .i64 p0.fSeen.x0, .int .i64 p0.fSeen.x1, .int .i64 p0.fSeen.x2, .int .i64 p0.fKnown.x0.fLo, .int .i64 p0.fKnown.x0.fHi, .int .i64 p0.fKnown.x1.fLo, .int .i64 p0.fKnown.x1.fHi, .int .i64 p0.fKnown.x2.fLo, .int .i64 p0.fKnown.x2.fHi], .int .i64 p1, .agg #[.int .i64 p3.fNum, .int .i64 p3.fDen]] go_44 rfl (fun W2 hW2 => sample_Shortest_ok p0 p1 p3 y9 hy10 W2 ) rfl) ?_
  refine ox_y rfl (y_move_tuple rfl) ?_
  refine ox_y rfl (y_extract (vs := [.agg #[.int .i64 y9.1.fLo, .int .i64 y9.1.fHi], .int .i64 y9.2]) (v := .agg #[.int .i64 y9.1.fLo, .int .i64 y9.1.fHi]) rfl rfl) ?_
  refine ox_y rfl (y_extract (vs := [.agg #[.int .i64 y9.1.fLo, .int .i64 y9.1.fHi], .int .i64 y9.2]) (v := .int .i64 y9.2) rfl rfl) ?_
  refine ox_alloc ze_33 rfl (fun b11 => ?_)
  refine ox_n rfl (y_storeN 4 [.int .i64 y9.1.fLo, .int .i64 y9.1.fHi] sz_33 rfl (Nat.le_of_ble_eq_true rfl) rfl rfl rfl) ?_
  refine ox_y rfl (y_assign_int rfl) ?_
  refine ox_nil ?_
  refine ex_then ?_
  refine cx_seq ?_
  refine cx_seq ?_
  refine cx_region ?_
  refine ox_y rfl (y_move_int rfl) ?_
  refine ox_y rfl (y_neq rfl rfl) ?_
  refine ox_y rfl (y_move_bool rfl) ?_
  refine ox_join 3 (fun tm0 => (upd (upd (upd (upd (upd (upd (upd (upd (upd (upd (upd (upd (upd (upd tm0 0 (.agg #[.int .i64 p0.fBarrows, .int .i64 p0.fSeen.x0, .int .i64 p0.fSeen.x1, .int .i64 p0.fSeen.x2, .int .i64 p0.fKnown.x0.fLo, .int .i64 p0.fKnown.x0.fHi, .int .i64 p0.fKnown.x1.fLo, .int .i64 p0.fKnown.x1.fHi, .int .i64 p0.fKnown.x2.fLo, .int .i64 p0.fKnown.x2.fHi])) 1 (.int .i64 p1)) 2 (.agg #[.int .i64 p2.fNum, .int .i64 p2.fDen])) 3 (.agg #[.int .i64 p3.fNum, .int .i64 p3.fDen])) 4 (.pointer (some ⟨b1, 0, none⟩))) 6 (.pointer (some ⟨b2, 0, none⟩))) 7 (.pointer (some ⟨b3, 0, none⟩))) 8 (.bool false)) 9 (.bool y4)) 10 (.pointer (some ⟨b8, 0, none⟩))) 11 (.int .i64 y6.2)) 12 (.pointer (some ⟨b11, 0, none⟩))) 13 (.int .i64 y9.2)) 40 (.bool ((y6.2 != 0) || (y9.2 != 0))))) (fun tm0 => ?_) (fun key => ?_)
  · refine ox_nil ?_
    refine ex_then ?_
    rcases ite_some h with ⟨hp13, h⟩ | ⟨hp13, h⟩
    · refine cx_true (congrArg Value.bool hp13) ?_
      refine cx_seq ?_
      refine cx_region ?_
      refine ox_y rfl (y_move_bool rfl) ?_
      refine ox_y rfl (y_assign_bool rfl) ?_
      refine ox_nil ?_
      refine ex_then ?_
      refine cx_ret ?_
      refine ex_then_ret ?_
      obtain rfl := Option.some.inj h
      exact ex_res1 (.inl rfl) rfl (resV_tmp (v := .bool y4) rfl) (fun W2 hW2 => ⟨rfl, hW2.none⟩)
    · refine cx_false (congrArg Value.bool hp13) ?_
      refine cx_skip ?_
      refine ex_then ?_
      refine cx_seq ?_
      refine cx_seq ?_
      refine cx_region ?_
      refine ox_y rfl (y_loadN 0 [.int .i64 p0.fBarrows, .int .i64 p0.fSeen.x0, .int .i64 p0.fSeen.x1, .int .i64 p0.fSeen.x2, .int .i64 p0.fKnown.x0.fLo, .int .i64 p0.fKnown.x0.fHi, .int .i64 p0.fKnown.x1.fLo, .int .i64 p0.fKnown.x1.fHi, .int .i64 p0.fKnown.x2.fLo, .int .i64 p0.fKnown.x2.fHi] ag_52 rfl rfl rfl) ?_
      refine ox_y rfl (y_move_int rfl) ?_
      refine ox_y rfl (y_loadN 1 [.int .i64 p2.fNum, .int .i64 p2.fDen] ag_23 rfl rfl rfl) ?_
      refine ox_y rfl (y_loadN 3 [.int .i64 y6.1.fLo, .int .i64 y6.1.fHi] ag_33 rfl rfl rfl) ?_
      obtain ⟨y14, hy15, h⟩ := bind_some h
      refine ox_y rfl (y_call [.agg #[.int .i64 p0.fBarrows, .int .i64 p0.fSeen.x0, .int .i64 p0.fSeen.x1, .int .i64 p0.fSeen.x2, .int .i64 p0.fKnown.x0.fLo, .int .i64 p0.fKnown.x0.fHi, .int .i64 p0.fKnown.x1.fLo, .int .i64 p0.fKnown.x1.fHi, .int .i64 p0.fKnown.x2.fLo, .int .i64 p0.fKnown.x2.fHi], .int .i64 p1, .agg #[.int .i64 p2.fNum, .int .i64 p2.fDen], .agg #[.int .i64 y6.1.fLo, .int .i64 y6.1.fHi]] go_46 rfl (fun W2 hW2 => sample_CheckShortest_ok p0 p1 p2 y6.1 y14 hy15 W2 ) rfl) ?_
      refine ox_y rfl (y_neq rfl rfl) ?_
      refine ox_y rfl (y_move_bool rfl) ?_
      refine ox_join 4 (fun tm0 => (upd (upd (upd (upd (upd (upd (upd (upd (upd (upd (upd (upd (upd (upd (upd tm0 0 (.agg #[.int .i64 p0.fBarrows, .int .i64 p0.fSeen.x0, .int .i64 p0.fSeen.x1, .int .i64 p0.fSeen.x2, .int .i64 p0.fKnown.x0.fLo, .int .i64 p0.fKnown.x0.fHi, .int .i64 p0.fKnown.x1.fLo, .int .i64 p0.fKnown.x1.fHi, .int .i64 p0.fKnown.x2.fLo, .int .i64 p0.fKnown.x2.fHi])) 1 (.int .i64 p1)) 2 (.agg #[.int .i64 p2.fNum, .int .i64 p2.fDen])) 3 (.agg #[.int .i64 p3.fNum, .int .i64 p3.fDen])) 4 (.pointer (some ⟨b1, 0, none⟩))) 6 (.pointer (some ⟨b2, 0, none⟩))) 7 (.pointer (some ⟨b3, 0, none⟩))) 8 (.bool false)) 9 (.bool y4)) 10 (.pointer (some ⟨b8, 0, none⟩))) 11 (.int .i64 y6.2)) 12 (.pointer (some ⟨b11, 0, none⟩))) 13 (.int .i64 y9.2)) 40 (.bool ((y6.2 != 0) || (y9.2 != 0)))) 52 (.bool ((y14 != 0) || (decide (y6.1.fLo < 0)))))) (fun tm0 => ?_) (fun key => ?_)
      · refine ox_y rfl (y_move_bool rfl) ?_
        refine ox_join 6 (fun tm0 => (upd (upd (upd (upd (upd (upd (upd (upd (upd (upd (upd (upd (upd (upd (upd tm0 0 (.agg #[.int .i64 p0.fBarrows, .int .i64 p0.fSeen.x0, .int .i64 p0.fSeen.x1, .int .i64 p0.fSeen.x2, .int .i64 p0.fKnown.x0.fLo, .int .i64 p0.fKnown.x0.fHi, .int .i64 p0.fKnown.x1.fLo, .int .i64 p0.fKnown.x1.fHi, .int .i64 p0.fKnown.x2.fLo, .int .i64 p0.fKnown.x2.fHi])) 1 (.int .i64 p1)) 2 (.agg #[.int .i64 p2.fNum, .int .i64 p2.fDen])) 3 (.agg #[.int .i64 p3.fNum, .int .i64 p3.fDen])) 4 (.pointer (some ⟨b1, 0, none⟩))) 6 (.pointer (some ⟨b2, 0, none⟩))) 7 (.pointer (some ⟨b3, 0, none⟩))) 8 (.bool false)) 9 (.bool y4)) 10 (.pointer (some ⟨b8, 0, none⟩))) 11 (.int .i64 y6.2)) 12 (.pointer (some ⟨b11, 0, none⟩))) 13 (.int .i64 y9.2)) 40 (.bool ((y6.2 != 0) || (y9.2 != 0)))) 59 (.bool (((y14 != 0) || (decide (y6.1.fLo < 0))) || (decide (y6.1.fHi < y6.1.fLo)))))) (fun tm0 => ?_) (fun key => ?_)
        · refine ox_y rfl (y_move_bool rfl) ?_
          refine ox_join 6 (fun tm0 => (upd (upd (upd (upd (upd (upd (upd (upd (upd (upd (upd (upd (upd (upd (upd tm0 0 (.agg #[.int .i64 p0.fBarrows, .int .i64 p0.fSeen.x0, .int .i64 p0.fSeen.x1, .int .i64 p0.fSeen.x2, .int .i64 p0.fKnown.x0.fLo, .int .i64 p0.fKnown.x0.fHi, .int .i64 p0.fKnown.x1.fLo, .int .i64 p0.fKnown.x1.fHi, .int .i64 p0.fKnown.x2.fLo, .int .i64 p0.fKnown.x2.fHi])) 1 (.int .i64 p1)) 2 (.agg #[.int .i64 p2.fNum, .int .i64 p2.fDen])) 3 (.agg #[.int .i64 p3.fNum, .int .i64 p3.fDen])) 4 (.pointer (some ⟨b1, 0, none⟩))) 6 (.pointer (some ⟨b2, 0, none⟩))) 7 (.pointer (some ⟨b3, 0, none⟩))) 8 (.bool false)) 9 (.bool y4)) 10 (.pointer (some ⟨b8, 0, none⟩))) 11 (.int .i64 y6.2)) 12 (.pointer (some ⟨b11, 0, none⟩))) 13 (.int .i64 y9.2)) 40 (.bool ((y6.2 != 0) || (y9.2 != 0)))) 66 (.bool ((((y14 != 0) || (decide (y6.1.fLo < 0))) || (decide (y6.1.fHi < y6.1.fLo))) || (decide (p0.fBarrows < y6.1.fHi)))))) (fun tm0 => ?_) (fun key => ?_)
          · refine ox_nil ?_
            refine ex_then ?_
            rcases ite_some h with ⟨hp19, h⟩ | ⟨hp19, h⟩
            · refine cx_true (congrArg Value.bool hp19) ?_
              refine cx_seq ?_
              refine cx_region ?_
              refine ox_y rfl (y_assign_bool rfl) ?_
              refine ox_nil ?_
              refine ex_then ?_
              refine cx_ret ?_
              refine ex_then_ret ?_
              obtain rfl := Option.some.inj h
              exact ex_res1 (.inl rfl) rfl (resV_tmp (v := .bool false) rfl) (fun W2 hW2 => ⟨rfl, hW2.none⟩)
            · refine cx_false (congrArg Value.bool hp19) ?_
              refine cx_skip ?_
              refine ex_then ?_
              refine cx_seq ?_
              refine cx_region ?_
              refine ox_y rfl (y_loadN 0 [.int .i64 p0.fBarrows, .int .i64 p0.fSeen.x0, .int .i64 p0.fSeen.x1, .int .i64 p0.fSeen.x2, .int .i64 p0.fKnown.x0.fLo, .int .i64 p0.fKnown.x0.fHi, .int .i64 p0.fKnown.x1.fLo, .int .i64 p0.fKnown.x1.fHi, .int .i64 p0.fKnown.x2.fLo, .int .i64 p0.fKnown.x2.fHi] ag_52 rfl rfl rfl) ?_
              refine ox_y rfl (y_move_int rfl) ?_
              obtain ⟨y20, hy21, h⟩ := bind_some h
              refine ox_call [.agg #[.int .i64 p0.fBarrows, .int .i64 p0.fSeen.x0, .int .i64 p0.fSeen.x1, .int .i64 p0.fSeen.x2, .int .i64 p0.fKnown.x0.fLo, .int .i64 p0.fKnown.x0.fHi, .int .i64 p0.fKnown.x1.fLo, .int .i64 p0.fKnown.x1.fHi, .int .i64 p0.fKnown.x2.fLo, .int .i64 p0.fKnown.x2.fHi], .int .i64 p1] _ _ _ rfl go_42 rfl (fun W2 hW2 => sample_Weights_ok p0 p1 y20 hy21 W2 ) ?_
              rintro ⟨A22, n24, c23⟩ hn25
              replace hn25 : n24 = y20.1.length := hn25; subst hn25
              try dsimp only [List.nil_append, List.cons_append, List.set_cons_zero, List.set_cons_succ]
              refine ox_y rfl (y_move_tuple rfl) ?_
              refine ox_y rfl (y_extract (vs := [.slice A22 y20.1.length c23, .int .i64 y20.2]) (v := .slice A22 y20.1.length c23) rfl rfl) ?_
              refine ox_y rfl (y_extract (vs := [.slice A22 y20.1.length c23, .int .i64 y20.2]) (v := .int .i64 y20.2) rfl rfl) ?_
              refine ox_y rfl (y_assign_slice rfl) ?_
              refine ox_y rfl (y_assign_int rfl) ?_
              refine ox_nil ?_
              refine ex_then ?_
              refine cx_seq ?_
              refine cx_seq ?_
              refine cx_region ?_
              refine ox_y rfl (y_move_int rfl) ?_
              refine ox_y rfl (y_neq rfl rfl) ?_
              refine ox_y rfl (y_move_bool rfl) ?_
              refine ox_join 6 (fun tm0 => (upd (upd (upd (upd (upd (upd (upd (upd (upd (upd (upd (upd (upd (upd (upd (upd (upd (upd tm0 0 (.agg #[.int .i64 p0.fBarrows, .int .i64 p0.fSeen.x0, .int .i64 p0.fSeen.x1, .int .i64 p0.fSeen.x2, .int .i64 p0.fKnown.x0.fLo, .int .i64 p0.fKnown.x0.fHi, .int .i64 p0.fKnown.x1.fLo, .int .i64 p0.fKnown.x1.fHi, .int .i64 p0.fKnown.x2.fLo, .int .i64 p0.fKnown.x2.fHi])) 1 (.int .i64 p1)) 2 (.agg #[.int .i64 p2.fNum, .int .i64 p2.fDen])) 3 (.agg #[.int .i64 p3.fNum, .int .i64 p3.fDen])) 4 (.pointer (some ⟨b1, 0, none⟩))) 6 (.pointer (some ⟨b2, 0, none⟩))) 7 (.pointer (some ⟨b3, 0, none⟩))) 8 (.bool false)) 9 (.bool y4)) 10 (.pointer (some ⟨b8, 0, none⟩))) 11 (.int .i64 y6.2)) 12 (.pointer (some ⟨b11, 0, none⟩))) 13 (.int .i64 y9.2)) 40 (.bool ((y6.2 != 0) || (y9.2 != 0)))) 66 (.bool ((((y14 != 0) || (decide (y6.1.fLo < 0))) || (decide (y6.1.fHi < y6.1.fLo))) || (decide (p0.fBarrows < y6.1.fHi))))) 14 (.slice A22 y20.1.length c23)) 15 (.int .i64 y20.2)) 81 (.bool ((y20.2 != 0) || (decide (((y20.1.length : Nat) : Int) ≤ y6.1.fHi)))))) (fun tm0 => ?_) (fun key => ?_)
              · refine ox_nil ?_
                refine ex_then ?_
                rcases ite_some h with ⟨hp27, h⟩ | ⟨hp27, h⟩
                · refine cx_true (congrArg Value.bool hp27) ?_
                  refine cx_seq ?_
                  refine cx_region ?_
                  refine ox_y rfl (y_assign_bool rfl) ?_
                  refine ox_nil ?_
                  refine ex_then ?_
                  refine cx_ret ?_
                  refine ex_then_ret ?_
                  obtain rfl := Option.some.inj h
                  exact ex_res1 (.inl rfl) rfl (resV_tmp (v := .bool false) rfl) (fun W2 hW2 => ⟨rfl, hW2.none⟩)
                · refine cx_false (congrArg Value.bool hp27) ?_
                  refine cx_skip ?_
                  refine ex_then ?_
                  refine cx_seq ?_
                  refine cx_region ?_
                  refine ox_y rfl (y_assign_int rfl) ?_
                  refine ox_nil ?_
                  refine ex_then ?_
                  refine cx_seq ?_
                  refine cx_region ?_
                  refine ox_y rfl (y_assign_int rfl) ?_
                  refine ox_nil ?_
                  refine ex_then ?_
                  refine cx_seq ?_
                  refine cx_seq ?_
                  refine cx_region ?_
                  refine ox_y rfl (y_assign_int rfl) ?_
                  refine ox_nil ?_
                  refine ex_then ?_
                  refine cx_block ?_
                  obtain ⟨u30, hl36, h⟩ := bind_some h
                  refine cx_loop (fun (s : (Int × Int × Int)) L tm => ∃ (tm0 : Nat → Value), L = [cellsR b1 52 [.int .i64 p0.fBarrows, .int .i64 p0.fSeen.x0, .int .i64 p0.fSeen.x1, .int .i64 p0.fSeen.x2, .int .i64 p0.fKnown.x0.fLo, .int .i64 p0.fKnown.x0.fHi, .int .i64 p0.fKnown.x1.fLo, .int .i64 p0.fKnown.x1.fHi, .int .i64 p0.fKnown.x2.fLo, .int .i64 p0.fKnown.x2.fHi], cellsR b2 23 [.int .i64 p2.fNum, .int .i64 p2.fDen], cellsR b3 23 [.int .i64 p3.fNum, .int .i64 p3.fDen], cellsR b8 33 [.int .i64 y6.1.fLo, .int .i64 y6.1.fHi], cellsR b11 33 [.int .i64 y9.1.fLo, .int .i64 y9.1.fHi], rowR A22 c23 3 1 y20.1.length (encL cI y20.1)] ∧ tm = (upd (upd (upd (upd (upd (upd (upd (upd (upd (upd (upd (upd (upd (upd (upd (upd (upd (upd (upd (upd (upd tm0 0 (.agg #[.int .i64 p0.fBarrows, .int .i64 p0.fSeen.x0, .int .i64 p0.fSeen.x1, .int .i64 p0.fSeen.x2, .int .i64 p0.fKnown.x0.fLo, .int .i64 p0.fKnown.x0.fHi, .int .i64 p0.fKnown.x1.fLo, .int .i64 p0.fKnown.x1.fHi, .int .i64 p0.fKnown.x2.fLo, .int .i64 p0.fKnown.x2.fHi])) 1 (.int .i64 p1)) 2 (.agg #[.int .i64 p2.fNum, .int .i64 p2.fDen])) 3 (.agg #[.int .i64 p3.fNum, .int .i64 p3.fDen])) 4 (.pointer (some ⟨b1, 0, none⟩))) 6 (.pointer (some ⟨b2, 0, none⟩))) 7 (.pointer (some ⟨b3, 0, none⟩))) 8 (.bool false)) 9 (.bool y4)) 10 (.pointer (some ⟨b8, 0, none⟩))) 11 (.int .i64 y6.2)) 12 (.pointer (some ⟨b11, 0, none⟩))) 13 (.int .i64 y9.2)) 40 (.bool ((y6.2 != 0) || (y9.2 != 0)))) 66 (.bool ((((y14 != 0) || (decide (y6.1.fLo < 0))) || (decide (y6.1.fHi < y6.1.fLo))) || (decide (p0.fBarrows < y6.1.fHi))))) 14 (.slice A22 y20.1.length c23)) 15 (.int .i64 y20.2)) 81 (.bool ((y20.2 != 0) || (decide (((y20.1.length : Nat) : Int) ≤ y6.1.fHi))))) 16 (.int .i64 s.1)) 17 (.int .i64 s.2.1)) 18 (.int .i64 s.2.2))) (fun s e L tm => e = .exit 0 ∧ ∃ (tm0 : Nat → Value), L = [cellsR b1 52 [.int .i64 p0.fBarrows, .int .i64 p0.fSeen.x0, .int .i64 p0.fSeen.x1, .int .i64 p0.fSeen.x2, .int .i64 p0.fKnown.x0.fLo, .int .i64 p0.fKnown.x0.fHi, .int .i64 p0.fKnown.x1.fLo, .int .i64 p0.fKnown.x1.fHi, .int .i64 p0.fKnown.x2.fLo, .int .i64 p0.fKnown.x2.fHi], cellsR b2 23 [.int .i64 p2.fNum, .int .i64 p2.fDen], cellsR b3 23 [.int .i64 p3.fNum, .int .i64 p3.fDen], cellsR b8 33 [.int .i64 y6.1.fLo, .int .i64 y6.1.fHi], cellsR b11 33 [.int .i64 y9.1.fLo, .int .i64 y9.1.fHi], rowR A22 c23 3 1 y20.1.length (encL cI y20.1)] ∧ tm = (upd (upd (upd (upd (upd (upd (upd (upd (upd (upd (upd (upd (upd (upd (upd (upd (upd (upd (upd (upd (upd tm0 0 (.agg #[.int .i64 p0.fBarrows, .int .i64 p0.fSeen.x0, .int .i64 p0.fSeen.x1, .int .i64 p0.fSeen.x2, .int .i64 p0.fKnown.x0.fLo, .int .i64 p0.fKnown.x0.fHi, .int .i64 p0.fKnown.x1.fLo, .int .i64 p0.fKnown.x1.fHi, .int .i64 p0.fKnown.x2.fLo, .int .i64 p0.fKnown.x2.fHi])) 1 (.int .i64 p1)) 2 (.agg #[.int .i64 p2.fNum, .int .i64 p2.fDen])) 3 (.agg #[.int .i64 p3.fNum, .int .i64 p3.fDen])) 4 (.pointer (some ⟨b1, 0, none⟩))) 6 (.pointer (some ⟨b2, 0, none⟩))) 7 (.pointer (some ⟨b3, 0, none⟩))) 8 (.bool false)) 9 (.bool y4)) 10 (.pointer (some ⟨b8, 0, none⟩))) 11 (.int .i64 y6.2)) 12 (.pointer (some ⟨b11, 0, none⟩))) 13 (.int .i64 y9.2)) 40 (.bool ((y6.2 != 0) || (y9.2 != 0)))) 66 (.bool ((((y14 != 0) || (decide (y6.1.fLo < 0))) || (decide (y6.1.fHi < y6.1.fLo))) || (decide (p0.fBarrows < y6.1.fHi))))) 14 (.slice A22 y20.1.length c23)) 15 (.int .i64 y20.2)) 81 (.bool ((y20.2 != 0) || (decide (((y20.1.length : Nat) : Int) ≤ y6.1.fHi))))) 16 (.int .i64 s.1)) 17 (.int .i64 s.2.1)) 18 (.int .i64 s.2.2))) hl36 ⟨_, rfl, (keep (keep (keep (keep (keep (keep (keep (keep (keep (keep (keep (keep (keep (keep (keep (keep (keep (keep (keep (keep (keep rfl rfl) rfl) rfl) rfl) rfl) rfl) rfl) rfl) rfl) rfl) rfl) rfl) rfl) rfl) rfl) rfl) rfl) rfl) rfl) rfl) rfl)⟩ ?_ ?_
                  · rintro s29 L tm st ⟨tm0_s29, rfl, rfl⟩ h
                    unfold calxlaw03_SampleWider_l1 at h
                    refine cx_seq ?_
                    refine cx_seq ?_
                    refine cx_region ?_
                    refine ox_y rfl (y_move_int rfl) ?_
                    refine ox_y rfl (y_move_slice rfl) ?_
                    refine ox_y rfl (y_len (us := []) us_66 rfl) ?_
                    refine ox_y rfl (y_lss rfl rfl) ?_
                    refine ox_nil ?_
                    refine ex_then ?_
                    rcases ite_some h with ⟨hp31, h⟩ | ⟨hp31, h⟩
                    · refine cx_true (congrArg Value.bool hp31) ?_
                      refine cx_skip ?_
                      refine ex_then ?_
                      refine cx_seq ?_
                      refine cx_block ?_
                      refine cx_seq ?_
                      refine cx_region ?_
                      refine ox_y rfl (y_move_int rfl) ?_
                      refine ox_y rfl (y_move_slice rfl) ?_
                      refine ox_y rfl (y_move_int rfl) ?_
                      obtain ⟨hg32, h⟩ := guardO_some h
                      refine ox_y rfl (y_indexR sl_66 (by decide) hg32.1 hg32.2 (RdL.row 5 rfl) (encL_len cI_len rfl) rfl rfl) ?_
                      refine ox_y rfl (y_loadR1 (A := A22) (j := (Int.toNat s29.2.2 * 1)) (v := .int .i64 (rdL y20.1 s29.2.2)) sc_3 (RdL.row 5 rfl) rfl (encL_get0 cI_len hg32.1 (lt_nat hg32.2 rfl) rfl)) ?_
                      refine ox_y rfl (y_add rfl rfl) ?_
                      refine ox_y rfl (y_assign_int rfl) ?_
                      refine ox_nil ?_
                      refine ex_then ?_
                      refine cx_seq ?_
                      refine cx_region ?_
                      refine ox_y rfl (y_move_int rfl) ?_
                      refine ox_y rfl (y_fieldAddr fo_33_0 rfl) ?_
                      refine ox_y rfl (y_load1 3 (v := .int .i64 y6.1.fLo) sc_3 rfl rfl rfl) ?_
                      refine ox_y rfl (y_geq rfl rfl) ?_
                      refine ox_y rfl (y_move_bool rfl) ?_
                      refine ox_join 5 (fun tm0 => (upd (upd (upd (upd (upd (upd (upd (upd (upd (upd (upd (upd (upd (upd (upd (upd (upd (upd (upd (upd (upd (upd (upd tm0 0 (.agg #[.int .i64 p0.fBarrows, .int .i64 p0.fSeen.x0, .int .i64 p0.fSeen.x1, .int .i64 p0.fSeen.x2, .int .i64 p0.fKnown.x0.fLo, .int .i64 p0.fKnown.x0.fHi, .int .i64 p0.fKnown.x1.fLo, .int .i64 p0.fKnown.x1.fHi, .int .i64 p0.fKnown.x2.fLo, .int .i64 p0.fKnown.x2.fHi])) 1 (.int .i64 p1)) 2 (.agg #[.int .i64 p2.fNum, .int .i64 p2.fDen])) 3 (.agg #[.int .i64 p3.fNum, .int .i64 p3.fDen])) 4 (.pointer (some ⟨b1, 0, none⟩))) 6 (.pointer (some ⟨b2, 0, none⟩))) 7 (.pointer (some ⟨b3, 0, none⟩))) 8 (.bool false)) 9 (.bool y4)) 10 (.pointer (some ⟨b8, 0, none⟩))) 11 (.int .i64 y6.2)) 12 (.pointer (some ⟨b11, 0, none⟩))) 13 (.int .i64 y9.2)) 40 (.bool ((y6.2 != 0) || (y9.2 != 0)))) 66 (.bool ((((y14 != 0) || (decide (y6.1.fLo < 0))) || (decide (y6.1.fHi < y6.1.fLo))) || (decide (p0.fBarrows < y6.1.fHi))))) 14 (.slice A22 y20.1.length c23)) 15 (.int .i64 y20.2)) 81 (.bool ((y20.2 != 0) || (decide (((y20.1.length : Nat) : Int) ≤ y6.1.fHi))))) 16 (.int .i64 s29.1)) 17 (.int .i64 (w64 (s29.2.1 + (rdL y20.1 s29.2.2))))) 18 (.int .i64 s29.2.2)) 85 (.bool (decide (s29.2.2 < ((y20.1.length : Nat) : Int))))) 103 (.bool ((decide (y6.1.fLo ≤ s29.2.2)) && (decide (s29.2.2 ≤ y6.1.fHi)))))) (fun tm0 => ?_) (fun key => ?_)
                      · refine ox_nil ?_
                        refine ex_then ?_
                        rcases ite_some h with ⟨hp34, h⟩ | ⟨hp34, h⟩
                        · refine cx_true (congrArg Value.bool hp34) ?_
                          refine cx_region ?_
                          refine ox_y rfl (y_move_int rfl) ?_
                          refine ox_y rfl (y_move_slice rfl) ?_
                          refine ox_y rfl (y_move_int rfl) ?_
                          obtain ⟨hg35, h⟩ := guardO_some h
                          refine ox_y rfl (y_indexR sl_66 (by decide) hg35.1 hg35.2 (RdL.row 5 rfl) (encL_len cI_len rfl) rfl rfl) ?_
                          refine ox_y rfl (y_loadR1 (A := A22) (j := (Int.toNat s29.2.2 * 1)) (v := .int .i64 (rdL y20.1 s29.2.2)) sc_3 (RdL.row 5 rfl) rfl (encL_get0 cI_len hg35.1 (lt_nat hg35.2 rfl) rfl)) ?_
                          refine ox_y rfl (y_add rfl rfl) ?_
                          refine ox_y rfl (y_assign_int rfl) ?_
                          refine ox_nil ?_
                          refine ex_block ?_
                          refine ex_then ?_
                          refine cx_region ?_
                          refine ox_y rfl (y_move_int rfl) ?_
                          refine ox_y rfl (y_add rfl rfl) ?_
                          refine ox_y rfl (y_assign_int rfl) ?_
                          refine ox_nil ?_
                          obtain rfl := Option.some.inj h
                          exact ex_next ⟨_, rfl, (keep (keep (keep (keep (keep (keep (keep (keep (keep (keep (keep (keep (keep (keep (keep (keep (keep (keep (keep (keep (keep rfl rfl) rfl) rfl) rfl) rfl) rfl) rfl) rfl) rfl) rfl) rfl) rfl) rfl) rfl) rfl) rfl) rfl) rfl) rfl) rfl) rfl)⟩
                        · refine cx_false (congrArg Value.bool hp34) ?_
                          refine cx_skip ?_
                          refine ex_block ?_
                          refine ex_then ?_
                          refine cx_region ?_
                          refine ox_y rfl (y_move_int rfl) ?_
                          refine ox_y rfl (y_add rfl rfl) ?_
                          refine ox_y rfl (y_assign_int rfl) ?_
                          refine ox_nil ?_
                          obtain rfl := Option.some.inj h
                          exact ex_next ⟨_, rfl, (keep (keep (keep (keep (keep (keep (keep (keep (keep (keep (keep (keep (keep (keep (keep (keep (keep (keep (keep (keep (keep rfl rfl) rfl) rfl) rfl) rfl) rfl) rfl) rfl) rfl) rfl) rfl) rfl) rfl) rfl) rfl) rfl) rfl) rfl) rfl) rfl) rfl)⟩
                      · rcases bool_cases (decide (y6.1.fLo ≤ s29.2.2)) with hp33 | hp33
                        · refine ox_y (sees_t rfl rfl rfl rfl hp33) (y_move_int rfl) ?_
                          refine ox_y (sees_t rfl rfl rfl rfl hp33) (y_fieldAddr fo_33_1 rfl) ?_
                          refine ox_y (sees_t rfl rfl rfl rfl hp33) (y_load1 3 (v := .int .i64 y6.1.fHi) sc_3 rfl rfl rfl) ?_
                          refine ox_y (sees_t rfl rfl rfl rfl hp33) (y_leq rfl rfl) ?_
                          refine ox_y rfl (y_pick_tb (congrArg Value.bool hp33) rfl) ?_
                          exact key _ _ (keep (keep (keep (keep (keep (keep (keep (keep (keep (keep (keep (keep (keep (keep (keep (keep (keep (keep (keep (keep (keep (keep (keep rfl rfl) rfl) rfl) rfl) rfl) rfl) rfl) rfl) rfl) rfl) rfl) rfl) rfl) rfl) rfl) rfl) rfl) rfl) rfl) rfl) rfl) rfl) (congrArg Value.bool (and_t hp33)))
                        · refine ox_skip (sees_f rfl rfl rfl rfl hp33) ?_
                          refine ox_skip (sees_f rfl rfl rfl rfl hp33) ?_
                          refine ox_skip (sees_f rfl rfl rfl rfl hp33) ?_
                          refine ox_skip (sees_f rfl rfl rfl rfl hp33) ?_
                          refine ox_y rfl (y_pick_fb (congrArg Value.bool hp33) rfl) ?_
                          exact key _ _ (keep (keep (keep (keep (keep (keep (keep (keep (keep (keep (keep (keep (keep (keep (keep (keep (keep (keep (keep (keep (keep (keep (keep rfl rfl) rfl) rfl) rfl) rfl) rfl) rfl) rfl) rfl) rfl) rfl) rfl) rfl) rfl) rfl) rfl) rfl) rfl) rfl) rfl) rfl) rfl) (congrArg Value.bool (and_f hp33)))
                    · refine cx_false (congrArg Value.bool hp31) ?_
                      refine cx_exit ?_
                      refine ex_then_exit ?_
                      obtain rfl := Option.some.inj h
                      exact ex_stop ⟨rfl, _, rfl, (keep (keep (keep (keep (keep (keep (keep (keep (keep (keep (keep (keep (keep (keep (keep (keep (keep (keep (keep (keep (keep rfl rfl) rfl) rfl) rfl) rfl) rfl) rfl) rfl) rfl) rfl) rfl) rfl) rfl) rfl) rfl) rfl) rfl) rfl) rfl) rfl) rfl)⟩
                  · intro e L tm hJ
                    obtain ⟨rfl, tm0_u30, rfl, rfl⟩ := hJ
                    refine ⟨(by intro hc; cases hc), ?_⟩
                    refine ex_block_here ?_
                    refine ex_then ?_
                    refine cx_seq ?_
                    refine cx_region ?_
                    refine ox_y rfl (y_fieldAddr fo_23_0 rfl) ?_
                    refine ox_y rfl (y_load1 2 (v := .int .i64 p3.fNum) sc_3 rfl rfl rfl) ?_
                    refine ox_y rfl (y_fieldAddr fo_23_1 rfl) ?_
                    refine ox_y rfl (y_load1 1 (v := .int .i64 p2.fDen) sc_3 rfl rfl rfl) ?_
                    refine ox_y rfl (y_mul rfl rfl) ?_
                    refine ox_y rfl (y_fieldAddr fo_23_0 rfl) ?_
                    refine ox_y rfl (y_load1 1 (v := .int .i64 p2.fNum) sc_3 rfl rfl rfl) ?_
                    refine ox_y rfl (y_fieldAddr fo_23_1 rfl) ?_
                    refine ox_y rfl (y_load1 2 (v := .int .i64 p3.fDen) sc_3 rfl rfl rfl) ?_
                    refine ox_y rfl (y_mul rfl rfl) ?_
                    refine ox_y rfl (y_geq rfl rfl) ?_
                    refine ox_y rfl (y_assign_bool rfl) ?_
                    refine ox_nil ?_
                    refine ex_then ?_
                    refine cx_seq ?_
                    refine cx_region ?_
                    refine ox_y rfl (y_move_bool rfl) ?_
                    refine ox_y rfl (y_move_bool rfl) ?_
                    refine ox_join 10 (fun tm0 => (upd (upd (upd (upd (upd (upd (upd (upd (upd (upd (upd (upd (upd (upd (upd (upd (upd (upd (upd (upd (upd (upd (upd tm0 0 (.agg #[.int .i64 p0.fBarrows, .int .i64 p0.fSeen.x0, .int .i64 p0.fSeen.x1, .int .i64 p0.fSeen.x2, .int .i64 p0.fKnown.x0.fLo, .int .i64 p0.fKnown.x0.fHi, .int .i64 p0.fKnown.x1.fLo, .int .i64 p0.fKnown.x1.fHi, .int .i64 p0.fKnown.x2.fLo, .int .i64 p0.fKnown.x2.fHi])) 1 (.int .i64 p1)) 2 (.agg #[.int .i64 p2.fNum, .int .i64 p2.fDen])) 3 (.agg #[.int .i64 p3.fNum, .int .i64 p3.fDen])) 4 (.pointer (some ⟨b1, 0, none⟩))) 6 (.pointer (some ⟨b2, 0, none⟩))) 7 (.pointer (some ⟨b3, 0, none⟩))) 8 (.bool false)) 9 (.bool y4)) 10 (.pointer (some ⟨b8, 0, none⟩))) 11 (.int .i64 y6.2)) 12 (.pointer (some ⟨b11, 0, none⟩))) 13 (.int .i64 y9.2)) 40 (.bool ((y6.2 != 0) || (y9.2 != 0)))) 66 (.bool ((((y14 != 0) || (decide (y6.1.fLo < 0))) || (decide (y6.1.fHi < y6.1.fLo))) || (decide (p0.fBarrows < y6.1.fHi))))) 14 (.slice A22 y20.1.length c23)) 15 (.int .i64 y20.2)) 81 (.bool ((y20.2 != 0) || (decide (((y20.1.length : Nat) : Int) ≤ y6.1.fHi))))) 16 (.int .i64 u30.1)) 17 (.int .i64 u30.2.1)) 18 (.int .i64 u30.2.2)) 19 (.bool (decide (w64 (p2.fNum * p3.fDen) ≤ w64 (p3.fNum * p2.fDen))))) 132 (.bool (y4 && (decide (w64 (u30.2.1 * p2.fNum) ≤ w64 (u30.1 * p2.fDen))))))) (fun tm0 => ?_) (fun key => ?_)
                    · refine ox_y rfl (y_move_bool rfl) ?_
                      refine ox_join 16 (fun tm0 => (upd (upd (upd (upd (upd (upd (upd (upd (upd (upd (upd (upd (upd (upd (upd (upd (upd (upd (upd (upd (upd (upd (upd tm0 0 (.agg #[.int .i64 p0.fBarrows, .int .i64 p0.fSeen.x0, .int .i64 p0.fSeen.x1, .int .i64 p0.fSeen.x2, .int .i64 p0.fKnown.x0.fLo, .int .i64 p0.fKnown.x0.fHi, .int .i64 p0.fKnown.x1.fLo, .int .i64 p0.fKnown.x1.fHi, .int .i64 p0.fKnown.x2.fLo, .int .i64 p0.fKnown.x2.fHi])) 1 (.int .i64 p1)) 2 (.agg #[.int .i64 p2.fNum, .int .i64 p2.fDen])) 3 (.agg #[.int .i64 p3.fNum, .int .i64 p3.fDen])) 4 (.pointer (some ⟨b1, 0, none⟩))) 6 (.pointer (some ⟨b2, 0, none⟩))) 7 (.pointer (some ⟨b3, 0, none⟩))) 8 (.bool false)) 9 (.bool y4)) 10 (.pointer (some ⟨b8, 0, none⟩))) 11 (.int .i64 y6.2)) 12 (.pointer (some ⟨b11, 0, none⟩))) 13 (.int .i64 y9.2)) 40 (.bool ((y6.2 != 0) || (y9.2 != 0)))) 66 (.bool ((((y14 != 0) || (decide (y6.1.fLo < 0))) || (decide (y6.1.fHi < y6.1.fLo))) || (decide (p0.fBarrows < y6.1.fHi))))) 14 (.slice A22 y20.1.length c23)) 15 (.int .i64 y20.2)) 81 (.bool ((y20.2 != 0) || (decide (((y20.1.length : Nat) : Int) ≤ y6.1.fHi))))) 16 (.int .i64 u30.1)) 17 (.int .i64 u30.2.1)) 18 (.int .i64 u30.2.2)) 19 (.bool (decide (w64 (p2.fNum * p3.fDen) ≤ w64 (p3.fNum * p2.fDen))))) 149 (.bool ((y4 && (decide (w64 (u30.2.1 * p2.fNum) ≤ w64 (u30.1 * p2.fDen)))) && ((!(decide (w64 (p2.fNum * p3.fDen) ≤ w64 (p3.fNum * p2.fDen)))) || (decide (w64 (y6.1.fHi - y6.1.fLo) ≤ w64 (y9.1.fHi - y9.1.fLo)))))))) (fun tm0 => ?_) (fun key => ?_)
                      · refine ox_y rfl (y_assign_bool rfl) ?_
                        refine ox_nil ?_
                        refine ex_then ?_
                        refine cx_ret ?_
                        obtain rfl := Option.some.inj h
                        exact ex_res1 (.inl rfl) rfl (resV_tmp (v := .bool ((y4 && (decide (w64 (u30.2.1 * p2.fNum) ≤ w64 (u30.1 * p2.fDen)))) && ((!(decide (w64 (p2.fNum * p3.fDen) ≤ w64 (p3.fNum * p2.fDen)))) || (decide (w64 (y6.1.fHi - y6.1.fLo) ≤ w64 (y9.1.fHi - y9.1.fLo)))))) rfl) (fun W2 hW2 => ⟨rfl, hW2.none⟩)
                      · rcases bool_cases (y4 && (decide (w64 (u30.2.1 * p2.fNum) ≤ w64 (u30.1 * p2.fDen)))) with hp38 | hp38
                        · refine ox_y (sees_t rfl rfl rfl rfl hp38) (y_move_bool rfl) ?_
                          refine ox_y (sees_t rfl rfl rfl rfl hp38) (y_not rfl) ?_
                          refine ox_y (sees_t rfl rfl rfl rfl hp38) (y_move_bool rfl) ?_
                          refine ox_join 12 (fun tm0 => (upd (upd (upd (upd (upd (upd (upd (upd (upd (upd (upd (upd (upd (upd (upd (upd (upd (upd (upd (upd (upd (upd (upd (upd tm0 0 (.agg #[.int .i64 p0.fBarrows, .int .i64 p0.fSeen.x0, .int .i64 p0.fSeen.x1, .int .i64 p0.fSeen.x2, .int .i64 p0.fKnown.x0.fLo, .int .i64 p0.fKnown.x0.fHi, .int .i64 p0.fKnown.x1.fLo, .int .i64 p0.fKnown.x1.fHi, .int .i64 p0.fKnown.x2.fLo, .int .i64 p0.fKnown.x2.fHi])) 1 (.int .i64 p1)) 2 (.agg #[.int .i64 p2.fNum, .int .i64 p2.fDen])) 3 (.agg #[.int .i64 p3.fNum, .int .i64 p3.fDen])) 4 (.pointer (some ⟨b1, 0, none⟩))) 6 (.pointer (some ⟨b2, 0, none⟩))) 7 (.pointer (some ⟨b3, 0, none⟩))) 8 (.bool false)) 9 (.bool y4)) 10 (.pointer (some ⟨b8, 0, none⟩))) 11 (.int .i64 y6.2)) 12 (.pointer (some ⟨b11, 0, none⟩))) 13 (.int .i64 y9.2)) 40 (.bool ((y6.2 != 0) || (y9.2 != 0)))) 66 (.bool ((((y14 != 0) || (decide (y6.1.fLo < 0))) || (decide (y6.1.fHi < y6.1.fLo))) || (decide (p0.fBarrows < y6.1.fHi))))) 14 (.slice A22 y20.1.length c23)) 15 (.int .i64 y20.2)) 81 (.bool ((y20.2 != 0) || (decide (((y20.1.length : Nat) : Int) ≤ y6.1.fHi))))) 16 (.int .i64 u30.1)) 17 (.int .i64 u30.2.1)) 18 (.int .i64 u30.2.2)) 19 (.bool (decide (w64 (p2.fNum * p3.fDen) ≤ w64 (p3.fNum * p2.fDen))))) 133 (.bool (y4 && (decide (w64 (u30.2.1 * p2.fNum) ≤ w64 (u30.1 * p2.fDen)))))) 148 (.bool ((!(decide (w64 (p2.fNum * p3.fDen) ≤ w64 (p3.fNum * p2.fDen)))) || (decide (w64 (y6.1.fHi - y6.1.fLo) ≤ w64 (y9.1.fHi - y9.1.fLo))))))) (fun tm0 => ?_) (fun key => ?_)
                          · refine ox_y rfl (y_pick_tb (congrArg Value.bool hp38) rfl) ?_
                            exact key _ _ (keep (keep (keep (keep (keep (keep (keep (keep (keep (keep (keep (keep (keep (keep (keep (keep (keep (keep (keep (keep (keep (keep (keep rfl rfl) rfl) rfl) rfl) rfl) rfl) rfl) rfl) rfl) rfl) rfl) rfl) rfl) rfl) rfl) rfl) rfl) rfl) rfl) rfl) rfl) rfl) (congrArg Value.bool (and_t hp38)))
                          · rcases bool_cases (!(decide (w64 (p2.fNum * p3.fDen) ≤ w64 (p3.fNum * p2.fDen)))) with hp39 | hp39
                            · refine ox_skip (sees_f rfl rfl rfl rfl hp39) ?_
                              refine ox_skip (sees_f rfl rfl rfl rfl hp39) ?_
                              refine ox_skip (sees_f rfl rfl rfl rfl hp39) ?_
                              refine ox_skip (sees_f rfl rfl rfl rfl hp39) ?_
                              refine ox_skip (sees_f rfl rfl rfl rfl hp39) ?_
                              refine ox_skip (sees_f rfl rfl rfl rfl hp39) ?_
                              refine ox_skip (sees_f rfl rfl rfl rfl hp39) ?_
                              refine ox_skip (sees_f rfl rfl rfl rfl hp39) ?_
                              refine ox_skip (sees_f rfl rfl rfl rfl hp39) ?_
                              refine ox_skip (sees_f rfl rfl rfl rfl hp39) ?_
                              refine ox_skip (sees_f rfl rfl rfl rfl hp39) ?_
                              refine ox_y (sees_t rfl rfl rfl rfl hp38) (y_pick_tb (congrArg Value.bool hp39) rfl) ?_
                              exact key _ _ (keep (keep (keep (keep (keep (keep (keep (keep (keep (keep (keep (keep (keep (keep (keep (keep (keep (keep (keep (keep (keep (keep (keep (keep rfl rfl) rfl) rfl) rfl) rfl) rfl) rfl) rfl) rfl) rfl) rfl) rfl) rfl) rfl) rfl) rfl) rfl) rfl) rfl) rfl) rfl) rfl) rfl) (congrArg Value.bool (or_t hp39)))
                            · refine ox_y (sees_t rfl rfl rfl rfl hp39) (y_fieldAddr fo_33_1 rfl) ?_
                              refine ox_y (sees_t rfl rfl rfl rfl hp39) (y_load1 4 (v := .int .i64 y9.1.fHi) sc_3 rfl rfl rfl) ?_
                              refine ox_y (sees_t rfl rfl rfl rfl hp39) (y_fieldAddr fo_33_0 rfl) ?_
                              refine ox_y (sees_t rfl rfl rfl rfl hp39) (y_load1 4 (v := .int .i64 y9.1.fLo) sc_3 rfl rfl rfl) ?_
                              refine ox_y (sees_t rfl rfl rfl rfl hp39) (y_sub rfl rfl) ?_
                              refine ox_y (sees_t rfl rfl rfl rfl hp39) (y_fieldAddr fo_33_1 rfl) ?_
                              refine ox_y (sees_t rfl rfl rfl rfl hp39) (y_load1 3 (v := .int .i64 y6.1.fHi) sc_3 rfl rfl rfl) ?_
                              refine ox_y (sees_t rfl rfl rfl rfl hp39) (y_fieldAddr fo_33_0 rfl) ?_
                              refine ox_y (sees_t rfl rfl rfl rfl hp39) (y_load1 3 (v := .int .i64 y6.1.fLo) sc_3 rfl rfl rfl) ?_
                              refine ox_y (sees_t rfl rfl rfl rfl hp39) (y_sub rfl rfl) ?_
                              refine ox_y (sees_t rfl rfl rfl rfl hp39) (y_geq rfl rfl) ?_
                              refine ox_y (sees_t rfl rfl rfl rfl hp38) (y_pick_fb (congrArg Value.bool hp39) rfl) ?_
                              exact key _ _ (keep (keep (keep (keep (keep (keep (keep (keep (keep (keep (keep (keep (keep (keep (keep (keep (keep (keep (keep (keep (keep (keep (keep (keep rfl rfl) rfl) rfl) rfl) rfl) rfl) rfl) rfl) rfl) rfl) rfl) rfl) rfl) rfl) rfl) rfl) rfl) rfl) rfl) rfl) rfl) rfl) rfl) (congrArg Value.bool (or_f hp39)))
                        · refine ox_skip (sees_f rfl rfl rfl rfl hp38) ?_
                          refine ox_skip (sees_f rfl rfl rfl rfl hp38) ?_
                          refine ox_skip (sees_f rfl rfl rfl rfl hp38) ?_
                          refine ox_skip rfl ?_
                          refine ox_skip rfl ?_
                          refine ox_skip rfl ?_
                          refine ox_skip rfl ?_
                          refine ox_skip rfl ?_
                          refine ox_skip rfl ?_
                          refine ox_skip rfl ?_
                          refine ox_skip rfl ?_
                          refine ox_skip rfl ?_
                          refine ox_skip rfl ?_
                          refine ox_skip rfl ?_
                          refine ox_skip (sees_f rfl rfl rfl rfl hp38) ?_
                          refine ox_y rfl (y_pick_fb (congrArg Value.bool hp38) rfl) ?_
                          exact key _ _ (keep (keep (keep (keep (keep (keep (keep (keep (keep (keep (keep (keep (keep (keep (keep (keep (keep (keep (keep (keep (keep (keep (keep rfl rfl) rfl) rfl) rfl) rfl) rfl) rfl) rfl) rfl) rfl) rfl) rfl) rfl) rfl) rfl) rfl) rfl) rfl) rfl) rfl) rfl) rfl) (congrArg Value.bool (and_f hp38)))
                    · rcases bool_cases y4 with hp37 | hp37
                      · refine ox_y (sees_t rfl rfl rfl rfl hp37) (y_move_int rfl) ?_
                        refine ox_y (sees_t rfl rfl rfl rfl hp37) (y_fieldAddr fo_23_1 rfl) ?_
                        refine ox_y (sees_t rfl rfl rfl rfl hp37) (y_load1 1 (v := .int .i64 p2.fDen) sc_3 rfl rfl rfl) ?_
                        refine ox_y (sees_t rfl rfl rfl rfl hp37) (y_mul rfl rfl) ?_
                        refine ox_y (sees_t rfl rfl rfl rfl hp37) (y_move_int rfl) ?_
                        refine ox_y (sees_t rfl rfl rfl rfl hp37) (y_fieldAddr fo_23_0 rfl) ?_
                        refine ox_y (sees_t rfl rfl rfl rfl hp37) (y_load1 1 (v := .int .i64 p2.fNum) sc_3 rfl rfl rfl) ?_
                        refine ox_y (sees_t rfl rfl rfl rfl hp37) (y_mul rfl rfl) ?_
                        refine ox_y (sees_t rfl rfl rfl rfl hp37) (y_geq rfl rfl) ?_
                        refine ox_y rfl (y_pick_tb (congrArg Value.bool hp37) rfl) ?_
                        exact key _ _ (keep (keep (keep (keep (keep (keep (keep (keep (keep (keep (keep (keep (keep (keep (keep (keep (keep (keep (keep (keep (keep (keep (keep rfl rfl) rfl) rfl) rfl) rfl) rfl) rfl) rfl) rfl) rfl) rfl) rfl) rfl) rfl) rfl) rfl) rfl) rfl) rfl) rfl) rfl) rfl) (congrArg Value.bool (and_t hp37)))
                      · refine ox_skip (sees_f rfl rfl rfl rfl hp37) ?_
                        refine ox_skip (sees_f rfl rfl rfl rfl hp37) ?_
                        refine ox_skip (sees_f rfl rfl rfl rfl hp37) ?_
                        refine ox_skip (sees_f rfl rfl rfl rfl hp37) ?_
                        refine ox_skip (sees_f rfl rfl rfl rfl hp37) ?_
                        refine ox_skip (sees_f rfl rfl rfl rfl hp37) ?_
                        refine ox_skip (sees_f rfl rfl rfl rfl hp37) ?_
                        refine ox_skip (sees_f rfl rfl rfl rfl hp37) ?_
                        refine ox_skip (sees_f rfl rfl rfl rfl hp37) ?_
                        refine ox_y rfl (y_pick_fb (congrArg Value.bool hp37) rfl) ?_
                        exact key _ _ (keep (keep (keep (keep (keep (keep (keep (keep (keep (keep (keep (keep (keep (keep (keep (keep (keep (keep (keep (keep (keep (keep (keep rfl rfl) rfl) rfl) rfl) rfl) rfl) rfl) rfl) rfl) rfl) rfl) rfl) rfl) rfl) rfl) rfl) rfl) rfl) rfl) rfl) rfl) rfl) (congrArg Value.bool (and_f hp37)))
              · rcases bool_cases (y20.2 != 0) with hp26 | hp26
                · refine ox_skip (sees_f rfl rfl rfl rfl hp26) ?_
                  refine ox_skip (sees_f rfl rfl rfl rfl hp26) ?_
                  refine ox_skip (sees_f rfl rfl rfl rfl hp26) ?_
                  refine ox_skip (sees_f rfl rfl rfl rfl hp26) ?_
                  refine ox_skip (sees_f rfl rfl rfl rfl hp26) ?_
                  refine ox_y rfl (y_pick_tb (congrArg Value.bool hp26) rfl) ?_
                  exact key _ _ (keep (keep (keep (keep (keep (keep (keep (keep (keep (keep (keep (keep (keep (keep (keep (keep (keep (keep rfl rfl) rfl) rfl) rfl) rfl) rfl) rfl) rfl) rfl) rfl) rfl) rfl) rfl) rfl) rfl) rfl) rfl) (congrArg Value.bool (or_t hp26)))
                · refine ox_y (sees_t rfl rfl rfl rfl hp26) (y_move_slice rfl) ?_
                  refine ox_y (sees_t rfl rfl rfl rfl hp26) (y_len (us := []) us_66 rfl) ?_
                  refine ox_y (sees_t rfl rfl rfl rfl hp26) (y_fieldAddr fo_33_1 rfl) ?_
                  refine ox_y (sees_t rfl rfl rfl rfl hp26) (y_load1 3 (v := .int .i64 y6.1.fHi) sc_3 rfl rfl rfl) ?_
                  refine ox_y (sees_t rfl rfl rfl rfl hp26) (y_leq rfl rfl) ?_
                  refine ox_y rfl (y_pick_fb (congrArg Value.bool hp26) rfl) ?_
                  exact key _ _ (keep (keep (keep (keep (keep (keep (keep (keep (keep (keep (keep (keep (keep (keep (keep (keep (keep (keep rfl rfl) rfl) rfl) rfl) rfl) rfl) rfl) rfl) rfl) rfl) rfl) rfl) rfl) rfl) rfl) rfl) rfl) (congrArg Value.bool (or_f hp26)))
          · rcases bool_cases (((y14 != 0) || (decide (y6.1.fLo < 0))) || (decide (y6.1.fHi < y6.1.fLo))) with hp18 | hp18
            · refine ox_skip (sees_f rfl rfl rfl rfl hp18) ?_
              refine ox_skip (sees_f rfl rfl rfl rfl hp18) ?_
              refine ox_skip (sees_f rfl rfl rfl rfl hp18) ?_
              refine ox_skip (sees_f rfl rfl rfl rfl hp18) ?_
              refine ox_skip (sees_f rfl rfl rfl rfl hp18) ?_
              refine ox_y rfl (y_pick_tb (congrArg Value.bool hp18) rfl) ?_
              exact key _ _ (keep (keep (keep (keep (keep (keep (keep (keep (keep (keep (keep (keep (keep (keep (keep rfl rfl) rfl) rfl) rfl) rfl) rfl) rfl) rfl) rfl) rfl) rfl) rfl) rfl) rfl) (congrArg Value.bool (or_t hp18)))
            · refine ox_y (sees_t rfl rfl rfl rfl hp18) (y_fieldAddr fo_33_1 rfl) ?_
              refine ox_y (sees_t rfl rfl rfl rfl hp18) (y_load1 3 (v := .int .i64 y6.1.fHi) sc_3 rfl rfl rfl) ?_
              refine ox_y (sees_t rfl rfl rfl rfl hp18) (y_fieldAddr fo_52_0 rfl) ?_
              refine ox_y (sees_t rfl rfl rfl rfl hp18) (y_load1 0 (v := .int .i64 p0.fBarrows) sc_3 rfl rfl rfl) ?_
              refine ox_y (sees_t rfl rfl rfl rfl hp18) (y_gtr rfl rfl) ?_
              refine ox_y rfl (y_pick_fb (congrArg Value.bool hp18) rfl) ?_
              exact key _ _ (keep (keep (keep (keep (keep (keep (keep (keep (keep (keep (keep (keep (keep (keep (keep rfl rfl) rfl) rfl) rfl) rfl) rfl) rfl) rfl) rfl) rfl) rfl) rfl) rfl) rfl) (congrArg Value.bool (or_f hp18)))
        · rcases bool_cases ((y14 != 0) || (decide (y6.1.fLo < 0))) with hp17 | hp17
          · refine ox_skip (sees_f rfl rfl rfl rfl hp17) ?_
            refine ox_skip (sees_f rfl rfl rfl rfl hp17) ?_
            refine ox_skip (sees_f rfl rfl rfl rfl hp17) ?_
            refine ox_skip (sees_f rfl rfl rfl rfl hp17) ?_
            refine ox_skip (sees_f rfl rfl rfl rfl hp17) ?_
            refine ox_y rfl (y_pick_tb (congrArg Value.bool hp17) rfl) ?_
            exact key _ _ (keep (keep (keep (keep (keep (keep (keep (keep (keep (keep (keep (keep (keep (keep (keep rfl rfl) rfl) rfl) rfl) rfl) rfl) rfl) rfl) rfl) rfl) rfl) rfl) rfl) rfl) (congrArg Value.bool (or_t hp17)))
          · refine ox_y (sees_t rfl rfl rfl rfl hp17) (y_fieldAddr fo_33_0 rfl) ?_
            refine ox_y (sees_t rfl rfl rfl rfl hp17) (y_load1 3 (v := .int .i64 y6.1.fLo) sc_3 rfl rfl rfl) ?_
            refine ox_y (sees_t rfl rfl rfl rfl hp17) (y_fieldAddr fo_33_1 rfl) ?_
            refine ox_y (sees_t rfl rfl rfl rfl hp17) (y_load1 3 (v := .int .i64 y6.1.fHi) sc_3 rfl rfl rfl) ?_
            refine ox_y (sees_t rfl rfl rfl rfl hp17) (y_gtr rfl rfl) ?_
            refine ox_y rfl (y_pick_fb (congrArg Value.bool hp17) rfl) ?_
            exact key _ _ (keep (keep (keep (keep (keep (keep (keep (keep (keep (keep (keep (keep (keep (keep (keep rfl rfl) rfl) rfl) rfl) rfl) rfl) rfl) rfl) rfl) rfl) rfl) rfl) rfl) rfl) (congrArg Value.bool (or_f hp17)))
      · rcases bool_cases (y14 != 0) with hp16 | hp16
        · refine ox_skip (sees_f rfl rfl rfl rfl hp16) ?_
          refine ox_skip (sees_f rfl rfl rfl rfl hp16) ?_
          refine ox_skip (sees_f rfl rfl rfl rfl hp16) ?_
          refine ox_y rfl (y_pick_tb (congrArg Value.bool hp16) rfl) ?_
          exact key _ _ (keep (keep (keep (keep (keep (keep (keep (keep (keep (keep (keep (keep (keep (keep (keep rfl rfl) rfl) rfl) rfl) rfl) rfl) rfl) rfl) rfl) rfl) rfl) rfl) rfl) rfl) (congrArg Value.bool (or_t hp16)))
        · refine ox_y (sees_t rfl rfl rfl rfl hp16) (y_fieldAddr fo_33_0 rfl) ?_
          refine ox_y (sees_t rfl rfl rfl rfl hp16) (y_load1 3 (v := .int .i64 y6.1.fLo) sc_3 rfl rfl rfl) ?_
          refine ox_y (sees_t rfl rfl rfl rfl hp16) (y_lss rfl rfl) ?_
          refine ox_y rfl (y_pick_fb (congrArg Value.bool hp16) rfl) ?_
          exact key _ _ (keep (keep (keep (keep (keep (keep (keep (keep (keep (keep (keep (keep (keep (keep (keep rfl rfl) rfl) rfl) rfl) rfl) rfl) rfl) rfl) rfl) rfl) rfl) rfl) rfl) rfl) (congrArg Value.bool (or_f hp16)))
  · rcases bool_cases (y6.2 != 0) with hp12 | hp12
    · refine ox_skip (sees_f rfl rfl rfl rfl hp12) ?_
      refine ox_skip (sees_f rfl rfl rfl rfl hp12) ?_
      refine ox_y rfl (y_pick_tb (congrArg Value.bool hp12) rfl) ?_
      exact key _ _ (keep (keep (keep (keep (keep (keep (keep (keep (keep (keep (keep (keep (keep (keep rfl rfl) rfl) rfl) rfl) rfl) rfl) rfl) rfl) rfl) rfl) rfl) rfl) rfl) (congrArg Value.bool (or_t hp12)))
    · refine ox_y (sees_t rfl rfl rfl rfl hp12) (y_move_int rfl) ?_
      refine ox_y (sees_t rfl rfl rfl rfl hp12) (y_neq rfl rfl) ?_
      refine ox_y rfl (y_pick_fb (congrArg Value.bool hp12) rfl) ?_
      exact key _ _ (keep (keep (keep (keep (keep (keep (keep (keep (keep (keep (keep (keep (keep (keep rfl rfl) rfl) rfl) rfl) rfl) rfl) rfl) rfl) rfl) rfl) rfl) rfl) rfl) (congrArg Value.bool (or_f hp12)))

end Go.Proofs.Ytepfgdfahinpkaa
