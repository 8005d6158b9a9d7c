/- The calls hand back what the plain functions say. -/
import Derived.Test.YtepfgdfahinpkaaF
import Derived.Test.YtepfgdfahinpkaaC1
import Derived.Test.YtepfgdfahinpkaaC2
import Derived.Test.YtepfgdfahinpkaaC3
import Derived.Test.YtepfgdfahinpkaaC10
set_option linter.unusedVariables false
set_option maxHeartbeats 4000000
namespace Go.Proofs.Ytepfgdfahinpkaa
open Go.RowKit (Below)
attribute [local irreducible] OX QX CX EX OpY Calls CallsIn

/-! calx/calxlaw03.SampleOrder -/
set_option maxRecDepth 100000 in
theorem calxlaw03_SampleOrder_ok (p0 : TBatch) (p1 : TKinds) (p2 : TKinds) (p3 : Int) (res : Bool) (h : calxlaw03_SampleOrder p0 p1 p2 p3 = some res) (W : World)  :
    Calls Try.prog 18 [.agg #[.int .i64 p0.fBarrows, .int .i64 p0.fSeen.x0, .int .i64 p0.fSeen.x1, .int .i64 p0.fSeen.x2, .int .i64 p0.fKnown.x0.fLo, .int .i64 p0.fKnown.x0.fHi, .int .i64 p0.fKnown.x1.fLo, .int .i64 p0.fKnown.x1.fHi, .int .i64 p0.fKnown.x2.fLo, .int .i64 p0.fKnown.x2.fHi], .agg #[.int .i64 p1.x0, .int .i64 p1.x1, .int .i64 p1.x2], .agg #[.int .i64 p2.x0, .int .i64 p2.x1, .int .i64 p2.x2], .int .i64 p3].toArray W fun e W2 => e = .returned (.bool res) ∧ Ext W W2 [] := by
  unfold calxlaw03_SampleOrder at h
  refine calls_enter (m := 160) Try.func18 rfl rfl (Nat.le_of_ble_eq_true rfl) ?_
  refine cx_seq ?_
  refine cx_region ?_
  refine ox_box [.int .i64 p0.fBarrows, .int .i64 p0.fSeen.x0, .int .i64 p0.fSeen.x1, .int .i64 p0.fSeen.x2, .int .i64 p0.fKnown.x0.fLo, .int .i64 p0.fKnown.x0.fHi, .int .i64 p0.fKnown.x1.fLo, .int .i64 p0.fKnown.x1.fHi, .int .i64 p0.fKnown.x2.fLo, .int .i64 p0.fKnown.x2.fHi] rfl rfl rfl (fun b1 => ?_)
  refine ox_box [.int .i64 p1.x0, .int .i64 p1.x1, .int .i64 p1.x2] rfl rfl rfl (fun b2 => ?_)
  refine ox_box [.int .i64 p2.x0, .int .i64 p2.x1, .int .i64 p2.x2] rfl rfl rfl (fun b3 => ?_)
  refine ox_y rfl (y_assign_bool rfl) ?_
  refine ox_nil ?_
  refine ex_then ?_
  refine cx_seq ?_
  refine cx_region ?_
  obtain ⟨y4, hy5, h⟩ := bind_some h
  refine ox_y rfl (y_call [] go_22 rfl (fun W2 hW2 => calxlaw03_head_ok  y4 hy5 W2 ) rfl) ?_
  refine ox_y rfl (y_assign_bool rfl) ?_
  refine ox_nil ?_
  refine ex_then ?_
  refine cx_seq ?_
  refine cx_region ?_
  refine ox_y rfl (y_loadN 0 [.int .i64 p0.fBarrows, .int .i64 p0.fSeen.x0, .int .i64 p0.fSeen.x1, .int .i64 p0.fSeen.x2, .int .i64 p0.fKnown.x0.fLo, .int .i64 p0.fKnown.x0.fHi, .int .i64 p0.fKnown.x1.fLo, .int .i64 p0.fKnown.x1.fHi, .int .i64 p0.fKnown.x2.fLo, .int .i64 p0.fKnown.x2.fHi] ag_52 rfl rfl rfl) ?_
  refine ox_y rfl (y_loadN 1 [.int .i64 p1.x0, .int .i64 p1.x1, .int .i64 p1.x2] ag_43 rfl rfl rfl) ?_
  obtain ⟨y6, hy7, h⟩ := bind_some h
  refine ox_y rfl (y_call [.agg #[.int .i64 p0.fBarrows, .int .i64 p0.fSeen.x0, .int .i64 p0.fSeen.x1, .int .i64 p0.fSeen.x2, .int .i64 p0.fKnown.x0.fLo, .int .i64 p0.fKnown.x0.fHi, .int .i64 p0.fKnown.x1.fLo, .int .i64 p0.fKnown.x1.fHi, .int .i64 p0.fKnown.x2.fLo, .int .i64 p0.fKnown.x2.fHi], .agg #[.int .i64 p1.x0, .int .i64 p1.x1, .int .i64 p1.x2]] go_62 rfl (fun W2 hW2 => sample_More_ok p0 p1 y6 hy7 W2 ) rfl) ?_
  refine ox_y rfl (y_move_tuple rfl) ?_
  refine ox_y rfl (y_extract (vs := [.agg #[.int .i64 y6.1.fBarrows, .int .i64 y6.1.fSeen.x0, .int .i64 y6.1.fSeen.x1, .int .i64 y6.1.fSeen.x2, .int .i64 y6.1.fKnown.x0.fLo, .int .i64 y6.1.fKnown.x0.fHi, .int .i64 y6.1.fKnown.x1.fLo, .int .i64 y6.1.fKnown.x1.fHi, .int .i64 y6.1.fKnown.x2.fLo, .int .i64 y6.1.fKnown.x2.fHi], .int .i64 y6.2]) (v := .agg #[.int .i64 y6.1.fBarrows, .int .i64 y6.1.fSeen.x0, .int .i64 y6.1.fSeen.x1, .int .i64 y6.1.fSeen.x2, .int .i64 y6.1.fKnown.x0.fLo, .int .i64 y6.1.fKnown.x0.fHi, .int .i64 y6.1.fKnown.x1.fLo, .int .i64 y6.1.fKnown.x1.fHi, .int .i64 y6.1.fKnown.x2.fLo, .int .i64 y6.1.fKnown.x2.fHi]) rfl rfl) ?_
  refine ox_y rfl (y_extract (vs := [.agg #[.int .i64 y6.1.fBarrows, .int .i64 y6.1.fSeen.x0, .int .i64 y6.1.fSeen.x1, .int .i64 y6.1.fSeen.x2, .int .i64 y6.1.fKnown.x0.fLo, .int .i64 y6.1.fKnown.x0.fHi, .int .i64 y6.1.fKnown.x1.fLo, .int .i64 y6.1.fKnown.x1.fHi, .int .i64 y6.1.fKnown.x2.fLo, .int .i64 y6.1.fKnown.x2.fHi], .int .i64 y6.2]) (v := .int .i64 y6.2) rfl rfl) ?_
  refine ox_alloc ze_52 rfl (fun b8 => ?_)
  refine ox_n rfl (y_storeN 3 [.int .i64 y6.1.fBarrows, .int .i64 y6.1.fSeen.x0, .int .i64 y6.1.fSeen.x1, .int .i64 y6.1.fSeen.x2, .int .i64 y6.1.fKnown.x0.fLo, .int .i64 y6.1.fKnown.x0.fHi, .int .i64 y6.1.fKnown.x1.fLo, .int .i64 y6.1.fKnown.x1.fHi, .int .i64 y6.1.fKnown.x2.fLo, .int .i64 y6.1.fKnown.x2.fHi] sz_52 rfl (Nat.le_of_ble_eq_true rfl) rfl rfl rfl) ?_
  refine ox_y rfl (y_assign_int rfl) ?_
  refine ox_nil ?_
  refine ex_then ?_
  refine cx_seq ?_
  refine cx_region ?_
  refine ox_y rfl (y_loadN 0 [.int .i64 p0.fBarrows, .int .i64 p0.fSeen.x0, .int .i64 p0.fSeen.x1, .int .i64 p0.fSeen.x2, .int .i64 p0.fKnown.x0.fLo, .int .i64 p0.fKnown.x0.fHi, .int .i64 p0.fKnown.x1.fLo, .int .i64 p0.fKnown.x1.fHi, .int .i64 p0.fKnown.x2.fLo, .int .i64 p0.fKnown.x2.fHi] ag_52 rfl rfl rfl) ?_
  refine ox_y rfl (y_loadN 2 [.int .i64 p2.x0, .int .i64 p2.x1, .int .i64 p2.x2] ag_43 rfl rfl rfl) ?_
  obtain ⟨y9, hy10, h⟩ := bind_some h
  refine ox_y rfl (y_call [.agg #[.int .i64 p0.fBarrows, .int .i64 p0.fSeen.x0, .int .i64 p0.fSeen.x1, .int .i64 p0.fSeen.x2, .int .i64 p0.fKnown.x0.fLo, .int .i64 p0.fKnown.x0.fHi, .int .i64 p0.fKnown.x1.fLo, .int .i64 p0.fKnown.x1.fHi, .int .i64 p0.fKnown.x2.fLo, .int .i64 p0.fKnown.x2.fHi], .agg #[.int .i64 p2.x0, .int .i64 p2.x1, .int .i64 p2.x2]] go_62 rfl (fun W2 hW2 => sample_More_ok p0 p2 y9 hy10 W2 ) rfl) ?_
  refine ox_y rfl (y_move_tuple rfl) ?_
  refine ox_y rfl (y_extract (vs := [.agg #[.int .i64 y9.1.fBarrows, .int .i64 y9.1.fSeen.x0, .int .i64 y9.1.fSeen.x1, .int .i64 y9.1.fSeen.x2, .int .i64 y9.1.fKnown.x0.fLo, .int .i64 y9.1.fKnown.x0.fHi, .int .i64 y9.1.fKnown.x1.fLo, .int .i64 y9.1.fKnown.x1.fHi, .int .i64 y9.1.fKnown.x2.fLo, .int .i64 y9.1.fKnown.x2.fHi], .int .i64 y9.2]) (v := .agg #[.int .i64 y9.1.fBarrows, .int .i64 y9.1.fSeen.x0, .int .i64 y9.1.fSeen.x1, .int .i64 y9.1.fSeen.x2, .int .i64 y9.1.fKnown.x0.fLo, .int .i64 y9.1.fKnown.x0.fHi, .int .i64 y9.1.fKnown.x1.fLo, .int .i64 y9.1.fKnown.x1.fHi, .int .i64 y9.1.fKnown.x2.fLo, .int .i64 y9.1.fKnown.x2.fHi]) rfl rfl) ?_
  refine ox_y rfl (y_extract (vs := [.agg #[.int .i64 y9.1.fBarrows, .int .i64 y9.1.fSeen.x0, .int .i64 y9.1.fSeen.x1, .int .i64 y9.1.fSeen.x2, .int .i64 y9.1.fKnown.x0.fLo, .int .i64 y9.1.fKnown.x0.fHi, .int .i64 y9.1.fKnown.x1.fLo, .int .i64 y9.1.fKnown.x1.fHi, .int .i64 y9.1.fKnown.x2.fLo, .int .i64 y9.1.fKnown.x2.fHi], .int .i64 y9.2]) (v := .int .i64 y9.2) rfl rfl) ?_
  refine ox_alloc ze_52 rfl (fun b11 => ?_)
  refine ox_n rfl (y_storeN 4 [.int .i64 y9.1.fBarrows, .int .i64 y9.1.fSeen.x0, .int .i64 y9.1.fSeen.x1, .int .i64 y9.1.fSeen.x2, .int .i64 y9.1.fKnown.x0.fLo, .int .i64 y9.1.fKnown.x0.fHi, .int .i64 y9.1.fKnown.x1.fLo, .int .i64 y9.1.fKnown.x1.fHi, .int .i64 y9.1.fKnown.x2.fLo, .int .i64 y9.1.fKnown.x2.fHi] sz_52 rfl (Nat.le_of_ble_eq_true rfl) rfl rfl rfl) ?_
  refine ox_y rfl (y_assign_int rfl) ?_
  refine ox_nil ?_
  refine ex_then ?_
  refine cx_seq ?_
  refine cx_seq ?_
  refine cx_region ?_
  refine ox_y rfl (y_move_int rfl) ?_
  refine ox_y rfl (y_neq rfl rfl) ?_
  refine ox_y rfl (y_move_bool rfl) ?_
  refine ox_join 3 (fun tm0 => (upd (upd (upd (upd (upd (upd (upd (upd (upd (upd (upd (upd (upd (upd tm0 0 (.agg #[.int .i64 p0.fBarrows, .int .i64 p0.fSeen.x0, .int .i64 p0.fSeen.x1, .int .i64 p0.fSeen.x2, .int .i64 p0.fKnown.x0.fLo, .int .i64 p0.fKnown.x0.fHi, .int .i64 p0.fKnown.x1.fLo, .int .i64 p0.fKnown.x1.fHi, .int .i64 p0.fKnown.x2.fLo, .int .i64 p0.fKnown.x2.fHi])) 1 (.agg #[.int .i64 p1.x0, .int .i64 p1.x1, .int .i64 p1.x2])) 2 (.agg #[.int .i64 p2.x0, .int .i64 p2.x1, .int .i64 p2.x2])) 3 (.int .i64 p3)) 4 (.pointer (some ⟨b1, 0, none⟩))) 5 (.pointer (some ⟨b2, 0, none⟩))) 6 (.pointer (some ⟨b3, 0, none⟩))) 8 (.bool false)) 9 (.bool y4)) 10 (.pointer (some ⟨b8, 0, none⟩))) 11 (.int .i64 y6.2)) 12 (.pointer (some ⟨b11, 0, none⟩))) 13 (.int .i64 y9.2)) 42 (.bool ((y6.2 != 0) || (y9.2 != 0))))) (fun tm0 => ?_) (fun key => ?_)
  · refine ox_nil ?_
    refine ex_then ?_
    rcases ite_some h with ⟨hp13, h⟩ | ⟨hp13, h⟩
    · refine cx_true (congrArg Value.bool hp13) ?_
      refine cx_seq ?_
      refine cx_region ?_
      refine ox_y rfl (y_move_bool rfl) ?_
      refine ox_y rfl (y_assign_bool rfl) ?_
      refine ox_nil ?_
      refine ex_then ?_
      refine cx_ret ?_
      refine ex_then_ret ?_
      obtain rfl := Option.some.inj h
      exact ex_res1 (.inl rfl) rfl (resV_tmp (v := .bool y4) rfl) (fun W2 hW2 => ⟨rfl, hW2.none⟩)
    · refine cx_false (congrArg Value.bool hp13) ?_
      refine cx_skip ?_
      refine ex_then ?_
      refine cx_seq ?_
      refine cx_region ?_
      refine ox_y rfl (y_loadN 3 [.int .i64 y6.1.fBarrows, .int .i64 y6.1.fSeen.x0, .int .i64 y6.1.fSeen.x1, .int .i64 y6.1.fSeen.x2, .int .i64 y6.1.fKnown.x0.fLo, .int .i64 y6.1.fKnown.x0.fHi, .int .i64 y6.1.fKnown.x1.fLo, .int .i64 y6.1.fKnown.x1.fHi, .int .i64 y6.1.fKnown.x2.fLo, .int .i64 y6.1.fKnown.x2.fHi] ag_52 rfl rfl rfl) ?_
      refine ox_y rfl (y_loadN 2 [.int .i64 p2.x0, .int .i64 p2.x1, .int .i64 p2.x2] ag_43 rfl rfl rfl) ?_
      obtain ⟨y14, hy15, h⟩ := bind_some h
      refine ox_y rfl (y_call [.agg #[.int .i64 y6.1.fBarrows, .int .i64 y6.1.fSeen.x0, .int .i64 y6.1.fSeen.x1, .int .i64 y6.1.fSeen.x2, .int .i64 y6.1.fKnown.x0.fLo, .int .i64 y6.1.fKnown.x0.fHi, .int .i64 y6.1.fKnown.x1.fLo, .int .i64 y6.1.fKnown.x1.fHi, .int .i64 y6.1.fKnown.x2.fLo, .int .i64 y6.1.fKnown.x2.fHi], .agg #[.int .i64 p2.x0, .int .i64 p2.x1, .int .i64 p2.x2]] go_62 rfl (fun W2 hW2 => sample_More_ok y6.1 p2 y14 hy15 W2 ) rfl) ?_
      refine ox_y rfl (y_move_tuple rfl) ?_
      refine ox_y rfl (y_extract (vs := [.agg #[.int .i64 y14.1.fBarrows, .int .i64 y14.1.fSeen.x0, .int .i64 y14.1.fSeen.x1, .int .i64 y14.1.fSeen.x2, .int .i64 y14.1.fKnown.x0.fLo, .int .i64 y14.1.fKnown.x0.fHi, .int .i64 y14.1.fKnown.x1.fLo, .int .i64 y14.1.fKnown.x1.fHi, .int .i64 y14.1.fKnown.x2.fLo, .int .i64 y14.1.fKnown.x2.fHi], .int .i64 y14.2]) (v := .agg #[.int .i64 y14.1.fBarrows, .int .i64 y14.1.fSeen.x0, .int .i64 y14.1.fSeen.x1, .int .i64 y14.1.fSeen.x2, .int .i64 y14.1.fKnown.x0.fLo, .int .i64 y14.1.fKnown.x0.fHi, .int .i64 y14.1.fKnown.x1.fLo, .int .i64 y14.1.fKnown.x1.fHi, .int .i64 y14.1.fKnown.x2.fLo, .int .i64 y14.1.fKnown.x2.fHi]) rfl rfl) ?_
      refine ox_y rfl (y_extract (vs := [.agg #[.int .i64 y14.1.fBarrows, .int .i64 y14.1.fSeen.x0, .int .i64 y14.1.fSeen.x1, .int .i64 y14.1.fSeen.x2, .int .i64 y14.1.fKnown.x0.fLo, .int .i64 y14.1.fKnown.x0.fHi, .int .i64 y14.1.fKnown.x1.fLo, .int .i64 y14.1.fKnown.x1.fHi, .int .i64 y14.1.fKnown.x2.fLo, .int .i64 y14.1.fKnown.x2.fHi], .int .i64 y14.2]) (v := .int .i64 y14.2) rfl rfl) ?_
      refine ox_n rfl (y_storeN 3 [.int .i64 y14.1.fBarrows, .int .i64 y14.1.fSeen.x0, .int .i64 y14.1.fSeen.x1, .int .i64 y14.1.fSeen.x2, .int .i64 y14.1.fKnown.x0.fLo, .int .i64 y14.1.fKnown.x0.fHi, .int .i64 y14.1.fKnown.x1.fLo, .int .i64 y14.1.fKnown.x1.fHi, .int .i64 y14.1.fKnown.x2.fLo, .int .i64 y14.1.fKnown.x2.fHi] sz_52 rfl (Nat.le_of_ble_eq_true rfl) rfl rfl rfl) ?_
      refine ox_y rfl (y_assign_int rfl) ?_
      refine ox_nil ?_
      refine ex_then ?_
      refine cx_seq ?_
      refine cx_region ?_
      refine ox_y rfl (y_loadN 4 [.int .i64 y9.1.fBarrows, .int .i64 y9.1.fSeen.x0, .int .i64 y9.1.fSeen.x1, .int .i64 y9.1.fSeen.x2, .int .i64 y9.1.fKnown.x0.fLo, .int .i64 y9.1.fKnown.x0.fHi, .int .i64 y9.1.fKnown.x1.fLo, .int .i64 y9.1.fKnown.x1.fHi, .int .i64 y9.1.fKnown.x2.fLo, .int .i64 y9.1.fKnown.x2.fHi] ag_52 rfl rfl rfl) ?_
      refine ox_y rfl (y_loadN 1 [.int .i64 p1.x0, .int .i64 p1.x1, .int .i64 p1.x2] ag_43 rfl rfl rfl) ?_
      obtain ⟨y16, hy17, h⟩ := bind_some h
      refine ox_y rfl (y_call [.agg #[.int .i64 y9.1.fBarrows, .int .i64 y9.1.fSeen.x0, .int .i64 y9.1.fSeen.x1, .int .i64 y9.1.fSeen.x2, .int .i64 y9.1.fKnown.x0.fLo, .int .i64 y9.1.fKnown.x0.fHi, .int .i64 y9.1.fKnown.x1.fLo, .int .i64 y9.1.fKnown.x1.fHi, .int .i64 y9.1.fKnown.x2.fLo, .int .i64 y9.1.fKnown.x2.fHi], .agg #[.int .i64 p1.x0, .int .i64 p1.x1, .int .i64 p1.x2]] go_62 rfl (fun W2 hW2 => sample_More_ok y9.1 p1 y16 hy17 W2 ) rfl) ?_
      refine ox_y rfl (y_move_tuple rfl) ?_
      refine ox_y rfl (y_extract (vs := [.agg #[.int .i64 y16.1.fBarrows, .int .i64 y16.1.fSeen.x0, .int .i64 y16.1.fSeen.x1, .int .i64 y16.1.fSeen.x2, .int .i64 y16.1.fKnown.x0.fLo, .int .i64 y16.1.fKnown.x0.fHi, .int .i64 y16.1.fKnown.x1.fLo, .int .i64 y16.1.fKnown.x1.fHi, .int .i64 y16.1.fKnown.x2.fLo, .int .i64 y16.1.fKnown.x2.fHi], .int .i64 y16.2]) (v := .agg #[.int .i64 y16.1.fBarrows, .int .i64 y16.1.fSeen.x0, .int .i64 y16.1.fSeen.x1, .int .i64 y16.1.fSeen.x2, .int .i64 y16.1.fKnown.x0.fLo, .int .i64 y16.1.fKnown.x0.fHi, .int .i64 y16.1.fKnown.x1.fLo, .int .i64 y16.1.fKnown.x1.fHi, .int .i64 y16.1.fKnown.x2.fLo, .int .i64 y16.1.fKnown.x2.fHi]) rfl rfl) ?_
      refine ox_y rfl (y_extract (vs := [.agg #[.int .i64 y16.1.fBarrows, .int .i64 y16.1.fSeen.x0, .int .i64 y16.1.fSeen.x1, .int .i64 y16.1.fSeen.x2, .int .i64 y16.1.fKnown.x0.fLo, .int .i64 y16.1.fKnown.x0.fHi, .int .i64 y16.1.fKnown.x1.fLo, .int .i64 y16.1.fKnown.x1.fHi, .int .i64 y16.1.fKnown.x2.fLo, .int .i64 y16.1.fKnown.x2.fHi], .int .i64 y16.2]) (v := .int .i64 y16.2) rfl rfl) ?_
      refine ox_n rfl (y_storeN 4 [.int .i64 y16.1.fBarrows, .int .i64 y16.1.fSeen.x0, .int .i64 y16.1.fSeen.x1, .int .i64 y16.1.fSeen.x2, .int .i64 y16.1.fKnown.x0.fLo, .int .i64 y16.1.fKnown.x0.fHi, .int .i64 y16.1.fKnown.x1.fLo, .int .i64 y16.1.fKnown.x1.fHi, .int .i64 y16.1.fKnown.x2.fLo, .int .i64 y16.1.fKnown.x2.fHi] sz_52 rfl (Nat.le_of_ble_eq_true rfl) rfl rfl rfl) ?_
      refine ox_y rfl (y_assign_int rfl) ?_
      refine ox_nil ?_
      refine ex_then ?_
      refine cx_seq ?_
      refine cx_region ?_
      refine ox_y rfl (y_loadN 0 [.int .i64 p0.fBarrows, .int .i64 p0.fSeen.x0, .int .i64 p0.fSeen.x1, .int .i64 p0.fSeen.x2, .int .i64 p0.fKnown.x0.fLo, .int .i64 p0.fKnown.x0.fHi, .int .i64 p0.fKnown.x1.fLo, .int .i64 p0.fKnown.x1.fHi, .int .i64 p0.fKnown.x2.fLo, .int .i64 p0.fKnown.x2.fHi] ag_52 rfl rfl rfl) ?_
      refine ox_y rfl (y_indexArr ar_43 (by decide) (by decide) rfl rfl) ?_
      refine ox_y rfl (y_load1 1 (v := .int .i64 p1.x0) sc_3 rfl rfl rfl) ?_
      refine ox_y rfl (y_indexArr ar_43 (by decide) (by decide) rfl rfl) ?_
      refine ox_y rfl (y_load1 2 (v := .int .i64 p2.x0) sc_3 rfl rfl rfl) ?_
      refine ox_y rfl (y_add rfl rfl) ?_
      refine ox_y rfl (y_indexArr ar_43 (by decide) (by decide) rfl rfl) ?_
      refine ox_y rfl (y_load1 1 (v := .int .i64 p1.x1) sc_3 rfl rfl rfl) ?_
      refine ox_y rfl (y_indexArr ar_43 (by decide) (by decide) rfl rfl) ?_
      refine ox_y rfl (y_load1 2 (v := .int .i64 p2.x1) sc_3 rfl rfl rfl) ?_
      refine ox_y rfl (y_add rfl rfl) ?_
      refine ox_y rfl (y_indexArr ar_43 (by decide) (by decide) rfl rfl) ?_
      refine ox_y rfl (y_load1 1 (v := .int .i64 p1.x2) sc_3 rfl rfl rfl) ?_
      refine ox_y rfl (y_indexArr ar_43 (by decide) (by decide) rfl rfl) ?_
      refine ox_y rfl (y_load1 2 (v := .int .i64 p2.x2) sc_3 rfl rfl rfl) ?_
      refine ox_y rfl (y_add rfl rfl) ?_
      refine ox_y rfl (y_buildA [.int .i64 (w64 (p1.x0 + p2.x0)), .int .i64 (w64 (p1.x1 + p2.x1)), .int .i64 (w64 (p1.x2 + p2.x2))] ua_43 ze_43 sz_3 (by kernel_rfl)) ?_
      obtain ⟨y18, hy19, h⟩ := bind_some h
      refine ox_y rfl (y_call [.agg #[.int .i64 p0.fBarrows, .int .i64 p0.fSeen.x0, .int .i64 p0.fSeen.x1, .int .i64 p0.fSeen.x2, .int .i64 p0.fKnown.x0.fLo, .int .i64 p0.fKnown.x0.fHi, .int .i64 p0.fKnown.x1.fLo, .int .i64 p0.fKnown.x1.fHi, .int .i64 p0.fKnown.x2.fLo, .int .i64 p0.fKnown.x2.fHi], .agg #[.int .i64 (w64 (p1.x0 + p2.x0)), .int .i64 (w64 (p1.x1 + p2.x1)), .int .i64 (w64 (p1.x2 + p2.x2))]] go_62 rfl (fun W2 hW2 => sample_More_ok p0 (TKinds.mk (w64 (p1.x0 + p2.x0)) (w64 (p1.x1 + p2.x1)) (w64 (p1.x2 + p2.x2))) y18 hy19 W2 ) rfl) ?_
      refine ox_y rfl (y_move_tuple rfl) ?_
      refine ox_y rfl (y_extract (vs := [.agg #[.int .i64 y18.1.fBarrows, .int .i64 y18.1.fSeen.x0, .int .i64 y18.1.fSeen.x1, .int .i64 y18.1.fSeen.x2, .int .i64 y18.1.fKnown.x0.fLo, .int .i64 y18.1.fKnown.x0.fHi, .int .i64 y18.1.fKnown.x1.fLo, .int .i64 y18.1.fKnown.x1.fHi, .int .i64 y18.1.fKnown.x2.fLo, .int .i64 y18.1.fKnown.x2.fHi], .int .i64 y18.2]) (v := .agg #[.int .i64 y18.1.fBarrows, .int .i64 y18.1.fSeen.x0, .int .i64 y18.1.fSeen.x1, .int .i64 y18.1.fSeen.x2, .int .i64 y18.1.fKnown.x0.fLo, .int .i64 y18.1.fKnown.x0.fHi, .int .i64 y18.1.fKnown.x1.fLo, .int .i64 y18.1.fKnown.x1.fHi, .int .i64 y18.1.fKnown.x2.fLo, .int .i64 y18.1.fKnown.x2.fHi]) rfl rfl) ?_
      refine ox_y rfl (y_extract (vs := [.agg #[.int .i64 y18.1.fBarrows, .int .i64 y18.1.fSeen.x0, .int .i64 y18.1.fSeen.x1, .int .i64 y18.1.fSeen.x2, .int .i64 y18.1.fKnown.x0.fLo, .int .i64 y18.1.fKnown.x0.fHi, .int .i64 y18.1.fKnown.x1.fLo, .int .i64 y18.1.fKnown.x1.fHi, .int .i64 y18.1.fKnown.x2.fLo, .int .i64 y18.1.fKnown.x2.fHi], .int .i64 y18.2]) (v := .int .i64 y18.2) rfl rfl) ?_
      refine ox_alloc ze_52 rfl (fun b20 => ?_)
      try dsimp only [List.nil_append, List.cons_append, List.set_cons_zero, List.set_cons_succ]
      refine ox_n rfl (y_storeN 5 [.int .i64 y18.1.fBarrows, .int .i64 y18.1.fSeen.x0, .int .i64 y18.1.fSeen.x1, .int .i64 y18.1.fSeen.x2, .int .i64 y18.1.fKnown.x0.fLo, .int .i64 y18.1.fKnown.x0.fHi, .int .i64 y18.1.fKnown.x1.fLo, .int .i64 y18.1.fKnown.x1.fHi, .int .i64 y18.1.fKnown.x2.fLo, .int .i64 y18.1.fKnown.x2.fHi] sz_52 rfl (Nat.le_of_ble_eq_true rfl) rfl rfl rfl) ?_
      refine ox_y rfl (y_assign_int rfl) ?_
      refine ox_nil ?_
      refine ex_then ?_
      refine cx_seq ?_
      refine cx_seq ?_
      refine cx_region ?_
      refine ox_y rfl (y_move_int rfl) ?_
      refine ox_y rfl (y_move_int rfl) ?_
      refine ox_y rfl (y_neq rfl rfl) ?_
      refine ox_y rfl (y_move_bool rfl) ?_
      refine ox_join 4 (fun tm0 => (upd (upd (upd (upd (upd (upd (upd (upd (upd (upd (upd (upd (upd (upd (upd (upd (upd tm0 0 (.agg #[.int .i64 p0.fBarrows, .int .i64 p0.fSeen.x0, .int .i64 p0.fSeen.x1, .int .i64 p0.fSeen.x2, .int .i64 p0.fKnown.x0.fLo, .int .i64 p0.fKnown.x0.fHi, .int .i64 p0.fKnown.x1.fLo, .int .i64 p0.fKnown.x1.fHi, .int .i64 p0.fKnown.x2.fLo, .int .i64 p0.fKnown.x2.fHi])) 1 (.agg #[.int .i64 p1.x0, .int .i64 p1.x1, .int .i64 p1.x2])) 2 (.agg #[.int .i64 p2.x0, .int .i64 p2.x1, .int .i64 p2.x2])) 3 (.int .i64 p3)) 4 (.pointer (some ⟨b1, 0, none⟩))) 5 (.pointer (some ⟨b2, 0, none⟩))) 6 (.pointer (some ⟨b3, 0, none⟩))) 8 (.bool false)) 9 (.bool y4)) 10 (.pointer (some ⟨b8, 0, none⟩))) 11 (.int .i64 y14.2)) 12 (.pointer (some ⟨b11, 0, none⟩))) 13 (.int .i64 y16.2)) 42 (.bool ((y6.2 != 0) || (y9.2 != 0)))) 14 (.pointer (some ⟨b20, 0, none⟩))) 15 (.int .i64 y18.2)) 84 (.bool ((y14.2 != y16.2) || (y14.2 != y18.2))))) (fun tm0 => ?_) (fun key => ?_)
      · refine ox_y rfl (y_move_bool rfl) ?_
        refine ox_join 4 (fun tm0 => (upd (upd (upd (upd (upd (upd (upd (upd (upd (upd (upd (upd (upd (upd (upd (upd (upd tm0 0 (.agg #[.int .i64 p0.fBarrows, .int .i64 p0.fSeen.x0, .int .i64 p0.fSeen.x1, .int .i64 p0.fSeen.x2, .int .i64 p0.fKnown.x0.fLo, .int .i64 p0.fKnown.x0.fHi, .int .i64 p0.fKnown.x1.fLo, .int .i64 p0.fKnown.x1.fHi, .int .i64 p0.fKnown.x2.fLo, .int .i64 p0.fKnown.x2.fHi])) 1 (.agg #[.int .i64 p1.x0, .int .i64 p1.x1, .int .i64 p1.x2])) 2 (.agg #[.int .i64 p2.x0, .int .i64 p2.x1, .int .i64 p2.x2])) 3 (.int .i64 p3)) 4 (.pointer (some ⟨b1, 0, none⟩))) 5 (.pointer (some ⟨b2, 0, none⟩))) 6 (.pointer (some ⟨b3, 0, none⟩))) 8 (.bool false)) 9 (.bool y4)) 10 (.pointer (some ⟨b8, 0, none⟩))) 11 (.int .i64 y14.2)) 12 (.pointer (some ⟨b11, 0, none⟩))) 13 (.int .i64 y16.2)) 42 (.bool ((y6.2 != 0) || (y9.2 != 0)))) 14 (.pointer (some ⟨b20, 0, none⟩))) 15 (.int .i64 y18.2)) 89 (.bool (((y14.2 != y16.2) || (y14.2 != y18.2)) || (!((y14.1.fBarrows == y16.1.fBarrows) && (((y14.1.fSeen.x0 == y16.1.fSeen.x0) && (y14.1.fSeen.x1 == y16.1.fSeen.x1) && (y14.1.fSeen.x2 == y16.1.fSeen.x2)) && (((y14.1.fKnown.x0.fLo == y16.1.fKnown.x0.fLo) && (y14.1.fKnown.x0.fHi == y16.1.fKnown.x0.fHi)) && ((y14.1.fKnown.x1.fLo == y16.1.fKnown.x1.fLo) && (y14.1.fKnown.x1.fHi == y16.1.fKnown.x1.fHi)) && ((y14.1.fKnown.x2.fLo == y16.1.fKnown.x2.fLo) && (y14.1.fKnown.x2.fHi == y16.1.fKnown.x2.fHi)))))))))) (fun tm0 => ?_) (fun key => ?_)
        · refine ox_y rfl (y_move_bool rfl) ?_
          refine ox_join 4 (fun tm0 => (upd (upd (upd (upd (upd (upd (upd (upd (upd (upd (upd (upd (upd (upd (upd (upd (upd tm0 0 (.agg #[.int .i64 p0.fBarrows, .int .i64 p0.fSeen.x0, .int .i64 p0.fSeen.x1, .int .i64 p0.fSeen.x2, .int .i64 p0.fKnown.x0.fLo, .int .i64 p0.fKnown.x0.fHi, .int .i64 p0.fKnown.x1.fLo, .int .i64 p0.fKnown.x1.fHi, .int .i64 p0.fKnown.x2.fLo, .int .i64 p0.fKnown.x2.fHi])) 1 (.agg #[.int .i64 p1.x0, .int .i64 p1.x1, .int .i64 p1.x2])) 2 (.agg #[.int .i64 p2.x0, .int .i64 p2.x1, .int .i64 p2.x2])) 3 (.int .i64 p3)) 4 (.pointer (some ⟨b1, 0, none⟩))) 5 (.pointer (some ⟨b2, 0, none⟩))) 6 (.pointer (some ⟨b3, 0, none⟩))) 8 (.bool false)) 9 (.bool y4)) 10 (.pointer (some ⟨b8, 0, none⟩))) 11 (.int .i64 y14.2)) 12 (.pointer (some ⟨b11, 0, none⟩))) 13 (.int .i64 y16.2)) 42 (.bool ((y6.2 != 0) || (y9.2 != 0)))) 14 (.pointer (some ⟨b20, 0, none⟩))) 15 (.int .i64 y18.2)) 94 (.bool ((((y14.2 != y16.2) || (y14.2 != y18.2)) || (!((y14.1.fBarrows == y16.1.fBarrows) && (((y14.1.fSeen.x0 == y16.1.fSeen.x0) && (y14.1.fSeen.x1 == y16.1.fSeen.x1) && (y14.1.fSeen.x2 == y16.1.fSeen.x2)) && (((y14.1.fKnown.x0.fLo == y16.1.fKnown.x0.fLo) && (y14.1.fKnown.x0.fHi == y16.1.fKnown.x0.fHi)) && ((y14.1.fKnown.x1.fLo == y16.1.fKnown.x1.fLo) && (y14.1.fKnown.x1.fHi == y16.1.fKnown.x1.fHi)) && ((y14.1.fKnown.x2.fLo == y16.1.fKnown.x2.fLo) && (y14.1.fKnown.x2.fHi == y16.1.fKnown.x2.fHi))))))) || (!((y14.1.fBarrows == y18.1.fBarrows) && (((y14.1.fSeen.x0 == y18.1.fSeen.x0) && (y14.1.fSeen.x1 == y18.1.fSeen.x1) && (y14.1.fSeen.x2 == y18.1.fSeen.x2)) && (((y14.1.fKnown.x0.fLo == y18.1.fKnown.x0.fLo) && (y14.1.fKnown.x0.fHi == y18.1.fKnown.x0.fHi)) && ((y14.1.fKnown.x1.fLo == y18.1.fKnown.x1.fLo) && (y14.1.fKnown.x1.fHi == y18.1.fKnown.x1.fHi)) && ((y14.1.fKnown.x2.fLo == y18.1.fKnown.x2.fLo) && (y14.1.fKnown.x2.fHi == y18.1.fKnown.x2.fHi)))))))))) (fun tm0 => ?_) (fun key => ?_)
          · refine ox_nil ?_
            refine ex_then ?_
            rcases ite_some h with ⟨hp24, h⟩ | ⟨hp24, h⟩
            · refine cx_true (congrArg Value.bool hp24) ?_
              refine cx_seq ?_
              refine cx_region ?_
              refine ox_y rfl (y_assign_bool rfl) ?_
              refine ox_nil ?_
              refine ex_then ?_
              refine cx_ret ?_
              refine ex_then_ret ?_
              obtain rfl := Option.some.inj h
              exact ex_res1 (.inl rfl) rfl (resV_tmp (v := .bool false) rfl) (fun W2 hW2 => ⟨rfl, hW2.none⟩)
            · refine cx_false (congrArg Value.bool hp24) ?_
              refine cx_skip ?_
              refine ex_then ?_
              refine cx_seq ?_
              refine cx_seq ?_
              refine cx_region ?_
              refine ox_y rfl (y_move_int rfl) ?_
              refine ox_y rfl (y_neq rfl rfl) ?_
              refine ox_nil ?_
              refine ex_then ?_
              rcases ite_some h with ⟨hp25, h⟩ | ⟨hp25, h⟩
              · refine cx_true (congrArg Value.bool hp25) ?_
                refine cx_seq ?_
                refine cx_region ?_
                refine ox_y rfl (y_move_bool rfl) ?_
                refine ox_y rfl (y_assign_bool rfl) ?_
                refine ox_nil ?_
                refine ex_then ?_
                refine cx_ret ?_
                refine ex_then_ret ?_
                obtain rfl := Option.some.inj h
                exact ex_res1 (.inl rfl) rfl (resV_tmp (v := .bool y4) rfl) (fun W2 hW2 => ⟨rfl, hW2.none⟩)
              · refine cx_false (congrArg Value.bool hp25) ?_
                refine cx_skip ?_
                refine ex_then ?_
                refine cx_seq ?_
                refine cx_region ?_
                refine ox_y rfl (y_loadN 3 [.int .i64 y14.1.fBarrows, .int .i64 y14.1.fSeen.x0, .int .i64 y14.1.fSeen.x1, .int .i64 y14.1.fSeen.x2, .int .i64 y14.1.fKnown.x0.fLo, .int .i64 y14.1.fKnown.x0.fHi, .int .i64 y14.1.fKnown.x1.fLo, .int .i64 y14.1.fKnown.x1.fHi, .int .i64 y14.1.fKnown.x2.fLo, .int .i64 y14.1.fKnown.x2.fHi] ag_52 rfl rfl rfl) ?_
                refine ox_y rfl (y_move_int rfl) ?_
                obtain ⟨y26, hy27, h⟩ := bind_some h
                refine ox_call [.agg #[.int .i64 y14.1.fBarrows, .int .i64 y14.1.fSeen.x0, .int .i64 y14.1.fSeen.x1, .int .i64 y14.1.fSeen.x2, .int .i64 y14.1.fKnown.x0.fLo, .int .i64 y14.1.fKnown.x0.fHi, .int .i64 y14.1.fKnown.x1.fLo, .int .i64 y14.1.fKnown.x1.fHi, .int .i64 y14.1.fKnown.x2.fLo, .int .i64 y14.1.fKnown.x2.fHi], .int .i64 p3] _ _ _ rfl go_42 rfl (fun W2 hW2 => sample_Weights_ok y14.1 p3 y26 hy27 W2 ) ?_
                rintro ⟨A28, n30, c29⟩ hn31
                replace hn31 : n30 = y26.1.length := hn31; subst hn31
                try dsimp only [List.nil_append, List.cons_append, List.set_cons_zero, List.set_cons_succ]
                refine ox_y rfl (y_move_tuple rfl) ?_
                refine ox_y rfl (y_extract (vs := [.slice A28 y26.1.length c29, .int .i64 y26.2]) (v := .slice A28 y26.1.length c29) rfl rfl) ?_
                refine ox_y rfl (y_extract (vs := [.slice A28 y26.1.length c29, .int .i64 y26.2]) (v := .int .i64 y26.2) rfl rfl) ?_
                refine ox_y rfl (y_assign_slice rfl) ?_
                refine ox_y rfl (y_assign_int rfl) ?_
                refine ox_nil ?_
                refine ex_then ?_
                refine cx_seq ?_
                refine cx_region ?_
                refine ox_y rfl (y_loadN 5 [.int .i64 y18.1.fBarrows, .int .i64 y18.1.fSeen.x0, .int .i64 y18.1.fSeen.x1, .int .i64 y18.1.fSeen.x2, .int .i64 y18.1.fKnown.x0.fLo, .int .i64 y18.1.fKnown.x0.fHi, .int .i64 y18.1.fKnown.x1.fLo, .int .i64 y18.1.fKnown.x1.fHi, .int .i64 y18.1.fKnown.x2.fLo, .int .i64 y18.1.fKnown.x2.fHi] ag_52 rfl rfl rfl) ?_
                refine ox_y rfl (y_move_int rfl) ?_
                obtain ⟨y32, hy33, h⟩ := bind_some h
                refine ox_call [.agg #[.int .i64 y18.1.fBarrows, .int .i64 y18.1.fSeen.x0, .int .i64 y18.1.fSeen.x1, .int .i64 y18.1.fSeen.x2, .int .i64 y18.1.fKnown.x0.fLo, .int .i64 y18.1.fKnown.x0.fHi, .int .i64 y18.1.fKnown.x1.fLo, .int .i64 y18.1.fKnown.x1.fHi, .int .i64 y18.1.fKnown.x2.fLo, .int .i64 y18.1.fKnown.x2.fHi], .int .i64 p3] _ _ _ rfl go_42 rfl (fun W2 hW2 => sample_Weights_ok y18.1 p3 y32 hy33 W2 ) ?_
                rintro ⟨A34, n36, c35⟩ hn37
                replace hn37 : n36 = y32.1.length := hn37; subst hn37
                try dsimp only [List.nil_append, List.cons_append, List.set_cons_zero, List.set_cons_succ]
                refine ox_y rfl (y_move_tuple rfl) ?_
                refine ox_y rfl (y_extract (vs := [.slice A34 y32.1.length c35, .int .i64 y32.2]) (v := .slice A34 y32.1.length c35) rfl rfl) ?_
                refine ox_y rfl (y_extract (vs := [.slice A34 y32.1.length c35, .int .i64 y32.2]) (v := .int .i64 y32.2) rfl rfl) ?_
                refine ox_y rfl (y_assign_slice rfl) ?_
                refine ox_y rfl (y_assign_int rfl) ?_
                refine ox_nil ?_
                refine ex_then ?_
                refine cx_seq ?_
                refine cx_region ?_
                refine ox_y rfl (y_loadN 3 [.int .i64 y14.1.fBarrows, .int .i64 y14.1.fSeen.x0, .int .i64 y14.1.fSeen.x1, .int .i64 y14.1.fSeen.x2, .int .i64 y14.1.fKnown.x0.fLo, .int .i64 y14.1.fKnown.x0.fHi, .int .i64 y14.1.fKnown.x1.fLo, .int .i64 y14.1.fKnown.x1.fHi, .int .i64 y14.1.fKnown.x2.fLo, .int .i64 y14.1.fKnown.x2.fHi] ag_52 rfl rfl rfl) ?_
                obtain ⟨y38, hy39, h⟩ := bind_some h
                refine ox_call [.agg #[.int .i64 y14.1.fBarrows, .int .i64 y14.1.fSeen.x0, .int .i64 y14.1.fSeen.x1, .int .i64 y14.1.fSeen.x2, .int .i64 y14.1.fKnown.x0.fLo, .int .i64 y14.1.fKnown.x0.fHi, .int .i64 y14.1.fKnown.x1.fLo, .int .i64 y14.1.fKnown.x1.fHi, .int .i64 y14.1.fKnown.x2.fLo, .int .i64 y14.1.fKnown.x2.fHi]] _ _ _ rfl go_34 rfl (fun W2 hW2 => sample_Wholes_ok y14.1 y38 hy39 W2 ) ?_
                rintro ⟨A40, n42, c41⟩ hn43
                replace hn43 : n42 = y38.1.length := hn43; subst hn43
                try dsimp only [List.nil_append, List.cons_append, List.set_cons_zero, List.set_cons_succ]
                refine ox_y rfl (y_move_tuple rfl) ?_
                refine ox_y rfl (y_extract (vs := [.slice A40 y38.1.length c41, .int .i64 y38.2]) (v := .slice A40 y38.1.length c41) rfl rfl) ?_
                refine ox_y rfl (y_extract (vs := [.slice A40 y38.1.length c41, .int .i64 y38.2]) (v := .int .i64 y38.2) rfl rfl) ?_
                refine ox_y rfl (y_assign_slice rfl) ?_
                refine ox_y rfl (y_assign_int rfl) ?_
                refine ox_nil ?_
                refine ex_then ?_
                refine cx_seq ?_
                refine cx_region ?_
                refine ox_y rfl (y_move_slice rfl) ?_
                refine ox_y rfl (y_move_slice rfl) ?_
                obtain ⟨y44, hy45, h⟩ := bind_some h
                refine ox_y rfl (y_call [.slice A28 y26.1.length c29, .slice A34 y32.1.length c35] go_53 rfl (fun W2 hW2 => calxref03_SameInts_ok y26.1 y32.1 y44 hy45 W2 A28 y26.1.length c29 rfl ((RdL.row 6 rfl) W2 hW2) A34 y32.1.length c35 rfl ((RdL.row 7 rfl) W2 hW2)) rfl) ?_
                refine ox_y rfl (y_assign_bool rfl) ?_
                refine ox_nil ?_
                refine ex_then ?_
                refine cx_seq ?_
                refine cx_seq ?_
                refine cx_region ?_
                refine ox_y rfl (y_move_bool rfl) ?_
                refine ox_y rfl (y_not rfl) ?_
                refine ox_y rfl (y_move_bool rfl) ?_
                refine ox_join 4 (fun tm0 => (upd (upd (upd (upd (upd (upd (upd (upd (upd (upd (upd (upd (upd (upd (upd (upd (upd (upd (upd (upd (upd (upd (upd (upd (upd (upd tm0 0 (.agg #[.int .i64 p0.fBarrows, .int .i64 p0.fSeen.x0, .int .i64 p0.fSeen.x1, .int .i64 p0.fSeen.x2, .int .i64 p0.fKnown.x0.fLo, .int .i64 p0.fKnown.x0.fHi, .int .i64 p0.fKnown.x1.fLo, .int .i64 p0.fKnown.x1.fHi, .int .i64 p0.fKnown.x2.fLo, .int .i64 p0.fKnown.x2.fHi])) 1 (.agg #[.int .i64 p1.x0, .int .i64 p1.x1, .int .i64 p1.x2])) 2 (.agg #[.int .i64 p2.x0, .int .i64 p2.x1, .int .i64 p2.x2])) 3 (.int .i64 p3)) 4 (.pointer (some ⟨b1, 0, none⟩))) 5 (.pointer (some ⟨b2, 0, none⟩))) 6 (.pointer (some ⟨b3, 0, none⟩))) 8 (.bool false)) 9 (.bool y4)) 10 (.pointer (some ⟨b8, 0, none⟩))) 11 (.int .i64 y14.2)) 12 (.pointer (some ⟨b11, 0, none⟩))) 13 (.int .i64 y16.2)) 42 (.bool ((y6.2 != 0) || (y9.2 != 0)))) 14 (.pointer (some ⟨b20, 0, none⟩))) 15 (.int .i64 y18.2)) 94 (.bool ((((y14.2 != y16.2) || (y14.2 != y18.2)) || (!((y14.1.fBarrows == y16.1.fBarrows) && (((y14.1.fSeen.x0 == y16.1.fSeen.x0) && (y14.1.fSeen.x1 == y16.1.fSeen.x1) && (y14.1.fSeen.x2 == y16.1.fSeen.x2)) && (((y14.1.fKnown.x0.fLo == y16.1.fKnown.x0.fLo) && (y14.1.fKnown.x0.fHi == y16.1.fKnown.x0.fHi)) && ((y14.1.fKnown.x1.fLo == y16.1.fKnown.x1.fLo) && (y14.1.fKnown.x1.fHi == y16.1.fKnown.x1.fHi)) && ((y14.1.fKnown.x2.fLo == y16.1.fKnown.x2.fLo) && (y14.1.fKnown.x2.fHi == y16.1.fKnown.x2.fHi))))))) || (!((y14.1.fBarrows == y18.1.fBarrows) && (((y14.1.fSeen.x0 == y18.1.fSeen.x0) && (y14.1.fSeen.x1 == y18.1.fSeen.x1) && (y14.1.fSeen.x2 == y18.1.fSeen.x2)) && (((y14.1.fKnown.x0.fLo == y18.1.fKnown.x0.fLo) && (y14.1.fKnown.x0.fHi == y18.1.fKnown.x0.fHi)) && ((y14.1.fKnown.x1.fLo == y18.1.fKnown.x1.fLo) && (y14.1.fKnown.x1.fHi == y18.1.fKnown.x1.fHi)) && ((y14.1.fKnown.x2.fLo == y18.1.fKnown.x2.fLo) && (y14.1.fKnown.x2.fHi == y18.1.fKnown.x2.fHi))))))))) 96 (.bool (y14.2 != 0))) 16 (.slice A28 y26.1.length c29)) 17 (.int .i64 y26.2)) 18 (.slice A34 y32.1.length c35)) 19 (.int .i64 y32.2)) 20 (.slice A40 y38.1.length c41)) 21 (.int .i64 y38.2)) 22 (.bool y44)) 124 (.bool ((!y44) || (y26.2 != y32.2))))) (fun tm0 => ?_) (fun key => ?_)
                · refine ox_y rfl (y_move_bool rfl) ?_
                  refine ox_join 3 (fun tm0 => (upd (upd (upd (upd (upd (upd (upd (upd (upd (upd (upd (upd (upd (upd (upd (upd (upd (upd (upd (upd (upd (upd (upd (upd (upd (upd tm0 0 (.agg #[.int .i64 p0.fBarrows, .int .i64 p0.fSeen.x0, .int .i64 p0.fSeen.x1, .int .i64 p0.fSeen.x2, .int .i64 p0.fKnown.x0.fLo, .int .i64 p0.fKnown.x0.fHi, .int .i64 p0.fKnown.x1.fLo, .int .i64 p0.fKnown.x1.fHi, .int .i64 p0.fKnown.x2.fLo, .int .i64 p0.fKnown.x2.fHi])) 1 (.agg #[.int .i64 p1.x0, .int .i64 p1.x1, .int .i64 p1.x2])) 2 (.agg #[.int .i64 p2.x0, .int .i64 p2.x1, .int .i64 p2.x2])) 3 (.int .i64 p3)) 4 (.pointer (some ⟨b1, 0, none⟩))) 5 (.pointer (some ⟨b2, 0, none⟩))) 6 (.pointer (some ⟨b3, 0, none⟩))) 8 (.bool false)) 9 (.bool y4)) 10 (.pointer (some ⟨b8, 0, none⟩))) 11 (.int .i64 y14.2)) 12 (.pointer (some ⟨b11, 0, none⟩))) 13 (.int .i64 y16.2)) 42 (.bool ((y6.2 != 0) || (y9.2 != 0)))) 14 (.pointer (some ⟨b20, 0, none⟩))) 15 (.int .i64 y18.2)) 94 (.bool ((((y14.2 != y16.2) || (y14.2 != y18.2)) || (!((y14.1.fBarrows == y16.1.fBarrows) && (((y14.1.fSeen.x0 == y16.1.fSeen.x0) && (y14.1.fSeen.x1 == y16.1.fSeen.x1) && (y14.1.fSeen.x2 == y16.1.fSeen.x2)) && (((y14.1.fKnown.x0.fLo == y16.1.fKnown.x0.fLo) && (y14.1.fKnown.x0.fHi == y16.1.fKnown.x0.fHi)) && ((y14.1.fKnown.x1.fLo == y16.1.fKnown.x1.fLo) && (y14.1.fKnown.x1.fHi == y16.1.fKnown.x1.fHi)) && ((y14.1.fKnown.x2.fLo == y16.1.fKnown.x2.fLo) && (y14.1.fKnown.x2.fHi == y16.1.fKnown.x2.fHi))))))) || (!((y14.1.fBarrows == y18.1.fBarrows) && (((y14.1.fSeen.x0 == y18.1.fSeen.x0) && (y14.1.fSeen.x1 == y18.1.fSeen.x1) && (y14.1.fSeen.x2 == y18.1.fSeen.x2)) && (((y14.1.fKnown.x0.fLo == y18.1.fKnown.x0.fLo) && (y14.1.fKnown.x0.fHi == y18.1.fKnown.x0.fHi)) && ((y14.1.fKnown.x1.fLo == y18.1.fKnown.x1.fLo) && (y14.1.fKnown.x1.fHi == y18.1.fKnown.x1.fHi)) && ((y14.1.fKnown.x2.fLo == y18.1.fKnown.x2.fLo) && (y14.1.fKnown.x2.fHi == y18.1.fKnown.x2.fHi))))))))) 96 (.bool (y14.2 != 0))) 16 (.slice A28 y26.1.length c29)) 17 (.int .i64 y26.2)) 18 (.slice A34 y32.1.length c35)) 19 (.int .i64 y32.2)) 20 (.slice A40 y38.1.length c41)) 21 (.int .i64 y38.2)) 22 (.bool y44)) 128 (.bool (((!y44) || (y26.2 != y32.2)) || (y38.2 != 0))))) (fun tm0 => ?_) (fun key => ?_)
                  · refine ox_nil ?_
                    refine ex_then ?_
                    rcases ite_some h with ⟨hp48, h⟩ | ⟨hp48, h⟩
                    · refine cx_true (congrArg Value.bool hp48) ?_
                      refine cx_seq ?_
                      refine cx_region ?_
                      refine ox_y rfl (y_assign_bool rfl) ?_
                      refine ox_nil ?_
                      refine ex_then ?_
                      refine cx_ret ?_
                      refine ex_then_ret ?_
                      obtain rfl := Option.some.inj h
                      exact ex_res1 (.inl rfl) rfl (resV_tmp (v := .bool false) rfl) (fun W2 hW2 => ⟨rfl, hW2.none⟩)
                    · refine cx_false (congrArg Value.bool hp48) ?_
                      refine cx_skip ?_
                      refine ex_then ?_
                      refine cx_seq ?_
                      refine cx_region ?_
                      refine ox_y rfl (y_fieldAddr fo_52_1 rfl) ?_
                      refine ox_y rfl (y_indexArr ar_43 (by decide) (by decide) rfl rfl) ?_
                      refine ox_y rfl (y_load1 3 (v := .int .i64 y14.1.fSeen.x0) sc_3 rfl rfl rfl) ?_
                      refine ox_y rfl (y_fieldAddr fo_52_1 rfl) ?_
                      refine ox_y rfl (y_indexArr ar_43 (by decide) (by decide) rfl rfl) ?_
                      refine ox_y rfl (y_load1 3 (v := .int .i64 y14.1.fSeen.x1) sc_3 rfl rfl rfl) ?_
                      refine ox_y rfl (y_add rfl rfl) ?_
                      refine ox_y rfl (y_fieldAddr fo_52_1 rfl) ?_
                      refine ox_y rfl (y_indexArr ar_43 (by decide) (by decide) rfl rfl) ?_
                      refine ox_y rfl (y_load1 3 (v := .int .i64 y14.1.fSeen.x2) sc_3 rfl rfl rfl) ?_
                      refine ox_y rfl (y_add rfl rfl) ?_
                      refine ox_y rfl (y_assign_int rfl) ?_
                      refine ox_nil ?_
                      refine ex_then ?_
                      refine cx_seq ?_
                      refine cx_draws 21 mixed (by kernel_rfl) (by kernel_rfl) ?_
                      refine qx_y rfl (y_move_bool rfl) ?_
                      refine qx_y rfl (y_move_bool rfl) ?_
                      obtain ⟨b50, hb51, h⟩ := bind_some h
                      refine qx_join 18 (fun tm0 => (upd (upd (upd (upd (upd (upd (upd (upd (upd (upd (upd (upd (upd (upd (upd (upd (upd (upd (upd (upd (upd (upd (upd (upd (upd (upd (upd (upd tm0 0 (.agg #[.int .i64 p0.fBarrows, .int .i64 p0.fSeen.x0, .int .i64 p0.fSeen.x1, .int .i64 p0.fSeen.x2, .int .i64 p0.fKnown.x0.fLo, .int .i64 p0.fKnown.x0.fHi, .int .i64 p0.fKnown.x1.fLo, .int .i64 p0.fKnown.x1.fHi, .int .i64 p0.fKnown.x2.fLo, .int .i64 p0.fKnown.x2.fHi])) 1 (.agg #[.int .i64 p1.x0, .int .i64 p1.x1, .int .i64 p1.x2])) 2 (.agg #[.int .i64 p2.x0, .int .i64 p2.x1, .int .i64 p2.x2])) 3 (.int .i64 p3)) 4 (.pointer (some ⟨b1, 0, none⟩))) 5 (.pointer (some ⟨b2, 0, none⟩))) 6 (.pointer (some ⟨b3, 0, none⟩))) 8 (.bool false)) 9 (.bool y4)) 10 (.pointer (some ⟨b8, 0, none⟩))) 11 (.int .i64 y14.2)) 12 (.pointer (some ⟨b11, 0, none⟩))) 13 (.int .i64 y16.2)) 42 (.bool ((y6.2 != 0) || (y9.2 != 0)))) 14 (.pointer (some ⟨b20, 0, none⟩))) 15 (.int .i64 y18.2)) 94 (.bool ((((y14.2 != y16.2) || (y14.2 != y18.2)) || (!((y14.1.fBarrows == y16.1.fBarrows) && (((y14.1.fSeen.x0 == y16.1.fSeen.x0) && (y14.1.fSeen.x1 == y16.1.fSeen.x1) && (y14.1.fSeen.x2 == y16.1.fSeen.x2)) && (((y14.1.fKnown.x0.fLo == y16.1.fKnown.x0.fLo) && (y14.1.fKnown.x0.fHi == y16.1.fKnown.x0.fHi)) && ((y14.1.fKnown.x1.fLo == y16.1.fKnown.x1.fLo) && (y14.1.fKnown.x1.fHi == y16.1.fKnown.x1.fHi)) && ((y14.1.fKnown.x2.fLo == y16.1.fKnown.x2.fLo) && (y14.1.fKnown.x2.fHi == y16.1.fKnown.x2.fHi))))))) || (!((y14.1.fBarrows == y18.1.fBarrows) && (((y14.1.fSeen.x0 == y18.1.fSeen.x0) && (y14.1.fSeen.x1 == y18.1.fSeen.x1) && (y14.1.fSeen.x2 == y18.1.fSeen.x2)) && (((y14.1.fKnown.x0.fLo == y18.1.fKnown.x0.fLo) && (y14.1.fKnown.x0.fHi == y18.1.fKnown.x0.fHi)) && ((y14.1.fKnown.x1.fLo == y18.1.fKnown.x1.fLo) && (y14.1.fKnown.x1.fHi == y18.1.fKnown.x1.fHi)) && ((y14.1.fKnown.x2.fLo == y18.1.fKnown.x2.fLo) && (y14.1.fKnown.x2.fHi == y18.1.fKnown.x2.fHi))))))))) 96 (.bool (y14.2 != 0))) 16 (.slice A28 y26.1.length c29)) 17 (.int .i64 y26.2)) 18 (.slice A34 y32.1.length c35)) 19 (.int .i64 y32.2)) 20 (.slice A40 y38.1.length c41)) 21 (.int .i64 y38.2)) 22 (.bool y44)) 128 (.bool (((!y44) || (y26.2 != y32.2)) || (y38.2 != 0)))) 23 (.int .i64 (w64 ((w64 (y14.1.fSeen.x0 + y14.1.fSeen.x1)) + y14.1.fSeen.x2)))) 159 (.bool b50))) (fun tm0 => ?_) (fun key => ?_)
                      · refine qx_y rfl (y_assign_bool rfl) ?_
                        refine qx_nil ?_
                        refine ox_nil ?_
                        refine ex_then ?_
                        refine cx_ret ?_
                        obtain rfl := Option.some.inj h
                        exact ex_res1 (.inl rfl) rfl (resV_tmp (v := .bool b50) rfl) (fun W2 hW2 => ⟨rfl, hW2.none⟩)
                      · clear h; rcases ite_some hb51 with ⟨hp49, h⟩ | ⟨hp49, h⟩
                        · refine qx_y (sees_t rfl rfl rfl rfl hp49) (y_move_int rfl) ?_
                          refine qx_y (sees_t rfl rfl rfl rfl hp49) (y_fieldAddr fo_52_0 rfl) ?_
                          refine qx_y (sees_t rfl rfl rfl rfl hp49) (y_load1 3 (v := .int .i64 y14.1.fBarrows) sc_3 rfl rfl rfl) ?_
                          refine qx_y (sees_t rfl rfl rfl rfl hp49) (y_lss rfl rfl) ?_
                          refine qx_y (sees_t rfl rfl rfl rfl hp49) (y_move_bool rfl) ?_
                          obtain ⟨b53, hb54, h⟩ := bind_some h
                          refine qx_join 12 (fun tm0 => (upd (upd (upd (upd (upd (upd (upd (upd (upd (upd (upd (upd (upd (upd (upd (upd (upd (upd (upd (upd (upd (upd (upd (upd (upd (upd (upd (upd (upd tm0 0 (.agg #[.int .i64 p0.fBarrows, .int .i64 p0.fSeen.x0, .int .i64 p0.fSeen.x1, .int .i64 p0.fSeen.x2, .int .i64 p0.fKnown.x0.fLo, .int .i64 p0.fKnown.x0.fHi, .int .i64 p0.fKnown.x1.fLo, .int .i64 p0.fKnown.x1.fHi, .int .i64 p0.fKnown.x2.fLo, .int .i64 p0.fKnown.x2.fHi])) 1 (.agg #[.int .i64 p1.x0, .int .i64 p1.x1, .int .i64 p1.x2])) 2 (.agg #[.int .i64 p2.x0, .int .i64 p2.x1, .int .i64 p2.x2])) 3 (.int .i64 p3)) 4 (.pointer (some ⟨b1, 0, none⟩))) 5 (.pointer (some ⟨b2, 0, none⟩))) 6 (.pointer (some ⟨b3, 0, none⟩))) 8 (.bool false)) 9 (.bool y4)) 10 (.pointer (some ⟨b8, 0, none⟩))) 11 (.int .i64 y14.2)) 12 (.pointer (some ⟨b11, 0, none⟩))) 13 (.int .i64 y16.2)) 42 (.bool ((y6.2 != 0) || (y9.2 != 0)))) 14 (.pointer (some ⟨b20, 0, none⟩))) 15 (.int .i64 y18.2)) 94 (.bool ((((y14.2 != y16.2) || (y14.2 != y18.2)) || (!((y14.1.fBarrows == y16.1.fBarrows) && (((y14.1.fSeen.x0 == y16.1.fSeen.x0) && (y14.1.fSeen.x1 == y16.1.fSeen.x1) && (y14.1.fSeen.x2 == y16.1.fSeen.x2)) && (((y14.1.fKnown.x0.fLo == y16.1.fKnown.x0.fLo) && (y14.1.fKnown.x0.fHi == y16.1.fKnown.x0.fHi)) && ((y14.1.fKnown.x1.fLo == y16.1.fKnown.x1.fLo) && (y14.1.fKnown.x1.fHi == y16.1.fKnown.x1.fHi)) && ((y14.1.fKnown.x2.fLo == y16.1.fKnown.x2.fLo) && (y14.1.fKnown.x2.fHi == y16.1.fKnown.x2.fHi))))))) || (!((y14.1.fBarrows == y18.1.fBarrows) && (((y14.1.fSeen.x0 == y18.1.fSeen.x0) && (y14.1.fSeen.x1 == y18.1.fSeen.x1) && (y14.1.fSeen.x2 == y18.1.fSeen.x2)) && (((y14.1.fKnown.x0.fLo == y18.1.fKnown.x0.fLo) && (y14.1.fKnown.x0.fHi == y18.1.fKnown.x0.fHi)) && ((y14.1.fKnown.x1.fLo == y18.1.fKnown.x1.fLo) && (y14.1.fKnown.x1.fHi == y18.1.fKnown.x1.fHi)) && ((y14.1.fKnown.x2.fLo == y18.1.fKnown.x2.fLo) && (y14.1.fKnown.x2.fHi == y18.1.fKnown.x2.fHi))))))))) 96 (.bool (y14.2 != 0))) 16 (.slice A28 y26.1.length c29)) 17 (.int .i64 y26.2)) 18 (.slice A34 y32.1.length c35)) 19 (.int .i64 y32.2)) 20 (.slice A40 y38.1.length c41)) 21 (.int .i64 y38.2)) 22 (.bool y44)) 128 (.bool (((!y44) || (y26.2 != y32.2)) || (y38.2 != 0)))) 23 (.int .i64 (w64 ((w64 (y14.1.fSeen.x0 + y14.1.fSeen.x1)) + y14.1.fSeen.x2)))) 141 (.bool y4)) 158 (.bool b53))) (fun tm0 => ?_) (fun key => ?_)
                          · refine qx_y rfl (y_pick_tb (congrArg Value.bool hp49) rfl) ?_
                            obtain rfl := Option.some.inj h
                            exact key _ _ (keep (keep (keep (keep (keep (keep (keep (keep (keep (keep (keep (keep (keep (keep (keep (keep (keep (keep (keep (keep (keep (keep (keep (keep (keep (keep (keep (keep rfl rfl) rfl) rfl) rfl) rfl) rfl) rfl) rfl) rfl) rfl) rfl) rfl) rfl) rfl) rfl) rfl) rfl) rfl) rfl) rfl) rfl) rfl) rfl) rfl) rfl) rfl) rfl) rfl)
                          · clear h; rcases ite_some hb54 with ⟨hp52, h⟩ | ⟨hp52, h⟩
                            · refine qx_skip (sees_f rfl rfl rfl rfl hp52) ?_
                              refine qx_skip (sees_f rfl rfl rfl rfl hp52) ?_
                              refine qx_skip (sees_f rfl rfl rfl rfl hp52) ?_
                              refine qx_skip (sees_f rfl rfl rfl rfl hp52) ?_
                              refine qx_skip rfl ?_
                              refine qx_skip rfl ?_
                              refine qx_skip rfl ?_
                              refine qx_skip rfl ?_
                              refine qx_skip rfl ?_
                              refine qx_skip rfl ?_
                              refine qx_skip (sees_f rfl rfl rfl rfl hp52) ?_
                              refine qx_y (sees_t rfl rfl rfl rfl hp49) (y_pick_tb (congrArg Value.bool hp52) rfl) ?_
                              obtain rfl := Option.some.inj h
                              exact key _ _ (keep (keep (keep (keep (keep (keep (keep (keep (keep (keep (keep (keep (keep (keep (keep (keep (keep (keep (keep (keep (keep (keep (keep (keep (keep (keep (keep (keep (keep rfl rfl) rfl) rfl) rfl) rfl) rfl) rfl) rfl) rfl) rfl) rfl) rfl) rfl) rfl) rfl) rfl) rfl) rfl) rfl) rfl) rfl) rfl) rfl) rfl) rfl) rfl) rfl) rfl) rfl)
                            · refine qx_y (sees_t rfl rfl rfl rfl hp52) (y_move_slice rfl) ?_
                              refine qx_y (sees_t rfl rfl rfl rfl hp52) (y_len (us := []) us_53 rfl) ?_
                              refine qx_y (sees_t rfl rfl rfl rfl hp52) (y_eql rfl rfl) ?_
                              refine qx_y (sees_t rfl rfl rfl rfl hp52) (y_move_bool rfl) ?_
                              obtain ⟨b56, hb57, h⟩ := bind_some h
                              refine qx_join 7 (fun tm0 => (upd (upd (upd (upd (upd (upd (upd (upd (upd (upd (upd (upd (upd (upd (upd (upd (upd (upd (upd (upd (upd (upd (upd (upd (upd (upd (upd (upd (upd (upd tm0 0 (.agg #[.int .i64 p0.fBarrows, .int .i64 p0.fSeen.x0, .int .i64 p0.fSeen.x1, .int .i64 p0.fSeen.x2, .int .i64 p0.fKnown.x0.fLo, .int .i64 p0.fKnown.x0.fHi, .int .i64 p0.fKnown.x1.fLo, .int .i64 p0.fKnown.x1.fHi, .int .i64 p0.fKnown.x2.fLo, .int .i64 p0.fKnown.x2.fHi])) 1 (.agg #[.int .i64 p1.x0, .int .i64 p1.x1, .int .i64 p1.x2])) 2 (.agg #[.int .i64 p2.x0, .int .i64 p2.x1, .int .i64 p2.x2])) 3 (.int .i64 p3)) 4 (.pointer (some ⟨b1, 0, none⟩))) 5 (.pointer (some ⟨b2, 0, none⟩))) 6 (.pointer (some ⟨b3, 0, none⟩))) 8 (.bool false)) 9 (.bool y4)) 10 (.pointer (some ⟨b8, 0, none⟩))) 11 (.int .i64 y14.2)) 12 (.pointer (some ⟨b11, 0, none⟩))) 13 (.int .i64 y16.2)) 42 (.bool ((y6.2 != 0) || (y9.2 != 0)))) 14 (.pointer (some ⟨b20, 0, none⟩))) 15 (.int .i64 y18.2)) 94 (.bool ((((y14.2 != y16.2) || (y14.2 != y18.2)) || (!((y14.1.fBarrows == y16.1.fBarrows) && (((y14.1.fSeen.x0 == y16.1.fSeen.x0) && (y14.1.fSeen.x1 == y16.1.fSeen.x1) && (y14.1.fSeen.x2 == y16.1.fSeen.x2)) && (((y14.1.fKnown.x0.fLo == y16.1.fKnown.x0.fLo) && (y14.1.fKnown.x0.fHi == y16.1.fKnown.x0.fHi)) && ((y14.1.fKnown.x1.fLo == y16.1.fKnown.x1.fLo) && (y14.1.fKnown.x1.fHi == y16.1.fKnown.x1.fHi)) && ((y14.1.fKnown.x2.fLo == y16.1.fKnown.x2.fLo) && (y14.1.fKnown.x2.fHi == y16.1.fKnown.x2.fHi))))))) || (!((y14.1.fBarrows == y18.1.fBarrows) && (((y14.1.fSeen.x0 == y18.1.fSeen.x0) && (y14.1.fSeen.x1 == y18.1.fSeen.x1) && (y14.1.fSeen.x2 == y18.1.fSeen.x2)) && (((y14.1.fKnown.x0.fLo == y18.1.fKnown.x0.fLo) && (y14.1.fKnown.x0.fHi == y18.1.fKnown.x0.fHi)) && ((y14.1.fKnown.x1.fLo == y18.1.fKnown.x1.fLo) && (y14.1.fKnown.x1.fHi == y18.1.fKnown.x1.fHi)) && ((y14.1.fKnown.x2.fLo == y18.1.fKnown.x2.fLo) && (y14.1.fKnown.x2.fHi == y18.1.fKnown.x2.fHi))))))))) 96 (.bool (y14.2 != 0))) 16 (.slice A28 y26.1.length c29)) 17 (.int .i64 y26.2)) 18 (.slice A34 y32.1.length c35)) 19 (.int .i64 y32.2)) 20 (.slice A40 y38.1.length c41)) 21 (.int .i64 y38.2)) 22 (.bool y44)) 128 (.bool (((!y44) || (y26.2 != y32.2)) || (y38.2 != 0)))) 23 (.int .i64 (w64 ((w64 (y14.1.fSeen.x0 + y14.1.fSeen.x1)) + y14.1.fSeen.x2)))) 141 (.bool y4)) 146 (.bool (decide (w64 ((w64 (y14.1.fSeen.x0 + y14.1.fSeen.x1)) + y14.1.fSeen.x2) < y14.1.fBarrows)))) 157 (.bool b56))) (fun tm0 => ?_) (fun key => ?_)
                              · refine qx_y (sees_t rfl rfl rfl rfl hp49) (y_pick_fb (congrArg Value.bool hp52) rfl) ?_
                                obtain rfl := Option.some.inj h
                                exact key _ _ (keep (keep (keep (keep (keep (keep (keep (keep (keep (keep (keep (keep (keep (keep (keep (keep (keep (keep (keep (keep (keep (keep (keep (keep (keep (keep (keep (keep (keep rfl rfl) rfl) rfl) rfl) rfl) rfl) rfl) rfl) rfl) rfl) rfl) rfl) rfl) rfl) rfl) rfl) rfl) rfl) rfl) rfl) rfl) rfl) rfl) rfl) rfl) rfl) rfl) rfl) rfl)
                              · clear h; rcases ite_some hb57 with ⟨hp55, h⟩ | ⟨hp55, h⟩
                                · refine qx_y (sees_t rfl rfl rfl rfl hp55) (y_move_slice rfl) ?_
                                  obtain ⟨hg58, h⟩ := guardO_some h
                                  refine qx_y (sees_t rfl rfl rfl rfl hp55) (y_indexR sl_53 (by decide) hg58.1 hg58.2 (RdL.row 8 rfl) (encL_len TKinds_cells_len rfl) rfl rfl) ?_
                                  refine qx_y (sees_t rfl rfl rfl rfl hp55) (y_loadRN (A := A40) (j := (Int.toNat 0 * 3)) [.int .i64 ((rdL y38.1 0).x0), .int .i64 ((rdL y38.1 0).x1), .int .i64 ((rdL y38.1 0).x2)] ag_43 (Nat.succ_pos _) (RdL.row 8 rfl) rfl (encL_gets TKinds_cells_len hg58.1 (lt_nat hg58.2 rfl))) ?_
                                  refine qx_y (sees_t rfl rfl rfl rfl hp55) (y_fieldAddr fo_52_1 rfl) ?_
                                  refine qx_y (sees_t rfl rfl rfl rfl hp55) (y_loadN 3 [.int .i64 y14.1.fSeen.x0, .int .i64 y14.1.fSeen.x1, .int .i64 y14.1.fSeen.x2] ag_43 rfl rfl rfl) ?_
                                  refine qx_y (sees_t rfl rfl rfl rfl hp55) (y_eqla (b := (((rdL y38.1 0).x0 == y14.1.fSeen.x0) && ((rdL y38.1 0).x1 == y14.1.fSeen.x1) && ((rdL y38.1 0).x2 == y14.1.fSeen.x2))) eg_43 rfl rfl (fun _ => (eqA3 ua_43 sz_3 (part1 sc_3 rfl) (part1 sc_3 rfl) (part1 sc_3 rfl) (part1 sc_3 rfl) (part1 sc_3 rfl) (part1 sc_3 rfl) (run_equalIn_int _ _ _ _ _ _ _ ui_3) (run_equalIn_int _ _ _ _ _ _ _ ui_3) (run_equalIn_int _ _ _ _ _ _ _ ui_3)))) ?_
                                  refine qx_y (sees_t rfl rfl rfl rfl hp52) (y_pick_tb (congrArg Value.bool hp55) rfl) ?_
                                  obtain rfl := Option.some.inj h
                                  exact key _ _ (keep (keep (keep (keep (keep (keep (keep (keep (keep (keep (keep (keep (keep (keep (keep (keep (keep (keep (keep (keep (keep (keep (keep (keep (keep (keep (keep (keep (keep (keep rfl rfl) rfl) rfl) rfl) rfl) rfl) rfl) rfl) rfl) rfl) rfl) rfl) rfl) rfl) rfl) rfl) rfl) rfl) rfl) rfl) rfl) rfl) rfl) rfl) rfl) rfl) rfl) rfl) rfl) rfl)
                                · refine qx_skip (sees_f rfl rfl rfl rfl hp55) ?_
                                  refine qx_skip (sees_f rfl rfl rfl rfl hp55) ?_
                                  refine qx_skip (sees_f rfl rfl rfl rfl hp55) ?_
                                  refine qx_skip (sees_f rfl rfl rfl rfl hp55) ?_
                                  refine qx_skip (sees_f rfl rfl rfl rfl hp55) ?_
                                  refine qx_skip (sees_f rfl rfl rfl rfl hp55) ?_
                                  refine qx_y (sees_t rfl rfl rfl rfl hp52) (y_pick_fb (congrArg Value.bool hp55) rfl) ?_
                                  obtain rfl := Option.some.inj h
                                  exact key _ _ (keep (keep (keep (keep (keep (keep (keep (keep (keep (keep (keep (keep (keep (keep (keep (keep (keep (keep (keep (keep (keep (keep (keep (keep (keep (keep (keep (keep (keep (keep rfl rfl) rfl) rfl) rfl) rfl) rfl) rfl) rfl) rfl) rfl) rfl) rfl) rfl) rfl) rfl) rfl) rfl) rfl) rfl) rfl) rfl) rfl) rfl) rfl) rfl) rfl) rfl) rfl) rfl) rfl)
                        · refine qx_skip (sees_f rfl rfl rfl rfl hp49) ?_
                          refine qx_skip (sees_f rfl rfl rfl rfl hp49) ?_
                          refine qx_skip (sees_f rfl rfl rfl rfl hp49) ?_
                          refine qx_skip (sees_f rfl rfl rfl rfl hp49) ?_
                          refine qx_skip (sees_f rfl rfl rfl rfl hp49) ?_
                          refine qx_skip rfl ?_
                          refine qx_skip rfl ?_
                          refine qx_skip rfl ?_
                          refine qx_skip rfl ?_
                          refine qx_skip rfl ?_
                          refine qx_skip rfl ?_
                          refine qx_skip rfl ?_
                          refine qx_skip rfl ?_
                          refine qx_skip rfl ?_
                          refine qx_skip rfl ?_
                          refine qx_skip rfl ?_
                          refine qx_skip (sees_f rfl rfl rfl rfl hp49) ?_
                          refine qx_y rfl (y_pick_fb (congrArg Value.bool hp49) rfl) ?_
                          obtain rfl := Option.some.inj h
                          exact key _ _ (keep (keep (keep (keep (keep (keep (keep (keep (keep (keep (keep (keep (keep (keep (keep (keep (keep (keep (keep (keep (keep (keep (keep (keep (keep (keep (keep (keep rfl rfl) rfl) rfl) rfl) rfl) rfl) rfl) rfl) rfl) rfl) rfl) rfl) rfl) rfl) rfl) rfl) rfl) rfl) rfl) rfl) rfl) rfl) rfl) rfl) rfl) rfl) rfl) rfl)
                  · rcases bool_cases ((!y44) || (y26.2 != y32.2)) with hp47 | hp47
                    · refine ox_skip (sees_f rfl rfl rfl rfl hp47) ?_
                      refine ox_skip (sees_f rfl rfl rfl rfl hp47) ?_
                      refine ox_y rfl (y_pick_tb (congrArg Value.bool hp47) rfl) ?_
                      exact key _ _ (keep (keep (keep (keep (keep (keep (keep (keep (keep (keep (keep (keep (keep (keep (keep (keep (keep (keep (keep (keep (keep (keep (keep (keep (keep (keep rfl rfl) rfl) rfl) rfl) rfl) rfl) rfl) rfl) rfl) rfl) rfl) rfl) rfl) rfl) rfl) rfl) rfl) rfl) rfl) rfl) rfl) rfl) rfl) rfl) rfl) (congrArg Value.bool (or_t hp47)))
                    · refine ox_y (sees_t rfl rfl rfl rfl hp47) (y_move_int rfl) ?_
                      refine ox_y (sees_t rfl rfl rfl rfl hp47) (y_neq rfl rfl) ?_
                      refine ox_y rfl (y_pick_fb (congrArg Value.bool hp47) rfl) ?_
                      exact key _ _ (keep (keep (keep (keep (keep (keep (keep (keep (keep (keep (keep (keep (keep (keep (keep (keep (keep (keep (keep (keep (keep (keep (keep (keep (keep (keep rfl rfl) rfl) rfl) rfl) rfl) rfl) rfl) rfl) rfl) rfl) rfl) rfl) rfl) rfl) rfl) rfl) rfl) rfl) rfl) rfl) rfl) rfl) rfl) rfl) rfl) (congrArg Value.bool (or_f hp47)))
                · rcases bool_cases (!y44) with hp46 | hp46
                  · refine ox_skip (sees_f rfl rfl rfl rfl hp46) ?_
                    refine ox_skip (sees_f rfl rfl rfl rfl hp46) ?_
                    refine ox_skip (sees_f rfl rfl rfl rfl hp46) ?_
                    refine ox_y rfl (y_pick_tb (congrArg Value.bool hp46) rfl) ?_
                    exact key _ _ (keep (keep (keep (keep (keep (keep (keep (keep (keep (keep (keep (keep (keep (keep (keep (keep (keep (keep (keep (keep (keep (keep (keep (keep (keep (keep rfl rfl) rfl) rfl) rfl) rfl) rfl) rfl) rfl) rfl) rfl) rfl) rfl) rfl) rfl) rfl) rfl) rfl) rfl) rfl) rfl) rfl) rfl) rfl) rfl) rfl) (congrArg Value.bool (or_t hp46)))
                  · refine ox_y (sees_t rfl rfl rfl rfl hp46) (y_move_int rfl) ?_
                    refine ox_y (sees_t rfl rfl rfl rfl hp46) (y_move_int rfl) ?_
                    refine ox_y (sees_t rfl rfl rfl rfl hp46) (y_neq rfl rfl) ?_
                    refine ox_y rfl (y_pick_fb (congrArg Value.bool hp46) rfl) ?_
                    exact key _ _ (keep (keep (keep (keep (keep (keep (keep (keep (keep (keep (keep (keep (keep (keep (keep (keep (keep (keep (keep (keep (keep (keep (keep (keep (keep (keep rfl rfl) rfl) rfl) rfl) rfl) rfl) rfl) rfl) rfl) rfl) rfl) rfl) rfl) rfl) rfl) rfl) rfl) rfl) rfl) rfl) rfl) rfl) rfl) rfl) rfl) (congrArg Value.bool (or_f hp46)))
          · rcases bool_cases (((y14.2 != y16.2) || (y14.2 != y18.2)) || (!((y14.1.fBarrows == y16.1.fBarrows) && (((y14.1.fSeen.x0 == y16.1.fSeen.x0) && (y14.1.fSeen.x1 == y16.1.fSeen.x1) && (y14.1.fSeen.x2 == y16.1.fSeen.x2)) && (((y14.1.fKnown.x0.fLo == y16.1.fKnown.x0.fLo) && (y14.1.fKnown.x0.fHi == y16.1.fKnown.x0.fHi)) && ((y14.1.fKnown.x1.fLo == y16.1.fKnown.x1.fLo) && (y14.1.fKnown.x1.fHi == y16.1.fKnown.x1.fHi)) && ((y14.1.fKnown.x2.fLo == y16.1.fKnown.x2.fLo) && (y14.1.fKnown.x2.fHi == y16.1.fKnown.x2.fHi))))))) with hp23 | hp23
            · refine ox_skip (sees_f rfl rfl rfl rfl hp23) ?_
              refine ox_skip (sees_f rfl rfl rfl rfl hp23) ?_
              refine ox_skip (sees_f rfl rfl rfl rfl hp23) ?_
              refine ox_y rfl (y_pick_tb (congrArg Value.bool hp23) rfl) ?_
              exact key _ _ (keep (keep (keep (keep (keep (keep (keep (keep (keep (keep (keep (keep (keep (keep (keep (keep (keep rfl rfl) rfl) rfl) rfl) rfl) rfl) rfl) rfl) rfl) rfl) rfl) rfl) rfl) rfl) rfl) rfl) (congrArg Value.bool (or_t hp23)))
            · refine ox_y (sees_t rfl rfl rfl rfl hp23) (y_loadN 3 [.int .i64 y14.1.fBarrows, .int .i64 y14.1.fSeen.x0, .int .i64 y14.1.fSeen.x1, .int .i64 y14.1.fSeen.x2, .int .i64 y14.1.fKnown.x0.fLo, .int .i64 y14.1.fKnown.x0.fHi, .int .i64 y14.1.fKnown.x1.fLo, .int .i64 y14.1.fKnown.x1.fHi, .int .i64 y14.1.fKnown.x2.fLo, .int .i64 y14.1.fKnown.x2.fHi] ag_52 rfl rfl rfl) ?_
              refine ox_y (sees_t rfl rfl rfl rfl hp23) (y_loadN 5 [.int .i64 y18.1.fBarrows, .int .i64 y18.1.fSeen.x0, .int .i64 y18.1.fSeen.x1, .int .i64 y18.1.fSeen.x2, .int .i64 y18.1.fKnown.x0.fLo, .int .i64 y18.1.fKnown.x0.fHi, .int .i64 y18.1.fKnown.x1.fLo, .int .i64 y18.1.fKnown.x1.fHi, .int .i64 y18.1.fKnown.x2.fLo, .int .i64 y18.1.fKnown.x2.fHi] ag_52 rfl rfl rfl) ?_
              refine ox_y (sees_t rfl rfl rfl rfl hp23) (y_neqa (b := ((y14.1.fBarrows == y18.1.fBarrows) && (((y14.1.fSeen.x0 == y18.1.fSeen.x0) && (y14.1.fSeen.x1 == y18.1.fSeen.x1) && (y14.1.fSeen.x2 == y18.1.fSeen.x2)) && (((y14.1.fKnown.x0.fLo == y18.1.fKnown.x0.fLo) && (y14.1.fKnown.x0.fHi == y18.1.fKnown.x0.fHi)) && ((y14.1.fKnown.x1.fLo == y18.1.fKnown.x1.fLo) && (y14.1.fKnown.x1.fHi == y18.1.fKnown.x1.fHi)) && ((y14.1.fKnown.x2.fLo == y18.1.fKnown.x2.fLo) && (y14.1.fKnown.x2.fHi == y18.1.fKnown.x2.fHi)))))) eg_52 rfl rfl (fun _ => (eqS3 fl_52 (part1 sc_3 rfl) (partN (cs := #[.int .i64 y14.1.fSeen.x0, .int .i64 y14.1.fSeen.x1, .int .i64 y14.1.fSeen.x2]) ag_43 (by kernel_rfl)) (partN (cs := #[.int .i64 y14.1.fKnown.x0.fLo, .int .i64 y14.1.fKnown.x0.fHi, .int .i64 y14.1.fKnown.x1.fLo, .int .i64 y14.1.fKnown.x1.fHi, .int .i64 y14.1.fKnown.x2.fLo, .int .i64 y14.1.fKnown.x2.fHi]) ag_50 (by kernel_rfl)) (part1 sc_3 rfl) (partN (cs := #[.int .i64 y18.1.fSeen.x0, .int .i64 y18.1.fSeen.x1, .int .i64 y18.1.fSeen.x2]) ag_43 (by kernel_rfl)) (partN (cs := #[.int .i64 y18.1.fKnown.x0.fLo, .int .i64 y18.1.fKnown.x0.fHi, .int .i64 y18.1.fKnown.x1.fLo, .int .i64 y18.1.fKnown.x1.fHi, .int .i64 y18.1.fKnown.x2.fLo, .int .i64 y18.1.fKnown.x2.fHi]) ag_50 (by kernel_rfl)) (run_equalIn_int _ _ _ _ _ _ _ ui_3) (eqA3 ua_43 sz_3 (part1 sc_3 rfl) (part1 sc_3 rfl) (part1 sc_3 rfl) (part1 sc_3 rfl) (part1 sc_3 rfl) (part1 sc_3 rfl) (run_equalIn_int _ _ _ _ _ _ _ ui_3) (run_equalIn_int _ _ _ _ _ _ _ ui_3) (run_equalIn_int _ _ _ _ _ _ _ ui_3)) (eqA3 ua_50 sz_33 (partN (cs := #[.int .i64 y14.1.fKnown.x0.fLo, .int .i64 y14.1.fKnown.x0.fHi]) ag_33 (by kernel_rfl)) (partN (cs := #[.int .i64 y14.1.fKnown.x1.fLo, .int .i64 y14.1.fKnown.x1.fHi]) ag_33 (by kernel_rfl)) (partN (cs := #[.int .i64 y14.1.fKnown.x2.fLo, .int .i64 y14.1.fKnown.x2.fHi]) ag_33 (by kernel_rfl)) (partN (cs := #[.int .i64 y18.1.fKnown.x0.fLo, .int .i64 y18.1.fKnown.x0.fHi]) ag_33 (by kernel_rfl)) (partN (cs := #[.int .i64 y18.1.fKnown.x1.fLo, .int .i64 y18.1.fKnown.x1.fHi]) ag_33 (by kernel_rfl)) (partN (cs := #[.int .i64 y18.1.fKnown.x2.fLo, .int .i64 y18.1.fKnown.x2.fHi]) ag_33 (by kernel_rfl)) (eqS2 fl_33 (part1 sc_3 rfl) (part1 sc_3 rfl) (part1 sc_3 rfl) (part1 sc_3 rfl) (run_equalIn_int _ _ _ _ _ _ _ ui_3) (run_equalIn_int _ _ _ _ _ _ _ ui_3)) (eqS2 fl_33 (part1 sc_3 rfl) (part1 sc_3 rfl) (part1 sc_3 rfl) (part1 sc_3 rfl) (run_equalIn_int _ _ _ _ _ _ _ ui_3) (run_equalIn_int _ _ _ _ _ _ _ ui_3)) (eqS2 fl_33 (part1 sc_3 rfl) (part1 sc_3 rfl) (part1 sc_3 rfl) (part1 sc_3 rfl) (run_equalIn_int _ _ _ _ _ _ _ ui_3) (run_equalIn_int _ _ _ _ _ _ _ ui_3)))))) ?_
              refine ox_y rfl (y_pick_fb (congrArg Value.bool hp23) rfl) ?_
              exact key _ _ (keep (keep (keep (keep (keep (keep (keep (keep (keep (keep (keep (keep (keep (keep (keep (keep (keep rfl rfl) rfl) rfl) rfl) rfl) rfl) rfl) rfl) rfl) rfl) rfl) rfl) rfl) rfl) rfl) rfl) (congrArg Value.bool (or_f hp23)))
        · rcases bool_cases ((y14.2 != y16.2) || (y14.2 != y18.2)) with hp22 | hp22
          · refine ox_skip (sees_f rfl rfl rfl rfl hp22) ?_
            refine ox_skip (sees_f rfl rfl rfl rfl hp22) ?_
            refine ox_skip (sees_f rfl rfl rfl rfl hp22) ?_
            refine ox_y rfl (y_pick_tb (congrArg Value.bool hp22) rfl) ?_
            exact key _ _ (keep (keep (keep (keep (keep (keep (keep (keep (keep (keep (keep (keep (keep (keep (keep (keep (keep rfl rfl) rfl) rfl) rfl) rfl) rfl) rfl) rfl) rfl) rfl) rfl) rfl) rfl) rfl) rfl) rfl) (congrArg Value.bool (or_t hp22)))
          · refine ox_y (sees_t rfl rfl rfl rfl hp22) (y_loadN 3 [.int .i64 y14.1.fBarrows, .int .i64 y14.1.fSeen.x0, .int .i64 y14.1.fSeen.x1, .int .i64 y14.1.fSeen.x2, .int .i64 y14.1.fKnown.x0.fLo, .int .i64 y14.1.fKnown.x0.fHi, .int .i64 y14.1.fKnown.x1.fLo, .int .i64 y14.1.fKnown.x1.fHi, .int .i64 y14.1.fKnown.x2.fLo, .int .i64 y14.1.fKnown.x2.fHi] ag_52 rfl rfl rfl) ?_
            refine ox_y (sees_t rfl rfl rfl rfl hp22) (y_loadN 4 [.int .i64 y16.1.fBarrows, .int .i64 y16.1.fSeen.x0, .int .i64 y16.1.fSeen.x1, .int .i64 y16.1.fSeen.x2, .int .i64 y16.1.fKnown.x0.fLo, .int .i64 y16.1.fKnown.x0.fHi, .int .i64 y16.1.fKnown.x1.fLo, .int .i64 y16.1.fKnown.x1.fHi, .int .i64 y16.1.fKnown.x2.fLo, .int .i64 y16.1.fKnown.x2.fHi] ag_52 rfl rfl rfl) ?_
            refine ox_y (sees_t rfl rfl rfl rfl hp22) (y_neqa (b := ((y14.1.fBarrows == y16.1.fBarrows) && (((y14.1.fSeen.x0 == y16.1.fSeen.x0) && (y14.1.fSeen.x1 == y16.1.fSeen.x1) && (y14.1.fSeen.x2 == y16.1.fSeen.x2)) && (((y14.1.fKnown.x0.fLo == y16.1.fKnown.x0.fLo) && (y14.1.fKnown.x0.fHi == y16.1.fKnown.x0.fHi)) && ((y14.1.fKnown.x1.fLo == y16.1.fKnown.x1.fLo) && (y14.1.fKnown.x1.fHi == y16.1.fKnown.x1.fHi)) && ((y14.1.fKnown.x2.fLo == y16.1.fKnown.x2.fLo) && (y14.1.fKnown.x2.fHi == y16.1.fKnown.x2.fHi)))))) eg_52 rfl rfl (fun _ => (eqS3 fl_52 (part1 sc_3 rfl) (partN (cs := #[.int .i64 y14.1.fSeen.x0, .int .i64 y14.1.fSeen.x1, .int .i64 y14.1.fSeen.x2]) ag_43 (by kernel_rfl)) (partN (cs := #[.int .i64 y14.1.fKnown.x0.fLo, .int .i64 y14.1.fKnown.x0.fHi, .int .i64 y14.1.fKnown.x1.fLo, .int .i64 y14.1.fKnown.x1.fHi, .int .i64 y14.1.fKnown.x2.fLo, .int .i64 y14.1.fKnown.x2.fHi]) ag_50 (by kernel_rfl)) (part1 sc_3 rfl) (partN (cs := #[.int .i64 y16.1.fSeen.x0, .int .i64 y16.1.fSeen.x1, .int .i64 y16.1.fSeen.x2]) ag_43 (by kernel_rfl)) (partN (cs := #[.int .i64 y16.1.fKnown.x0.fLo, .int .i64 y16.1.fKnown.x0.fHi, .int .i64 y16.1.fKnown.x1.fLo, .int .i64 y16.1.fKnown.x1.fHi, .int .i64 y16.1.fKnown.x2.fLo, .int .i64 y16.1.fKnown.x2.fHi]) ag_50 (by kernel_rfl)) (run_equalIn_int _ _ _ _ _ _ _ ui_3) (eqA3 ua_43 sz_3 (part1 sc_3 rfl) (part1 sc_3 rfl) (part1 sc_3 rfl) (part1 sc_3 rfl) (part1 sc_3 rfl) (part1 sc_3 rfl) (run_equalIn_int _ _ _ _ _ _ _ ui_3) (run_equalIn_int _ _ _ _ _ _ _ ui_3) (run_equalIn_int _ _ _ _ _ _ _ ui_3)) (eqA3 ua_50 sz_33 (partN (cs := #[.int .i64 y14.1.fKnown.x0.fLo, .int .i64 y14.1.fKnown.x0.fHi]) ag_33 (by kernel_rfl)) (partN (cs := #[.int .i64 y14.1.fKnown.x1.fLo, .int .i64 y14.1.fKnown.x1.fHi]) ag_33 (by kernel_rfl)) (partN (cs := #[.int .i64 y14.1.fKnown.x2.fLo, .int .i64 y14.1.fKnown.x2.fHi]) ag_33 (by kernel_rfl)) (partN (cs := #[.int .i64 y16.1.fKnown.x0.fLo, .int .i64 y16.1.fKnown.x0.fHi]) ag_33 (by kernel_rfl)) (partN (cs := #[.int .i64 y16.1.fKnown.x1.fLo, .int .i64 y16.1.fKnown.x1.fHi]) ag_33 (by kernel_rfl)) (partN (cs := #[.int .i64 y16.1.fKnown.x2.fLo, .int .i64 y16.1.fKnown.x2.fHi]) ag_33 (by kernel_rfl)) (eqS2 fl_33 (part1 sc_3 rfl) (part1 sc_3 rfl) (part1 sc_3 rfl) (part1 sc_3 rfl) (run_equalIn_int _ _ _ _ _ _ _ ui_3) (run_equalIn_int _ _ _ _ _ _ _ ui_3)) (eqS2 fl_33 (part1 sc_3 rfl) (part1 sc_3 rfl) (part1 sc_3 rfl) (part1 sc_3 rfl) (run_equalIn_int _ _ _ _ _ _ _ ui_3) (run_equalIn_int _ _ _ _ _ _ _ ui_3)) (eqS2 fl_33 (part1 sc_3 rfl) (part1 sc_3 rfl) (part1 sc_3 rfl) (part1 sc_3 rfl) (run_equalIn_int _ _ _ _ _ _ _ ui_3) (run_equalIn_int _ _ _ _ _ _ _ ui_3)))))) ?_
            refine ox_y rfl (y_pick_fb (congrArg Value.bool hp22) rfl) ?_
            exact key _ _ (keep (keep (keep (keep (keep (keep (keep (keep (keep (keep (keep (keep (keep (keep (keep (keep (keep rfl rfl) rfl) rfl) rfl) rfl) rfl) rfl) rfl) rfl) rfl) rfl) rfl) rfl) rfl) rfl) rfl) (congrArg Value.bool (or_f hp22)))
      · rcases bool_cases (y14.2 != y16.2) with hp21 | hp21
        · refine ox_skip (sees_f rfl rfl rfl rfl hp21) ?_
          refine ox_skip (sees_f rfl rfl rfl rfl hp21) ?_
          refine ox_skip (sees_f rfl rfl rfl rfl hp21) ?_
          refine ox_y rfl (y_pick_tb (congrArg Value.bool hp21) rfl) ?_
          exact key _ _ (keep (keep (keep (keep (keep (keep (keep (keep (keep (keep (keep (keep (keep (keep (keep (keep (keep rfl rfl) rfl) rfl) rfl) rfl) rfl) rfl) rfl) rfl) rfl) rfl) rfl) rfl) rfl) rfl) rfl) (congrArg Value.bool (or_t hp21)))
        · refine ox_y (sees_t rfl rfl rfl rfl hp21) (y_move_int rfl) ?_
          refine ox_y (sees_t rfl rfl rfl rfl hp21) (y_move_int rfl) ?_
          refine ox_y (sees_t rfl rfl rfl rfl hp21) (y_neq rfl rfl) ?_
          refine ox_y rfl (y_pick_fb (congrArg Value.bool hp21) rfl) ?_
          exact key _ _ (keep (keep (keep (keep (keep (keep (keep (keep (keep (keep (keep (keep (keep (keep (keep (keep (keep rfl rfl) rfl) rfl) rfl) rfl) rfl) rfl) rfl) rfl) rfl) rfl) rfl) rfl) rfl) rfl) rfl) (congrArg Value.bool (or_f hp21)))
  · rcases bool_cases (y6.2 != 0) with hp12 | hp12
    · refine ox_skip (sees_f rfl rfl rfl rfl hp12) ?_
      refine ox_skip (sees_f rfl rfl rfl rfl hp12) ?_
      refine ox_y rfl (y_pick_tb (congrArg Value.bool hp12) rfl) ?_
      exact key _ _ (keep (keep (keep (keep (keep (keep (keep (keep (keep (keep (keep (keep (keep (keep rfl rfl) rfl) rfl) rfl) rfl) rfl) rfl) rfl) rfl) rfl) rfl) rfl) rfl) (congrArg Value.bool (or_t hp12)))
    · refine ox_y (sees_t rfl rfl rfl rfl hp12) (y_move_int rfl) ?_
      refine ox_y (sees_t rfl rfl rfl rfl hp12) (y_neq rfl rfl) ?_
      refine ox_y rfl (y_pick_fb (congrArg Value.bool hp12) rfl) ?_
      exact key _ _ (keep (keep (keep (keep (keep (keep (keep (keep (keep (keep (keep (keep (keep (keep rfl rfl) rfl) rfl) rfl) rfl) rfl) rfl) rfl) rfl) rfl) rfl) rfl) rfl) (congrArg Value.bool (or_f hp12)))

end Go.Proofs.Ytepfgdfahinpkaa
