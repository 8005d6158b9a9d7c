/- The calls hand back what the plain functions say. -/
import Derived.Test.YtepfgdfahinpkaaF
import Derived.Test.YtepfgdfahinpkaaC0
import Derived.Test.YtepfgdfahinpkaaC1
import Derived.Test.YtepfgdfahinpkaaC2
set_option linter.unusedVariables false
set_option maxHeartbeats 4000000
namespace Go.Proofs.Ytepfgdfahinpkaa
open Go.RowKit (Below)
attribute [local irreducible] OX QX CX EX OpY Calls CallsIn

/-! calx/calxlaw03.head -/
set_option maxRecDepth 100000 in
theorem calxlaw03_head_ok  (res : Bool) (h : calxlaw03_head = some res) (W : World)  :
    Calls Try.prog 22 [].toArray W fun e W2 => e = .returned (.bool res) ∧ Ext W W2 [] := by
  unfold calxlaw03_head at h
  refine calls_enter (m := 188) Try.func22 rfl rfl (Nat.le_of_ble_eq_true rfl) ?_
  refine cx_seq ?_
  refine cx_region ?_
  refine ox_y rfl (y_assign_bool rfl) ?_
  refine ox_nil ?_
  refine ex_then ?_
  refine cx_seq ?_
  refine cx_region ?_
  obtain ⟨y1, hy2, h⟩ := bind_some h
  refine ox_y rfl (y_call [] go_72 rfl (fun W2 hW2 => calxlaw03_Three_ok  y1 hy2 W2 ) rfl) ?_
  refine ox_alloc ze_52 rfl (fun b3 => ?_)
  refine ox_n rfl (y_storeN 0 [.int .i64 y1.fBarrows, .int .i64 y1.fSeen.x0, .int .i64 y1.fSeen.x1, .int .i64 y1.fSeen.x2, .int .i64 y1.fKnown.x0.fLo, .int .i64 y1.fKnown.x0.fHi, .int .i64 y1.fKnown.x1.fLo, .int .i64 y1.fKnown.x1.fHi, .int .i64 y1.fKnown.x2.fLo, .int .i64 y1.fKnown.x2.fHi] sz_52 rfl (Nat.le_of_ble_eq_true rfl) rfl rfl rfl) ?_
  refine ox_nil ?_
  refine ex_then ?_
  refine cx_seq ?_
  refine cx_region ?_
  obtain ⟨y4, hy5, h⟩ := bind_some h
  refine ox_y rfl (y_call [.int .i64 5, .int .i64 2] go_28 rfl (fun W2 hW2 => sample_Choose_ok 5 2 y4 hy5 W2 ) rfl) ?_
  refine ox_y rfl (y_move_tuple rfl) ?_
  refine ox_y rfl (y_extract (vs := [.int .i64 y4.1, .int .i64 y4.2]) (v := .int .i64 y4.1) rfl rfl) ?_
  refine ox_y rfl (y_extract (vs := [.int .i64 y4.1, .int .i64 y4.2]) (v := .int .i64 y4.2) rfl rfl) ?_
  refine ox_y rfl (y_assign_int rfl) ?_
  refine ox_y rfl (y_assign_int rfl) ?_
  refine ox_nil ?_
  refine ex_then ?_
  refine cx_seq ?_
  refine cx_region ?_
  refine ox_y rfl (y_buildA [.int .i64 2, .int .i64 3, .int .i64 1] ua_43 ze_43 sz_3 (by kernel_rfl)) ?_
  refine ox_y rfl (y_buildA [.int .i64 1, .int .i64 1, .int .i64 0] ua_43 ze_43 sz_3 (by kernel_rfl)) ?_
  obtain ⟨y6, hy7, h⟩ := bind_some h
  refine ox_y rfl (y_call [.agg #[.int .i64 2, .int .i64 3, .int .i64 1], .agg #[.int .i64 1, .int .i64 1, .int .i64 0]] go_32 rfl (fun W2 hW2 => sample_Chance_ok (TKinds.mk 2 3 1) (TKinds.mk 1 1 0) y6 hy7 W2 ) rfl) ?_
  refine ox_y rfl (y_move_tuple rfl) ?_
  refine ox_y rfl (y_extract (vs := [.agg #[.int .i64 y6.1.fNum, .int .i64 y6.1.fDen], .int .i64 y6.2]) (v := .agg #[.int .i64 y6.1.fNum, .int .i64 y6.1.fDen]) rfl rfl) ?_
  refine ox_y rfl (y_extract (vs := [.agg #[.int .i64 y6.1.fNum, .int .i64 y6.1.fDen], .int .i64 y6.2]) (v := .int .i64 y6.2) rfl rfl) ?_
  refine ox_alloc ze_23 rfl (fun b8 => ?_)
  refine ox_n rfl (y_storeN 1 [.int .i64 y6.1.fNum, .int .i64 y6.1.fDen] sz_23 rfl (Nat.le_of_ble_eq_true rfl) rfl rfl rfl) ?_
  refine ox_y rfl (y_assign_int rfl) ?_
  refine ox_nil ?_
  refine ex_then ?_
  refine cx_seq ?_
  refine cx_region ?_
  refine ox_y rfl (y_loadN 0 [.int .i64 y1.fBarrows, .int .i64 y1.fSeen.x0, .int .i64 y1.fSeen.x1, .int .i64 y1.fSeen.x2, .int .i64 y1.fKnown.x0.fLo, .int .i64 y1.fKnown.x0.fHi, .int .i64 y1.fKnown.x1.fLo, .int .i64 y1.fKnown.x1.fHi, .int .i64 y1.fKnown.x2.fLo, .int .i64 y1.fKnown.x2.fHi] ag_52 rfl rfl rfl) ?_
  obtain ⟨y9, hy10, h⟩ := bind_some h
  refine ox_call [.agg #[.int .i64 y1.fBarrows, .int .i64 y1.fSeen.x0, .int .i64 y1.fSeen.x1, .int .i64 y1.fSeen.x2, .int .i64 y1.fKnown.x0.fLo, .int .i64 y1.fKnown.x0.fHi, .int .i64 y1.fKnown.x1.fLo, .int .i64 y1.fKnown.x1.fHi, .int .i64 y1.fKnown.x2.fLo, .int .i64 y1.fKnown.x2.fHi]] _ _ _ rfl go_34 rfl (fun W2 hW2 => sample_Wholes_ok y1 y9 hy10 W2 ) ?_
  rintro ⟨A11, n13, c12⟩ hn14
  replace hn14 : n13 = y9.1.length := hn14; subst hn14
  refine ox_y rfl (y_move_tuple rfl) ?_
  refine ox_y rfl (y_extract (vs := [.slice A11 y9.1.length c12, .int .i64 y9.2]) (v := .slice A11 y9.1.length c12) rfl rfl) ?_
  refine ox_y rfl (y_extract (vs := [.slice A11 y9.1.length c12, .int .i64 y9.2]) (v := .int .i64 y9.2) rfl rfl) ?_
  refine ox_y rfl (y_assign_slice rfl) ?_
  refine ox_y rfl (y_assign_int rfl) ?_
  refine ox_nil ?_
  refine ex_then ?_
  refine cx_seq ?_
  refine cx_region ?_
  refine ox_y rfl (y_loadN 0 [.int .i64 y1.fBarrows, .int .i64 y1.fSeen.x0, .int .i64 y1.fSeen.x1, .int .i64 y1.fSeen.x2, .int .i64 y1.fKnown.x0.fLo, .int .i64 y1.fKnown.x0.fHi, .int .i64 y1.fKnown.x1.fLo, .int .i64 y1.fKnown.x1.fHi, .int .i64 y1.fKnown.x2.fLo, .int .i64 y1.fKnown.x2.fHi] ag_52 rfl rfl rfl) ?_
  obtain ⟨y15, hy16, h⟩ := bind_some h
  refine ox_call [.agg #[.int .i64 y1.fBarrows, .int .i64 y1.fSeen.x0, .int .i64 y1.fSeen.x1, .int .i64 y1.fSeen.x2, .int .i64 y1.fKnown.x0.fLo, .int .i64 y1.fKnown.x0.fHi, .int .i64 y1.fKnown.x1.fLo, .int .i64 y1.fKnown.x1.fHi, .int .i64 y1.fKnown.x2.fLo, .int .i64 y1.fKnown.x2.fHi], .int .i64 1] _ _ _ rfl go_42 rfl (fun W2 hW2 => sample_Weights_ok y1 1 y15 hy16 W2 ) ?_
  rintro ⟨A17, n19, c18⟩ hn20
  replace hn20 : n19 = y15.1.length := hn20; subst hn20
  refine ox_y rfl (y_move_tuple rfl) ?_
  refine ox_y rfl (y_extract (vs := [.slice A17 y15.1.length c18, .int .i64 y15.2]) (v := .slice A17 y15.1.length c18) rfl rfl) ?_
  refine ox_y rfl (y_extract (vs := [.slice A17 y15.1.length c18, .int .i64 y15.2]) (v := .int .i64 y15.2) rfl rfl) ?_
  refine ox_y rfl (y_assign_slice rfl) ?_
  refine ox_y rfl (y_assign_int rfl) ?_
  refine ox_nil ?_
  refine ex_then ?_
  refine cx_seq ?_
  refine cx_region ?_
  refine ox_y rfl (y_loadN 0 [.int .i64 y1.fBarrows, .int .i64 y1.fSeen.x0, .int .i64 y1.fSeen.x1, .int .i64 y1.fSeen.x2, .int .i64 y1.fKnown.x0.fLo, .int .i64 y1.fKnown.x0.fHi, .int .i64 y1.fKnown.x1.fLo, .int .i64 y1.fKnown.x1.fHi, .int .i64 y1.fKnown.x2.fLo, .int .i64 y1.fKnown.x2.fHi] ag_52 rfl rfl rfl) ?_
  obtain ⟨y21, hy22, h⟩ := bind_some h
  refine ox_y rfl (y_call [.agg #[.int .i64 y1.fBarrows, .int .i64 y1.fSeen.x0, .int .i64 y1.fSeen.x1, .int .i64 y1.fSeen.x2, .int .i64 y1.fKnown.x0.fLo, .int .i64 y1.fKnown.x0.fHi, .int .i64 y1.fKnown.x1.fLo, .int .i64 y1.fKnown.x1.fHi, .int .i64 y1.fKnown.x2.fLo, .int .i64 y1.fKnown.x2.fHi], .int .i64 1] go_41 rfl (fun W2 hW2 => sample_Mean_ok y1 1 y21 hy22 W2 ) rfl) ?_
  refine ox_y rfl (y_move_tuple rfl) ?_
  refine ox_y rfl (y_extract (vs := [.agg #[.int .i64 y21.1.fNum, .int .i64 y21.1.fDen], .int .i64 y21.2]) (v := .agg #[.int .i64 y21.1.fNum, .int .i64 y21.1.fDen]) rfl rfl) ?_
  refine ox_y rfl (y_extract (vs := [.agg #[.int .i64 y21.1.fNum, .int .i64 y21.1.fDen], .int .i64 y21.2]) (v := .int .i64 y21.2) rfl rfl) ?_
  refine ox_alloc ze_23 rfl (fun b23 => ?_)
  refine ox_n rfl (y_storeN 4 [.int .i64 y21.1.fNum, .int .i64 y21.1.fDen] sz_23 rfl (Nat.le_of_ble_eq_true rfl) rfl rfl rfl) ?_
  refine ox_y rfl (y_assign_int rfl) ?_
  refine ox_nil ?_
  refine ex_then ?_
  refine cx_seq ?_
  refine cx_region ?_
  refine ox_y rfl (y_loadN 0 [.int .i64 y1.fBarrows, .int .i64 y1.fSeen.x0, .int .i64 y1.fSeen.x1, .int .i64 y1.fSeen.x2, .int .i64 y1.fKnown.x0.fLo, .int .i64 y1.fKnown.x0.fHi, .int .i64 y1.fKnown.x1.fLo, .int .i64 y1.fKnown.x1.fHi, .int .i64 y1.fKnown.x2.fLo, .int .i64 y1.fKnown.x2.fHi] ag_52 rfl rfl rfl) ?_
  obtain ⟨y24, hy25, h⟩ := bind_some h
  refine ox_y rfl (y_call [.agg #[.int .i64 y1.fBarrows, .int .i64 y1.fSeen.x0, .int .i64 y1.fSeen.x1, .int .i64 y1.fSeen.x2, .int .i64 y1.fKnown.x0.fLo, .int .i64 y1.fKnown.x0.fHi, .int .i64 y1.fKnown.x1.fLo, .int .i64 y1.fKnown.x1.fHi, .int .i64 y1.fKnown.x2.fLo, .int .i64 y1.fKnown.x2.fHi], .int .i64 2] go_43 rfl (fun W2 hW2 => sample_Next_ok y1 2 y24 hy25 W2 ) rfl) ?_
  refine ox_y rfl (y_move_tuple rfl) ?_
  refine ox_y rfl (y_extract (vs := [.agg #[.int .i64 y24.1.fNum, .int .i64 y24.1.fDen], .int .i64 y24.2]) (v := .agg #[.int .i64 y24.1.fNum, .int .i64 y24.1.fDen]) rfl rfl) ?_
  refine ox_y rfl (y_extract (vs := [.agg #[.int .i64 y24.1.fNum, .int .i64 y24.1.fDen], .int .i64 y24.2]) (v := .int .i64 y24.2) rfl rfl) ?_
  refine ox_alloc ze_23 rfl (fun b26 => ?_)
  try dsimp only [List.nil_append, List.cons_append, List.set_cons_zero, List.set_cons_succ]
  refine ox_n rfl (y_storeN 5 [.int .i64 y24.1.fNum, .int .i64 y24.1.fDen] sz_23 rfl (Nat.le_of_ble_eq_true rfl) rfl rfl rfl) ?_
  refine ox_y rfl (y_assign_int rfl) ?_
  refine ox_nil ?_
  refine ex_then ?_
  refine cx_seq ?_
  refine cx_region ?_
  refine ox_y rfl (y_loadN 0 [.int .i64 y1.fBarrows, .int .i64 y1.fSeen.x0, .int .i64 y1.fSeen.x1, .int .i64 y1.fSeen.x2, .int .i64 y1.fKnown.x0.fLo, .int .i64 y1.fKnown.x0.fHi, .int .i64 y1.fKnown.x1.fLo, .int .i64 y1.fKnown.x1.fHi, .int .i64 y1.fKnown.x2.fLo, .int .i64 y1.fKnown.x2.fHi] ag_52 rfl rfl rfl) ?_
  refine ox_y rfl (y_buildS [.int .i64 9, .int .i64 10] [(0, 1), (1, 1)] ust_23 ze_23 (by kernel_rfl)) ?_
  obtain ⟨y27, hy28, h⟩ := bind_some h
  refine ox_y rfl (y_call [.agg #[.int .i64 y1.fBarrows, .int .i64 y1.fSeen.x0, .int .i64 y1.fSeen.x1, .int .i64 y1.fSeen.x2, .int .i64 y1.fKnown.x0.fLo, .int .i64 y1.fKnown.x0.fHi, .int .i64 y1.fKnown.x1.fLo, .int .i64 y1.fKnown.x1.fHi, .int .i64 y1.fKnown.x2.fLo, .int .i64 y1.fKnown.x2.fHi], .int .i64 1, .agg #[.int .i64 9, .int .i64 10]] go_44 rfl (fun W2 hW2 => sample_Shortest_ok y1 1 (TRatio.mk 9 10) y27 hy28 W2 ) rfl) ?_
  refine ox_y rfl (y_move_tuple rfl) ?_
  refine ox_y rfl (y_extract (vs := [.agg #[.int .i64 y27.1.fLo, .int .i64 y27.1.fHi], .int .i64 y27.2]) (v := .agg #[.int .i64 y27.1.fLo, .int .i64 y27.1.fHi]) rfl rfl) ?_
  refine ox_y rfl (y_extract (vs := [.agg #[.int .i64 y27.1.fLo, .int .i64 y27.1.fHi], .int .i64 y27.2]) (v := .int .i64 y27.2) rfl rfl) ?_
  refine ox_alloc ze_33 rfl (fun b29 => ?_)
  try dsimp only [List.nil_append, List.cons_append, List.set_cons_zero, List.set_cons_succ]
  refine ox_n rfl (y_storeN 6 [.int .i64 y27.1.fLo, .int .i64 y27.1.fHi] sz_33 rfl (Nat.le_of_ble_eq_true rfl) rfl rfl rfl) ?_
  refine ox_y rfl (y_assign_int rfl) ?_
  refine ox_nil ?_
  refine ex_then ?_
  refine cx_seq ?_
  refine cx_seq ?_
  refine cx_region ?_
  refine ox_y rfl (y_move_int rfl) ?_
  refine ox_y rfl (y_neq rfl rfl) ?_
  refine ox_y rfl (y_move_bool rfl) ?_
  refine ox_join 3 (fun tm0 => (upd (upd (upd (upd (upd (upd (upd (upd (upd (upd (upd (upd (upd (upd (upd (upd (upd tm0 0 (.bool false)) 1 (.pointer (some ⟨b3, 0, none⟩))) 2 (.int .i64 y4.1)) 3 (.int .i64 y4.2)) 4 (.pointer (some ⟨b8, 0, none⟩))) 5 (.int .i64 y6.2)) 6 (.slice A11 y9.1.length c12)) 7 (.int .i64 y9.2)) 8 (.slice A17 y15.1.length c18)) 9 (.int .i64 y15.2)) 10 (.pointer (some ⟨b23, 0, none⟩))) 11 (.int .i64 y21.2)) 12 (.pointer (some ⟨b26, 0, none⟩))) 13 (.int .i64 y24.2)) 14 (.pointer (some ⟨b29, 0, none⟩))) 15 (.int .i64 y27.2)) 69 (.bool ((y4.2 != 0) || (y6.2 != 0))))) (fun tm0 => ?_) (fun key => ?_)
  · refine ox_y rfl (y_move_bool rfl) ?_
    refine ox_join 3 (fun tm0 => (upd (upd (upd (upd (upd (upd (upd (upd (upd (upd (upd (upd (upd (upd (upd (upd (upd tm0 0 (.bool false)) 1 (.pointer (some ⟨b3, 0, none⟩))) 2 (.int .i64 y4.1)) 3 (.int .i64 y4.2)) 4 (.pointer (some ⟨b8, 0, none⟩))) 5 (.int .i64 y6.2)) 6 (.slice A11 y9.1.length c12)) 7 (.int .i64 y9.2)) 8 (.slice A17 y15.1.length c18)) 9 (.int .i64 y15.2)) 10 (.pointer (some ⟨b23, 0, none⟩))) 11 (.int .i64 y21.2)) 12 (.pointer (some ⟨b26, 0, none⟩))) 13 (.int .i64 y24.2)) 14 (.pointer (some ⟨b29, 0, none⟩))) 15 (.int .i64 y27.2)) 73 (.bool (((y4.2 != 0) || (y6.2 != 0)) || (y9.2 != 0))))) (fun tm0 => ?_) (fun key => ?_)
    · refine ox_y rfl (y_move_bool rfl) ?_
      refine ox_join 3 (fun tm0 => (upd (upd (upd (upd (upd (upd (upd (upd (upd (upd (upd (upd (upd (upd (upd (upd (upd tm0 0 (.bool false)) 1 (.pointer (some ⟨b3, 0, none⟩))) 2 (.int .i64 y4.1)) 3 (.int .i64 y4.2)) 4 (.pointer (some ⟨b8, 0, none⟩))) 5 (.int .i64 y6.2)) 6 (.slice A11 y9.1.length c12)) 7 (.int .i64 y9.2)) 8 (.slice A17 y15.1.length c18)) 9 (.int .i64 y15.2)) 10 (.pointer (some ⟨b23, 0, none⟩))) 11 (.int .i64 y21.2)) 12 (.pointer (some ⟨b26, 0, none⟩))) 13 (.int .i64 y24.2)) 14 (.pointer (some ⟨b29, 0, none⟩))) 15 (.int .i64 y27.2)) 77 (.bool ((((y4.2 != 0) || (y6.2 != 0)) || (y9.2 != 0)) || (y15.2 != 0))))) (fun tm0 => ?_) (fun key => ?_)
      · refine ox_y rfl (y_move_bool rfl) ?_
        refine ox_join 3 (fun tm0 => (upd (upd (upd (upd (upd (upd (upd (upd (upd (upd (upd (upd (upd (upd (upd (upd (upd tm0 0 (.bool false)) 1 (.pointer (some ⟨b3, 0, none⟩))) 2 (.int .i64 y4.1)) 3 (.int .i64 y4.2)) 4 (.pointer (some ⟨b8, 0, none⟩))) 5 (.int .i64 y6.2)) 6 (.slice A11 y9.1.length c12)) 7 (.int .i64 y9.2)) 8 (.slice A17 y15.1.length c18)) 9 (.int .i64 y15.2)) 10 (.pointer (some ⟨b23, 0, none⟩))) 11 (.int .i64 y21.2)) 12 (.pointer (some ⟨b26, 0, none⟩))) 13 (.int .i64 y24.2)) 14 (.pointer (some ⟨b29, 0, none⟩))) 15 (.int .i64 y27.2)) 81 (.bool (((((y4.2 != 0) || (y6.2 != 0)) || (y9.2 != 0)) || (y15.2 != 0)) || (y21.2 != 0))))) (fun tm0 => ?_) (fun key => ?_)
        · refine ox_y rfl (y_move_bool rfl) ?_
          refine ox_join 3 (fun tm0 => (upd (upd (upd (upd (upd (upd (upd (upd (upd (upd (upd (upd (upd (upd (upd (upd (upd tm0 0 (.bool false)) 1 (.pointer (some ⟨b3, 0, none⟩))) 2 (.int .i64 y4.1)) 3 (.int .i64 y4.2)) 4 (.pointer (some ⟨b8, 0, none⟩))) 5 (.int .i64 y6.2)) 6 (.slice A11 y9.1.length c12)) 7 (.int .i64 y9.2)) 8 (.slice A17 y15.1.length c18)) 9 (.int .i64 y15.2)) 10 (.pointer (some ⟨b23, 0, none⟩))) 11 (.int .i64 y21.2)) 12 (.pointer (some ⟨b26, 0, none⟩))) 13 (.int .i64 y24.2)) 14 (.pointer (some ⟨b29, 0, none⟩))) 15 (.int .i64 y27.2)) 85 (.bool ((((((y4.2 != 0) || (y6.2 != 0)) || (y9.2 != 0)) || (y15.2 != 0)) || (y21.2 != 0)) || (y24.2 != 0))))) (fun tm0 => ?_) (fun key => ?_)
          · refine ox_y rfl (y_move_bool rfl) ?_
            refine ox_join 3 (fun tm0 => (upd (upd (upd (upd (upd (upd (upd (upd (upd (upd (upd (upd (upd (upd (upd (upd (upd tm0 0 (.bool false)) 1 (.pointer (some ⟨b3, 0, none⟩))) 2 (.int .i64 y4.1)) 3 (.int .i64 y4.2)) 4 (.pointer (some ⟨b8, 0, none⟩))) 5 (.int .i64 y6.2)) 6 (.slice A11 y9.1.length c12)) 7 (.int .i64 y9.2)) 8 (.slice A17 y15.1.length c18)) 9 (.int .i64 y15.2)) 10 (.pointer (some ⟨b23, 0, none⟩))) 11 (.int .i64 y21.2)) 12 (.pointer (some ⟨b26, 0, none⟩))) 13 (.int .i64 y24.2)) 14 (.pointer (some ⟨b29, 0, none⟩))) 15 (.int .i64 y27.2)) 89 (.bool (((((((y4.2 != 0) || (y6.2 != 0)) || (y9.2 != 0)) || (y15.2 != 0)) || (y21.2 != 0)) || (y24.2 != 0)) || (y27.2 != 0))))) (fun tm0 => ?_) (fun key => ?_)
            · refine ox_y rfl (y_move_bool rfl) ?_
              refine ox_join 3 (fun tm0 => (upd (upd (upd (upd (upd (upd (upd (upd (upd (upd (upd (upd (upd (upd (upd (upd (upd tm0 0 (.bool false)) 1 (.pointer (some ⟨b3, 0, none⟩))) 2 (.int .i64 y4.1)) 3 (.int .i64 y4.2)) 4 (.pointer (some ⟨b8, 0, none⟩))) 5 (.int .i64 y6.2)) 6 (.slice A11 y9.1.length c12)) 7 (.int .i64 y9.2)) 8 (.slice A17 y15.1.length c18)) 9 (.int .i64 y15.2)) 10 (.pointer (some ⟨b23, 0, none⟩))) 11 (.int .i64 y21.2)) 12 (.pointer (some ⟨b26, 0, none⟩))) 13 (.int .i64 y24.2)) 14 (.pointer (some ⟨b29, 0, none⟩))) 15 (.int .i64 y27.2)) 93 (.bool ((((((((y4.2 != 0) || (y6.2 != 0)) || (y9.2 != 0)) || (y15.2 != 0)) || (y21.2 != 0)) || (y24.2 != 0)) || (y27.2 != 0)) || (y4.1 != 10))))) (fun tm0 => ?_) (fun key => ?_)
              · refine ox_nil ?_
                refine ex_then ?_
                rcases ite_some h with ⟨hp37, h⟩ | ⟨hp37, h⟩
                · refine cx_true (congrArg Value.bool hp37) ?_
                  refine cx_seq ?_
                  refine cx_region ?_
                  refine ox_y rfl (y_assign_bool rfl) ?_
                  refine ox_nil ?_
                  refine ex_then ?_
                  refine cx_ret ?_
                  refine ex_then_ret ?_
                  obtain rfl := Option.some.inj h
                  exact ex_res1 (.inl rfl) rfl (resV_tmp (v := .bool false) rfl) (fun W2 hW2 => ⟨rfl, hW2.none⟩)
                · refine cx_false (congrArg Value.bool hp37) ?_
                  refine cx_skip ?_
                  refine ex_then ?_
                  refine cx_seq ?_
                  refine cx_region ?_
                  refine ox_y rfl (y_move_slice rfl) ?_
                  refine ox_y rfl (y_buildA [.int .i64 1, .int .i64 1, .int .i64 1] ua_43 ze_43 sz_3 (by kernel_rfl)) ?_
                  refine ox_y rfl (y_buildA [.int .i64 1, .int .i64 2, .int .i64 0] ua_43 ze_43 sz_3 (by kernel_rfl)) ?_
                  refine ox_y rfl (y_buildA [.int .i64 2, .int .i64 1, .int .i64 0] ua_43 ze_43 sz_3 (by kernel_rfl)) ?_
                  refine ox_buildSliceE 3 (encL TKinds_cells [(TKinds.mk 1 1 1), (TKinds.mk 1 2 0), (TKinds.mk 2 1 0)]) _ mc_43_3 us_53 ze_43 by_43 (by decide) (by decide) (by kernel_rfl) (encL_len TKinds_cells_len rfl) rfl (fun b38 => ?_)
                  try dsimp only [List.nil_append, List.cons_append, List.set_cons_zero, List.set_cons_succ]
                  obtain ⟨y39, hy40, h⟩ := bind_some h
                  refine ox_y rfl (y_call [.slice A11 y9.1.length c12, .slice (some ⟨b38, 0, none⟩) 3 3] go_38 rfl (fun W2 hW2 => calxref03_SameKinds_ok y9.1 [(TKinds.mk 1 1 1), (TKinds.mk 1 2 0), (TKinds.mk 2 1 0)] y39 hy40 W2 A11 y9.1.length c12 rfl ((RdL.row 2 rfl) W2 hW2) (some ⟨b38, 0, none⟩) 3 3 rfl ((RdL.row 7 rfl) W2 hW2)) rfl) ?_
                  refine ox_y rfl (y_move_bool rfl) ?_
                  obtain ⟨b42, hb43, h⟩ := bind_some h
                  refine ox_join 4 (fun tm0 => (upd (upd (upd (upd (upd (upd (upd (upd (upd (upd (upd (upd (upd (upd (upd (upd (upd (upd tm0 0 (.bool false)) 1 (.pointer (some ⟨b3, 0, none⟩))) 2 (.int .i64 y4.1)) 3 (.int .i64 y4.2)) 4 (.pointer (some ⟨b8, 0, none⟩))) 5 (.int .i64 y6.2)) 6 (.slice A11 y9.1.length c12)) 7 (.int .i64 y9.2)) 8 (.slice A17 y15.1.length c18)) 9 (.int .i64 y15.2)) 10 (.pointer (some ⟨b23, 0, none⟩))) 11 (.int .i64 y21.2)) 12 (.pointer (some ⟨b26, 0, none⟩))) 13 (.int .i64 y24.2)) 14 (.pointer (some ⟨b29, 0, none⟩))) 15 (.int .i64 y27.2)) 93 (.bool ((((((((y4.2 != 0) || (y6.2 != 0)) || (y9.2 != 0)) || (y15.2 != 0)) || (y21.2 != 0)) || (y24.2 != 0)) || (y27.2 != 0)) || (y4.1 != 10)))) 104 (.bool b42))) (fun tm0 => ?_) (fun key => ?_)
                  · refine ox_y rfl (y_assign_bool rfl) ?_
                    refine ox_nil ?_
                    refine ex_then ?_
                    refine cx_seq ?_
                    refine cx_region ?_
                    refine ox_y rfl (y_buildS [.int .i64 3, .int .i64 10] [(0, 1), (1, 1)] ust_23 ze_23 (by kernel_rfl)) ?_
                    obtain ⟨y44, hy45, h⟩ := bind_some h
                    refine ox_y rfl (y_call [.int .i64 5, .int .i64 2, .int .i64 0, .agg #[.int .i64 3, .int .i64 10]] go_56 rfl (fun W2 hW2 => sample_Upper_ok 5 2 0 (TRatio.mk 3 10) y44 hy45 W2 ) rfl) ?_
                    refine ox_y rfl (y_move_tuple rfl) ?_
                    refine ox_y rfl (y_extract (vs := [.int .i64 y44.1, .int .i64 y44.2]) (v := .int .i64 y44.1) rfl rfl) ?_
                    refine ox_y rfl (y_extract (vs := [.int .i64 y44.1, .int .i64 y44.2]) (v := .int .i64 y44.2) rfl rfl) ?_
                    refine ox_y rfl (y_assign_int rfl) ?_
                    refine ox_y rfl (y_assign_int rfl) ?_
                    refine ox_nil ?_
                    refine ex_then ?_
                    refine cx_seq ?_
                    refine cx_region ?_
                    obtain ⟨y46, hy47, h⟩ := bind_some h
                    refine ox_y rfl (y_call [] go_73 rfl (fun W2 hW2 => calxlaw03_half_ok  y46 hy47 W2 ) rfl) ?_
                    obtain ⟨y48, hy49, h⟩ := bind_some h
                    refine ox_y rfl (y_call [.int .i64 5, .int .i64 2, .int .i64 1, .agg #[.int .i64 y46.fNum, .int .i64 y46.fDen]] go_58 rfl (fun W2 hW2 => sample_Lower_ok 5 2 1 y46 y48 hy49 W2 ) rfl) ?_
                    refine ox_y rfl (y_move_tuple rfl) ?_
                    refine ox_y rfl (y_extract (vs := [.int .i64 y48.1, .int .i64 y48.2]) (v := .int .i64 y48.1) rfl rfl) ?_
                    refine ox_y rfl (y_extract (vs := [.int .i64 y48.1, .int .i64 y48.2]) (v := .int .i64 y48.2) rfl rfl) ?_
                    refine ox_y rfl (y_assign_int rfl) ?_
                    refine ox_y rfl (y_assign_int rfl) ?_
                    refine ox_nil ?_
                    refine ex_then ?_
                    refine cx_seq ?_
                    refine cx_region ?_
                    refine ox_y rfl (y_buildS [.int .i64 1, .int .i64 1] [(0, 1), (1, 1)] ust_23 ze_23 (by kernel_rfl)) ?_
                    refine ox_y rfl (y_buildS [.int .i64 1, .int .i64 10] [(0, 1), (1, 1)] ust_23 ze_23 (by kernel_rfl)) ?_
                    obtain ⟨y50, hy51, h⟩ := bind_some h
                    refine ox_y rfl (y_call [.int .i64 5, .int .i64 0, .int .i64 3, .agg #[.int .i64 1, .int .i64 1], .agg #[.int .i64 1, .int .i64 10]] go_23 rfl (fun W2 hW2 => sample_Smallest_ok 5 0 3 (TRatio.mk 1 1) (TRatio.mk 1 10) y50 hy51 W2 ) rfl) ?_
                    refine ox_y rfl (y_move_tuple rfl) ?_
                    refine ox_y rfl (y_extract (vs := [.agg #[.int .i64 y50.1.fSample, .int .i64 y50.1.fAccept], .int .i64 y50.2]) (v := .agg #[.int .i64 y50.1.fSample, .int .i64 y50.1.fAccept]) rfl rfl) ?_
                    refine ox_y rfl (y_extract (vs := [.agg #[.int .i64 y50.1.fSample, .int .i64 y50.1.fAccept], .int .i64 y50.2]) (v := .int .i64 y50.2) rfl rfl) ?_
                    refine ox_alloc ze_26 rfl (fun b52 => ?_)
                    try dsimp only [List.nil_append, List.cons_append, List.set_cons_zero, List.set_cons_succ]
                    refine ox_n rfl (y_storeN 8 [.int .i64 y50.1.fSample, .int .i64 y50.1.fAccept] sz_26 rfl (Nat.le_of_ble_eq_true rfl) rfl rfl rfl) ?_
                    refine ox_y rfl (y_assign_int rfl) ?_
                    refine ox_nil ?_
                    refine ex_then ?_
                    refine cx_seq ?_
                    refine cx_region ?_
                    refine ox_y rfl (y_loadN 0 [.int .i64 y1.fBarrows, .int .i64 y1.fSeen.x0, .int .i64 y1.fSeen.x1, .int .i64 y1.fSeen.x2, .int .i64 y1.fKnown.x0.fLo, .int .i64 y1.fKnown.x0.fHi, .int .i64 y1.fKnown.x1.fLo, .int .i64 y1.fKnown.x1.fHi, .int .i64 y1.fKnown.x2.fLo, .int .i64 y1.fKnown.x2.fHi] ag_52 rfl rfl rfl) ?_
                    refine ox_y rfl (y_loadN 0 [.int .i64 y1.fBarrows, .int .i64 y1.fSeen.x0, .int .i64 y1.fSeen.x1, .int .i64 y1.fSeen.x2, .int .i64 y1.fKnown.x0.fLo, .int .i64 y1.fKnown.x0.fHi, .int .i64 y1.fKnown.x1.fLo, .int .i64 y1.fKnown.x1.fHi, .int .i64 y1.fKnown.x2.fLo, .int .i64 y1.fKnown.x2.fHi] ag_52 rfl rfl rfl) ?_
                    refine ox_buildSliceE 2 (encL TBatch_cells [y1, y1]) _ mc_52_2 us_31 ze_52 by_52 (by decide) (by decide) (by kernel_rfl) (encL_len TBatch_cells_len rfl) rfl (fun b53 => ?_)
                    try dsimp only [List.nil_append, List.cons_append, List.set_cons_zero, List.set_cons_succ]
                    refine ox_y rfl (y_buildS [.int .i64 4, .int .i64 9] [(0, 1), (1, 1)] ust_33 ze_33 (by kernel_rfl)) ?_
                    obtain ⟨y54, hy55, h⟩ := bind_some h
                    refine ox_call [.slice (some ⟨b53, 0, none⟩) 2 2, .int .i64 1, .agg #[.int .i64 4, .int .i64 9]] _ _ _ rfl go_25 rfl (fun W2 hW2 => sample_Together_ok [y1, y1] 1 (TSpan.mk 4 9) y54 hy55 W2 (some ⟨b53, 0, none⟩) 2 2 rfl ((RdL.row 9 rfl) W2 hW2)) ?_
                    rintro ⟨A56, n58, c57⟩ hn59
                    replace hn59 : n58 = y54.1.length := hn59; subst hn59
                    try dsimp only [List.nil_append, List.cons_append, List.set_cons_zero, List.set_cons_succ]
                    refine ox_y rfl (y_move_tuple rfl) ?_
                    refine ox_y rfl (y_extract (vs := [.slice A56 y54.1.length c57, .int .i64 y54.2]) (v := .slice A56 y54.1.length c57) rfl rfl) ?_
                    refine ox_y rfl (y_extract (vs := [.slice A56 y54.1.length c57, .int .i64 y54.2]) (v := .int .i64 y54.2) rfl rfl) ?_
                    refine ox_y rfl (y_assign_slice rfl) ?_
                    refine ox_y rfl (y_assign_int rfl) ?_
                    refine ox_nil ?_
                    refine ex_then ?_
                    refine cx_seq ?_
                    refine cx_region ?_
                    refine ox_y rfl (y_move_slice rfl) ?_
                    refine ox_y rfl (y_buildS [.int .i64 2, .int .i64 2] [(0, 1), (1, 1)] ust_33 ze_33 (by kernel_rfl)) ?_
                    refine ox_y rfl (y_buildS [.int .i64 2, .int .i64 2] [(0, 1), (1, 1)] ust_33 ze_33 (by kernel_rfl)) ?_
                    refine ox_buildSliceE 2 (encL TSpan_cells [(TSpan.mk 2 2), (TSpan.mk 2 2)]) _ mc_33_2 us_34 ze_33 by_33 (by decide) (by decide) (by kernel_rfl) (encL_len TSpan_cells_len rfl) rfl (fun b60 => ?_)
                    try dsimp only [List.nil_append, List.cons_append, List.set_cons_zero, List.set_cons_succ]
                    obtain ⟨y61, hy62, h⟩ := bind_some h
                    refine ox_y rfl (y_call [.slice A56 y54.1.length c57, .slice (some ⟨b60, 0, none⟩) 2 2] go_27 rfl (fun W2 hW2 => calxref03_SameSpans_ok y54.1 [(TSpan.mk 2 2), (TSpan.mk 2 2)] y61 hy62 W2 A56 y54.1.length c57 rfl ((RdL.row 10 rfl) W2 hW2) (some ⟨b60, 0, none⟩) 2 2 rfl ((RdL.row 11 rfl) W2 hW2)) rfl) ?_
                    refine ox_y rfl (y_assign_bool rfl) ?_
                    refine ox_nil ?_
                    refine ex_then ?_
                    refine cx_seq ?_
                    refine cx_region ?_
                    refine ox_y rfl (y_loadN 1 [.int .i64 y6.1.fNum, .int .i64 y6.1.fDen] ag_23 rfl rfl rfl) ?_
                    refine ox_y rfl (y_buildS [.int .i64 2, .int .i64 5] [(0, 1), (1, 1)] ust_23 ze_23 (by kernel_rfl)) ?_
                    refine ox_y rfl (y_eqla (b := ((y6.1.fNum == 2) && (y6.1.fDen == 5))) eg_23 rfl rfl (fun _ => (eqS2 fl_23 (part1 sc_3 rfl) (part1 sc_3 rfl) (part1 sc_3 rfl) (part1 sc_3 rfl) (run_equalIn_int _ _ _ _ _ _ _ ui_3) (run_equalIn_int _ _ _ _ _ _ _ ui_3)))) ?_
                    refine ox_y rfl (y_move_bool rfl) ?_
                    refine ox_join 4 (fun tm0 => (upd (upd (upd (upd (upd (upd (upd (upd (upd (upd (upd (upd (upd (upd (upd (upd (upd (upd (upd (upd (upd (upd (upd (upd (upd (upd (upd (upd tm0 0 (.bool false)) 1 (.pointer (some ⟨b3, 0, none⟩))) 2 (.int .i64 y4.1)) 3 (.int .i64 y4.2)) 4 (.pointer (some ⟨b8, 0, none⟩))) 5 (.int .i64 y6.2)) 6 (.slice A11 y9.1.length c12)) 7 (.int .i64 y9.2)) 8 (.slice A17 y15.1.length c18)) 9 (.int .i64 y15.2)) 10 (.pointer (some ⟨b23, 0, none⟩))) 11 (.int .i64 y21.2)) 12 (.pointer (some ⟨b26, 0, none⟩))) 13 (.int .i64 y24.2)) 14 (.pointer (some ⟨b29, 0, none⟩))) 15 (.int .i64 y27.2)) 93 (.bool ((((((((y4.2 != 0) || (y6.2 != 0)) || (y9.2 != 0)) || (y15.2 != 0)) || (y21.2 != 0)) || (y24.2 != 0)) || (y27.2 != 0)) || (y4.1 != 10)))) 16 (.bool b42)) 17 (.int .i64 y44.1)) 18 (.int .i64 y44.2)) 19 (.int .i64 y48.1)) 20 (.int .i64 y48.2)) 21 (.pointer (some ⟨b52, 0, none⟩))) 22 (.int .i64 y50.2)) 23 (.slice A56 y54.1.length c57)) 24 (.int .i64 y54.2)) 25 (.bool y61)) 141 (.bool (((y6.1.fNum == 2) && (y6.1.fDen == 5)) && ((y21.1.fNum == 7) && (y21.1.fDen == 5)))))) (fun tm0 => ?_) (fun key => ?_)
                    · refine ox_y rfl (y_move_bool rfl) ?_
                      refine ox_join 4 (fun tm0 => (upd (upd (upd (upd (upd (upd (upd (upd (upd (upd (upd (upd (upd (upd (upd (upd (upd (upd (upd (upd (upd (upd (upd (upd (upd (upd (upd (upd tm0 0 (.bool false)) 1 (.pointer (some ⟨b3, 0, none⟩))) 2 (.int .i64 y4.1)) 3 (.int .i64 y4.2)) 4 (.pointer (some ⟨b8, 0, none⟩))) 5 (.int .i64 y6.2)) 6 (.slice A11 y9.1.length c12)) 7 (.int .i64 y9.2)) 8 (.slice A17 y15.1.length c18)) 9 (.int .i64 y15.2)) 10 (.pointer (some ⟨b23, 0, none⟩))) 11 (.int .i64 y21.2)) 12 (.pointer (some ⟨b26, 0, none⟩))) 13 (.int .i64 y24.2)) 14 (.pointer (some ⟨b29, 0, none⟩))) 15 (.int .i64 y27.2)) 93 (.bool ((((((((y4.2 != 0) || (y6.2 != 0)) || (y9.2 != 0)) || (y15.2 != 0)) || (y21.2 != 0)) || (y24.2 != 0)) || (y27.2 != 0)) || (y4.1 != 10)))) 16 (.bool b42)) 17 (.int .i64 y44.1)) 18 (.int .i64 y44.2)) 19 (.int .i64 y48.1)) 20 (.int .i64 y48.2)) 21 (.pointer (some ⟨b52, 0, none⟩))) 22 (.int .i64 y50.2)) 23 (.slice A56 y54.1.length c57)) 24 (.int .i64 y54.2)) 25 (.bool y61)) 146 (.bool ((((y6.1.fNum == 2) && (y6.1.fDen == 5)) && ((y21.1.fNum == 7) && (y21.1.fDen == 5))) && ((y24.1.fNum == 1) && (y24.1.fDen == 5)))))) (fun tm0 => ?_) (fun key => ?_)
                      · refine ox_y rfl (y_move_bool rfl) ?_
                        refine ox_join 4 (fun tm0 => (upd (upd (upd (upd (upd (upd (upd (upd (upd (upd (upd (upd (upd (upd (upd (upd (upd (upd (upd (upd (upd (upd (upd (upd (upd (upd (upd (upd tm0 0 (.bool false)) 1 (.pointer (some ⟨b3, 0, none⟩))) 2 (.int .i64 y4.1)) 3 (.int .i64 y4.2)) 4 (.pointer (some ⟨b8, 0, none⟩))) 5 (.int .i64 y6.2)) 6 (.slice A11 y9.1.length c12)) 7 (.int .i64 y9.2)) 8 (.slice A17 y15.1.length c18)) 9 (.int .i64 y15.2)) 10 (.pointer (some ⟨b23, 0, none⟩))) 11 (.int .i64 y21.2)) 12 (.pointer (some ⟨b26, 0, none⟩))) 13 (.int .i64 y24.2)) 14 (.pointer (some ⟨b29, 0, none⟩))) 15 (.int .i64 y27.2)) 93 (.bool ((((((((y4.2 != 0) || (y6.2 != 0)) || (y9.2 != 0)) || (y15.2 != 0)) || (y21.2 != 0)) || (y24.2 != 0)) || (y27.2 != 0)) || (y4.1 != 10)))) 16 (.bool b42)) 17 (.int .i64 y44.1)) 18 (.int .i64 y44.2)) 19 (.int .i64 y48.1)) 20 (.int .i64 y48.2)) 21 (.pointer (some ⟨b52, 0, none⟩))) 22 (.int .i64 y50.2)) 23 (.slice A56 y54.1.length c57)) 24 (.int .i64 y54.2)) 25 (.bool y61)) 151 (.bool (((((y6.1.fNum == 2) && (y6.1.fDen == 5)) && ((y21.1.fNum == 7) && (y21.1.fDen == 5))) && ((y24.1.fNum == 1) && (y24.1.fDen == 5))) && ((y27.1.fLo == 1) && (y27.1.fHi == 2)))))) (fun tm0 => ?_) (fun key => ?_)
                        · refine ox_y rfl (y_assign_bool rfl) ?_
                          refine ox_nil ?_
                          refine ex_then ?_
                          refine cx_seq ?_
                          refine cx_region ?_
                          refine ox_y rfl (y_move_bool rfl) ?_
                          refine ox_y rfl (y_move_bool rfl) ?_
                          refine ox_join 2 (fun tm0 => (upd (upd (upd (upd (upd (upd (upd (upd (upd (upd (upd (upd (upd (upd (upd (upd (upd (upd (upd (upd (upd (upd (upd (upd (upd (upd (upd (upd (upd tm0 0 (.bool false)) 1 (.pointer (some ⟨b3, 0, none⟩))) 2 (.int .i64 y4.1)) 3 (.int .i64 y4.2)) 4 (.pointer (some ⟨b8, 0, none⟩))) 5 (.int .i64 y6.2)) 6 (.slice A11 y9.1.length c12)) 7 (.int .i64 y9.2)) 8 (.slice A17 y15.1.length c18)) 9 (.int .i64 y15.2)) 10 (.pointer (some ⟨b23, 0, none⟩))) 11 (.int .i64 y21.2)) 12 (.pointer (some ⟨b26, 0, none⟩))) 13 (.int .i64 y24.2)) 14 (.pointer (some ⟨b29, 0, none⟩))) 15 (.int .i64 y27.2)) 93 (.bool ((((((((y4.2 != 0) || (y6.2 != 0)) || (y9.2 != 0)) || (y15.2 != 0)) || (y21.2 != 0)) || (y24.2 != 0)) || (y27.2 != 0)) || (y4.1 != 10)))) 16 (.bool b42)) 17 (.int .i64 y44.1)) 18 (.int .i64 y44.2)) 19 (.int .i64 y48.1)) 20 (.int .i64 y48.2)) 21 (.pointer (some ⟨b52, 0, none⟩))) 22 (.int .i64 y50.2)) 23 (.slice A56 y54.1.length c57)) 24 (.int .i64 y54.2)) 25 (.bool y61)) 26 (.bool (((((y6.1.fNum == 2) && (y6.1.fDen == 5)) && ((y21.1.fNum == 7) && (y21.1.fDen == 5))) && ((y24.1.fNum == 1) && (y24.1.fDen == 5))) && ((y27.1.fLo == 1) && (y27.1.fHi == 2))))) 155 (.bool (b42 && y61)))) (fun tm0 => ?_) (fun key => ?_)
                          · refine ox_y rfl (y_move_bool rfl) ?_
                            refine ox_join 2 (fun tm0 => (upd (upd (upd (upd (upd (upd (upd (upd (upd (upd (upd (upd (upd (upd (upd (upd (upd (upd (upd (upd (upd (upd (upd (upd (upd (upd (upd (upd (upd tm0 0 (.bool false)) 1 (.pointer (some ⟨b3, 0, none⟩))) 2 (.int .i64 y4.1)) 3 (.int .i64 y4.2)) 4 (.pointer (some ⟨b8, 0, none⟩))) 5 (.int .i64 y6.2)) 6 (.slice A11 y9.1.length c12)) 7 (.int .i64 y9.2)) 8 (.slice A17 y15.1.length c18)) 9 (.int .i64 y15.2)) 10 (.pointer (some ⟨b23, 0, none⟩))) 11 (.int .i64 y21.2)) 12 (.pointer (some ⟨b26, 0, none⟩))) 13 (.int .i64 y24.2)) 14 (.pointer (some ⟨b29, 0, none⟩))) 15 (.int .i64 y27.2)) 93 (.bool ((((((((y4.2 != 0) || (y6.2 != 0)) || (y9.2 != 0)) || (y15.2 != 0)) || (y21.2 != 0)) || (y24.2 != 0)) || (y27.2 != 0)) || (y4.1 != 10)))) 16 (.bool b42)) 17 (.int .i64 y44.1)) 18 (.int .i64 y44.2)) 19 (.int .i64 y48.1)) 20 (.int .i64 y48.2)) 21 (.pointer (some ⟨b52, 0, none⟩))) 22 (.int .i64 y50.2)) 23 (.slice A56 y54.1.length c57)) 24 (.int .i64 y54.2)) 25 (.bool y61)) 26 (.bool (((((y6.1.fNum == 2) && (y6.1.fDen == 5)) && ((y21.1.fNum == 7) && (y21.1.fDen == 5))) && ((y24.1.fNum == 1) && (y24.1.fDen == 5))) && ((y27.1.fLo == 1) && (y27.1.fHi == 2))))) 158 (.bool ((b42 && y61) && (((((y6.1.fNum == 2) && (y6.1.fDen == 5)) && ((y21.1.fNum == 7) && (y21.1.fDen == 5))) && ((y24.1.fNum == 1) && (y24.1.fDen == 5))) && ((y27.1.fLo == 1) && (y27.1.fHi == 2))))))) (fun tm0 => ?_) (fun key => ?_)
                            · refine ox_y rfl (y_move_bool rfl) ?_
                              refine ox_join 3 (fun tm0 => (upd (upd (upd (upd (upd (upd (upd (upd (upd (upd (upd (upd (upd (upd (upd (upd (upd (upd (upd (upd (upd (upd (upd (upd (upd (upd (upd (upd (upd tm0 0 (.bool false)) 1 (.pointer (some ⟨b3, 0, none⟩))) 2 (.int .i64 y4.1)) 3 (.int .i64 y4.2)) 4 (.pointer (some ⟨b8, 0, none⟩))) 5 (.int .i64 y6.2)) 6 (.slice A11 y9.1.length c12)) 7 (.int .i64 y9.2)) 8 (.slice A17 y15.1.length c18)) 9 (.int .i64 y15.2)) 10 (.pointer (some ⟨b23, 0, none⟩))) 11 (.int .i64 y21.2)) 12 (.pointer (some ⟨b26, 0, none⟩))) 13 (.int .i64 y24.2)) 14 (.pointer (some ⟨b29, 0, none⟩))) 15 (.int .i64 y27.2)) 93 (.bool ((((((((y4.2 != 0) || (y6.2 != 0)) || (y9.2 != 0)) || (y15.2 != 0)) || (y21.2 != 0)) || (y24.2 != 0)) || (y27.2 != 0)) || (y4.1 != 10)))) 16 (.bool b42)) 17 (.int .i64 y44.1)) 18 (.int .i64 y44.2)) 19 (.int .i64 y48.1)) 20 (.int .i64 y48.2)) 21 (.pointer (some ⟨b52, 0, none⟩))) 22 (.int .i64 y50.2)) 23 (.slice A56 y54.1.length c57)) 24 (.int .i64 y54.2)) 25 (.bool y61)) 26 (.bool (((((y6.1.fNum == 2) && (y6.1.fDen == 5)) && ((y21.1.fNum == 7) && (y21.1.fDen == 5))) && ((y24.1.fNum == 1) && (y24.1.fDen == 5))) && ((y27.1.fLo == 1) && (y27.1.fHi == 2))))) 162 (.bool (((b42 && y61) && (((((y6.1.fNum == 2) && (y6.1.fDen == 5)) && ((y21.1.fNum == 7) && (y21.1.fDen == 5))) && ((y24.1.fNum == 1) && (y24.1.fDen == 5))) && ((y27.1.fLo == 1) && (y27.1.fHi == 2)))) && (y44.2 == 0))))) (fun tm0 => ?_) (fun key => ?_)
                              · refine ox_y rfl (y_move_bool rfl) ?_
                                refine ox_join 3 (fun tm0 => (upd (upd (upd (upd (upd (upd (upd (upd (upd (upd (upd (upd (upd (upd (upd (upd (upd (upd (upd (upd (upd (upd (upd (upd (upd (upd (upd (upd (upd tm0 0 (.bool false)) 1 (.pointer (some ⟨b3, 0, none⟩))) 2 (.int .i64 y4.1)) 3 (.int .i64 y4.2)) 4 (.pointer (some ⟨b8, 0, none⟩))) 5 (.int .i64 y6.2)) 6 (.slice A11 y9.1.length c12)) 7 (.int .i64 y9.2)) 8 (.slice A17 y15.1.length c18)) 9 (.int .i64 y15.2)) 10 (.pointer (some ⟨b23, 0, none⟩))) 11 (.int .i64 y21.2)) 12 (.pointer (some ⟨b26, 0, none⟩))) 13 (.int .i64 y24.2)) 14 (.pointer (some ⟨b29, 0, none⟩))) 15 (.int .i64 y27.2)) 93 (.bool ((((((((y4.2 != 0) || (y6.2 != 0)) || (y9.2 != 0)) || (y15.2 != 0)) || (y21.2 != 0)) || (y24.2 != 0)) || (y27.2 != 0)) || (y4.1 != 10)))) 16 (.bool b42)) 17 (.int .i64 y44.1)) 18 (.int .i64 y44.2)) 19 (.int .i64 y48.1)) 20 (.int .i64 y48.2)) 21 (.pointer (some ⟨b52, 0, none⟩))) 22 (.int .i64 y50.2)) 23 (.slice A56 y54.1.length c57)) 24 (.int .i64 y54.2)) 25 (.bool y61)) 26 (.bool (((((y6.1.fNum == 2) && (y6.1.fDen == 5)) && ((y21.1.fNum == 7) && (y21.1.fDen == 5))) && ((y24.1.fNum == 1) && (y24.1.fDen == 5))) && ((y27.1.fLo == 1) && (y27.1.fHi == 2))))) 166 (.bool ((((b42 && y61) && (((((y6.1.fNum == 2) && (y6.1.fDen == 5)) && ((y21.1.fNum == 7) && (y21.1.fDen == 5))) && ((y24.1.fNum == 1) && (y24.1.fDen == 5))) && ((y27.1.fLo == 1) && (y27.1.fHi == 2)))) && (y44.2 == 0)) && (y44.1 == 2))))) (fun tm0 => ?_) (fun key => ?_)
                                · refine ox_y rfl (y_move_bool rfl) ?_
                                  refine ox_join 3 (fun tm0 => (upd (upd (upd (upd (upd (upd (upd (upd (upd (upd (upd (upd (upd (upd (upd (upd (upd (upd (upd (upd (upd (upd (upd (upd (upd (upd (upd (upd (upd tm0 0 (.bool false)) 1 (.pointer (some ⟨b3, 0, none⟩))) 2 (.int .i64 y4.1)) 3 (.int .i64 y4.2)) 4 (.pointer (some ⟨b8, 0, none⟩))) 5 (.int .i64 y6.2)) 6 (.slice A11 y9.1.length c12)) 7 (.int .i64 y9.2)) 8 (.slice A17 y15.1.length c18)) 9 (.int .i64 y15.2)) 10 (.pointer (some ⟨b23, 0, none⟩))) 11 (.int .i64 y21.2)) 12 (.pointer (some ⟨b26, 0, none⟩))) 13 (.int .i64 y24.2)) 14 (.pointer (some ⟨b29, 0, none⟩))) 15 (.int .i64 y27.2)) 93 (.bool ((((((((y4.2 != 0) || (y6.2 != 0)) || (y9.2 != 0)) || (y15.2 != 0)) || (y21.2 != 0)) || (y24.2 != 0)) || (y27.2 != 0)) || (y4.1 != 10)))) 16 (.bool b42)) 17 (.int .i64 y44.1)) 18 (.int .i64 y44.2)) 19 (.int .i64 y48.1)) 20 (.int .i64 y48.2)) 21 (.pointer (some ⟨b52, 0, none⟩))) 22 (.int .i64 y50.2)) 23 (.slice A56 y54.1.length c57)) 24 (.int .i64 y54.2)) 25 (.bool y61)) 26 (.bool (((((y6.1.fNum == 2) && (y6.1.fDen == 5)) && ((y21.1.fNum == 7) && (y21.1.fDen == 5))) && ((y24.1.fNum == 1) && (y24.1.fDen == 5))) && ((y27.1.fLo == 1) && (y27.1.fHi == 2))))) 170 (.bool (((((b42 && y61) && (((((y6.1.fNum == 2) && (y6.1.fDen == 5)) && ((y21.1.fNum == 7) && (y21.1.fDen == 5))) && ((y24.1.fNum == 1) && (y24.1.fDen == 5))) && ((y27.1.fLo == 1) && (y27.1.fHi == 2)))) && (y44.2 == 0)) && (y44.1 == 2)) && (y48.2 == 0))))) (fun tm0 => ?_) (fun key => ?_)
                                  · refine ox_y rfl (y_move_bool rfl) ?_
                                    refine ox_join 3 (fun tm0 => (upd (upd (upd (upd (upd (upd (upd (upd (upd (upd (upd (upd (upd (upd (upd (upd (upd (upd (upd (upd (upd (upd (upd (upd (upd (upd (upd (upd (upd tm0 0 (.bool false)) 1 (.pointer (some ⟨b3, 0, none⟩))) 2 (.int .i64 y4.1)) 3 (.int .i64 y4.2)) 4 (.pointer (some ⟨b8, 0, none⟩))) 5 (.int .i64 y6.2)) 6 (.slice A11 y9.1.length c12)) 7 (.int .i64 y9.2)) 8 (.slice A17 y15.1.length c18)) 9 (.int .i64 y15.2)) 10 (.pointer (some ⟨b23, 0, none⟩))) 11 (.int .i64 y21.2)) 12 (.pointer (some ⟨b26, 0, none⟩))) 13 (.int .i64 y24.2)) 14 (.pointer (some ⟨b29, 0, none⟩))) 15 (.int .i64 y27.2)) 93 (.bool ((((((((y4.2 != 0) || (y6.2 != 0)) || (y9.2 != 0)) || (y15.2 != 0)) || (y21.2 != 0)) || (y24.2 != 0)) || (y27.2 != 0)) || (y4.1 != 10)))) 16 (.bool b42)) 17 (.int .i64 y44.1)) 18 (.int .i64 y44.2)) 19 (.int .i64 y48.1)) 20 (.int .i64 y48.2)) 21 (.pointer (some ⟨b52, 0, none⟩))) 22 (.int .i64 y50.2)) 23 (.slice A56 y54.1.length c57)) 24 (.int .i64 y54.2)) 25 (.bool y61)) 26 (.bool (((((y6.1.fNum == 2) && (y6.1.fDen == 5)) && ((y21.1.fNum == 7) && (y21.1.fDen == 5))) && ((y24.1.fNum == 1) && (y24.1.fDen == 5))) && ((y27.1.fLo == 1) && (y27.1.fHi == 2))))) 174 (.bool ((((((b42 && y61) && (((((y6.1.fNum == 2) && (y6.1.fDen == 5)) && ((y21.1.fNum == 7) && (y21.1.fDen == 5))) && ((y24.1.fNum == 1) && (y24.1.fDen == 5))) && ((y27.1.fLo == 1) && (y27.1.fHi == 2)))) && (y44.2 == 0)) && (y44.1 == 2)) && (y48.2 == 0)) && (y48.1 == 2))))) (fun tm0 => ?_) (fun key => ?_)
                                    · refine ox_y rfl (y_move_bool rfl) ?_
                                      refine ox_join 3 (fun tm0 => (upd (upd (upd (upd (upd (upd (upd (upd (upd (upd (upd (upd (upd (upd (upd (upd (upd (upd (upd (upd (upd (upd (upd (upd (upd (upd (upd (upd (upd tm0 0 (.bool false)) 1 (.pointer (some ⟨b3, 0, none⟩))) 2 (.int .i64 y4.1)) 3 (.int .i64 y4.2)) 4 (.pointer (some ⟨b8, 0, none⟩))) 5 (.int .i64 y6.2)) 6 (.slice A11 y9.1.length c12)) 7 (.int .i64 y9.2)) 8 (.slice A17 y15.1.length c18)) 9 (.int .i64 y15.2)) 10 (.pointer (some ⟨b23, 0, none⟩))) 11 (.int .i64 y21.2)) 12 (.pointer (some ⟨b26, 0, none⟩))) 13 (.int .i64 y24.2)) 14 (.pointer (some ⟨b29, 0, none⟩))) 15 (.int .i64 y27.2)) 93 (.bool ((((((((y4.2 != 0) || (y6.2 != 0)) || (y9.2 != 0)) || (y15.2 != 0)) || (y21.2 != 0)) || (y24.2 != 0)) || (y27.2 != 0)) || (y4.1 != 10)))) 16 (.bool b42)) 17 (.int .i64 y44.1)) 18 (.int .i64 y44.2)) 19 (.int .i64 y48.1)) 20 (.int .i64 y48.2)) 21 (.pointer (some ⟨b52, 0, none⟩))) 22 (.int .i64 y50.2)) 23 (.slice A56 y54.1.length c57)) 24 (.int .i64 y54.2)) 25 (.bool y61)) 26 (.bool (((((y6.1.fNum == 2) && (y6.1.fDen == 5)) && ((y21.1.fNum == 7) && (y21.1.fDen == 5))) && ((y24.1.fNum == 1) && (y24.1.fDen == 5))) && ((y27.1.fLo == 1) && (y27.1.fHi == 2))))) 178 (.bool (((((((b42 && y61) && (((((y6.1.fNum == 2) && (y6.1.fDen == 5)) && ((y21.1.fNum == 7) && (y21.1.fDen == 5))) && ((y24.1.fNum == 1) && (y24.1.fDen == 5))) && ((y27.1.fLo == 1) && (y27.1.fHi == 2)))) && (y44.2 == 0)) && (y44.1 == 2)) && (y48.2 == 0)) && (y48.1 == 2)) && (y50.2 == 0))))) (fun tm0 => ?_) (fun key => ?_)
                                      · refine ox_y rfl (y_move_bool rfl) ?_
                                        refine ox_join 4 (fun tm0 => (upd (upd (upd (upd (upd (upd (upd (upd (upd (upd (upd (upd (upd (upd (upd (upd (upd (upd (upd (upd (upd (upd (upd (upd (upd (upd (upd (upd (upd tm0 0 (.bool false)) 1 (.pointer (some ⟨b3, 0, none⟩))) 2 (.int .i64 y4.1)) 3 (.int .i64 y4.2)) 4 (.pointer (some ⟨b8, 0, none⟩))) 5 (.int .i64 y6.2)) 6 (.slice A11 y9.1.length c12)) 7 (.int .i64 y9.2)) 8 (.slice A17 y15.1.length c18)) 9 (.int .i64 y15.2)) 10 (.pointer (some ⟨b23, 0, none⟩))) 11 (.int .i64 y21.2)) 12 (.pointer (some ⟨b26, 0, none⟩))) 13 (.int .i64 y24.2)) 14 (.pointer (some ⟨b29, 0, none⟩))) 15 (.int .i64 y27.2)) 93 (.bool ((((((((y4.2 != 0) || (y6.2 != 0)) || (y9.2 != 0)) || (y15.2 != 0)) || (y21.2 != 0)) || (y24.2 != 0)) || (y27.2 != 0)) || (y4.1 != 10)))) 16 (.bool b42)) 17 (.int .i64 y44.1)) 18 (.int .i64 y44.2)) 19 (.int .i64 y48.1)) 20 (.int .i64 y48.2)) 21 (.pointer (some ⟨b52, 0, none⟩))) 22 (.int .i64 y50.2)) 23 (.slice A56 y54.1.length c57)) 24 (.int .i64 y54.2)) 25 (.bool y61)) 26 (.bool (((((y6.1.fNum == 2) && (y6.1.fDen == 5)) && ((y21.1.fNum == 7) && (y21.1.fDen == 5))) && ((y24.1.fNum == 1) && (y24.1.fDen == 5))) && ((y27.1.fLo == 1) && (y27.1.fHi == 2))))) 183 (.bool ((((((((b42 && y61) && (((((y6.1.fNum == 2) && (y6.1.fDen == 5)) && ((y21.1.fNum == 7) && (y21.1.fDen == 5))) && ((y24.1.fNum == 1) && (y24.1.fDen == 5))) && ((y27.1.fLo == 1) && (y27.1.fHi == 2)))) && (y44.2 == 0)) && (y44.1 == 2)) && (y48.2 == 0)) && (y48.1 == 2)) && (y50.2 == 0)) && ((y50.1.fSample == 2) && (y50.1.fAccept == 0)))))) (fun tm0 => ?_) (fun key => ?_)
                                        · refine ox_y rfl (y_move_bool rfl) ?_
                                          refine ox_join 3 (fun tm0 => (upd (upd (upd (upd (upd (upd (upd (upd (upd (upd (upd (upd (upd (upd (upd (upd (upd (upd (upd (upd (upd (upd (upd (upd (upd (upd (upd (upd (upd tm0 0 (.bool false)) 1 (.pointer (some ⟨b3, 0, none⟩))) 2 (.int .i64 y4.1)) 3 (.int .i64 y4.2)) 4 (.pointer (some ⟨b8, 0, none⟩))) 5 (.int .i64 y6.2)) 6 (.slice A11 y9.1.length c12)) 7 (.int .i64 y9.2)) 8 (.slice A17 y15.1.length c18)) 9 (.int .i64 y15.2)) 10 (.pointer (some ⟨b23, 0, none⟩))) 11 (.int .i64 y21.2)) 12 (.pointer (some ⟨b26, 0, none⟩))) 13 (.int .i64 y24.2)) 14 (.pointer (some ⟨b29, 0, none⟩))) 15 (.int .i64 y27.2)) 93 (.bool ((((((((y4.2 != 0) || (y6.2 != 0)) || (y9.2 != 0)) || (y15.2 != 0)) || (y21.2 != 0)) || (y24.2 != 0)) || (y27.2 != 0)) || (y4.1 != 10)))) 16 (.bool b42)) 17 (.int .i64 y44.1)) 18 (.int .i64 y44.2)) 19 (.int .i64 y48.1)) 20 (.int .i64 y48.2)) 21 (.pointer (some ⟨b52, 0, none⟩))) 22 (.int .i64 y50.2)) 23 (.slice A56 y54.1.length c57)) 24 (.int .i64 y54.2)) 25 (.bool y61)) 26 (.bool (((((y6.1.fNum == 2) && (y6.1.fDen == 5)) && ((y21.1.fNum == 7) && (y21.1.fDen == 5))) && ((y24.1.fNum == 1) && (y24.1.fDen == 5))) && ((y27.1.fLo == 1) && (y27.1.fHi == 2))))) 187 (.bool (((((((((b42 && y61) && (((((y6.1.fNum == 2) && (y6.1.fDen == 5)) && ((y21.1.fNum == 7) && (y21.1.fDen == 5))) && ((y24.1.fNum == 1) && (y24.1.fDen == 5))) && ((y27.1.fLo == 1) && (y27.1.fHi == 2)))) && (y44.2 == 0)) && (y44.1 == 2)) && (y48.2 == 0)) && (y48.1 == 2)) && (y50.2 == 0)) && ((y50.1.fSample == 2) && (y50.1.fAccept == 0))) && (y54.2 == 0))))) (fun tm0 => ?_) (fun key => ?_)
                                          · refine ox_y rfl (y_assign_bool rfl) ?_
                                            refine ox_nil ?_
                                            refine ex_then ?_
                                            refine cx_ret ?_
                                            obtain rfl := Option.some.inj h
                                            exact ex_res1 (.inl rfl) rfl (resV_tmp (v := .bool (((((((((b42 && y61) && (((((y6.1.fNum == 2) && (y6.1.fDen == 5)) && ((y21.1.fNum == 7) && (y21.1.fDen == 5))) && ((y24.1.fNum == 1) && (y24.1.fDen == 5))) && ((y27.1.fLo == 1) && (y27.1.fHi == 2)))) && (y44.2 == 0)) && (y44.1 == 2)) && (y48.2 == 0)) && (y48.1 == 2)) && (y50.2 == 0)) && ((y50.1.fSample == 2) && (y50.1.fAccept == 0))) && (y54.2 == 0))) rfl) (fun W2 hW2 => ⟨rfl, hW2.none⟩)
                                          · rcases bool_cases ((((((((b42 && y61) && (((((y6.1.fNum == 2) && (y6.1.fDen == 5)) && ((y21.1.fNum == 7) && (y21.1.fDen == 5))) && ((y24.1.fNum == 1) && (y24.1.fDen == 5))) && ((y27.1.fLo == 1) && (y27.1.fHi == 2)))) && (y44.2 == 0)) && (y44.1 == 2)) && (y48.2 == 0)) && (y48.1 == 2)) && (y50.2 == 0)) && ((y50.1.fSample == 2) && (y50.1.fAccept == 0))) with hp74 | hp74
                                            · refine ox_y (sees_t rfl rfl rfl rfl hp74) (y_move_int rfl) ?_
                                              refine ox_y (sees_t rfl rfl rfl rfl hp74) (y_eql rfl rfl) ?_
                                              refine ox_y rfl (y_pick_tb (congrArg Value.bool hp74) rfl) ?_
                                              exact key _ _ (keep (keep (keep (keep (keep (keep (keep (keep (keep (keep (keep (keep (keep (keep (keep (keep (keep (keep (keep (keep (keep (keep (keep (keep (keep (keep (keep (keep (keep rfl rfl) rfl) rfl) rfl) rfl) rfl) rfl) rfl) rfl) rfl) rfl) rfl) rfl) rfl) rfl) rfl) rfl) rfl) rfl) rfl) rfl) rfl) rfl) rfl) rfl) rfl) rfl) rfl) (congrArg Value.bool (and_t hp74)))
                                            · refine ox_skip (sees_f rfl rfl rfl rfl hp74) ?_
                                              refine ox_skip (sees_f rfl rfl rfl rfl hp74) ?_
                                              refine ox_y rfl (y_pick_fb (congrArg Value.bool hp74) rfl) ?_
                                              exact key _ _ (keep (keep (keep (keep (keep (keep (keep (keep (keep (keep (keep (keep (keep (keep (keep (keep (keep (keep (keep (keep (keep (keep (keep (keep (keep (keep (keep (keep (keep rfl rfl) rfl) rfl) rfl) rfl) rfl) rfl) rfl) rfl) rfl) rfl) rfl) rfl) rfl) rfl) rfl) rfl) rfl) rfl) rfl) rfl) rfl) rfl) rfl) rfl) rfl) rfl) rfl) (congrArg Value.bool (and_f hp74)))
                                        · rcases bool_cases (((((((b42 && y61) && (((((y6.1.fNum == 2) && (y6.1.fDen == 5)) && ((y21.1.fNum == 7) && (y21.1.fDen == 5))) && ((y24.1.fNum == 1) && (y24.1.fDen == 5))) && ((y27.1.fLo == 1) && (y27.1.fHi == 2)))) && (y44.2 == 0)) && (y44.1 == 2)) && (y48.2 == 0)) && (y48.1 == 2)) && (y50.2 == 0)) with hp73 | hp73
                                          · refine ox_y (sees_t rfl rfl rfl rfl hp73) (y_loadN 8 [.int .i64 y50.1.fSample, .int .i64 y50.1.fAccept] ag_26 rfl rfl rfl) ?_
                                            refine ox_y (sees_t rfl rfl rfl rfl hp73) (y_buildS [.int .i64 2, .int .i64 0] [(0, 1), (1, 1)] ust_26 ze_26 (by kernel_rfl)) ?_
                                            refine ox_y (sees_t rfl rfl rfl rfl hp73) (y_eqla (b := ((y50.1.fSample == 2) && (y50.1.fAccept == 0))) eg_26 rfl rfl (fun _ => (eqS2 fl_26 (part1 sc_3 rfl) (part1 sc_3 rfl) (part1 sc_3 rfl) (part1 sc_3 rfl) (run_equalIn_int _ _ _ _ _ _ _ ui_3) (run_equalIn_int _ _ _ _ _ _ _ ui_3)))) ?_
                                            refine ox_y rfl (y_pick_tb (congrArg Value.bool hp73) rfl) ?_
                                            exact key _ _ (keep (keep (keep (keep (keep (keep (keep (keep (keep (keep (keep (keep (keep (keep (keep (keep (keep (keep (keep (keep (keep (keep (keep (keep (keep (keep (keep (keep (keep rfl rfl) rfl) rfl) rfl) rfl) rfl) rfl) rfl) rfl) rfl) rfl) rfl) rfl) rfl) rfl) rfl) rfl) rfl) rfl) rfl) rfl) rfl) rfl) rfl) rfl) rfl) rfl) rfl) (congrArg Value.bool (and_t hp73)))
                                          · refine ox_skip (sees_f rfl rfl rfl rfl hp73) ?_
                                            refine ox_skip (sees_f rfl rfl rfl rfl hp73) ?_
                                            refine ox_skip (sees_f rfl rfl rfl rfl hp73) ?_
                                            refine ox_y rfl (y_pick_fb (congrArg Value.bool hp73) rfl) ?_
                                            exact key _ _ (keep (keep (keep (keep (keep (keep (keep (keep (keep (keep (keep (keep (keep (keep (keep (keep (keep (keep (keep (keep (keep (keep (keep (keep (keep (keep (keep (keep (keep rfl rfl) rfl) rfl) rfl) rfl) rfl) rfl) rfl) rfl) rfl) rfl) rfl) rfl) rfl) rfl) rfl) rfl) rfl) rfl) rfl) rfl) rfl) rfl) rfl) rfl) rfl) rfl) rfl) (congrArg Value.bool (and_f hp73)))
                                      · rcases bool_cases ((((((b42 && y61) && (((((y6.1.fNum == 2) && (y6.1.fDen == 5)) && ((y21.1.fNum == 7) && (y21.1.fDen == 5))) && ((y24.1.fNum == 1) && (y24.1.fDen == 5))) && ((y27.1.fLo == 1) && (y27.1.fHi == 2)))) && (y44.2 == 0)) && (y44.1 == 2)) && (y48.2 == 0)) && (y48.1 == 2)) with hp72 | hp72
                                        · refine ox_y (sees_t rfl rfl rfl rfl hp72) (y_move_int rfl) ?_
                                          refine ox_y (sees_t rfl rfl rfl rfl hp72) (y_eql rfl rfl) ?_
                                          refine ox_y rfl (y_pick_tb (congrArg Value.bool hp72) rfl) ?_
                                          exact key _ _ (keep (keep (keep (keep (keep (keep (keep (keep (keep (keep (keep (keep (keep (keep (keep (keep (keep (keep (keep (keep (keep (keep (keep (keep (keep (keep (keep (keep (keep rfl rfl) rfl) rfl) rfl) rfl) rfl) rfl) rfl) rfl) rfl) rfl) rfl) rfl) rfl) rfl) rfl) rfl) rfl) rfl) rfl) rfl) rfl) rfl) rfl) rfl) rfl) rfl) rfl) (congrArg Value.bool (and_t hp72)))
                                        · refine ox_skip (sees_f rfl rfl rfl rfl hp72) ?_
                                          refine ox_skip (sees_f rfl rfl rfl rfl hp72) ?_
                                          refine ox_y rfl (y_pick_fb (congrArg Value.bool hp72) rfl) ?_
                                          exact key _ _ (keep (keep (keep (keep (keep (keep (keep (keep (keep (keep (keep (keep (keep (keep (keep (keep (keep (keep (keep (keep (keep (keep (keep (keep (keep (keep (keep (keep (keep rfl rfl) rfl) rfl) rfl) rfl) rfl) rfl) rfl) rfl) rfl) rfl) rfl) rfl) rfl) rfl) rfl) rfl) rfl) rfl) rfl) rfl) rfl) rfl) rfl) rfl) rfl) rfl) rfl) (congrArg Value.bool (and_f hp72)))
                                    · rcases bool_cases (((((b42 && y61) && (((((y6.1.fNum == 2) && (y6.1.fDen == 5)) && ((y21.1.fNum == 7) && (y21.1.fDen == 5))) && ((y24.1.fNum == 1) && (y24.1.fDen == 5))) && ((y27.1.fLo == 1) && (y27.1.fHi == 2)))) && (y44.2 == 0)) && (y44.1 == 2)) && (y48.2 == 0)) with hp71 | hp71
                                      · refine ox_y (sees_t rfl rfl rfl rfl hp71) (y_move_int rfl) ?_
                                        refine ox_y (sees_t rfl rfl rfl rfl hp71) (y_eql rfl rfl) ?_
                                        refine ox_y rfl (y_pick_tb (congrArg Value.bool hp71) rfl) ?_
                                        exact key _ _ (keep (keep (keep (keep (keep (keep (keep (keep (keep (keep (keep (keep (keep (keep (keep (keep (keep (keep (keep (keep (keep (keep (keep (keep (keep (keep (keep (keep (keep rfl rfl) rfl) rfl) rfl) rfl) rfl) rfl) rfl) rfl) rfl) rfl) rfl) rfl) rfl) rfl) rfl) rfl) rfl) rfl) rfl) rfl) rfl) rfl) rfl) rfl) rfl) rfl) rfl) (congrArg Value.bool (and_t hp71)))
                                      · refine ox_skip (sees_f rfl rfl rfl rfl hp71) ?_
                                        refine ox_skip (sees_f rfl rfl rfl rfl hp71) ?_
                                        refine ox_y rfl (y_pick_fb (congrArg Value.bool hp71) rfl) ?_
                                        exact key _ _ (keep (keep (keep (keep (keep (keep (keep (keep (keep (keep (keep (keep (keep (keep (keep (keep (keep (keep (keep (keep (keep (keep (keep (keep (keep (keep (keep (keep (keep rfl rfl) rfl) rfl) rfl) rfl) rfl) rfl) rfl) rfl) rfl) rfl) rfl) rfl) rfl) rfl) rfl) rfl) rfl) rfl) rfl) rfl) rfl) rfl) rfl) rfl) rfl) rfl) rfl) (congrArg Value.bool (and_f hp71)))
                                  · rcases bool_cases ((((b42 && y61) && (((((y6.1.fNum == 2) && (y6.1.fDen == 5)) && ((y21.1.fNum == 7) && (y21.1.fDen == 5))) && ((y24.1.fNum == 1) && (y24.1.fDen == 5))) && ((y27.1.fLo == 1) && (y27.1.fHi == 2)))) && (y44.2 == 0)) && (y44.1 == 2)) with hp70 | hp70
                                    · refine ox_y (sees_t rfl rfl rfl rfl hp70) (y_move_int rfl) ?_
                                      refine ox_y (sees_t rfl rfl rfl rfl hp70) (y_eql rfl rfl) ?_
                                      refine ox_y rfl (y_pick_tb (congrArg Value.bool hp70) rfl) ?_
                                      exact key _ _ (keep (keep (keep (keep (keep (keep (keep (keep (keep (keep (keep (keep (keep (keep (keep (keep (keep (keep (keep (keep (keep (keep (keep (keep (keep (keep (keep (keep (keep rfl rfl) rfl) rfl) rfl) rfl) rfl) rfl) rfl) rfl) rfl) rfl) rfl) rfl) rfl) rfl) rfl) rfl) rfl) rfl) rfl) rfl) rfl) rfl) rfl) rfl) rfl) rfl) rfl) (congrArg Value.bool (and_t hp70)))
                                    · refine ox_skip (sees_f rfl rfl rfl rfl hp70) ?_
                                      refine ox_skip (sees_f rfl rfl rfl rfl hp70) ?_
                                      refine ox_y rfl (y_pick_fb (congrArg Value.bool hp70) rfl) ?_
                                      exact key _ _ (keep (keep (keep (keep (keep (keep (keep (keep (keep (keep (keep (keep (keep (keep (keep (keep (keep (keep (keep (keep (keep (keep (keep (keep (keep (keep (keep (keep (keep rfl rfl) rfl) rfl) rfl) rfl) rfl) rfl) rfl) rfl) rfl) rfl) rfl) rfl) rfl) rfl) rfl) rfl) rfl) rfl) rfl) rfl) rfl) rfl) rfl) rfl) rfl) rfl) rfl) (congrArg Value.bool (and_f hp70)))
                                · rcases bool_cases (((b42 && y61) && (((((y6.1.fNum == 2) && (y6.1.fDen == 5)) && ((y21.1.fNum == 7) && (y21.1.fDen == 5))) && ((y24.1.fNum == 1) && (y24.1.fDen == 5))) && ((y27.1.fLo == 1) && (y27.1.fHi == 2)))) && (y44.2 == 0)) with hp69 | hp69
                                  · refine ox_y (sees_t rfl rfl rfl rfl hp69) (y_move_int rfl) ?_
                                    refine ox_y (sees_t rfl rfl rfl rfl hp69) (y_eql rfl rfl) ?_
                                    refine ox_y rfl (y_pick_tb (congrArg Value.bool hp69) rfl) ?_
                                    exact key _ _ (keep (keep (keep (keep (keep (keep (keep (keep (keep (keep (keep (keep (keep (keep (keep (keep (keep (keep (keep (keep (keep (keep (keep (keep (keep (keep (keep (keep (keep rfl rfl) rfl) rfl) rfl) rfl) rfl) rfl) rfl) rfl) rfl) rfl) rfl) rfl) rfl) rfl) rfl) rfl) rfl) rfl) rfl) rfl) rfl) rfl) rfl) rfl) rfl) rfl) rfl) (congrArg Value.bool (and_t hp69)))
                                  · refine ox_skip (sees_f rfl rfl rfl rfl hp69) ?_
                                    refine ox_skip (sees_f rfl rfl rfl rfl hp69) ?_
                                    refine ox_y rfl (y_pick_fb (congrArg Value.bool hp69) rfl) ?_
                                    exact key _ _ (keep (keep (keep (keep (keep (keep (keep (keep (keep (keep (keep (keep (keep (keep (keep (keep (keep (keep (keep (keep (keep (keep (keep (keep (keep (keep (keep (keep (keep rfl rfl) rfl) rfl) rfl) rfl) rfl) rfl) rfl) rfl) rfl) rfl) rfl) rfl) rfl) rfl) rfl) rfl) rfl) rfl) rfl) rfl) rfl) rfl) rfl) rfl) rfl) rfl) rfl) (congrArg Value.bool (and_f hp69)))
                              · rcases bool_cases ((b42 && y61) && (((((y6.1.fNum == 2) && (y6.1.fDen == 5)) && ((y21.1.fNum == 7) && (y21.1.fDen == 5))) && ((y24.1.fNum == 1) && (y24.1.fDen == 5))) && ((y27.1.fLo == 1) && (y27.1.fHi == 2)))) with hp68 | hp68
                                · refine ox_y (sees_t rfl rfl rfl rfl hp68) (y_move_int rfl) ?_
                                  refine ox_y (sees_t rfl rfl rfl rfl hp68) (y_eql rfl rfl) ?_
                                  refine ox_y rfl (y_pick_tb (congrArg Value.bool hp68) rfl) ?_
                                  exact key _ _ (keep (keep (keep (keep (keep (keep (keep (keep (keep (keep (keep (keep (keep (keep (keep (keep (keep (keep (keep (keep (keep (keep (keep (keep (keep (keep (keep (keep (keep rfl rfl) rfl) rfl) rfl) rfl) rfl) rfl) rfl) rfl) rfl) rfl) rfl) rfl) rfl) rfl) rfl) rfl) rfl) rfl) rfl) rfl) rfl) rfl) rfl) rfl) rfl) rfl) rfl) (congrArg Value.bool (and_t hp68)))
                                · refine ox_skip (sees_f rfl rfl rfl rfl hp68) ?_
                                  refine ox_skip (sees_f rfl rfl rfl rfl hp68) ?_
                                  refine ox_y rfl (y_pick_fb (congrArg Value.bool hp68) rfl) ?_
                                  exact key _ _ (keep (keep (keep (keep (keep (keep (keep (keep (keep (keep (keep (keep (keep (keep (keep (keep (keep (keep (keep (keep (keep (keep (keep (keep (keep (keep (keep (keep (keep rfl rfl) rfl) rfl) rfl) rfl) rfl) rfl) rfl) rfl) rfl) rfl) rfl) rfl) rfl) rfl) rfl) rfl) rfl) rfl) rfl) rfl) rfl) rfl) rfl) rfl) rfl) rfl) rfl) (congrArg Value.bool (and_f hp68)))
                            · rcases bool_cases (b42 && y61) with hp67 | hp67
                              · refine ox_y (sees_t rfl rfl rfl rfl hp67) (y_move_bool rfl) ?_
                                refine ox_y rfl (y_pick_tb (congrArg Value.bool hp67) rfl) ?_
                                exact key _ _ (keep (keep (keep (keep (keep (keep (keep (keep (keep (keep (keep (keep (keep (keep (keep (keep (keep (keep (keep (keep (keep (keep (keep (keep (keep (keep (keep (keep (keep rfl rfl) rfl) rfl) rfl) rfl) rfl) rfl) rfl) rfl) rfl) rfl) rfl) rfl) rfl) rfl) rfl) rfl) rfl) rfl) rfl) rfl) rfl) rfl) rfl) rfl) rfl) rfl) rfl) (congrArg Value.bool (and_t hp67)))
                              · refine ox_skip (sees_f rfl rfl rfl rfl hp67) ?_
                                refine ox_y rfl (y_pick_fb (congrArg Value.bool hp67) rfl) ?_
                                exact key _ _ (keep (keep (keep (keep (keep (keep (keep (keep (keep (keep (keep (keep (keep (keep (keep (keep (keep (keep (keep (keep (keep (keep (keep (keep (keep (keep (keep (keep (keep rfl rfl) rfl) rfl) rfl) rfl) rfl) rfl) rfl) rfl) rfl) rfl) rfl) rfl) rfl) rfl) rfl) rfl) rfl) rfl) rfl) rfl) rfl) rfl) rfl) rfl) rfl) rfl) rfl) (congrArg Value.bool (and_f hp67)))
                          · rcases bool_cases b42 with hp66 | hp66
                            · refine ox_y (sees_t rfl rfl rfl rfl hp66) (y_move_bool rfl) ?_
                              refine ox_y rfl (y_pick_tb (congrArg Value.bool hp66) rfl) ?_
                              exact key _ _ (keep (keep (keep (keep (keep (keep (keep (keep (keep (keep (keep (keep (keep (keep (keep (keep (keep (keep (keep (keep (keep (keep (keep (keep (keep (keep (keep (keep (keep rfl rfl) rfl) rfl) rfl) rfl) rfl) rfl) rfl) rfl) rfl) rfl) rfl) rfl) rfl) rfl) rfl) rfl) rfl) rfl) rfl) rfl) rfl) rfl) rfl) rfl) rfl) rfl) rfl) (congrArg Value.bool (and_t hp66)))
                            · refine ox_skip (sees_f rfl rfl rfl rfl hp66) ?_
                              refine ox_y rfl (y_pick_fb (congrArg Value.bool hp66) rfl) ?_
                              exact key _ _ (keep (keep (keep (keep (keep (keep (keep (keep (keep (keep (keep (keep (keep (keep (keep (keep (keep (keep (keep (keep (keep (keep (keep (keep (keep (keep (keep (keep (keep rfl rfl) rfl) rfl) rfl) rfl) rfl) rfl) rfl) rfl) rfl) rfl) rfl) rfl) rfl) rfl) rfl) rfl) rfl) rfl) rfl) rfl) rfl) rfl) rfl) rfl) rfl) rfl) rfl) (congrArg Value.bool (and_f hp66)))
                        · rcases bool_cases ((((y6.1.fNum == 2) && (y6.1.fDen == 5)) && ((y21.1.fNum == 7) && (y21.1.fDen == 5))) && ((y24.1.fNum == 1) && (y24.1.fDen == 5))) with hp65 | hp65
                          · refine ox_y (sees_t rfl rfl rfl rfl hp65) (y_loadN 6 [.int .i64 y27.1.fLo, .int .i64 y27.1.fHi] ag_33 rfl rfl rfl) ?_
                            refine ox_y (sees_t rfl rfl rfl rfl hp65) (y_buildS [.int .i64 1, .int .i64 2] [(0, 1), (1, 1)] ust_33 ze_33 (by kernel_rfl)) ?_
                            refine ox_y (sees_t rfl rfl rfl rfl hp65) (y_eqla (b := ((y27.1.fLo == 1) && (y27.1.fHi == 2))) eg_33 rfl rfl (fun _ => (eqS2 fl_33 (part1 sc_3 rfl) (part1 sc_3 rfl) (part1 sc_3 rfl) (part1 sc_3 rfl) (run_equalIn_int _ _ _ _ _ _ _ ui_3) (run_equalIn_int _ _ _ _ _ _ _ ui_3)))) ?_
                            refine ox_y rfl (y_pick_tb (congrArg Value.bool hp65) rfl) ?_
                            exact key _ _ (keep (keep (keep (keep (keep (keep (keep (keep (keep (keep (keep (keep (keep (keep (keep (keep (keep (keep (keep (keep (keep (keep (keep (keep (keep (keep (keep (keep rfl rfl) rfl) rfl) rfl) rfl) rfl) rfl) rfl) rfl) rfl) rfl) rfl) rfl) rfl) rfl) rfl) rfl) rfl) rfl) rfl) rfl) rfl) rfl) rfl) rfl) rfl) rfl) (congrArg Value.bool (and_t hp65)))
                          · refine ox_skip (sees_f rfl rfl rfl rfl hp65) ?_
                            refine ox_skip (sees_f rfl rfl rfl rfl hp65) ?_
                            refine ox_skip (sees_f rfl rfl rfl rfl hp65) ?_
                            refine ox_y rfl (y_pick_fb (congrArg Value.bool hp65) rfl) ?_
                            exact key _ _ (keep (keep (keep (keep (keep (keep (keep (keep (keep (keep (keep (keep (keep (keep (keep (keep (keep (keep (keep (keep (keep (keep (keep (keep (keep (keep (keep (keep rfl rfl) rfl) rfl) rfl) rfl) rfl) rfl) rfl) rfl) rfl) rfl) rfl) rfl) rfl) rfl) rfl) rfl) rfl) rfl) rfl) rfl) rfl) rfl) rfl) rfl) rfl) rfl) (congrArg Value.bool (and_f hp65)))
                      · rcases bool_cases (((y6.1.fNum == 2) && (y6.1.fDen == 5)) && ((y21.1.fNum == 7) && (y21.1.fDen == 5))) with hp64 | hp64
                        · refine ox_y (sees_t rfl rfl rfl rfl hp64) (y_loadN 5 [.int .i64 y24.1.fNum, .int .i64 y24.1.fDen] ag_23 rfl rfl rfl) ?_
                          refine ox_y (sees_t rfl rfl rfl rfl hp64) (y_buildS [.int .i64 1, .int .i64 5] [(0, 1), (1, 1)] ust_23 ze_23 (by kernel_rfl)) ?_
                          refine ox_y (sees_t rfl rfl rfl rfl hp64) (y_eqla (b := ((y24.1.fNum == 1) && (y24.1.fDen == 5))) eg_23 rfl rfl (fun _ => (eqS2 fl_23 (part1 sc_3 rfl) (part1 sc_3 rfl) (part1 sc_3 rfl) (part1 sc_3 rfl) (run_equalIn_int _ _ _ _ _ _ _ ui_3) (run_equalIn_int _ _ _ _ _ _ _ ui_3)))) ?_
                          refine ox_y rfl (y_pick_tb (congrArg Value.bool hp64) rfl) ?_
                          exact key _ _ (keep (keep (keep (keep (keep (keep (keep (keep (keep (keep (keep (keep (keep (keep (keep (keep (keep (keep (keep (keep (keep (keep (keep (keep (keep (keep (keep (keep rfl rfl) rfl) rfl) rfl) rfl) rfl) rfl) rfl) rfl) rfl) rfl) rfl) rfl) rfl) rfl) rfl) rfl) rfl) rfl) rfl) rfl) rfl) rfl) rfl) rfl) rfl) rfl) (congrArg Value.bool (and_t hp64)))
                        · refine ox_skip (sees_f rfl rfl rfl rfl hp64) ?_
                          refine ox_skip (sees_f rfl rfl rfl rfl hp64) ?_
                          refine ox_skip (sees_f rfl rfl rfl rfl hp64) ?_
                          refine ox_y rfl (y_pick_fb (congrArg Value.bool hp64) rfl) ?_
                          exact key _ _ (keep (keep (keep (keep (keep (keep (keep (keep (keep (keep (keep (keep (keep (keep (keep (keep (keep (keep (keep (keep (keep (keep (keep (keep (keep (keep (keep (keep rfl rfl) rfl) rfl) rfl) rfl) rfl) rfl) rfl) rfl) rfl) rfl) rfl) rfl) rfl) rfl) rfl) rfl) rfl) rfl) rfl) rfl) rfl) rfl) rfl) rfl) rfl) rfl) (congrArg Value.bool (and_f hp64)))
                    · rcases bool_cases ((y6.1.fNum == 2) && (y6.1.fDen == 5)) with hp63 | hp63
                      · refine ox_y (sees_t rfl rfl rfl rfl hp63) (y_loadN 4 [.int .i64 y21.1.fNum, .int .i64 y21.1.fDen] ag_23 rfl rfl rfl) ?_
                        refine ox_y (sees_t rfl rfl rfl rfl hp63) (y_buildS [.int .i64 7, .int .i64 5] [(0, 1), (1, 1)] ust_23 ze_23 (by kernel_rfl)) ?_
                        refine ox_y (sees_t rfl rfl rfl rfl hp63) (y_eqla (b := ((y21.1.fNum == 7) && (y21.1.fDen == 5))) eg_23 rfl rfl (fun _ => (eqS2 fl_23 (part1 sc_3 rfl) (part1 sc_3 rfl) (part1 sc_3 rfl) (part1 sc_3 rfl) (run_equalIn_int _ _ _ _ _ _ _ ui_3) (run_equalIn_int _ _ _ _ _ _ _ ui_3)))) ?_
                        refine ox_y rfl (y_pick_tb (congrArg Value.bool hp63) rfl) ?_
                        exact key _ _ (keep (keep (keep (keep (keep (keep (keep (keep (keep (keep (keep (keep (keep (keep (keep (keep (keep (keep (keep (keep (keep (keep (keep (keep (keep (keep (keep (keep rfl rfl) rfl) rfl) rfl) rfl) rfl) rfl) rfl) rfl) rfl) rfl) rfl) rfl) rfl) rfl) rfl) rfl) rfl) rfl) rfl) rfl) rfl) rfl) rfl) rfl) rfl) rfl) (congrArg Value.bool (and_t hp63)))
                      · refine ox_skip (sees_f rfl rfl rfl rfl hp63) ?_
                        refine ox_skip (sees_f rfl rfl rfl rfl hp63) ?_
                        refine ox_skip (sees_f rfl rfl rfl rfl hp63) ?_
                        refine ox_y rfl (y_pick_fb (congrArg Value.bool hp63) rfl) ?_
                        exact key _ _ (keep (keep (keep (keep (keep (keep (keep (keep (keep (keep (keep (keep (keep (keep (keep (keep (keep (keep (keep (keep (keep (keep (keep (keep (keep (keep (keep (keep rfl rfl) rfl) rfl) rfl) rfl) rfl) rfl) rfl) rfl) rfl) rfl) rfl) rfl) rfl) rfl) rfl) rfl) rfl) rfl) rfl) rfl) rfl) rfl) rfl) rfl) rfl) rfl) (congrArg Value.bool (and_f hp63)))
                  · clear h; rcases ite_some hb43 with ⟨hp41, h⟩ | ⟨hp41, h⟩
                    · refine ox_y (sees_t rfl rfl rfl rfl hp41) (y_move_slice rfl) ?_
                      refine ox_buildSliceE 4 (encL cI [0, 3, 2, 0]) _ mc_3_4 us_66 ze_3 by_3 (by decide) (by decide) (by kernel_rfl) (encL_len cI_len rfl) (sees_t rfl rfl rfl rfl hp41) (fun b75 => ?_)
                      try dsimp only [List.nil_append, List.cons_append, List.set_cons_zero, List.set_cons_succ]
                      obtain ⟨y76, hy77, h⟩ := bind_some h
                      refine ox_y (sees_t rfl rfl rfl rfl hp41) (y_call [.slice A17 y15.1.length c18, .slice (some ⟨b75, 0, none⟩) 4 4] go_53 rfl (fun W2 hW2 => calxref03_SameInts_ok y15.1 [0, 3, 2, 0] y76 hy77 W2 A17 y15.1.length c18 rfl ((RdL.row 3 rfl) W2 hW2) (some ⟨b75, 0, none⟩) 4 4 rfl ((RdL.row 8 rfl) W2 hW2)) rfl) ?_
                      refine ox_y rfl (y_pick_tb (congrArg Value.bool hp41) rfl) ?_
                      obtain rfl := Option.some.inj h
                      refine ox_take 8 ?_
                      exact key _ _ (keep (keep (keep (keep (keep (keep (keep (keep (keep (keep (keep (keep (keep (keep (keep (keep (keep (keep rfl rfl) rfl) rfl) rfl) rfl) rfl) rfl) rfl) rfl) rfl) rfl) rfl) rfl) rfl) rfl) rfl) rfl) rfl)
                    · refine ox_skip (sees_f rfl rfl rfl rfl hp41) ?_
                      refine ox_skip (sees_f rfl rfl rfl rfl hp41) ?_
                      refine ox_skip (sees_f rfl rfl rfl rfl hp41) ?_
                      refine ox_y rfl (y_pick_fb (congrArg Value.bool hp41) rfl) ?_
                      obtain rfl := Option.some.inj h
                      exact key _ _ (keep (keep (keep (keep (keep (keep (keep (keep (keep (keep (keep (keep (keep (keep (keep (keep (keep (keep rfl rfl) rfl) rfl) rfl) rfl) rfl) rfl) rfl) rfl) rfl) rfl) rfl) rfl) rfl) rfl) rfl) rfl) rfl)
              · rcases bool_cases (((((((y4.2 != 0) || (y6.2 != 0)) || (y9.2 != 0)) || (y15.2 != 0)) || (y21.2 != 0)) || (y24.2 != 0)) || (y27.2 != 0)) with hp36 | hp36
                · refine ox_skip (sees_f rfl rfl rfl rfl hp36) ?_
                  refine ox_skip (sees_f rfl rfl rfl rfl hp36) ?_
                  refine ox_y rfl (y_pick_tb (congrArg Value.bool hp36) rfl) ?_
                  exact key _ _ (keep (keep (keep (keep (keep (keep (keep (keep (keep (keep (keep (keep (keep (keep (keep (keep (keep rfl rfl) rfl) rfl) rfl) rfl) rfl) rfl) rfl) rfl) rfl) rfl) rfl) rfl) rfl) rfl) rfl) (congrArg Value.bool (or_t hp36)))
                · refine ox_y (sees_t rfl rfl rfl rfl hp36) (y_move_int rfl) ?_
                  refine ox_y (sees_t rfl rfl rfl rfl hp36) (y_neq rfl rfl) ?_
                  refine ox_y rfl (y_pick_fb (congrArg Value.bool hp36) rfl) ?_
                  exact key _ _ (keep (keep (keep (keep (keep (keep (keep (keep (keep (keep (keep (keep (keep (keep (keep (keep (keep rfl rfl) rfl) rfl) rfl) rfl) rfl) rfl) rfl) rfl) rfl) rfl) rfl) rfl) rfl) rfl) rfl) (congrArg Value.bool (or_f hp36)))
            · rcases bool_cases ((((((y4.2 != 0) || (y6.2 != 0)) || (y9.2 != 0)) || (y15.2 != 0)) || (y21.2 != 0)) || (y24.2 != 0)) with hp35 | hp35
              · refine ox_skip (sees_f rfl rfl rfl rfl hp35) ?_
                refine ox_skip (sees_f rfl rfl rfl rfl hp35) ?_
                refine ox_y rfl (y_pick_tb (congrArg Value.bool hp35) rfl) ?_
                exact key _ _ (keep (keep (keep (keep (keep (keep (keep (keep (keep (keep (keep (keep (keep (keep (keep (keep (keep rfl rfl) rfl) rfl) rfl) rfl) rfl) rfl) rfl) rfl) rfl) rfl) rfl) rfl) rfl) rfl) rfl) (congrArg Value.bool (or_t hp35)))
              · refine ox_y (sees_t rfl rfl rfl rfl hp35) (y_move_int rfl) ?_
                refine ox_y (sees_t rfl rfl rfl rfl hp35) (y_neq rfl rfl) ?_
                refine ox_y rfl (y_pick_fb (congrArg Value.bool hp35) rfl) ?_
                exact key _ _ (keep (keep (keep (keep (keep (keep (keep (keep (keep (keep (keep (keep (keep (keep (keep (keep (keep rfl rfl) rfl) rfl) rfl) rfl) rfl) rfl) rfl) rfl) rfl) rfl) rfl) rfl) rfl) rfl) rfl) (congrArg Value.bool (or_f hp35)))
          · rcases bool_cases (((((y4.2 != 0) || (y6.2 != 0)) || (y9.2 != 0)) || (y15.2 != 0)) || (y21.2 != 0)) with hp34 | hp34
            · refine ox_skip (sees_f rfl rfl rfl rfl hp34) ?_
              refine ox_skip (sees_f rfl rfl rfl rfl hp34) ?_
              refine ox_y rfl (y_pick_tb (congrArg Value.bool hp34) rfl) ?_
              exact key _ _ (keep (keep (keep (keep (keep (keep (keep (keep (keep (keep (keep (keep (keep (keep (keep (keep (keep rfl rfl) rfl) rfl) rfl) rfl) rfl) rfl) rfl) rfl) rfl) rfl) rfl) rfl) rfl) rfl) rfl) (congrArg Value.bool (or_t hp34)))
            · refine ox_y (sees_t rfl rfl rfl rfl hp34) (y_move_int rfl) ?_
              refine ox_y (sees_t rfl rfl rfl rfl hp34) (y_neq rfl rfl) ?_
              refine ox_y rfl (y_pick_fb (congrArg Value.bool hp34) rfl) ?_
              exact key _ _ (keep (keep (keep (keep (keep (keep (keep (keep (keep (keep (keep (keep (keep (keep (keep (keep (keep rfl rfl) rfl) rfl) rfl) rfl) rfl) rfl) rfl) rfl) rfl) rfl) rfl) rfl) rfl) rfl) rfl) (congrArg Value.bool (or_f hp34)))
        · rcases bool_cases ((((y4.2 != 0) || (y6.2 != 0)) || (y9.2 != 0)) || (y15.2 != 0)) with hp33 | hp33
          · refine ox_skip (sees_f rfl rfl rfl rfl hp33) ?_
            refine ox_skip (sees_f rfl rfl rfl rfl hp33) ?_
            refine ox_y rfl (y_pick_tb (congrArg Value.bool hp33) rfl) ?_
            exact key _ _ (keep (keep (keep (keep (keep (keep (keep (keep (keep (keep (keep (keep (keep (keep (keep (keep (keep rfl rfl) rfl) rfl) rfl) rfl) rfl) rfl) rfl) rfl) rfl) rfl) rfl) rfl) rfl) rfl) rfl) (congrArg Value.bool (or_t hp33)))
          · refine ox_y (sees_t rfl rfl rfl rfl hp33) (y_move_int rfl) ?_
            refine ox_y (sees_t rfl rfl rfl rfl hp33) (y_neq rfl rfl) ?_
            refine ox_y rfl (y_pick_fb (congrArg Value.bool hp33) rfl) ?_
            exact key _ _ (keep (keep (keep (keep (keep (keep (keep (keep (keep (keep (keep (keep (keep (keep (keep (keep (keep rfl rfl) rfl) rfl) rfl) rfl) rfl) rfl) rfl) rfl) rfl) rfl) rfl) rfl) rfl) rfl) rfl) (congrArg Value.bool (or_f hp33)))
      · rcases bool_cases (((y4.2 != 0) || (y6.2 != 0)) || (y9.2 != 0)) with hp32 | hp32
        · refine ox_skip (sees_f rfl rfl rfl rfl hp32) ?_
          refine ox_skip (sees_f rfl rfl rfl rfl hp32) ?_
          refine ox_y rfl (y_pick_tb (congrArg Value.bool hp32) rfl) ?_
          exact key _ _ (keep (keep (keep (keep (keep (keep (keep (keep (keep (keep (keep (keep (keep (keep (keep (keep (keep rfl rfl) rfl) rfl) rfl) rfl) rfl) rfl) rfl) rfl) rfl) rfl) rfl) rfl) rfl) rfl) rfl) (congrArg Value.bool (or_t hp32)))
        · refine ox_y (sees_t rfl rfl rfl rfl hp32) (y_move_int rfl) ?_
          refine ox_y (sees_t rfl rfl rfl rfl hp32) (y_neq rfl rfl) ?_
          refine ox_y rfl (y_pick_fb (congrArg Value.bool hp32) rfl) ?_
          exact key _ _ (keep (keep (keep (keep (keep (keep (keep (keep (keep (keep (keep (keep (keep (keep (keep (keep (keep rfl rfl) rfl) rfl) rfl) rfl) rfl) rfl) rfl) rfl) rfl) rfl) rfl) rfl) rfl) rfl) rfl) (congrArg Value.bool (or_f hp32)))
    · rcases bool_cases ((y4.2 != 0) || (y6.2 != 0)) with hp31 | hp31
      · refine ox_skip (sees_f rfl rfl rfl rfl hp31) ?_
        refine ox_skip (sees_f rfl rfl rfl rfl hp31) ?_
        refine ox_y rfl (y_pick_tb (congrArg Value.bool hp31) rfl) ?_
        exact key _ _ (keep (keep (keep (keep (keep (keep (keep (keep (keep (keep (keep (keep (keep (keep (keep (keep (keep rfl rfl) rfl) rfl) rfl) rfl) rfl) rfl) rfl) rfl) rfl) rfl) rfl) rfl) rfl) rfl) rfl) (congrArg Value.bool (or_t hp31)))
      · refine ox_y (sees_t rfl rfl rfl rfl hp31) (y_move_int rfl) ?_
        refine ox_y (sees_t rfl rfl rfl rfl hp31) (y_neq rfl rfl) ?_
        refine ox_y rfl (y_pick_fb (congrArg Value.bool hp31) rfl) ?_
        exact key _ _ (keep (keep (keep (keep (keep (keep (keep (keep (keep (keep (keep (keep (keep (keep (keep (keep (keep rfl rfl) rfl) rfl) rfl) rfl) rfl) rfl) rfl) rfl) rfl) rfl) rfl) rfl) rfl) rfl) rfl) (congrArg Value.bool (or_f hp31)))
  · rcases bool_cases (y4.2 != 0) with hp30 | hp30
    · refine ox_skip (sees_f rfl rfl rfl rfl hp30) ?_
      refine ox_skip (sees_f rfl rfl rfl rfl hp30) ?_
      refine ox_y rfl (y_pick_tb (congrArg Value.bool hp30) rfl) ?_
      exact key _ _ (keep (keep (keep (keep (keep (keep (keep (keep (keep (keep (keep (keep (keep (keep (keep (keep (keep rfl rfl) rfl) rfl) rfl) rfl) rfl) rfl) rfl) rfl) rfl) rfl) rfl) rfl) rfl) rfl) rfl) (congrArg Value.bool (or_t hp30)))
    · refine ox_y (sees_t rfl rfl rfl rfl hp30) (y_move_int rfl) ?_
      refine ox_y (sees_t rfl rfl rfl rfl hp30) (y_neq rfl rfl) ?_
      refine ox_y rfl (y_pick_fb (congrArg Value.bool hp30) rfl) ?_
      exact key _ _ (keep (keep (keep (keep (keep (keep (keep (keep (keep (keep (keep (keep (keep (keep (keep (keep (keep rfl rfl) rfl) rfl) rfl) rfl) rfl) rfl) rfl) rfl) rfl) rfl) rfl) rfl) rfl) rfl) rfl) (congrArg Value.bool (or_f hp30)))

end Go.Proofs.Ytepfgdfahinpkaa
