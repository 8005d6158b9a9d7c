/- The calls hand back what the plain functions say. -/
import Derived.Test.YtepfgdfahinpkaaF
import Derived.Test.YtepfgdfahinpkaaC0
import Derived.Test.YtepfgdfahinpkaaC1
import Derived.Test.YtepfgdfahinpkaaC3
import Derived.Test.YtepfgdfahinpkaaC4
set_option linter.unusedVariables false
set_option maxHeartbeats 4000000
namespace Go.Proofs.Ytepfgdfahinpkaa
open Go.RowKit (Below)
attribute [local irreducible] OX QX CX EX OpY Calls CallsIn

/-! calx/calxlaw03.SampleMeans -/
set_option maxRecDepth 100000 in
theorem calxlaw03_SampleMeans_ok (p0 : TBatch) (res : Bool) (h : calxlaw03_SampleMeans p0 = some res) (W : World)  :
    Calls Try.prog 8 [.agg #[.int .i64 p0.fBarrows, .int .i64 p0.fSeen.x0, .int .i64 p0.fSeen.x1, .int .i64 p0.fSeen.x2, .int .i64 p0.fKnown.x0.fLo, .int .i64 p0.fKnown.x0.fHi, .int .i64 p0.fKnown.x1.fLo, .int .i64 p0.fKnown.x1.fHi, .int .i64 p0.fKnown.x2.fLo, .int .i64 p0.fKnown.x2.fHi]].toArray W fun e W2 => e = .returned (.bool res) ∧ Ext W W2 [] := by
  unfold calxlaw03_SampleMeans at h
  refine calls_enter (m := 210) Try.func8 rfl rfl (Nat.le_of_ble_eq_true rfl) ?_
  refine cx_seq ?_
  refine cx_region ?_
  refine ox_box [.int .i64 p0.fBarrows, .int .i64 p0.fSeen.x0, .int .i64 p0.fSeen.x1, .int .i64 p0.fSeen.x2, .int .i64 p0.fKnown.x0.fLo, .int .i64 p0.fKnown.x0.fHi, .int .i64 p0.fKnown.x1.fLo, .int .i64 p0.fKnown.x1.fHi, .int .i64 p0.fKnown.x2.fLo, .int .i64 p0.fKnown.x2.fHi] rfl rfl rfl (fun b1 => ?_)
  refine ox_y rfl (y_assign_bool rfl) ?_
  refine ox_nil ?_
  refine ex_then ?_
  refine cx_seq ?_
  refine cx_region ?_
  obtain ⟨y2, hy3, h⟩ := bind_some h
  refine ox_y rfl (y_call [] go_22 rfl (fun W2 hW2 => calxlaw03_head_ok  y2 hy3 W2 ) rfl) ?_
  refine ox_y rfl (y_assign_bool rfl) ?_
  refine ox_nil ?_
  refine ex_then ?_
  refine cx_seq ?_
  refine cx_seq ?_
  refine cx_region ?_
  refine ox_y rfl (y_loadN 0 [.int .i64 p0.fBarrows, .int .i64 p0.fSeen.x0, .int .i64 p0.fSeen.x1, .int .i64 p0.fSeen.x2, .int .i64 p0.fKnown.x0.fLo, .int .i64 p0.fKnown.x0.fHi, .int .i64 p0.fKnown.x1.fLo, .int .i64 p0.fKnown.x1.fHi, .int .i64 p0.fKnown.x2.fLo, .int .i64 p0.fKnown.x2.fHi] ag_52 rfl rfl rfl) ?_
  obtain ⟨y4, hy5, h⟩ := bind_some h
  refine ox_y rfl (y_call [.agg #[.int .i64 p0.fBarrows, .int .i64 p0.fSeen.x0, .int .i64 p0.fSeen.x1, .int .i64 p0.fSeen.x2, .int .i64 p0.fKnown.x0.fLo, .int .i64 p0.fKnown.x0.fHi, .int .i64 p0.fKnown.x1.fLo, .int .i64 p0.fKnown.x1.fHi, .int .i64 p0.fKnown.x2.fLo, .int .i64 p0.fKnown.x2.fHi]] go_39 rfl (fun W2 hW2 => sample_Check_ok p0 y4 hy5 W2 ) rfl) ?_
  refine ox_y rfl (y_neq rfl rfl) ?_
  refine ox_nil ?_
  refine ex_then ?_
  rcases ite_some h with ⟨hp6, h⟩ | ⟨hp6, h⟩
  · refine cx_true (congrArg Value.bool hp6) ?_
    refine cx_seq ?_
    refine cx_region ?_
    refine ox_y rfl (y_move_bool rfl) ?_
    refine ox_y rfl (y_assign_bool rfl) ?_
    refine ox_nil ?_
    refine ex_then ?_
    refine cx_ret ?_
    refine ex_then_ret ?_
    obtain rfl := Option.some.inj h
    exact ex_res1 (.inl rfl) rfl (resV_tmp (v := .bool y2) rfl) (fun W2 hW2 => ⟨rfl, hW2.none⟩)
  · refine cx_false (congrArg Value.bool hp6) ?_
    refine cx_skip ?_
    refine ex_then ?_
    refine cx_seq ?_
    refine cx_region ?_
    refine ox_y rfl (y_fieldAddr fo_52_0 rfl) ?_
    refine ox_y rfl (y_load1 0 (v := .int .i64 p0.fBarrows) sc_3 rfl rfl rfl) ?_
    refine ox_y rfl (y_fieldAddr fo_52_1 rfl) ?_
    refine ox_y rfl (y_indexArr ar_43 (by decide) (by decide) rfl rfl) ?_
    refine ox_y rfl (y_load1 0 (v := .int .i64 p0.fSeen.x0) sc_3 rfl rfl rfl) ?_
    refine ox_y rfl (y_sub rfl rfl) ?_
    refine ox_y rfl (y_fieldAddr fo_52_1 rfl) ?_
    refine ox_y rfl (y_indexArr ar_43 (by decide) (by decide) rfl rfl) ?_
    refine ox_y rfl (y_load1 0 (v := .int .i64 p0.fSeen.x1) sc_3 rfl rfl rfl) ?_
    refine ox_y rfl (y_sub rfl rfl) ?_
    refine ox_y rfl (y_fieldAddr fo_52_1 rfl) ?_
    refine ox_y rfl (y_indexArr ar_43 (by decide) (by decide) rfl rfl) ?_
    refine ox_y rfl (y_load1 0 (v := .int .i64 p0.fSeen.x2) sc_3 rfl rfl rfl) ?_
    refine ox_y rfl (y_sub rfl rfl) ?_
    refine ox_y rfl (y_assign_int rfl) ?_
    refine ox_nil ?_
    refine ex_then ?_
    refine cx_seq ?_
    refine cx_region ?_
    refine ox_y rfl (y_assign_int rfl) ?_
    refine ox_nil ?_
    refine ex_then ?_
    refine cx_seq ?_
    refine cx_region ?_
    refine ox_y rfl (y_assign_int rfl) ?_
    refine ox_nil ?_
    refine ex_then ?_
    refine cx_seq ?_
    refine cx_seq ?_
    refine cx_region ?_
    refine ox_y rfl (y_assign_int rfl) ?_
    refine ox_nil ?_
    refine ex_then ?_
    refine cx_block ?_
    obtain ⟨u9, hl66, h⟩ := bind_some h
    refine cx_loop (fun (s : (Bool × Int × Int × Int)) L tm => ∃ (tm0 : Nat → Value), L = [cellsR b1 52 [.int .i64 p0.fBarrows, .int .i64 p0.fSeen.x0, .int .i64 p0.fSeen.x1, .int .i64 p0.fSeen.x2, .int .i64 p0.fKnown.x0.fLo, .int .i64 p0.fKnown.x0.fHi, .int .i64 p0.fKnown.x1.fLo, .int .i64 p0.fKnown.x1.fHi, .int .i64 p0.fKnown.x2.fLo, .int .i64 p0.fKnown.x2.fHi]] ∧ tm = (upd (upd (upd (upd (upd (upd (upd (upd (upd tm0 0 (.agg #[.int .i64 p0.fBarrows, .int .i64 p0.fSeen.x0, .int .i64 p0.fSeen.x1, .int .i64 p0.fSeen.x2, .int .i64 p0.fKnown.x0.fLo, .int .i64 p0.fKnown.x0.fHi, .int .i64 p0.fKnown.x1.fLo, .int .i64 p0.fKnown.x1.fHi, .int .i64 p0.fKnown.x2.fLo, .int .i64 p0.fKnown.x2.fHi])) 1 (.pointer (some ⟨b1, 0, none⟩))) 2 (.bool s.1)) 3 (.bool y2)) 22 (.bool (y4 != 0))) 4 (.int .i64 (w64 ((w64 ((w64 (p0.fBarrows - p0.fSeen.x0)) - p0.fSeen.x1)) - p0.fSeen.x2)))) 5 (.int .i64 s.2.1)) 6 (.int .i64 s.2.2.1)) 7 (.int .i64 s.2.2.2))) (fun | (.inl s), e, L, tm => e = .ret ∧ ∃ (tm0 : Nat → Value), L = [cellsR b1 52 [.int .i64 p0.fBarrows, .int .i64 p0.fSeen.x0, .int .i64 p0.fSeen.x1, .int .i64 p0.fSeen.x2, .int .i64 p0.fKnown.x0.fLo, .int .i64 p0.fKnown.x0.fHi, .int .i64 p0.fKnown.x1.fLo, .int .i64 p0.fKnown.x1.fHi, .int .i64 p0.fKnown.x2.fLo, .int .i64 p0.fKnown.x2.fHi]] ∧ tm = (upd (upd (upd (upd (upd (upd (upd (upd (upd tm0 0 (.agg #[.int .i64 p0.fBarrows, .int .i64 p0.fSeen.x0, .int .i64 p0.fSeen.x1, .int .i64 p0.fSeen.x2, .int .i64 p0.fKnown.x0.fLo, .int .i64 p0.fKnown.x0.fHi, .int .i64 p0.fKnown.x1.fLo, .int .i64 p0.fKnown.x1.fHi, .int .i64 p0.fKnown.x2.fLo, .int .i64 p0.fKnown.x2.fHi])) 1 (.pointer (some ⟨b1, 0, none⟩))) 2 (.bool s.1)) 3 (.bool y2)) 22 (.bool (y4 != 0))) 4 (.int .i64 (w64 ((w64 ((w64 (p0.fBarrows - p0.fSeen.x0)) - p0.fSeen.x1)) - p0.fSeen.x2)))) 5 (.int .i64 s.2.1)) 6 (.int .i64 s.2.2.1)) 7 (.int .i64 s.2.2.2)) | (.inr s), e, L, tm => e = .exit 0 ∧ ∃ (tm0 : Nat → Value), L = [cellsR b1 52 [.int .i64 p0.fBarrows, .int .i64 p0.fSeen.x0, .int .i64 p0.fSeen.x1, .int .i64 p0.fSeen.x2, .int .i64 p0.fKnown.x0.fLo, .int .i64 p0.fKnown.x0.fHi, .int .i64 p0.fKnown.x1.fLo, .int .i64 p0.fKnown.x1.fHi, .int .i64 p0.fKnown.x2.fLo, .int .i64 p0.fKnown.x2.fHi]] ∧ tm = (upd (upd (upd (upd (upd (upd (upd (upd (upd tm0 0 (.agg #[.int .i64 p0.fBarrows, .int .i64 p0.fSeen.x0, .int .i64 p0.fSeen.x1, .int .i64 p0.fSeen.x2, .int .i64 p0.fKnown.x0.fLo, .int .i64 p0.fKnown.x0.fHi, .int .i64 p0.fKnown.x1.fLo, .int .i64 p0.fKnown.x1.fHi, .int .i64 p0.fKnown.x2.fLo, .int .i64 p0.fKnown.x2.fHi])) 1 (.pointer (some ⟨b1, 0, none⟩))) 2 (.bool s.1)) 3 (.bool y2)) 22 (.bool (y4 != 0))) 4 (.int .i64 (w64 ((w64 ((w64 (p0.fBarrows - p0.fSeen.x0)) - p0.fSeen.x1)) - p0.fSeen.x2)))) 5 (.int .i64 s.2.1)) 6 (.int .i64 s.2.2.1)) 7 (.int .i64 s.2.2.2))) hl66 ⟨_, rfl, (keep (keep (keep (keep (keep (keep (keep (keep (keep rfl rfl) rfl) rfl) rfl) rfl) rfl) rfl) rfl) rfl)⟩ ?_ ?_
    · rintro s8 L tm st ⟨tm0_s8, rfl, rfl⟩ h
      unfold calxlaw03_SampleMeans_l1 at h
      refine cx_seq ?_
      refine cx_seq ?_
      refine cx_region ?_
      refine ox_y rfl (y_move_int rfl) ?_
      refine ox_y rfl (y_lss rfl rfl) ?_
      refine ox_nil ?_
      refine ex_then ?_
      rcases ite_some h with ⟨hp10, h⟩ | ⟨hp10, h⟩
      · refine cx_true (congrArg Value.bool hp10) ?_
        refine cx_skip ?_
        refine ex_then ?_
        refine cx_seq ?_
        refine cx_block ?_
        refine cx_seq ?_
        refine cx_region ?_
        refine ox_y rfl (y_loadN 0 [.int .i64 p0.fBarrows, .int .i64 p0.fSeen.x0, .int .i64 p0.fSeen.x1, .int .i64 p0.fSeen.x2, .int .i64 p0.fKnown.x0.fLo, .int .i64 p0.fKnown.x0.fHi, .int .i64 p0.fKnown.x1.fLo, .int .i64 p0.fKnown.x1.fHi, .int .i64 p0.fKnown.x2.fLo, .int .i64 p0.fKnown.x2.fHi] ag_52 rfl rfl rfl) ?_
        refine ox_y rfl (y_move_int rfl) ?_
        obtain ⟨y11, hy12, h⟩ := bind_some h
        refine ox_y rfl (y_call [.agg #[.int .i64 p0.fBarrows, .int .i64 p0.fSeen.x0, .int .i64 p0.fSeen.x1, .int .i64 p0.fSeen.x2, .int .i64 p0.fKnown.x0.fLo, .int .i64 p0.fKnown.x0.fHi, .int .i64 p0.fKnown.x1.fLo, .int .i64 p0.fKnown.x1.fHi, .int .i64 p0.fKnown.x2.fLo, .int .i64 p0.fKnown.x2.fHi], .int .i64 s8.2.2.2] go_41 rfl (fun W2 hW2 => sample_Mean_ok p0 s8.2.2.2 y11 hy12 W2 ) rfl) ?_
        refine ox_y rfl (y_move_tuple rfl) ?_
        refine ox_y rfl (y_extract (vs := [.agg #[.int .i64 y11.1.fNum, .int .i64 y11.1.fDen], .int .i64 y11.2]) (v := .agg #[.int .i64 y11.1.fNum, .int .i64 y11.1.fDen]) rfl rfl) ?_
        refine ox_y rfl (y_extract (vs := [.agg #[.int .i64 y11.1.fNum, .int .i64 y11.1.fDen], .int .i64 y11.2]) (v := .int .i64 y11.2) rfl rfl) ?_
        refine ox_alloc ze_23 rfl (fun b13 => ?_)
        refine ox_n rfl (y_storeN 1 [.int .i64 y11.1.fNum, .int .i64 y11.1.fDen] sz_23 rfl (Nat.le_of_ble_eq_true rfl) rfl rfl rfl) ?_
        refine ox_y rfl (y_assign_int rfl) ?_
        refine ox_nil ?_
        refine ex_then ?_
        refine cx_seq ?_
        refine cx_region ?_
        refine ox_y rfl (y_loadN 0 [.int .i64 p0.fBarrows, .int .i64 p0.fSeen.x0, .int .i64 p0.fSeen.x1, .int .i64 p0.fSeen.x2, .int .i64 p0.fKnown.x0.fLo, .int .i64 p0.fKnown.x0.fHi, .int .i64 p0.fKnown.x1.fLo, .int .i64 p0.fKnown.x1.fHi, .int .i64 p0.fKnown.x2.fLo, .int .i64 p0.fKnown.x2.fHi] ag_52 rfl rfl rfl) ?_
        refine ox_y rfl (y_move_int rfl) ?_
        obtain ⟨y14, hy15, h⟩ := bind_some h
        refine ox_y rfl (y_call [.agg #[.int .i64 p0.fBarrows, .int .i64 p0.fSeen.x0, .int .i64 p0.fSeen.x1, .int .i64 p0.fSeen.x2, .int .i64 p0.fKnown.x0.fLo, .int .i64 p0.fKnown.x0.fHi, .int .i64 p0.fKnown.x1.fLo, .int .i64 p0.fKnown.x1.fHi, .int .i64 p0.fKnown.x2.fLo, .int .i64 p0.fKnown.x2.fHi], .int .i64 s8.2.2.2] go_36 rfl (fun W2 hW2 => sample_Ends_ok p0 s8.2.2.2 y14 hy15 W2 ) rfl) ?_
        refine ox_y rfl (y_move_tuple rfl) ?_
        refine ox_y rfl (y_extract (vs := [.agg #[.int .i64 y14.1.fLo, .int .i64 y14.1.fHi], .int .i64 y14.2]) (v := .agg #[.int .i64 y14.1.fLo, .int .i64 y14.1.fHi]) rfl rfl) ?_
        refine ox_y rfl (y_extract (vs := [.agg #[.int .i64 y14.1.fLo, .int .i64 y14.1.fHi], .int .i64 y14.2]) (v := .int .i64 y14.2) rfl rfl) ?_
        refine ox_alloc ze_33 rfl (fun b16 => ?_)
        refine ox_n rfl (y_storeN 2 [.int .i64 y14.1.fLo, .int .i64 y14.1.fHi] sz_33 rfl (Nat.le_of_ble_eq_true rfl) rfl rfl rfl) ?_
        refine ox_y rfl (y_assign_int rfl) ?_
        refine ox_nil ?_
        refine ex_then ?_
        refine cx_seq ?_
        refine cx_region ?_
        refine ox_y rfl (y_loadN 0 [.int .i64 p0.fBarrows, .int .i64 p0.fSeen.x0, .int .i64 p0.fSeen.x1, .int .i64 p0.fSeen.x2, .int .i64 p0.fKnown.x0.fLo, .int .i64 p0.fKnown.x0.fHi, .int .i64 p0.fKnown.x1.fLo, .int .i64 p0.fKnown.x1.fHi, .int .i64 p0.fKnown.x2.fLo, .int .i64 p0.fKnown.x2.fHi] ag_52 rfl rfl rfl) ?_
        refine ox_y rfl (y_move_int rfl) ?_
        obtain ⟨y17, hy18, h⟩ := bind_some h
        refine ox_call [.agg #[.int .i64 p0.fBarrows, .int .i64 p0.fSeen.x0, .int .i64 p0.fSeen.x1, .int .i64 p0.fSeen.x2, .int .i64 p0.fKnown.x0.fLo, .int .i64 p0.fKnown.x0.fHi, .int .i64 p0.fKnown.x1.fLo, .int .i64 p0.fKnown.x1.fHi, .int .i64 p0.fKnown.x2.fLo, .int .i64 p0.fKnown.x2.fHi], .int .i64 s8.2.2.2] _ _ _ rfl go_42 rfl (fun W2 hW2 => sample_Weights_ok p0 s8.2.2.2 y17 hy18 W2 ) ?_
        rintro ⟨A19, n21, c20⟩ hn22
        replace hn22 : n21 = y17.1.length := hn22; subst hn22
        refine ox_y rfl (y_move_tuple rfl) ?_
        refine ox_y rfl (y_extract (vs := [.slice A19 y17.1.length c20, .int .i64 y17.2]) (v := .slice A19 y17.1.length c20) rfl rfl) ?_
        refine ox_y rfl (y_extract (vs := [.slice A19 y17.1.length c20, .int .i64 y17.2]) (v := .int .i64 y17.2) rfl rfl) ?_
        refine ox_y rfl (y_assign_slice rfl) ?_
        refine ox_y rfl (y_assign_int rfl) ?_
        refine ox_nil ?_
        refine ex_then ?_
        refine cx_seq ?_
        refine cx_region ?_
        refine ox_y rfl (y_loadN 0 [.int .i64 p0.fBarrows, .int .i64 p0.fSeen.x0, .int .i64 p0.fSeen.x1, .int .i64 p0.fSeen.x2, .int .i64 p0.fKnown.x0.fLo, .int .i64 p0.fKnown.x0.fHi, .int .i64 p0.fKnown.x1.fLo, .int .i64 p0.fKnown.x1.fHi, .int .i64 p0.fKnown.x2.fLo, .int .i64 p0.fKnown.x2.fHi] ag_52 rfl rfl rfl) ?_
        refine ox_y rfl (y_move_int rfl) ?_
        obtain ⟨y23, hy24, h⟩ := bind_some h
        refine ox_y rfl (y_call [.agg #[.int .i64 p0.fBarrows, .int .i64 p0.fSeen.x0, .int .i64 p0.fSeen.x1, .int .i64 p0.fSeen.x2, .int .i64 p0.fKnown.x0.fLo, .int .i64 p0.fKnown.x0.fHi, .int .i64 p0.fKnown.x1.fLo, .int .i64 p0.fKnown.x1.fHi, .int .i64 p0.fKnown.x2.fLo, .int .i64 p0.fKnown.x2.fHi], .int .i64 s8.2.2.2] go_43 rfl (fun W2 hW2 => sample_Next_ok p0 s8.2.2.2 y23 hy24 W2 ) rfl) ?_
        refine ox_y rfl (y_move_tuple rfl) ?_
        refine ox_y rfl (y_extract (vs := [.agg #[.int .i64 y23.1.fNum, .int .i64 y23.1.fDen], .int .i64 y23.2]) (v := .agg #[.int .i64 y23.1.fNum, .int .i64 y23.1.fDen]) rfl rfl) ?_
        refine ox_y rfl (y_extract (vs := [.agg #[.int .i64 y23.1.fNum, .int .i64 y23.1.fDen], .int .i64 y23.2]) (v := .int .i64 y23.2) rfl rfl) ?_
        refine ox_alloc ze_23 rfl (fun b25 => ?_)
        refine ox_n rfl (y_storeN 4 [.int .i64 y23.1.fNum, .int .i64 y23.1.fDen] sz_23 rfl (Nat.le_of_ble_eq_true rfl) rfl rfl rfl) ?_
        refine ox_y rfl (y_assign_int rfl) ?_
        refine ox_nil ?_
        refine ex_then ?_
        refine cx_seq ?_
        refine cx_seq ?_
        refine cx_region ?_
        refine ox_y rfl (y_move_int rfl) ?_
        refine ox_y rfl (y_neq rfl rfl) ?_
        refine ox_y rfl (y_move_bool rfl) ?_
        refine ox_join 3 (fun tm0 => (upd (upd (upd (upd (upd (upd (upd (upd (upd (upd (upd (upd (upd (upd (upd (upd (upd (upd (upd tm0 0 (.agg #[.int .i64 p0.fBarrows, .int .i64 p0.fSeen.x0, .int .i64 p0.fSeen.x1, .int .i64 p0.fSeen.x2, .int .i64 p0.fKnown.x0.fLo, .int .i64 p0.fKnown.x0.fHi, .int .i64 p0.fKnown.x1.fLo, .int .i64 p0.fKnown.x1.fHi, .int .i64 p0.fKnown.x2.fLo, .int .i64 p0.fKnown.x2.fHi])) 1 (.pointer (some ⟨b1, 0, none⟩))) 2 (.bool s8.1)) 3 (.bool y2)) 22 (.bool (y4 != 0))) 4 (.int .i64 (w64 ((w64 ((w64 (p0.fBarrows - p0.fSeen.x0)) - p0.fSeen.x1)) - p0.fSeen.x2)))) 5 (.int .i64 s8.2.1)) 6 (.int .i64 s8.2.2.1)) 7 (.int .i64 s8.2.2.2)) 39 (.bool (decide (s8.2.2.2 < 3)))) 8 (.pointer (some ⟨b13, 0, none⟩))) 9 (.int .i64 y11.2)) 10 (.pointer (some ⟨b16, 0, none⟩))) 11 (.int .i64 y14.2)) 12 (.slice A19 y17.1.length c20)) 13 (.int .i64 y17.2)) 14 (.pointer (some ⟨b25, 0, none⟩))) 15 (.int .i64 y23.2)) 71 (.bool ((y11.2 != 0) || (y14.2 != 0))))) (fun tm0 => ?_) (fun key => ?_)
        · refine ox_y rfl (y_move_bool rfl) ?_
          refine ox_join 3 (fun tm0 => (upd (upd (upd (upd (upd (upd (upd (upd (upd (upd (upd (upd (upd (upd (upd (upd (upd (upd (upd tm0 0 (.agg #[.int .i64 p0.fBarrows, .int .i64 p0.fSeen.x0, .int .i64 p0.fSeen.x1, .int .i64 p0.fSeen.x2, .int .i64 p0.fKnown.x0.fLo, .int .i64 p0.fKnown.x0.fHi, .int .i64 p0.fKnown.x1.fLo, .int .i64 p0.fKnown.x1.fHi, .int .i64 p0.fKnown.x2.fLo, .int .i64 p0.fKnown.x2.fHi])) 1 (.pointer (some ⟨b1, 0, none⟩))) 2 (.bool s8.1)) 3 (.bool y2)) 22 (.bool (y4 != 0))) 4 (.int .i64 (w64 ((w64 ((w64 (p0.fBarrows - p0.fSeen.x0)) - p0.fSeen.x1)) - p0.fSeen.x2)))) 5 (.int .i64 s8.2.1)) 6 (.int .i64 s8.2.2.1)) 7 (.int .i64 s8.2.2.2)) 39 (.bool (decide (s8.2.2.2 < 3)))) 8 (.pointer (some ⟨b13, 0, none⟩))) 9 (.int .i64 y11.2)) 10 (.pointer (some ⟨b16, 0, none⟩))) 11 (.int .i64 y14.2)) 12 (.slice A19 y17.1.length c20)) 13 (.int .i64 y17.2)) 14 (.pointer (some ⟨b25, 0, none⟩))) 15 (.int .i64 y23.2)) 75 (.bool (((y11.2 != 0) || (y14.2 != 0)) || (y17.2 != 0))))) (fun tm0 => ?_) (fun key => ?_)
          · refine ox_y rfl (y_move_bool rfl) ?_
            refine ox_join 6 (fun tm0 => (upd (upd (upd (upd (upd (upd (upd (upd (upd (upd (upd (upd (upd (upd (upd (upd (upd (upd (upd tm0 0 (.agg #[.int .i64 p0.fBarrows, .int .i64 p0.fSeen.x0, .int .i64 p0.fSeen.x1, .int .i64 p0.fSeen.x2, .int .i64 p0.fKnown.x0.fLo, .int .i64 p0.fKnown.x0.fHi, .int .i64 p0.fKnown.x1.fLo, .int .i64 p0.fKnown.x1.fHi, .int .i64 p0.fKnown.x2.fLo, .int .i64 p0.fKnown.x2.fHi])) 1 (.pointer (some ⟨b1, 0, none⟩))) 2 (.bool s8.1)) 3 (.bool y2)) 22 (.bool (y4 != 0))) 4 (.int .i64 (w64 ((w64 ((w64 (p0.fBarrows - p0.fSeen.x0)) - p0.fSeen.x1)) - p0.fSeen.x2)))) 5 (.int .i64 s8.2.1)) 6 (.int .i64 s8.2.2.1)) 7 (.int .i64 s8.2.2.2)) 39 (.bool (decide (s8.2.2.2 < 3)))) 8 (.pointer (some ⟨b13, 0, none⟩))) 9 (.int .i64 y11.2)) 10 (.pointer (some ⟨b16, 0, none⟩))) 11 (.int .i64 y14.2)) 12 (.slice A19 y17.1.length c20)) 13 (.int .i64 y17.2)) 14 (.pointer (some ⟨b25, 0, none⟩))) 15 (.int .i64 y23.2)) 82 (.bool ((((y11.2 != 0) || (y14.2 != 0)) || (y17.2 != 0)) || (!((y23.2 == 5) == ((w64 ((w64 ((w64 (p0.fBarrows - p0.fSeen.x0)) - p0.fSeen.x1)) - p0.fSeen.x2)) == 0))))))) (fun tm0 => ?_) (fun key => ?_)
            · refine ox_y rfl (y_move_bool rfl) ?_
              refine ox_join 7 (fun tm0 => (upd (upd (upd (upd (upd (upd (upd (upd (upd (upd (upd (upd (upd (upd (upd (upd (upd (upd (upd tm0 0 (.agg #[.int .i64 p0.fBarrows, .int .i64 p0.fSeen.x0, .int .i64 p0.fSeen.x1, .int .i64 p0.fSeen.x2, .int .i64 p0.fKnown.x0.fLo, .int .i64 p0.fKnown.x0.fHi, .int .i64 p0.fKnown.x1.fLo, .int .i64 p0.fKnown.x1.fHi, .int .i64 p0.fKnown.x2.fLo, .int .i64 p0.fKnown.x2.fHi])) 1 (.pointer (some ⟨b1, 0, none⟩))) 2 (.bool s8.1)) 3 (.bool y2)) 22 (.bool (y4 != 0))) 4 (.int .i64 (w64 ((w64 ((w64 (p0.fBarrows - p0.fSeen.x0)) - p0.fSeen.x1)) - p0.fSeen.x2)))) 5 (.int .i64 s8.2.1)) 6 (.int .i64 s8.2.2.1)) 7 (.int .i64 s8.2.2.2)) 39 (.bool (decide (s8.2.2.2 < 3)))) 8 (.pointer (some ⟨b13, 0, none⟩))) 9 (.int .i64 y11.2)) 10 (.pointer (some ⟨b16, 0, none⟩))) 11 (.int .i64 y14.2)) 12 (.slice A19 y17.1.length c20)) 13 (.int .i64 y17.2)) 14 (.pointer (some ⟨b25, 0, none⟩))) 15 (.int .i64 y23.2)) 90 (.bool (((((y11.2 != 0) || (y14.2 != 0)) || (y17.2 != 0)) || (!((y23.2 == 5) == ((w64 ((w64 ((w64 (p0.fBarrows - p0.fSeen.x0)) - p0.fSeen.x1)) - p0.fSeen.x2)) == 0)))) || ((y23.2 != 0) && (y23.2 != 5)))))) (fun tm0 => ?_) (fun key => ?_)
              · refine ox_y rfl (y_move_bool rfl) ?_
                refine ox_join 4 (fun tm0 => (upd (upd (upd (upd (upd (upd (upd (upd (upd (upd (upd (upd (upd (upd (upd (upd (upd (upd (upd tm0 0 (.agg #[.int .i64 p0.fBarrows, .int .i64 p0.fSeen.x0, .int .i64 p0.fSeen.x1, .int .i64 p0.fSeen.x2, .int .i64 p0.fKnown.x0.fLo, .int .i64 p0.fKnown.x0.fHi, .int .i64 p0.fKnown.x1.fLo, .int .i64 p0.fKnown.x1.fHi, .int .i64 p0.fKnown.x2.fLo, .int .i64 p0.fKnown.x2.fHi])) 1 (.pointer (some ⟨b1, 0, none⟩))) 2 (.bool s8.1)) 3 (.bool y2)) 22 (.bool (y4 != 0))) 4 (.int .i64 (w64 ((w64 ((w64 (p0.fBarrows - p0.fSeen.x0)) - p0.fSeen.x1)) - p0.fSeen.x2)))) 5 (.int .i64 s8.2.1)) 6 (.int .i64 s8.2.2.1)) 7 (.int .i64 s8.2.2.2)) 39 (.bool (decide (s8.2.2.2 < 3)))) 8 (.pointer (some ⟨b13, 0, none⟩))) 9 (.int .i64 y11.2)) 10 (.pointer (some ⟨b16, 0, none⟩))) 11 (.int .i64 y14.2)) 12 (.slice A19 y17.1.length c20)) 13 (.int .i64 y17.2)) 14 (.pointer (some ⟨b25, 0, none⟩))) 15 (.int .i64 y23.2)) 95 (.bool ((((((y11.2 != 0) || (y14.2 != 0)) || (y17.2 != 0)) || (!((y23.2 == 5) == ((w64 ((w64 ((w64 (p0.fBarrows - p0.fSeen.x0)) - p0.fSeen.x1)) - p0.fSeen.x2)) == 0)))) || ((y23.2 != 0) && (y23.2 != 5))) || (decide (y11.1.fDen < 1)))))) (fun tm0 => ?_) (fun key => ?_)
                · refine ox_nil ?_
                  refine ex_then ?_
                  rcases ite_some h with ⟨hp31, h⟩ | ⟨hp31, h⟩
                  · refine cx_true (congrArg Value.bool hp31) ?_
                    refine cx_seq ?_
                    refine cx_region ?_
                    refine ox_y rfl (y_assign_bool rfl) ?_
                    refine ox_nil ?_
                    refine ex_then ?_
                    refine cx_ret ?_
                    refine ex_then_ret ?_
                    refine ex_block_ret ?_
                    refine ex_then_ret ?_
                    refine ex_take 1 ?_
                    obtain rfl := Option.some.inj h
                    exact ex_stop ⟨rfl, _, rfl, (keep (keep (keep (keep (keep (keep (keep (keep (keep rfl rfl) rfl) rfl) rfl) rfl) rfl) rfl) rfl) rfl)⟩
                  · refine cx_false (congrArg Value.bool hp31) ?_
                    refine cx_skip ?_
                    refine ex_then ?_
                    refine cx_seq ?_
                    refine cx_region ?_
                    refine ox_y rfl (y_assign_int rfl) ?_
                    refine ox_nil ?_
                    refine ex_then ?_
                    refine cx_seq ?_
                    refine cx_region ?_
                    refine ox_y rfl (y_assign_int rfl) ?_
                    refine ox_nil ?_
                    refine ex_then ?_
                    refine cx_seq ?_
                    refine cx_seq ?_
                    refine cx_region ?_
                    refine ox_y rfl (y_assign_int rfl) ?_
                    refine ox_nil ?_
                    refine ex_then ?_
                    refine cx_block ?_
                    obtain ⟨u34, hl38, h⟩ := bind_some h
                    refine cx_loop (fun (s : (Int × Int × Int)) L tm => ∃ (tm0 : Nat → Value), L = [cellsR b1 52 [.int .i64 p0.fBarrows, .int .i64 p0.fSeen.x0, .int .i64 p0.fSeen.x1, .int .i64 p0.fSeen.x2, .int .i64 p0.fKnown.x0.fLo, .int .i64 p0.fKnown.x0.fHi, .int .i64 p0.fKnown.x1.fLo, .int .i64 p0.fKnown.x1.fHi, .int .i64 p0.fKnown.x2.fLo, .int .i64 p0.fKnown.x2.fHi], cellsR b13 23 [.int .i64 y11.1.fNum, .int .i64 y11.1.fDen], cellsR b16 33 [.int .i64 y14.1.fLo, .int .i64 y14.1.fHi], rowR A19 c20 3 1 y17.1.length (encL cI y17.1), cellsR b25 23 [.int .i64 y23.1.fNum, .int .i64 y23.1.fDen]] ∧ tm = (upd (upd (upd (upd (upd (upd (upd (upd (upd (upd (upd (upd (upd (upd (upd (upd (upd (upd (upd (upd (upd (upd tm0 0 (.agg #[.int .i64 p0.fBarrows, .int .i64 p0.fSeen.x0, .int .i64 p0.fSeen.x1, .int .i64 p0.fSeen.x2, .int .i64 p0.fKnown.x0.fLo, .int .i64 p0.fKnown.x0.fHi, .int .i64 p0.fKnown.x1.fLo, .int .i64 p0.fKnown.x1.fHi, .int .i64 p0.fKnown.x2.fLo, .int .i64 p0.fKnown.x2.fHi])) 1 (.pointer (some ⟨b1, 0, none⟩))) 2 (.bool s8.1)) 3 (.bool y2)) 22 (.bool (y4 != 0))) 4 (.int .i64 (w64 ((w64 ((w64 (p0.fBarrows - p0.fSeen.x0)) - p0.fSeen.x1)) - p0.fSeen.x2)))) 5 (.int .i64 s8.2.1)) 6 (.int .i64 s8.2.2.1)) 7 (.int .i64 s8.2.2.2)) 39 (.bool (decide (s8.2.2.2 < 3)))) 8 (.pointer (some ⟨b13, 0, none⟩))) 9 (.int .i64 y11.2)) 10 (.pointer (some ⟨b16, 0, none⟩))) 11 (.int .i64 y14.2)) 12 (.slice A19 y17.1.length c20)) 13 (.int .i64 y17.2)) 14 (.pointer (some ⟨b25, 0, none⟩))) 15 (.int .i64 y23.2)) 95 (.bool ((((((y11.2 != 0) || (y14.2 != 0)) || (y17.2 != 0)) || (!((y23.2 == 5) == ((w64 ((w64 ((w64 (p0.fBarrows - p0.fSeen.x0)) - p0.fSeen.x1)) - p0.fSeen.x2)) == 0)))) || ((y23.2 != 0) && (y23.2 != 5))) || (decide (y11.1.fDen < 1))))) 16 (.int .i64 s.1)) 17 (.int .i64 s.2.1)) 18 (.int .i64 s.2.2))) (fun s e L tm => e = .exit 2 ∧ ∃ (tm0 : Nat → Value), L = [cellsR b1 52 [.int .i64 p0.fBarrows, .int .i64 p0.fSeen.x0, .int .i64 p0.fSeen.x1, .int .i64 p0.fSeen.x2, .int .i64 p0.fKnown.x0.fLo, .int .i64 p0.fKnown.x0.fHi, .int .i64 p0.fKnown.x1.fLo, .int .i64 p0.fKnown.x1.fHi, .int .i64 p0.fKnown.x2.fLo, .int .i64 p0.fKnown.x2.fHi], cellsR b13 23 [.int .i64 y11.1.fNum, .int .i64 y11.1.fDen], cellsR b16 33 [.int .i64 y14.1.fLo, .int .i64 y14.1.fHi], rowR A19 c20 3 1 y17.1.length (encL cI y17.1), cellsR b25 23 [.int .i64 y23.1.fNum, .int .i64 y23.1.fDen]] ∧ tm = (upd (upd (upd (upd (upd (upd (upd (upd (upd (upd (upd (upd (upd (upd (upd (upd (upd (upd (upd (upd (upd (upd tm0 0 (.agg #[.int .i64 p0.fBarrows, .int .i64 p0.fSeen.x0, .int .i64 p0.fSeen.x1, .int .i64 p0.fSeen.x2, .int .i64 p0.fKnown.x0.fLo, .int .i64 p0.fKnown.x0.fHi, .int .i64 p0.fKnown.x1.fLo, .int .i64 p0.fKnown.x1.fHi, .int .i64 p0.fKnown.x2.fLo, .int .i64 p0.fKnown.x2.fHi])) 1 (.pointer (some ⟨b1, 0, none⟩))) 2 (.bool s8.1)) 3 (.bool y2)) 22 (.bool (y4 != 0))) 4 (.int .i64 (w64 ((w64 ((w64 (p0.fBarrows - p0.fSeen.x0)) - p0.fSeen.x1)) - p0.fSeen.x2)))) 5 (.int .i64 s8.2.1)) 6 (.int .i64 s8.2.2.1)) 7 (.int .i64 s8.2.2.2)) 39 (.bool (decide (s8.2.2.2 < 3)))) 8 (.pointer (some ⟨b13, 0, none⟩))) 9 (.int .i64 y11.2)) 10 (.pointer (some ⟨b16, 0, none⟩))) 11 (.int .i64 y14.2)) 12 (.slice A19 y17.1.length c20)) 13 (.int .i64 y17.2)) 14 (.pointer (some ⟨b25, 0, none⟩))) 15 (.int .i64 y23.2)) 95 (.bool ((((((y11.2 != 0) || (y14.2 != 0)) || (y17.2 != 0)) || (!((y23.2 == 5) == ((w64 ((w64 ((w64 (p0.fBarrows - p0.fSeen.x0)) - p0.fSeen.x1)) - p0.fSeen.x2)) == 0)))) || ((y23.2 != 0) && (y23.2 != 5))) || (decide (y11.1.fDen < 1))))) 16 (.int .i64 s.1)) 17 (.int .i64 s.2.1)) 18 (.int .i64 s.2.2))) hl38 ⟨_, rfl, (keep (keep (keep (keep (keep (keep (keep (keep (keep (keep (keep (keep (keep (keep (keep (keep (keep (keep (keep (keep (keep (keep rfl rfl) rfl) rfl) rfl) rfl) rfl) rfl) rfl) rfl) rfl) rfl) rfl) rfl) rfl) rfl) rfl) rfl) rfl) rfl) rfl) rfl) rfl)⟩ ?_ ?_
                    · rintro s33 L tm st ⟨tm0_s33, rfl, rfl⟩ h
                      unfold calxlaw03_SampleMeans_l2 at h
                      refine cx_seq ?_
                      refine cx_seq ?_
                      refine cx_region ?_
                      refine ox_y rfl (y_move_int rfl) ?_
                      refine ox_y rfl (y_move_slice rfl) ?_
                      refine ox_y rfl (y_len (us := []) us_66 rfl) ?_
                      refine ox_y rfl (y_lss rfl rfl) ?_
                      refine ox_nil ?_
                      refine ex_then ?_
                      rcases ite_some h with ⟨hp35, h⟩ | ⟨hp35, h⟩
                      · refine cx_true (congrArg Value.bool hp35) ?_
                        refine cx_skip ?_
                        refine ex_then ?_
                        refine cx_seq ?_
                        refine cx_block ?_
                        refine cx_seq ?_
                        refine cx_region ?_
                        refine ox_y rfl (y_move_int rfl) ?_
                        refine ox_y rfl (y_move_int rfl) ?_
                        refine ox_y rfl (y_move_slice rfl) ?_
                        refine ox_y rfl (y_move_int rfl) ?_
                        obtain ⟨hg36, h⟩ := guardO_some h
                        refine ox_y rfl (y_indexR sl_66 (by decide) hg36.1 hg36.2 (RdL.row 3 rfl) (encL_len cI_len rfl) rfl rfl) ?_
                        refine ox_y rfl (y_loadR1 (A := A19) (j := (Int.toNat s33.2.2 * 1)) (v := .int .i64 (rdL y17.1 s33.2.2)) sc_3 (RdL.row 3 rfl) rfl (encL_get0 cI_len hg36.1 (lt_nat hg36.2 rfl) rfl)) ?_
                        refine ox_y rfl (y_mul rfl rfl) ?_
                        refine ox_y rfl (y_add rfl rfl) ?_
                        refine ox_y rfl (y_assign_int rfl) ?_
                        refine ox_nil ?_
                        refine ex_then ?_
                        refine cx_region ?_
                        refine ox_y rfl (y_move_int rfl) ?_
                        refine ox_y rfl (y_move_slice rfl) ?_
                        refine ox_y rfl (y_move_int rfl) ?_
                        obtain ⟨hg37, h⟩ := guardO_some h
                        refine ox_y rfl (y_indexR sl_66 (by decide) hg37.1 hg37.2 (RdL.row 3 rfl) (encL_len cI_len rfl) rfl rfl) ?_
                        refine ox_y rfl (y_loadR1 (A := A19) (j := (Int.toNat s33.2.2 * 1)) (v := .int .i64 (rdL y17.1 s33.2.2)) sc_3 (RdL.row 3 rfl) rfl (encL_get0 cI_len hg37.1 (lt_nat hg37.2 rfl) rfl)) ?_
                        refine ox_y rfl (y_add rfl rfl) ?_
                        refine ox_y rfl (y_assign_int rfl) ?_
                        refine ox_nil ?_
                        refine ex_block ?_
                        refine ex_then ?_
                        refine cx_region ?_
                        refine ox_y rfl (y_move_int rfl) ?_
                        refine ox_y rfl (y_add rfl rfl) ?_
                        refine ox_y rfl (y_assign_int rfl) ?_
                        refine ox_nil ?_
                        obtain rfl := Option.some.inj h
                        exact ex_next ⟨_, rfl, (keep (keep (keep (keep (keep (keep (keep (keep (keep (keep (keep (keep (keep (keep (keep (keep (keep (keep (keep (keep (keep (keep rfl rfl) rfl) rfl) rfl) rfl) rfl) rfl) rfl) rfl) rfl) rfl) rfl) rfl) rfl) rfl) rfl) rfl) rfl) rfl) rfl) rfl) rfl)⟩
                      · refine cx_false (congrArg Value.bool hp35) ?_
                        refine cx_exit ?_
                        refine ex_then_exit ?_
                        obtain rfl := Option.some.inj h
                        exact ex_stop ⟨rfl, _, rfl, (keep (keep (keep (keep (keep (keep (keep (keep (keep (keep (keep (keep (keep (keep (keep (keep (keep (keep (keep (keep (keep (keep rfl rfl) rfl) rfl) rfl) rfl) rfl) rfl) rfl) rfl) rfl) rfl) rfl) rfl) rfl) rfl) rfl) rfl) rfl) rfl) rfl) rfl) rfl)⟩
                    · intro e L tm hJ
                      obtain ⟨rfl, tm0_u34, rfl, rfl⟩ := hJ
                      refine ⟨(by intro hc; cases hc), ?_⟩
                      refine ex_block_here ?_
                      refine ex_then ?_
                      refine cx_seq ?_
                      refine cx_seq ?_
                      refine cx_draws 45 mixed (by kernel_rfl) (by kernel_rfl) ?_
                      refine qx_y rfl (y_move_int rfl) ?_
                      refine qx_y rfl (y_gtr rfl rfl) ?_
                      refine qx_y rfl (y_move_bool rfl) ?_
                      refine qx_join 4 (fun tm0 => (upd (upd (upd (upd (upd (upd (upd (upd (upd (upd (upd (upd (upd (upd (upd (upd (upd (upd (upd (upd (upd (upd (upd tm0 0 (.agg #[.int .i64 p0.fBarrows, .int .i64 p0.fSeen.x0, .int .i64 p0.fSeen.x1, .int .i64 p0.fSeen.x2, .int .i64 p0.fKnown.x0.fLo, .int .i64 p0.fKnown.x0.fHi, .int .i64 p0.fKnown.x1.fLo, .int .i64 p0.fKnown.x1.fHi, .int .i64 p0.fKnown.x2.fLo, .int .i64 p0.fKnown.x2.fHi])) 1 (.pointer (some ⟨b1, 0, none⟩))) 2 (.bool s8.1)) 3 (.bool y2)) 22 (.bool (y4 != 0))) 4 (.int .i64 (w64 ((w64 ((w64 (p0.fBarrows - p0.fSeen.x0)) - p0.fSeen.x1)) - p0.fSeen.x2)))) 5 (.int .i64 s8.2.1)) 6 (.int .i64 s8.2.2.1)) 7 (.int .i64 s8.2.2.2)) 39 (.bool (decide (s8.2.2.2 < 3)))) 8 (.pointer (some ⟨b13, 0, none⟩))) 9 (.int .i64 y11.2)) 10 (.pointer (some ⟨b16, 0, none⟩))) 11 (.int .i64 y14.2)) 12 (.slice A19 y17.1.length c20)) 13 (.int .i64 y17.2)) 14 (.pointer (some ⟨b25, 0, none⟩))) 15 (.int .i64 y23.2)) 95 (.bool ((((((y11.2 != 0) || (y14.2 != 0)) || (y17.2 != 0)) || (!((y23.2 == 5) == ((w64 ((w64 ((w64 (p0.fBarrows - p0.fSeen.x0)) - p0.fSeen.x1)) - p0.fSeen.x2)) == 0)))) || ((y23.2 != 0) && (y23.2 != 5))) || (decide (y11.1.fDen < 1))))) 16 (.int .i64 u34.1)) 17 (.int .i64 u34.2.1)) 18 (.int .i64 u34.2.2)) 122 (.bool ((decide (0 < s8.2.2.2)) && (u34.2.1 != s8.2.1))))) (fun tm0 => ?_) (fun key => ?_)
                      · refine qx_y rfl (y_move_bool rfl) ?_
                        refine qx_join 3 (fun tm0 => (upd (upd (upd (upd (upd (upd (upd (upd (upd (upd (upd (upd (upd (upd (upd (upd (upd (upd (upd (upd (upd (upd (upd tm0 0 (.agg #[.int .i64 p0.fBarrows, .int .i64 p0.fSeen.x0, .int .i64 p0.fSeen.x1, .int .i64 p0.fSeen.x2, .int .i64 p0.fKnown.x0.fLo, .int .i64 p0.fKnown.x0.fHi, .int .i64 p0.fKnown.x1.fLo, .int .i64 p0.fKnown.x1.fHi, .int .i64 p0.fKnown.x2.fLo, .int .i64 p0.fKnown.x2.fHi])) 1 (.pointer (some ⟨b1, 0, none⟩))) 2 (.bool s8.1)) 3 (.bool y2)) 22 (.bool (y4 != 0))) 4 (.int .i64 (w64 ((w64 ((w64 (p0.fBarrows - p0.fSeen.x0)) - p0.fSeen.x1)) - p0.fSeen.x2)))) 5 (.int .i64 s8.2.1)) 6 (.int .i64 s8.2.2.1)) 7 (.int .i64 s8.2.2.2)) 39 (.bool (decide (s8.2.2.2 < 3)))) 8 (.pointer (some ⟨b13, 0, none⟩))) 9 (.int .i64 y11.2)) 10 (.pointer (some ⟨b16, 0, none⟩))) 11 (.int .i64 y14.2)) 12 (.slice A19 y17.1.length c20)) 13 (.int .i64 y17.2)) 14 (.pointer (some ⟨b25, 0, none⟩))) 15 (.int .i64 y23.2)) 95 (.bool ((((((y11.2 != 0) || (y14.2 != 0)) || (y17.2 != 0)) || (!((y23.2 == 5) == ((w64 ((w64 ((w64 (p0.fBarrows - p0.fSeen.x0)) - p0.fSeen.x1)) - p0.fSeen.x2)) == 0)))) || ((y23.2 != 0) && (y23.2 != 5))) || (decide (y11.1.fDen < 1))))) 16 (.int .i64 u34.1)) 17 (.int .i64 u34.2.1)) 18 (.int .i64 u34.2.2)) 126 (.bool (((decide (0 < s8.2.2.2)) && (u34.2.1 != s8.2.1)) || (decide (u34.2.1 < 1)))))) (fun tm0 => ?_) (fun key => ?_)
                        · refine qx_y rfl (y_move_bool rfl) ?_
                          refine qx_join 7 (fun tm0 => (upd (upd (upd (upd (upd (upd (upd (upd (upd (upd (upd (upd (upd (upd (upd (upd (upd (upd (upd (upd (upd (upd (upd tm0 0 (.agg #[.int .i64 p0.fBarrows, .int .i64 p0.fSeen.x0, .int .i64 p0.fSeen.x1, .int .i64 p0.fSeen.x2, .int .i64 p0.fKnown.x0.fLo, .int .i64 p0.fKnown.x0.fHi, .int .i64 p0.fKnown.x1.fLo, .int .i64 p0.fKnown.x1.fHi, .int .i64 p0.fKnown.x2.fLo, .int .i64 p0.fKnown.x2.fHi])) 1 (.pointer (some ⟨b1, 0, none⟩))) 2 (.bool s8.1)) 3 (.bool y2)) 22 (.bool (y4 != 0))) 4 (.int .i64 (w64 ((w64 ((w64 (p0.fBarrows - p0.fSeen.x0)) - p0.fSeen.x1)) - p0.fSeen.x2)))) 5 (.int .i64 s8.2.1)) 6 (.int .i64 s8.2.2.1)) 7 (.int .i64 s8.2.2.2)) 39 (.bool (decide (s8.2.2.2 < 3)))) 8 (.pointer (some ⟨b13, 0, none⟩))) 9 (.int .i64 y11.2)) 10 (.pointer (some ⟨b16, 0, none⟩))) 11 (.int .i64 y14.2)) 12 (.slice A19 y17.1.length c20)) 13 (.int .i64 y17.2)) 14 (.pointer (some ⟨b25, 0, none⟩))) 15 (.int .i64 y23.2)) 95 (.bool ((((((y11.2 != 0) || (y14.2 != 0)) || (y17.2 != 0)) || (!((y23.2 == 5) == ((w64 ((w64 ((w64 (p0.fBarrows - p0.fSeen.x0)) - p0.fSeen.x1)) - p0.fSeen.x2)) == 0)))) || ((y23.2 != 0) && (y23.2 != 5))) || (decide (y11.1.fDen < 1))))) 16 (.int .i64 u34.1)) 17 (.int .i64 u34.2.1)) 18 (.int .i64 u34.2.2)) 134 (.bool ((((decide (0 < s8.2.2.2)) && (u34.2.1 != s8.2.1)) || (decide (u34.2.1 < 1))) || (decide (u34.1 < w64 (y14.1.fLo * u34.2.1))))))) (fun tm0 => ?_) (fun key => ?_)
                          · refine qx_y rfl (y_move_bool rfl) ?_
                            refine qx_join 7 (fun tm0 => (upd (upd (upd (upd (upd (upd (upd (upd (upd (upd (upd (upd (upd (upd (upd (upd (upd (upd (upd (upd (upd (upd (upd tm0 0 (.agg #[.int .i64 p0.fBarrows, .int .i64 p0.fSeen.x0, .int .i64 p0.fSeen.x1, .int .i64 p0.fSeen.x2, .int .i64 p0.fKnown.x0.fLo, .int .i64 p0.fKnown.x0.fHi, .int .i64 p0.fKnown.x1.fLo, .int .i64 p0.fKnown.x1.fHi, .int .i64 p0.fKnown.x2.fLo, .int .i64 p0.fKnown.x2.fHi])) 1 (.pointer (some ⟨b1, 0, none⟩))) 2 (.bool s8.1)) 3 (.bool y2)) 22 (.bool (y4 != 0))) 4 (.int .i64 (w64 ((w64 ((w64 (p0.fBarrows - p0.fSeen.x0)) - p0.fSeen.x1)) - p0.fSeen.x2)))) 5 (.int .i64 s8.2.1)) 6 (.int .i64 s8.2.2.1)) 7 (.int .i64 s8.2.2.2)) 39 (.bool (decide (s8.2.2.2 < 3)))) 8 (.pointer (some ⟨b13, 0, none⟩))) 9 (.int .i64 y11.2)) 10 (.pointer (some ⟨b16, 0, none⟩))) 11 (.int .i64 y14.2)) 12 (.slice A19 y17.1.length c20)) 13 (.int .i64 y17.2)) 14 (.pointer (some ⟨b25, 0, none⟩))) 15 (.int .i64 y23.2)) 95 (.bool ((((((y11.2 != 0) || (y14.2 != 0)) || (y17.2 != 0)) || (!((y23.2 == 5) == ((w64 ((w64 ((w64 (p0.fBarrows - p0.fSeen.x0)) - p0.fSeen.x1)) - p0.fSeen.x2)) == 0)))) || ((y23.2 != 0) && (y23.2 != 5))) || (decide (y11.1.fDen < 1))))) 16 (.int .i64 u34.1)) 17 (.int .i64 u34.2.1)) 18 (.int .i64 u34.2.2)) 142 (.bool (((((decide (0 < s8.2.2.2)) && (u34.2.1 != s8.2.1)) || (decide (u34.2.1 < 1))) || (decide (u34.1 < w64 (y14.1.fLo * u34.2.1)))) || (decide (w64 (y14.1.fHi * u34.2.1) < u34.1)))))) (fun tm0 => ?_) (fun key => ?_)
                            · refine qx_y rfl (y_move_bool rfl) ?_
                              obtain ⟨b44, hb45, h⟩ := bind_some h
                              refine qx_join 6 (fun tm0 => (upd (upd (upd (upd (upd (upd (upd (upd (upd (upd (upd (upd (upd (upd (upd (upd (upd (upd (upd (upd (upd (upd (upd tm0 0 (.agg #[.int .i64 p0.fBarrows, .int .i64 p0.fSeen.x0, .int .i64 p0.fSeen.x1, .int .i64 p0.fSeen.x2, .int .i64 p0.fKnown.x0.fLo, .int .i64 p0.fKnown.x0.fHi, .int .i64 p0.fKnown.x1.fLo, .int .i64 p0.fKnown.x1.fHi, .int .i64 p0.fKnown.x2.fLo, .int .i64 p0.fKnown.x2.fHi])) 1 (.pointer (some ⟨b1, 0, none⟩))) 2 (.bool s8.1)) 3 (.bool y2)) 22 (.bool (y4 != 0))) 4 (.int .i64 (w64 ((w64 ((w64 (p0.fBarrows - p0.fSeen.x0)) - p0.fSeen.x1)) - p0.fSeen.x2)))) 5 (.int .i64 s8.2.1)) 6 (.int .i64 s8.2.2.1)) 7 (.int .i64 s8.2.2.2)) 39 (.bool (decide (s8.2.2.2 < 3)))) 8 (.pointer (some ⟨b13, 0, none⟩))) 9 (.int .i64 y11.2)) 10 (.pointer (some ⟨b16, 0, none⟩))) 11 (.int .i64 y14.2)) 12 (.slice A19 y17.1.length c20)) 13 (.int .i64 y17.2)) 14 (.pointer (some ⟨b25, 0, none⟩))) 15 (.int .i64 y23.2)) 95 (.bool ((((((y11.2 != 0) || (y14.2 != 0)) || (y17.2 != 0)) || (!((y23.2 == 5) == ((w64 ((w64 ((w64 (p0.fBarrows - p0.fSeen.x0)) - p0.fSeen.x1)) - p0.fSeen.x2)) == 0)))) || ((y23.2 != 0) && (y23.2 != 5))) || (decide (y11.1.fDen < 1))))) 16 (.int .i64 u34.1)) 17 (.int .i64 u34.2.1)) 18 (.int .i64 u34.2.2)) 149 (.bool b44))) (fun tm0 => ?_) (fun key => ?_)
                              · refine qx_y rfl (y_move_bool rfl) ?_
                                obtain ⟨b47, hb48, h⟩ := bind_some h
                                refine qx_join 10 (fun tm0 => (upd (upd (upd (upd (upd (upd (upd (upd (upd (upd (upd (upd (upd (upd (upd (upd (upd (upd (upd (upd (upd (upd (upd tm0 0 (.agg #[.int .i64 p0.fBarrows, .int .i64 p0.fSeen.x0, .int .i64 p0.fSeen.x1, .int .i64 p0.fSeen.x2, .int .i64 p0.fKnown.x0.fLo, .int .i64 p0.fKnown.x0.fHi, .int .i64 p0.fKnown.x1.fLo, .int .i64 p0.fKnown.x1.fHi, .int .i64 p0.fKnown.x2.fLo, .int .i64 p0.fKnown.x2.fHi])) 1 (.pointer (some ⟨b1, 0, none⟩))) 2 (.bool s8.1)) 3 (.bool y2)) 22 (.bool (y4 != 0))) 4 (.int .i64 (w64 ((w64 ((w64 (p0.fBarrows - p0.fSeen.x0)) - p0.fSeen.x1)) - p0.fSeen.x2)))) 5 (.int .i64 s8.2.1)) 6 (.int .i64 s8.2.2.1)) 7 (.int .i64 s8.2.2.2)) 39 (.bool (decide (s8.2.2.2 < 3)))) 8 (.pointer (some ⟨b13, 0, none⟩))) 9 (.int .i64 y11.2)) 10 (.pointer (some ⟨b16, 0, none⟩))) 11 (.int .i64 y14.2)) 12 (.slice A19 y17.1.length c20)) 13 (.int .i64 y17.2)) 14 (.pointer (some ⟨b25, 0, none⟩))) 15 (.int .i64 y23.2)) 95 (.bool ((((((y11.2 != 0) || (y14.2 != 0)) || (y17.2 != 0)) || (!((y23.2 == 5) == ((w64 ((w64 ((w64 (p0.fBarrows - p0.fSeen.x0)) - p0.fSeen.x1)) - p0.fSeen.x2)) == 0)))) || ((y23.2 != 0) && (y23.2 != 5))) || (decide (y11.1.fDen < 1))))) 16 (.int .i64 u34.1)) 17 (.int .i64 u34.2.1)) 18 (.int .i64 u34.2.2)) 160 (.bool b47))) (fun tm0 => ?_) (fun key => ?_)
                                · refine qx_nil ?_
                                  refine ox_nil ?_
                                  refine ex_then ?_
                                  rcases ite_some h with ⟨hp49, h⟩ | ⟨hp49, h⟩
                                  · refine cx_true (congrArg Value.bool hp49) ?_
                                    refine cx_seq ?_
                                    refine cx_region ?_
                                    refine ox_y rfl (y_assign_bool rfl) ?_
                                    refine ox_nil ?_
                                    refine ex_then ?_
                                    refine cx_ret ?_
                                    refine ex_then_ret ?_
                                    refine ex_block_ret ?_
                                    refine ex_then_ret ?_
                                    refine ex_take 1 ?_
                                    obtain rfl := Option.some.inj h
                                    exact ex_stop ⟨rfl, _, rfl, (keep (keep (keep (keep (keep (keep (keep (keep (keep rfl rfl) rfl) rfl) rfl) rfl) rfl) rfl) rfl) rfl)⟩
                                  · refine cx_false (congrArg Value.bool hp49) ?_
                                    refine cx_skip ?_
                                    refine ex_then ?_
                                    refine cx_seq ?_
                                    refine cx_seq ?_
                                    refine cx_draws 36 mixed (by kernel_rfl) (by kernel_rfl) ?_
                                    refine qx_y rfl (y_move_int rfl) ?_
                                    refine qx_y rfl (y_eql rfl rfl) ?_
                                    refine qx_y rfl (y_move_bool rfl) ?_
                                    obtain ⟨b51, hb52, h⟩ := bind_some h
                                    refine qx_join 33 (fun tm0 => (upd (upd (upd (upd (upd (upd (upd (upd (upd (upd (upd (upd (upd (upd (upd (upd (upd (upd (upd (upd (upd (upd (upd (upd tm0 0 (.agg #[.int .i64 p0.fBarrows, .int .i64 p0.fSeen.x0, .int .i64 p0.fSeen.x1, .int .i64 p0.fSeen.x2, .int .i64 p0.fKnown.x0.fLo, .int .i64 p0.fKnown.x0.fHi, .int .i64 p0.fKnown.x1.fLo, .int .i64 p0.fKnown.x1.fHi, .int .i64 p0.fKnown.x2.fLo, .int .i64 p0.fKnown.x2.fHi])) 1 (.pointer (some ⟨b1, 0, none⟩))) 2 (.bool s8.1)) 3 (.bool y2)) 22 (.bool (y4 != 0))) 4 (.int .i64 (w64 ((w64 ((w64 (p0.fBarrows - p0.fSeen.x0)) - p0.fSeen.x1)) - p0.fSeen.x2)))) 5 (.int .i64 s8.2.1)) 6 (.int .i64 s8.2.2.1)) 7 (.int .i64 s8.2.2.2)) 39 (.bool (decide (s8.2.2.2 < 3)))) 8 (.pointer (some ⟨b13, 0, none⟩))) 9 (.int .i64 y11.2)) 10 (.pointer (some ⟨b16, 0, none⟩))) 11 (.int .i64 y14.2)) 12 (.slice A19 y17.1.length c20)) 13 (.int .i64 y17.2)) 14 (.pointer (some ⟨b25, 0, none⟩))) 15 (.int .i64 y23.2)) 95 (.bool ((((((y11.2 != 0) || (y14.2 != 0)) || (y17.2 != 0)) || (!((y23.2 == 5) == ((w64 ((w64 ((w64 (p0.fBarrows - p0.fSeen.x0)) - p0.fSeen.x1)) - p0.fSeen.x2)) == 0)))) || ((y23.2 != 0) && (y23.2 != 5))) || (decide (y11.1.fDen < 1))))) 16 (.int .i64 u34.1)) 17 (.int .i64 u34.2.1)) 18 (.int .i64 u34.2.2)) 160 (.bool b47)) 196 (.bool b51))) (fun tm0 => ?_) (fun key => ?_)
                                    · refine qx_nil ?_
                                      refine ox_nil ?_
                                      refine ex_then ?_
                                      rcases ite_some h with ⟨hp53, h⟩ | ⟨hp53, h⟩
                                      · refine cx_true (congrArg Value.bool hp53) ?_
                                        refine cx_seq ?_
                                        refine cx_region ?_
                                        refine ox_y rfl (y_assign_bool rfl) ?_
                                        refine ox_nil ?_
                                        refine ex_then ?_
                                        refine cx_ret ?_
                                        refine ex_then_ret ?_
                                        refine ex_block_ret ?_
                                        refine ex_then_ret ?_
                                        refine ex_take 1 ?_
                                        obtain rfl := Option.some.inj h
                                        exact ex_stop ⟨rfl, _, rfl, (keep (keep (keep (keep (keep (keep (keep (keep (keep rfl rfl) rfl) rfl) rfl) rfl) rfl) rfl) rfl) rfl)⟩
                                      · refine cx_false (congrArg Value.bool hp53) ?_
                                        refine cx_skip ?_
                                        refine ex_then ?_
                                        refine cx_seq ?_
                                        refine cx_region ?_
                                        refine ox_y rfl (y_move_int rfl) ?_
                                        refine ox_y rfl (y_assign_int rfl) ?_
                                        refine ox_nil ?_
                                        refine ex_then ?_
                                        refine cx_region ?_
                                        refine ox_y rfl (y_move_int rfl) ?_
                                        refine ox_y rfl (y_move_int rfl) ?_
                                        refine ox_y rfl (y_add rfl rfl) ?_
                                        refine ox_y rfl (y_assign_int rfl) ?_
                                        refine ox_nil ?_
                                        refine ex_block ?_
                                        refine ex_then ?_
                                        refine cx_region ?_
                                        refine ox_y rfl (y_move_int rfl) ?_
                                        refine ox_y rfl (y_add rfl rfl) ?_
                                        refine ox_y rfl (y_assign_int rfl) ?_
                                        refine ox_nil ?_
                                        refine ex_take 1 ?_
                                        obtain rfl := Option.some.inj h
                                        exact ex_next ⟨_, rfl, (keep (keep (keep (keep (keep (keep (keep (keep (keep rfl rfl) rfl) rfl) rfl) rfl) rfl) rfl) rfl) rfl)⟩
                                    · clear h; rcases ite_some hb52 with ⟨hp50, h⟩ | ⟨hp50, h⟩
                                      · refine qx_y (sees_t rfl rfl rfl rfl hp50) (y_fieldAddr fo_23_1 rfl) ?_
                                        refine qx_y (sees_t rfl rfl rfl rfl hp50) (y_load1 4 (v := .int .i64 y23.1.fDen) sc_3 rfl rfl rfl) ?_
                                        refine qx_y (sees_t rfl rfl rfl rfl hp50) (y_lss rfl rfl) ?_
                                        refine qx_y (sees_t rfl rfl rfl rfl hp50) (y_move_bool rfl) ?_
                                        obtain ⟨b55, hb56, h⟩ := bind_some h
                                        refine qx_join 8 (fun tm0 => (upd (upd (upd (upd (upd (upd (upd (upd (upd (upd (upd (upd (upd (upd (upd (upd (upd (upd (upd (upd (upd (upd (upd (upd (upd tm0 0 (.agg #[.int .i64 p0.fBarrows, .int .i64 p0.fSeen.x0, .int .i64 p0.fSeen.x1, .int .i64 p0.fSeen.x2, .int .i64 p0.fKnown.x0.fLo, .int .i64 p0.fKnown.x0.fHi, .int .i64 p0.fKnown.x1.fLo, .int .i64 p0.fKnown.x1.fHi, .int .i64 p0.fKnown.x2.fLo, .int .i64 p0.fKnown.x2.fHi])) 1 (.pointer (some ⟨b1, 0, none⟩))) 2 (.bool s8.1)) 3 (.bool y2)) 22 (.bool (y4 != 0))) 4 (.int .i64 (w64 ((w64 ((w64 (p0.fBarrows - p0.fSeen.x0)) - p0.fSeen.x1)) - p0.fSeen.x2)))) 5 (.int .i64 s8.2.1)) 6 (.int .i64 s8.2.2.1)) 7 (.int .i64 s8.2.2.2)) 39 (.bool (decide (s8.2.2.2 < 3)))) 8 (.pointer (some ⟨b13, 0, none⟩))) 9 (.int .i64 y11.2)) 10 (.pointer (some ⟨b16, 0, none⟩))) 11 (.int .i64 y14.2)) 12 (.slice A19 y17.1.length c20)) 13 (.int .i64 y17.2)) 14 (.pointer (some ⟨b25, 0, none⟩))) 15 (.int .i64 y23.2)) 95 (.bool ((((((y11.2 != 0) || (y14.2 != 0)) || (y17.2 != 0)) || (!((y23.2 == 5) == ((w64 ((w64 ((w64 (p0.fBarrows - p0.fSeen.x0)) - p0.fSeen.x1)) - p0.fSeen.x2)) == 0)))) || ((y23.2 != 0) && (y23.2 != 5))) || (decide (y11.1.fDen < 1))))) 16 (.int .i64 u34.1)) 17 (.int .i64 u34.2.1)) 18 (.int .i64 u34.2.2)) 160 (.bool b47)) 163 (.bool (y23.2 == 0))) 175 (.bool b55))) (fun tm0 => ?_) (fun key => ?_)
                                        · refine qx_y (sees_t rfl rfl rfl rfl hp50) (y_move_bool rfl) ?_
                                          obtain ⟨b58, hb59, h⟩ := bind_some h
                                          refine qx_join 19 (fun tm0 => (upd (upd (upd (upd (upd (upd (upd (upd (upd (upd (upd (upd (upd (upd (upd (upd (upd (upd (upd (upd (upd (upd (upd (upd (upd tm0 0 (.agg #[.int .i64 p0.fBarrows, .int .i64 p0.fSeen.x0, .int .i64 p0.fSeen.x1, .int .i64 p0.fSeen.x2, .int .i64 p0.fKnown.x0.fLo, .int .i64 p0.fKnown.x0.fHi, .int .i64 p0.fKnown.x1.fLo, .int .i64 p0.fKnown.x1.fHi, .int .i64 p0.fKnown.x2.fLo, .int .i64 p0.fKnown.x2.fHi])) 1 (.pointer (some ⟨b1, 0, none⟩))) 2 (.bool s8.1)) 3 (.bool y2)) 22 (.bool (y4 != 0))) 4 (.int .i64 (w64 ((w64 ((w64 (p0.fBarrows - p0.fSeen.x0)) - p0.fSeen.x1)) - p0.fSeen.x2)))) 5 (.int .i64 s8.2.1)) 6 (.int .i64 s8.2.2.1)) 7 (.int .i64 s8.2.2.2)) 39 (.bool (decide (s8.2.2.2 < 3)))) 8 (.pointer (some ⟨b13, 0, none⟩))) 9 (.int .i64 y11.2)) 10 (.pointer (some ⟨b16, 0, none⟩))) 11 (.int .i64 y14.2)) 12 (.slice A19 y17.1.length c20)) 13 (.int .i64 y17.2)) 14 (.pointer (some ⟨b25, 0, none⟩))) 15 (.int .i64 y23.2)) 95 (.bool ((((((y11.2 != 0) || (y14.2 != 0)) || (y17.2 != 0)) || (!((y23.2 == 5) == ((w64 ((w64 ((w64 (p0.fBarrows - p0.fSeen.x0)) - p0.fSeen.x1)) - p0.fSeen.x2)) == 0)))) || ((y23.2 != 0) && (y23.2 != 5))) || (decide (y11.1.fDen < 1))))) 16 (.int .i64 u34.1)) 17 (.int .i64 u34.2.1)) 18 (.int .i64 u34.2.2)) 160 (.bool b47)) 163 (.bool (y23.2 == 0))) 195 (.bool b58))) (fun tm0 => ?_) (fun key => ?_)
                                          · refine qx_y rfl (y_pick_tb (congrArg Value.bool hp50) rfl) ?_
                                            obtain rfl := Option.some.inj h
                                            exact key _ _ (keep (keep (keep (keep (keep (keep (keep (keep (keep (keep (keep (keep (keep (keep (keep (keep (keep (keep (keep (keep (keep (keep (keep (keep rfl rfl) rfl) rfl) rfl) rfl) rfl) rfl) rfl) rfl) rfl) rfl) rfl) rfl) rfl) rfl) rfl) rfl) rfl) rfl) rfl) rfl) rfl) rfl) rfl)
                                          · clear h; rcases ite_some hb59 with ⟨hp57, h⟩ | ⟨hp57, h⟩
                                            · refine qx_skip (sees_f rfl rfl rfl rfl hp57) ?_
                                              refine qx_skip (sees_f rfl rfl rfl rfl hp57) ?_
                                              refine qx_skip (sees_f rfl rfl rfl rfl hp57) ?_
                                              refine qx_skip (sees_f rfl rfl rfl rfl hp57) ?_
                                              refine qx_skip (sees_f rfl rfl rfl rfl hp57) ?_
                                              refine qx_skip (sees_f rfl rfl rfl rfl hp57) ?_
                                              refine qx_skip (sees_f rfl rfl rfl rfl hp57) ?_
                                              refine qx_skip (sees_f rfl rfl rfl rfl hp57) ?_
                                              refine qx_skip (sees_f rfl rfl rfl rfl hp57) ?_
                                              refine qx_skip (sees_f rfl rfl rfl rfl hp57) ?_
                                              refine qx_skip (sees_f rfl rfl rfl rfl hp57) ?_
                                              refine qx_skip (sees_f rfl rfl rfl rfl hp57) ?_
                                              refine qx_skip (sees_f rfl rfl rfl rfl hp57) ?_
                                              refine qx_skip (sees_f rfl rfl rfl rfl hp57) ?_
                                              refine qx_skip (sees_f rfl rfl rfl rfl hp57) ?_
                                              refine qx_skip (sees_f rfl rfl rfl rfl hp57) ?_
                                              refine qx_skip (sees_f rfl rfl rfl rfl hp57) ?_
                                              refine qx_skip (sees_f rfl rfl rfl rfl hp57) ?_
                                              refine qx_y (sees_t rfl rfl rfl rfl hp50) (y_pick_tb (congrArg Value.bool hp57) rfl) ?_
                                              obtain rfl := Option.some.inj h
                                              exact key _ _ (keep (keep (keep (keep (keep (keep (keep (keep (keep (keep (keep (keep (keep (keep (keep (keep (keep (keep (keep (keep (keep (keep (keep (keep (keep rfl rfl) rfl) rfl) rfl) rfl) rfl) rfl) rfl) rfl) rfl) rfl) rfl) rfl) rfl) rfl) rfl) rfl) rfl) rfl) rfl) rfl) rfl) rfl) rfl) rfl)
                                            · refine qx_y (sees_t rfl rfl rfl rfl hp57) (y_move_int rfl) ?_
                                              refine qx_y (sees_t rfl rfl rfl rfl hp57) (y_move_int rfl) ?_
                                              refine qx_y (sees_t rfl rfl rfl rfl hp57) (y_mul rfl rfl) ?_
                                              refine qx_y (sees_t rfl rfl rfl rfl hp57) (y_fieldAddr fo_23_1 rfl) ?_
                                              refine qx_y (sees_t rfl rfl rfl rfl hp57) (y_load1 4 (v := .int .i64 y23.1.fDen) sc_3 rfl rfl rfl) ?_
                                              obtain ⟨hg60, h⟩ := guardO_some h
                                              refine qx_y (sees_t rfl rfl rfl rfl hp57) (y_quo hg60 rfl rfl) ?_
                                              refine qx_y (sees_t rfl rfl rfl rfl hp57) (y_fieldAddr fo_23_0 rfl) ?_
                                              refine qx_y (sees_t rfl rfl rfl rfl hp57) (y_load1 4 (v := .int .i64 y23.1.fNum) sc_3 rfl rfl rfl) ?_
                                              refine qx_y (sees_t rfl rfl rfl rfl hp57) (y_mul rfl rfl) ?_
                                              refine qx_y (sees_t rfl rfl rfl rfl hp57) (y_move_int rfl) ?_
                                              refine qx_y (sees_t rfl rfl rfl rfl hp57) (y_move_int rfl) ?_
                                              refine qx_y (sees_t rfl rfl rfl rfl hp57) (y_fieldAddr fo_52_1 rfl) ?_
                                              obtain ⟨hg61, h⟩ := guardO_some h
                                              refine qx_y (sees_t rfl rfl rfl rfl hp57) (y_indexArr ar_43 hg61.1 hg61.2 rfl rfl) ?_
                                              refine qx_y (sees_t rfl rfl rfl rfl hp57) (y_load1 0 (v := .int .i64 (sel3 p0.fSeen.x0 p0.fSeen.x1 p0.fSeen.x2 s8.2.2.2)) sc_3 rfl rfl (by rcases in3 hg61 with e | e | e <;> rw [e] <;> rfl)) ?_
                                              refine qx_y (sees_t rfl rfl rfl rfl hp57) (y_move_int rfl) ?_
                                              refine qx_y (sees_t rfl rfl rfl rfl hp57) (y_mul rfl rfl) ?_
                                              refine qx_y (sees_t rfl rfl rfl rfl hp57) (y_sub rfl rfl) ?_
                                              refine qx_y (sees_t rfl rfl rfl rfl hp57) (y_neq rfl rfl) ?_
                                              refine qx_y (sees_t rfl rfl rfl rfl hp50) (y_pick_fb (congrArg Value.bool hp57) rfl) ?_
                                              obtain rfl := Option.some.inj h
                                              exact key _ _ (keep (keep (keep (keep (keep (keep (keep (keep (keep (keep (keep (keep (keep (keep (keep (keep (keep (keep (keep (keep (keep (keep (keep (keep (keep rfl rfl) rfl) rfl) rfl) rfl) rfl) rfl) rfl) rfl) rfl) rfl) rfl) rfl) rfl) rfl) rfl) rfl) rfl) rfl) rfl) rfl) rfl) rfl) rfl) rfl)
                                        · clear h; rcases ite_some hb56 with ⟨hp54, h⟩ | ⟨hp54, h⟩
                                          · refine qx_skip (sees_f rfl rfl rfl rfl hp54) ?_
                                            refine qx_skip (sees_f rfl rfl rfl rfl hp54) ?_
                                            refine qx_skip (sees_f rfl rfl rfl rfl hp54) ?_
                                            refine qx_skip (sees_f rfl rfl rfl rfl hp54) ?_
                                            refine qx_skip (sees_f rfl rfl rfl rfl hp54) ?_
                                            refine qx_skip (sees_f rfl rfl rfl rfl hp54) ?_
                                            refine qx_skip (sees_f rfl rfl rfl rfl hp54) ?_
                                            refine qx_y (sees_t rfl rfl rfl rfl hp50) (y_pick_tb (congrArg Value.bool hp54) rfl) ?_
                                            obtain rfl := Option.some.inj h
                                            exact key _ _ (keep (keep (keep (keep (keep (keep (keep (keep (keep (keep (keep (keep (keep (keep (keep (keep (keep (keep (keep (keep (keep (keep (keep (keep (keep rfl rfl) rfl) rfl) rfl) rfl) rfl) rfl) rfl) rfl) rfl) rfl) rfl) rfl) rfl) rfl) rfl) rfl) rfl) rfl) rfl) rfl) rfl) rfl) rfl) rfl)
                                          · refine qx_y (sees_t rfl rfl rfl rfl hp54) (y_move_int rfl) ?_
                                            refine qx_y (sees_t rfl rfl rfl rfl hp54) (y_move_int rfl) ?_
                                            refine qx_y (sees_t rfl rfl rfl rfl hp54) (y_mul rfl rfl) ?_
                                            refine qx_y (sees_t rfl rfl rfl rfl hp54) (y_fieldAddr fo_23_1 rfl) ?_
                                            refine qx_y (sees_t rfl rfl rfl rfl hp54) (y_load1 4 (v := .int .i64 y23.1.fDen) sc_3 rfl rfl rfl) ?_
                                            obtain ⟨hg62, h⟩ := guardO_some h
                                            refine qx_y (sees_t rfl rfl rfl rfl hp54) (y_rem hg62 rfl rfl) ?_
                                            refine qx_y (sees_t rfl rfl rfl rfl hp54) (y_neq rfl rfl) ?_
                                            refine qx_y (sees_t rfl rfl rfl rfl hp50) (y_pick_fb (congrArg Value.bool hp54) rfl) ?_
                                            obtain rfl := Option.some.inj h
                                            exact key _ _ (keep (keep (keep (keep (keep (keep (keep (keep (keep (keep (keep (keep (keep (keep (keep (keep (keep (keep (keep (keep (keep (keep (keep (keep (keep rfl rfl) rfl) rfl) rfl) rfl) rfl) rfl) rfl) rfl) rfl) rfl) rfl) rfl) rfl) rfl) rfl) rfl) rfl) rfl) rfl) rfl) rfl) rfl) rfl) rfl)
                                      · refine qx_skip (sees_f rfl rfl rfl rfl hp50) ?_
                                        refine qx_skip (sees_f rfl rfl rfl rfl hp50) ?_
                                        refine qx_skip (sees_f rfl rfl rfl rfl hp50) ?_
                                        refine qx_skip (sees_f rfl rfl rfl rfl hp50) ?_
                                        refine qx_skip rfl ?_
                                        refine qx_skip rfl ?_
                                        refine qx_skip rfl ?_
                                        refine qx_skip rfl ?_
                                        refine qx_skip rfl ?_
                                        refine qx_skip rfl ?_
                                        refine qx_skip rfl ?_
                                        refine qx_skip (sees_f rfl rfl rfl rfl hp50) ?_
                                        refine qx_skip (sees_f rfl rfl rfl rfl hp50) ?_
                                        refine qx_skip rfl ?_
                                        refine qx_skip rfl ?_
                                        refine qx_skip rfl ?_
                                        refine qx_skip rfl ?_
                                        refine qx_skip rfl ?_
                                        refine qx_skip rfl ?_
                                        refine qx_skip rfl ?_
                                        refine qx_skip rfl ?_
                                        refine qx_skip rfl ?_
                                        refine qx_skip rfl ?_
                                        refine qx_skip rfl ?_
                                        refine qx_skip rfl ?_
                                        refine qx_skip rfl ?_
                                        refine qx_skip rfl ?_
                                        refine qx_skip rfl ?_
                                        refine qx_skip rfl ?_
                                        refine qx_skip rfl ?_
                                        refine qx_skip rfl ?_
                                        refine qx_skip (sees_f rfl rfl rfl rfl hp50) ?_
                                        refine qx_y rfl (y_pick_fb (congrArg Value.bool hp50) rfl) ?_
                                        obtain rfl := Option.some.inj h
                                        exact key _ _ (keep (keep (keep (keep (keep (keep (keep (keep (keep (keep (keep (keep (keep (keep (keep (keep (keep (keep (keep (keep (keep (keep (keep (keep rfl rfl) rfl) rfl) rfl) rfl) rfl) rfl) rfl) rfl) rfl) rfl) rfl) rfl) rfl) rfl) rfl) rfl) rfl) rfl) rfl) rfl) rfl) rfl) rfl)
                                · clear h; rcases ite_some hb48 with ⟨hp46, h⟩ | ⟨hp46, h⟩
                                  · refine qx_skip (sees_f rfl rfl rfl rfl hp46) ?_
                                    refine qx_skip (sees_f rfl rfl rfl rfl hp46) ?_
                                    refine qx_skip (sees_f rfl rfl rfl rfl hp46) ?_
                                    refine qx_skip (sees_f rfl rfl rfl rfl hp46) ?_
                                    refine qx_skip (sees_f rfl rfl rfl rfl hp46) ?_
                                    refine qx_skip (sees_f rfl rfl rfl rfl hp46) ?_
                                    refine qx_skip (sees_f rfl rfl rfl rfl hp46) ?_
                                    refine qx_skip (sees_f rfl rfl rfl rfl hp46) ?_
                                    refine qx_skip (sees_f rfl rfl rfl rfl hp46) ?_
                                    refine qx_y rfl (y_pick_tb (congrArg Value.bool hp46) rfl) ?_
                                    obtain rfl := Option.some.inj h
                                    exact key _ _ (keep (keep (keep (keep (keep (keep (keep (keep (keep (keep (keep (keep (keep (keep (keep (keep (keep (keep (keep (keep (keep (keep (keep rfl rfl) rfl) rfl) rfl) rfl) rfl) rfl) rfl) rfl) rfl) rfl) rfl) rfl) rfl) rfl) rfl) rfl) rfl) rfl) rfl) rfl) rfl) rfl)
                                  · refine qx_y (sees_t rfl rfl rfl rfl hp46) (y_move_int rfl) ?_
                                    refine qx_y (sees_t rfl rfl rfl rfl hp46) (y_fieldAddr fo_23_1 rfl) ?_
                                    refine qx_y (sees_t rfl rfl rfl rfl hp46) (y_load1 1 (v := .int .i64 y11.1.fDen) sc_3 rfl rfl rfl) ?_
                                    obtain ⟨hg63, h⟩ := guardO_some h
                                    refine qx_y (sees_t rfl rfl rfl rfl hp46) (y_quo hg63 rfl rfl) ?_
                                    refine qx_y (sees_t rfl rfl rfl rfl hp46) (y_fieldAddr fo_23_0 rfl) ?_
                                    refine qx_y (sees_t rfl rfl rfl rfl hp46) (y_load1 1 (v := .int .i64 y11.1.fNum) sc_3 rfl rfl rfl) ?_
                                    refine qx_y (sees_t rfl rfl rfl rfl hp46) (y_mul rfl rfl) ?_
                                    refine qx_y (sees_t rfl rfl rfl rfl hp46) (y_move_int rfl) ?_
                                    refine qx_y (sees_t rfl rfl rfl rfl hp46) (y_neq rfl rfl) ?_
                                    refine qx_y rfl (y_pick_fb (congrArg Value.bool hp46) rfl) ?_
                                    obtain rfl := Option.some.inj h
                                    exact key _ _ (keep (keep (keep (keep (keep (keep (keep (keep (keep (keep (keep (keep (keep (keep (keep (keep (keep (keep (keep (keep (keep (keep (keep rfl rfl) rfl) rfl) rfl) rfl) rfl) rfl) rfl) rfl) rfl) rfl) rfl) rfl) rfl) rfl) rfl) rfl) rfl) rfl) rfl) rfl) rfl) rfl)
                              · clear h; rcases ite_some hb45 with ⟨hp43, h⟩ | ⟨hp43, h⟩
                                · refine qx_skip (sees_f rfl rfl rfl rfl hp43) ?_
                                  refine qx_skip (sees_f rfl rfl rfl rfl hp43) ?_
                                  refine qx_skip (sees_f rfl rfl rfl rfl hp43) ?_
                                  refine qx_skip (sees_f rfl rfl rfl rfl hp43) ?_
                                  refine qx_skip (sees_f rfl rfl rfl rfl hp43) ?_
                                  refine qx_y rfl (y_pick_tb (congrArg Value.bool hp43) rfl) ?_
                                  obtain rfl := Option.some.inj h
                                  exact key _ _ (keep (keep (keep (keep (keep (keep (keep (keep (keep (keep (keep (keep (keep (keep (keep (keep (keep (keep (keep (keep (keep (keep (keep rfl rfl) rfl) rfl) rfl) rfl) rfl) rfl) rfl) rfl) rfl) rfl) rfl) rfl) rfl) rfl) rfl) rfl) rfl) rfl) rfl) rfl) rfl) rfl)
                                · refine qx_y (sees_t rfl rfl rfl rfl hp43) (y_move_int rfl) ?_
                                  refine qx_y (sees_t rfl rfl rfl rfl hp43) (y_fieldAddr fo_23_1 rfl) ?_
                                  refine qx_y (sees_t rfl rfl rfl rfl hp43) (y_load1 1 (v := .int .i64 y11.1.fDen) sc_3 rfl rfl rfl) ?_
                                  obtain ⟨hg64, h⟩ := guardO_some h
                                  refine qx_y (sees_t rfl rfl rfl rfl hp43) (y_rem hg64 rfl rfl) ?_
                                  refine qx_y (sees_t rfl rfl rfl rfl hp43) (y_neq rfl rfl) ?_
                                  refine qx_y rfl (y_pick_fb (congrArg Value.bool hp43) rfl) ?_
                                  obtain rfl := Option.some.inj h
                                  exact key _ _ (keep (keep (keep (keep (keep (keep (keep (keep (keep (keep (keep (keep (keep (keep (keep (keep (keep (keep (keep (keep (keep (keep (keep rfl rfl) rfl) rfl) rfl) rfl) rfl) rfl) rfl) rfl) rfl) rfl) rfl) rfl) rfl) rfl) rfl) rfl) rfl) rfl) rfl) rfl) rfl) rfl)
                            · rcases bool_cases ((((decide (0 < s8.2.2.2)) && (u34.2.1 != s8.2.1)) || (decide (u34.2.1 < 1))) || (decide (u34.1 < w64 (y14.1.fLo * u34.2.1)))) with hp42 | hp42
                              · refine qx_skip (sees_f rfl rfl rfl rfl hp42) ?_
                                refine qx_skip (sees_f rfl rfl rfl rfl hp42) ?_
                                refine qx_skip (sees_f rfl rfl rfl rfl hp42) ?_
                                refine qx_skip (sees_f rfl rfl rfl rfl hp42) ?_
                                refine qx_skip (sees_f rfl rfl rfl rfl hp42) ?_
                                refine qx_skip (sees_f rfl rfl rfl rfl hp42) ?_
                                refine qx_y rfl (y_pick_tb (congrArg Value.bool hp42) rfl) ?_
                                exact key _ _ (keep (keep (keep (keep (keep (keep (keep (keep (keep (keep (keep (keep (keep (keep (keep (keep (keep (keep (keep (keep (keep (keep (keep rfl rfl) rfl) rfl) rfl) rfl) rfl) rfl) rfl) rfl) rfl) rfl) rfl) rfl) rfl) rfl) rfl) rfl) rfl) rfl) rfl) rfl) rfl) (congrArg Value.bool (or_t hp42)))
                              · refine qx_y (sees_t rfl rfl rfl rfl hp42) (y_move_int rfl) ?_
                                refine qx_y (sees_t rfl rfl rfl rfl hp42) (y_fieldAddr fo_33_1 rfl) ?_
                                refine qx_y (sees_t rfl rfl rfl rfl hp42) (y_load1 2 (v := .int .i64 y14.1.fHi) sc_3 rfl rfl rfl) ?_
                                refine qx_y (sees_t rfl rfl rfl rfl hp42) (y_move_int rfl) ?_
                                refine qx_y (sees_t rfl rfl rfl rfl hp42) (y_mul rfl rfl) ?_
                                refine qx_y (sees_t rfl rfl rfl rfl hp42) (y_gtr rfl rfl) ?_
                                refine qx_y rfl (y_pick_fb (congrArg Value.bool hp42) rfl) ?_
                                exact key _ _ (keep (keep (keep (keep (keep (keep (keep (keep (keep (keep (keep (keep (keep (keep (keep (keep (keep (keep (keep (keep (keep (keep (keep rfl rfl) rfl) rfl) rfl) rfl) rfl) rfl) rfl) rfl) rfl) rfl) rfl) rfl) rfl) rfl) rfl) rfl) rfl) rfl) rfl) rfl) rfl) (congrArg Value.bool (or_f hp42)))
                          · rcases bool_cases (((decide (0 < s8.2.2.2)) && (u34.2.1 != s8.2.1)) || (decide (u34.2.1 < 1))) with hp41 | hp41
                            · refine qx_skip (sees_f rfl rfl rfl rfl hp41) ?_
                              refine qx_skip (sees_f rfl rfl rfl rfl hp41) ?_
                              refine qx_skip (sees_f rfl rfl rfl rfl hp41) ?_
                              refine qx_skip (sees_f rfl rfl rfl rfl hp41) ?_
                              refine qx_skip (sees_f rfl rfl rfl rfl hp41) ?_
                              refine qx_skip (sees_f rfl rfl rfl rfl hp41) ?_
                              refine qx_y rfl (y_pick_tb (congrArg Value.bool hp41) rfl) ?_
                              exact key _ _ (keep (keep (keep (keep (keep (keep (keep (keep (keep (keep (keep (keep (keep (keep (keep (keep (keep (keep (keep (keep (keep (keep (keep rfl rfl) rfl) rfl) rfl) rfl) rfl) rfl) rfl) rfl) rfl) rfl) rfl) rfl) rfl) rfl) rfl) rfl) rfl) rfl) rfl) rfl) rfl) (congrArg Value.bool (or_t hp41)))
                            · refine qx_y (sees_t rfl rfl rfl rfl hp41) (y_move_int rfl) ?_
                              refine qx_y (sees_t rfl rfl rfl rfl hp41) (y_fieldAddr fo_33_0 rfl) ?_
                              refine qx_y (sees_t rfl rfl rfl rfl hp41) (y_load1 2 (v := .int .i64 y14.1.fLo) sc_3 rfl rfl rfl) ?_
                              refine qx_y (sees_t rfl rfl rfl rfl hp41) (y_move_int rfl) ?_
                              refine qx_y (sees_t rfl rfl rfl rfl hp41) (y_mul rfl rfl) ?_
                              refine qx_y (sees_t rfl rfl rfl rfl hp41) (y_lss rfl rfl) ?_
                              refine qx_y rfl (y_pick_fb (congrArg Value.bool hp41) rfl) ?_
                              exact key _ _ (keep (keep (keep (keep (keep (keep (keep (keep (keep (keep (keep (keep (keep (keep (keep (keep (keep (keep (keep (keep (keep (keep (keep rfl rfl) rfl) rfl) rfl) rfl) rfl) rfl) rfl) rfl) rfl) rfl) rfl) rfl) rfl) rfl) rfl) rfl) rfl) rfl) rfl) rfl) rfl) (congrArg Value.bool (or_f hp41)))
                        · rcases bool_cases ((decide (0 < s8.2.2.2)) && (u34.2.1 != s8.2.1)) with hp40 | hp40
                          · refine qx_skip (sees_f rfl rfl rfl rfl hp40) ?_
                            refine qx_skip (sees_f rfl rfl rfl rfl hp40) ?_
                            refine qx_y rfl (y_pick_tb (congrArg Value.bool hp40) rfl) ?_
                            exact key _ _ (keep (keep (keep (keep (keep (keep (keep (keep (keep (keep (keep (keep (keep (keep (keep (keep (keep (keep (keep (keep (keep (keep (keep rfl rfl) rfl) rfl) rfl) rfl) rfl) rfl) rfl) rfl) rfl) rfl) rfl) rfl) rfl) rfl) rfl) rfl) rfl) rfl) rfl) rfl) rfl) (congrArg Value.bool (or_t hp40)))
                          · refine qx_y (sees_t rfl rfl rfl rfl hp40) (y_move_int rfl) ?_
                            refine qx_y (sees_t rfl rfl rfl rfl hp40) (y_lss rfl rfl) ?_
                            refine qx_y rfl (y_pick_fb (congrArg Value.bool hp40) rfl) ?_
                            exact key _ _ (keep (keep (keep (keep (keep (keep (keep (keep (keep (keep (keep (keep (keep (keep (keep (keep (keep (keep (keep (keep (keep (keep (keep rfl rfl) rfl) rfl) rfl) rfl) rfl) rfl) rfl) rfl) rfl) rfl) rfl) rfl) rfl) rfl) rfl) rfl) rfl) rfl) rfl) rfl) rfl) (congrArg Value.bool (or_f hp40)))
                      · rcases bool_cases (decide (0 < s8.2.2.2)) with hp39 | hp39
                        · refine qx_y (sees_t rfl rfl rfl rfl hp39) (y_move_int rfl) ?_
                          refine qx_y (sees_t rfl rfl rfl rfl hp39) (y_move_int rfl) ?_
                          refine qx_y (sees_t rfl rfl rfl rfl hp39) (y_neq rfl rfl) ?_
                          refine qx_y rfl (y_pick_tb (congrArg Value.bool hp39) rfl) ?_
                          exact key _ _ (keep (keep (keep (keep (keep (keep (keep (keep (keep (keep (keep (keep (keep (keep (keep (keep (keep (keep (keep (keep (keep (keep (keep rfl rfl) rfl) rfl) rfl) rfl) rfl) rfl) rfl) rfl) rfl) rfl) rfl) rfl) rfl) rfl) rfl) rfl) rfl) rfl) rfl) rfl) rfl) (congrArg Value.bool (and_t hp39)))
                        · refine qx_skip (sees_f rfl rfl rfl rfl hp39) ?_
                          refine qx_skip (sees_f rfl rfl rfl rfl hp39) ?_
                          refine qx_skip (sees_f rfl rfl rfl rfl hp39) ?_
                          refine qx_y rfl (y_pick_fb (congrArg Value.bool hp39) rfl) ?_
                          exact key _ _ (keep (keep (keep (keep (keep (keep (keep (keep (keep (keep (keep (keep (keep (keep (keep (keep (keep (keep (keep (keep (keep (keep (keep rfl rfl) rfl) rfl) rfl) rfl) rfl) rfl) rfl) rfl) rfl) rfl) rfl) rfl) rfl) rfl) rfl) rfl) rfl) rfl) rfl) rfl) rfl) (congrArg Value.bool (and_f hp39)))
                · rcases bool_cases (((((y11.2 != 0) || (y14.2 != 0)) || (y17.2 != 0)) || (!((y23.2 == 5) == ((w64 ((w64 ((w64 (p0.fBarrows - p0.fSeen.x0)) - p0.fSeen.x1)) - p0.fSeen.x2)) == 0)))) || ((y23.2 != 0) && (y23.2 != 5))) with hp30 | hp30
                  · refine ox_skip (sees_f rfl rfl rfl rfl hp30) ?_
                    refine ox_skip (sees_f rfl rfl rfl rfl hp30) ?_
                    refine ox_skip (sees_f rfl rfl rfl rfl hp30) ?_
                    refine ox_y rfl (y_pick_tb (congrArg Value.bool hp30) rfl) ?_
                    exact key _ _ (keep (keep (keep (keep (keep (keep (keep (keep (keep (keep (keep (keep (keep (keep (keep (keep (keep (keep (keep rfl rfl) rfl) rfl) rfl) rfl) rfl) rfl) rfl) rfl) rfl) rfl) rfl) rfl) rfl) rfl) rfl) rfl) rfl) (congrArg Value.bool (or_t hp30)))
                  · refine ox_y (sees_t rfl rfl rfl rfl hp30) (y_fieldAddr fo_23_1 rfl) ?_
                    refine ox_y (sees_t rfl rfl rfl rfl hp30) (y_load1 1 (v := .int .i64 y11.1.fDen) sc_3 rfl rfl rfl) ?_
                    refine ox_y (sees_t rfl rfl rfl rfl hp30) (y_lss rfl rfl) ?_
                    refine ox_y rfl (y_pick_fb (congrArg Value.bool hp30) rfl) ?_
                    exact key _ _ (keep (keep (keep (keep (keep (keep (keep (keep (keep (keep (keep (keep (keep (keep (keep (keep (keep (keep (keep rfl rfl) rfl) rfl) rfl) rfl) rfl) rfl) rfl) rfl) rfl) rfl) rfl) rfl) rfl) rfl) rfl) rfl) rfl) (congrArg Value.bool (or_f hp30)))
              · rcases bool_cases ((((y11.2 != 0) || (y14.2 != 0)) || (y17.2 != 0)) || (!((y23.2 == 5) == ((w64 ((w64 ((w64 (p0.fBarrows - p0.fSeen.x0)) - p0.fSeen.x1)) - p0.fSeen.x2)) == 0)))) with hp29 | hp29
                · refine ox_skip (sees_f rfl rfl rfl rfl hp29) ?_
                  refine ox_skip (sees_f rfl rfl rfl rfl hp29) ?_
                  refine ox_skip (sees_f rfl rfl rfl rfl hp29) ?_
                  refine ox_skip rfl ?_
                  refine ox_skip rfl ?_
                  refine ox_skip (sees_f rfl rfl rfl rfl hp29) ?_
                  refine ox_y rfl (y_pick_tb (congrArg Value.bool hp29) rfl) ?_
                  exact key _ _ (keep (keep (keep (keep (keep (keep (keep (keep (keep (keep (keep (keep (keep (keep (keep (keep (keep (keep (keep rfl rfl) rfl) rfl) rfl) rfl) rfl) rfl) rfl) rfl) rfl) rfl) rfl) rfl) rfl) rfl) rfl) rfl) rfl) (congrArg Value.bool (or_t hp29)))
                · refine ox_y (sees_t rfl rfl rfl rfl hp29) (y_move_int rfl) ?_
                  refine ox_y (sees_t rfl rfl rfl rfl hp29) (y_neq rfl rfl) ?_
                  refine ox_y (sees_t rfl rfl rfl rfl hp29) (y_move_bool rfl) ?_
                  refine ox_join 3 (fun tm0 => (upd (upd (upd (upd (upd (upd (upd (upd (upd (upd (upd (upd (upd (upd (upd (upd (upd (upd (upd (upd tm0 0 (.agg #[.int .i64 p0.fBarrows, .int .i64 p0.fSeen.x0, .int .i64 p0.fSeen.x1, .int .i64 p0.fSeen.x2, .int .i64 p0.fKnown.x0.fLo, .int .i64 p0.fKnown.x0.fHi, .int .i64 p0.fKnown.x1.fLo, .int .i64 p0.fKnown.x1.fHi, .int .i64 p0.fKnown.x2.fLo, .int .i64 p0.fKnown.x2.fHi])) 1 (.pointer (some ⟨b1, 0, none⟩))) 2 (.bool s8.1)) 3 (.bool y2)) 22 (.bool (y4 != 0))) 4 (.int .i64 (w64 ((w64 ((w64 (p0.fBarrows - p0.fSeen.x0)) - p0.fSeen.x1)) - p0.fSeen.x2)))) 5 (.int .i64 s8.2.1)) 6 (.int .i64 s8.2.2.1)) 7 (.int .i64 s8.2.2.2)) 39 (.bool (decide (s8.2.2.2 < 3)))) 8 (.pointer (some ⟨b13, 0, none⟩))) 9 (.int .i64 y11.2)) 10 (.pointer (some ⟨b16, 0, none⟩))) 11 (.int .i64 y14.2)) 12 (.slice A19 y17.1.length c20)) 13 (.int .i64 y17.2)) 14 (.pointer (some ⟨b25, 0, none⟩))) 15 (.int .i64 y23.2)) 83 (.bool ((((y11.2 != 0) || (y14.2 != 0)) || (y17.2 != 0)) || (!((y23.2 == 5) == ((w64 ((w64 ((w64 (p0.fBarrows - p0.fSeen.x0)) - p0.fSeen.x1)) - p0.fSeen.x2)) == 0)))))) 89 (.bool ((y23.2 != 0) && (y23.2 != 5))))) (fun tm0 => ?_) (fun key => ?_)
                  · refine ox_y rfl (y_pick_fb (congrArg Value.bool hp29) rfl) ?_
                    exact key _ _ (keep (keep (keep (keep (keep (keep (keep (keep (keep (keep (keep (keep (keep (keep (keep (keep (keep (keep (keep rfl rfl) rfl) rfl) rfl) rfl) rfl) rfl) rfl) rfl) rfl) rfl) rfl) rfl) rfl) rfl) rfl) rfl) rfl) (congrArg Value.bool (or_f hp29)))
                  · rcases bool_cases (y23.2 != 0) with hp65 | hp65
                    · refine ox_y (sees_t rfl rfl rfl rfl hp65) (y_move_int rfl) ?_
                      refine ox_y (sees_t rfl rfl rfl rfl hp65) (y_neq rfl rfl) ?_
                      refine ox_y (sees_t rfl rfl rfl rfl hp29) (y_pick_tb (congrArg Value.bool hp65) rfl) ?_
                      exact key _ _ (keep (keep (keep (keep (keep (keep (keep (keep (keep (keep (keep (keep (keep (keep (keep (keep (keep (keep (keep (keep rfl rfl) rfl) rfl) rfl) rfl) rfl) rfl) rfl) rfl) rfl) rfl) rfl) rfl) rfl) rfl) rfl) rfl) rfl) rfl) (congrArg Value.bool (and_t hp65)))
                    · refine ox_skip (sees_f rfl rfl rfl rfl hp65) ?_
                      refine ox_skip (sees_f rfl rfl rfl rfl hp65) ?_
                      refine ox_y (sees_t rfl rfl rfl rfl hp29) (y_pick_fb (congrArg Value.bool hp65) rfl) ?_
                      exact key _ _ (keep (keep (keep (keep (keep (keep (keep (keep (keep (keep (keep (keep (keep (keep (keep (keep (keep (keep (keep (keep rfl rfl) rfl) rfl) rfl) rfl) rfl) rfl) rfl) rfl) rfl) rfl) rfl) rfl) rfl) rfl) rfl) rfl) rfl) rfl) (congrArg Value.bool (and_f hp65)))
            · rcases bool_cases (((y11.2 != 0) || (y14.2 != 0)) || (y17.2 != 0)) with hp28 | hp28
              · refine ox_skip (sees_f rfl rfl rfl rfl hp28) ?_
                refine ox_skip (sees_f rfl rfl rfl rfl hp28) ?_
                refine ox_skip (sees_f rfl rfl rfl rfl hp28) ?_
                refine ox_skip (sees_f rfl rfl rfl rfl hp28) ?_
                refine ox_skip (sees_f rfl rfl rfl rfl hp28) ?_
                refine ox_y rfl (y_pick_tb (congrArg Value.bool hp28) rfl) ?_
                exact key _ _ (keep (keep (keep (keep (keep (keep (keep (keep (keep (keep (keep (keep (keep (keep (keep (keep (keep (keep (keep rfl rfl) rfl) rfl) rfl) rfl) rfl) rfl) rfl) rfl) rfl) rfl) rfl) rfl) rfl) rfl) rfl) rfl) rfl) (congrArg Value.bool (or_t hp28)))
              · refine ox_y (sees_t rfl rfl rfl rfl hp28) (y_move_int rfl) ?_
                refine ox_y (sees_t rfl rfl rfl rfl hp28) (y_eql rfl rfl) ?_
                refine ox_y (sees_t rfl rfl rfl rfl hp28) (y_move_int rfl) ?_
                refine ox_y (sees_t rfl rfl rfl rfl hp28) (y_eql rfl rfl) ?_
                refine ox_y (sees_t rfl rfl rfl rfl hp28) (y_neqb ub_4 rfl rfl) ?_
                refine ox_y rfl (y_pick_fb (congrArg Value.bool hp28) rfl) ?_
                exact key _ _ (keep (keep (keep (keep (keep (keep (keep (keep (keep (keep (keep (keep (keep (keep (keep (keep (keep (keep (keep rfl rfl) rfl) rfl) rfl) rfl) rfl) rfl) rfl) rfl) rfl) rfl) rfl) rfl) rfl) rfl) rfl) rfl) rfl) (congrArg Value.bool (or_f hp28)))
          · rcases bool_cases ((y11.2 != 0) || (y14.2 != 0)) with hp27 | hp27
            · refine ox_skip (sees_f rfl rfl rfl rfl hp27) ?_
              refine ox_skip (sees_f rfl rfl rfl rfl hp27) ?_
              refine ox_y rfl (y_pick_tb (congrArg Value.bool hp27) rfl) ?_
              exact key _ _ (keep (keep (keep (keep (keep (keep (keep (keep (keep (keep (keep (keep (keep (keep (keep (keep (keep (keep (keep rfl rfl) rfl) rfl) rfl) rfl) rfl) rfl) rfl) rfl) rfl) rfl) rfl) rfl) rfl) rfl) rfl) rfl) rfl) (congrArg Value.bool (or_t hp27)))
            · refine ox_y (sees_t rfl rfl rfl rfl hp27) (y_move_int rfl) ?_
              refine ox_y (sees_t rfl rfl rfl rfl hp27) (y_neq rfl rfl) ?_
              refine ox_y rfl (y_pick_fb (congrArg Value.bool hp27) rfl) ?_
              exact key _ _ (keep (keep (keep (keep (keep (keep (keep (keep (keep (keep (keep (keep (keep (keep (keep (keep (keep (keep (keep rfl rfl) rfl) rfl) rfl) rfl) rfl) rfl) rfl) rfl) rfl) rfl) rfl) rfl) rfl) rfl) rfl) rfl) rfl) (congrArg Value.bool (or_f hp27)))
        · rcases bool_cases (y11.2 != 0) with hp26 | hp26
          · refine ox_skip (sees_f rfl rfl rfl rfl hp26) ?_
            refine ox_skip (sees_f rfl rfl rfl rfl hp26) ?_
            refine ox_y rfl (y_pick_tb (congrArg Value.bool hp26) rfl) ?_
            exact key _ _ (keep (keep (keep (keep (keep (keep (keep (keep (keep (keep (keep (keep (keep (keep (keep (keep (keep (keep (keep rfl rfl) rfl) rfl) rfl) rfl) rfl) rfl) rfl) rfl) rfl) rfl) rfl) rfl) rfl) rfl) rfl) rfl) rfl) (congrArg Value.bool (or_t hp26)))
          · refine ox_y (sees_t rfl rfl rfl rfl hp26) (y_move_int rfl) ?_
            refine ox_y (sees_t rfl rfl rfl rfl hp26) (y_neq rfl rfl) ?_
            refine ox_y rfl (y_pick_fb (congrArg Value.bool hp26) rfl) ?_
            exact key _ _ (keep (keep (keep (keep (keep (keep (keep (keep (keep (keep (keep (keep (keep (keep (keep (keep (keep (keep (keep rfl rfl) rfl) rfl) rfl) rfl) rfl) rfl) rfl) rfl) rfl) rfl) rfl) rfl) rfl) rfl) rfl) rfl) rfl) (congrArg Value.bool (or_f hp26)))
      · refine cx_false (congrArg Value.bool hp10) ?_
        refine cx_exit ?_
        refine ex_then_exit ?_
        obtain rfl := Option.some.inj h
        exact ex_stop ⟨rfl, _, rfl, (keep (keep (keep (keep (keep (keep (keep (keep (keep rfl rfl) rfl) rfl) rfl) rfl) rfl) rfl) rfl) rfl)⟩
    · intro e L tm hJ
      rcases u9 with u67 | u68
      · dsimp only at h hJ
        obtain ⟨rfl, tm0_u67, rfl, rfl⟩ := hJ
        refine ⟨(by intro hc; cases hc), ?_⟩
        refine ex_block_ret ?_
        refine ex_then_ret ?_
        obtain rfl := Option.some.inj h
        exact ex_res1 (.inl rfl) rfl (resV_tmp (v := .bool u67.1) rfl) (fun W2 hW2 => ⟨rfl, hW2.none⟩)
      · dsimp only at h hJ
        obtain ⟨rfl, tm0_u68, rfl, rfl⟩ := hJ
        refine ⟨(by intro hc; cases hc), ?_⟩
        refine ex_block_here ?_
        refine ex_then ?_
        refine cx_seq ?_
        refine cx_region ?_
        refine ox_y rfl (y_move_bool rfl) ?_
        refine ox_y rfl (y_move_bool rfl) ?_
        refine ox_join 7 (fun tm0 => (upd (upd (upd (upd (upd (upd (upd (upd (upd (upd tm0 0 (.agg #[.int .i64 p0.fBarrows, .int .i64 p0.fSeen.x0, .int .i64 p0.fSeen.x1, .int .i64 p0.fSeen.x2, .int .i64 p0.fKnown.x0.fLo, .int .i64 p0.fKnown.x0.fHi, .int .i64 p0.fKnown.x1.fLo, .int .i64 p0.fKnown.x1.fHi, .int .i64 p0.fKnown.x2.fLo, .int .i64 p0.fKnown.x2.fHi])) 1 (.pointer (some ⟨b1, 0, none⟩))) 2 (.bool u68.1)) 3 (.bool y2)) 22 (.bool (y4 != 0))) 4 (.int .i64 (w64 ((w64 ((w64 (p0.fBarrows - p0.fSeen.x0)) - p0.fSeen.x1)) - p0.fSeen.x2)))) 5 (.int .i64 u68.2.1)) 6 (.int .i64 u68.2.2.1)) 7 (.int .i64 u68.2.2.2)) 209 (.bool (y2 && (u68.2.2.1 == (w64 (p0.fBarrows * u68.2.1))))))) (fun tm0 => ?_) (fun key => ?_)
        · refine ox_y rfl (y_assign_bool rfl) ?_
          refine ox_nil ?_
          refine ex_then ?_
          refine cx_ret ?_
          obtain rfl := Option.some.inj h
          exact ex_res1 (.inl rfl) rfl (resV_tmp (v := .bool (y2 && (u68.2.2.1 == (w64 (p0.fBarrows * u68.2.1))))) rfl) (fun W2 hW2 => ⟨rfl, hW2.none⟩)
        · rcases bool_cases y2 with hp69 | hp69
          · refine ox_y (sees_t rfl rfl rfl rfl hp69) (y_move_int rfl) ?_
            refine ox_y (sees_t rfl rfl rfl rfl hp69) (y_fieldAddr fo_52_0 rfl) ?_
            refine ox_y (sees_t rfl rfl rfl rfl hp69) (y_load1 0 (v := .int .i64 p0.fBarrows) sc_3 rfl rfl rfl) ?_
            refine ox_y (sees_t rfl rfl rfl rfl hp69) (y_move_int rfl) ?_
            refine ox_y (sees_t rfl rfl rfl rfl hp69) (y_mul rfl rfl) ?_
            refine ox_y (sees_t rfl rfl rfl rfl hp69) (y_eql rfl rfl) ?_
            refine ox_y rfl (y_pick_tb (congrArg Value.bool hp69) rfl) ?_
            exact key _ _ (keep (keep (keep (keep (keep (keep (keep (keep (keep (keep rfl rfl) rfl) rfl) rfl) rfl) rfl) rfl) rfl) rfl) (congrArg Value.bool (and_t hp69)))
          · refine ox_skip (sees_f rfl rfl rfl rfl hp69) ?_
            refine ox_skip (sees_f rfl rfl rfl rfl hp69) ?_
            refine ox_skip (sees_f rfl rfl rfl rfl hp69) ?_
            refine ox_skip (sees_f rfl rfl rfl rfl hp69) ?_
            refine ox_skip (sees_f rfl rfl rfl rfl hp69) ?_
            refine ox_skip (sees_f rfl rfl rfl rfl hp69) ?_
            refine ox_y rfl (y_pick_fb (congrArg Value.bool hp69) rfl) ?_
            exact key _ _ (keep (keep (keep (keep (keep (keep (keep (keep (keep (keep rfl rfl) rfl) rfl) rfl) rfl) rfl) rfl) rfl) rfl) (congrArg Value.bool (and_f hp69)))

end Go.Proofs.Ytepfgdfahinpkaa
