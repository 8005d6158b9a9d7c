/- The calls hand back what the plain functions say. -/
import Derived.Test.YtepfgdfahinpkaaF
import Derived.Test.YtepfgdfahinpkaaC1
import Derived.Test.YtepfgdfahinpkaaC2
set_option linter.unusedVariables false
set_option maxHeartbeats 4000000
namespace Go.Proofs.Ytepfgdfahinpkaa
open Go.RowKit (Below)
attribute [local irreducible] OX QX CX EX OpY Calls CallsIn

/-! calx/sample.Ways -/
set_option maxRecDepth 100000 in
theorem sample_Ways_ok (p0_whole : TKinds) (p1_seen : TKinds) (res : (Int × Int)) (h : sample_Ways p0_whole p1_seen = some res) (W : World)  :
    Calls Try.prog 30 [.agg #[.int .i64 p0_whole.x0, .int .i64 p0_whole.x1, .int .i64 p0_whole.x2], .agg #[.int .i64 p1_seen.x0, .int .i64 p1_seen.x1, .int .i64 p1_seen.x2]].toArray W fun e W2 => e = .returned (.tuple #[.int .i64 res.1, .int .i64 res.2]) ∧ Ext W W2 [] := by
  unfold sample_Ways at h
  refine calls_enter (m := 16) Try.func30 rfl rfl (Nat.le_of_ble_eq_true rfl) ?_
  refine cx_seq ?_
  refine cx_region ?_
  refine ox_box [.int .i64 p0_whole.x0, .int .i64 p0_whole.x1, .int .i64 p0_whole.x2] rfl rfl rfl (fun b1 => ?_)
  refine ox_box [.int .i64 p1_seen.x0, .int .i64 p1_seen.x1, .int .i64 p1_seen.x2] rfl rfl rfl (fun b2 => ?_)
  refine ox_y rfl (y_assign_int rfl) ?_
  refine ox_y rfl (y_assign_int rfl) ?_
  refine ox_nil ?_
  refine ex_then ?_
  refine cx_seq ?_
  refine cx_seq ?_
  refine cx_region ?_
  refine ox_y rfl (y_loadN 0 [.int .i64 p0_whole.x0, .int .i64 p0_whole.x1, .int .i64 p0_whole.x2] ag_43 rfl rfl rfl) ?_
  refine ox_y rfl (y_loadN 1 [.int .i64 p1_seen.x0, .int .i64 p1_seen.x1, .int .i64 p1_seen.x2] ag_43 rfl rfl rfl) ?_
  obtain ⟨y3, hy4, h⟩ := bind_some h
  refine ox_y rfl (y_call [.agg #[.int .i64 p0_whole.x0, .int .i64 p0_whole.x1, .int .i64 p0_whole.x2], .agg #[.int .i64 p1_seen.x0, .int .i64 p1_seen.x1, .int .i64 p1_seen.x2]] go_89 rfl (fun W2 hW2 => sample_seenOf_ok p0_whole p1_seen y3 hy4 W2 ) rfl) ?_
  refine ox_y rfl (y_assign_int rfl) ?_
  refine ox_nil ?_
  refine ex_then ?_
  refine cx_seq ?_
  refine cx_region ?_
  refine ox_y rfl (y_move_int rfl) ?_
  refine ox_y rfl (y_neq rfl rfl) ?_
  refine ox_nil ?_
  refine ex_then ?_
  rcases ite_some h with ⟨hp5, h⟩ | ⟨hp5, h⟩
  · refine cx_true (congrArg Value.bool hp5) ?_
    refine cx_seq ?_
    refine cx_region ?_
    refine ox_y rfl (y_move_int rfl) ?_
    refine ox_y rfl (y_assign_int rfl) ?_
    refine ox_y rfl (y_assign_int rfl) ?_
    refine ox_nil ?_
    refine ex_then ?_
    refine cx_ret ?_
    refine ex_then_ret ?_
    obtain rfl := Option.some.inj h
    exact ex_res2 (.inl rfl) rfl (resV_tmp (v := .int .i64 0) rfl) (resV_tmp (v := .int .i64 y3) rfl) (fun W2 hW2 => ⟨rfl, hW2.none⟩)
  · refine cx_false (congrArg Value.bool hp5) ?_
    refine cx_skip ?_
    refine ex_then ?_
    refine cx_seq ?_
    refine cx_region ?_
    refine ox_y rfl (y_loadN 0 [.int .i64 p0_whole.x0, .int .i64 p0_whole.x1, .int .i64 p0_whole.x2] ag_43 rfl rfl rfl) ?_
    refine ox_y rfl (y_loadN 1 [.int .i64 p1_seen.x0, .int .i64 p1_seen.x1, .int .i64 p1_seen.x2] ag_43 rfl rfl rfl) ?_
    obtain ⟨y6, hy7, h⟩ := bind_some h
    refine ox_y rfl (y_call [.agg #[.int .i64 p0_whole.x0, .int .i64 p0_whole.x1, .int .i64 p0_whole.x2], .agg #[.int .i64 p1_seen.x0, .int .i64 p1_seen.x1, .int .i64 p1_seen.x2]] go_90 rfl (fun W2 hW2 => sample_ways_ok p0_whole p1_seen y6 hy7 W2 ) rfl) ?_
    refine ox_y rfl (y_assign_int rfl) ?_
    refine ox_y rfl (y_assign_int rfl) ?_
    refine ox_nil ?_
    refine ex_then ?_
    refine cx_ret ?_
    obtain rfl := Option.some.inj h
    exact ex_res2 (.inl rfl) rfl (resV_tmp (v := .int .i64 y6) rfl) (resV_tmp (v := .int .i64 0) rfl) (fun W2 hW2 => ⟨rfl, hW2.none⟩)

/-! calx/calxlaw03.SampleAddsUp -/
set_option maxRecDepth 100000 in
theorem calxlaw03_SampleAddsUp_ok (p0 : TKinds) (p1 : Int) (res : Bool) (h : calxlaw03_SampleAddsUp p0 p1 = some res) (W : World)  :
    Calls Try.prog 7 [.agg #[.int .i64 p0.x0, .int .i64 p0.x1, .int .i64 p0.x2], .int .i64 p1].toArray W fun e W2 => e = .returned (.bool res) ∧ Ext W W2 [] := by
  unfold calxlaw03_SampleAddsUp at h
  refine calls_enter (m := 121) Try.func7 rfl rfl (Nat.le_of_ble_eq_true rfl) ?_
  refine cx_seq ?_
  refine cx_region ?_
  refine ox_box [.int .i64 p0.x0, .int .i64 p0.x1, .int .i64 p0.x2] rfl rfl rfl (fun b1 => ?_)
  refine ox_y rfl (y_assign_bool rfl) ?_
  refine ox_nil ?_
  refine ex_then ?_
  refine cx_seq ?_
  refine cx_region ?_
  obtain ⟨y2, hy3, h⟩ := bind_some h
  refine ox_y rfl (y_call [] go_22 rfl (fun W2 hW2 => calxlaw03_head_ok  y2 hy3 W2 ) rfl) ?_
  refine ox_y rfl (y_assign_bool rfl) ?_
  refine ox_nil ?_
  refine ex_then ?_
  refine cx_seq ?_
  refine cx_region ?_
  refine ox_y rfl (y_assign_int rfl) ?_
  refine ox_nil ?_
  refine ex_then ?_
  refine cx_seq ?_
  refine cx_seq ?_
  refine cx_region ?_
  refine ox_y rfl (y_assign_int rfl) ?_
  refine ox_nil ?_
  refine ex_then ?_
  refine cx_block ?_
  obtain ⟨u6, hl15, h⟩ := bind_some h
  refine cx_loop (fun (s : (Bool × Int × Int)) L tm => ∃ (tm0 : Nat → Value), L = [cellsR b1 43 [.int .i64 p0.x0, .int .i64 p0.x1, .int .i64 p0.x2]] ∧ tm = (upd (upd (upd (upd (upd (upd (upd tm0 0 (.agg #[.int .i64 p0.x0, .int .i64 p0.x1, .int .i64 p0.x2])) 1 (.int .i64 p1)) 2 (.pointer (some ⟨b1, 0, none⟩))) 4 (.bool s.1)) 5 (.bool y2)) 6 (.int .i64 s.2.1)) 7 (.int .i64 s.2.2))) (fun | (.inl s), e, L, tm => e = .ret ∧ ∃ (tm0 : Nat → Value), L = [cellsR b1 43 [.int .i64 p0.x0, .int .i64 p0.x1, .int .i64 p0.x2]] ∧ tm = (upd (upd (upd (upd (upd (upd (upd tm0 0 (.agg #[.int .i64 p0.x0, .int .i64 p0.x1, .int .i64 p0.x2])) 1 (.int .i64 p1)) 2 (.pointer (some ⟨b1, 0, none⟩))) 4 (.bool s.1)) 5 (.bool y2)) 6 (.int .i64 s.2.1)) 7 (.int .i64 s.2.2)) | (.inr s), e, L, tm => e = .exit 0 ∧ ∃ (tm0 : Nat → Value), L = [cellsR b1 43 [.int .i64 p0.x0, .int .i64 p0.x1, .int .i64 p0.x2]] ∧ tm = (upd (upd (upd (upd (upd (upd (upd tm0 0 (.agg #[.int .i64 p0.x0, .int .i64 p0.x1, .int .i64 p0.x2])) 1 (.int .i64 p1)) 2 (.pointer (some ⟨b1, 0, none⟩))) 4 (.bool s.1)) 5 (.bool y2)) 6 (.int .i64 s.2.1)) 7 (.int .i64 s.2.2))) hl15 ⟨_, rfl, (keep (keep (keep (keep (keep (keep (keep rfl rfl) rfl) rfl) rfl) rfl) rfl) rfl)⟩ ?_ ?_
  · rintro s5 L tm st ⟨tm0_s5, rfl, rfl⟩ h
    unfold calxlaw03_SampleAddsUp_l1 at h
    refine cx_seq ?_
    refine cx_seq ?_
    refine cx_region ?_
    refine ox_y rfl (y_move_int rfl) ?_
    refine ox_y rfl (y_lss rfl rfl) ?_
    refine ox_nil ?_
    refine ex_then ?_
    rcases ite_some h with ⟨hp7, h⟩ | ⟨hp7, h⟩
    · refine cx_true (congrArg Value.bool hp7) ?_
      refine cx_skip ?_
      refine ex_then ?_
      refine cx_seq ?_
      refine cx_block ?_
      refine cx_seq ?_
      refine cx_seq ?_
      refine cx_region ?_
      refine ox_y rfl (y_move_int rfl) ?_
      obtain ⟨hg8, h⟩ := guardO_some h
      refine ox_y rfl (y_indexArr ar_43 hg8.1 hg8.2 rfl rfl) ?_
      refine ox_y rfl (y_load1 0 (v := .int .i64 (sel3 p0.x0 p0.x1 p0.x2 s5.2.2)) sc_3 rfl rfl (by rcases in3 hg8 with e | e | e <;> rw [e] <;> rfl)) ?_
      refine ox_y rfl (y_lss rfl rfl) ?_
      refine ox_y rfl (y_move_bool rfl) ?_
      obtain ⟨b10, hb11, h⟩ := bind_some h
      refine ox_join 5 (fun tm0 => (upd (upd (upd (upd (upd (upd (upd (upd (upd tm0 0 (.agg #[.int .i64 p0.x0, .int .i64 p0.x1, .int .i64 p0.x2])) 1 (.int .i64 p1)) 2 (.pointer (some ⟨b1, 0, none⟩))) 4 (.bool s5.1)) 5 (.bool y2)) 6 (.int .i64 s5.2.1)) 7 (.int .i64 s5.2.2)) 19 (.bool (decide (s5.2.2 < 3)))) 31 (.bool b10))) (fun tm0 => ?_) (fun key => ?_)
      · refine ox_nil ?_
        refine ex_then ?_
        rcases ite_some h with ⟨hp12, h⟩ | ⟨hp12, h⟩
        · refine cx_true (congrArg Value.bool hp12) ?_
          refine cx_seq ?_
          refine cx_region ?_
          refine ox_y rfl (y_move_bool rfl) ?_
          refine ox_y rfl (y_assign_bool rfl) ?_
          refine ox_nil ?_
          refine ex_then ?_
          refine cx_ret ?_
          refine ex_then_ret ?_
          refine ex_block_ret ?_
          refine ex_then_ret ?_
          obtain rfl := Option.some.inj h
          exact ex_stop ⟨rfl, _, rfl, (keep (keep (keep (keep (keep (keep (keep rfl rfl) rfl) rfl) rfl) rfl) rfl) rfl)⟩
        · refine cx_false (congrArg Value.bool hp12) ?_
          refine cx_skip ?_
          refine ex_then ?_
          refine cx_region ?_
          refine ox_y rfl (y_move_int rfl) ?_
          refine ox_y rfl (y_move_int rfl) ?_
          obtain ⟨hg13, h⟩ := guardO_some h
          refine ox_y rfl (y_indexArr ar_43 hg13.1 hg13.2 rfl rfl) ?_
          refine ox_y rfl (y_load1 0 (v := .int .i64 (sel3 p0.x0 p0.x1 p0.x2 s5.2.2)) sc_3 rfl rfl (by rcases in3 hg13 with e | e | e <;> rw [e] <;> rfl)) ?_
          refine ox_y rfl (y_add rfl rfl) ?_
          refine ox_y rfl (y_assign_int rfl) ?_
          refine ox_nil ?_
          refine ex_block ?_
          refine ex_then ?_
          refine cx_region ?_
          refine ox_y rfl (y_move_int rfl) ?_
          refine ox_y rfl (y_add rfl rfl) ?_
          refine ox_y rfl (y_assign_int rfl) ?_
          refine ox_nil ?_
          obtain rfl := Option.some.inj h
          exact ex_next ⟨_, rfl, (keep (keep (keep (keep (keep (keep (keep rfl rfl) rfl) rfl) rfl) rfl) rfl) rfl)⟩
      · clear h; rcases ite_some hb11 with ⟨hp9, h⟩ | ⟨hp9, h⟩
        · refine ox_skip (sees_f rfl rfl rfl rfl hp9) ?_
          refine ox_skip (sees_f rfl rfl rfl rfl hp9) ?_
          refine ox_skip (sees_f rfl rfl rfl rfl hp9) ?_
          refine ox_skip (sees_f rfl rfl rfl rfl hp9) ?_
          refine ox_y rfl (y_pick_tb (congrArg Value.bool hp9) rfl) ?_
          obtain rfl := Option.some.inj h
          exact key _ _ (keep (keep (keep (keep (keep (keep (keep (keep (keep rfl rfl) rfl) rfl) rfl) rfl) rfl) rfl) rfl) rfl)
        · refine ox_y (sees_t rfl rfl rfl rfl hp9) (y_move_int rfl) ?_
          obtain ⟨hg14, h⟩ := guardO_some h
          refine ox_y (sees_t rfl rfl rfl rfl hp9) (y_indexArr ar_43 hg14.1 hg14.2 rfl rfl) ?_
          refine ox_y (sees_t rfl rfl rfl rfl hp9) (y_load1 0 (v := .int .i64 (sel3 p0.x0 p0.x1 p0.x2 s5.2.2)) sc_3 rfl rfl (by rcases in3 hg14 with e | e | e <;> rw [e] <;> rfl)) ?_
          refine ox_y (sees_t rfl rfl rfl rfl hp9) (y_gtr rfl rfl) ?_
          refine ox_y rfl (y_pick_fb (congrArg Value.bool hp9) rfl) ?_
          obtain rfl := Option.some.inj h
          exact key _ _ (keep (keep (keep (keep (keep (keep (keep (keep (keep rfl rfl) rfl) rfl) rfl) rfl) rfl) rfl) rfl) rfl)
    · refine cx_false (congrArg Value.bool hp7) ?_
      refine cx_exit ?_
      refine ex_then_exit ?_
      obtain rfl := Option.some.inj h
      exact ex_stop ⟨rfl, _, rfl, (keep (keep (keep (keep (keep (keep (keep rfl rfl) rfl) rfl) rfl) rfl) rfl) rfl)⟩
  · intro e L tm hJ
    rcases u6 with u16 | u17
    · dsimp only at h hJ
      obtain ⟨rfl, tm0_u16, rfl, rfl⟩ := hJ
      refine ⟨(by intro hc; cases hc), ?_⟩
      refine ex_block_ret ?_
      refine ex_then_ret ?_
      obtain rfl := Option.some.inj h
      exact ex_res1 (.inl rfl) rfl (resV_tmp (v := .bool u16.1) rfl) (fun W2 hW2 => ⟨rfl, hW2.none⟩)
    · dsimp only at h hJ
      obtain ⟨rfl, tm0_u17, rfl, rfl⟩ := hJ
      refine ⟨(by intro hc; cases hc), ?_⟩
      refine ex_block_here ?_
      refine ex_then ?_
      refine cx_seq ?_
      refine cx_seq ?_
      refine cx_region ?_
      refine ox_y rfl (y_move_int rfl) ?_
      refine ox_y rfl (y_lss rfl rfl) ?_
      refine ox_y rfl (y_move_bool rfl) ?_
      refine ox_join 3 (fun tm0 => (upd (upd (upd (upd (upd (upd (upd (upd tm0 0 (.agg #[.int .i64 p0.x0, .int .i64 p0.x1, .int .i64 p0.x2])) 1 (.int .i64 p1)) 2 (.pointer (some ⟨b1, 0, none⟩))) 4 (.bool u17.1)) 5 (.bool y2)) 6 (.int .i64 u17.2.1)) 7 (.int .i64 u17.2.2)) 43 (.bool ((decide (u17.2.1 < 1)) || (decide (20 < u17.2.1)))))) (fun tm0 => ?_) (fun key => ?_)
      · refine ox_y rfl (y_move_bool rfl) ?_
        refine ox_join 3 (fun tm0 => (upd (upd (upd (upd (upd (upd (upd (upd tm0 0 (.agg #[.int .i64 p0.x0, .int .i64 p0.x1, .int .i64 p0.x2])) 1 (.int .i64 p1)) 2 (.pointer (some ⟨b1, 0, none⟩))) 4 (.bool u17.1)) 5 (.bool y2)) 6 (.int .i64 u17.2.1)) 7 (.int .i64 u17.2.2)) 47 (.bool (((decide (u17.2.1 < 1)) || (decide (20 < u17.2.1))) || (decide (p1 < 0)))))) (fun tm0 => ?_) (fun key => ?_)
        · refine ox_y rfl (y_move_bool rfl) ?_
          refine ox_join 4 (fun tm0 => (upd (upd (upd (upd (upd (upd (upd (upd tm0 0 (.agg #[.int .i64 p0.x0, .int .i64 p0.x1, .int .i64 p0.x2])) 1 (.int .i64 p1)) 2 (.pointer (some ⟨b1, 0, none⟩))) 4 (.bool u17.1)) 5 (.bool y2)) 6 (.int .i64 u17.2.1)) 7 (.int .i64 u17.2.2)) 52 (.bool ((((decide (u17.2.1 < 1)) || (decide (20 < u17.2.1))) || (decide (p1 < 0))) || (decide (u17.2.1 < p1)))))) (fun tm0 => ?_) (fun key => ?_)
          · refine ox_nil ?_
            refine ex_then ?_
            rcases ite_some h with ⟨hp21, h⟩ | ⟨hp21, h⟩
            · refine cx_true (congrArg Value.bool hp21) ?_
              refine cx_seq ?_
              refine cx_region ?_
              refine ox_y rfl (y_move_bool rfl) ?_
              refine ox_y rfl (y_assign_bool rfl) ?_
              refine ox_nil ?_
              refine ex_then ?_
              refine cx_ret ?_
              refine ex_then_ret ?_
              obtain rfl := Option.some.inj h
              exact ex_res1 (.inl rfl) rfl (resV_tmp (v := .bool y2) rfl) (fun W2 hW2 => ⟨rfl, hW2.none⟩)
            · refine cx_false (congrArg Value.bool hp21) ?_
              refine cx_skip ?_
              refine ex_then ?_
              refine cx_seq ?_
              refine cx_region ?_
              refine ox_y rfl (y_move_int rfl) ?_
              refine ox_y rfl (y_move_int rfl) ?_
              obtain ⟨y22, hy23, h⟩ := bind_some h
              refine ox_y rfl (y_call [.int .i64 u17.2.1, .int .i64 p1] go_28 rfl (fun W2 hW2 => sample_Choose_ok u17.2.1 p1 y22 hy23 W2 ) rfl) ?_
              refine ox_y rfl (y_move_tuple rfl) ?_
              refine ox_y rfl (y_extract (vs := [.int .i64 y22.1, .int .i64 y22.2]) (v := .int .i64 y22.1) rfl rfl) ?_
              refine ox_y rfl (y_extract (vs := [.int .i64 y22.1, .int .i64 y22.2]) (v := .int .i64 y22.2) rfl rfl) ?_
              refine ox_y rfl (y_assign_int rfl) ?_
              refine ox_y rfl (y_assign_int rfl) ?_
              refine ox_nil ?_
              refine ex_then ?_
              refine cx_seq ?_
              refine cx_region ?_
              refine ox_y rfl (y_move_int rfl) ?_
              refine ox_y rfl (y_move_int rfl) ?_
              refine ox_y rfl (y_move_int rfl) ?_
              refine ox_y rfl (y_sub rfl rfl) ?_
              obtain ⟨y24, hy25, h⟩ := bind_some h
              refine ox_y rfl (y_call [.int .i64 u17.2.1, .int .i64 (w64 (u17.2.1 - p1))] go_28 rfl (fun W2 hW2 => sample_Choose_ok u17.2.1 (w64 (u17.2.1 - p1)) y24 hy25 W2 ) rfl) ?_
              refine ox_y rfl (y_move_tuple rfl) ?_
              refine ox_y rfl (y_extract (vs := [.int .i64 y24.1, .int .i64 y24.2]) (v := .int .i64 y24.1) rfl rfl) ?_
              refine ox_y rfl (y_extract (vs := [.int .i64 y24.1, .int .i64 y24.2]) (v := .int .i64 y24.2) rfl rfl) ?_
              refine ox_y rfl (y_assign_int rfl) ?_
              refine ox_y rfl (y_assign_int rfl) ?_
              refine ox_nil ?_
              refine ex_then ?_
              refine cx_seq ?_
              refine cx_region ?_
              refine ox_y rfl (y_assign_int rfl) ?_
              refine ox_nil ?_
              refine ex_then ?_
              refine cx_seq ?_
              refine cx_seq ?_
              refine cx_region ?_
              refine ox_y rfl (y_assign_int rfl) ?_
              refine ox_nil ?_
              refine ex_then ?_
              refine cx_block ?_
              obtain ⟨u28, hl40, h⟩ := bind_some h
              refine cx_loop (fun (s : (Bool × Int × Int)) L tm => ∃ (tm0 : Nat → Value), L = [cellsR b1 43 [.int .i64 p0.x0, .int .i64 p0.x1, .int .i64 p0.x2]] ∧ tm = (upd (upd (upd (upd (upd (upd (upd (upd (upd (upd (upd (upd (upd (upd tm0 0 (.agg #[.int .i64 p0.x0, .int .i64 p0.x1, .int .i64 p0.x2])) 1 (.int .i64 p1)) 2 (.pointer (some ⟨b1, 0, none⟩))) 4 (.bool s.1)) 5 (.bool y2)) 6 (.int .i64 u17.2.1)) 7 (.int .i64 u17.2.2)) 52 (.bool ((((decide (u17.2.1 < 1)) || (decide (20 < u17.2.1))) || (decide (p1 < 0))) || (decide (u17.2.1 < p1))))) 8 (.int .i64 y22.1)) 9 (.int .i64 y22.2)) 10 (.int .i64 y24.1)) 11 (.int .i64 y24.2)) 12 (.int .i64 s.2.1)) 13 (.int .i64 s.2.2))) (fun | (.inl s), e, L, tm => e = .ret ∧ ∃ (tm0 : Nat → Value), L = [cellsR b1 43 [.int .i64 p0.x0, .int .i64 p0.x1, .int .i64 p0.x2]] ∧ tm = (upd (upd (upd (upd (upd (upd (upd (upd (upd (upd (upd (upd (upd (upd tm0 0 (.agg #[.int .i64 p0.x0, .int .i64 p0.x1, .int .i64 p0.x2])) 1 (.int .i64 p1)) 2 (.pointer (some ⟨b1, 0, none⟩))) 4 (.bool s.1)) 5 (.bool y2)) 6 (.int .i64 u17.2.1)) 7 (.int .i64 u17.2.2)) 52 (.bool ((((decide (u17.2.1 < 1)) || (decide (20 < u17.2.1))) || (decide (p1 < 0))) || (decide (u17.2.1 < p1))))) 8 (.int .i64 y22.1)) 9 (.int .i64 y22.2)) 10 (.int .i64 y24.1)) 11 (.int .i64 y24.2)) 12 (.int .i64 s.2.1)) 13 (.int .i64 s.2.2)) | (.inr s), e, L, tm => e = .exit 2 ∧ ∃ (tm0 : Nat → Value), L = [cellsR b1 43 [.int .i64 p0.x0, .int .i64 p0.x1, .int .i64 p0.x2]] ∧ tm = (upd (upd (upd (upd (upd (upd (upd (upd (upd (upd (upd (upd (upd (upd tm0 0 (.agg #[.int .i64 p0.x0, .int .i64 p0.x1, .int .i64 p0.x2])) 1 (.int .i64 p1)) 2 (.pointer (some ⟨b1, 0, none⟩))) 4 (.bool s.1)) 5 (.bool y2)) 6 (.int .i64 u17.2.1)) 7 (.int .i64 u17.2.2)) 52 (.bool ((((decide (u17.2.1 < 1)) || (decide (20 < u17.2.1))) || (decide (p1 < 0))) || (decide (u17.2.1 < p1))))) 8 (.int .i64 y22.1)) 9 (.int .i64 y22.2)) 10 (.int .i64 y24.1)) 11 (.int .i64 y24.2)) 12 (.int .i64 s.2.1)) 13 (.int .i64 s.2.2))) hl40 ⟨_, rfl, (keep (keep (keep (keep (keep (keep (keep (keep (keep (keep (keep (keep (keep (keep rfl rfl) rfl) rfl) rfl) rfl) rfl) rfl) rfl) rfl) rfl) rfl) rfl) rfl) rfl)⟩ ?_ ?_
              · rintro s27 L tm st ⟨tm0_s27, rfl, rfl⟩ h
                unfold calxlaw03_SampleAddsUp_l2 at h
                refine cx_seq ?_
                refine cx_seq ?_
                refine cx_region ?_
                refine ox_y rfl (y_move_int rfl) ?_
                refine ox_y rfl (y_move_int rfl) ?_
                refine ox_y rfl (y_leq rfl rfl) ?_
                refine ox_nil ?_
                refine ex_then ?_
                rcases ite_some h with ⟨hp29, h⟩ | ⟨hp29, h⟩
                · refine cx_true (congrArg Value.bool hp29) ?_
                  refine cx_skip ?_
                  refine ex_then ?_
                  refine cx_seq ?_
                  refine cx_block ?_
                  refine cx_seq ?_
                  refine cx_region ?_
                  refine ox_y rfl (y_assign_int rfl) ?_
                  refine ox_nil ?_
                  refine ex_then ?_
                  refine cx_block ?_
                  obtain ⟨u32, hl37, h⟩ := bind_some h
                  refine cx_loop (fun (s : (Bool × Int × Int)) L tm => ∃ (tm0 : Nat → Value), L = [cellsR b1 43 [.int .i64 p0.x0, .int .i64 p0.x1, .int .i64 p0.x2]] ∧ tm = (upd (upd (upd (upd (upd (upd (upd (upd (upd (upd (upd (upd (upd (upd (upd (upd tm0 0 (.agg #[.int .i64 p0.x0, .int .i64 p0.x1, .int .i64 p0.x2])) 1 (.int .i64 p1)) 2 (.pointer (some ⟨b1, 0, none⟩))) 4 (.bool s.1)) 5 (.bool y2)) 6 (.int .i64 u17.2.1)) 7 (.int .i64 u17.2.2)) 52 (.bool ((((decide (u17.2.1 < 1)) || (decide (20 < u17.2.1))) || (decide (p1 < 0))) || (decide (u17.2.1 < p1))))) 8 (.int .i64 y22.1)) 9 (.int .i64 y22.2)) 10 (.int .i64 y24.1)) 11 (.int .i64 y24.2)) 12 (.int .i64 s.2.1)) 13 (.int .i64 s27.2.2)) 70 (.bool (decide (s27.2.2 ≤ p1)))) 14 (.int .i64 s.2.2))) (fun | (.inl s), e, L, tm => e = .ret ∧ ∃ (tm0 : Nat → Value), L = [cellsR b1 43 [.int .i64 p0.x0, .int .i64 p0.x1, .int .i64 p0.x2]] ∧ tm = (upd (upd (upd (upd (upd (upd (upd (upd (upd (upd (upd (upd (upd (upd (upd (upd tm0 0 (.agg #[.int .i64 p0.x0, .int .i64 p0.x1, .int .i64 p0.x2])) 1 (.int .i64 p1)) 2 (.pointer (some ⟨b1, 0, none⟩))) 4 (.bool s.1)) 5 (.bool y2)) 6 (.int .i64 u17.2.1)) 7 (.int .i64 u17.2.2)) 52 (.bool ((((decide (u17.2.1 < 1)) || (decide (20 < u17.2.1))) || (decide (p1 < 0))) || (decide (u17.2.1 < p1))))) 8 (.int .i64 y22.1)) 9 (.int .i64 y22.2)) 10 (.int .i64 y24.1)) 11 (.int .i64 y24.2)) 12 (.int .i64 s.2.1)) 13 (.int .i64 s27.2.2)) 70 (.bool (decide (s27.2.2 ≤ p1)))) 14 (.int .i64 s.2.2)) | (.inr s), e, L, tm => e = .exit 4 ∧ ∃ (tm0 : Nat → Value), L = [cellsR b1 43 [.int .i64 p0.x0, .int .i64 p0.x1, .int .i64 p0.x2]] ∧ tm = (upd (upd (upd (upd (upd (upd (upd (upd (upd (upd (upd (upd (upd (upd (upd (upd tm0 0 (.agg #[.int .i64 p0.x0, .int .i64 p0.x1, .int .i64 p0.x2])) 1 (.int .i64 p1)) 2 (.pointer (some ⟨b1, 0, none⟩))) 4 (.bool s.1)) 5 (.bool y2)) 6 (.int .i64 u17.2.1)) 7 (.int .i64 u17.2.2)) 52 (.bool ((((decide (u17.2.1 < 1)) || (decide (20 < u17.2.1))) || (decide (p1 < 0))) || (decide (u17.2.1 < p1))))) 8 (.int .i64 y22.1)) 9 (.int .i64 y22.2)) 10 (.int .i64 y24.1)) 11 (.int .i64 y24.2)) 12 (.int .i64 s.2.1)) 13 (.int .i64 s27.2.2)) 70 (.bool (decide (s27.2.2 ≤ p1)))) 14 (.int .i64 s.2.2))) hl37 ⟨_, rfl, (keep (keep (keep (keep (keep (keep (keep (keep (keep (keep (keep (keep (keep (keep (keep (keep rfl rfl) rfl) rfl) rfl) rfl) rfl) rfl) rfl) rfl) rfl) rfl) rfl) rfl) rfl) rfl) rfl)⟩ ?_ ?_
                  · rintro s31 L tm st ⟨tm0_s31, rfl, rfl⟩ h
                    unfold calxlaw03_SampleAddsUp_l3 at h
                    refine cx_seq ?_
                    refine cx_seq ?_
                    refine cx_region ?_
                    refine ox_y rfl (y_move_int rfl) ?_
                    refine ox_y rfl (y_move_int rfl) ?_
                    refine ox_y rfl (y_add rfl rfl) ?_
                    refine ox_y rfl (y_move_int rfl) ?_
                    refine ox_y rfl (y_leq rfl rfl) ?_
                    refine ox_nil ?_
                    refine ex_then ?_
                    rcases ite_some h with ⟨hp33, h⟩ | ⟨hp33, h⟩
                    · refine cx_true (congrArg Value.bool hp33) ?_
                      refine cx_skip ?_
                      refine ex_then ?_
                      refine cx_seq ?_
                      refine cx_block ?_
                      refine cx_seq ?_
                      refine cx_region ?_
                      refine ox_y rfl (y_loadN 0 [.int .i64 p0.x0, .int .i64 p0.x1, .int .i64 p0.x2] ag_43 rfl rfl rfl) ?_
                      refine ox_y rfl (y_move_int rfl) ?_
                      refine ox_y rfl (y_move_int rfl) ?_
                      refine ox_y rfl (y_move_int rfl) ?_
                      refine ox_y rfl (y_move_int rfl) ?_
                      refine ox_y rfl (y_sub rfl rfl) ?_
                      refine ox_y rfl (y_move_int rfl) ?_
                      refine ox_y rfl (y_sub rfl rfl) ?_
                      refine ox_y rfl (y_buildA [.int .i64 s27.2.2, .int .i64 s31.2.2, .int .i64 (w64 ((w64 (p1 - s27.2.2)) - s31.2.2))] ua_43 ze_43 sz_3 (by kernel_rfl)) ?_
                      obtain ⟨y34, hy35, h⟩ := bind_some h
                      refine ox_y rfl (y_call [.agg #[.int .i64 p0.x0, .int .i64 p0.x1, .int .i64 p0.x2], .agg #[.int .i64 s27.2.2, .int .i64 s31.2.2, .int .i64 (w64 ((w64 (p1 - s27.2.2)) - s31.2.2))]] go_30 rfl (fun W2 hW2 => sample_Ways_ok p0 (TKinds.mk s27.2.2 s31.2.2 (w64 ((w64 (p1 - s27.2.2)) - s31.2.2))) y34 hy35 W2 ) rfl) ?_
                      refine ox_y rfl (y_move_tuple rfl) ?_
                      refine ox_y rfl (y_extract (vs := [.int .i64 y34.1, .int .i64 y34.2]) (v := .int .i64 y34.1) rfl rfl) ?_
                      refine ox_y rfl (y_extract (vs := [.int .i64 y34.1, .int .i64 y34.2]) (v := .int .i64 y34.2) rfl rfl) ?_
                      refine ox_y rfl (y_assign_int rfl) ?_
                      refine ox_y rfl (y_assign_int rfl) ?_
                      refine ox_nil ?_
                      refine ex_then ?_
                      refine cx_seq ?_
                      refine cx_seq ?_
                      refine cx_region ?_
                      refine ox_y rfl (y_move_int rfl) ?_
                      refine ox_y rfl (y_neq rfl rfl) ?_
                      refine ox_nil ?_
                      refine ex_then ?_
                      rcases ite_some h with ⟨hp36, h⟩ | ⟨hp36, h⟩
                      · refine cx_true (congrArg Value.bool hp36) ?_
                        refine cx_seq ?_
                        refine cx_region ?_
                        refine ox_y rfl (y_assign_bool rfl) ?_
                        refine ox_nil ?_
                        refine ex_then ?_
                        refine cx_ret ?_
                        refine ex_then_ret ?_
                        refine ex_block_ret ?_
                        refine ex_then_ret ?_
                        obtain rfl := Option.some.inj h
                        exact ex_stop ⟨rfl, _, rfl, (keep (keep (keep (keep (keep (keep (keep (keep (keep (keep (keep (keep (keep (keep (keep (keep rfl rfl) rfl) rfl) rfl) rfl) rfl) rfl) rfl) rfl) rfl) rfl) rfl) rfl) rfl) rfl) rfl)⟩
                      · refine cx_false (congrArg Value.bool hp36) ?_
                        refine cx_skip ?_
                        refine ex_then ?_
                        refine cx_region ?_
                        refine ox_y rfl (y_move_int rfl) ?_
                        refine ox_y rfl (y_move_int rfl) ?_
                        refine ox_y rfl (y_add rfl rfl) ?_
                        refine ox_y rfl (y_assign_int rfl) ?_
                        refine ox_nil ?_
                        refine ex_block ?_
                        refine ex_then ?_
                        refine cx_region ?_
                        refine ox_y rfl (y_move_int rfl) ?_
                        refine ox_y rfl (y_add rfl rfl) ?_
                        refine ox_y rfl (y_assign_int rfl) ?_
                        refine ox_nil ?_
                        obtain rfl := Option.some.inj h
                        exact ex_next ⟨_, rfl, (keep (keep (keep (keep (keep (keep (keep (keep (keep (keep (keep (keep (keep (keep (keep (keep rfl rfl) rfl) rfl) rfl) rfl) rfl) rfl) rfl) rfl) rfl) rfl) rfl) rfl) rfl) rfl) rfl)⟩
                    · refine cx_false (congrArg Value.bool hp33) ?_
                      refine cx_exit ?_
                      refine ex_then_exit ?_
                      obtain rfl := Option.some.inj h
                      exact ex_stop ⟨rfl, _, rfl, (keep (keep (keep (keep (keep (keep (keep (keep (keep (keep (keep (keep (keep (keep (keep (keep rfl rfl) rfl) rfl) rfl) rfl) rfl) rfl) rfl) rfl) rfl) rfl) rfl) rfl) rfl) rfl) rfl)⟩
                  · intro e L tm hJ
                    rcases u32 with u38 | u39
                    · dsimp only at h hJ
                      obtain ⟨rfl, tm0_u38, rfl, rfl⟩ := hJ
                      refine ⟨(by intro hc; cases hc), ?_⟩
                      refine ex_block_ret ?_
                      refine ex_block_ret ?_
                      refine ex_then_ret ?_
                      obtain rfl := Option.some.inj h
                      exact ex_stop ⟨rfl, _, rfl, (keep (keep (keep (keep (keep (keep (keep (keep (keep (keep (keep (keep (keep (keep rfl rfl) rfl) rfl) rfl) rfl) rfl) rfl) rfl) rfl) rfl) rfl) rfl) rfl) rfl)⟩
                    · dsimp only at h hJ
                      obtain ⟨rfl, tm0_u39, rfl, rfl⟩ := hJ
                      refine ⟨(by intro hc; cases hc), ?_⟩
                      refine ex_block_here ?_
                      refine ex_block ?_
                      refine ex_then ?_
                      refine cx_region ?_
                      refine ox_y rfl (y_move_int rfl) ?_
                      refine ox_y rfl (y_add rfl rfl) ?_
                      refine ox_y rfl (y_assign_int rfl) ?_
                      refine ox_nil ?_
                      obtain rfl := Option.some.inj h
                      exact ex_next ⟨_, rfl, (keep (keep (keep (keep (keep (keep (keep (keep (keep (keep (keep (keep (keep (keep rfl rfl) rfl) rfl) rfl) rfl) rfl) rfl) rfl) rfl) rfl) rfl) rfl) rfl) rfl)⟩
                · refine cx_false (congrArg Value.bool hp29) ?_
                  refine cx_exit ?_
                  refine ex_then_exit ?_
                  obtain rfl := Option.some.inj h
                  exact ex_stop ⟨rfl, _, rfl, (keep (keep (keep (keep (keep (keep (keep (keep (keep (keep (keep (keep (keep (keep rfl rfl) rfl) rfl) rfl) rfl) rfl) rfl) rfl) rfl) rfl) rfl) rfl) rfl) rfl)⟩
              · intro e L tm hJ
                rcases u28 with u41 | u42
                · dsimp only at h hJ
                  obtain ⟨rfl, tm0_u41, rfl, rfl⟩ := hJ
                  refine ⟨(by intro hc; cases hc), ?_⟩
                  refine ex_block_ret ?_
                  refine ex_then_ret ?_
                  obtain rfl := Option.some.inj h
                  exact ex_res1 (.inl rfl) rfl (resV_tmp (v := .bool u41.1) rfl) (fun W2 hW2 => ⟨rfl, hW2.none⟩)
                · dsimp only at h hJ
                  obtain ⟨rfl, tm0_u42, rfl, rfl⟩ := hJ
                  refine ⟨(by intro hc; cases hc), ?_⟩
                  refine ex_block_here ?_
                  refine ex_then ?_
                  refine cx_seq ?_
                  refine cx_region ?_
                  refine ox_y rfl (y_move_bool rfl) ?_
                  refine ox_y rfl (y_move_bool rfl) ?_
                  refine ox_join 3 (fun tm0 => (upd (upd (upd (upd (upd (upd (upd (upd (upd (upd (upd (upd (upd (upd (upd tm0 0 (.agg #[.int .i64 p0.x0, .int .i64 p0.x1, .int .i64 p0.x2])) 1 (.int .i64 p1)) 2 (.pointer (some ⟨b1, 0, none⟩))) 4 (.bool u42.1)) 5 (.bool y2)) 6 (.int .i64 u17.2.1)) 7 (.int .i64 u17.2.2)) 52 (.bool ((((decide (u17.2.1 < 1)) || (decide (20 < u17.2.1))) || (decide (p1 < 0))) || (decide (u17.2.1 < p1))))) 8 (.int .i64 y22.1)) 9 (.int .i64 y22.2)) 10 (.int .i64 y24.1)) 11 (.int .i64 y24.2)) 12 (.int .i64 u42.2.1)) 13 (.int .i64 u42.2.2)) 102 (.bool (y2 && (y22.2 == 0))))) (fun tm0 => ?_) (fun key => ?_)
                  · refine ox_y rfl (y_move_bool rfl) ?_
                    refine ox_join 3 (fun tm0 => (upd (upd (upd (upd (upd (upd (upd (upd (upd (upd (upd (upd (upd (upd (upd tm0 0 (.agg #[.int .i64 p0.x0, .int .i64 p0.x1, .int .i64 p0.x2])) 1 (.int .i64 p1)) 2 (.pointer (some ⟨b1, 0, none⟩))) 4 (.bool u42.1)) 5 (.bool y2)) 6 (.int .i64 u17.2.1)) 7 (.int .i64 u17.2.2)) 52 (.bool ((((decide (u17.2.1 < 1)) || (decide (20 < u17.2.1))) || (decide (p1 < 0))) || (decide (u17.2.1 < p1))))) 8 (.int .i64 y22.1)) 9 (.int .i64 y22.2)) 10 (.int .i64 y24.1)) 11 (.int .i64 y24.2)) 12 (.int .i64 u42.2.1)) 13 (.int .i64 u42.2.2)) 106 (.bool ((y2 && (y22.2 == 0)) && (y24.2 == 0))))) (fun tm0 => ?_) (fun key => ?_)
                    · refine ox_y rfl (y_move_bool rfl) ?_
                      refine ox_join 4 (fun tm0 => (upd (upd (upd (upd (upd (upd (upd (upd (upd (upd (upd (upd (upd (upd (upd tm0 0 (.agg #[.int .i64 p0.x0, .int .i64 p0.x1, .int .i64 p0.x2])) 1 (.int .i64 p1)) 2 (.pointer (some ⟨b1, 0, none⟩))) 4 (.bool u42.1)) 5 (.bool y2)) 6 (.int .i64 u17.2.1)) 7 (.int .i64 u17.2.2)) 52 (.bool ((((decide (u17.2.1 < 1)) || (decide (20 < u17.2.1))) || (decide (p1 < 0))) || (decide (u17.2.1 < p1))))) 8 (.int .i64 y22.1)) 9 (.int .i64 y22.2)) 10 (.int .i64 y24.1)) 11 (.int .i64 y24.2)) 12 (.int .i64 u42.2.1)) 13 (.int .i64 u42.2.2)) 111 (.bool (((y2 && (y22.2 == 0)) && (y24.2 == 0)) && (u42.2.1 == y22.1))))) (fun tm0 => ?_) (fun key => ?_)
                      · refine ox_y rfl (y_move_bool rfl) ?_
                        refine ox_join 4 (fun tm0 => (upd (upd (upd (upd (upd (upd (upd (upd (upd (upd (upd (upd (upd (upd (upd tm0 0 (.agg #[.int .i64 p0.x0, .int .i64 p0.x1, .int .i64 p0.x2])) 1 (.int .i64 p1)) 2 (.pointer (some ⟨b1, 0, none⟩))) 4 (.bool u42.1)) 5 (.bool y2)) 6 (.int .i64 u17.2.1)) 7 (.int .i64 u17.2.2)) 52 (.bool ((((decide (u17.2.1 < 1)) || (decide (20 < u17.2.1))) || (decide (p1 < 0))) || (decide (u17.2.1 < p1))))) 8 (.int .i64 y22.1)) 9 (.int .i64 y22.2)) 10 (.int .i64 y24.1)) 11 (.int .i64 y24.2)) 12 (.int .i64 u42.2.1)) 13 (.int .i64 u42.2.2)) 116 (.bool ((((y2 && (y22.2 == 0)) && (y24.2 == 0)) && (u42.2.1 == y22.1)) && (y24.1 == y22.1))))) (fun tm0 => ?_) (fun key => ?_)
                        · refine ox_y rfl (y_move_bool rfl) ?_
                          refine ox_join 3 (fun tm0 => (upd (upd (upd (upd (upd (upd (upd (upd (upd (upd (upd (upd (upd (upd (upd tm0 0 (.agg #[.int .i64 p0.x0, .int .i64 p0.x1, .int .i64 p0.x2])) 1 (.int .i64 p1)) 2 (.pointer (some ⟨b1, 0, none⟩))) 4 (.bool u42.1)) 5 (.bool y2)) 6 (.int .i64 u17.2.1)) 7 (.int .i64 u17.2.2)) 52 (.bool ((((decide (u17.2.1 < 1)) || (decide (20 < u17.2.1))) || (decide (p1 < 0))) || (decide (u17.2.1 < p1))))) 8 (.int .i64 y22.1)) 9 (.int .i64 y22.2)) 10 (.int .i64 y24.1)) 11 (.int .i64 y24.2)) 12 (.int .i64 u42.2.1)) 13 (.int .i64 u42.2.2)) 120 (.bool (((((y2 && (y22.2 == 0)) && (y24.2 == 0)) && (u42.2.1 == y22.1)) && (y24.1 == y22.1)) && (decide (1 ≤ y22.1)))))) (fun tm0 => ?_) (fun key => ?_)
                          · refine ox_y rfl (y_assign_bool rfl) ?_
                            refine ox_nil ?_
                            refine ex_then ?_
                            refine cx_ret ?_
                            obtain rfl := Option.some.inj h
                            exact ex_res1 (.inl rfl) rfl (resV_tmp (v := .bool (((((y2 && (y22.2 == 0)) && (y24.2 == 0)) && (u42.2.1 == y22.1)) && (y24.1 == y22.1)) && (decide (1 ≤ y22.1)))) rfl) (fun W2 hW2 => ⟨rfl, hW2.none⟩)
                          · rcases bool_cases ((((y2 && (y22.2 == 0)) && (y24.2 == 0)) && (u42.2.1 == y22.1)) && (y24.1 == y22.1)) with hp47 | hp47
                            · refine ox_y (sees_t rfl rfl rfl rfl hp47) (y_move_int rfl) ?_
                              refine ox_y (sees_t rfl rfl rfl rfl hp47) (y_geq rfl rfl) ?_
                              refine ox_y rfl (y_pick_tb (congrArg Value.bool hp47) rfl) ?_
                              exact key _ _ (keep (keep (keep (keep (keep (keep (keep (keep (keep (keep (keep (keep (keep (keep (keep rfl rfl) rfl) rfl) rfl) rfl) rfl) rfl) rfl) rfl) rfl) rfl) rfl) rfl) rfl) (congrArg Value.bool (and_t hp47)))
                            · refine ox_skip (sees_f rfl rfl rfl rfl hp47) ?_
                              refine ox_skip (sees_f rfl rfl rfl rfl hp47) ?_
                              refine ox_y rfl (y_pick_fb (congrArg Value.bool hp47) rfl) ?_
                              exact key _ _ (keep (keep (keep (keep (keep (keep (keep (keep (keep (keep (keep (keep (keep (keep (keep rfl rfl) rfl) rfl) rfl) rfl) rfl) rfl) rfl) rfl) rfl) rfl) rfl) rfl) rfl) (congrArg Value.bool (and_f hp47)))
                        · rcases bool_cases (((y2 && (y22.2 == 0)) && (y24.2 == 0)) && (u42.2.1 == y22.1)) with hp46 | hp46
                          · refine ox_y (sees_t rfl rfl rfl rfl hp46) (y_move_int rfl) ?_
                            refine ox_y (sees_t rfl rfl rfl rfl hp46) (y_move_int rfl) ?_
                            refine ox_y (sees_t rfl rfl rfl rfl hp46) (y_eql rfl rfl) ?_
                            refine ox_y rfl (y_pick_tb (congrArg Value.bool hp46) rfl) ?_
                            exact key _ _ (keep (keep (keep (keep (keep (keep (keep (keep (keep (keep (keep (keep (keep (keep (keep rfl rfl) rfl) rfl) rfl) rfl) rfl) rfl) rfl) rfl) rfl) rfl) rfl) rfl) rfl) (congrArg Value.bool (and_t hp46)))
                          · refine ox_skip (sees_f rfl rfl rfl rfl hp46) ?_
                            refine ox_skip (sees_f rfl rfl rfl rfl hp46) ?_
                            refine ox_skip (sees_f rfl rfl rfl rfl hp46) ?_
                            refine ox_y rfl (y_pick_fb (congrArg Value.bool hp46) rfl) ?_
                            exact key _ _ (keep (keep (keep (keep (keep (keep (keep (keep (keep (keep (keep (keep (keep (keep (keep rfl rfl) rfl) rfl) rfl) rfl) rfl) rfl) rfl) rfl) rfl) rfl) rfl) rfl) rfl) (congrArg Value.bool (and_f hp46)))
                      · rcases bool_cases ((y2 && (y22.2 == 0)) && (y24.2 == 0)) with hp45 | hp45
                        · refine ox_y (sees_t rfl rfl rfl rfl hp45) (y_move_int rfl) ?_
                          refine ox_y (sees_t rfl rfl rfl rfl hp45) (y_move_int rfl) ?_
                          refine ox_y (sees_t rfl rfl rfl rfl hp45) (y_eql rfl rfl) ?_
                          refine ox_y rfl (y_pick_tb (congrArg Value.bool hp45) rfl) ?_
                          exact key _ _ (keep (keep (keep (keep (keep (keep (keep (keep (keep (keep (keep (keep (keep (keep (keep rfl rfl) rfl) rfl) rfl) rfl) rfl) rfl) rfl) rfl) rfl) rfl) rfl) rfl) rfl) (congrArg Value.bool (and_t hp45)))
                        · refine ox_skip (sees_f rfl rfl rfl rfl hp45) ?_
                          refine ox_skip (sees_f rfl rfl rfl rfl hp45) ?_
                          refine ox_skip (sees_f rfl rfl rfl rfl hp45) ?_
                          refine ox_y rfl (y_pick_fb (congrArg Value.bool hp45) rfl) ?_
                          exact key _ _ (keep (keep (keep (keep (keep (keep (keep (keep (keep (keep (keep (keep (keep (keep (keep rfl rfl) rfl) rfl) rfl) rfl) rfl) rfl) rfl) rfl) rfl) rfl) rfl) rfl) rfl) (congrArg Value.bool (and_f hp45)))
                    · rcases bool_cases (y2 && (y22.2 == 0)) with hp44 | hp44
                      · refine ox_y (sees_t rfl rfl rfl rfl hp44) (y_move_int rfl) ?_
                        refine ox_y (sees_t rfl rfl rfl rfl hp44) (y_eql rfl rfl) ?_
                        refine ox_y rfl (y_pick_tb (congrArg Value.bool hp44) rfl) ?_
                        exact key _ _ (keep (keep (keep (keep (keep (keep (keep (keep (keep (keep (keep (keep (keep (keep (keep rfl rfl) rfl) rfl) rfl) rfl) rfl) rfl) rfl) rfl) rfl) rfl) rfl) rfl) rfl) (congrArg Value.bool (and_t hp44)))
                      · refine ox_skip (sees_f rfl rfl rfl rfl hp44) ?_
                        refine ox_skip (sees_f rfl rfl rfl rfl hp44) ?_
                        refine ox_y rfl (y_pick_fb (congrArg Value.bool hp44) rfl) ?_
                        exact key _ _ (keep (keep (keep (keep (keep (keep (keep (keep (keep (keep (keep (keep (keep (keep (keep rfl rfl) rfl) rfl) rfl) rfl) rfl) rfl) rfl) rfl) rfl) rfl) rfl) rfl) rfl) (congrArg Value.bool (and_f hp44)))
                  · rcases bool_cases y2 with hp43 | hp43
                    · refine ox_y (sees_t rfl rfl rfl rfl hp43) (y_move_int rfl) ?_
                      refine ox_y (sees_t rfl rfl rfl rfl hp43) (y_eql rfl rfl) ?_
                      refine ox_y rfl (y_pick_tb (congrArg Value.bool hp43) rfl) ?_
                      exact key _ _ (keep (keep (keep (keep (keep (keep (keep (keep (keep (keep (keep (keep (keep (keep (keep rfl rfl) rfl) rfl) rfl) rfl) rfl) rfl) rfl) rfl) rfl) rfl) rfl) rfl) rfl) (congrArg Value.bool (and_t hp43)))
                    · refine ox_skip (sees_f rfl rfl rfl rfl hp43) ?_
                      refine ox_skip (sees_f rfl rfl rfl rfl hp43) ?_
                      refine ox_y rfl (y_pick_fb (congrArg Value.bool hp43) rfl) ?_
                      exact key _ _ (keep (keep (keep (keep (keep (keep (keep (keep (keep (keep (keep (keep (keep (keep (keep rfl rfl) rfl) rfl) rfl) rfl) rfl) rfl) rfl) rfl) rfl) rfl) rfl) rfl) rfl) (congrArg Value.bool (and_f hp43)))
          · rcases bool_cases (((decide (u17.2.1 < 1)) || (decide (20 < u17.2.1))) || (decide (p1 < 0))) with hp20 | hp20
            · refine ox_skip (sees_f rfl rfl rfl rfl hp20) ?_
              refine ox_skip (sees_f rfl rfl rfl rfl hp20) ?_
              refine ox_skip (sees_f rfl rfl rfl rfl hp20) ?_
              refine ox_y rfl (y_pick_tb (congrArg Value.bool hp20) rfl) ?_
              exact key _ _ (keep (keep (keep (keep (keep (keep (keep (keep rfl rfl) rfl) rfl) rfl) rfl) rfl) rfl) (congrArg Value.bool (or_t hp20)))
            · refine ox_y (sees_t rfl rfl rfl rfl hp20) (y_move_int rfl) ?_
              refine ox_y (sees_t rfl rfl rfl rfl hp20) (y_move_int rfl) ?_
              refine ox_y (sees_t rfl rfl rfl rfl hp20) (y_gtr rfl rfl) ?_
              refine ox_y rfl (y_pick_fb (congrArg Value.bool hp20) rfl) ?_
              exact key _ _ (keep (keep (keep (keep (keep (keep (keep (keep rfl rfl) rfl) rfl) rfl) rfl) rfl) rfl) (congrArg Value.bool (or_f hp20)))
        · rcases bool_cases ((decide (u17.2.1 < 1)) || (decide (20 < u17.2.1))) with hp19 | hp19
          · refine ox_skip (sees_f rfl rfl rfl rfl hp19) ?_
            refine ox_skip (sees_f rfl rfl rfl rfl hp19) ?_
            refine ox_y rfl (y_pick_tb (congrArg Value.bool hp19) rfl) ?_
            exact key _ _ (keep (keep (keep (keep (keep (keep (keep (keep rfl rfl) rfl) rfl) rfl) rfl) rfl) rfl) (congrArg Value.bool (or_t hp19)))
          · refine ox_y (sees_t rfl rfl rfl rfl hp19) (y_move_int rfl) ?_
            refine ox_y (sees_t rfl rfl rfl rfl hp19) (y_lss rfl rfl) ?_
            refine ox_y rfl (y_pick_fb (congrArg Value.bool hp19) rfl) ?_
            exact key _ _ (keep (keep (keep (keep (keep (keep (keep (keep rfl rfl) rfl) rfl) rfl) rfl) rfl) rfl) (congrArg Value.bool (or_f hp19)))
      · rcases bool_cases (decide (u17.2.1 < 1)) with hp18 | hp18
        · refine ox_skip (sees_f rfl rfl rfl rfl hp18) ?_
          refine ox_skip (sees_f rfl rfl rfl rfl hp18) ?_
          refine ox_y rfl (y_pick_tb (congrArg Value.bool hp18) rfl) ?_
          exact key _ _ (keep (keep (keep (keep (keep (keep (keep (keep rfl rfl) rfl) rfl) rfl) rfl) rfl) rfl) (congrArg Value.bool (or_t hp18)))
        · refine ox_y (sees_t rfl rfl rfl rfl hp18) (y_move_int rfl) ?_
          refine ox_y (sees_t rfl rfl rfl rfl hp18) (y_gtr rfl rfl) ?_
          refine ox_y rfl (y_pick_fb (congrArg Value.bool hp18) rfl) ?_
          exact key _ _ (keep (keep (keep (keep (keep (keep (keep (keep rfl rfl) rfl) rfl) rfl) rfl) rfl) rfl) (congrArg Value.bool (or_f hp18)))

end Go.Proofs.Ytepfgdfahinpkaa
