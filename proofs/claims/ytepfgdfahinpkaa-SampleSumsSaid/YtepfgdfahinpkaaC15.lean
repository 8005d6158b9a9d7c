/- The calls hand back what the plain functions say. -/
import Derived.Test.YtepfgdfahinpkaaF
import Derived.Test.YtepfgdfahinpkaaC1
import Derived.Test.YtepfgdfahinpkaaC3
import Derived.Test.YtepfgdfahinpkaaC4
set_option linter.unusedVariables false
set_option maxHeartbeats 4000000
namespace Go.Proofs.Ytepfgdfahinpkaa
open Go.RowKit (Below)
attribute [local irreducible] OX QX CX EX OpY Calls CallsIn

/-! calx/calxlaw03.SampleSums -/
set_option maxRecDepth 100000 in
theorem calxlaw03_SampleSums_ok (p0 : (List TBatch)) (p1 : Int) (p2 : TSpan) (p3 : Int) (p4 : Int) (res : Bool) (h : calxlaw03_SampleSums p0 p1 p2 p3 p4 = some res) (W : World) (A0_0 : Option Addr) (n0_0 c0_0 : Nat) (hn0_0 : n0_0 = p0.length) (hr0_0 : Rd W A0_0 n0_0 c0_0 (encL TBatch_cells p0)) :
    Calls Try.prog 9 [.slice A0_0 n0_0 c0_0, .int .i64 p1, .agg #[.int .i64 p2.fLo, .int .i64 p2.fHi], .int .u8 p3, .int .u8 p4].toArray W fun e W2 => e = .returned (.bool res) ∧ Ext W W2 [] := by
  subst hn0_0
  unfold calxlaw03_SampleSums at h
  refine calls_enter (m := 344) Try.func9 rfl rfl (Nat.le_of_ble_eq_true rfl) ?_
  refine cx_seq ?_
  refine cx_region ?_
  refine ox_box [.int .i64 p2.fLo, .int .i64 p2.fHi] rfl rfl rfl (fun b1 => ?_)
  refine ox_y rfl (y_assign_bool rfl) ?_
  refine ox_nil ?_
  refine ex_then ?_
  refine cx_seq ?_
  refine cx_region ?_
  obtain ⟨y2, hy3, h⟩ := bind_some h
  refine ox_y rfl (y_call [] go_22 rfl (fun W2 hW2 => calxlaw03_head_ok  y2 hy3 W2 ) rfl) ?_
  refine ox_y rfl (y_assign_bool rfl) ?_
  refine ox_nil ?_
  refine ex_then ?_
  refine cx_seq ?_
  refine cx_seq ?_
  refine cx_region ?_
  refine ox_y rfl (y_move_slice rfl) ?_
  refine ox_y rfl (y_len (us := []) us_31 rfl) ?_
  refine ox_y rfl (y_gtr rfl rfl) ?_
  refine ox_nil ?_
  refine ex_then ?_
  rcases ite_some h with ⟨hp4, h⟩ | ⟨hp4, h⟩
  · refine cx_true (congrArg Value.bool hp4) ?_
    refine cx_seq ?_
    refine cx_region ?_
    refine ox_y rfl (y_move_bool rfl) ?_
    refine ox_y rfl (y_assign_bool rfl) ?_
    refine ox_nil ?_
    refine ex_then ?_
    refine cx_ret ?_
    refine ex_then_ret ?_
    obtain rfl := Option.some.inj h
    exact ex_res1 (.inl rfl) rfl (resV_tmp (v := .bool y2) rfl) (fun W2 hW2 => ⟨rfl, hW2.none⟩)
  · refine cx_false (congrArg Value.bool hp4) ?_
    refine cx_skip ?_
    refine ex_then ?_
    refine cx_seq ?_
    refine cx_region ?_
    refine ox_y rfl (y_move_slice rfl) ?_
    refine ox_y rfl (y_move_int rfl) ?_
    refine ox_y rfl (y_loadN 0 [.int .i64 p2.fLo, .int .i64 p2.fHi] ag_33 rfl rfl rfl) ?_
    obtain ⟨y5, hy6, h⟩ := bind_some h
    refine ox_call [.slice A0_0 p0.length c0_0, .int .i64 p1, .agg #[.int .i64 p2.fLo, .int .i64 p2.fHi]] _ _ _ rfl go_25 rfl (fun W2 hW2 => sample_Together_ok p0 p1 p2 y5 hy6 W2 A0_0 p0.length c0_0 rfl ((RdL.arg hr0_0) W2 hW2)) ?_
    rintro ⟨A7, n9, c8⟩ hn10
    replace hn10 : n9 = y5.1.length := hn10; subst hn10
    refine ox_y rfl (y_move_tuple rfl) ?_
    refine ox_y rfl (y_extract (vs := [.slice A7 y5.1.length c8, .int .i64 y5.2]) (v := .slice A7 y5.1.length c8) rfl rfl) ?_
    refine ox_y rfl (y_extract (vs := [.slice A7 y5.1.length c8, .int .i64 y5.2]) (v := .int .i64 y5.2) rfl rfl) ?_
    refine ox_y rfl (y_assign_slice rfl) ?_
    refine ox_y rfl (y_assign_int rfl) ?_
    refine ox_nil ?_
    refine ex_then ?_
    refine cx_seq ?_
    refine cx_region ?_
    refine ox_y rfl (y_move_slice rfl) ?_
    refine ox_y rfl (y_move_int rfl) ?_
    refine ox_y rfl (y_buildS [.int .i64 (-1), .int .i64 1000] [(0, 1), (1, 1)] ust_33 ze_33 (by kernel_rfl)) ?_
    obtain ⟨y11, hy12, h⟩ := bind_some h
    refine ox_call [.slice A0_0 p0.length c0_0, .int .i64 p1, .agg #[.int .i64 (-1), .int .i64 1000]] _ _ _ rfl go_25 rfl (fun W2 hW2 => sample_Together_ok p0 p1 (TSpan.mk (-1) 1000) y11 hy12 W2 A0_0 p0.length c0_0 rfl ((RdL.arg hr0_0) W2 hW2)) ?_
    rintro ⟨A13, n15, c14⟩ hn16
    replace hn16 : n15 = y11.1.length := hn16; subst hn16
    refine ox_y rfl (y_move_tuple rfl) ?_
    refine ox_y rfl (y_extract (vs := [.slice A13 y11.1.length c14, .int .i64 y11.2]) (v := .slice A13 y11.1.length c14) rfl rfl) ?_
    refine ox_y rfl (y_extract (vs := [.slice A13 y11.1.length c14, .int .i64 y11.2]) (v := .int .i64 y11.2) rfl rfl) ?_
    refine ox_y rfl (y_assign_slice rfl) ?_
    refine ox_y rfl (y_assign_int rfl) ?_
    refine ox_nil ?_
    refine ex_then ?_
    refine cx_seq ?_
    refine cx_seq ?_
    refine cx_region ?_
    refine ox_y rfl (y_move_int rfl) ?_
    refine ox_y rfl (y_neq rfl rfl) ?_
    refine ox_y rfl (y_move_bool rfl) ?_
    refine ox_join 3 (fun tm0 => (upd (upd (upd (upd (upd (upd (upd (upd (upd (upd (upd (upd (upd (upd tm0 0 (.slice A0_0 p0.length c0_0)) 1 (.int .i64 p1)) 2 (.agg #[.int .i64 p2.fLo, .int .i64 p2.fHi])) 3 (.int .u8 p3)) 4 (.int .u8 p4)) 7 (.pointer (some ⟨b1, 0, none⟩))) 10 (.bool false)) 11 (.bool y2)) 32 (.bool (decide (6 < ((p0.length : Nat) : Int))))) 12 (.slice A7 y5.1.length c8)) 13 (.int .i64 y5.2)) 14 (.slice A13 y11.1.length c14)) 15 (.int .i64 y11.2)) 53 (.bool ((y5.2 != 0) || (y11.2 != 0))))) (fun tm0 => ?_) (fun key => ?_)
    · refine ox_nil ?_
      refine ex_then ?_
      rcases ite_some h with ⟨hp18, h⟩ | ⟨hp18, h⟩
      · refine cx_true (congrArg Value.bool hp18) ?_
        refine cx_seq ?_
        refine cx_region ?_
        refine ox_y rfl (y_move_bool rfl) ?_
        refine ox_y rfl (y_move_bool rfl) ?_
        refine ox_join 3 (fun tm0 => (upd (upd (upd (upd (upd (upd (upd (upd (upd (upd (upd (upd (upd (upd (upd tm0 0 (.slice A0_0 p0.length c0_0)) 1 (.int .i64 p1)) 2 (.agg #[.int .i64 p2.fLo, .int .i64 p2.fHi])) 3 (.int .u8 p3)) 4 (.int .u8 p4)) 7 (.pointer (some ⟨b1, 0, none⟩))) 10 (.bool false)) 11 (.bool y2)) 32 (.bool (decide (6 < ((p0.length : Nat) : Int))))) 12 (.slice A7 y5.1.length c8)) 13 (.int .i64 y5.2)) 14 (.slice A13 y11.1.length c14)) 15 (.int .i64 y11.2)) 53 (.bool ((y5.2 != 0) || (y11.2 != 0)))) 58 (.bool (y2 && (y5.2 != 0))))) (fun tm0 => ?_) (fun key => ?_)
        · refine ox_y rfl (y_assign_bool rfl) ?_
          refine ox_nil ?_
          refine ex_then ?_
          refine cx_ret ?_
          refine ex_then_ret ?_
          obtain rfl := Option.some.inj h
          exact ex_res1 (.inl rfl) rfl (resV_tmp (v := .bool (y2 && (y5.2 != 0))) rfl) (fun W2 hW2 => ⟨rfl, hW2.none⟩)
        · rcases bool_cases y2 with hp19 | hp19
          · refine ox_y (sees_t rfl rfl rfl rfl hp19) (y_move_int rfl) ?_
            refine ox_y (sees_t rfl rfl rfl rfl hp19) (y_neq rfl rfl) ?_
            refine ox_y rfl (y_pick_tb (congrArg Value.bool hp19) rfl) ?_
            exact key _ _ (keep (keep (keep (keep (keep (keep (keep (keep (keep (keep (keep (keep (keep (keep (keep rfl rfl) rfl) rfl) rfl) rfl) rfl) rfl) rfl) rfl) rfl) rfl) rfl) rfl) rfl) (congrArg Value.bool (and_t hp19)))
          · refine ox_skip (sees_f rfl rfl rfl rfl hp19) ?_
            refine ox_skip (sees_f rfl rfl rfl rfl hp19) ?_
            refine ox_y rfl (y_pick_fb (congrArg Value.bool hp19) rfl) ?_
            exact key _ _ (keep (keep (keep (keep (keep (keep (keep (keep (keep (keep (keep (keep (keep (keep (keep rfl rfl) rfl) rfl) rfl) rfl) rfl) rfl) rfl) rfl) rfl) rfl) rfl) rfl) rfl) (congrArg Value.bool (and_f hp19)))
      · refine cx_false (congrArg Value.bool hp18) ?_
        refine cx_skip ?_
        refine ex_then ?_
        refine cx_seq ?_
        refine cx_seq ?_
        refine cx_region ?_
        refine ox_y rfl (y_move_slice rfl) ?_
        refine ox_y rfl (y_len (us := []) us_34 rfl) ?_
        refine ox_y rfl (y_move_slice rfl) ?_
        refine ox_y rfl (y_len (us := []) us_31 rfl) ?_
        refine ox_y rfl (y_neq rfl rfl) ?_
        refine ox_y rfl (y_move_bool rfl) ?_
        refine ox_join 6 (fun tm0 => (upd (upd (upd (upd (upd (upd (upd (upd (upd (upd (upd (upd (upd (upd (upd tm0 0 (.slice A0_0 p0.length c0_0)) 1 (.int .i64 p1)) 2 (.agg #[.int .i64 p2.fLo, .int .i64 p2.fHi])) 3 (.int .u8 p3)) 4 (.int .u8 p4)) 7 (.pointer (some ⟨b1, 0, none⟩))) 10 (.bool false)) 11 (.bool y2)) 32 (.bool (decide (6 < ((p0.length : Nat) : Int))))) 12 (.slice A7 y5.1.length c8)) 13 (.int .i64 y5.2)) 14 (.slice A13 y11.1.length c14)) 15 (.int .i64 y11.2)) 53 (.bool ((y5.2 != 0) || (y11.2 != 0)))) 70 (.bool ((((y5.1.length : Nat) : Int) != ((p0.length : Nat) : Int)) || (((y11.1.length : Nat) : Int) != ((p0.length : Nat) : Int)))))) (fun tm0 => ?_) (fun key => ?_)
        · refine ox_nil ?_
          refine ex_then ?_
          rcases ite_some h with ⟨hp21, h⟩ | ⟨hp21, h⟩
          · refine cx_true (congrArg Value.bool hp21) ?_
            refine cx_seq ?_
            refine cx_region ?_
            refine ox_y rfl (y_assign_bool rfl) ?_
            refine ox_nil ?_
            refine ex_then ?_
            refine cx_ret ?_
            refine ex_then_ret ?_
            obtain rfl := Option.some.inj h
            exact ex_res1 (.inl rfl) rfl (resV_tmp (v := .bool false) rfl) (fun W2 hW2 => ⟨rfl, hW2.none⟩)
          · refine cx_false (congrArg Value.bool hp21) ?_
            refine cx_skip ?_
            refine ex_then ?_
            refine cx_seq ?_
            refine cx_region ?_
            refine ox_y rfl (y_assign_int rfl) ?_
            refine ox_nil ?_
            refine ex_then ?_
            refine cx_seq ?_
            refine cx_region ?_
            refine ox_y rfl (y_assign_int rfl) ?_
            refine ox_nil ?_
            refine ex_then ?_
            refine cx_seq ?_
            refine cx_seq ?_
            refine cx_region ?_
            refine ox_y rfl (y_assign_int rfl) ?_
            refine ox_nil ?_
            refine ex_then ?_
            refine cx_block ?_
            obtain ⟨u24, hl48, h⟩ := bind_some h
            refine cx_loop (fun (s : (Bool × Int × Int × Int)) L tm => ∃ (tm0 : Nat → Value), L = [cellsR b1 33 [.int .i64 p2.fLo, .int .i64 p2.fHi], rowR A7 c8 33 2 y5.1.length (encL TSpan_cells y5.1), rowR A13 c14 33 2 y11.1.length (encL TSpan_cells y11.1)] ∧ tm = (upd (upd (upd (upd (upd (upd (upd (upd (upd (upd (upd (upd (upd (upd (upd (upd (upd (upd tm0 0 (.slice A0_0 p0.length c0_0)) 1 (.int .i64 p1)) 2 (.agg #[.int .i64 p2.fLo, .int .i64 p2.fHi])) 3 (.int .u8 p3)) 4 (.int .u8 p4)) 7 (.pointer (some ⟨b1, 0, none⟩))) 10 (.bool s.1)) 11 (.bool y2)) 32 (.bool (decide (6 < ((p0.length : Nat) : Int))))) 12 (.slice A7 y5.1.length c8)) 13 (.int .i64 y5.2)) 14 (.slice A13 y11.1.length c14)) 15 (.int .i64 y11.2)) 53 (.bool ((y5.2 != 0) || (y11.2 != 0)))) 70 (.bool ((((y5.1.length : Nat) : Int) != ((p0.length : Nat) : Int)) || (((y11.1.length : Nat) : Int) != ((p0.length : Nat) : Int))))) 16 (.int .i64 s.2.1)) 17 (.int .i64 s.2.2.1)) 18 (.int .i64 s.2.2.2))) (fun | (.inl s), e, L, tm => e = .ret ∧ ∃ (tm0 : Nat → Value), L = [cellsR b1 33 [.int .i64 p2.fLo, .int .i64 p2.fHi], rowR A7 c8 33 2 y5.1.length (encL TSpan_cells y5.1), rowR A13 c14 33 2 y11.1.length (encL TSpan_cells y11.1)] ∧ tm = (upd (upd (upd (upd (upd (upd (upd (upd (upd (upd (upd (upd (upd (upd (upd (upd (upd (upd tm0 0 (.slice A0_0 p0.length c0_0)) 1 (.int .i64 p1)) 2 (.agg #[.int .i64 p2.fLo, .int .i64 p2.fHi])) 3 (.int .u8 p3)) 4 (.int .u8 p4)) 7 (.pointer (some ⟨b1, 0, none⟩))) 10 (.bool s.1)) 11 (.bool y2)) 32 (.bool (decide (6 < ((p0.length : Nat) : Int))))) 12 (.slice A7 y5.1.length c8)) 13 (.int .i64 y5.2)) 14 (.slice A13 y11.1.length c14)) 15 (.int .i64 y11.2)) 53 (.bool ((y5.2 != 0) || (y11.2 != 0)))) 70 (.bool ((((y5.1.length : Nat) : Int) != ((p0.length : Nat) : Int)) || (((y11.1.length : Nat) : Int) != ((p0.length : Nat) : Int))))) 16 (.int .i64 s.2.1)) 17 (.int .i64 s.2.2.1)) 18 (.int .i64 s.2.2.2)) | (.inr s), e, L, tm => e = .exit 0 ∧ ∃ (tm0 : Nat → Value), L = [cellsR b1 33 [.int .i64 p2.fLo, .int .i64 p2.fHi], rowR A7 c8 33 2 y5.1.length (encL TSpan_cells y5.1), rowR A13 c14 33 2 y11.1.length (encL TSpan_cells y11.1)] ∧ tm = (upd (upd (upd (upd (upd (upd (upd (upd (upd (upd (upd (upd (upd (upd (upd (upd (upd (upd tm0 0 (.slice A0_0 p0.length c0_0)) 1 (.int .i64 p1)) 2 (.agg #[.int .i64 p2.fLo, .int .i64 p2.fHi])) 3 (.int .u8 p3)) 4 (.int .u8 p4)) 7 (.pointer (some ⟨b1, 0, none⟩))) 10 (.bool s.1)) 11 (.bool y2)) 32 (.bool (decide (6 < ((p0.length : Nat) : Int))))) 12 (.slice A7 y5.1.length c8)) 13 (.int .i64 y5.2)) 14 (.slice A13 y11.1.length c14)) 15 (.int .i64 y11.2)) 53 (.bool ((y5.2 != 0) || (y11.2 != 0)))) 70 (.bool ((((y5.1.length : Nat) : Int) != ((p0.length : Nat) : Int)) || (((y11.1.length : Nat) : Int) != ((p0.length : Nat) : Int))))) 16 (.int .i64 s.2.1)) 17 (.int .i64 s.2.2.1)) 18 (.int .i64 s.2.2.2))) hl48 ⟨_, rfl, (keep (keep (keep (keep (keep (keep (keep (keep (keep (keep (keep (keep (keep (keep (keep (keep (keep (keep rfl rfl) rfl) rfl) rfl) rfl) rfl) rfl) rfl) rfl) rfl) rfl) rfl) rfl) rfl) rfl) rfl) rfl) rfl)⟩ ?_ ?_
            · rintro s23 L tm st ⟨tm0_s23, rfl, rfl⟩ h
              unfold calxlaw03_SampleSums_l1 at h
              refine cx_seq ?_
              refine cx_seq ?_
              refine cx_region ?_
              refine ox_y rfl (y_move_int rfl) ?_
              refine ox_y rfl (y_move_slice rfl) ?_
              refine ox_y rfl (y_len (us := []) us_31 rfl) ?_
              refine ox_y rfl (y_lss rfl rfl) ?_
              refine ox_nil ?_
              refine ex_then ?_
              rcases ite_some h with ⟨hp25, h⟩ | ⟨hp25, h⟩
              · refine cx_true (congrArg Value.bool hp25) ?_
                refine cx_skip ?_
                refine ex_then ?_
                refine cx_seq ?_
                refine cx_block ?_
                refine cx_seq ?_
                refine cx_region ?_
                refine ox_y rfl (y_move_slice rfl) ?_
                refine ox_y rfl (y_move_int rfl) ?_
                obtain ⟨hg26, h⟩ := guardO_some h
                refine ox_y rfl (y_indexR sl_31 (by decide) hg26.1 hg26.2 (RdL.arg hr0_0) (encL_len TBatch_cells_len rfl) rfl rfl) ?_
                refine ox_y rfl (y_loadRN (A := A0_0) (j := (Int.toNat s23.2.2.2 * 10)) [.int .i64 ((rdL p0 s23.2.2.2).fBarrows), .int .i64 ((rdL p0 s23.2.2.2).fSeen.x0), .int .i64 ((rdL p0 s23.2.2.2).fSeen.x1), .int .i64 ((rdL p0 s23.2.2.2).fSeen.x2), .int .i64 ((rdL p0 s23.2.2.2).fKnown.x0.fLo), .int .i64 ((rdL p0 s23.2.2.2).fKnown.x0.fHi), .int .i64 ((rdL p0 s23.2.2.2).fKnown.x1.fLo), .int .i64 ((rdL p0 s23.2.2.2).fKnown.x1.fHi), .int .i64 ((rdL p0 s23.2.2.2).fKnown.x2.fLo), .int .i64 ((rdL p0 s23.2.2.2).fKnown.x2.fHi)] ag_52 (Nat.succ_pos _) (RdL.arg hr0_0) rfl (encL_gets TBatch_cells_len hg26.1 (lt_nat hg26.2 rfl))) ?_
                refine ox_y rfl (y_move_int rfl) ?_
                obtain ⟨y27, hy28, h⟩ := bind_some h
                refine ox_y rfl (y_call [.agg #[.int .i64 ((rdL p0 s23.2.2.2).fBarrows), .int .i64 ((rdL p0 s23.2.2.2).fSeen.x0), .int .i64 ((rdL p0 s23.2.2.2).fSeen.x1), .int .i64 ((rdL p0 s23.2.2.2).fSeen.x2), .int .i64 ((rdL p0 s23.2.2.2).fKnown.x0.fLo), .int .i64 ((rdL p0 s23.2.2.2).fKnown.x0.fHi), .int .i64 ((rdL p0 s23.2.2.2).fKnown.x1.fLo), .int .i64 ((rdL p0 s23.2.2.2).fKnown.x1.fHi), .int .i64 ((rdL p0 s23.2.2.2).fKnown.x2.fLo), .int .i64 ((rdL p0 s23.2.2.2).fKnown.x2.fHi)], .int .i64 p1] go_36 rfl (fun W2 hW2 => sample_Ends_ok (TBatch.mk ((rdL p0 s23.2.2.2).fBarrows) (TKinds.mk ((rdL p0 s23.2.2.2).fSeen.x0) ((rdL p0 s23.2.2.2).fSeen.x1) ((rdL p0 s23.2.2.2).fSeen.x2)) (TArr3_TSpan.mk (TSpan.mk ((rdL p0 s23.2.2.2).fKnown.x0.fLo) ((rdL p0 s23.2.2.2).fKnown.x0.fHi)) (TSpan.mk ((rdL p0 s23.2.2.2).fKnown.x1.fLo) ((rdL p0 s23.2.2.2).fKnown.x1.fHi)) (TSpan.mk ((rdL p0 s23.2.2.2).fKnown.x2.fLo) ((rdL p0 s23.2.2.2).fKnown.x2.fHi)))) p1 y27 hy28 W2 ) rfl) ?_
                refine ox_y rfl (y_move_tuple rfl) ?_
                refine ox_y rfl (y_extract (vs := [.agg #[.int .i64 y27.1.fLo, .int .i64 y27.1.fHi], .int .i64 y27.2]) (v := .agg #[.int .i64 y27.1.fLo, .int .i64 y27.1.fHi]) rfl rfl) ?_
                refine ox_y rfl (y_extract (vs := [.agg #[.int .i64 y27.1.fLo, .int .i64 y27.1.fHi], .int .i64 y27.2]) (v := .int .i64 y27.2) rfl rfl) ?_
                refine ox_alloc ze_33 rfl (fun b29 => ?_)
                refine ox_n rfl (y_storeN 3 [.int .i64 y27.1.fLo, .int .i64 y27.1.fHi] sz_33 rfl (Nat.le_of_ble_eq_true rfl) rfl rfl rfl) ?_
                refine ox_y rfl (y_assign_int rfl) ?_
                refine ox_nil ?_
                refine ex_then ?_
                refine cx_seq ?_
                refine cx_seq ?_
                refine cx_draws 43 mixed (by kernel_rfl) (by kernel_rfl) ?_
                refine qx_y rfl (y_move_int rfl) ?_
                refine qx_y rfl (y_neq rfl rfl) ?_
                refine qx_y rfl (y_move_bool rfl) ?_
                obtain ⟨b31, hb32, h⟩ := bind_some h
                refine qx_join 7 (fun tm0 => (upd (upd (upd (upd (upd (upd (upd (upd (upd (upd (upd (upd (upd (upd (upd (upd (upd (upd (upd (upd (upd (upd tm0 0 (.slice A0_0 p0.length c0_0)) 1 (.int .i64 p1)) 2 (.agg #[.int .i64 p2.fLo, .int .i64 p2.fHi])) 3 (.int .u8 p3)) 4 (.int .u8 p4)) 7 (.pointer (some ⟨b1, 0, none⟩))) 10 (.bool s23.1)) 11 (.bool y2)) 32 (.bool (decide (6 < ((p0.length : Nat) : Int))))) 12 (.slice A7 y5.1.length c8)) 13 (.int .i64 y5.2)) 14 (.slice A13 y11.1.length c14)) 15 (.int .i64 y11.2)) 53 (.bool ((y5.2 != 0) || (y11.2 != 0)))) 70 (.bool ((((y5.1.length : Nat) : Int) != ((p0.length : Nat) : Int)) || (((y11.1.length : Nat) : Int) != ((p0.length : Nat) : Int))))) 16 (.int .i64 s23.2.1)) 17 (.int .i64 s23.2.2.1)) 18 (.int .i64 s23.2.2.2)) 74 (.bool (decide (s23.2.2.2 < ((p0.length : Nat) : Int))))) 19 (.pointer (some ⟨b29, 0, none⟩))) 20 (.int .i64 y27.2)) 95 (.bool b31))) (fun tm0 => ?_) (fun key => ?_)
                · refine qx_y rfl (y_move_bool rfl) ?_
                  obtain ⟨b34, hb35, h⟩ := bind_some h
                  refine qx_join 9 (fun tm0 => (upd (upd (upd (upd (upd (upd (upd (upd (upd (upd (upd (upd (upd (upd (upd (upd (upd (upd (upd (upd (upd (upd tm0 0 (.slice A0_0 p0.length c0_0)) 1 (.int .i64 p1)) 2 (.agg #[.int .i64 p2.fLo, .int .i64 p2.fHi])) 3 (.int .u8 p3)) 4 (.int .u8 p4)) 7 (.pointer (some ⟨b1, 0, none⟩))) 10 (.bool s23.1)) 11 (.bool y2)) 32 (.bool (decide (6 < ((p0.length : Nat) : Int))))) 12 (.slice A7 y5.1.length c8)) 13 (.int .i64 y5.2)) 14 (.slice A13 y11.1.length c14)) 15 (.int .i64 y11.2)) 53 (.bool ((y5.2 != 0) || (y11.2 != 0)))) 70 (.bool ((((y5.1.length : Nat) : Int) != ((p0.length : Nat) : Int)) || (((y11.1.length : Nat) : Int) != ((p0.length : Nat) : Int))))) 16 (.int .i64 s23.2.1)) 17 (.int .i64 s23.2.2.1)) 18 (.int .i64 s23.2.2.2)) 74 (.bool (decide (s23.2.2.2 < ((p0.length : Nat) : Int))))) 19 (.pointer (some ⟨b29, 0, none⟩))) 20 (.int .i64 y27.2)) 105 (.bool b34))) (fun tm0 => ?_) (fun key => ?_)
                  · refine qx_y rfl (y_move_bool rfl) ?_
                    obtain ⟨b37, hb38, h⟩ := bind_some h
                    refine qx_join 9 (fun tm0 => (upd (upd (upd (upd (upd (upd (upd (upd (upd (upd (upd (upd (upd (upd (upd (upd (upd (upd (upd (upd (upd (upd tm0 0 (.slice A0_0 p0.length c0_0)) 1 (.int .i64 p1)) 2 (.agg #[.int .i64 p2.fLo, .int .i64 p2.fHi])) 3 (.int .u8 p3)) 4 (.int .u8 p4)) 7 (.pointer (some ⟨b1, 0, none⟩))) 10 (.bool s23.1)) 11 (.bool y2)) 32 (.bool (decide (6 < ((p0.length : Nat) : Int))))) 12 (.slice A7 y5.1.length c8)) 13 (.int .i64 y5.2)) 14 (.slice A13 y11.1.length c14)) 15 (.int .i64 y11.2)) 53 (.bool ((y5.2 != 0) || (y11.2 != 0)))) 70 (.bool ((((y5.1.length : Nat) : Int) != ((p0.length : Nat) : Int)) || (((y11.1.length : Nat) : Int) != ((p0.length : Nat) : Int))))) 16 (.int .i64 s23.2.1)) 17 (.int .i64 s23.2.2.1)) 18 (.int .i64 s23.2.2.2)) 74 (.bool (decide (s23.2.2.2 < ((p0.length : Nat) : Int))))) 19 (.pointer (some ⟨b29, 0, none⟩))) 20 (.int .i64 y27.2)) 115 (.bool b37))) (fun tm0 => ?_) (fun key => ?_)
                    · refine qx_y rfl (y_move_bool rfl) ?_
                      obtain ⟨b40, hb41, h⟩ := bind_some h
                      refine qx_join 12 (fun tm0 => (upd (upd (upd (upd (upd (upd (upd (upd (upd (upd (upd (upd (upd (upd (upd (upd (upd (upd (upd (upd (upd (upd tm0 0 (.slice A0_0 p0.length c0_0)) 1 (.int .i64 p1)) 2 (.agg #[.int .i64 p2.fLo, .int .i64 p2.fHi])) 3 (.int .u8 p3)) 4 (.int .u8 p4)) 7 (.pointer (some ⟨b1, 0, none⟩))) 10 (.bool s23.1)) 11 (.bool y2)) 32 (.bool (decide (6 < ((p0.length : Nat) : Int))))) 12 (.slice A7 y5.1.length c8)) 13 (.int .i64 y5.2)) 14 (.slice A13 y11.1.length c14)) 15 (.int .i64 y11.2)) 53 (.bool ((y5.2 != 0) || (y11.2 != 0)))) 70 (.bool ((((y5.1.length : Nat) : Int) != ((p0.length : Nat) : Int)) || (((y11.1.length : Nat) : Int) != ((p0.length : Nat) : Int))))) 16 (.int .i64 s23.2.1)) 17 (.int .i64 s23.2.2.1)) 18 (.int .i64 s23.2.2.2)) 74 (.bool (decide (s23.2.2.2 < ((p0.length : Nat) : Int))))) 19 (.pointer (some ⟨b29, 0, none⟩))) 20 (.int .i64 y27.2)) 128 (.bool b40))) (fun tm0 => ?_) (fun key => ?_)
                      · refine qx_nil ?_
                        refine ox_nil ?_
                        refine ex_then ?_
                        rcases ite_some h with ⟨hp42, h⟩ | ⟨hp42, h⟩
                        · refine cx_true (congrArg Value.bool hp42) ?_
                          refine cx_seq ?_
                          refine cx_region ?_
                          refine ox_y rfl (y_assign_bool rfl) ?_
                          refine ox_nil ?_
                          refine ex_then ?_
                          refine cx_ret ?_
                          refine ex_then_ret ?_
                          refine ex_block_ret ?_
                          refine ex_then_ret ?_
                          refine ex_take 3 ?_
                          obtain rfl := Option.some.inj h
                          exact ex_stop ⟨rfl, _, rfl, (keep (keep (keep (keep (keep (keep (keep (keep (keep (keep (keep (keep (keep (keep (keep (keep (keep (keep rfl rfl) rfl) rfl) rfl) rfl) rfl) rfl) rfl) rfl) rfl) rfl) rfl) rfl) rfl) rfl) rfl) rfl) rfl)⟩
                        · refine cx_false (congrArg Value.bool hp42) ?_
                          refine cx_skip ?_
                          refine ex_then ?_
                          refine cx_seq ?_
                          refine cx_region ?_
                          refine ox_y rfl (y_move_int rfl) ?_
                          refine ox_y rfl (y_fieldAddr fo_33_0 rfl) ?_
                          refine ox_y rfl (y_load1 3 (v := .int .i64 y27.1.fLo) sc_3 rfl rfl rfl) ?_
                          refine ox_y rfl (y_add rfl rfl) ?_
                          refine ox_y rfl (y_assign_int rfl) ?_
                          refine ox_nil ?_
                          refine ex_then ?_
                          refine cx_region ?_
                          refine ox_y rfl (y_move_int rfl) ?_
                          refine ox_y rfl (y_fieldAddr fo_33_1 rfl) ?_
                          refine ox_y rfl (y_load1 3 (v := .int .i64 y27.1.fHi) sc_3 rfl rfl rfl) ?_
                          refine ox_y rfl (y_add rfl rfl) ?_
                          refine ox_y rfl (y_assign_int rfl) ?_
                          refine ox_nil ?_
                          refine ex_block ?_
                          refine ex_then ?_
                          refine cx_region ?_
                          refine ox_y rfl (y_move_int rfl) ?_
                          refine ox_y rfl (y_add rfl rfl) ?_
                          refine ox_y rfl (y_assign_int rfl) ?_
                          refine ox_nil ?_
                          refine ex_take 3 ?_
                          obtain rfl := Option.some.inj h
                          exact ex_next ⟨_, rfl, (keep (keep (keep (keep (keep (keep (keep (keep (keep (keep (keep (keep (keep (keep (keep (keep (keep (keep rfl rfl) rfl) rfl) rfl) rfl) rfl) rfl) rfl) rfl) rfl) rfl) rfl) rfl) rfl) rfl) rfl) rfl) rfl)⟩
                      · clear h; rcases ite_some hb41 with ⟨hp39, h⟩ | ⟨hp39, h⟩
                        · refine qx_skip (sees_f rfl rfl rfl rfl hp39) ?_
                          refine qx_skip (sees_f rfl rfl rfl rfl hp39) ?_
                          refine qx_skip (sees_f rfl rfl rfl rfl hp39) ?_
                          refine qx_skip (sees_f rfl rfl rfl rfl hp39) ?_
                          refine qx_skip (sees_f rfl rfl rfl rfl hp39) ?_
                          refine qx_skip (sees_f rfl rfl rfl rfl hp39) ?_
                          refine qx_skip (sees_f rfl rfl rfl rfl hp39) ?_
                          refine qx_skip (sees_f rfl rfl rfl rfl hp39) ?_
                          refine qx_skip (sees_f rfl rfl rfl rfl hp39) ?_
                          refine qx_skip (sees_f rfl rfl rfl rfl hp39) ?_
                          refine qx_skip (sees_f rfl rfl rfl rfl hp39) ?_
                          refine qx_y rfl (y_pick_tb (congrArg Value.bool hp39) rfl) ?_
                          obtain rfl := Option.some.inj h
                          exact key _ _ (keep (keep (keep (keep (keep (keep (keep (keep (keep (keep (keep (keep (keep (keep (keep (keep (keep (keep (keep (keep (keep (keep rfl rfl) rfl) rfl) rfl) rfl) rfl) rfl) rfl) rfl) rfl) rfl) rfl) rfl) rfl) rfl) rfl) rfl) rfl) rfl) rfl) rfl) rfl)
                        · refine qx_y (sees_t rfl rfl rfl rfl hp39) (y_move_slice rfl) ?_
                          refine qx_y (sees_t rfl rfl rfl rfl hp39) (y_move_int rfl) ?_
                          obtain ⟨hg43, h⟩ := guardO_some h
                          refine qx_y (sees_t rfl rfl rfl rfl hp39) (y_indexR sl_34 (by decide) hg43.1 hg43.2 (RdL.row 1 rfl) (encL_len TSpan_cells_len rfl) rfl rfl) ?_
                          refine qx_y (sees_t rfl rfl rfl rfl hp39) (y_fieldAddrR (A := A7) (j := (Int.toNat s23.2.2.2 * 2)) fo_33_0 rfl) ?_
                          refine qx_y (sees_t rfl rfl rfl rfl hp39) (y_loadR1 (A := A7) (j := ((Int.toNat s23.2.2.2 * 2) + 0)) (v := .int .i64 ((rdL y5.1 s23.2.2.2).fLo)) sc_3 (RdL.row 1 rfl) rfl (encL_get TSpan_cells_len hg43.1 (lt_nat hg43.2 rfl) rfl)) ?_
                          refine qx_y (sees_t rfl rfl rfl rfl hp39) (y_move_slice rfl) ?_
                          refine qx_y (sees_t rfl rfl rfl rfl hp39) (y_move_int rfl) ?_
                          obtain ⟨hg44, h⟩ := guardO_some h
                          refine qx_y (sees_t rfl rfl rfl rfl hp39) (y_indexR sl_34 (by decide) hg44.1 hg44.2 (RdL.row 1 rfl) (encL_len TSpan_cells_len rfl) rfl rfl) ?_
                          refine qx_y (sees_t rfl rfl rfl rfl hp39) (y_fieldAddrR (A := A7) (j := (Int.toNat s23.2.2.2 * 2)) fo_33_1 rfl) ?_
                          refine qx_y (sees_t rfl rfl rfl rfl hp39) (y_loadR1 (A := A7) (j := ((Int.toNat s23.2.2.2 * 2) + 1)) (v := .int .i64 ((rdL y5.1 s23.2.2.2).fHi)) sc_3 (RdL.row 1 rfl) rfl (encL_get TSpan_cells_len hg44.1 (lt_nat hg44.2 rfl) rfl)) ?_
                          refine qx_y (sees_t rfl rfl rfl rfl hp39) (y_gtr rfl rfl) ?_
                          refine qx_y rfl (y_pick_fb (congrArg Value.bool hp39) rfl) ?_
                          obtain rfl := Option.some.inj h
                          exact key _ _ (keep (keep (keep (keep (keep (keep (keep (keep (keep (keep (keep (keep (keep (keep (keep (keep (keep (keep (keep (keep (keep (keep rfl rfl) rfl) rfl) rfl) rfl) rfl) rfl) rfl) rfl) rfl) rfl) rfl) rfl) rfl) rfl) rfl) rfl) rfl) rfl) rfl) rfl) rfl)
                    · clear h; rcases ite_some hb38 with ⟨hp36, h⟩ | ⟨hp36, h⟩
                      · refine qx_skip (sees_f rfl rfl rfl rfl hp36) ?_
                        refine qx_skip (sees_f rfl rfl rfl rfl hp36) ?_
                        refine qx_skip (sees_f rfl rfl rfl rfl hp36) ?_
                        refine qx_skip (sees_f rfl rfl rfl rfl hp36) ?_
                        refine qx_skip (sees_f rfl rfl rfl rfl hp36) ?_
                        refine qx_skip (sees_f rfl rfl rfl rfl hp36) ?_
                        refine qx_skip (sees_f rfl rfl rfl rfl hp36) ?_
                        refine qx_skip (sees_f rfl rfl rfl rfl hp36) ?_
                        refine qx_y rfl (y_pick_tb (congrArg Value.bool hp36) rfl) ?_
                        obtain rfl := Option.some.inj h
                        exact key _ _ (keep (keep (keep (keep (keep (keep (keep (keep (keep (keep (keep (keep (keep (keep (keep (keep (keep (keep (keep (keep (keep (keep rfl rfl) rfl) rfl) rfl) rfl) rfl) rfl) rfl) rfl) rfl) rfl) rfl) rfl) rfl) rfl) rfl) rfl) rfl) rfl) rfl) rfl) rfl)
                      · refine qx_y (sees_t rfl rfl rfl rfl hp36) (y_move_slice rfl) ?_
                        refine qx_y (sees_t rfl rfl rfl rfl hp36) (y_move_int rfl) ?_
                        obtain ⟨hg45, h⟩ := guardO_some h
                        refine qx_y (sees_t rfl rfl rfl rfl hp36) (y_indexR sl_34 (by decide) hg45.1 hg45.2 (RdL.row 1 rfl) (encL_len TSpan_cells_len rfl) rfl rfl) ?_
                        refine qx_y (sees_t rfl rfl rfl rfl hp36) (y_fieldAddrR (A := A7) (j := (Int.toNat s23.2.2.2 * 2)) fo_33_1 rfl) ?_
                        refine qx_y (sees_t rfl rfl rfl rfl hp36) (y_loadR1 (A := A7) (j := ((Int.toNat s23.2.2.2 * 2) + 1)) (v := .int .i64 ((rdL y5.1 s23.2.2.2).fHi)) sc_3 (RdL.row 1 rfl) rfl (encL_get TSpan_cells_len hg45.1 (lt_nat hg45.2 rfl) rfl)) ?_
                        refine qx_y (sees_t rfl rfl rfl rfl hp36) (y_fieldAddr fo_33_1 rfl) ?_
                        refine qx_y (sees_t rfl rfl rfl rfl hp36) (y_load1 3 (v := .int .i64 y27.1.fHi) sc_3 rfl rfl rfl) ?_
                        refine qx_y (sees_t rfl rfl rfl rfl hp36) (y_gtr rfl rfl) ?_
                        refine qx_y rfl (y_pick_fb (congrArg Value.bool hp36) rfl) ?_
                        obtain rfl := Option.some.inj h
                        exact key _ _ (keep (keep (keep (keep (keep (keep (keep (keep (keep (keep (keep (keep (keep (keep (keep (keep (keep (keep (keep (keep (keep (keep rfl rfl) rfl) rfl) rfl) rfl) rfl) rfl) rfl) rfl) rfl) rfl) rfl) rfl) rfl) rfl) rfl) rfl) rfl) rfl) rfl) rfl) rfl)
                  · clear h; rcases ite_some hb35 with ⟨hp33, h⟩ | ⟨hp33, h⟩
                    · refine qx_skip (sees_f rfl rfl rfl rfl hp33) ?_
                      refine qx_skip (sees_f rfl rfl rfl rfl hp33) ?_
                      refine qx_skip (sees_f rfl rfl rfl rfl hp33) ?_
                      refine qx_skip (sees_f rfl rfl rfl rfl hp33) ?_
                      refine qx_skip (sees_f rfl rfl rfl rfl hp33) ?_
                      refine qx_skip (sees_f rfl rfl rfl rfl hp33) ?_
                      refine qx_skip (sees_f rfl rfl rfl rfl hp33) ?_
                      refine qx_skip (sees_f rfl rfl rfl rfl hp33) ?_
                      refine qx_y rfl (y_pick_tb (congrArg Value.bool hp33) rfl) ?_
                      obtain rfl := Option.some.inj h
                      exact key _ _ (keep (keep (keep (keep (keep (keep (keep (keep (keep (keep (keep (keep (keep (keep (keep (keep (keep (keep (keep (keep (keep (keep rfl rfl) rfl) rfl) rfl) rfl) rfl) rfl) rfl) rfl) rfl) rfl) rfl) rfl) rfl) rfl) rfl) rfl) rfl) rfl) rfl) rfl) rfl)
                    · refine qx_y (sees_t rfl rfl rfl rfl hp33) (y_move_slice rfl) ?_
                      refine qx_y (sees_t rfl rfl rfl rfl hp33) (y_move_int rfl) ?_
                      obtain ⟨hg46, h⟩ := guardO_some h
                      refine qx_y (sees_t rfl rfl rfl rfl hp33) (y_indexR sl_34 (by decide) hg46.1 hg46.2 (RdL.row 1 rfl) (encL_len TSpan_cells_len rfl) rfl rfl) ?_
                      refine qx_y (sees_t rfl rfl rfl rfl hp33) (y_fieldAddrR (A := A7) (j := (Int.toNat s23.2.2.2 * 2)) fo_33_0 rfl) ?_
                      refine qx_y (sees_t rfl rfl rfl rfl hp33) (y_loadR1 (A := A7) (j := ((Int.toNat s23.2.2.2 * 2) + 0)) (v := .int .i64 ((rdL y5.1 s23.2.2.2).fLo)) sc_3 (RdL.row 1 rfl) rfl (encL_get TSpan_cells_len hg46.1 (lt_nat hg46.2 rfl) rfl)) ?_
                      refine qx_y (sees_t rfl rfl rfl rfl hp33) (y_fieldAddr fo_33_0 rfl) ?_
                      refine qx_y (sees_t rfl rfl rfl rfl hp33) (y_load1 3 (v := .int .i64 y27.1.fLo) sc_3 rfl rfl rfl) ?_
                      refine qx_y (sees_t rfl rfl rfl rfl hp33) (y_lss rfl rfl) ?_
                      refine qx_y rfl (y_pick_fb (congrArg Value.bool hp33) rfl) ?_
                      obtain rfl := Option.some.inj h
                      exact key _ _ (keep (keep (keep (keep (keep (keep (keep (keep (keep (keep (keep (keep (keep (keep (keep (keep (keep (keep (keep (keep (keep (keep rfl rfl) rfl) rfl) rfl) rfl) rfl) rfl) rfl) rfl) rfl) rfl) rfl) rfl) rfl) rfl) rfl) rfl) rfl) rfl) rfl) rfl) rfl)
                · clear h; rcases ite_some hb32 with ⟨hp30, h⟩ | ⟨hp30, h⟩
                  · refine qx_skip (sees_f rfl rfl rfl rfl hp30) ?_
                    refine qx_skip (sees_f rfl rfl rfl rfl hp30) ?_
                    refine qx_skip (sees_f rfl rfl rfl rfl hp30) ?_
                    refine qx_skip (sees_f rfl rfl rfl rfl hp30) ?_
                    refine qx_skip (sees_f rfl rfl rfl rfl hp30) ?_
                    refine qx_skip (sees_f rfl rfl rfl rfl hp30) ?_
                    refine qx_y rfl (y_pick_tb (congrArg Value.bool hp30) rfl) ?_
                    obtain rfl := Option.some.inj h
                    exact key _ _ (keep (keep (keep (keep (keep (keep (keep (keep (keep (keep (keep (keep (keep (keep (keep (keep (keep (keep (keep (keep (keep (keep rfl rfl) rfl) rfl) rfl) rfl) rfl) rfl) rfl) rfl) rfl) rfl) rfl) rfl) rfl) rfl) rfl) rfl) rfl) rfl) rfl) rfl) rfl)
                  · refine qx_y (sees_t rfl rfl rfl rfl hp30) (y_move_slice rfl) ?_
                    refine qx_y (sees_t rfl rfl rfl rfl hp30) (y_move_int rfl) ?_
                    obtain ⟨hg47, h⟩ := guardO_some h
                    refine qx_y (sees_t rfl rfl rfl rfl hp30) (y_indexR sl_34 (by decide) hg47.1 hg47.2 (RdL.row 2 rfl) (encL_len TSpan_cells_len rfl) rfl rfl) ?_
                    refine qx_y (sees_t rfl rfl rfl rfl hp30) (y_loadRN (A := A13) (j := (Int.toNat s23.2.2.2 * 2)) [.int .i64 ((rdL y11.1 s23.2.2.2).fLo), .int .i64 ((rdL y11.1 s23.2.2.2).fHi)] ag_33 (Nat.succ_pos _) (RdL.row 2 rfl) rfl (encL_gets TSpan_cells_len hg47.1 (lt_nat hg47.2 rfl))) ?_
                    refine qx_y (sees_t rfl rfl rfl rfl hp30) (y_loadN 3 [.int .i64 y27.1.fLo, .int .i64 y27.1.fHi] ag_33 rfl rfl rfl) ?_
                    refine qx_y (sees_t rfl rfl rfl rfl hp30) (y_neqa (b := (((rdL y11.1 s23.2.2.2).fLo == y27.1.fLo) && ((rdL y11.1 s23.2.2.2).fHi == y27.1.fHi))) eg_33 rfl rfl (fun _ => (eqS2 fl_33 (part1 sc_3 rfl) (part1 sc_3 rfl) (part1 sc_3 rfl) (part1 sc_3 rfl) (run_equalIn_int _ _ _ _ _ _ _ ui_3) (run_equalIn_int _ _ _ _ _ _ _ ui_3)))) ?_
                    refine qx_y rfl (y_pick_fb (congrArg Value.bool hp30) rfl) ?_
                    obtain rfl := Option.some.inj h
                    exact key _ _ (keep (keep (keep (keep (keep (keep (keep (keep (keep (keep (keep (keep (keep (keep (keep (keep (keep (keep (keep (keep (keep (keep rfl rfl) rfl) rfl) rfl) rfl) rfl) rfl) rfl) rfl) rfl) rfl) rfl) rfl) rfl) rfl) rfl) rfl) rfl) rfl) rfl) rfl) rfl)
              · refine cx_false (congrArg Value.bool hp25) ?_
                refine cx_exit ?_
                refine ex_then_exit ?_
                obtain rfl := Option.some.inj h
                exact ex_stop ⟨rfl, _, rfl, (keep (keep (keep (keep (keep (keep (keep (keep (keep (keep (keep (keep (keep (keep (keep (keep (keep (keep rfl rfl) rfl) rfl) rfl) rfl) rfl) rfl) rfl) rfl) rfl) rfl) rfl) rfl) rfl) rfl) rfl) rfl) rfl)⟩
            · intro e L tm hJ
              rcases u24 with u49 | u50
              · dsimp only at h hJ
                obtain ⟨rfl, tm0_u49, rfl, rfl⟩ := hJ
                refine ⟨(by intro hc; cases hc), ?_⟩
                refine ex_block_ret ?_
                refine ex_then_ret ?_
                obtain rfl := Option.some.inj h
                exact ex_res1 (.inl rfl) rfl (resV_tmp (v := .bool u49.1) rfl) (fun W2 hW2 => ⟨rfl, hW2.none⟩)
              · dsimp only at h hJ
                obtain ⟨rfl, tm0_u50, rfl, rfl⟩ := hJ
                refine ⟨(by intro hc; cases hc), ?_⟩
                refine ex_block_here ?_
                refine ex_then ?_
                refine cx_seq ?_
                refine cx_seq ?_
                refine cx_region ?_
                refine ox_y rfl (y_assign_int rfl) ?_
                refine ox_nil ?_
                refine ex_then ?_
                refine cx_block ?_
                obtain ⟨u53, hl87, h⟩ := bind_some h
                refine cx_loop (fun (s : (Bool × Int)) L tm => ∃ (tm0 : Nat → Value), L = [cellsR b1 33 [.int .i64 p2.fLo, .int .i64 p2.fHi], rowR A7 c8 33 2 y5.1.length (encL TSpan_cells y5.1), rowR A13 c14 33 2 y11.1.length (encL TSpan_cells y11.1)] ∧ tm = (upd (upd (upd (upd (upd (upd (upd (upd (upd (upd (upd (upd (upd (upd (upd (upd (upd (upd (upd tm0 0 (.slice A0_0 p0.length c0_0)) 1 (.int .i64 p1)) 2 (.agg #[.int .i64 p2.fLo, .int .i64 p2.fHi])) 3 (.int .u8 p3)) 4 (.int .u8 p4)) 7 (.pointer (some ⟨b1, 0, none⟩))) 10 (.bool s.1)) 11 (.bool y2)) 32 (.bool (decide (6 < ((p0.length : Nat) : Int))))) 12 (.slice A7 y5.1.length c8)) 13 (.int .i64 y5.2)) 14 (.slice A13 y11.1.length c14)) 15 (.int .i64 y11.2)) 53 (.bool ((y5.2 != 0) || (y11.2 != 0)))) 70 (.bool ((((y5.1.length : Nat) : Int) != ((p0.length : Nat) : Int)) || (((y11.1.length : Nat) : Int) != ((p0.length : Nat) : Int))))) 16 (.int .i64 u50.2.1)) 17 (.int .i64 u50.2.2.1)) 18 (.int .i64 u50.2.2.2)) 21 (.int .i64 s.2))) (fun | (.inl s), e, L, tm => e = .ret ∧ ∃ (tm0 : Nat → Value), L = [cellsR b1 33 [.int .i64 p2.fLo, .int .i64 p2.fHi], rowR A7 c8 33 2 y5.1.length (encL TSpan_cells y5.1), rowR A13 c14 33 2 y11.1.length (encL TSpan_cells y11.1)] ∧ tm = (upd (upd (upd (upd (upd (upd (upd (upd (upd (upd (upd (upd (upd (upd (upd (upd (upd (upd (upd tm0 0 (.slice A0_0 p0.length c0_0)) 1 (.int .i64 p1)) 2 (.agg #[.int .i64 p2.fLo, .int .i64 p2.fHi])) 3 (.int .u8 p3)) 4 (.int .u8 p4)) 7 (.pointer (some ⟨b1, 0, none⟩))) 10 (.bool s.1)) 11 (.bool y2)) 32 (.bool (decide (6 < ((p0.length : Nat) : Int))))) 12 (.slice A7 y5.1.length c8)) 13 (.int .i64 y5.2)) 14 (.slice A13 y11.1.length c14)) 15 (.int .i64 y11.2)) 53 (.bool ((y5.2 != 0) || (y11.2 != 0)))) 70 (.bool ((((y5.1.length : Nat) : Int) != ((p0.length : Nat) : Int)) || (((y11.1.length : Nat) : Int) != ((p0.length : Nat) : Int))))) 16 (.int .i64 u50.2.1)) 17 (.int .i64 u50.2.2.1)) 18 (.int .i64 u50.2.2.2)) 21 (.int .i64 s.2)) | (.inr s), e, L, tm => e = .exit 2 ∧ ∃ (tm0 : Nat → Value), L = [cellsR b1 33 [.int .i64 p2.fLo, .int .i64 p2.fHi], rowR A7 c8 33 2 y5.1.length (encL TSpan_cells y5.1), rowR A13 c14 33 2 y11.1.length (encL TSpan_cells y11.1)] ∧ tm = (upd (upd (upd (upd (upd (upd (upd (upd (upd (upd (upd (upd (upd (upd (upd (upd (upd (upd (upd tm0 0 (.slice A0_0 p0.length c0_0)) 1 (.int .i64 p1)) 2 (.agg #[.int .i64 p2.fLo, .int .i64 p2.fHi])) 3 (.int .u8 p3)) 4 (.int .u8 p4)) 7 (.pointer (some ⟨b1, 0, none⟩))) 10 (.bool s.1)) 11 (.bool y2)) 32 (.bool (decide (6 < ((p0.length : Nat) : Int))))) 12 (.slice A7 y5.1.length c8)) 13 (.int .i64 y5.2)) 14 (.slice A13 y11.1.length c14)) 15 (.int .i64 y11.2)) 53 (.bool ((y5.2 != 0) || (y11.2 != 0)))) 70 (.bool ((((y5.1.length : Nat) : Int) != ((p0.length : Nat) : Int)) || (((y11.1.length : Nat) : Int) != ((p0.length : Nat) : Int))))) 16 (.int .i64 u50.2.1)) 17 (.int .i64 u50.2.2.1)) 18 (.int .i64 u50.2.2.2)) 21 (.int .i64 s.2))) hl87 ⟨_, rfl, (keep (keep (keep (keep (keep (keep (keep (keep (keep (keep (keep (keep (keep (keep (keep (keep (keep (keep (keep rfl rfl) rfl) rfl) rfl) rfl) rfl) rfl) rfl) rfl) rfl) rfl) rfl) rfl) rfl) rfl) rfl) rfl) rfl) rfl)⟩ ?_ ?_
                · rintro s52 L tm st ⟨tm0_s52, rfl, rfl⟩ h
                  unfold calxlaw03_SampleSums_l2 at h
                  refine cx_seq ?_
                  refine cx_seq ?_
                  refine cx_region ?_
                  refine ox_y rfl (y_move_int rfl) ?_
                  refine ox_y rfl (y_move_slice rfl) ?_
                  refine ox_y rfl (y_len (us := []) us_31 rfl) ?_
                  refine ox_y rfl (y_lss rfl rfl) ?_
                  refine ox_nil ?_
                  refine ex_then ?_
                  rcases ite_some h with ⟨hp54, h⟩ | ⟨hp54, h⟩
                  · refine cx_true (congrArg Value.bool hp54) ?_
                    refine cx_skip ?_
                    refine ex_then ?_
                    refine cx_seq ?_
                    refine cx_block ?_
                    refine cx_seq ?_
                    refine cx_region ?_
                    refine ox_y rfl (y_move_int rfl) ?_
                    refine ox_y rfl (y_move_slice rfl) ?_
                    refine ox_y rfl (y_move_int rfl) ?_
                    obtain ⟨hg55, h⟩ := guardO_some h
                    refine ox_y rfl (y_indexR sl_34 (by decide) hg55.1 hg55.2 (RdL.row 2 rfl) (encL_len TSpan_cells_len rfl) rfl rfl) ?_
                    refine ox_y rfl (y_fieldAddrR (A := A13) (j := (Int.toNat s52.2 * 2)) fo_33_0 rfl) ?_
                    refine ox_y rfl (y_loadR1 (A := A13) (j := ((Int.toNat s52.2 * 2) + 0)) (v := .int .i64 ((rdL y11.1 s52.2).fLo)) sc_3 (RdL.row 2 rfl) rfl (encL_get TSpan_cells_len hg55.1 (lt_nat hg55.2 rfl) rfl)) ?_
                    refine ox_y rfl (y_sub rfl rfl) ?_
                    refine ox_y rfl (y_assign_int rfl) ?_
                    refine ox_nil ?_
                    refine ex_then ?_
                    refine cx_seq ?_
                    refine cx_region ?_
                    refine ox_y rfl (y_move_int rfl) ?_
                    refine ox_y rfl (y_move_slice rfl) ?_
                    refine ox_y rfl (y_move_int rfl) ?_
                    obtain ⟨hg56, h⟩ := guardO_some h
                    refine ox_y rfl (y_indexR sl_34 (by decide) hg56.1 hg56.2 (RdL.row 2 rfl) (encL_len TSpan_cells_len rfl) rfl rfl) ?_
                    refine ox_y rfl (y_fieldAddrR (A := A13) (j := (Int.toNat s52.2 * 2)) fo_33_1 rfl) ?_
                    refine ox_y rfl (y_loadR1 (A := A13) (j := ((Int.toNat s52.2 * 2) + 1)) (v := .int .i64 ((rdL y11.1 s52.2).fHi)) sc_3 (RdL.row 2 rfl) rfl (encL_get TSpan_cells_len hg56.1 (lt_nat hg56.2 rfl) rfl)) ?_
                    refine ox_y rfl (y_sub rfl rfl) ?_
                    refine ox_y rfl (y_assign_int rfl) ?_
                    refine ox_nil ?_
                    refine ex_then ?_
                    refine cx_seq ?_
                    refine cx_seq ?_
                    refine cx_draws 46 mixed (by kernel_rfl) (by kernel_rfl) ?_
                    refine qx_y rfl (y_move_slice rfl) ?_
                    refine qx_y rfl (y_move_int rfl) ?_
                    obtain ⟨hg57, h⟩ := guardO_some h
                    refine qx_y rfl (y_indexR sl_34 (by decide) hg57.1 hg57.2 (RdL.row 1 rfl) (encL_len TSpan_cells_len rfl) rfl rfl) ?_
                    refine qx_y rfl (y_fieldAddrR (A := A7) (j := (Int.toNat s52.2 * 2)) fo_33_0 rfl) ?_
                    refine qx_y rfl (y_loadR1 (A := A7) (j := ((Int.toNat s52.2 * 2) + 0)) (v := .int .i64 ((rdL y5.1 s52.2).fLo)) sc_3 (RdL.row 1 rfl) rfl (encL_get TSpan_cells_len hg57.1 (lt_nat hg57.2 rfl) rfl)) ?_
                    refine qx_y rfl (y_move_int rfl) ?_
                    refine qx_y rfl (y_add rfl rfl) ?_
                    refine qx_y rfl (y_fieldAddr fo_33_0 rfl) ?_
                    refine qx_y rfl (y_load1 0 (v := .int .i64 p2.fLo) sc_3 rfl rfl rfl) ?_
                    refine qx_y rfl (y_lss rfl rfl) ?_
                    refine qx_y rfl (y_move_bool rfl) ?_
                    obtain ⟨b59, hb60, h⟩ := bind_some h
                    refine qx_join 11 (fun tm0 => (upd (upd (upd (upd (upd (upd (upd (upd (upd (upd (upd (upd (upd (upd (upd (upd (upd (upd (upd (upd (upd (upd (upd tm0 0 (.slice A0_0 p0.length c0_0)) 1 (.int .i64 p1)) 2 (.agg #[.int .i64 p2.fLo, .int .i64 p2.fHi])) 3 (.int .u8 p3)) 4 (.int .u8 p4)) 7 (.pointer (some ⟨b1, 0, none⟩))) 10 (.bool s52.1)) 11 (.bool y2)) 32 (.bool (decide (6 < ((p0.length : Nat) : Int))))) 12 (.slice A7 y5.1.length c8)) 13 (.int .i64 y5.2)) 14 (.slice A13 y11.1.length c14)) 15 (.int .i64 y11.2)) 53 (.bool ((y5.2 != 0) || (y11.2 != 0)))) 70 (.bool ((((y5.1.length : Nat) : Int) != ((p0.length : Nat) : Int)) || (((y11.1.length : Nat) : Int) != ((p0.length : Nat) : Int))))) 16 (.int .i64 u50.2.1)) 17 (.int .i64 u50.2.2.1)) 18 (.int .i64 u50.2.2.2)) 21 (.int .i64 s52.2)) 140 (.bool (decide (s52.2 < ((p0.length : Nat) : Int))))) 22 (.int .i64 (w64 (u50.2.1 - ((rdL y11.1 s52.2).fLo))))) 23 (.int .i64 (w64 (u50.2.2.1 - ((rdL y11.1 s52.2).fHi))))) 178 (.bool b59))) (fun tm0 => ?_) (fun key => ?_)
                    · refine qx_y rfl (y_move_bool rfl) ?_
                      obtain ⟨b62, hb63, h⟩ := bind_some h
                      refine qx_join 11 (fun tm0 => (upd (upd (upd (upd (upd (upd (upd (upd (upd (upd (upd (upd (upd (upd (upd (upd (upd (upd (upd (upd (upd (upd (upd tm0 0 (.slice A0_0 p0.length c0_0)) 1 (.int .i64 p1)) 2 (.agg #[.int .i64 p2.fLo, .int .i64 p2.fHi])) 3 (.int .u8 p3)) 4 (.int .u8 p4)) 7 (.pointer (some ⟨b1, 0, none⟩))) 10 (.bool s52.1)) 11 (.bool y2)) 32 (.bool (decide (6 < ((p0.length : Nat) : Int))))) 12 (.slice A7 y5.1.length c8)) 13 (.int .i64 y5.2)) 14 (.slice A13 y11.1.length c14)) 15 (.int .i64 y11.2)) 53 (.bool ((y5.2 != 0) || (y11.2 != 0)))) 70 (.bool ((((y5.1.length : Nat) : Int) != ((p0.length : Nat) : Int)) || (((y11.1.length : Nat) : Int) != ((p0.length : Nat) : Int))))) 16 (.int .i64 u50.2.1)) 17 (.int .i64 u50.2.2.1)) 18 (.int .i64 u50.2.2.2)) 21 (.int .i64 s52.2)) 140 (.bool (decide (s52.2 < ((p0.length : Nat) : Int))))) 22 (.int .i64 (w64 (u50.2.1 - ((rdL y11.1 s52.2).fLo))))) 23 (.int .i64 (w64 (u50.2.2.1 - ((rdL y11.1 s52.2).fHi))))) 190 (.bool b62))) (fun tm0 => ?_) (fun key => ?_)
                      · refine qx_y rfl (y_move_bool rfl) ?_
                        obtain ⟨b65, hb66, h⟩ := bind_some h
                        refine qx_join 11 (fun tm0 => (upd (upd (upd (upd (upd (upd (upd (upd (upd (upd (upd (upd (upd (upd (upd (upd (upd (upd (upd (upd (upd (upd (upd tm0 0 (.slice A0_0 p0.length c0_0)) 1 (.int .i64 p1)) 2 (.agg #[.int .i64 p2.fLo, .int .i64 p2.fHi])) 3 (.int .u8 p3)) 4 (.int .u8 p4)) 7 (.pointer (some ⟨b1, 0, none⟩))) 10 (.bool s52.1)) 11 (.bool y2)) 32 (.bool (decide (6 < ((p0.length : Nat) : Int))))) 12 (.slice A7 y5.1.length c8)) 13 (.int .i64 y5.2)) 14 (.slice A13 y11.1.length c14)) 15 (.int .i64 y11.2)) 53 (.bool ((y5.2 != 0) || (y11.2 != 0)))) 70 (.bool ((((y5.1.length : Nat) : Int) != ((p0.length : Nat) : Int)) || (((y11.1.length : Nat) : Int) != ((p0.length : Nat) : Int))))) 16 (.int .i64 u50.2.1)) 17 (.int .i64 u50.2.2.1)) 18 (.int .i64 u50.2.2.2)) 21 (.int .i64 s52.2)) 140 (.bool (decide (s52.2 < ((p0.length : Nat) : Int))))) 22 (.int .i64 (w64 (u50.2.1 - ((rdL y11.1 s52.2).fLo))))) 23 (.int .i64 (w64 (u50.2.2.1 - ((rdL y11.1 s52.2).fHi))))) 202 (.bool b65))) (fun tm0 => ?_) (fun key => ?_)
                        · refine qx_nil ?_
                          refine ox_nil ?_
                          refine ex_then ?_
                          rcases ite_some h with ⟨hp67, h⟩ | ⟨hp67, h⟩
                          · refine cx_true (congrArg Value.bool hp67) ?_
                            refine cx_seq ?_
                            refine cx_region ?_
                            refine ox_y rfl (y_assign_bool rfl) ?_
                            refine ox_nil ?_
                            refine ex_then ?_
                            refine cx_ret ?_
                            refine ex_then_ret ?_
                            refine ex_block_ret ?_
                            refine ex_then_ret ?_
                            obtain rfl := Option.some.inj h
                            exact ex_stop ⟨rfl, _, rfl, (keep (keep (keep (keep (keep (keep (keep (keep (keep (keep (keep (keep (keep (keep (keep (keep (keep (keep (keep rfl rfl) rfl) rfl) rfl) rfl) rfl) rfl) rfl) rfl) rfl) rfl) rfl) rfl) rfl) rfl) rfl) rfl) rfl) rfl)⟩
                          · refine cx_false (congrArg Value.bool hp67) ?_
                            refine cx_skip ?_
                            refine ex_then ?_
                            refine cx_seq ?_
                            refine cx_draws 50 mixed (by kernel_rfl) (by kernel_rfl) ?_
                            refine qx_y rfl (y_move_slice rfl) ?_
                            refine qx_y rfl (y_move_int rfl) ?_
                            obtain ⟨hg68, h⟩ := guardO_some h
                            refine qx_y rfl (y_indexR sl_34 (by decide) hg68.1 hg68.2 (RdL.row 1 rfl) (encL_len TSpan_cells_len rfl) rfl rfl) ?_
                            refine qx_y rfl (y_fieldAddrR (A := A7) (j := (Int.toNat s52.2 * 2)) fo_33_0 rfl) ?_
                            refine qx_y rfl (y_loadR1 (A := A7) (j := ((Int.toNat s52.2 * 2) + 0)) (v := .int .i64 ((rdL y5.1 s52.2).fLo)) sc_3 (RdL.row 1 rfl) rfl (encL_get TSpan_cells_len hg68.1 (lt_nat hg68.2 rfl) rfl)) ?_
                            refine qx_y rfl (y_move_slice rfl) ?_
                            refine qx_y rfl (y_move_int rfl) ?_
                            obtain ⟨hg69, h⟩ := guardO_some h
                            refine qx_y rfl (y_indexR sl_34 (by decide) hg69.1 hg69.2 (RdL.row 2 rfl) (encL_len TSpan_cells_len rfl) rfl rfl) ?_
                            refine qx_y rfl (y_fieldAddrR (A := A13) (j := (Int.toNat s52.2 * 2)) fo_33_0 rfl) ?_
                            refine qx_y rfl (y_loadR1 (A := A13) (j := ((Int.toNat s52.2 * 2) + 0)) (v := .int .i64 ((rdL y11.1 s52.2).fLo)) sc_3 (RdL.row 2 rfl) rfl (encL_get TSpan_cells_len hg69.1 (lt_nat hg69.2 rfl) rfl)) ?_
                            refine qx_y rfl (y_gtr rfl rfl) ?_
                            refine qx_y rfl (y_move_bool rfl) ?_
                            obtain ⟨b71, hb72, h⟩ := bind_some h
                            refine qx_join 12 (fun tm0 => (upd (upd (upd (upd (upd (upd (upd (upd (upd (upd (upd (upd (upd (upd (upd (upd (upd (upd (upd (upd (upd (upd (upd (upd tm0 0 (.slice A0_0 p0.length c0_0)) 1 (.int .i64 p1)) 2 (.agg #[.int .i64 p2.fLo, .int .i64 p2.fHi])) 3 (.int .u8 p3)) 4 (.int .u8 p4)) 7 (.pointer (some ⟨b1, 0, none⟩))) 10 (.bool s52.1)) 11 (.bool y2)) 32 (.bool (decide (6 < ((p0.length : Nat) : Int))))) 12 (.slice A7 y5.1.length c8)) 13 (.int .i64 y5.2)) 14 (.slice A13 y11.1.length c14)) 15 (.int .i64 y11.2)) 53 (.bool ((y5.2 != 0) || (y11.2 != 0)))) 70 (.bool ((((y5.1.length : Nat) : Int) != ((p0.length : Nat) : Int)) || (((y11.1.length : Nat) : Int) != ((p0.length : Nat) : Int))))) 16 (.int .i64 u50.2.1)) 17 (.int .i64 u50.2.2.1)) 18 (.int .i64 u50.2.2.2)) 21 (.int .i64 s52.2)) 140 (.bool (decide (s52.2 < ((p0.length : Nat) : Int))))) 22 (.int .i64 (w64 (u50.2.1 - ((rdL y11.1 s52.2).fLo))))) 23 (.int .i64 (w64 (u50.2.2.1 - ((rdL y11.1 s52.2).fHi))))) 202 (.bool b65)) 226 (.bool b71))) (fun tm0 => ?_) (fun key => ?_)
                            · refine qx_y rfl (y_move_bool rfl) ?_
                              obtain ⟨b74, hb75, h⟩ := bind_some h
                              refine qx_join 25 (fun tm0 => (upd (upd (upd (upd (upd (upd (upd (upd (upd (upd (upd (upd (upd (upd (upd (upd (upd (upd (upd (upd (upd (upd (upd (upd tm0 0 (.slice A0_0 p0.length c0_0)) 1 (.int .i64 p1)) 2 (.agg #[.int .i64 p2.fLo, .int .i64 p2.fHi])) 3 (.int .u8 p3)) 4 (.int .u8 p4)) 7 (.pointer (some ⟨b1, 0, none⟩))) 10 (.bool s52.1)) 11 (.bool y2)) 32 (.bool (decide (6 < ((p0.length : Nat) : Int))))) 12 (.slice A7 y5.1.length c8)) 13 (.int .i64 y5.2)) 14 (.slice A13 y11.1.length c14)) 15 (.int .i64 y11.2)) 53 (.bool ((y5.2 != 0) || (y11.2 != 0)))) 70 (.bool ((((y5.1.length : Nat) : Int) != ((p0.length : Nat) : Int)) || (((y11.1.length : Nat) : Int) != ((p0.length : Nat) : Int))))) 16 (.int .i64 u50.2.1)) 17 (.int .i64 u50.2.2.1)) 18 (.int .i64 u50.2.2.2)) 21 (.int .i64 s52.2)) 140 (.bool (decide (s52.2 < ((p0.length : Nat) : Int))))) 22 (.int .i64 (w64 (u50.2.1 - ((rdL y11.1 s52.2).fLo))))) 23 (.int .i64 (w64 (u50.2.2.1 - ((rdL y11.1 s52.2).fHi))))) 202 (.bool b65)) 252 (.bool b74))) (fun tm0 => ?_) (fun key => ?_)
                              · refine qx_nil ?_
                                refine ox_nil ?_
                                refine ex_then ?_
                                rcases ite_some h with ⟨hp76, h⟩ | ⟨hp76, h⟩
                                · refine cx_true (congrArg Value.bool hp76) ?_
                                  refine cx_seq ?_
                                  refine cx_region ?_
                                  refine ox_y rfl (y_assign_bool rfl) ?_
                                  refine ox_nil ?_
                                  refine ex_then ?_
                                  refine cx_ret ?_
                                  refine ex_block_ret ?_
                                  refine ex_then_ret ?_
                                  obtain rfl := Option.some.inj h
                                  exact ex_stop ⟨rfl, _, rfl, (keep (keep (keep (keep (keep (keep (keep (keep (keep (keep (keep (keep (keep (keep (keep (keep (keep (keep (keep rfl rfl) rfl) rfl) rfl) rfl) rfl) rfl) rfl) rfl) rfl) rfl) rfl) rfl) rfl) rfl) rfl) rfl) rfl) rfl)⟩
                                · refine cx_false (congrArg Value.bool hp76) ?_
                                  refine cx_skip ?_
                                  refine ex_block ?_
                                  refine ex_then ?_
                                  refine cx_region ?_
                                  refine ox_y rfl (y_move_int rfl) ?_
                                  refine ox_y rfl (y_add rfl rfl) ?_
                                  refine ox_y rfl (y_assign_int rfl) ?_
                                  refine ox_nil ?_
                                  obtain rfl := Option.some.inj h
                                  exact ex_next ⟨_, rfl, (keep (keep (keep (keep (keep (keep (keep (keep (keep (keep (keep (keep (keep (keep (keep (keep (keep (keep (keep rfl rfl) rfl) rfl) rfl) rfl) rfl) rfl) rfl) rfl) rfl) rfl) rfl) rfl) rfl) rfl) rfl) rfl) rfl) rfl)⟩
                              · clear h; rcases ite_some hb75 with ⟨hp73, h⟩ | ⟨hp73, h⟩
                                · refine qx_skip (sees_f rfl rfl rfl rfl hp73) ?_
                                  refine qx_skip (sees_f rfl rfl rfl rfl hp73) ?_
                                  refine qx_skip (sees_f rfl rfl rfl rfl hp73) ?_
                                  refine qx_skip (sees_f rfl rfl rfl rfl hp73) ?_
                                  refine qx_skip (sees_f rfl rfl rfl rfl hp73) ?_
                                  refine qx_skip (sees_f rfl rfl rfl rfl hp73) ?_
                                  refine qx_skip (sees_f rfl rfl rfl rfl hp73) ?_
                                  refine qx_skip (sees_f rfl rfl rfl rfl hp73) ?_
                                  refine qx_skip (sees_f rfl rfl rfl rfl hp73) ?_
                                  refine qx_skip (sees_f rfl rfl rfl rfl hp73) ?_
                                  refine qx_skip (sees_f rfl rfl rfl rfl hp73) ?_
                                  refine qx_skip (sees_f rfl rfl rfl rfl hp73) ?_
                                  refine qx_skip rfl ?_
                                  refine qx_skip rfl ?_
                                  refine qx_skip rfl ?_
                                  refine qx_skip rfl ?_
                                  refine qx_skip rfl ?_
                                  refine qx_skip rfl ?_
                                  refine qx_skip rfl ?_
                                  refine qx_skip rfl ?_
                                  refine qx_skip rfl ?_
                                  refine qx_skip rfl ?_
                                  refine qx_skip rfl ?_
                                  refine qx_skip (sees_f rfl rfl rfl rfl hp73) ?_
                                  refine qx_y rfl (y_pick_tb (congrArg Value.bool hp73) rfl) ?_
                                  obtain rfl := Option.some.inj h
                                  exact key _ _ (keep (keep (keep (keep (keep (keep (keep (keep (keep (keep (keep (keep (keep (keep (keep (keep (keep (keep (keep (keep (keep (keep (keep (keep rfl rfl) rfl) rfl) rfl) rfl) rfl) rfl) rfl) rfl) rfl) rfl) rfl) rfl) rfl) rfl) rfl) rfl) rfl) rfl) rfl) rfl) rfl) rfl) rfl)
                                · refine qx_y (sees_t rfl rfl rfl rfl hp73) (y_move_slice rfl) ?_
                                  refine qx_y (sees_t rfl rfl rfl rfl hp73) (y_move_int rfl) ?_
                                  obtain ⟨hg77, h⟩ := guardO_some h
                                  refine qx_y (sees_t rfl rfl rfl rfl hp73) (y_indexR sl_34 (by decide) hg77.1 hg77.2 (RdL.row 1 rfl) (encL_len TSpan_cells_len rfl) rfl rfl) ?_
                                  refine qx_y (sees_t rfl rfl rfl rfl hp73) (y_fieldAddrR (A := A7) (j := (Int.toNat s52.2 * 2)) fo_33_1 rfl) ?_
                                  refine qx_y (sees_t rfl rfl rfl rfl hp73) (y_loadR1 (A := A7) (j := ((Int.toNat s52.2 * 2) + 1)) (v := .int .i64 ((rdL y5.1 s52.2).fHi)) sc_3 (RdL.row 1 rfl) rfl (encL_get TSpan_cells_len hg77.1 (lt_nat hg77.2 rfl) rfl)) ?_
                                  refine qx_y (sees_t rfl rfl rfl rfl hp73) (y_move_slice rfl) ?_
                                  refine qx_y (sees_t rfl rfl rfl rfl hp73) (y_move_int rfl) ?_
                                  obtain ⟨hg78, h⟩ := guardO_some h
                                  refine qx_y (sees_t rfl rfl rfl rfl hp73) (y_indexR sl_34 (by decide) hg78.1 hg78.2 (RdL.row 2 rfl) (encL_len TSpan_cells_len rfl) rfl rfl) ?_
                                  refine qx_y (sees_t rfl rfl rfl rfl hp73) (y_fieldAddrR (A := A13) (j := (Int.toNat s52.2 * 2)) fo_33_1 rfl) ?_
                                  refine qx_y (sees_t rfl rfl rfl rfl hp73) (y_loadR1 (A := A13) (j := ((Int.toNat s52.2 * 2) + 1)) (v := .int .i64 ((rdL y11.1 s52.2).fHi)) sc_3 (RdL.row 2 rfl) rfl (encL_get TSpan_cells_len hg78.1 (lt_nat hg78.2 rfl) rfl)) ?_
                                  refine qx_y (sees_t rfl rfl rfl rfl hp73) (y_lss rfl rfl) ?_
                                  refine qx_y (sees_t rfl rfl rfl rfl hp73) (y_move_bool rfl) ?_
                                  obtain ⟨b80, hb81, h⟩ := bind_some h
                                  refine qx_join 12 (fun tm0 => (upd (upd (upd (upd (upd (upd (upd (upd (upd (upd (upd (upd (upd (upd (upd (upd (upd (upd (upd (upd (upd (upd (upd (upd (upd tm0 0 (.slice A0_0 p0.length c0_0)) 1 (.int .i64 p1)) 2 (.agg #[.int .i64 p2.fLo, .int .i64 p2.fHi])) 3 (.int .u8 p3)) 4 (.int .u8 p4)) 7 (.pointer (some ⟨b1, 0, none⟩))) 10 (.bool s52.1)) 11 (.bool y2)) 32 (.bool (decide (6 < ((p0.length : Nat) : Int))))) 12 (.slice A7 y5.1.length c8)) 13 (.int .i64 y5.2)) 14 (.slice A13 y11.1.length c14)) 15 (.int .i64 y11.2)) 53 (.bool ((y5.2 != 0) || (y11.2 != 0)))) 70 (.bool ((((y5.1.length : Nat) : Int) != ((p0.length : Nat) : Int)) || (((y11.1.length : Nat) : Int) != ((p0.length : Nat) : Int))))) 16 (.int .i64 u50.2.1)) 17 (.int .i64 u50.2.2.1)) 18 (.int .i64 u50.2.2.2)) 21 (.int .i64 s52.2)) 140 (.bool (decide (s52.2 < ((p0.length : Nat) : Int))))) 22 (.int .i64 (w64 (u50.2.1 - ((rdL y11.1 s52.2).fLo))))) 23 (.int .i64 (w64 (u50.2.2.1 - ((rdL y11.1 s52.2).fHi))))) 202 (.bool b65)) 227 (.bool b71)) 251 (.bool b80))) (fun tm0 => ?_) (fun key => ?_)
                                  · refine qx_y rfl (y_pick_fb (congrArg Value.bool hp73) rfl) ?_
                                    obtain rfl := Option.some.inj h
                                    exact key _ _ (keep (keep (keep (keep (keep (keep (keep (keep (keep (keep (keep (keep (keep (keep (keep (keep (keep (keep (keep (keep (keep (keep (keep (keep rfl rfl) rfl) rfl) rfl) rfl) rfl) rfl) rfl) rfl) rfl) rfl) rfl) rfl) rfl) rfl) rfl) rfl) rfl) rfl) rfl) rfl) rfl) rfl) rfl)
                                  · clear h; rcases ite_some hb81 with ⟨hp79, h⟩ | ⟨hp79, h⟩
                                    · refine qx_y (sees_t rfl rfl rfl rfl hp79) (y_move_slice rfl) ?_
                                      refine qx_y (sees_t rfl rfl rfl rfl hp79) (y_move_int rfl) ?_
                                      obtain ⟨hg82, h⟩ := guardO_some h
                                      refine qx_y (sees_t rfl rfl rfl rfl hp79) (y_indexR sl_34 (by decide) hg82.1 hg82.2 (RdL.row 1 rfl) (encL_len TSpan_cells_len rfl) rfl rfl) ?_
                                      refine qx_y (sees_t rfl rfl rfl rfl hp79) (y_fieldAddrR (A := A7) (j := (Int.toNat s52.2 * 2)) fo_33_1 rfl) ?_
                                      refine qx_y (sees_t rfl rfl rfl rfl hp79) (y_loadR1 (A := A7) (j := ((Int.toNat s52.2 * 2) + 1)) (v := .int .i64 ((rdL y5.1 s52.2).fHi)) sc_3 (RdL.row 1 rfl) rfl (encL_get TSpan_cells_len hg82.1 (lt_nat hg82.2 rfl) rfl)) ?_
                                      refine qx_y (sees_t rfl rfl rfl rfl hp79) (y_add rfl rfl) ?_
                                      refine qx_y (sees_t rfl rfl rfl rfl hp79) (y_move_int rfl) ?_
                                      refine qx_y (sees_t rfl rfl rfl rfl hp79) (y_add rfl rfl) ?_
                                      refine qx_y (sees_t rfl rfl rfl rfl hp79) (y_fieldAddr fo_33_1 rfl) ?_
                                      refine qx_y (sees_t rfl rfl rfl rfl hp79) (y_load1 0 (v := .int .i64 p2.fHi) sc_3 rfl rfl rfl) ?_
                                      refine qx_y (sees_t rfl rfl rfl rfl hp79) (y_leq rfl rfl) ?_
                                      refine qx_y (sees_t rfl rfl rfl rfl hp73) (y_pick_tb (congrArg Value.bool hp79) rfl) ?_
                                      obtain rfl := Option.some.inj h
                                      exact key _ _ (keep (keep (keep (keep (keep (keep (keep (keep (keep (keep (keep (keep (keep (keep (keep (keep (keep (keep (keep (keep (keep (keep (keep (keep (keep rfl rfl) rfl) rfl) rfl) rfl) rfl) rfl) rfl) rfl) rfl) rfl) rfl) rfl) rfl) rfl) rfl) rfl) rfl) rfl) rfl) rfl) rfl) rfl) rfl) rfl)
                                    · refine qx_skip (sees_f rfl rfl rfl rfl hp79) ?_
                                      refine qx_skip (sees_f rfl rfl rfl rfl hp79) ?_
                                      refine qx_skip (sees_f rfl rfl rfl rfl hp79) ?_
                                      refine qx_skip (sees_f rfl rfl rfl rfl hp79) ?_
                                      refine qx_skip (sees_f rfl rfl rfl rfl hp79) ?_
                                      refine qx_skip (sees_f rfl rfl rfl rfl hp79) ?_
                                      refine qx_skip (sees_f rfl rfl rfl rfl hp79) ?_
                                      refine qx_skip (sees_f rfl rfl rfl rfl hp79) ?_
                                      refine qx_skip (sees_f rfl rfl rfl rfl hp79) ?_
                                      refine qx_skip (sees_f rfl rfl rfl rfl hp79) ?_
                                      refine qx_skip (sees_f rfl rfl rfl rfl hp79) ?_
                                      refine qx_y (sees_t rfl rfl rfl rfl hp73) (y_pick_fb (congrArg Value.bool hp79) rfl) ?_
                                      obtain rfl := Option.some.inj h
                                      exact key _ _ (keep (keep (keep (keep (keep (keep (keep (keep (keep (keep (keep (keep (keep (keep (keep (keep (keep (keep (keep (keep (keep (keep (keep (keep (keep rfl rfl) rfl) rfl) rfl) rfl) rfl) rfl) rfl) rfl) rfl) rfl) rfl) rfl) rfl) rfl) rfl) rfl) rfl) rfl) rfl) rfl) rfl) rfl) rfl) rfl)
                            · clear h; rcases ite_some hb72 with ⟨hp70, h⟩ | ⟨hp70, h⟩
                              · refine qx_y (sees_t rfl rfl rfl rfl hp70) (y_move_slice rfl) ?_
                                refine qx_y (sees_t rfl rfl rfl rfl hp70) (y_move_int rfl) ?_
                                obtain ⟨hg83, h⟩ := guardO_some h
                                refine qx_y (sees_t rfl rfl rfl rfl hp70) (y_indexR sl_34 (by decide) hg83.1 hg83.2 (RdL.row 1 rfl) (encL_len TSpan_cells_len rfl) rfl rfl) ?_
                                refine qx_y (sees_t rfl rfl rfl rfl hp70) (y_fieldAddrR (A := A7) (j := (Int.toNat s52.2 * 2)) fo_33_0 rfl) ?_
                                refine qx_y (sees_t rfl rfl rfl rfl hp70) (y_loadR1 (A := A7) (j := ((Int.toNat s52.2 * 2) + 0)) (v := .int .i64 ((rdL y5.1 s52.2).fLo)) sc_3 (RdL.row 1 rfl) rfl (encL_get TSpan_cells_len hg83.1 (lt_nat hg83.2 rfl) rfl)) ?_
                                refine qx_y (sees_t rfl rfl rfl rfl hp70) (y_sub rfl rfl) ?_
                                refine qx_y (sees_t rfl rfl rfl rfl hp70) (y_move_int rfl) ?_
                                refine qx_y (sees_t rfl rfl rfl rfl hp70) (y_add rfl rfl) ?_
                                refine qx_y (sees_t rfl rfl rfl rfl hp70) (y_fieldAddr fo_33_0 rfl) ?_
                                refine qx_y (sees_t rfl rfl rfl rfl hp70) (y_load1 0 (v := .int .i64 p2.fLo) sc_3 rfl rfl rfl) ?_
                                refine qx_y (sees_t rfl rfl rfl rfl hp70) (y_geq rfl rfl) ?_
                                refine qx_y rfl (y_pick_tb (congrArg Value.bool hp70) rfl) ?_
                                obtain rfl := Option.some.inj h
                                exact key _ _ (keep (keep (keep (keep (keep (keep (keep (keep (keep (keep (keep (keep (keep (keep (keep (keep (keep (keep (keep (keep (keep (keep (keep (keep rfl rfl) rfl) rfl) rfl) rfl) rfl) rfl) rfl) rfl) rfl) rfl) rfl) rfl) rfl) rfl) rfl) rfl) rfl) rfl) rfl) rfl) rfl) rfl) rfl)
                              · refine qx_skip (sees_f rfl rfl rfl rfl hp70) ?_
                                refine qx_skip (sees_f rfl rfl rfl rfl hp70) ?_
                                refine qx_skip (sees_f rfl rfl rfl rfl hp70) ?_
                                refine qx_skip (sees_f rfl rfl rfl rfl hp70) ?_
                                refine qx_skip (sees_f rfl rfl rfl rfl hp70) ?_
                                refine qx_skip (sees_f rfl rfl rfl rfl hp70) ?_
                                refine qx_skip (sees_f rfl rfl rfl rfl hp70) ?_
                                refine qx_skip (sees_f rfl rfl rfl rfl hp70) ?_
                                refine qx_skip (sees_f rfl rfl rfl rfl hp70) ?_
                                refine qx_skip (sees_f rfl rfl rfl rfl hp70) ?_
                                refine qx_skip (sees_f rfl rfl rfl rfl hp70) ?_
                                refine qx_y rfl (y_pick_fb (congrArg Value.bool hp70) rfl) ?_
                                obtain rfl := Option.some.inj h
                                exact key _ _ (keep (keep (keep (keep (keep (keep (keep (keep (keep (keep (keep (keep (keep (keep (keep (keep (keep (keep (keep (keep (keep (keep (keep (keep rfl rfl) rfl) rfl) rfl) rfl) rfl) rfl) rfl) rfl) rfl) rfl) rfl) rfl) rfl) rfl) rfl) rfl) rfl) rfl) rfl) rfl) rfl) rfl) rfl)
                        · clear h; rcases ite_some hb66 with ⟨hp64, h⟩ | ⟨hp64, h⟩
                          · refine qx_skip (sees_f rfl rfl rfl rfl hp64) ?_
                            refine qx_skip (sees_f rfl rfl rfl rfl hp64) ?_
                            refine qx_skip (sees_f rfl rfl rfl rfl hp64) ?_
                            refine qx_skip (sees_f rfl rfl rfl rfl hp64) ?_
                            refine qx_skip (sees_f rfl rfl rfl rfl hp64) ?_
                            refine qx_skip (sees_f rfl rfl rfl rfl hp64) ?_
                            refine qx_skip (sees_f rfl rfl rfl rfl hp64) ?_
                            refine qx_skip (sees_f rfl rfl rfl rfl hp64) ?_
                            refine qx_skip (sees_f rfl rfl rfl rfl hp64) ?_
                            refine qx_skip (sees_f rfl rfl rfl rfl hp64) ?_
                            refine qx_y rfl (y_pick_tb (congrArg Value.bool hp64) rfl) ?_
                            obtain rfl := Option.some.inj h
                            exact key _ _ (keep (keep (keep (keep (keep (keep (keep (keep (keep (keep (keep (keep (keep (keep (keep (keep (keep (keep (keep (keep (keep (keep (keep rfl rfl) rfl) rfl) rfl) rfl) rfl) rfl) rfl) rfl) rfl) rfl) rfl) rfl) rfl) rfl) rfl) rfl) rfl) rfl) rfl) rfl) rfl) rfl)
                          · refine qx_y (sees_t rfl rfl rfl rfl hp64) (y_move_slice rfl) ?_
                            refine qx_y (sees_t rfl rfl rfl rfl hp64) (y_move_int rfl) ?_
                            obtain ⟨hg84, h⟩ := guardO_some h
                            refine qx_y (sees_t rfl rfl rfl rfl hp64) (y_indexR sl_34 (by decide) hg84.1 hg84.2 (RdL.row 1 rfl) (encL_len TSpan_cells_len rfl) rfl rfl) ?_
                            refine qx_y (sees_t rfl rfl rfl rfl hp64) (y_fieldAddrR (A := A7) (j := (Int.toNat s52.2 * 2)) fo_33_1 rfl) ?_
                            refine qx_y (sees_t rfl rfl rfl rfl hp64) (y_loadR1 (A := A7) (j := ((Int.toNat s52.2 * 2) + 1)) (v := .int .i64 ((rdL y5.1 s52.2).fHi)) sc_3 (RdL.row 1 rfl) rfl (encL_get TSpan_cells_len hg84.1 (lt_nat hg84.2 rfl) rfl)) ?_
                            refine qx_y (sees_t rfl rfl rfl rfl hp64) (y_move_int rfl) ?_
                            refine qx_y (sees_t rfl rfl rfl rfl hp64) (y_add rfl rfl) ?_
                            refine qx_y (sees_t rfl rfl rfl rfl hp64) (y_fieldAddr fo_33_1 rfl) ?_
                            refine qx_y (sees_t rfl rfl rfl rfl hp64) (y_load1 0 (v := .int .i64 p2.fHi) sc_3 rfl rfl rfl) ?_
                            refine qx_y (sees_t rfl rfl rfl rfl hp64) (y_gtr rfl rfl) ?_
                            refine qx_y rfl (y_pick_fb (congrArg Value.bool hp64) rfl) ?_
                            obtain rfl := Option.some.inj h
                            exact key _ _ (keep (keep (keep (keep (keep (keep (keep (keep (keep (keep (keep (keep (keep (keep (keep (keep (keep (keep (keep (keep (keep (keep (keep rfl rfl) rfl) rfl) rfl) rfl) rfl) rfl) rfl) rfl) rfl) rfl) rfl) rfl) rfl) rfl) rfl) rfl) rfl) rfl) rfl) rfl) rfl) rfl)
                      · clear h; rcases ite_some hb63 with ⟨hp61, h⟩ | ⟨hp61, h⟩
                        · refine qx_skip (sees_f rfl rfl rfl rfl hp61) ?_
                          refine qx_skip (sees_f rfl rfl rfl rfl hp61) ?_
                          refine qx_skip (sees_f rfl rfl rfl rfl hp61) ?_
                          refine qx_skip (sees_f rfl rfl rfl rfl hp61) ?_
                          refine qx_skip (sees_f rfl rfl rfl rfl hp61) ?_
                          refine qx_skip (sees_f rfl rfl rfl rfl hp61) ?_
                          refine qx_skip (sees_f rfl rfl rfl rfl hp61) ?_
                          refine qx_skip (sees_f rfl rfl rfl rfl hp61) ?_
                          refine qx_skip (sees_f rfl rfl rfl rfl hp61) ?_
                          refine qx_skip (sees_f rfl rfl rfl rfl hp61) ?_
                          refine qx_y rfl (y_pick_tb (congrArg Value.bool hp61) rfl) ?_
                          obtain rfl := Option.some.inj h
                          exact key _ _ (keep (keep (keep (keep (keep (keep (keep (keep (keep (keep (keep (keep (keep (keep (keep (keep (keep (keep (keep (keep (keep (keep (keep rfl rfl) rfl) rfl) rfl) rfl) rfl) rfl) rfl) rfl) rfl) rfl) rfl) rfl) rfl) rfl) rfl) rfl) rfl) rfl) rfl) rfl) rfl) rfl)
                        · refine qx_y (sees_t rfl rfl rfl rfl hp61) (y_move_slice rfl) ?_
                          refine qx_y (sees_t rfl rfl rfl rfl hp61) (y_move_int rfl) ?_
                          obtain ⟨hg85, h⟩ := guardO_some h
                          refine qx_y (sees_t rfl rfl rfl rfl hp61) (y_indexR sl_34 (by decide) hg85.1 hg85.2 (RdL.row 1 rfl) (encL_len TSpan_cells_len rfl) rfl rfl) ?_
                          refine qx_y (sees_t rfl rfl rfl rfl hp61) (y_fieldAddrR (A := A7) (j := (Int.toNat s52.2 * 2)) fo_33_1 rfl) ?_
                          refine qx_y (sees_t rfl rfl rfl rfl hp61) (y_loadR1 (A := A7) (j := ((Int.toNat s52.2 * 2) + 1)) (v := .int .i64 ((rdL y5.1 s52.2).fHi)) sc_3 (RdL.row 1 rfl) rfl (encL_get TSpan_cells_len hg85.1 (lt_nat hg85.2 rfl) rfl)) ?_
                          refine qx_y (sees_t rfl rfl rfl rfl hp61) (y_move_int rfl) ?_
                          refine qx_y (sees_t rfl rfl rfl rfl hp61) (y_add rfl rfl) ?_
                          refine qx_y (sees_t rfl rfl rfl rfl hp61) (y_fieldAddr fo_33_0 rfl) ?_
                          refine qx_y (sees_t rfl rfl rfl rfl hp61) (y_load1 0 (v := .int .i64 p2.fLo) sc_3 rfl rfl rfl) ?_
                          refine qx_y (sees_t rfl rfl rfl rfl hp61) (y_lss rfl rfl) ?_
                          refine qx_y rfl (y_pick_fb (congrArg Value.bool hp61) rfl) ?_
                          obtain rfl := Option.some.inj h
                          exact key _ _ (keep (keep (keep (keep (keep (keep (keep (keep (keep (keep (keep (keep (keep (keep (keep (keep (keep (keep (keep (keep (keep (keep (keep rfl rfl) rfl) rfl) rfl) rfl) rfl) rfl) rfl) rfl) rfl) rfl) rfl) rfl) rfl) rfl) rfl) rfl) rfl) rfl) rfl) rfl) rfl) rfl)
                    · clear h; rcases ite_some hb60 with ⟨hp58, h⟩ | ⟨hp58, h⟩
                      · refine qx_skip (sees_f rfl rfl rfl rfl hp58) ?_
                        refine qx_skip (sees_f rfl rfl rfl rfl hp58) ?_
                        refine qx_skip (sees_f rfl rfl rfl rfl hp58) ?_
                        refine qx_skip (sees_f rfl rfl rfl rfl hp58) ?_
                        refine qx_skip (sees_f rfl rfl rfl rfl hp58) ?_
                        refine qx_skip (sees_f rfl rfl rfl rfl hp58) ?_
                        refine qx_skip (sees_f rfl rfl rfl rfl hp58) ?_
                        refine qx_skip (sees_f rfl rfl rfl rfl hp58) ?_
                        refine qx_skip (sees_f rfl rfl rfl rfl hp58) ?_
                        refine qx_skip (sees_f rfl rfl rfl rfl hp58) ?_
                        refine qx_y rfl (y_pick_tb (congrArg Value.bool hp58) rfl) ?_
                        obtain rfl := Option.some.inj h
                        exact key _ _ (keep (keep (keep (keep (keep (keep (keep (keep (keep (keep (keep (keep (keep (keep (keep (keep (keep (keep (keep (keep (keep (keep (keep rfl rfl) rfl) rfl) rfl) rfl) rfl) rfl) rfl) rfl) rfl) rfl) rfl) rfl) rfl) rfl) rfl) rfl) rfl) rfl) rfl) rfl) rfl) rfl)
                      · refine qx_y (sees_t rfl rfl rfl rfl hp58) (y_move_slice rfl) ?_
                        refine qx_y (sees_t rfl rfl rfl rfl hp58) (y_move_int rfl) ?_
                        obtain ⟨hg86, h⟩ := guardO_some h
                        refine qx_y (sees_t rfl rfl rfl rfl hp58) (y_indexR sl_34 (by decide) hg86.1 hg86.2 (RdL.row 1 rfl) (encL_len TSpan_cells_len rfl) rfl rfl) ?_
                        refine qx_y (sees_t rfl rfl rfl rfl hp58) (y_fieldAddrR (A := A7) (j := (Int.toNat s52.2 * 2)) fo_33_0 rfl) ?_
                        refine qx_y (sees_t rfl rfl rfl rfl hp58) (y_loadR1 (A := A7) (j := ((Int.toNat s52.2 * 2) + 0)) (v := .int .i64 ((rdL y5.1 s52.2).fLo)) sc_3 (RdL.row 1 rfl) rfl (encL_get TSpan_cells_len hg86.1 (lt_nat hg86.2 rfl) rfl)) ?_
                        refine qx_y (sees_t rfl rfl rfl rfl hp58) (y_move_int rfl) ?_
                        refine qx_y (sees_t rfl rfl rfl rfl hp58) (y_add rfl rfl) ?_
                        refine qx_y (sees_t rfl rfl rfl rfl hp58) (y_fieldAddr fo_33_1 rfl) ?_
                        refine qx_y (sees_t rfl rfl rfl rfl hp58) (y_load1 0 (v := .int .i64 p2.fHi) sc_3 rfl rfl rfl) ?_
                        refine qx_y (sees_t rfl rfl rfl rfl hp58) (y_gtr rfl rfl) ?_
                        refine qx_y rfl (y_pick_fb (congrArg Value.bool hp58) rfl) ?_
                        obtain rfl := Option.some.inj h
                        exact key _ _ (keep (keep (keep (keep (keep (keep (keep (keep (keep (keep (keep (keep (keep (keep (keep (keep (keep (keep (keep (keep (keep (keep (keep rfl rfl) rfl) rfl) rfl) rfl) rfl) rfl) rfl) rfl) rfl) rfl) rfl) rfl) rfl) rfl) rfl) rfl) rfl) rfl) rfl) rfl) rfl) rfl)
                  · refine cx_false (congrArg Value.bool hp54) ?_
                    refine cx_exit ?_
                    refine ex_then_exit ?_
                    obtain rfl := Option.some.inj h
                    exact ex_stop ⟨rfl, _, rfl, (keep (keep (keep (keep (keep (keep (keep (keep (keep (keep (keep (keep (keep (keep (keep (keep (keep (keep (keep rfl rfl) rfl) rfl) rfl) rfl) rfl) rfl) rfl) rfl) rfl) rfl) rfl) rfl) rfl) rfl) rfl) rfl) rfl) rfl)⟩
                · intro e L tm hJ
                  rcases u53 with u88 | u89
                  · dsimp only at h hJ
                    obtain ⟨rfl, tm0_u88, rfl, rfl⟩ := hJ
                    refine ⟨(by intro hc; cases hc), ?_⟩
                    refine ex_block_ret ?_
                    refine ex_then_ret ?_
                    obtain rfl := Option.some.inj h
                    exact ex_res1 (.inl rfl) rfl (resV_tmp (v := .bool u88.1) rfl) (fun W2 hW2 => ⟨rfl, hW2.none⟩)
                  · dsimp only at h hJ
                    obtain ⟨rfl, tm0_u89, rfl, rfl⟩ := hJ
                    refine ⟨(by intro hc; cases hc), ?_⟩
                    refine ex_block_here ?_
                    refine ex_then ?_
                    refine cx_seq ?_
                    refine cx_seq ?_
                    refine cx_region ?_
                    refine ox_y rfl (y_fieldAddr fo_33_0 rfl) ?_
                    refine ox_y rfl (y_load1 0 (v := .int .i64 p2.fLo) sc_3 rfl rfl rfl) ?_
                    refine ox_y rfl (y_lss rfl rfl) ?_
                    refine ox_y rfl (y_move_bool rfl) ?_
                    refine ox_join 4 (fun tm0 => (upd (upd (upd (upd (upd (upd (upd (upd (upd (upd (upd (upd (upd (upd (upd (upd (upd (upd (upd (upd tm0 0 (.slice A0_0 p0.length c0_0)) 1 (.int .i64 p1)) 2 (.agg #[.int .i64 p2.fLo, .int .i64 p2.fHi])) 3 (.int .u8 p3)) 4 (.int .u8 p4)) 7 (.pointer (some ⟨b1, 0, none⟩))) 10 (.bool u89.1)) 11 (.bool y2)) 32 (.bool (decide (6 < ((p0.length : Nat) : Int))))) 12 (.slice A7 y5.1.length c8)) 13 (.int .i64 y5.2)) 14 (.slice A13 y11.1.length c14)) 15 (.int .i64 y11.2)) 53 (.bool ((y5.2 != 0) || (y11.2 != 0)))) 70 (.bool ((((y5.1.length : Nat) : Int) != ((p0.length : Nat) : Int)) || (((y11.1.length : Nat) : Int) != ((p0.length : Nat) : Int))))) 16 (.int .i64 u50.2.1)) 17 (.int .i64 u50.2.2.1)) 18 (.int .i64 u50.2.2.2)) 21 (.int .i64 u89.2)) 260 (.bool ((decide (p2.fLo < (-1000))) || (decide (2000 < p2.fHi)))))) (fun tm0 => ?_) (fun key => ?_)
                    · refine ox_y rfl (y_move_bool rfl) ?_
                      refine ox_join 7 (fun tm0 => (upd (upd (upd (upd (upd (upd (upd (upd (upd (upd (upd (upd (upd (upd (upd (upd (upd (upd (upd (upd tm0 0 (.slice A0_0 p0.length c0_0)) 1 (.int .i64 p1)) 2 (.agg #[.int .i64 p2.fLo, .int .i64 p2.fHi])) 3 (.int .u8 p3)) 4 (.int .u8 p4)) 7 (.pointer (some ⟨b1, 0, none⟩))) 10 (.bool u89.1)) 11 (.bool y2)) 32 (.bool (decide (6 < ((p0.length : Nat) : Int))))) 12 (.slice A7 y5.1.length c8)) 13 (.int .i64 y5.2)) 14 (.slice A13 y11.1.length c14)) 15 (.int .i64 y11.2)) 53 (.bool ((y5.2 != 0) || (y11.2 != 0)))) 70 (.bool ((((y5.1.length : Nat) : Int) != ((p0.length : Nat) : Int)) || (((y11.1.length : Nat) : Int) != ((p0.length : Nat) : Int))))) 16 (.int .i64 u50.2.1)) 17 (.int .i64 u50.2.2.1)) 18 (.int .i64 u50.2.2.2)) 21 (.int .i64 u89.2)) 268 (.bool (((decide (p2.fLo < (-1000))) || (decide (2000 < p2.fHi))) || (decide (1000 < w64 (p2.fHi - p2.fLo))))))) (fun tm0 => ?_) (fun key => ?_)
                      · refine ox_nil ?_
                        refine ex_then ?_
                        rcases ite_some h with ⟨hp92, h⟩ | ⟨hp92, h⟩
                        · refine cx_true (congrArg Value.bool hp92) ?_
                          refine cx_seq ?_
                          refine cx_region ?_
                          refine ox_y rfl (y_move_bool rfl) ?_
                          refine ox_y rfl (y_assign_bool rfl) ?_
                          refine ox_nil ?_
                          refine ex_then ?_
                          refine cx_ret ?_
                          refine ex_then_ret ?_
                          obtain rfl := Option.some.inj h
                          exact ex_res1 (.inl rfl) rfl (resV_tmp (v := .bool y2) rfl) (fun W2 hW2 => ⟨rfl, hW2.none⟩)
                        · refine cx_false (congrArg Value.bool hp92) ?_
                          refine cx_skip ?_
                          refine ex_then ?_
                          refine cx_seq ?_
                          refine cx_draws 13 mixed (by kernel_rfl) (by kernel_rfl) ?_
                          refine qx_y rfl (y_fieldAddr fo_33_0 rfl) ?_
                          refine qx_y rfl (y_load1 0 (v := .int .i64 p2.fLo) sc_3 rfl rfl rfl) ?_
                          refine qx_y rfl (y_move_int rfl) ?_
                          refine qx_y rfl (y_convert ui_5 ui_3 rfl) ?_
                          refine qx_y rfl (y_fieldAddr fo_33_1 rfl) ?_
                          refine qx_y rfl (y_load1 0 (v := .int .i64 p2.fHi) sc_3 rfl rfl rfl) ?_
                          refine qx_y rfl (y_fieldAddr fo_33_0 rfl) ?_
                          refine qx_y rfl (y_load1 0 (v := .int .i64 p2.fLo) sc_3 rfl rfl rfl) ?_
                          refine qx_y rfl (y_sub rfl rfl) ?_
                          refine qx_y rfl (y_add rfl rfl) ?_
                          obtain ⟨hg93, h⟩ := guardO_some h
                          refine qx_y rfl (y_rem hg93 rfl rfl) ?_
                          refine qx_y rfl (y_add rfl rfl) ?_
                          refine qx_y rfl (y_assign_int rfl) ?_
                          refine qx_nil ?_
                          refine ox_nil ?_
                          refine ex_then ?_
                          refine cx_seq ?_
                          refine cx_region ?_
                          refine ox_y rfl (y_move_int rfl) ?_
                          refine ox_y rfl (y_move_int rfl) ?_
                          refine ox_y rfl (y_move_int rfl) ?_
                          refine ox_y rfl (y_convert ui_5 ui_3 rfl) ?_
                          refine ox_y rfl (y_fieldAddr fo_33_1 rfl) ?_
                          refine ox_y rfl (y_load1 0 (v := .int .i64 p2.fHi) sc_3 rfl rfl rfl) ?_
                          refine ox_y rfl (y_move_int rfl) ?_
                          refine ox_y rfl (y_sub rfl rfl) ?_
                          refine ox_y rfl (y_add rfl rfl) ?_
                          obtain ⟨hg94, h⟩ := guardO_some h
                          refine ox_y rfl (y_rem hg94 rfl rfl) ?_
                          refine ox_y rfl (y_add rfl rfl) ?_
                          refine ox_y rfl (y_buildS [.int .i64 (w64 (p2.fLo + (Int.tmod (w64 p3) (w64 ((w64 (p2.fHi - p2.fLo)) + 1))))), .int .i64 (w64 ((w64 (p2.fLo + (Int.tmod (w64 p3) (w64 ((w64 (p2.fHi - p2.fLo)) + 1))))) + (Int.tmod (w64 p4) (w64 ((w64 (p2.fHi - (w64 (p2.fLo + (Int.tmod (w64 p3) (w64 ((w64 (p2.fHi - p2.fLo)) + 1))))))) + 1)))))] [(0, 1), (1, 1)] ust_33 ze_33 (by kernel_rfl)) ?_
                          refine ox_alloc ze_33 rfl (fun b95 => ?_)
                          refine ox_n rfl (y_storeN 3 [.int .i64 (w64 (p2.fLo + (Int.tmod (w64 p3) (w64 ((w64 (p2.fHi - p2.fLo)) + 1))))), .int .i64 (w64 ((w64 (p2.fLo + (Int.tmod (w64 p3) (w64 ((w64 (p2.fHi - p2.fLo)) + 1))))) + (Int.tmod (w64 p4) (w64 ((w64 (p2.fHi - (w64 (p2.fLo + (Int.tmod (w64 p3) (w64 ((w64 (p2.fHi - p2.fLo)) + 1))))))) + 1)))))] sz_33 rfl (Nat.le_of_ble_eq_true rfl) rfl rfl rfl) ?_
                          refine ox_nil ?_
                          refine ex_then ?_
                          refine cx_seq ?_
                          refine cx_region ?_
                          refine ox_y rfl (y_move_slice rfl) ?_
                          refine ox_y rfl (y_move_int rfl) ?_
                          refine ox_y rfl (y_loadN 3 [.int .i64 (w64 (p2.fLo + (Int.tmod (w64 p3) (w64 ((w64 (p2.fHi - p2.fLo)) + 1))))), .int .i64 (w64 ((w64 (p2.fLo + (Int.tmod (w64 p3) (w64 ((w64 (p2.fHi - p2.fLo)) + 1))))) + (Int.tmod (w64 p4) (w64 ((w64 (p2.fHi - (w64 (p2.fLo + (Int.tmod (w64 p3) (w64 ((w64 (p2.fHi - p2.fLo)) + 1))))))) + 1)))))] ag_33 rfl rfl rfl) ?_
                          obtain ⟨y96, hy97, h⟩ := bind_some h
                          refine ox_call [.slice A0_0 p0.length c0_0, .int .i64 p1, .agg #[.int .i64 (w64 (p2.fLo + (Int.tmod (w64 p3) (w64 ((w64 (p2.fHi - p2.fLo)) + 1))))), .int .i64 (w64 ((w64 (p2.fLo + (Int.tmod (w64 p3) (w64 ((w64 (p2.fHi - p2.fLo)) + 1))))) + (Int.tmod (w64 p4) (w64 ((w64 (p2.fHi - (w64 (p2.fLo + (Int.tmod (w64 p3) (w64 ((w64 (p2.fHi - p2.fLo)) + 1))))))) + 1)))))]] _ _ _ rfl go_25 rfl (fun W2 hW2 => sample_Together_ok p0 p1 (TSpan.mk (w64 (p2.fLo + (Int.tmod (w64 p3) (w64 ((w64 (p2.fHi - p2.fLo)) + 1))))) (w64 ((w64 (p2.fLo + (Int.tmod (w64 p3) (w64 ((w64 (p2.fHi - p2.fLo)) + 1))))) + (Int.tmod (w64 p4) (w64 ((w64 (p2.fHi - (w64 (p2.fLo + (Int.tmod (w64 p3) (w64 ((w64 (p2.fHi - p2.fLo)) + 1))))))) + 1)))))) y96 hy97 W2 A0_0 p0.length c0_0 rfl ((RdL.arg hr0_0) W2 hW2)) ?_
                          rintro ⟨A98, n100, c99⟩ hn101
                          replace hn101 : n100 = y96.1.length := hn101; subst hn101
                          refine ox_y rfl (y_move_tuple rfl) ?_
                          refine ox_y rfl (y_extract (vs := [.slice A98 y96.1.length c99, .int .i64 y96.2]) (v := .slice A98 y96.1.length c99) rfl rfl) ?_
                          refine ox_y rfl (y_extract (vs := [.slice A98 y96.1.length c99, .int .i64 y96.2]) (v := .int .i64 y96.2) rfl rfl) ?_
                          refine ox_y rfl (y_assign_slice rfl) ?_
                          refine ox_y rfl (y_assign_int rfl) ?_
                          refine ox_nil ?_
                          refine ex_then ?_
                          refine cx_seq ?_
                          refine cx_seq ?_
                          refine cx_region ?_
                          refine ox_y rfl (y_move_int rfl) ?_
                          refine ox_y rfl (y_neq rfl rfl) ?_
                          refine ox_nil ?_
                          refine ex_then ?_
                          rcases ite_some h with ⟨hp102, h⟩ | ⟨hp102, h⟩
                          · refine cx_true (congrArg Value.bool hp102) ?_
                            refine cx_seq ?_
                            refine cx_region ?_
                            refine ox_y rfl (y_move_bool rfl) ?_
                            refine ox_y rfl (y_move_bool rfl) ?_
                            refine ox_join 3 (fun tm0 => (upd (upd (upd (upd (upd (upd (upd (upd (upd (upd (upd (upd (upd (upd (upd (upd (upd (upd (upd (upd (upd (upd (upd (upd (upd (upd tm0 0 (.slice A0_0 p0.length c0_0)) 1 (.int .i64 p1)) 2 (.agg #[.int .i64 p2.fLo, .int .i64 p2.fHi])) 3 (.int .u8 p3)) 4 (.int .u8 p4)) 7 (.pointer (some ⟨b1, 0, none⟩))) 10 (.bool u89.1)) 11 (.bool y2)) 32 (.bool (decide (6 < ((p0.length : Nat) : Int))))) 12 (.slice A7 y5.1.length c8)) 13 (.int .i64 y5.2)) 14 (.slice A13 y11.1.length c14)) 15 (.int .i64 y11.2)) 53 (.bool ((y5.2 != 0) || (y11.2 != 0)))) 70 (.bool ((((y5.1.length : Nat) : Int) != ((p0.length : Nat) : Int)) || (((y11.1.length : Nat) : Int) != ((p0.length : Nat) : Int))))) 16 (.int .i64 u50.2.1)) 17 (.int .i64 u50.2.2.1)) 18 (.int .i64 u50.2.2.2)) 21 (.int .i64 u89.2)) 268 (.bool (((decide (p2.fLo < (-1000))) || (decide (2000 < p2.fHi))) || (decide (1000 < w64 (p2.fHi - p2.fLo)))))) 24 (.int .i64 (w64 (p2.fLo + (Int.tmod (w64 p3) (w64 ((w64 (p2.fHi - p2.fLo)) + 1))))))) 25 (.pointer (some ⟨b95, 0, none⟩))) 26 (.slice A98 y96.1.length c99)) 27 (.int .i64 y96.2)) 302 (.bool (y96.2 != 0))) 307 (.bool (y2 && (y96.2 == 9))))) (fun tm0 => ?_) (fun key => ?_)
                            · refine ox_y rfl (y_assign_bool rfl) ?_
                              refine ox_nil ?_
                              refine ex_then ?_
                              refine cx_ret ?_
                              refine ex_then_ret ?_
                              obtain rfl := Option.some.inj h
                              exact ex_res1 (.inl rfl) rfl (resV_tmp (v := .bool (y2 && (y96.2 == 9))) rfl) (fun W2 hW2 => ⟨rfl, hW2.none⟩)
                            · rcases bool_cases y2 with hp103 | hp103
                              · refine ox_y (sees_t rfl rfl rfl rfl hp103) (y_move_int rfl) ?_
                                refine ox_y (sees_t rfl rfl rfl rfl hp103) (y_eql rfl rfl) ?_
                                refine ox_y rfl (y_pick_tb (congrArg Value.bool hp103) rfl) ?_
                                exact key _ _ (keep (keep (keep (keep (keep (keep (keep (keep (keep (keep (keep (keep (keep (keep (keep (keep (keep (keep (keep (keep (keep (keep (keep (keep (keep (keep rfl rfl) rfl) rfl) rfl) rfl) rfl) rfl) rfl) rfl) rfl) rfl) rfl) rfl) rfl) rfl) rfl) rfl) rfl) rfl) rfl) rfl) rfl) rfl) rfl) rfl) (congrArg Value.bool (and_t hp103)))
                              · refine ox_skip (sees_f rfl rfl rfl rfl hp103) ?_
                                refine ox_skip (sees_f rfl rfl rfl rfl hp103) ?_
                                refine ox_y rfl (y_pick_fb (congrArg Value.bool hp103) rfl) ?_
                                exact key _ _ (keep (keep (keep (keep (keep (keep (keep (keep (keep (keep (keep (keep (keep (keep (keep (keep (keep (keep (keep (keep (keep (keep (keep (keep (keep (keep rfl rfl) rfl) rfl) rfl) rfl) rfl) rfl) rfl) rfl) rfl) rfl) rfl) rfl) rfl) rfl) rfl) rfl) rfl) rfl) rfl) rfl) rfl) rfl) rfl) rfl) (congrArg Value.bool (and_f hp103)))
                          · refine cx_false (congrArg Value.bool hp102) ?_
                            refine cx_skip ?_
                            refine ex_then ?_
                            refine cx_seq ?_
                            refine cx_seq ?_
                            refine cx_region ?_
                            refine ox_y rfl (y_move_slice rfl) ?_
                            refine ox_y rfl (y_len (us := []) us_34 rfl) ?_
                            refine ox_y rfl (y_move_slice rfl) ?_
                            refine ox_y rfl (y_len (us := []) us_34 rfl) ?_
                            refine ox_y rfl (y_neq rfl rfl) ?_
                            refine ox_nil ?_
                            refine ex_then ?_
                            rcases ite_some h with ⟨hp104, h⟩ | ⟨hp104, h⟩
                            · refine cx_true (congrArg Value.bool hp104) ?_
                              refine cx_seq ?_
                              refine cx_region ?_
                              refine ox_y rfl (y_assign_bool rfl) ?_
                              refine ox_nil ?_
                              refine ex_then ?_
                              refine cx_ret ?_
                              refine ex_then_ret ?_
                              obtain rfl := Option.some.inj h
                              exact ex_res1 (.inl rfl) rfl (resV_tmp (v := .bool false) rfl) (fun W2 hW2 => ⟨rfl, hW2.none⟩)
                            · refine cx_false (congrArg Value.bool hp104) ?_
                              refine cx_skip ?_
                              refine ex_then ?_
                              refine cx_seq ?_
                              refine cx_seq ?_
                              refine cx_region ?_
                              refine ox_y rfl (y_assign_int rfl) ?_
                              refine ox_nil ?_
                              refine ex_then ?_
                              refine cx_block ?_
                              obtain ⟨u107, hl117, h⟩ := bind_some h
                              refine cx_loop (fun (s : (Bool × Int)) L tm => ∃ (tm0 : Nat → Value), L = [cellsR b1 33 [.int .i64 p2.fLo, .int .i64 p2.fHi], rowR A7 c8 33 2 y5.1.length (encL TSpan_cells y5.1), rowR A13 c14 33 2 y11.1.length (encL TSpan_cells y11.1), cellsR b95 33 [.int .i64 (w64 (p2.fLo + (Int.tmod (w64 p3) (w64 ((w64 (p2.fHi - p2.fLo)) + 1))))), .int .i64 (w64 ((w64 (p2.fLo + (Int.tmod (w64 p3) (w64 ((w64 (p2.fHi - p2.fLo)) + 1))))) + (Int.tmod (w64 p4) (w64 ((w64 (p2.fHi - (w64 (p2.fLo + (Int.tmod (w64 p3) (w64 ((w64 (p2.fHi - p2.fLo)) + 1))))))) + 1)))))], rowR A98 c99 33 2 y96.1.length (encL TSpan_cells y96.1)] ∧ tm = (upd (upd (upd (upd (upd (upd (upd (upd (upd (upd (upd (upd (upd (upd (upd (upd (upd (upd (upd (upd (upd (upd (upd (upd (upd (upd (upd tm0 0 (.slice A0_0 p0.length c0_0)) 1 (.int .i64 p1)) 2 (.agg #[.int .i64 p2.fLo, .int .i64 p2.fHi])) 3 (.int .u8 p3)) 4 (.int .u8 p4)) 7 (.pointer (some ⟨b1, 0, none⟩))) 10 (.bool s.1)) 11 (.bool y2)) 32 (.bool (decide (6 < ((p0.length : Nat) : Int))))) 12 (.slice A7 y5.1.length c8)) 13 (.int .i64 y5.2)) 14 (.slice A13 y11.1.length c14)) 15 (.int .i64 y11.2)) 53 (.bool ((y5.2 != 0) || (y11.2 != 0)))) 70 (.bool ((((y5.1.length : Nat) : Int) != ((p0.length : Nat) : Int)) || (((y11.1.length : Nat) : Int) != ((p0.length : Nat) : Int))))) 16 (.int .i64 u50.2.1)) 17 (.int .i64 u50.2.2.1)) 18 (.int .i64 u50.2.2.2)) 21 (.int .i64 u89.2)) 268 (.bool (((decide (p2.fLo < (-1000))) || (decide (2000 < p2.fHi))) || (decide (1000 < w64 (p2.fHi - p2.fLo)))))) 24 (.int .i64 (w64 (p2.fLo + (Int.tmod (w64 p3) (w64 ((w64 (p2.fHi - p2.fLo)) + 1))))))) 25 (.pointer (some ⟨b95, 0, none⟩))) 26 (.slice A98 y96.1.length c99)) 27 (.int .i64 y96.2)) 302 (.bool (y96.2 != 0))) 312 (.bool (((y96.1.length : Nat) : Int) != ((y5.1.length : Nat) : Int)))) 28 (.int .i64 s.2))) (fun | (.inl s), e, L, tm => e = .ret ∧ ∃ (tm0 : Nat → Value), L = [cellsR b1 33 [.int .i64 p2.fLo, .int .i64 p2.fHi], rowR A7 c8 33 2 y5.1.length (encL TSpan_cells y5.1), rowR A13 c14 33 2 y11.1.length (encL TSpan_cells y11.1), cellsR b95 33 [.int .i64 (w64 (p2.fLo + (Int.tmod (w64 p3) (w64 ((w64 (p2.fHi - p2.fLo)) + 1))))), .int .i64 (w64 ((w64 (p2.fLo + (Int.tmod (w64 p3) (w64 ((w64 (p2.fHi - p2.fLo)) + 1))))) + (Int.tmod (w64 p4) (w64 ((w64 (p2.fHi - (w64 (p2.fLo + (Int.tmod (w64 p3) (w64 ((w64 (p2.fHi - p2.fLo)) + 1))))))) + 1)))))], rowR A98 c99 33 2 y96.1.length (encL TSpan_cells y96.1)] ∧ tm = (upd (upd (upd (upd (upd (upd (upd (upd (upd (upd (upd (upd (upd (upd (upd (upd (upd (upd (upd (upd (upd (upd (upd (upd (upd (upd (upd tm0 0 (.slice A0_0 p0.length c0_0)) 1 (.int .i64 p1)) 2 (.agg #[.int .i64 p2.fLo, .int .i64 p2.fHi])) 3 (.int .u8 p3)) 4 (.int .u8 p4)) 7 (.pointer (some ⟨b1, 0, none⟩))) 10 (.bool s.1)) 11 (.bool y2)) 32 (.bool (decide (6 < ((p0.length : Nat) : Int))))) 12 (.slice A7 y5.1.length c8)) 13 (.int .i64 y5.2)) 14 (.slice A13 y11.1.length c14)) 15 (.int .i64 y11.2)) 53 (.bool ((y5.2 != 0) || (y11.2 != 0)))) 70 (.bool ((((y5.1.length : Nat) : Int) != ((p0.length : Nat) : Int)) || (((y11.1.length : Nat) : Int) != ((p0.length : Nat) : Int))))) 16 (.int .i64 u50.2.1)) 17 (.int .i64 u50.2.2.1)) 18 (.int .i64 u50.2.2.2)) 21 (.int .i64 u89.2)) 268 (.bool (((decide (p2.fLo < (-1000))) || (decide (2000 < p2.fHi))) || (decide (1000 < w64 (p2.fHi - p2.fLo)))))) 24 (.int .i64 (w64 (p2.fLo + (Int.tmod (w64 p3) (w64 ((w64 (p2.fHi - p2.fLo)) + 1))))))) 25 (.pointer (some ⟨b95, 0, none⟩))) 26 (.slice A98 y96.1.length c99)) 27 (.int .i64 y96.2)) 302 (.bool (y96.2 != 0))) 312 (.bool (((y96.1.length : Nat) : Int) != ((y5.1.length : Nat) : Int)))) 28 (.int .i64 s.2)) | (.inr s), e, L, tm => e = .exit 4 ∧ ∃ (tm0 : Nat → Value), L = [cellsR b1 33 [.int .i64 p2.fLo, .int .i64 p2.fHi], rowR A7 c8 33 2 y5.1.length (encL TSpan_cells y5.1), rowR A13 c14 33 2 y11.1.length (encL TSpan_cells y11.1), cellsR b95 33 [.int .i64 (w64 (p2.fLo + (Int.tmod (w64 p3) (w64 ((w64 (p2.fHi - p2.fLo)) + 1))))), .int .i64 (w64 ((w64 (p2.fLo + (Int.tmod (w64 p3) (w64 ((w64 (p2.fHi - p2.fLo)) + 1))))) + (Int.tmod (w64 p4) (w64 ((w64 (p2.fHi - (w64 (p2.fLo + (Int.tmod (w64 p3) (w64 ((w64 (p2.fHi - p2.fLo)) + 1))))))) + 1)))))], rowR A98 c99 33 2 y96.1.length (encL TSpan_cells y96.1)] ∧ tm = (upd (upd (upd (upd (upd (upd (upd (upd (upd (upd (upd (upd (upd (upd (upd (upd (upd (upd (upd (upd (upd (upd (upd (upd (upd (upd (upd tm0 0 (.slice A0_0 p0.length c0_0)) 1 (.int .i64 p1)) 2 (.agg #[.int .i64 p2.fLo, .int .i64 p2.fHi])) 3 (.int .u8 p3)) 4 (.int .u8 p4)) 7 (.pointer (some ⟨b1, 0, none⟩))) 10 (.bool s.1)) 11 (.bool y2)) 32 (.bool (decide (6 < ((p0.length : Nat) : Int))))) 12 (.slice A7 y5.1.length c8)) 13 (.int .i64 y5.2)) 14 (.slice A13 y11.1.length c14)) 15 (.int .i64 y11.2)) 53 (.bool ((y5.2 != 0) || (y11.2 != 0)))) 70 (.bool ((((y5.1.length : Nat) : Int) != ((p0.length : Nat) : Int)) || (((y11.1.length : Nat) : Int) != ((p0.length : Nat) : Int))))) 16 (.int .i64 u50.2.1)) 17 (.int .i64 u50.2.2.1)) 18 (.int .i64 u50.2.2.2)) 21 (.int .i64 u89.2)) 268 (.bool (((decide (p2.fLo < (-1000))) || (decide (2000 < p2.fHi))) || (decide (1000 < w64 (p2.fHi - p2.fLo)))))) 24 (.int .i64 (w64 (p2.fLo + (Int.tmod (w64 p3) (w64 ((w64 (p2.fHi - p2.fLo)) + 1))))))) 25 (.pointer (some ⟨b95, 0, none⟩))) 26 (.slice A98 y96.1.length c99)) 27 (.int .i64 y96.2)) 302 (.bool (y96.2 != 0))) 312 (.bool (((y96.1.length : Nat) : Int) != ((y5.1.length : Nat) : Int)))) 28 (.int .i64 s.2))) hl117 ⟨_, rfl, (keep (keep (keep (keep (keep (keep (keep (keep (keep (keep (keep (keep (keep (keep (keep (keep (keep (keep (keep (keep (keep (keep (keep (keep (keep (keep (keep rfl rfl) rfl) rfl) rfl) rfl) rfl) rfl) rfl) rfl) rfl) rfl) rfl) rfl) rfl) rfl) rfl) rfl) rfl) rfl) rfl) rfl) rfl) rfl) rfl) rfl) rfl) rfl)⟩ ?_ ?_
                              · rintro s106 L tm st ⟨tm0_s106, rfl, rfl⟩ h
                                unfold calxlaw03_SampleSums_l3 at h
                                refine cx_seq ?_
                                refine cx_seq ?_
                                refine cx_region ?_
                                refine ox_y rfl (y_move_int rfl) ?_
                                refine ox_y rfl (y_move_slice rfl) ?_
                                refine ox_y rfl (y_len (us := []) us_34 rfl) ?_
                                refine ox_y rfl (y_lss rfl rfl) ?_
                                refine ox_nil ?_
                                refine ex_then ?_
                                rcases ite_some h with ⟨hp108, h⟩ | ⟨hp108, h⟩
                                · refine cx_true (congrArg Value.bool hp108) ?_
                                  refine cx_skip ?_
                                  refine ex_then ?_
                                  refine cx_seq ?_
                                  refine cx_block ?_
                                  refine cx_seq ?_
                                  refine cx_draws 24 mixed (by kernel_rfl) (by kernel_rfl) ?_
                                  refine qx_y rfl (y_move_slice rfl) ?_
                                  refine qx_y rfl (y_move_int rfl) ?_
                                  obtain ⟨hg109, h⟩ := guardO_some h
                                  refine qx_y rfl (y_indexR sl_34 (by decide) hg109.1 hg109.2 (RdL.row 4 rfl) (encL_len TSpan_cells_len rfl) rfl rfl) ?_
                                  refine qx_y rfl (y_fieldAddrR (A := A98) (j := (Int.toNat s106.2 * 2)) fo_33_0 rfl) ?_
                                  refine qx_y rfl (y_loadR1 (A := A98) (j := ((Int.toNat s106.2 * 2) + 0)) (v := .int .i64 ((rdL y96.1 s106.2).fLo)) sc_3 (RdL.row 4 rfl) rfl (encL_get TSpan_cells_len hg109.1 (lt_nat hg109.2 rfl) rfl)) ?_
                                  refine qx_y rfl (y_move_slice rfl) ?_
                                  refine qx_y rfl (y_move_int rfl) ?_
                                  obtain ⟨hg110, h⟩ := guardO_some h
                                  refine qx_y rfl (y_indexR sl_34 (by decide) hg110.1 hg110.2 (RdL.row 1 rfl) (encL_len TSpan_cells_len rfl) rfl rfl) ?_
                                  refine qx_y rfl (y_fieldAddrR (A := A7) (j := (Int.toNat s106.2 * 2)) fo_33_0 rfl) ?_
                                  refine qx_y rfl (y_loadR1 (A := A7) (j := ((Int.toNat s106.2 * 2) + 0)) (v := .int .i64 ((rdL y5.1 s106.2).fLo)) sc_3 (RdL.row 1 rfl) rfl (encL_get TSpan_cells_len hg110.1 (lt_nat hg110.2 rfl) rfl)) ?_
                                  refine qx_y rfl (y_lss rfl rfl) ?_
                                  refine qx_y rfl (y_move_bool rfl) ?_
                                  obtain ⟨b112, hb113, h⟩ := bind_some h
                                  refine qx_join 12 (fun tm0 => (upd (upd (upd (upd (upd (upd (upd (upd (upd (upd (upd (upd (upd (upd (upd (upd (upd (upd (upd (upd (upd (upd (upd (upd (upd (upd (upd (upd (upd tm0 0 (.slice A0_0 p0.length c0_0)) 1 (.int .i64 p1)) 2 (.agg #[.int .i64 p2.fLo, .int .i64 p2.fHi])) 3 (.int .u8 p3)) 4 (.int .u8 p4)) 7 (.pointer (some ⟨b1, 0, none⟩))) 10 (.bool s106.1)) 11 (.bool y2)) 32 (.bool (decide (6 < ((p0.length : Nat) : Int))))) 12 (.slice A7 y5.1.length c8)) 13 (.int .i64 y5.2)) 14 (.slice A13 y11.1.length c14)) 15 (.int .i64 y11.2)) 53 (.bool ((y5.2 != 0) || (y11.2 != 0)))) 70 (.bool ((((y5.1.length : Nat) : Int) != ((p0.length : Nat) : Int)) || (((y11.1.length : Nat) : Int) != ((p0.length : Nat) : Int))))) 16 (.int .i64 u50.2.1)) 17 (.int .i64 u50.2.2.1)) 18 (.int .i64 u50.2.2.2)) 21 (.int .i64 u89.2)) 268 (.bool (((decide (p2.fLo < (-1000))) || (decide (2000 < p2.fHi))) || (decide (1000 < w64 (p2.fHi - p2.fLo)))))) 24 (.int .i64 (w64 (p2.fLo + (Int.tmod (w64 p3) (w64 ((w64 (p2.fHi - p2.fLo)) + 1))))))) 25 (.pointer (some ⟨b95, 0, none⟩))) 26 (.slice A98 y96.1.length c99)) 27 (.int .i64 y96.2)) 302 (.bool (y96.2 != 0))) 312 (.bool (((y96.1.length : Nat) : Int) != ((y5.1.length : Nat) : Int)))) 28 (.int .i64 s106.2)) 316 (.bool (decide (s106.2 < ((y96.1.length : Nat) : Int))))) 342 (.bool b112))) (fun tm0 => ?_) (fun key => ?_)
                                  · refine qx_nil ?_
                                    refine ox_nil ?_
                                    refine ex_then ?_
                                    rcases ite_some h with ⟨hp114, h⟩ | ⟨hp114, h⟩
                                    · refine cx_true (congrArg Value.bool hp114) ?_
                                      refine cx_seq ?_
                                      refine cx_region ?_
                                      refine ox_y rfl (y_assign_bool rfl) ?_
                                      refine ox_nil ?_
                                      refine ex_then ?_
                                      refine cx_ret ?_
                                      refine ex_block_ret ?_
                                      refine ex_then_ret ?_
                                      obtain rfl := Option.some.inj h
                                      exact ex_stop ⟨rfl, _, rfl, (keep (keep (keep (keep (keep (keep (keep (keep (keep (keep (keep (keep (keep (keep (keep (keep (keep (keep (keep (keep (keep (keep (keep (keep (keep (keep (keep rfl rfl) rfl) rfl) rfl) rfl) rfl) rfl) rfl) rfl) rfl) rfl) rfl) rfl) rfl) rfl) rfl) rfl) rfl) rfl) rfl) rfl) rfl) rfl) rfl) rfl) rfl) rfl)⟩
                                    · refine cx_false (congrArg Value.bool hp114) ?_
                                      refine cx_skip ?_
                                      refine ex_block ?_
                                      refine ex_then ?_
                                      refine cx_region ?_
                                      refine ox_y rfl (y_move_int rfl) ?_
                                      refine ox_y rfl (y_add rfl rfl) ?_
                                      refine ox_y rfl (y_assign_int rfl) ?_
                                      refine ox_nil ?_
                                      obtain rfl := Option.some.inj h
                                      exact ex_next ⟨_, rfl, (keep (keep (keep (keep (keep (keep (keep (keep (keep (keep (keep (keep (keep (keep (keep (keep (keep (keep (keep (keep (keep (keep (keep (keep (keep (keep (keep rfl rfl) rfl) rfl) rfl) rfl) rfl) rfl) rfl) rfl) rfl) rfl) rfl) rfl) rfl) rfl) rfl) rfl) rfl) rfl) rfl) rfl) rfl) rfl) rfl) rfl) rfl) rfl)⟩
                                  · clear h; rcases ite_some hb113 with ⟨hp111, h⟩ | ⟨hp111, h⟩
                                    · refine qx_skip (sees_f rfl rfl rfl rfl hp111) ?_
                                      refine qx_skip (sees_f rfl rfl rfl rfl hp111) ?_
                                      refine qx_skip (sees_f rfl rfl rfl rfl hp111) ?_
                                      refine qx_skip (sees_f rfl rfl rfl rfl hp111) ?_
                                      refine qx_skip (sees_f rfl rfl rfl rfl hp111) ?_
                                      refine qx_skip (sees_f rfl rfl rfl rfl hp111) ?_
                                      refine qx_skip (sees_f rfl rfl rfl rfl hp111) ?_
                                      refine qx_skip (sees_f rfl rfl rfl rfl hp111) ?_
                                      refine qx_skip (sees_f rfl rfl rfl rfl hp111) ?_
                                      refine qx_skip (sees_f rfl rfl rfl rfl hp111) ?_
                                      refine qx_skip (sees_f rfl rfl rfl rfl hp111) ?_
                                      refine qx_y rfl (y_pick_tb (congrArg Value.bool hp111) rfl) ?_
                                      obtain rfl := Option.some.inj h
                                      exact key _ _ (keep (keep (keep (keep (keep (keep (keep (keep (keep (keep (keep (keep (keep (keep (keep (keep (keep (keep (keep (keep (keep (keep (keep (keep (keep (keep (keep (keep (keep rfl rfl) rfl) rfl) rfl) rfl) rfl) rfl) rfl) rfl) rfl) rfl) rfl) rfl) rfl) rfl) rfl) rfl) rfl) rfl) rfl) rfl) rfl) rfl) rfl) rfl) rfl) rfl) rfl) rfl)
                                    · refine qx_y (sees_t rfl rfl rfl rfl hp111) (y_move_slice rfl) ?_
                                      refine qx_y (sees_t rfl rfl rfl rfl hp111) (y_move_int rfl) ?_
                                      obtain ⟨hg115, h⟩ := guardO_some h
                                      refine qx_y (sees_t rfl rfl rfl rfl hp111) (y_indexR sl_34 (by decide) hg115.1 hg115.2 (RdL.row 4 rfl) (encL_len TSpan_cells_len rfl) rfl rfl) ?_
                                      refine qx_y (sees_t rfl rfl rfl rfl hp111) (y_fieldAddrR (A := A98) (j := (Int.toNat s106.2 * 2)) fo_33_1 rfl) ?_
                                      refine qx_y (sees_t rfl rfl rfl rfl hp111) (y_loadR1 (A := A98) (j := ((Int.toNat s106.2 * 2) + 1)) (v := .int .i64 ((rdL y96.1 s106.2).fHi)) sc_3 (RdL.row 4 rfl) rfl (encL_get TSpan_cells_len hg115.1 (lt_nat hg115.2 rfl) rfl)) ?_
                                      refine qx_y (sees_t rfl rfl rfl rfl hp111) (y_move_slice rfl) ?_
                                      refine qx_y (sees_t rfl rfl rfl rfl hp111) (y_move_int rfl) ?_
                                      obtain ⟨hg116, h⟩ := guardO_some h
                                      refine qx_y (sees_t rfl rfl rfl rfl hp111) (y_indexR sl_34 (by decide) hg116.1 hg116.2 (RdL.row 1 rfl) (encL_len TSpan_cells_len rfl) rfl rfl) ?_
                                      refine qx_y (sees_t rfl rfl rfl rfl hp111) (y_fieldAddrR (A := A7) (j := (Int.toNat s106.2 * 2)) fo_33_1 rfl) ?_
                                      refine qx_y (sees_t rfl rfl rfl rfl hp111) (y_loadR1 (A := A7) (j := ((Int.toNat s106.2 * 2) + 1)) (v := .int .i64 ((rdL y5.1 s106.2).fHi)) sc_3 (RdL.row 1 rfl) rfl (encL_get TSpan_cells_len hg116.1 (lt_nat hg116.2 rfl) rfl)) ?_
                                      refine qx_y (sees_t rfl rfl rfl rfl hp111) (y_gtr rfl rfl) ?_
                                      refine qx_y rfl (y_pick_fb (congrArg Value.bool hp111) rfl) ?_
                                      obtain rfl := Option.some.inj h
                                      exact key _ _ (keep (keep (keep (keep (keep (keep (keep (keep (keep (keep (keep (keep (keep (keep (keep (keep (keep (keep (keep (keep (keep (keep (keep (keep (keep (keep (keep (keep (keep rfl rfl) rfl) rfl) rfl) rfl) rfl) rfl) rfl) rfl) rfl) rfl) rfl) rfl) rfl) rfl) rfl) rfl) rfl) rfl) rfl) rfl) rfl) rfl) rfl) rfl) rfl) rfl) rfl) rfl)
                                · refine cx_false (congrArg Value.bool hp108) ?_
                                  refine cx_exit ?_
                                  refine ex_then_exit ?_
                                  obtain rfl := Option.some.inj h
                                  exact ex_stop ⟨rfl, _, rfl, (keep (keep (keep (keep (keep (keep (keep (keep (keep (keep (keep (keep (keep (keep (keep (keep (keep (keep (keep (keep (keep (keep (keep (keep (keep (keep (keep rfl rfl) rfl) rfl) rfl) rfl) rfl) rfl) rfl) rfl) rfl) rfl) rfl) rfl) rfl) rfl) rfl) rfl) rfl) rfl) rfl) rfl) rfl) rfl) rfl) rfl) rfl) rfl)⟩
                              · intro e L tm hJ
                                rcases u107 with u118 | u119
                                · dsimp only at h hJ
                                  obtain ⟨rfl, tm0_u118, rfl, rfl⟩ := hJ
                                  refine ⟨(by intro hc; cases hc), ?_⟩
                                  refine ex_block_ret ?_
                                  refine ex_then_ret ?_
                                  obtain rfl := Option.some.inj h
                                  exact ex_res1 (.inl rfl) rfl (resV_tmp (v := .bool u118.1) rfl) (fun W2 hW2 => ⟨rfl, hW2.none⟩)
                                · dsimp only at h hJ
                                  obtain ⟨rfl, tm0_u119, rfl, rfl⟩ := hJ
                                  refine ⟨(by intro hc; cases hc), ?_⟩
                                  refine ex_block_here ?_
                                  refine ex_then ?_
                                  refine cx_seq ?_
                                  refine cx_region ?_
                                  refine ox_y rfl (y_move_bool rfl) ?_
                                  refine ox_y rfl (y_assign_bool rfl) ?_
                                  refine ox_nil ?_
                                  refine ex_then ?_
                                  refine cx_ret ?_
                                  obtain rfl := Option.some.inj h
                                  exact ex_res1 (.inl rfl) rfl (resV_tmp (v := .bool y2) rfl) (fun W2 hW2 => ⟨rfl, hW2.none⟩)
                      · rcases bool_cases ((decide (p2.fLo < (-1000))) || (decide (2000 < p2.fHi))) with hp91 | hp91
                        · refine ox_skip (sees_f rfl rfl rfl rfl hp91) ?_
                          refine ox_skip (sees_f rfl rfl rfl rfl hp91) ?_
                          refine ox_skip (sees_f rfl rfl rfl rfl hp91) ?_
                          refine ox_skip (sees_f rfl rfl rfl rfl hp91) ?_
                          refine ox_skip (sees_f rfl rfl rfl rfl hp91) ?_
                          refine ox_skip (sees_f rfl rfl rfl rfl hp91) ?_
                          refine ox_y rfl (y_pick_tb (congrArg Value.bool hp91) rfl) ?_
                          exact key _ _ (keep (keep (keep (keep (keep (keep (keep (keep (keep (keep (keep (keep (keep (keep (keep (keep (keep (keep (keep (keep rfl rfl) rfl) rfl) rfl) rfl) rfl) rfl) rfl) rfl) rfl) rfl) rfl) rfl) rfl) rfl) rfl) rfl) rfl) rfl) (congrArg Value.bool (or_t hp91)))
                        · refine ox_y (sees_t rfl rfl rfl rfl hp91) (y_fieldAddr fo_33_1 rfl) ?_
                          refine ox_y (sees_t rfl rfl rfl rfl hp91) (y_load1 0 (v := .int .i64 p2.fHi) sc_3 rfl rfl rfl) ?_
                          refine ox_y (sees_t rfl rfl rfl rfl hp91) (y_fieldAddr fo_33_0 rfl) ?_
                          refine ox_y (sees_t rfl rfl rfl rfl hp91) (y_load1 0 (v := .int .i64 p2.fLo) sc_3 rfl rfl rfl) ?_
                          refine ox_y (sees_t rfl rfl rfl rfl hp91) (y_sub rfl rfl) ?_
                          refine ox_y (sees_t rfl rfl rfl rfl hp91) (y_gtr rfl rfl) ?_
                          refine ox_y rfl (y_pick_fb (congrArg Value.bool hp91) rfl) ?_
                          exact key _ _ (keep (keep (keep (keep (keep (keep (keep (keep (keep (keep (keep (keep (keep (keep (keep (keep (keep (keep (keep (keep rfl rfl) rfl) rfl) rfl) rfl) rfl) rfl) rfl) rfl) rfl) rfl) rfl) rfl) rfl) rfl) rfl) rfl) rfl) rfl) (congrArg Value.bool (or_f hp91)))
                    · rcases bool_cases (decide (p2.fLo < (-1000))) with hp90 | hp90
                      · refine ox_skip (sees_f rfl rfl rfl rfl hp90) ?_
                        refine ox_skip (sees_f rfl rfl rfl rfl hp90) ?_
                        refine ox_skip (sees_f rfl rfl rfl rfl hp90) ?_
                        refine ox_y rfl (y_pick_tb (congrArg Value.bool hp90) rfl) ?_
                        exact key _ _ (keep (keep (keep (keep (keep (keep (keep (keep (keep (keep (keep (keep (keep (keep (keep (keep (keep (keep (keep (keep rfl rfl) rfl) rfl) rfl) rfl) rfl) rfl) rfl) rfl) rfl) rfl) rfl) rfl) rfl) rfl) rfl) rfl) rfl) rfl) (congrArg Value.bool (or_t hp90)))
                      · refine ox_y (sees_t rfl rfl rfl rfl hp90) (y_fieldAddr fo_33_1 rfl) ?_
                        refine ox_y (sees_t rfl rfl rfl rfl hp90) (y_load1 0 (v := .int .i64 p2.fHi) sc_3 rfl rfl rfl) ?_
                        refine ox_y (sees_t rfl rfl rfl rfl hp90) (y_gtr rfl rfl) ?_
                        refine ox_y rfl (y_pick_fb (congrArg Value.bool hp90) rfl) ?_
                        exact key _ _ (keep (keep (keep (keep (keep (keep (keep (keep (keep (keep (keep (keep (keep (keep (keep (keep (keep (keep (keep (keep rfl rfl) rfl) rfl) rfl) rfl) rfl) rfl) rfl) rfl) rfl) rfl) rfl) rfl) rfl) rfl) rfl) rfl) rfl) rfl) (congrArg Value.bool (or_f hp90)))
        · rcases bool_cases (((y5.1.length : Nat) : Int) != ((p0.length : Nat) : Int)) with hp20 | hp20
          · refine ox_skip (sees_f rfl rfl rfl rfl hp20) ?_
            refine ox_skip (sees_f rfl rfl rfl rfl hp20) ?_
            refine ox_skip (sees_f rfl rfl rfl rfl hp20) ?_
            refine ox_skip (sees_f rfl rfl rfl rfl hp20) ?_
            refine ox_skip (sees_f rfl rfl rfl rfl hp20) ?_
            refine ox_y rfl (y_pick_tb (congrArg Value.bool hp20) rfl) ?_
            exact key _ _ (keep (keep (keep (keep (keep (keep (keep (keep (keep (keep (keep (keep (keep (keep (keep rfl rfl) rfl) rfl) rfl) rfl) rfl) rfl) rfl) rfl) rfl) rfl) rfl) rfl) rfl) (congrArg Value.bool (or_t hp20)))
          · refine ox_y (sees_t rfl rfl rfl rfl hp20) (y_move_slice rfl) ?_
            refine ox_y (sees_t rfl rfl rfl rfl hp20) (y_len (us := []) us_34 rfl) ?_
            refine ox_y (sees_t rfl rfl rfl rfl hp20) (y_move_slice rfl) ?_
            refine ox_y (sees_t rfl rfl rfl rfl hp20) (y_len (us := []) us_31 rfl) ?_
            refine ox_y (sees_t rfl rfl rfl rfl hp20) (y_neq rfl rfl) ?_
            refine ox_y rfl (y_pick_fb (congrArg Value.bool hp20) rfl) ?_
            exact key _ _ (keep (keep (keep (keep (keep (keep (keep (keep (keep (keep (keep (keep (keep (keep (keep rfl rfl) rfl) rfl) rfl) rfl) rfl) rfl) rfl) rfl) rfl) rfl) rfl) rfl) rfl) (congrArg Value.bool (or_f hp20)))
    · rcases bool_cases (y5.2 != 0) with hp17 | hp17
      · refine ox_skip (sees_f rfl rfl rfl rfl hp17) ?_
        refine ox_skip (sees_f rfl rfl rfl rfl hp17) ?_
        refine ox_y rfl (y_pick_tb (congrArg Value.bool hp17) rfl) ?_
        exact key _ _ (keep (keep (keep (keep (keep (keep (keep (keep (keep (keep (keep (keep (keep (keep rfl rfl) rfl) rfl) rfl) rfl) rfl) rfl) rfl) rfl) rfl) rfl) rfl) rfl) (congrArg Value.bool (or_t hp17)))
      · refine ox_y (sees_t rfl rfl rfl rfl hp17) (y_move_int rfl) ?_
        refine ox_y (sees_t rfl rfl rfl rfl hp17) (y_neq rfl rfl) ?_
        refine ox_y rfl (y_pick_fb (congrArg Value.bool hp17) rfl) ?_
        exact key _ _ (keep (keep (keep (keep (keep (keep (keep (keep (keep (keep (keep (keep (keep (keep rfl rfl) rfl) rfl) rfl) rfl) rfl) rfl) rfl) rfl) rfl) rfl) rfl) rfl) (congrArg Value.bool (or_f hp17)))

end Go.Proofs.Ytepfgdfahinpkaa
