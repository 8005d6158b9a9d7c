/- The calls hand back what the plain functions say. -/
import Derived.Test.YtndajeiecdmhnaaF
import Derived.Test.YtndajeiecdmhnaaC0
import Derived.Test.YtndajeiecdmhnaaC1
import Derived.Test.YtndajeiecdmhnaaC6
set_option linter.unusedVariables false
set_option maxHeartbeats 4000000
namespace Go.Proofs.Ytndajeiecdmhnaa
open Go.RowKit (Below)
attribute [local irreducible] OX QX CX EX OpY Calls CallsIn

/-! slices.IndexFunc[[]int,int] -/
set_option maxRecDepth 100000 in
theorem slices_IndexFunc_int_int_ok (p0_s : (List Int)) (p1_f : Int → Option Bool) (res : Int) (h : slices_IndexFunc_int_int p0_s p1_f = some res) (W : World) (A0_0 : Option Addr) (n0_0 c0_0 : Nat) (hn0_0 : n0_0 = p0_s.length) (hr0_0 : Rd W A0_0 n0_0 c0_0 (encL cI p0_s)) (fid1 : Nat) (caps1 : List Value) (hgo1 : goes Try.prog fid1 = true) (hof1 : ∀ W2, Below W.heap.size W W2 → ∀ x y, p1_f x = some y → Calls Try.prog fid1 (([.int .i64 x] : List Value) ++ caps1).toArray W2 fun e W3 => e = .returned (.bool y) ∧ Ext W2 W3 []) :
    Calls Try.prog 109 [.slice A0_0 n0_0 c0_0, .func (.func fid1) #[] caps1.toArray].toArray W fun e W2 => e = .returned (.int .i64 res) ∧ Ext W W2 [] := by
  subst hn0_0
  unfold slices_IndexFunc_int_int at h
  refine calls_enter (m := 19) Try.func109 rfl rfl (Nat.le_of_ble_eq_true rfl) ?_
  refine cx_seq ?_
  refine cx_region ?_
  refine ox_y rfl (y_assign_int rfl) ?_
  refine ox_nil ?_
  refine ex_then ?_
  refine cx_seq ?_
  refine cx_seq ?_
  refine cx_region ?_
  refine ox_y rfl (y_move_slice rfl) ?_
  refine ox_y rfl (y_len (us := []) us_41 rfl) ?_
  refine ox_y rfl (y_move_int rfl) ?_
  refine ox_nil ?_
  refine ex_then ?_
  refine cx_block ?_
  obtain ⟨u3, hl9, h⟩ := bind_some h
  refine cx_loop (fun (s : (Int × Int)) L tm => ∃ (tm0 : Nat → Value), L = [] ∧ tm = (upd (upd (upd (upd (upd tm0 0 (.slice A0_0 p0_s.length c0_0)) 1 (.func (.func fid1) #[] caps1.toArray)) 4 (.int .i64 s.1)) 7 (.int .i64 ((p0_s.length : Nat) : Int))) 8 (.int .i64 s.2))) (fun | (.inl s), e, L, tm => e = .ret ∧ ∃ (tm0 : Nat → Value), L = [] ∧ tm = (upd (upd (upd (upd (upd tm0 0 (.slice A0_0 p0_s.length c0_0)) 1 (.func (.func fid1) #[] caps1.toArray)) 4 (.int .i64 s.1)) 7 (.int .i64 ((p0_s.length : Nat) : Int))) 8 (.int .i64 s.2)) | (.inr s), e, L, tm => e = .exit 0 ∧ ∃ (tm0 : Nat → Value), L = [] ∧ tm = (upd (upd (upd (upd (upd tm0 0 (.slice A0_0 p0_s.length c0_0)) 1 (.func (.func fid1) #[] caps1.toArray)) 4 (.int .i64 s.1)) 7 (.int .i64 ((p0_s.length : Nat) : Int))) 8 (.int .i64 s.2))) hl9 ⟨_, rfl, (keep (keep (keep (keep (keep rfl rfl) rfl) rfl) rfl) rfl)⟩ ?_ ?_
  · rintro s2 L tm st ⟨tm0_s2, rfl, rfl⟩ h
    unfold slices_IndexFunc_int_int_l1 at h
    refine cx_seq ?_
    refine cx_region ?_
    refine ox_y rfl (y_lss rfl rfl) ?_
    refine ox_nil ?_
    refine ex_then ?_
    refine cx_seq ?_
    rcases ite_some h with ⟨hp4, h⟩ | ⟨hp4, h⟩
    · refine cx_true (congrArg Value.bool hp4) ?_
      refine cx_skip ?_
      refine ex_then ?_
      refine cx_seq ?_
      refine cx_block ?_
      refine cx_seq ?_
      refine cx_region ?_
      refine ox_y rfl (y_move_int rfl) ?_
      refine ox_y rfl (y_assign_int rfl) ?_
      refine ox_nil ?_
      refine ex_then ?_
      refine cx_seq ?_
      refine cx_region ?_
      refine ox_y rfl (y_move (v := .func (.func fid1) #[] caps1.toArray) rfl) ?_
      refine ox_y rfl (y_move_slice rfl) ?_
      refine ox_y rfl (y_move_int rfl) ?_
      obtain ⟨hg5, h⟩ := guardO_some h
      refine ox_y rfl (y_indexR sl_41 (by decide) hg5.1 hg5.2 (RdL.arg hr0_0) (encL_len cI_len rfl) rfl rfl) ?_
      refine ox_y rfl (y_loadR1 (A := A0_0) (j := (Int.toNat s2.2 * 1)) (v := .int .i64 (rdL p0_s s2.2)) sc_3 (RdL.arg hr0_0) rfl (encL_get0 cI_len hg5.1 (lt_nat hg5.2 rfl) rfl)) ?_
      obtain ⟨y6, hy7, h⟩ := bind_some h
      refine ox_y rfl (y_callv [.int .i64 (rdL p0_s s2.2)] hgo1 rfl rfl (fun W2 hW2 => hof1 W2 hW2.below (rdL p0_s s2.2) y6 hy7)) ?_
      refine ox_nil ?_
      refine ex_then ?_
      rcases ite_some h with ⟨hp8, h⟩ | ⟨hp8, h⟩
      · refine cx_true (congrArg Value.bool hp8) ?_
        refine cx_seq ?_
        refine cx_region ?_
        refine ox_y rfl (y_move_int rfl) ?_
        refine ox_y rfl (y_assign_int rfl) ?_
        refine ox_nil ?_
        refine ex_then ?_
        refine cx_ret ?_
        refine ex_block_ret ?_
        refine ex_then_ret ?_
        obtain rfl := Option.some.inj h
        exact ex_stop ⟨rfl, _, rfl, (keep (keep (keep (keep (keep rfl rfl) rfl) rfl) rfl) rfl)⟩
      · refine cx_false (congrArg Value.bool hp8) ?_
        refine cx_skip ?_
        refine ex_block ?_
        refine ex_then ?_
        refine cx_region ?_
        refine ox_y rfl (y_add rfl rfl) ?_
        refine ox_y rfl (y_move_int rfl) ?_
        refine ox_nil ?_
        obtain rfl := Option.some.inj h
        exact ex_next ⟨_, rfl, (keep (keep (keep (keep (keep rfl rfl) rfl) rfl) rfl) rfl)⟩
    · refine cx_false (congrArg Value.bool hp4) ?_
      refine cx_exit ?_
      refine ex_then_exit ?_
      obtain rfl := Option.some.inj h
      exact ex_stop ⟨rfl, _, rfl, (keep (keep (keep (keep (keep rfl rfl) rfl) rfl) rfl) rfl)⟩
  · intro e L tm hJ
    rcases u3 with u10 | u11
    · dsimp only at h hJ
      obtain ⟨rfl, tm0_u10, rfl, rfl⟩ := hJ
      refine ⟨(by intro hc; cases hc), ?_⟩
      refine ex_block_ret ?_
      refine ex_then_ret ?_
      obtain rfl := Option.some.inj h
      exact ex_res1 (.inl rfl) rfl (resV_tmp (v := .int .i64 u10.1) rfl) (fun W2 hW2 => ⟨rfl, hW2.none⟩)
    · dsimp only at h hJ
      obtain ⟨rfl, tm0_u11, rfl, rfl⟩ := hJ
      refine ⟨(by intro hc; cases hc), ?_⟩
      refine ex_block_here ?_
      refine ex_then ?_
      refine cx_seq ?_
      refine cx_region ?_
      refine ox_y rfl (y_assign_int rfl) ?_
      refine ox_nil ?_
      refine ex_then ?_
      refine cx_ret ?_
      obtain rfl := Option.some.inj h
      exact ex_res1 (.inl rfl) rfl (resV_tmp (v := .int .i64 (-1)) rfl) (fun W2 hW2 => ⟨rfl, hW2.none⟩)

/-! slices.ContainsFunc[[]int,int] -/
set_option maxRecDepth 100000 in
theorem slices_ContainsFunc_int_int_ok (p0_s : (List Int)) (p1_f : Int → Option Bool) (res : Bool) (h : slices_ContainsFunc_int_int p0_s p1_f = some res) (W : World) (A0_0 : Option Addr) (n0_0 c0_0 : Nat) (hn0_0 : n0_0 = p0_s.length) (hr0_0 : Rd W A0_0 n0_0 c0_0 (encL cI p0_s)) (fid1 : Nat) (caps1 : List Value) (hgo1 : goes Try.prog fid1 = true) (hof1 : ∀ W2, Below W.heap.size W W2 → ∀ x y, p1_f x = some y → Calls Try.prog fid1 (([.int .i64 x] : List Value) ++ caps1).toArray W2 fun e W3 => e = .returned (.bool y) ∧ Ext W2 W3 []) :
    Calls Try.prog 85 [.slice A0_0 n0_0 c0_0, .func (.func fid1) #[] caps1.toArray].toArray W fun e W2 => e = .returned (.bool res) ∧ Ext W W2 [] := by
  subst hn0_0
  unfold slices_ContainsFunc_int_int at h
  refine calls_enter (m := 9) Try.func85 rfl rfl (Nat.le_of_ble_eq_true rfl) ?_
  refine cx_seq ?_
  refine cx_region ?_
  refine ox_y rfl (y_assign_bool rfl) ?_
  refine ox_nil ?_
  refine ex_then ?_
  refine cx_seq ?_
  refine cx_region ?_
  refine ox_y rfl (y_move_slice rfl) ?_
  refine ox_y rfl (y_move (v := .func (.func fid1) #[] caps1.toArray) rfl) ?_
  obtain ⟨y1, hy2, h⟩ := bind_some h
  refine ox_y rfl (y_call [.slice A0_0 p0_s.length c0_0, .func (.func fid1) #[] caps1.toArray] go_109 rfl (fun W2 hW2 => slices_IndexFunc_int_int_ok p0_s p1_f y1 hy2 W2 A0_0 p0_s.length c0_0 rfl ((RdL.arg hr0_0) W2 hW2) fid1 caps1 hgo1 (fun W3 hb => hof1 W3 (belowT hW2.below hb))) rfl) ?_
  refine ox_y rfl (y_geq rfl rfl) ?_
  refine ox_y rfl (y_assign_bool rfl) ?_
  refine ox_nil ?_
  refine ex_then ?_
  refine cx_ret ?_
  obtain rfl := Option.some.inj h
  exact ex_res1 (.inl rfl) rfl (resV_tmp (v := .bool (decide (0 ≤ y1))) rfl) (fun W2 hW2 => ⟨rfl, hW2.none⟩)

/-! calx/fire.Fits$1 -/
set_option maxRecDepth 100000 in
theorem fire_Fits_1_ok (p0_n : Int) (res : Bool) (h : fire_Fits_1 p0_n = some res) (W : World)  :
    Calls Try.prog 86 [.int .i64 p0_n].toArray W fun e W2 => e = .returned (.bool res) ∧ Ext W W2 [] := by
  unfold fire_Fits_1 at h
  refine calls_enter (m := 6) Try.func86 rfl rfl (Nat.le_of_ble_eq_true rfl) ?_
  refine cx_seq ?_
  refine cx_region ?_
  refine ox_y rfl (y_assign_bool rfl) ?_
  refine ox_nil ?_
  refine ex_then ?_
  refine cx_seq ?_
  refine cx_region ?_
  refine ox_y rfl (y_move_int rfl) ?_
  obtain ⟨y1, hy2, h⟩ := bind_some h
  refine ox_y rfl (y_call [.int .i64 p0_n] go_87 rfl (fun W2 hW2 => fire_heat_ok p0_n y1 hy2 W2 ) rfl) ?_
  refine ox_y rfl (y_not rfl) ?_
  refine ox_y rfl (y_assign_bool rfl) ?_
  refine ox_nil ?_
  refine ex_then ?_
  refine cx_ret ?_
  obtain rfl := Option.some.inj h
  exact ex_res1 (.inl rfl) rfl (resV_tmp (v := .bool (!y1)) rfl) (fun W2 hW2 => ⟨rfl, hW2.none⟩)

/-! calx/fire.Fits -/
set_option maxRecDepth 100000 in
theorem fire_Fits_ok (p0 : TFire) (p1 : (List TSpot)) (p2 : (List Int)) (res : (Bool × Int)) (h : fire_Fits p0 p1 p2 = some res) (W : World) (A0_4 : Option Addr) (n0_4 c0_4 : Nat) (hn0_4 : n0_4 = p0.fLooks.length) (hr0_4 : Rd W A0_4 n0_4 c0_4 (encL TLook_cells p0.fLooks)) (A1_0 : Option Addr) (n1_0 c1_0 : Nat) (hn1_0 : n1_0 = p1.length) (hr1_0 : Rd W A1_0 n1_0 c1_0 (encL TSpot_cells p1)) (A2_0 : Option Addr) (n2_0 c2_0 : Nat) (hn2_0 : n2_0 = p2.length) (hr2_0 : Rd W A2_0 n2_0 c2_0 (encL cI p2)) :
    Calls Try.prog 40 [.agg #[.int .i64 p0.fRise, .int .i64 p0.fFall, .int .i64 p0.fUp, .int .i64 p0.fDown, .slice A0_4 n0_4 c0_4], .slice A1_0 n1_0 c1_0, .slice A2_0 n2_0 c2_0].toArray W fun e W2 => e = .returned (.tuple #[.bool res.1, .int .i64 res.2]) ∧ Ext W W2 [] := by
  subst hn0_4
  subst hn1_0
  subst hn2_0
  unfold fire_Fits at h
  refine calls_enter (m := 92) Try.func40 rfl rfl (Nat.le_of_ble_eq_true rfl) ?_
  refine cx_seq ?_
  refine cx_region ?_
  refine ox_box [.int .i64 p0.fRise, .int .i64 p0.fFall, .int .i64 p0.fUp, .int .i64 p0.fDown, .slice A0_4 p0.fLooks.length c0_4] rfl rfl rfl (fun b1 => ?_)
  refine ox_y rfl (y_assign_bool rfl) ?_
  refine ox_y rfl (y_assign_int rfl) ?_
  refine ox_nil ?_
  refine ex_then ?_
  refine cx_seq ?_
  refine cx_seq ?_
  refine cx_region ?_
  refine ox_y rfl (y_loadN 0 [.int .i64 p0.fRise, .int .i64 p0.fFall, .int .i64 p0.fUp, .int .i64 p0.fDown, .slice A0_4 p0.fLooks.length c0_4] ag_24 rfl rfl rfl) ?_
  refine ox_y rfl (y_move_slice rfl) ?_
  obtain ⟨y2, hy3, h⟩ := bind_some h
  refine ox_y rfl (y_call [.agg #[.int .i64 p0.fRise, .int .i64 p0.fFall, .int .i64 p0.fUp, .int .i64 p0.fDown, .slice A0_4 p0.fLooks.length c0_4], .slice A1_0 p1.length c1_0] go_84 rfl (fun W2 hW2 => fire_listed_ok p0 p1 y2 hy3 W2 A0_4 p0.fLooks.length c0_4 rfl ((RdL.arg hr0_4) W2 hW2) A1_0 p1.length c1_0 rfl ((RdL.arg hr1_0) W2 hW2)) rfl) ?_
  refine ox_y rfl (y_assign_int rfl) ?_
  refine ox_nil ?_
  refine ex_then ?_
  refine cx_seq ?_
  refine cx_region ?_
  refine ox_y rfl (y_move_int rfl) ?_
  refine ox_y rfl (y_neq rfl rfl) ?_
  refine ox_nil ?_
  refine ex_then ?_
  rcases ite_some h with ⟨hp4, h⟩ | ⟨hp4, h⟩
  · refine cx_true (congrArg Value.bool hp4) ?_
    refine cx_seq ?_
    refine cx_region ?_
    refine ox_y rfl (y_move_int rfl) ?_
    refine ox_y rfl (y_assign_bool rfl) ?_
    refine ox_y rfl (y_assign_int rfl) ?_
    refine ox_nil ?_
    refine ex_then ?_
    refine cx_ret ?_
    refine ex_then_ret ?_
    obtain rfl := Option.some.inj h
    exact ex_res2 (.inl rfl) rfl (resV_tmp (v := .bool false) rfl) (resV_tmp (v := .int .i64 y2) rfl) (fun W2 hW2 => ⟨rfl, hW2.none⟩)
  · refine cx_false (congrArg Value.bool hp4) ?_
    refine cx_skip ?_
    refine ex_then ?_
    refine cx_seq ?_
    refine cx_seq ?_
    refine cx_region ?_
    refine ox_y rfl (y_move_slice rfl) ?_
    refine ox_y rfl (y_len (us := []) us_41 rfl) ?_
    refine ox_y rfl (y_move_slice rfl) ?_
    refine ox_y rfl (y_len (us := []) us_46 rfl) ?_
    refine ox_y rfl (y_neq rfl rfl) ?_
    refine ox_y rfl (y_move_bool rfl) ?_
    obtain ⟨b6, hb7, h⟩ := bind_some h
    refine ox_join 3 (fun tm0 => (upd (upd (upd (upd (upd (upd tm0 1 (.slice A1_0 p1.length c1_0)) 2 (.slice A2_0 p2.length c2_0)) 3 (.pointer (some ⟨b1, 0, none⟩))) 6 (.bool false)) 7 (.int .i64 0)) 28 (.bool b6))) (fun tm0 => ?_) (fun key => ?_)
    · refine ox_nil ?_
      refine ex_then ?_
      rcases ite_some h with ⟨hp8, h⟩ | ⟨hp8, h⟩
      · refine cx_true (congrArg Value.bool hp8) ?_
        refine cx_seq ?_
        refine cx_region ?_
        refine ox_y rfl (y_assign_bool rfl) ?_
        refine ox_y rfl (y_assign_int rfl) ?_
        refine ox_nil ?_
        refine ex_then ?_
        refine cx_ret ?_
        refine ex_then_ret ?_
        obtain rfl := Option.some.inj h
        exact ex_res2 (.inl rfl) rfl (resV_tmp (v := .bool false) rfl) (resV_tmp (v := .int .i64 1) rfl) (fun W2 hW2 => ⟨rfl, hW2.none⟩)
      · refine cx_false (congrArg Value.bool hp8) ?_
        refine cx_skip ?_
        refine ex_then ?_
        refine cx_seq ?_
        refine cx_seq ?_
        refine cx_region ?_
        refine ox_y rfl (y_loadN 0 [.int .i64 p0.fRise, .int .i64 p0.fFall, .int .i64 p0.fUp, .int .i64 p0.fDown, .slice A0_4 p0.fLooks.length c0_4] ag_24 rfl rfl rfl) ?_
        obtain ⟨y9, hy10, h⟩ := bind_some h
        refine ox_y rfl (y_call [.agg #[.int .i64 p0.fRise, .int .i64 p0.fFall, .int .i64 p0.fUp, .int .i64 p0.fDown, .slice A0_4 p0.fLooks.length c0_4]] go_59 rfl (fun W2 hW2 => fire_agree_ok p0 y9 hy10 W2 A0_4 p0.fLooks.length c0_4 rfl ((RdL.arg hr0_4) W2 hW2)) rfl) ?_
        refine ox_y rfl (y_not rfl) ?_
        refine ox_nil ?_
        refine ex_then ?_
        rcases ite_some h with ⟨hp11, h⟩ | ⟨hp11, h⟩
        · refine cx_true (congrArg Value.bool hp11) ?_
          refine cx_seq ?_
          refine cx_region ?_
          refine ox_y rfl (y_assign_bool rfl) ?_
          refine ox_y rfl (y_assign_int rfl) ?_
          refine ox_nil ?_
          refine ex_then ?_
          refine cx_ret ?_
          refine ex_then_ret ?_
          obtain rfl := Option.some.inj h
          exact ex_res2 (.inl rfl) rfl (resV_tmp (v := .bool false) rfl) (resV_tmp (v := .int .i64 9) rfl) (fun W2 hW2 => ⟨rfl, hW2.none⟩)
        · refine cx_false (congrArg Value.bool hp11) ?_
          refine cx_skip ?_
          refine ex_then ?_
          refine cx_seq ?_
          refine cx_seq ?_
          refine cx_region ?_
          refine ox_y rfl (y_move_slice rfl) ?_
          refine ox_y rfl (y_len (us := []) us_46 rfl) ?_
          refine ox_y rfl (y_move_int rfl) ?_
          refine ox_nil ?_
          refine ex_then ?_
          refine cx_block ?_
          obtain ⟨u14, hl47, h⟩ := bind_some h
          refine cx_loop (fun (s : (Bool × Int × Int)) L tm => ∃ (tm0 : Nat → Value), L = [cellsR b1 24 [.int .i64 p0.fRise, .int .i64 p0.fFall, .int .i64 p0.fUp, .int .i64 p0.fDown, .slice A0_4 p0.fLooks.length c0_4]] ∧ tm = (upd (upd (upd (upd (upd (upd (upd (upd (upd (upd tm0 1 (.slice A1_0 p1.length c1_0)) 2 (.slice A2_0 p2.length c2_0)) 3 (.pointer (some ⟨b1, 0, none⟩))) 6 (.bool s.1)) 7 (.int .i64 s.2.1)) 28 (.bool b6)) 31 (.bool (!y9))) 32 (.slice A1_0 p1.length c1_0)) 33 (.int .i64 ((p1.length : Nat) : Int))) 34 (.int .i64 s.2.2))) (fun | (.inl s), e, L, tm => e = .ret ∧ ∃ (tm0 : Nat → Value), L = [cellsR b1 24 [.int .i64 p0.fRise, .int .i64 p0.fFall, .int .i64 p0.fUp, .int .i64 p0.fDown, .slice A0_4 p0.fLooks.length c0_4]] ∧ tm = (upd (upd (upd (upd (upd (upd (upd (upd (upd (upd tm0 1 (.slice A1_0 p1.length c1_0)) 2 (.slice A2_0 p2.length c2_0)) 3 (.pointer (some ⟨b1, 0, none⟩))) 6 (.bool s.1)) 7 (.int .i64 s.2.1)) 28 (.bool b6)) 31 (.bool (!y9))) 32 (.slice A1_0 p1.length c1_0)) 33 (.int .i64 ((p1.length : Nat) : Int))) 34 (.int .i64 s.2.2)) | (.inr s), e, L, tm => e = .exit 0 ∧ ∃ (tm0 : Nat → Value), L = [cellsR b1 24 [.int .i64 p0.fRise, .int .i64 p0.fFall, .int .i64 p0.fUp, .int .i64 p0.fDown, .slice A0_4 p0.fLooks.length c0_4]] ∧ tm = (upd (upd (upd (upd (upd (upd (upd (upd (upd (upd tm0 1 (.slice A1_0 p1.length c1_0)) 2 (.slice A2_0 p2.length c2_0)) 3 (.pointer (some ⟨b1, 0, none⟩))) 6 (.bool s.1)) 7 (.int .i64 s.2.1)) 28 (.bool b6)) 31 (.bool (!y9))) 32 (.slice A1_0 p1.length c1_0)) 33 (.int .i64 ((p1.length : Nat) : Int))) 34 (.int .i64 s.2.2))) hl47 ⟨_, rfl, (keep (keep (keep (keep (keep (keep (keep (keep (keep (keep rfl rfl) rfl) rfl) rfl) rfl) rfl) rfl) rfl) rfl) rfl)⟩ ?_ ?_
          · rintro s13 L tm st ⟨tm0_s13, rfl, rfl⟩ h
            unfold fire_Fits_l1 at h
            refine cx_seq ?_
            refine cx_region ?_
            refine ox_y rfl (y_lss rfl rfl) ?_
            refine ox_nil ?_
            refine ex_then ?_
            refine cx_seq ?_
            rcases ite_some h with ⟨hp15, h⟩ | ⟨hp15, h⟩
            · refine cx_true (congrArg Value.bool hp15) ?_
              refine cx_skip ?_
              refine ex_then ?_
              refine cx_seq ?_
              refine cx_block ?_
              refine cx_seq ?_
              refine cx_region ?_
              refine ox_y rfl (y_move_int rfl) ?_
              obtain ⟨hg16, h⟩ := guardO_some h
              refine ox_y rfl (y_indexR sl_46 (by decide) hg16.1 hg16.2 (RdL.arg hr1_0) (encL_len TSpot_cells_len rfl) rfl rfl) ?_
              refine ox_y rfl (y_loadRN (A := A1_0) (j := (Int.toNat s13.2.2 * 2)) [.int .i64 ((rdL p1 s13.2.2).fFoot), .int .i64 ((rdL p1 s13.2.2).fHour)] ag_26 (Nat.succ_pos _) (RdL.arg hr1_0) rfl (encL_gets TSpot_cells_len hg16.1 (lt_nat hg16.2 rfl))) ?_
              refine ox_alloc ze_26 rfl (fun b17 => ?_)
              refine ox_y rfl (y_assign_int rfl) ?_
              refine ox_n rfl (y_storeN 1 [.int .i64 ((rdL p1 s13.2.2).fFoot), .int .i64 ((rdL p1 s13.2.2).fHour)] sz_26 rfl (Nat.le_of_ble_eq_true rfl) rfl rfl rfl) ?_
              refine ox_nil ?_
              refine ex_then ?_
              refine cx_seq ?_
              refine cx_seq ?_
              refine cx_region ?_
              refine ox_y rfl (y_loadN 0 [.int .i64 p0.fRise, .int .i64 p0.fFall, .int .i64 p0.fUp, .int .i64 p0.fDown, .slice A0_4 p0.fLooks.length c0_4] ag_24 rfl rfl rfl) ?_
              refine ox_y rfl (y_loadN 1 [.int .i64 ((rdL p1 s13.2.2).fFoot), .int .i64 ((rdL p1 s13.2.2).fHour)] ag_26 rfl rfl rfl) ?_
              obtain ⟨y18, hy19, h⟩ := bind_some h
              refine ox_y rfl (y_call [.agg #[.int .i64 p0.fRise, .int .i64 p0.fFall, .int .i64 p0.fUp, .int .i64 p0.fDown, .slice A0_4 p0.fLooks.length c0_4], .agg #[.int .i64 ((rdL p1 s13.2.2).fFoot), .int .i64 ((rdL p1 s13.2.2).fHour)]] go_57 rfl (fun W2 hW2 => fire_ends_ok p0 (TSpot.mk ((rdL p1 s13.2.2).fFoot) ((rdL p1 s13.2.2).fHour)) y18 hy19 W2 A0_4 p0.fLooks.length c0_4 rfl ((RdL.arg hr0_4) W2 hW2)) rfl) ?_
              refine ox_y rfl (y_fieldN [.int .i64 y18.fSpan.fLo, .int .i64 y18.fSpan.fHi, .int .i64 y18.fLow, .int .i64 y18.fHigh] [.int .i64 y18.fSpan.fLo, .int .i64 y18.fSpan.fHi] fd_36_0 ag_32 rfl rfl) ?_
              refine ox_alloc ze_32 rfl (fun b20 => ?_)
              refine ox_n rfl (y_storeN 2 [.int .i64 y18.fSpan.fLo, .int .i64 y18.fSpan.fHi] sz_32 rfl (Nat.le_of_ble_eq_true rfl) rfl rfl rfl) ?_
              refine ox_nil ?_
              refine ex_then ?_
              refine cx_seq ?_
              refine cx_draws 10 mixed (by kernel_rfl) (by kernel_rfl) ?_
              refine qx_y rfl (y_move_slice rfl) ?_
              refine qx_y rfl (y_move_int rfl) ?_
              obtain ⟨hg21, h⟩ := guardO_some h
              refine qx_y rfl (y_indexR sl_41 (by decide) hg21.1 hg21.2 (RdL.arg hr2_0) (encL_len cI_len rfl) rfl rfl) ?_
              refine qx_y rfl (y_loadR1 (A := A2_0) (j := (Int.toNat s13.2.2 * 1)) (v := .int .i64 (rdL p2 s13.2.2)) sc_3 (RdL.arg hr2_0) rfl (encL_get0 cI_len hg21.1 (lt_nat hg21.2 rfl) rfl)) ?_
              refine qx_y rfl (y_fieldAddr fo_32_0 rfl) ?_
              refine qx_y rfl (y_load1 2 (v := .int .i64 y18.fSpan.fLo) sc_3 rfl rfl rfl) ?_
              refine qx_y rfl (y_fieldAddr fo_32_1 rfl) ?_
              refine qx_y rfl (y_load1 2 (v := .int .i64 y18.fSpan.fHi) sc_3 rfl rfl rfl) ?_
              obtain ⟨y22, hy23, h⟩ := bind_some h
              refine qx_y rfl (y_call [.int .i64 (rdL p2 s13.2.2), .int .i64 y18.fSpan.fLo, .int .i64 y18.fSpan.fHi] go_50 rfl (fun W2 hW2 => fire_within_ok (rdL p2 s13.2.2) y18.fSpan.fLo y18.fSpan.fHi y22 hy23 W2 ) rfl) ?_
              refine qx_y rfl (y_not rfl) ?_
              refine qx_nil ?_
              refine ox_nil ?_
              refine ex_then ?_
              rcases ite_some h with ⟨hp24, h⟩ | ⟨hp24, h⟩
              · refine cx_true (congrArg Value.bool hp24) ?_
                refine cx_seq ?_
                refine cx_region ?_
                refine ox_y rfl (y_assign_bool rfl) ?_
                refine ox_y rfl (y_assign_int rfl) ?_
                refine ox_nil ?_
                refine ex_then ?_
                refine cx_ret ?_
                refine ex_then_ret ?_
                refine ex_block_ret ?_
                refine ex_then_ret ?_
                refine ex_take 1 ?_
                obtain rfl := Option.some.inj h
                exact ex_stop ⟨rfl, _, rfl, (keep (keep (keep (keep (keep (keep (keep (keep (keep (keep rfl rfl) rfl) rfl) rfl) rfl) rfl) rfl) rfl) rfl) rfl)⟩
              · refine cx_false (congrArg Value.bool hp24) ?_
                refine cx_skip ?_
                refine ex_then ?_
                refine cx_seq ?_
                refine cx_region ?_
                refine ox_y rfl (y_move_slice rfl) ?_
                refine ox_y rfl (y_len (us := []) us_46 rfl) ?_
                refine ox_y rfl (y_move_int rfl) ?_
                refine ox_nil ?_
                refine ex_then ?_
                refine cx_block ?_
                obtain ⟨u27, hl44, h⟩ := bind_some h
                refine cx_loop (fun (s : (Bool × Int × Int)) L tm => ∃ (tm0 : Nat → Value), L = [cellsR b1 24 [.int .i64 p0.fRise, .int .i64 p0.fFall, .int .i64 p0.fUp, .int .i64 p0.fDown, .slice A0_4 p0.fLooks.length c0_4], cellsR b17 26 [.int .i64 ((rdL p1 s13.2.2).fFoot), .int .i64 ((rdL p1 s13.2.2).fHour)], cellsR b20 32 [.int .i64 y18.fSpan.fLo, .int .i64 y18.fSpan.fHi]] ∧ tm = (upd (upd (upd (upd (upd (upd (upd (upd (upd (upd (upd (upd (upd (upd (upd (upd (upd (upd tm0 1 (.slice A1_0 p1.length c1_0)) 2 (.slice A2_0 p2.length c2_0)) 3 (.pointer (some ⟨b1, 0, none⟩))) 6 (.bool s.1)) 7 (.int .i64 s.2.1)) 28 (.bool b6)) 31 (.bool (!y9))) 32 (.slice A1_0 p1.length c1_0)) 33 (.int .i64 ((p1.length : Nat) : Int))) 34 (.int .i64 s13.2.2)) 35 (.bool (decide (s13.2.2 < ((p1.length : Nat) : Int))))) 10 (.pointer (some ⟨b17, 0, none⟩))) 9 (.int .i64 s13.2.2)) 11 (.pointer (some ⟨b20, 0, none⟩))) 52 (.bool (!y22))) 53 (.slice A1_0 p1.length c1_0)) 54 (.int .i64 ((p1.length : Nat) : Int))) 55 (.int .i64 s.2.2))) (fun | (.inl s), e, L, tm => e = .ret ∧ ∃ (tm0 : Nat → Value), L = [cellsR b1 24 [.int .i64 p0.fRise, .int .i64 p0.fFall, .int .i64 p0.fUp, .int .i64 p0.fDown, .slice A0_4 p0.fLooks.length c0_4], cellsR b17 26 [.int .i64 ((rdL p1 s13.2.2).fFoot), .int .i64 ((rdL p1 s13.2.2).fHour)], cellsR b20 32 [.int .i64 y18.fSpan.fLo, .int .i64 y18.fSpan.fHi]] ∧ tm = (upd (upd (upd (upd (upd (upd (upd (upd (upd (upd (upd (upd (upd (upd (upd (upd (upd (upd tm0 1 (.slice A1_0 p1.length c1_0)) 2 (.slice A2_0 p2.length c2_0)) 3 (.pointer (some ⟨b1, 0, none⟩))) 6 (.bool s.1)) 7 (.int .i64 s.2.1)) 28 (.bool b6)) 31 (.bool (!y9))) 32 (.slice A1_0 p1.length c1_0)) 33 (.int .i64 ((p1.length : Nat) : Int))) 34 (.int .i64 s13.2.2)) 35 (.bool (decide (s13.2.2 < ((p1.length : Nat) : Int))))) 10 (.pointer (some ⟨b17, 0, none⟩))) 9 (.int .i64 s13.2.2)) 11 (.pointer (some ⟨b20, 0, none⟩))) 52 (.bool (!y22))) 53 (.slice A1_0 p1.length c1_0)) 54 (.int .i64 ((p1.length : Nat) : Int))) 55 (.int .i64 s.2.2)) | (.inr s), e, L, tm => e = .exit 2 ∧ ∃ (tm0 : Nat → Value), L = [cellsR b1 24 [.int .i64 p0.fRise, .int .i64 p0.fFall, .int .i64 p0.fUp, .int .i64 p0.fDown, .slice A0_4 p0.fLooks.length c0_4], cellsR b17 26 [.int .i64 ((rdL p1 s13.2.2).fFoot), .int .i64 ((rdL p1 s13.2.2).fHour)], cellsR b20 32 [.int .i64 y18.fSpan.fLo, .int .i64 y18.fSpan.fHi]] ∧ tm = (upd (upd (upd (upd (upd (upd (upd (upd (upd (upd (upd (upd (upd (upd (upd (upd (upd (upd tm0 1 (.slice A1_0 p1.length c1_0)) 2 (.slice A2_0 p2.length c2_0)) 3 (.pointer (some ⟨b1, 0, none⟩))) 6 (.bool s.1)) 7 (.int .i64 s.2.1)) 28 (.bool b6)) 31 (.bool (!y9))) 32 (.slice A1_0 p1.length c1_0)) 33 (.int .i64 ((p1.length : Nat) : Int))) 34 (.int .i64 s13.2.2)) 35 (.bool (decide (s13.2.2 < ((p1.length : Nat) : Int))))) 10 (.pointer (some ⟨b17, 0, none⟩))) 9 (.int .i64 s13.2.2)) 11 (.pointer (some ⟨b20, 0, none⟩))) 52 (.bool (!y22))) 53 (.slice A1_0 p1.length c1_0)) 54 (.int .i64 ((p1.length : Nat) : Int))) 55 (.int .i64 s.2.2))) hl44 ⟨_, rfl, (keep (keep (keep (keep (keep (keep (keep (keep (keep (keep (keep (keep (keep (keep (keep (keep (keep (keep rfl rfl) rfl) rfl) rfl) rfl) rfl) rfl) rfl) rfl) rfl) rfl) rfl) rfl) rfl) rfl) rfl) rfl) rfl)⟩ ?_ ?_
                · rintro s26 L tm st ⟨tm0_s26, rfl, rfl⟩ h
                  unfold fire_Fits_l2 at h
                  refine cx_seq ?_
                  refine cx_region ?_
                  refine ox_y rfl (y_lss rfl rfl) ?_
                  refine ox_nil ?_
                  refine ex_then ?_
                  refine cx_seq ?_
                  rcases ite_some h with ⟨hp28, h⟩ | ⟨hp28, h⟩
                  · refine cx_true (congrArg Value.bool hp28) ?_
                    refine cx_skip ?_
                    refine ex_then ?_
                    refine cx_seq ?_
                    refine cx_block ?_
                    refine cx_seq ?_
                    refine cx_region ?_
                    refine ox_y rfl (y_move_int rfl) ?_
                    obtain ⟨hg29, h⟩ := guardO_some h
                    refine ox_y rfl (y_indexR sl_46 (by decide) hg29.1 hg29.2 (RdL.arg hr1_0) (encL_len TSpot_cells_len rfl) rfl rfl) ?_
                    refine ox_y rfl (y_loadRN (A := A1_0) (j := (Int.toNat s26.2.2 * 2)) [.int .i64 ((rdL p1 s26.2.2).fFoot), .int .i64 ((rdL p1 s26.2.2).fHour)] ag_26 (Nat.succ_pos _) (RdL.arg hr1_0) rfl (encL_gets TSpot_cells_len hg29.1 (lt_nat hg29.2 rfl))) ?_
                    refine ox_alloc ze_26 rfl (fun b30 => ?_)
                    refine ox_y rfl (y_assign_int rfl) ?_
                    refine ox_n rfl (y_storeN 3 [.int .i64 ((rdL p1 s26.2.2).fFoot), .int .i64 ((rdL p1 s26.2.2).fHour)] sz_26 rfl (Nat.le_of_ble_eq_true rfl) rfl rfl rfl) ?_
                    refine ox_nil ?_
                    refine ex_then ?_
                    refine cx_seq ?_
                    refine cx_draws 30 mixed (by kernel_rfl) (by kernel_rfl) ?_
                    refine qx_y rfl (y_move_slice rfl) ?_
                    refine qx_y rfl (y_move_int rfl) ?_
                    obtain ⟨hg31, h⟩ := guardO_some h
                    refine qx_y rfl (y_indexR sl_41 (by decide) hg31.1 hg31.2 (RdL.arg hr2_0) (encL_len cI_len rfl) rfl rfl) ?_
                    refine qx_y rfl (y_loadR1 (A := A2_0) (j := (Int.toNat s26.2.2 * 1)) (v := .int .i64 (rdL p2 s26.2.2)) sc_3 (RdL.arg hr2_0) rfl (encL_get0 cI_len hg31.1 (lt_nat hg31.2 rfl) rfl)) ?_
                    refine qx_y rfl (y_move_slice rfl) ?_
                    refine qx_y rfl (y_move_int rfl) ?_
                    obtain ⟨hg32, h⟩ := guardO_some h
                    refine qx_y rfl (y_indexR sl_41 (by decide) hg32.1 hg32.2 (RdL.arg hr2_0) (encL_len cI_len rfl) rfl rfl) ?_
                    refine qx_y rfl (y_loadR1 (A := A2_0) (j := (Int.toNat s13.2.2 * 1)) (v := .int .i64 (rdL p2 s13.2.2)) sc_3 (RdL.arg hr2_0) rfl (encL_get0 cI_len hg32.1 (lt_nat hg32.2 rfl) rfl)) ?_
                    refine qx_y rfl (y_loadN 0 [.int .i64 p0.fRise, .int .i64 p0.fFall, .int .i64 p0.fUp, .int .i64 p0.fDown, .slice A0_4 p0.fLooks.length c0_4] ag_24 rfl rfl rfl) ?_
                    refine qx_y rfl (y_loadN 1 [.int .i64 ((rdL p1 s13.2.2).fFoot), .int .i64 ((rdL p1 s13.2.2).fHour)] ag_26 rfl rfl rfl) ?_
                    refine qx_y rfl (y_loadN 3 [.int .i64 ((rdL p1 s26.2.2).fFoot), .int .i64 ((rdL p1 s26.2.2).fHour)] ag_26 rfl rfl rfl) ?_
                    obtain ⟨y33, hy34, h⟩ := bind_some h
                    refine qx_y rfl (y_call [.agg #[.int .i64 p0.fRise, .int .i64 p0.fFall, .int .i64 p0.fUp, .int .i64 p0.fDown, .slice A0_4 p0.fLooks.length c0_4], .agg #[.int .i64 ((rdL p1 s13.2.2).fFoot), .int .i64 ((rdL p1 s13.2.2).fHour)], .agg #[.int .i64 ((rdL p1 s26.2.2).fFoot), .int .i64 ((rdL p1 s26.2.2).fHour)]] go_73 rfl (fun W2 hW2 => fire_far_ok p0 (TSpot.mk ((rdL p1 s13.2.2).fFoot) ((rdL p1 s13.2.2).fHour)) (TSpot.mk ((rdL p1 s26.2.2).fFoot) ((rdL p1 s26.2.2).fHour)) y33 hy34 W2 A0_4 p0.fLooks.length c0_4 rfl ((RdL.arg hr0_4) W2 hW2)) rfl) ?_
                    refine qx_y rfl (y_add rfl rfl) ?_
                    refine qx_y rfl (y_gtr rfl rfl) ?_
                    refine qx_y rfl (y_move_bool rfl) ?_
                    obtain ⟨b36, hb37, h⟩ := bind_some h
                    refine qx_join 15 (fun tm0 => (upd (upd (upd (upd (upd (upd (upd (upd (upd (upd (upd (upd (upd (upd (upd (upd (upd (upd (upd (upd (upd (upd tm0 1 (.slice A1_0 p1.length c1_0)) 2 (.slice A2_0 p2.length c2_0)) 3 (.pointer (some ⟨b1, 0, none⟩))) 6 (.bool s26.1)) 7 (.int .i64 s26.2.1)) 28 (.bool b6)) 31 (.bool (!y9))) 32 (.slice A1_0 p1.length c1_0)) 33 (.int .i64 ((p1.length : Nat) : Int))) 34 (.int .i64 s13.2.2)) 35 (.bool (decide (s13.2.2 < ((p1.length : Nat) : Int))))) 10 (.pointer (some ⟨b17, 0, none⟩))) 9 (.int .i64 s13.2.2)) 11 (.pointer (some ⟨b20, 0, none⟩))) 52 (.bool (!y22))) 53 (.slice A1_0 p1.length c1_0)) 54 (.int .i64 ((p1.length : Nat) : Int))) 55 (.int .i64 s26.2.2)) 56 (.bool (decide (s26.2.2 < ((p1.length : Nat) : Int))))) 13 (.pointer (some ⟨b30, 0, none⟩))) 12 (.int .i64 s26.2.2)) 89 (.bool b36))) (fun tm0 => ?_) (fun key => ?_)
                    · refine qx_nil ?_
                      refine ox_nil ?_
                      refine ex_then ?_
                      rcases ite_some h with ⟨hp38, h⟩ | ⟨hp38, h⟩
                      · refine cx_true (congrArg Value.bool hp38) ?_
                        refine cx_seq ?_
                        refine cx_region ?_
                        refine ox_y rfl (y_assign_bool rfl) ?_
                        refine ox_y rfl (y_assign_int rfl) ?_
                        refine ox_nil ?_
                        refine ex_then ?_
                        refine cx_ret ?_
                        refine ex_block_ret ?_
                        refine ex_then_ret ?_
                        refine ex_take 3 ?_
                        obtain rfl := Option.some.inj h
                        exact ex_stop ⟨rfl, _, rfl, (keep (keep (keep (keep (keep (keep (keep (keep (keep (keep (keep (keep (keep (keep (keep (keep (keep (keep rfl rfl) rfl) rfl) rfl) rfl) rfl) rfl) rfl) rfl) rfl) rfl) rfl) rfl) rfl) rfl) rfl) rfl) rfl)⟩
                      · refine cx_false (congrArg Value.bool hp38) ?_
                        refine cx_skip ?_
                        refine ex_block ?_
                        refine ex_then ?_
                        refine cx_region ?_
                        refine ox_y rfl (y_add rfl rfl) ?_
                        refine ox_y rfl (y_move_int rfl) ?_
                        refine ox_nil ?_
                        refine ex_take 3 ?_
                        obtain rfl := Option.some.inj h
                        exact ex_next ⟨_, rfl, (keep (keep (keep (keep (keep (keep (keep (keep (keep (keep (keep (keep (keep (keep (keep (keep (keep (keep rfl rfl) rfl) rfl) rfl) rfl) rfl) rfl) rfl) rfl) rfl) rfl) rfl) rfl) rfl) rfl) rfl) rfl) rfl)⟩
                    · clear h; rcases ite_some hb37 with ⟨hp35, h⟩ | ⟨hp35, h⟩
                      · refine qx_skip (sees_f rfl rfl rfl rfl hp35) ?_
                        refine qx_skip (sees_f rfl rfl rfl rfl hp35) ?_
                        refine qx_skip (sees_f rfl rfl rfl rfl hp35) ?_
                        refine qx_skip (sees_f rfl rfl rfl rfl hp35) ?_
                        refine qx_skip rfl ?_
                        refine qx_skip rfl ?_
                        refine qx_skip rfl ?_
                        refine qx_skip rfl ?_
                        refine qx_skip rfl ?_
                        refine qx_skip rfl ?_
                        refine qx_skip rfl ?_
                        refine qx_skip rfl ?_
                        refine qx_skip rfl ?_
                        refine qx_skip (sees_f rfl rfl rfl rfl hp35) ?_
                        refine qx_y rfl (y_pick_tb (congrArg Value.bool hp35) rfl) ?_
                        obtain rfl := Option.some.inj h
                        exact key _ _ (keep (keep (keep (keep (keep (keep (keep (keep (keep (keep (keep (keep (keep (keep (keep (keep (keep (keep (keep (keep (keep (keep rfl rfl) rfl) rfl) rfl) rfl) rfl) rfl) rfl) rfl) rfl) rfl) rfl) rfl) rfl) rfl) rfl) rfl) rfl) rfl) rfl) rfl) rfl)
                      · refine qx_y (sees_t rfl rfl rfl rfl hp35) (y_loadN 1 [.int .i64 ((rdL p1 s13.2.2).fFoot), .int .i64 ((rdL p1 s13.2.2).fHour)] ag_26 rfl rfl rfl) ?_
                        refine qx_y (sees_t rfl rfl rfl rfl hp35) (y_loadN 3 [.int .i64 ((rdL p1 s26.2.2).fFoot), .int .i64 ((rdL p1 s26.2.2).fHour)] ag_26 rfl rfl rfl) ?_
                        refine qx_y (sees_t rfl rfl rfl rfl hp35) (y_eqla (b := (((rdL p1 s13.2.2).fFoot == (rdL p1 s26.2.2).fFoot) && ((rdL p1 s13.2.2).fHour == (rdL p1 s26.2.2).fHour))) eg_26 rfl rfl (fun _ => (eqS2 fl_26 (part1 sc_3 rfl) (part1 sc_3 rfl) (part1 sc_3 rfl) (part1 sc_3 rfl) (run_equalIn_int _ _ _ _ _ _ _ ui_3) (run_equalIn_int _ _ _ _ _ _ _ ui_3)))) ?_
                        refine qx_y (sees_t rfl rfl rfl rfl hp35) (y_move_bool rfl) ?_
                        obtain ⟨b40, hb41, h⟩ := bind_some h
                        refine qx_join 10 (fun tm0 => (upd (upd (upd (upd (upd (upd (upd (upd (upd (upd (upd (upd (upd (upd (upd (upd (upd (upd (upd (upd (upd (upd (upd tm0 1 (.slice A1_0 p1.length c1_0)) 2 (.slice A2_0 p2.length c2_0)) 3 (.pointer (some ⟨b1, 0, none⟩))) 6 (.bool s26.1)) 7 (.int .i64 s26.2.1)) 28 (.bool b6)) 31 (.bool (!y9))) 32 (.slice A1_0 p1.length c1_0)) 33 (.int .i64 ((p1.length : Nat) : Int))) 34 (.int .i64 s13.2.2)) 35 (.bool (decide (s13.2.2 < ((p1.length : Nat) : Int))))) 10 (.pointer (some ⟨b17, 0, none⟩))) 9 (.int .i64 s13.2.2)) 11 (.pointer (some ⟨b20, 0, none⟩))) 52 (.bool (!y22))) 53 (.slice A1_0 p1.length c1_0)) 54 (.int .i64 ((p1.length : Nat) : Int))) 55 (.int .i64 s26.2.2)) 56 (.bool (decide (s26.2.2 < ((p1.length : Nat) : Int))))) 13 (.pointer (some ⟨b30, 0, none⟩))) 12 (.int .i64 s26.2.2)) 74 (.bool (decide (w64 ((rdL p2 s13.2.2) + y33) < (rdL p2 s26.2.2))))) 88 (.bool b40))) (fun tm0 => ?_) (fun key => ?_)
                        · refine qx_y rfl (y_pick_fb (congrArg Value.bool hp35) rfl) ?_
                          obtain rfl := Option.some.inj h
                          exact key _ _ (keep (keep (keep (keep (keep (keep (keep (keep (keep (keep (keep (keep (keep (keep (keep (keep (keep (keep (keep (keep (keep (keep rfl rfl) rfl) rfl) rfl) rfl) rfl) rfl) rfl) rfl) rfl) rfl) rfl) rfl) rfl) rfl) rfl) rfl) rfl) rfl) rfl) rfl) rfl)
                        · clear h; rcases ite_some hb41 with ⟨hp39, h⟩ | ⟨hp39, h⟩
                          · refine qx_y (sees_t rfl rfl rfl rfl hp39) (y_move_slice rfl) ?_
                            refine qx_y (sees_t rfl rfl rfl rfl hp39) (y_move_int rfl) ?_
                            obtain ⟨hg42, h⟩ := guardO_some h
                            refine qx_y (sees_t rfl rfl rfl rfl hp39) (y_indexR sl_41 (by decide) hg42.1 hg42.2 (RdL.arg hr2_0) (encL_len cI_len rfl) rfl rfl) ?_
                            refine qx_y (sees_t rfl rfl rfl rfl hp39) (y_loadR1 (A := A2_0) (j := (Int.toNat s13.2.2 * 1)) (v := .int .i64 (rdL p2 s13.2.2)) sc_3 (RdL.arg hr2_0) rfl (encL_get0 cI_len hg42.1 (lt_nat hg42.2 rfl) rfl)) ?_
                            refine qx_y (sees_t rfl rfl rfl rfl hp39) (y_move_slice rfl) ?_
                            refine qx_y (sees_t rfl rfl rfl rfl hp39) (y_move_int rfl) ?_
                            obtain ⟨hg43, h⟩ := guardO_some h
                            refine qx_y (sees_t rfl rfl rfl rfl hp39) (y_indexR sl_41 (by decide) hg43.1 hg43.2 (RdL.arg hr2_0) (encL_len cI_len rfl) rfl rfl) ?_
                            refine qx_y (sees_t rfl rfl rfl rfl hp39) (y_loadR1 (A := A2_0) (j := (Int.toNat s26.2.2 * 1)) (v := .int .i64 (rdL p2 s26.2.2)) sc_3 (RdL.arg hr2_0) rfl (encL_get0 cI_len hg43.1 (lt_nat hg43.2 rfl) rfl)) ?_
                            refine qx_y (sees_t rfl rfl rfl rfl hp39) (y_neq rfl rfl) ?_
                            refine qx_y (sees_t rfl rfl rfl rfl hp35) (y_pick_tb (congrArg Value.bool hp39) rfl) ?_
                            obtain rfl := Option.some.inj h
                            exact key _ _ (keep (keep (keep (keep (keep (keep (keep (keep (keep (keep (keep (keep (keep (keep (keep (keep (keep (keep (keep (keep (keep (keep (keep rfl rfl) rfl) rfl) rfl) rfl) rfl) rfl) rfl) rfl) rfl) rfl) rfl) rfl) rfl) rfl) rfl) rfl) rfl) rfl) rfl) rfl) rfl) rfl)
                          · refine qx_skip (sees_f rfl rfl rfl rfl hp39) ?_
                            refine qx_skip (sees_f rfl rfl rfl rfl hp39) ?_
                            refine qx_skip (sees_f rfl rfl rfl rfl hp39) ?_
                            refine qx_skip (sees_f rfl rfl rfl rfl hp39) ?_
                            refine qx_skip (sees_f rfl rfl rfl rfl hp39) ?_
                            refine qx_skip (sees_f rfl rfl rfl rfl hp39) ?_
                            refine qx_skip (sees_f rfl rfl rfl rfl hp39) ?_
                            refine qx_skip (sees_f rfl rfl rfl rfl hp39) ?_
                            refine qx_skip (sees_f rfl rfl rfl rfl hp39) ?_
                            refine qx_y (sees_t rfl rfl rfl rfl hp35) (y_pick_fb (congrArg Value.bool hp39) rfl) ?_
                            obtain rfl := Option.some.inj h
                            exact key _ _ (keep (keep (keep (keep (keep (keep (keep (keep (keep (keep (keep (keep (keep (keep (keep (keep (keep (keep (keep (keep (keep (keep (keep rfl rfl) rfl) rfl) rfl) rfl) rfl) rfl) rfl) rfl) rfl) rfl) rfl) rfl) rfl) rfl) rfl) rfl) rfl) rfl) rfl) rfl) rfl) rfl)
                  · refine cx_false (congrArg Value.bool hp28) ?_
                    refine cx_exit ?_
                    refine ex_then_exit ?_
                    obtain rfl := Option.some.inj h
                    exact ex_stop ⟨rfl, _, rfl, (keep (keep (keep (keep (keep (keep (keep (keep (keep (keep (keep (keep (keep (keep (keep (keep (keep (keep rfl rfl) rfl) rfl) rfl) rfl) rfl) rfl) rfl) rfl) rfl) rfl) rfl) rfl) rfl) rfl) rfl) rfl) rfl)⟩
                · intro e L tm hJ
                  rcases u27 with u45 | u46
                  · dsimp only at h hJ
                    obtain ⟨rfl, tm0_u45, rfl, rfl⟩ := hJ
                    refine ⟨(by intro hc; cases hc), ?_⟩
                    refine ex_block_ret ?_
                    refine ex_block_ret ?_
                    refine ex_then_ret ?_
                    refine ex_take 1 ?_
                    obtain rfl := Option.some.inj h
                    exact ex_stop ⟨rfl, _, rfl, (keep (keep (keep (keep (keep (keep (keep (keep (keep (keep rfl rfl) rfl) rfl) rfl) rfl) rfl) rfl) rfl) rfl) rfl)⟩
                  · dsimp only at h hJ
                    obtain ⟨rfl, tm0_u46, rfl, rfl⟩ := hJ
                    refine ⟨(by intro hc; cases hc), ?_⟩
                    refine ex_block_here ?_
                    refine ex_block ?_
                    refine ex_then ?_
                    refine cx_region ?_
                    refine ox_y rfl (y_add rfl rfl) ?_
                    refine ox_y rfl (y_move_int rfl) ?_
                    refine ox_nil ?_
                    refine ex_take 1 ?_
                    obtain rfl := Option.some.inj h
                    exact ex_next ⟨_, rfl, (keep (keep (keep (keep (keep (keep (keep (keep (keep (keep rfl rfl) rfl) rfl) rfl) rfl) rfl) rfl) rfl) rfl) rfl)⟩
            · refine cx_false (congrArg Value.bool hp15) ?_
              refine cx_exit ?_
              refine ex_then_exit ?_
              obtain rfl := Option.some.inj h
              exact ex_stop ⟨rfl, _, rfl, (keep (keep (keep (keep (keep (keep (keep (keep (keep (keep rfl rfl) rfl) rfl) rfl) rfl) rfl) rfl) rfl) rfl) rfl)⟩
          · intro e L tm hJ
            rcases u14 with u48 | u49
            · dsimp only at h hJ
              obtain ⟨rfl, tm0_u48, rfl, rfl⟩ := hJ
              refine ⟨(by intro hc; cases hc), ?_⟩
              refine ex_block_ret ?_
              refine ex_then_ret ?_
              obtain rfl := Option.some.inj h
              exact ex_res2 (.inl rfl) rfl (resV_tmp (v := .bool u48.1) rfl) (resV_tmp (v := .int .i64 u48.2.1) rfl) (fun W2 hW2 => ⟨rfl, hW2.none⟩)
            · dsimp only at h hJ
              obtain ⟨rfl, tm0_u49, rfl, rfl⟩ := hJ
              refine ⟨(by intro hc; cases hc), ?_⟩
              refine ex_block_here ?_
              refine ex_then ?_
              refine cx_seq ?_
              refine cx_region ?_
              refine ox_y rfl (y_assign_bool rfl) ?_
              refine ox_y rfl (y_assign_int rfl) ?_
              refine ox_nil ?_
              refine ex_then ?_
              refine cx_ret ?_
              obtain rfl := Option.some.inj h
              exact ex_res2 (.inl rfl) rfl (resV_tmp (v := .bool true) rfl) (resV_tmp (v := .int .i64 0) rfl) (fun W2 hW2 => ⟨rfl, hW2.none⟩)
    · clear h; rcases ite_some hb7 with ⟨hp5, h⟩ | ⟨hp5, h⟩
      · refine ox_skip (sees_f rfl rfl rfl rfl hp5) ?_
        refine ox_skip (sees_f rfl rfl rfl rfl hp5) ?_
        refine ox_y rfl (y_pick_tb (congrArg Value.bool hp5) rfl) ?_
        obtain rfl := Option.some.inj h
        exact key _ _ (keep (keep (keep (keep (keep (keep rfl rfl) rfl) rfl) rfl) rfl) rfl)
      · refine ox_y (sees_t rfl rfl rfl rfl hp5) (y_move_slice rfl) ?_
        obtain ⟨y51, hy52, h⟩ := bind_some h
        refine ox_y (sees_t rfl rfl rfl rfl hp5) (y_call [.slice A2_0 p2.length c2_0, .func (.func 86) #[] #[]] go_85 rfl (fun W2 hW2 => slices_ContainsFunc_int_int_ok p2 (fun x50 => fire_Fits_1 x50) y51 hy52 W2 A2_0 p2.length c2_0 rfl ((RdL.arg hr2_0) W2 hW2) 86 [] go_86 (fun W3 hb x y hxy => fire_Fits_1_ok x  y hxy W3 )) rfl) ?_
        refine ox_y rfl (y_pick_fb (congrArg Value.bool hp5) rfl) ?_
        obtain rfl := Option.some.inj h
        exact key _ _ (keep (keep (keep (keep (keep (keep rfl rfl) rfl) rfl) rfl) rfl) rfl)

end Go.Proofs.Ytndajeiecdmhnaa
