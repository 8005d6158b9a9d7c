/- The calls hand back what the plain functions say. -/
import Derived.Test.YtndajeiecdmhnaaF
import Derived.Test.YtndajeiecdmhnaaC0
import Derived.Test.YtndajeiecdmhnaaC2
set_option linter.unusedVariables false
set_option maxHeartbeats 4000000
namespace Go.Proofs.Ytndajeiecdmhnaa
open Go.RowKit (Below)
attribute [local irreducible] OX QX CX EX OpY Calls CallsIn

/-! calx/fire.listed -/
set_option maxRecDepth 100000 in
theorem fire_listed_ok (p0_f : TFire) (p1_l : (List TSpot)) (res : Int) (h : fire_listed p0_f p1_l = some res) (W : World) (A0_4 : Option Addr) (n0_4 c0_4 : Nat) (hn0_4 : n0_4 = p0_f.fLooks.length) (hr0_4 : Rd W A0_4 n0_4 c0_4 (encL TLook_cells p0_f.fLooks)) (A1_0 : Option Addr) (n1_0 c1_0 : Nat) (hn1_0 : n1_0 = p1_l.length) (hr1_0 : Rd W A1_0 n1_0 c1_0 (encL TSpot_cells p1_l)) :
    Calls Try.prog 84 [.agg #[.int .i64 p0_f.fRise, .int .i64 p0_f.fFall, .int .i64 p0_f.fUp, .int .i64 p0_f.fDown, .slice A0_4 n0_4 c0_4], .slice A1_0 n1_0 c1_0].toArray W fun e W2 => e = .returned (.int .i64 res) ∧ Ext W W2 [] := by
  subst hn0_4
  subst hn1_0
  unfold fire_listed at h
  refine calls_enter (m := 17) Try.func84 rfl rfl (Nat.le_of_ble_eq_true rfl) ?_
  refine cx_seq ?_
  refine cx_region ?_
  refine ox_box [.int .i64 p0_f.fRise, .int .i64 p0_f.fFall, .int .i64 p0_f.fUp, .int .i64 p0_f.fDown, .slice A0_4 p0_f.fLooks.length c0_4] rfl rfl rfl (fun b1 => ?_)
  refine ox_y rfl (y_assign_int rfl) ?_
  refine ox_nil ?_
  refine ex_then ?_
  refine cx_seq ?_
  refine cx_seq ?_
  refine cx_region ?_
  refine ox_y rfl (y_loadN 0 [.int .i64 p0_f.fRise, .int .i64 p0_f.fFall, .int .i64 p0_f.fUp, .int .i64 p0_f.fDown, .slice A0_4 p0_f.fLooks.length c0_4] ag_24 rfl rfl rfl) ?_
  obtain ⟨y2, hy3, h⟩ := bind_some h
  refine ox_y rfl (y_call [.agg #[.int .i64 p0_f.fRise, .int .i64 p0_f.fFall, .int .i64 p0_f.fUp, .int .i64 p0_f.fDown, .slice A0_4 p0_f.fLooks.length c0_4]] go_12 rfl (fun W2 hW2 => fire_Check_ok p0_f y2 hy3 W2 A0_4 p0_f.fLooks.length c0_4 rfl ((RdL.arg hr0_4) W2 hW2)) rfl) ?_
  refine ox_y rfl (y_assign_int rfl) ?_
  refine ox_nil ?_
  refine ex_then ?_
  refine cx_seq ?_
  refine cx_region ?_
  refine ox_y rfl (y_move_int rfl) ?_
  refine ox_y rfl (y_neq rfl rfl) ?_
  refine ox_nil ?_
  refine ex_then ?_
  rcases ite_some h with ⟨hp4, h⟩ | ⟨hp4, h⟩
  · refine cx_true (congrArg Value.bool hp4) ?_
    refine cx_seq ?_
    refine cx_region ?_
    refine ox_y rfl (y_move_int rfl) ?_
    refine ox_y rfl (y_assign_int rfl) ?_
    refine ox_nil ?_
    refine ex_then ?_
    refine cx_ret ?_
    refine ex_then_ret ?_
    obtain rfl := Option.some.inj h
    exact ex_res1 (.inl rfl) rfl (resV_tmp (v := .int .i64 y2) rfl) (fun W2 hW2 => ⟨rfl, hW2.none⟩)
  · refine cx_false (congrArg Value.bool hp4) ?_
    refine cx_skip ?_
    refine ex_then ?_
    refine cx_seq ?_
    refine cx_seq ?_
    refine cx_region ?_
    refine ox_y rfl (y_move_slice rfl) ?_
    refine ox_y rfl (y_len (us := []) us_46 rfl) ?_
    refine ox_y rfl (y_gtr rfl rfl) ?_
    refine ox_nil ?_
    refine ex_then ?_
    rcases ite_some h with ⟨hp5, h⟩ | ⟨hp5, h⟩
    · refine cx_true (congrArg Value.bool hp5) ?_
      refine cx_seq ?_
      refine cx_region ?_
      refine ox_y rfl (y_assign_int rfl) ?_
      refine ox_nil ?_
      refine ex_then ?_
      refine cx_ret ?_
      refine ex_then_ret ?_
      obtain rfl := Option.some.inj h
      exact ex_res1 (.inl rfl) rfl (resV_tmp (v := .int .i64 2) rfl) (fun W2 hW2 => ⟨rfl, hW2.none⟩)
    · refine cx_false (congrArg Value.bool hp5) ?_
      refine cx_skip ?_
      refine ex_then ?_
      refine cx_seq ?_
      refine cx_region ?_
      refine ox_y rfl (y_loadN 0 [.int .i64 p0_f.fRise, .int .i64 p0_f.fFall, .int .i64 p0_f.fUp, .int .i64 p0_f.fDown, .slice A0_4 p0_f.fLooks.length c0_4] ag_24 rfl rfl rfl) ?_
      refine ox_y rfl (y_move_slice rfl) ?_
      obtain ⟨y6, hy7, h⟩ := bind_some h
      refine ox_y rfl (y_call [.agg #[.int .i64 p0_f.fRise, .int .i64 p0_f.fFall, .int .i64 p0_f.fUp, .int .i64 p0_f.fDown, .slice A0_4 p0_f.fLooks.length c0_4], .slice A1_0 p1_l.length c1_0] go_56 rfl (fun W2 hW2 => fire_spots_ok p0_f p1_l y6 hy7 W2 A0_4 p0_f.fLooks.length c0_4 rfl ((RdL.arg hr0_4) W2 hW2) A1_0 p1_l.length c1_0 rfl ((RdL.arg hr1_0) W2 hW2)) rfl) ?_
      refine ox_y rfl (y_assign_int rfl) ?_
      refine ox_nil ?_
      refine ex_then ?_
      refine cx_ret ?_
      obtain rfl := Option.some.inj h
      exact ex_res1 (.inl rfl) rfl (resV_tmp (v := .int .i64 y6) rfl) (fun W2 hW2 => ⟨rfl, hW2.none⟩)

end Go.Proofs.Ytndajeiecdmhnaa
