/- The calls hand back what the plain functions say. -/
import Derived.Test.YtndajeiecdmhnaaF
import Derived.Test.YtndajeiecdmhnaaGy
import Derived.Test.YtndajeiecdmhnaaGz
import Derived.Test.YtndajeiecdmhnaaC0
import Derived.Test.YtndajeiecdmhnaaC1
import Derived.Test.YtndajeiecdmhnaaC2
set_option linter.unusedVariables false
set_option maxHeartbeats 4000000
namespace Go.Proofs.Ytndajeiecdmhnaa
open Go.RowKit (Below)
attribute [local irreducible] OX QX CX EX OpY Calls CallsIn

/-! calx/fire.Clash -/
set_option maxRecDepth 100000 in
theorem fire_Clash_ok (p0_f : TFire) (res : (Int × Int × Bool × Int)) (h : fire_Clash p0_f = some res) (W : World) (A0_4 : Option Addr) (n0_4 c0_4 : Nat) (hn0_4 : n0_4 = p0_f.fLooks.length) (hr0_4 : Rd W A0_4 n0_4 c0_4 (encL TLook_cells p0_f.fLooks)) :
    Calls Try.prog 15 [.agg #[.int .i64 p0_f.fRise, .int .i64 p0_f.fFall, .int .i64 p0_f.fUp, .int .i64 p0_f.fDown, .slice A0_4 n0_4 c0_4]].toArray W fun e W2 => e = .returned (.tuple #[.int .i64 res.1, .int .i64 res.2.1, .bool res.2.2.1, .int .i64 res.2.2.2]) ∧ Ext W W2 [] := by
  subst hn0_4
  unfold fire_Clash at h
  refine calls_enter (m := 26) Try.func15 rfl rfl (Nat.le_of_ble_eq_true rfl) ?_
  refine cx_seq ?_
  refine cx_region ?_
  refine ox_box [.int .i64 p0_f.fRise, .int .i64 p0_f.fFall, .int .i64 p0_f.fUp, .int .i64 p0_f.fDown, .slice A0_4 p0_f.fLooks.length c0_4] rfl rfl rfl (fun b1 => ?_)
  refine ox_y rfl (y_assign_int rfl) ?_
  refine ox_y rfl (y_assign_int rfl) ?_
  refine ox_y rfl (y_assign_bool rfl) ?_
  refine ox_y rfl (y_assign_int rfl) ?_
  refine ox_nil ?_
  refine ex_then ?_
  refine cx_seq ?_
  refine cx_seq ?_
  refine cx_region ?_
  refine ox_y rfl (y_loadN 0 [.int .i64 p0_f.fRise, .int .i64 p0_f.fFall, .int .i64 p0_f.fUp, .int .i64 p0_f.fDown, .slice A0_4 p0_f.fLooks.length c0_4] ag_24 rfl rfl rfl) ?_
  obtain ⟨y2, hy3, h⟩ := bind_some h
  refine ox_y rfl (y_call [.agg #[.int .i64 p0_f.fRise, .int .i64 p0_f.fFall, .int .i64 p0_f.fUp, .int .i64 p0_f.fDown, .slice A0_4 p0_f.fLooks.length c0_4]] go_12 rfl (fun W2 hW2 => fire_Check_ok p0_f y2 hy3 W2 A0_4 p0_f.fLooks.length c0_4 rfl ((RdL.arg hr0_4) W2 hW2)) rfl) ?_
  refine ox_y rfl (y_assign_int rfl) ?_
  refine ox_nil ?_
  refine ex_then ?_
  refine cx_seq ?_
  refine cx_region ?_
  refine ox_y rfl (y_move_int rfl) ?_
  refine ox_y rfl (y_neq rfl rfl) ?_
  refine ox_nil ?_
  refine ex_then ?_
  rcases ite_some h with ⟨hp4, h⟩ | ⟨hp4, h⟩
  · refine cx_true (congrArg Value.bool hp4) ?_
    refine cx_seq ?_
    refine cx_region ?_
    refine ox_y rfl (y_move_int rfl) ?_
    refine ox_y rfl (y_assign_int rfl) ?_
    refine ox_y rfl (y_assign_int rfl) ?_
    refine ox_y rfl (y_assign_bool rfl) ?_
    refine ox_y rfl (y_assign_int rfl) ?_
    refine ox_nil ?_
    refine ex_then ?_
    refine cx_ret ?_
    refine ex_then_ret ?_
    obtain rfl := Option.some.inj h
    exact ex_res4 (.inl rfl) rfl (resV_tmp (v := .int .i64 0) rfl) (resV_tmp (v := .int .i64 0) rfl) (resV_tmp (v := .bool false) rfl) (resV_tmp (v := .int .i64 y2) rfl) (fun W2 hW2 => ⟨rfl, hW2.none⟩)
  · refine cx_false (congrArg Value.bool hp4) ?_
    refine cx_skip ?_
    refine ex_then ?_
    refine cx_seq ?_
    refine cx_region ?_
    refine ox_y rfl (y_loadN 0 [.int .i64 p0_f.fRise, .int .i64 p0_f.fFall, .int .i64 p0_f.fUp, .int .i64 p0_f.fDown, .slice A0_4 p0_f.fLooks.length c0_4] ag_24 rfl rfl rfl) ?_
    obtain ⟨y5, hy6, h⟩ := bind_some h
    refine ox_y rfl (y_call [.agg #[.int .i64 p0_f.fRise, .int .i64 p0_f.fFall, .int .i64 p0_f.fUp, .int .i64 p0_f.fDown, .slice A0_4 p0_f.fLooks.length c0_4]] go_58 rfl (fun W2 hW2 => fire_clash_ok p0_f y5 hy6 W2 A0_4 p0_f.fLooks.length c0_4 rfl ((RdL.arg hr0_4) W2 hW2)) rfl) ?_
    refine ox_y rfl (y_move_tuple rfl) ?_
    refine ox_y rfl (y_extract (vs := [.agg #[.int .i64 y5.1.fID, .int .i64 y5.1.fAt.fFoot, .int .i64 y5.1.fAt.fHour, .int .i64 y5.1.fHeat.fLo, .int .i64 y5.1.fHeat.fHi], .agg #[.int .i64 y5.2.1.fID, .int .i64 y5.2.1.fAt.fFoot, .int .i64 y5.2.1.fAt.fHour, .int .i64 y5.2.1.fHeat.fLo, .int .i64 y5.2.1.fHeat.fHi], .bool y5.2.2]) (v := .agg #[.int .i64 y5.1.fID, .int .i64 y5.1.fAt.fFoot, .int .i64 y5.1.fAt.fHour, .int .i64 y5.1.fHeat.fLo, .int .i64 y5.1.fHeat.fHi]) rfl rfl) ?_
    refine ox_y rfl (y_extract (vs := [.agg #[.int .i64 y5.1.fID, .int .i64 y5.1.fAt.fFoot, .int .i64 y5.1.fAt.fHour, .int .i64 y5.1.fHeat.fLo, .int .i64 y5.1.fHeat.fHi], .agg #[.int .i64 y5.2.1.fID, .int .i64 y5.2.1.fAt.fFoot, .int .i64 y5.2.1.fAt.fHour, .int .i64 y5.2.1.fHeat.fLo, .int .i64 y5.2.1.fHeat.fHi], .bool y5.2.2]) (v := .agg #[.int .i64 y5.2.1.fID, .int .i64 y5.2.1.fAt.fFoot, .int .i64 y5.2.1.fAt.fHour, .int .i64 y5.2.1.fHeat.fLo, .int .i64 y5.2.1.fHeat.fHi]) rfl rfl) ?_
    refine ox_y rfl (y_extract (vs := [.agg #[.int .i64 y5.1.fID, .int .i64 y5.1.fAt.fFoot, .int .i64 y5.1.fAt.fHour, .int .i64 y5.1.fHeat.fLo, .int .i64 y5.1.fHeat.fHi], .agg #[.int .i64 y5.2.1.fID, .int .i64 y5.2.1.fAt.fFoot, .int .i64 y5.2.1.fAt.fHour, .int .i64 y5.2.1.fHeat.fLo, .int .i64 y5.2.1.fHeat.fHi], .bool y5.2.2]) (v := .bool y5.2.2) rfl rfl) ?_
    refine ox_alloc ze_34 rfl (fun b7 => ?_)
    refine ox_alloc ze_34 rfl (fun b8 => ?_)
    refine ox_n rfl (y_storeN 1 [.int .i64 y5.1.fID, .int .i64 y5.1.fAt.fFoot, .int .i64 y5.1.fAt.fHour, .int .i64 y5.1.fHeat.fLo, .int .i64 y5.1.fHeat.fHi] sz_34 rfl (Nat.le_of_ble_eq_true rfl) rfl rfl rfl) ?_
    refine ox_n rfl (y_storeN 2 [.int .i64 y5.2.1.fID, .int .i64 y5.2.1.fAt.fFoot, .int .i64 y5.2.1.fAt.fHour, .int .i64 y5.2.1.fHeat.fLo, .int .i64 y5.2.1.fHeat.fHi] sz_34 rfl (Nat.le_of_ble_eq_true rfl) rfl rfl rfl) ?_
    refine ox_y rfl (y_assign_bool rfl) ?_
    refine ox_nil ?_
    refine ex_then ?_
    refine cx_seq ?_
    refine cx_draws 9 mixed (by kernel_rfl) (by kernel_rfl) ?_
    refine qx_y rfl (y_fieldAddr fo_34_0 rfl) ?_
    refine qx_y rfl (y_load1 1 (v := .int .i64 y5.1.fID) sc_3 rfl rfl rfl) ?_
    refine qx_y rfl (y_fieldAddr fo_34_0 rfl) ?_
    refine qx_y rfl (y_load1 2 (v := .int .i64 y5.2.1.fID) sc_3 rfl rfl rfl) ?_
    refine qx_y rfl (y_move_bool rfl) ?_
    refine qx_y rfl (y_assign_int rfl) ?_
    refine qx_y rfl (y_assign_int rfl) ?_
    refine qx_y rfl (y_assign_bool rfl) ?_
    refine qx_y rfl (y_assign_int rfl) ?_
    refine qx_nil ?_
    refine ox_nil ?_
    refine ex_then ?_
    refine cx_ret ?_
    obtain rfl := Option.some.inj h
    exact ex_res4 (.inl rfl) rfl (resV_tmp (v := .int .i64 y5.1.fID) rfl) (resV_tmp (v := .int .i64 y5.2.1.fID) rfl) (resV_tmp (v := .bool y5.2.2) rfl) (resV_tmp (v := .int .i64 0) rfl) (fun W2 hW2 => ⟨rfl, hW2.none⟩)

/-! calx/fire.named -/
set_option maxRecDepth 100000 in
theorem fire_named_ok (p0_f : TFire) (p1_is : Int → Option Bool) (res : (List Int)) (h : fire_named p0_f p1_is = some res) (W : World) (A0_4 : Option Addr) (n0_4 c0_4 : Nat) (hn0_4 : n0_4 = p0_f.fLooks.length) (hr0_4 : Rd W A0_4 n0_4 c0_4 (encL TLook_cells p0_f.fLooks)) (fid1 : Nat) (caps1 : List Value) (hgo1 : goes Try.prog fid1 = true) (hof1 : ∀ W2, Below W.heap.size W W2 → ∀ x y, p1_is x = some y → Calls Try.prog fid1 (([.int .i64 x] : List Value) ++ caps1).toArray W2 fun e W3 => e = .returned (.bool y) ∧ Ext W2 W3 []) :
    Calls Try.prog 60 [.agg #[.int .i64 p0_f.fRise, .int .i64 p0_f.fFall, .int .i64 p0_f.fUp, .int .i64 p0_f.fDown, .slice A0_4 n0_4 c0_4], .func (.func fid1) #[] caps1.toArray].toArray W fun e W2 => ∃ x : Option Addr × Nat × Nat, x.2.1 = res.length ∧ e = .returned (.slice x.1 x.2.1 x.2.2) ∧ Ext W W2 [rowR x.1 x.2.2 3 1 x.2.1 (encL cI res)] := by
  subst hn0_4
  unfold fire_named at h
  refine calls_enterM (m := 20) Try.func60 rfl rfl (Nat.le_of_ble_eq_true rfl) ?_
  refine cx_seq ?_
  refine cx_region ?_
  refine ox_box [.int .i64 p0_f.fRise, .int .i64 p0_f.fFall, .int .i64 p0_f.fUp, .int .i64 p0_f.fDown, .slice A0_4 p0_f.fLooks.length c0_4] rfl rfl rfl (fun b1 => ?_)
  refine ox_box [.func (.func fid1) #[] caps1.toArray] rfl rfl rfl (fun b2 => ?_)
  refine ox_y rfl (y_assign_slice rfl) ?_
  refine ox_nil ?_
  refine ex_then ?_
  refine cx_seq ?_
  refine cx_region ?_
  refine ox_alloc ze_41 rfl (fun b3 => ?_)
  refine ox_nil ?_
  refine ex_then ?_
  refine cx_seq ?_
  refine cx_seq ?_
  refine cx_region ?_
  refine ox_y rfl (y_loadN 0 [.int .i64 p0_f.fRise, .int .i64 p0_f.fFall, .int .i64 p0_f.fUp, .int .i64 p0_f.fDown, .slice A0_4 p0_f.fLooks.length c0_4] ag_24 rfl rfl rfl) ?_
  obtain ⟨y4, hy5, h⟩ := bind_some h
  refine ox_call [.agg #[.int .i64 p0_f.fRise, .int .i64 p0_f.fFall, .int .i64 p0_f.fUp, .int .i64 p0_f.fDown, .slice A0_4 p0_f.fLooks.length c0_4]] _ _ _ rfl go_100 rfl (fun W2 hW2 => fire_sorted_ok p0_f y4 hy5 W2 A0_4 p0_f.fLooks.length c0_4 rfl ((RdL.arg hr0_4) W2 hW2)) ?_
  rintro ⟨b6, A7, n9, c8⟩ hn10
  replace hn10 : n9 = y4.length := hn10; subst hn10
  refine ox_nil ?_
  refine ex_then ?_
  refine cx_block ?_
  refine cx_nilrow 3 1 ?_
  obtain ⟨hok31, h⟩ := guardO_some h
  obtain ⟨u21, hl30, h⟩ := bind_some h
  refine cx_rangeH (enc := fun x : TLook => .agg #[.int .i64 x.fID, .int .i64 x.fAt.fFoot, .int .i64 x.fAt.fHour, .int .i64 x.fHeat.fLo, .int .i64 x.fHeat.fHi])  (caps := [.pointer (some ⟨b6, 0, none⟩)]) (fun (s : (List Int)) L => ∃ (A5_s : Option Addr) (c5_s : Nat) (n5_s : Nat), n5_s = s.length ∧ L = [cellsR b1 24 [.int .i64 p0_f.fRise, .int .i64 p0_f.fFall, .int .i64 p0_f.fUp, .int .i64 p0_f.fDown, .slice A0_4 p0_f.fLooks.length c0_4], cellsR b2 110 [.func (.func fid1) #[] caps1.toArray], cellsR b3 41 [.slice A5_s n5_s c5_s], cellsR b6 22 [.slice A7 y4.length c8], rowR A7 c8 34 5 y4.length (encL TLook_cells y4), rowR A5_s c5_s 3 1 n5_s (encL cI s)]) (fun (_ : Unit) _ _ => False) hl30 rfl go_116 (slices_Values_calx_api_Look_calx_api_Look_1_seq y4 hok31 b6 A7 y4.length c8 rfl) (fun W2 s L hI hW2 => by obtain ⟨A5_s, c5_s, n5_s, rfl, rfl⟩ := hI; exact ⟨hW2.mem (i := 3) rfl, (RdL.row 4 rfl) W2 hW2⟩) ⟨none, 0, 0, rfl, rfl⟩ (fun W2 hW2 s L hI => by obtain ⟨A5_s, c5_s, n5_s, rfl, rfl⟩ := hI; exact (.cons Cy.cells (.cons Cy.cells (.cons Cy.cells (.cons Cy.cells (.cons Cy.row (.cons Cy.row CyL.nil))))))) (fun _ _ _ _ _ h => h.elim) (fun _ _ _ h => h.elim) ?_ ?_ ?_
  · rintro D11 l12 rec13 s19 x20 L st hrec14 ⟨A5_s19, c5_s19, n5_s19, rfl, rfl⟩ h
    unfold fire_named_r1 at h
    refine cx_region ?_
    try dsimp only [List.nil_append, List.cons_append, List.set_cons_zero, List.set_cons_succ]
    refine ox_alloc ze_34 rfl (fun b22 => ?_)
    try dsimp only [List.nil_append, List.cons_append, List.set_cons_zero, List.set_cons_succ]
    refine ox_n rfl (y_storeN 8 [.int .i64 x20.fID, .int .i64 x20.fAt.fFoot, .int .i64 x20.fAt.fHour, .int .i64 x20.fHeat.fLo, .int .i64 x20.fHeat.fHi] sz_34 rfl (Nat.le_of_ble_eq_true rfl) rfl rfl rfl) ?_
    refine ox_nil ?_
    refine ex_begin 7 rfl hrec14 ?_
    refine cx_block ?_
    refine cx_seq ?_
    refine cx_region ?_
    refine ox_y rfl (y_load1 1 (v := .func (.func fid1) #[] caps1.toArray) sc_110 rfl rfl rfl) ?_
    refine ox_y rfl (y_fieldAddr fo_34_0 rfl) ?_
    refine ox_y rfl (y_load1 8 (v := .int .i64 x20.fID) sc_3 rfl rfl rfl) ?_
    obtain ⟨y23, hy24, h⟩ := bind_some h
    refine ox_y rfl (y_callv [.int .i64 x20.fID] hgo1 rfl rfl (fun W2 hW2 => hof1 W2 hW2.below x20.fID y23 hy24)) ?_
    refine ox_nil ?_
    refine ex_then ?_
    rcases ite_some h with ⟨hp25, h⟩ | ⟨hp25, h⟩
    · refine cx_true (congrArg Value.bool hp25) ?_
      refine cx_region ?_
      refine ox_y rfl (y_load1 2 (v := .slice A5_s19 s19.length c5_s19) sc_41 rfl rfl rfl) ?_
      refine ox_y rfl (y_fieldAddr fo_34_0 rfl) ?_
      refine ox_y rfl (y_load1 8 (v := .int .i64 x20.fID) sc_3 rfl rfl rfl) ?_
      refine ox_buildSliceE 1 (encL cI [x20.fID]) _ mc_3_1 us_41 ze_3 by_3 (by decide) (by decide) (by kernel_rfl) (encL_len cI_len rfl) rfl (fun b26 => ?_)
      try dsimp only [List.nil_append, List.cons_append, List.set_cons_zero, List.set_cons_succ]
      obtain ⟨hg29, h⟩ := guardO_some h
      refine ox_append0 5 us_41 ze_3 by_3 rfl rfl rfl (RdL.row 9 rfl) (encL_len cI_len rfl) (encL_one cI_one _) (app_room hg29 (by decide)) rfl (fun A27 c28 => ?_)
      refine ox_n rfl (y_store1 2 (v := .slice A27 (s19.length + 1) c28) sz_41 rfl (Nat.lt_of_lt_of_le (Nat.lt_succ_self _) (Nat.le_of_ble_eq_true rfl)) rfl rfl rfl) ?_
      refine ox_nil ?_
      refine ex_block ?_
      refine ex_take 8 ?_
      obtain rfl := Option.some.inj h
      exact ex_rnext [cellsR b1 24 [.int .i64 p0_f.fRise, .int .i64 p0_f.fFall, .int .i64 p0_f.fUp, .int .i64 p0_f.fDown, .slice A0_4 p0_f.fLooks.length c0_4], cellsR b2 110 [.func (.func fid1) #[] caps1.toArray], cellsR b3 41 [.slice A27 (s19.length + 1) c28], cellsR b6 22 [.slice A7 y4.length c8], rowR A7 c8 34 5 y4.length (encL TLook_cells y4), rowR A27 c28 3 1 (s19.length + 1) (encL cI (s19 ++ [x20.fID]))] ⟨A27, c28, (s19.length + 1), (hn_app rfl rfl), rfl⟩
    · refine cx_false (congrArg Value.bool hp25) ?_
      refine cx_skip ?_
      refine ex_block ?_
      refine ex_take 8 ?_
      obtain rfl := Option.some.inj h
      exact ex_rnext [cellsR b1 24 [.int .i64 p0_f.fRise, .int .i64 p0_f.fFall, .int .i64 p0_f.fUp, .int .i64 p0_f.fDown, .slice A0_4 p0_f.fLooks.length c0_4], cellsR b2 110 [.func (.func fid1) #[] caps1.toArray], cellsR b3 41 [.slice A5_s19 s19.length c5_s19], cellsR b6 22 [.slice A7 y4.length c8], rowR A7 c8 34 5 y4.length (encL TLook_cells y4), rowR A5_s19 c5_s19 3 1 s19.length (encL cI s19)] ⟨A5_s19, c5_s19, s19.length, rfl, rfl⟩
  · rintro D11 u32 L hst ⟨A5_u32, c5_u32, n5_u32, rfl, rfl⟩
    subst hst
    dsimp only at h
    refine ex_block ?_
    refine ex_then ?_
    refine cx_seq ?_
    refine cx_region ?_
    try dsimp only [List.nil_append, List.cons_append, List.set_cons_zero, List.set_cons_succ]
    refine ox_y rfl (y_load1 2 (v := .slice A5_u32 u32.length c5_u32) sc_41 rfl rfl rfl) ?_
    refine ox_y rfl (y_assign_slice rfl) ?_
    refine ox_nil ?_
    refine ex_then ?_
    refine cx_ret ?_
    refine ex_M1 6 rfl (.inl rfl) ?_
    obtain rfl := Option.some.inj h
    exact ex_res1 (.inl rfl) rfl (resV_tmp (v := .slice A5_u32 u32.length c5_u32) rfl) (fun W2 hW2 => ⟨(A5_u32, u32.length, c5_u32), rfl, rfl, (hW2.pick 5 rfl)⟩)
  · intro D11 t e L _ hh
    exact hh.elim

/-! slices.DeleteFunc[[]calx/api.Look,calx/api.Look] -/
set_option maxRecDepth 100000 in
theorem slices_DeleteFunc_calx_api_Look_calx_api_Look_ok (p0_s : (List TLook)) (p1_del : TLook → Option Bool) (res : (List TLook)) (h : slices_DeleteFunc_calx_api_Look_calx_api_Look p0_s p1_del = some res) (W : World) (w0 : World) (R : Res) (A0_0 : Option Addr) (n0_0 c0_0 : Nat) (hn0_0 : n0_0 = p0_s.length) (fid1 : Nat) (caps1 : List Value) (hgo1 : goes Try.prog fid1 = true) (hof1 : ∀ W2, Below w0.heap.size w0 W2 → R.holds W2 → ∀ x y, p1_del x = some y → Calls Try.prog fid1 (([.agg #[.int .i64 x.fID, .int .i64 x.fAt.fFoot, .int .i64 x.fAt.fHour, .int .i64 x.fHeat.fLo, .int .i64 x.fHeat.fHi]] : List Value) ++ caps1).toArray W2 fun e W3 => e = .returned (.bool y) ∧ Ext W2 W3 []) (hW : Ext w0 W [R, rowR A0_0 c0_0 34 5 n0_0 (encL TLook_cells p0_s)]) :
    Calls Try.prog 103 [.slice A0_0 n0_0 c0_0, .func (.func fid1) #[] caps1.toArray].toArray W fun e W2 => ∃ k : Nat, k = res.length ∧ e = .returned (.slice A0_0 k c0_0) ∧ Ext w0 W2 [R, rowR A0_0 c0_0 34 5 k (encL TLook_cells res)] := by
  subst hn0_0
  unfold slices_DeleteFunc_calx_api_Look_calx_api_Look at h
  refine calls_enterB (m := 42) Try.func103 rfl rfl (Nat.le_of_ble_eq_true rfl) hW ?_
  refine cx_seq ?_
  refine cx_region ?_
  refine ox_y rfl (y_assign_slice rfl) ?_
  refine ox_nil ?_
  refine ex_then ?_
  refine cx_seq ?_
  refine cx_region ?_
  refine ox_y rfl (y_move_slice rfl) ?_
  refine ox_y rfl (y_move (v := .func (.func fid1) #[] caps1.toArray) rfl) ?_
  obtain ⟨y1, hy2, h⟩ := bind_some h
  refine ox_y rfl (y_call [.slice A0_0 p0_s.length c0_0, .func (.func fid1) #[] caps1.toArray] go_95 rfl (fun W2 hW2 => slices_IndexFunc_calx_api_Look_calx_api_Look_ok p0_s p1_del y1 hy2 W2 A0_0 p0_s.length c0_0 rfl ((RdL.row 1 rfl) W2 hW2) fid1 caps1 hgo1 (fun W3 hb => hof1 W3 (belowT hW2.below hb) ((hW2.below' hb).mem (i := 0) rfl))) rfl) ?_
  refine ox_y rfl (y_assign_int rfl) ?_
  refine ox_nil ?_
  refine ex_then ?_
  refine cx_seq ?_
  refine cx_seq ?_
  refine cx_region ?_
  refine ox_y rfl (y_move_int rfl) ?_
  refine ox_y rfl (y_eql rfl rfl) ?_
  refine ox_nil ?_
  refine ex_then ?_
  rcases ite_some h with ⟨hp3, h⟩ | ⟨hp3, h⟩
  · refine cx_true (congrArg Value.bool hp3) ?_
    refine cx_seq ?_
    refine cx_region ?_
    refine ox_y rfl (y_move_slice rfl) ?_
    refine ox_y rfl (y_assign_slice rfl) ?_
    refine ox_nil ?_
    refine ex_then ?_
    refine cx_ret ?_
    refine ex_then_ret ?_
    obtain rfl := Option.some.inj h
    exact ex_res1 (.inl rfl) rfl (resV_tmp (v := .slice A0_0 p0_s.length c0_0) rfl) (fun W2 hW2 => ⟨p0_s.length, rfl, rfl, hW2.take 2⟩)
  · refine cx_false (congrArg Value.bool hp3) ?_
    refine cx_skip ?_
    refine ex_then ?_
    refine cx_seq ?_
    refine cx_seq ?_
    refine cx_region ?_
    refine ox_y rfl (y_move_int rfl) ?_
    refine ox_y rfl (y_add rfl rfl) ?_
    refine ox_y rfl (y_assign_int rfl) ?_
    refine ox_nil ?_
    refine ex_then ?_
    refine cx_block ?_
    obtain ⟨u7, hl15, h⟩ := bind_some h
    refine cx_loop (fun (s : (Int × Int × (List TLook))) L tm => ∃ (tm0 : Nat → Value), p0_s.length = s.2.2.length ∧ L = [R, rowR A0_0 c0_0 34 5 p0_s.length (encL TLook_cells s.2.2)] ∧ tm = (upd (upd (upd (upd (upd (upd tm0 0 (.slice A0_0 p0_s.length c0_0)) 1 (.func (.func fid1) #[] caps1.toArray)) 4 (.slice none 0 0)) 5 (.int .i64 s.1)) 12 (.bool (y1 == (-1)))) 6 (.int .i64 s.2.1))) (fun s e L tm => e = .exit 0 ∧ ∃ (tm0 : Nat → Value), p0_s.length = s.2.2.length ∧ L = [R, rowR A0_0 c0_0 34 5 p0_s.length (encL TLook_cells s.2.2)] ∧ tm = (upd (upd (upd (upd (upd (upd tm0 0 (.slice A0_0 p0_s.length c0_0)) 1 (.func (.func fid1) #[] caps1.toArray)) 4 (.slice none 0 0)) 5 (.int .i64 s.1)) 12 (.bool (y1 == (-1)))) 6 (.int .i64 s.2.1))) hl15 ⟨_, rfl, rfl, (keep (keep (keep (keep (keep (keep rfl rfl) rfl) rfl) rfl) rfl) rfl)⟩ ?_ ?_
    · rintro s6 L tm st ⟨tm0_s6, hn1_s6, rfl, rfl⟩ h
      unfold slices_DeleteFunc_calx_api_Look_calx_api_Look_l1 at h
      refine cx_seq ?_
      refine cx_seq ?_
      refine cx_region ?_
      refine ox_y rfl (y_move_int rfl) ?_
      refine ox_y rfl (y_move_slice rfl) ?_
      refine ox_y rfl (y_len (us := []) us_22 rfl) ?_
      refine ox_y rfl (y_lss rfl rfl) ?_
      refine ox_nil ?_
      refine ex_then ?_
      rcases ite_some h with ⟨hp8, h⟩ | ⟨hp8, h⟩
      · refine cx_true (congrArg Value.bool hp8) ?_
        refine cx_skip ?_
        refine ex_then ?_
        refine cx_seq ?_
        refine cx_block ?_
        refine cx_seq ?_
        refine cx_region ?_
        refine ox_y rfl (y_move_slice rfl) ?_
        refine ox_y rfl (y_move_int rfl) ?_
        obtain ⟨hg9, h⟩ := guardO_some h
        refine ox_y rfl (y_indexR sl_22 (by decide) hg9.1 hg9.2 (RdL.row 1 rfl) (encL_len TLook_cells_len hn1_s6) rfl rfl) ?_
        refine ox_y rfl (y_loadRN (A := A0_0) (j := (Int.toNat s6.2.1 * 5)) [.int .i64 ((rdL s6.2.2 s6.2.1).fID), .int .i64 ((rdL s6.2.2 s6.2.1).fAt.fFoot), .int .i64 ((rdL s6.2.2 s6.2.1).fAt.fHour), .int .i64 ((rdL s6.2.2 s6.2.1).fHeat.fLo), .int .i64 ((rdL s6.2.2 s6.2.1).fHeat.fHi)] ag_34 (Nat.succ_pos _) (RdL.row 1 rfl) rfl (encL_gets TLook_cells_len hg9.1 (lt_nat hg9.2 hn1_s6))) ?_
        refine ox_alloc ze_34 rfl (fun b10 => ?_)
        refine ox_n rfl (y_storeN 2 [.int .i64 ((rdL s6.2.2 s6.2.1).fID), .int .i64 ((rdL s6.2.2 s6.2.1).fAt.fFoot), .int .i64 ((rdL s6.2.2 s6.2.1).fAt.fHour), .int .i64 ((rdL s6.2.2 s6.2.1).fHeat.fLo), .int .i64 ((rdL s6.2.2 s6.2.1).fHeat.fHi)] sz_34 rfl (Nat.le_of_ble_eq_true rfl) rfl rfl rfl) ?_
        refine ox_nil ?_
        refine ex_then ?_
        refine cx_seq ?_
        refine cx_region ?_
        refine ox_y rfl (y_move (v := .func (.func fid1) #[] caps1.toArray) rfl) ?_
        refine ox_y rfl (y_loadN 2 [.int .i64 ((rdL s6.2.2 s6.2.1).fID), .int .i64 ((rdL s6.2.2 s6.2.1).fAt.fFoot), .int .i64 ((rdL s6.2.2 s6.2.1).fAt.fHour), .int .i64 ((rdL s6.2.2 s6.2.1).fHeat.fLo), .int .i64 ((rdL s6.2.2 s6.2.1).fHeat.fHi)] ag_34 rfl rfl rfl) ?_
        obtain ⟨y11, hy12, h⟩ := bind_some h
        refine ox_y rfl (y_callv [.agg #[.int .i64 ((rdL s6.2.2 s6.2.1).fID), .int .i64 ((rdL s6.2.2 s6.2.1).fAt.fFoot), .int .i64 ((rdL s6.2.2 s6.2.1).fAt.fHour), .int .i64 ((rdL s6.2.2 s6.2.1).fHeat.fLo), .int .i64 ((rdL s6.2.2 s6.2.1).fHeat.fHi)]] hgo1 rfl rfl (fun W2 hW2 => hof1 W2 hW2.below (hW2.mem (i := 0) rfl) (TLook.mk ((rdL s6.2.2 s6.2.1).fID) (TSpot.mk ((rdL s6.2.2 s6.2.1).fAt.fFoot) ((rdL s6.2.2 s6.2.1).fAt.fHour)) (TSpan.mk ((rdL s6.2.2 s6.2.1).fHeat.fLo) ((rdL s6.2.2 s6.2.1).fHeat.fHi))) y11 hy12)) ?_
        refine ox_y rfl (y_not rfl) ?_
        refine ox_nil ?_
        refine ex_then ?_
        rcases ite_some h with ⟨hp13, h⟩ | ⟨hp13, h⟩
        · refine cx_true (congrArg Value.bool hp13) ?_
          refine cx_seq ?_
          refine cx_region ?_
          refine ox_y rfl (y_move_slice rfl) ?_
          refine ox_y rfl (y_move_int rfl) ?_
          refine ox_y rfl (y_loadN 2 [.int .i64 ((rdL s6.2.2 s6.2.1).fID), .int .i64 ((rdL s6.2.2 s6.2.1).fAt.fFoot), .int .i64 ((rdL s6.2.2 s6.2.1).fAt.fHour), .int .i64 ((rdL s6.2.2 s6.2.1).fHeat.fLo), .int .i64 ((rdL s6.2.2 s6.2.1).fHeat.fHi)] ag_34 rfl rfl rfl) ?_
          obtain ⟨hg14, h⟩ := guardO_some h
          refine ox_y rfl (y_indexR sl_22 (by decide) hg14.1 hg14.2 (RdL.row 1 rfl) (encL_len TLook_cells_len hn1_s6) rfl rfl) ?_
          refine ox_n rfl (y_storeRN 1 (xs := s6.2.2) [.int .i64 ((rdL s6.2.2 s6.2.1).fID), .int .i64 ((rdL s6.2.2 s6.2.1).fAt.fFoot), .int .i64 ((rdL s6.2.2 s6.2.1).fAt.fHour), .int .i64 ((rdL s6.2.2 s6.2.1).fHeat.fLo), .int .i64 ((rdL s6.2.2 s6.2.1).fHeat.fHi)] TLook_cells_len (Nat.succ_pos _) (TLook.mk ((rdL s6.2.2 s6.2.1).fID) (TSpot.mk ((rdL s6.2.2 s6.2.1).fAt.fFoot) ((rdL s6.2.2 s6.2.1).fAt.fHour)) (TSpan.mk ((rdL s6.2.2 s6.2.1).fHeat.fLo) ((rdL s6.2.2 s6.2.1).fHeat.fHi))) sz_34 rfl hg14.1 (lt_nat hg14.2 hn1_s6) rfl rfl rfl rfl) ?_
          refine ox_nil ?_
          refine ex_then ?_
          refine cx_region ?_
          refine ox_y rfl (y_move_int rfl) ?_
          refine ox_y rfl (y_add rfl rfl) ?_
          refine ox_y rfl (y_assign_int rfl) ?_
          refine ox_nil ?_
          refine ex_block ?_
          refine ex_then ?_
          refine cx_region ?_
          refine ox_y rfl (y_move_int rfl) ?_
          refine ox_y rfl (y_add rfl rfl) ?_
          refine ox_y rfl (y_assign_int rfl) ?_
          refine ox_nil ?_
          refine ex_take 2 ?_
          obtain rfl := Option.some.inj h
          exact ex_next ⟨_, (hn_set hn1_s6), rfl, (keep (keep (keep (keep (keep (keep rfl rfl) rfl) rfl) rfl) rfl) rfl)⟩
        · refine cx_false (congrArg Value.bool hp13) ?_
          refine cx_skip ?_
          refine ex_block ?_
          refine ex_then ?_
          refine cx_region ?_
          refine ox_y rfl (y_move_int rfl) ?_
          refine ox_y rfl (y_add rfl rfl) ?_
          refine ox_y rfl (y_assign_int rfl) ?_
          refine ox_nil ?_
          refine ex_take 2 ?_
          obtain rfl := Option.some.inj h
          exact ex_next ⟨_, hn1_s6, rfl, (keep (keep (keep (keep (keep (keep rfl rfl) rfl) rfl) rfl) rfl) rfl)⟩
      · refine cx_false (congrArg Value.bool hp8) ?_
        refine cx_exit ?_
        refine ex_then_exit ?_
        obtain rfl := Option.some.inj h
        exact ex_stop ⟨rfl, _, hn1_s6, rfl, (keep (keep (keep (keep (keep (keep rfl rfl) rfl) rfl) rfl) rfl) rfl)⟩
    · intro e L tm hJ
      obtain ⟨rfl, tm0_u7, hn1_u7, rfl, rfl⟩ := hJ
      refine ⟨(by intro hc; cases hc), ?_⟩
      refine ex_block_here ?_
      refine ex_then ?_
      refine cx_seq ?_
      refine cx_region ?_
      refine ox_y rfl (y_move_slice rfl) ?_
      refine ox_y rfl (y_move_int rfl) ?_
      obtain ⟨hg16, h⟩ := guardO_some h
      refine ox_y rfl (y_cutL sl_22 hg16.1 hg16.2 (RdL.row 1 rfl) rfl rfl) ?_
      obtain ⟨hg17, h⟩ := guardO_some h
      refine ox_n rfl (y_clearH 1 us_22 ze_34 rfl (by decide) rfl TLook_cells_len rfl hg17.1 hg17.2 rfl) ?_
      refine ox_nil ?_
      refine ex_then ?_
      refine cx_seq ?_
      refine cx_region ?_
      refine ox_y rfl (y_move_slice rfl) ?_
      refine ox_y rfl (y_move_int rfl) ?_
      refine ox_y rfl (y_cutHc sl_22 hg17.1 (fun W2 hW2 => (rowR_rd (hW2.mem (i := 1) rfl)).cap) rfl rfl) ?_
      refine ox_y rfl (y_assign_slice rfl) ?_
      refine ox_nil ?_
      refine ex_then ?_
      refine cx_ret ?_
      obtain rfl := Option.some.inj h
      exact ex_res1 (.inl rfl) rfl (resV_tmp (v := .slice A0_0 (Int.toNat u7.1) c0_0) rfl) (fun W2 hW2 => ⟨Int.toNat u7.1, (cutH_len hg17.2 hn1_u7), rfl, hW2.take 2⟩)

/-! slices.Clone[[]calx/api.Look,calx/api.Look] -/
set_option maxRecDepth 100000 in
theorem slices_Clone_calx_api_Look_calx_api_Look_ok (p0_s : (List TLook)) (res : (List TLook)) (h : slices_Clone_calx_api_Look_calx_api_Look p0_s = some res) (W : World) (A0_0 : Option Addr) (n0_0 c0_0 : Nat) (hn0_0 : n0_0 = p0_s.length) (hr0_0 : Rd W A0_0 n0_0 c0_0 (encL TLook_cells p0_s)) :
    Calls Try.prog 104 [.slice A0_0 n0_0 c0_0].toArray W fun e W2 => ∃ x : Option Addr × Nat × Nat, x.2.1 = res.length ∧ e = .returned (.slice x.1 x.2.1 x.2.2) ∧ Ext W W2 [rowR x.1 x.2.2 34 5 x.2.1 (encL TLook_cells res)] := by
  subst hn0_0
  unfold slices_Clone_calx_api_Look_calx_api_Look at h
  refine calls_enter (m := 8) Try.func104 rfl rfl (Nat.le_of_ble_eq_true rfl) ?_
  refine cx_seq ?_
  refine cx_region ?_
  refine ox_y rfl (y_assign_slice rfl) ?_
  refine ox_nil ?_
  refine ex_then ?_
  refine cx_seq ?_
  refine cx_seq ?_
  refine cx_region ?_
  refine ox_y rfl (y_move_slice rfl) ?_
  refine ox_y rfl (y_eqnil us_22 rfl rfl) ?_
  refine ox_nil ?_
  refine ex_then ?_
  rcases bool_cases (Option.isNone A0_0) with hp1 | hp1
  · refine cx_true (congrArg Value.bool hp1) ?_
    have z6 := rd_none (Option.isNone_iff_eq_none.1 hp1 ▸ hr0_0) TLook_cells_len (by decide)
    replace h := (guardO_some h).2
    rw [z6] at h
    refine cx_seq ?_
    refine cx_region ?_
    refine ox_y rfl (y_assign_slice rfl) ?_
    refine ox_nil ?_
    refine ex_then ?_
    refine cx_ret ?_
    refine ex_then_ret ?_
    obtain rfl := Option.some.inj h
    exact ex_res1 (.inl rfl) rfl (resV_tmp (v := .slice none 0 0) rfl) (fun W2 hW2 => ⟨(none, 0, 0), rfl, rfl, ((hW2.nilrow 34 5).pick 0 rfl)⟩)
  · refine cx_false (congrArg Value.bool hp1) ?_
    refine cx_skip ?_
    refine ex_then ?_
    refine cx_seq ?_
    refine cx_region ?_
    refine ox_buildSlice0 TLook_cells us_22 ze_34 by_34 rfl (fun b2 => ?_)
    refine ox_y rfl (y_move_slice rfl) ?_
    obtain ⟨hg5, h⟩ := guardO_some h
    refine ox_append0 0 us_22 ze_34 by_34 rfl rfl rfl (RdL.arg hr0_0) (encL_len TLook_cells_len rfl) (encL_one TLook_cells_one _) (app_room hg5 (by decide)) rfl (fun A3 c4 => ?_)
    refine ox_y rfl (y_assign_slice rfl) ?_
    refine ox_nil ?_
    refine ex_then ?_
    refine cx_ret ?_
    obtain rfl := Option.some.inj h
    exact ex_res1 (.inl rfl) rfl (resV_tmp (v := .slice A3 (0 + p0_s.length) c4) rfl) (fun W2 hW2 => ⟨(A3, (0 + p0_s.length), c4), (hn_app rfl rfl), rfl, (hW2.pick 0 rfl)⟩)

/-! calx/fire.without$1 -/
set_option maxRecDepth 100000 in
theorem fire_without_1_ok (p0_x : TLook) (cap0 : (List (Int × Bool))) (res : Bool) (h : fire_without_1 p0_x cap0 = some res) (W : World) (bc0 : Nat) (bm100_0 : Nat) (hm100_0 : (mapV Try.prog 3 kI rngB kB false bm100_0 cap0).holds W) (hcap0 : Rd W (some ⟨bc0, 0, none⟩) 1 1 [.map (some bm100_0)]) :
    Calls Try.prog 105 [.agg #[.int .i64 p0_x.fID, .int .i64 p0_x.fAt.fFoot, .int .i64 p0_x.fAt.fHour, .int .i64 p0_x.fHeat.fLo, .int .i64 p0_x.fHeat.fHi], .pointer (some ⟨bc0, 0, none⟩)].toArray W fun e W2 => e = .returned (.bool res) ∧ Ext W W2 [] := by
  unfold fire_without_1 at h
  refine calls_enter (m := 8) Try.func105 rfl rfl (Nat.le_of_ble_eq_true rfl) ?_
  refine cx_seq ?_
  refine cx_region ?_
  refine ox_box [.int .i64 p0_x.fID, .int .i64 p0_x.fAt.fFoot, .int .i64 p0_x.fAt.fHour, .int .i64 p0_x.fHeat.fLo, .int .i64 p0_x.fHeat.fHi] rfl rfl rfl (fun b1 => ?_)
  refine ox_y rfl (y_assign_bool rfl) ?_
  refine ox_nil ?_
  refine ex_then ?_
  refine cx_seq ?_
  refine cx_region ?_
  refine ox_y rfl (y_loadR1 (A := (some ⟨bc0, 0, none⟩)) (j := 0) (v := .map (some bm100_0)) sc_140 (RdL.arg hcap0) rfl rfl) ?_
  refine ox_y rfl (y_fieldAddr fo_34_0 rfl) ?_
  refine ox_y rfl (y_load1 0 (v := .int .i64 p0_x.fID) sc_3 rfl rfl rfl) ?_
  obtain ⟨hg2, h⟩ := guardO_some h
  refine ox_y rfl (y_lookupV (k := p0_x.fID) (MpL.arg hm100_0) ke_3 um_140 ze_4 rfl rfl hg2) ?_
  refine ox_y rfl (y_assign_bool rfl) ?_
  refine ox_nil ?_
  refine ex_then ?_
  refine cx_ret ?_
  obtain rfl := Option.some.inj h
  exact ex_res1 (.inl rfl) rfl (resV_tmp (v := .bool (mgetV false cap0 p0_x.fID)) rfl) (fun W2 hW2 => ⟨rfl, hW2.none⟩)

/-! calx/fire.without -/
set_option maxRecDepth 100000 in
theorem fire_without_ok (p0_f : TFire) (p1_ids : (List Int)) (res : TFire) (h : fire_without p0_f p1_ids = some res) (W : World) (A0_4 : Option Addr) (n0_4 c0_4 : Nat) (hn0_4 : n0_4 = p0_f.fLooks.length) (hr0_4 : Rd W A0_4 n0_4 c0_4 (encL TLook_cells p0_f.fLooks)) (A1_0 : Option Addr) (n1_0 c1_0 : Nat) (hn1_0 : n1_0 = p1_ids.length) (hr1_0 : Rd W A1_0 n1_0 c1_0 (encL cI p1_ids)) :
    Calls Try.prog 62 [.agg #[.int .i64 p0_f.fRise, .int .i64 p0_f.fFall, .int .i64 p0_f.fUp, .int .i64 p0_f.fDown, .slice A0_4 n0_4 c0_4], .slice A1_0 n1_0 c1_0].toArray W fun e W2 => ∃ x : Option Addr × Nat × Nat, x.2.1 = res.fLooks.length ∧ e = .returned (.agg #[.int .i64 res.fRise, .int .i64 res.fFall, .int .i64 res.fUp, .int .i64 res.fDown, .slice x.1 x.2.1 x.2.2]) ∧ Ext W W2 [rowR x.1 x.2.2 34 5 x.2.1 (encL TLook_cells res.fLooks)] := by
  subst hn0_4
  subst hn1_0
  unfold fire_without at h
  refine calls_enter (m := 25) Try.func62 rfl rfl (Nat.le_of_ble_eq_true rfl) ?_
  refine cx_seq ?_
  refine cx_region ?_
  refine ox_box [.int .i64 p0_f.fRise, .int .i64 p0_f.fFall, .int .i64 p0_f.fUp, .int .i64 p0_f.fDown, .slice A0_4 p0_f.fLooks.length c0_4] rfl rfl rfl (fun b1 => ?_)
  refine ox_alloc ze_24 rfl (fun b2 => ?_)
  refine ox_nil ?_
  refine ex_then ?_
  refine cx_seq ?_
  refine cx_region ?_
  refine ox_makeMapV 3 kI rngB kB false rfl (fun b3 => ?_)
  refine ox_alloc ze_140 rfl (fun b4 => ?_)
  refine ox_n rfl (y_store1 3 (v := .map (some b3)) sz_140 rfl (Nat.lt_of_lt_of_le (Nat.lt_succ_self _) (Nat.le_of_ble_eq_true rfl)) rfl rfl rfl) ?_
  refine ox_nil ?_
  refine ex_then ?_
  refine cx_seq ?_
  refine cx_seq ?_
  refine cx_region ?_
  refine ox_y rfl (y_move_slice rfl) ?_
  refine ox_y rfl (y_len (us := []) us_41 rfl) ?_
  refine ox_y rfl (y_move_int rfl) ?_
  refine ox_nil ?_
  refine ex_then ?_
  refine cx_block ?_
  obtain ⟨u8, hl12, h⟩ := bind_some h
  refine cx_loop (fun (s : (Int × (List (Int × Bool)))) L tm => ∃ (tm0 : Nat → Value), L = [cellsR b1 24 [.int .i64 p0_f.fRise, .int .i64 p0_f.fFall, .int .i64 p0_f.fUp, .int .i64 p0_f.fDown, .slice A0_4 p0_f.fLooks.length c0_4], cellsR b2 24 [.int .i64 0, .int .i64 0, .int .i64 0, .int .i64 0, .slice none 0 0], mapV Try.prog 3 kI rngB kB false b3 s.2, cellsR b4 140 [.map (some b3)]] ∧ tm = (upd (upd (upd (upd (upd (upd (upd (upd tm0 0 (.agg #[.int .i64 p0_f.fRise, .int .i64 p0_f.fFall, .int .i64 p0_f.fUp, .int .i64 p0_f.fDown, .slice A0_4 p0_f.fLooks.length c0_4])) 1 (.slice A1_0 p1_ids.length c1_0)) 2 (.pointer (some ⟨b1, 0, none⟩))) 4 (.pointer (some ⟨b2, 0, none⟩))) 5 (.pointer (some ⟨b4, 0, none⟩))) 9 (.slice A1_0 p1_ids.length c1_0)) 10 (.int .i64 ((p1_ids.length : Nat) : Int))) 11 (.int .i64 s.1))) (fun s e L tm => e = .exit 0 ∧ ∃ (tm0 : Nat → Value), L = [cellsR b1 24 [.int .i64 p0_f.fRise, .int .i64 p0_f.fFall, .int .i64 p0_f.fUp, .int .i64 p0_f.fDown, .slice A0_4 p0_f.fLooks.length c0_4], cellsR b2 24 [.int .i64 0, .int .i64 0, .int .i64 0, .int .i64 0, .slice none 0 0], mapV Try.prog 3 kI rngB kB false b3 s.2, cellsR b4 140 [.map (some b3)]] ∧ tm = (upd (upd (upd (upd (upd (upd (upd (upd tm0 0 (.agg #[.int .i64 p0_f.fRise, .int .i64 p0_f.fFall, .int .i64 p0_f.fUp, .int .i64 p0_f.fDown, .slice A0_4 p0_f.fLooks.length c0_4])) 1 (.slice A1_0 p1_ids.length c1_0)) 2 (.pointer (some ⟨b1, 0, none⟩))) 4 (.pointer (some ⟨b2, 0, none⟩))) 5 (.pointer (some ⟨b4, 0, none⟩))) 9 (.slice A1_0 p1_ids.length c1_0)) 10 (.int .i64 ((p1_ids.length : Nat) : Int))) 11 (.int .i64 s.1))) hl12 ⟨_, rfl, (keep (keep (keep (keep (keep (keep (keep (keep rfl rfl) rfl) rfl) rfl) rfl) rfl) rfl) rfl)⟩ ?_ ?_
  · rintro s7 L tm st ⟨tm0_s7, rfl, rfl⟩ h
    unfold fire_without_l1 at h
    refine cx_seq ?_
    refine cx_region ?_
    refine ox_y rfl (y_lss rfl rfl) ?_
    refine ox_nil ?_
    refine ex_then ?_
    refine cx_seq ?_
    rcases ite_some h with ⟨hp9, h⟩ | ⟨hp9, h⟩
    · refine cx_true (congrArg Value.bool hp9) ?_
      refine cx_skip ?_
      refine ex_then ?_
      refine cx_seq ?_
      refine cx_block ?_
      refine cx_seq ?_
      refine cx_region ?_
      obtain ⟨hg10, h⟩ := guardO_some h
      refine ox_y rfl (y_indexR sl_41 (by decide) hg10.1 hg10.2 (RdL.arg hr1_0) (encL_len cI_len rfl) rfl rfl) ?_
      refine ox_y rfl (y_loadR1 (A := A1_0) (j := (Int.toNat s7.1 * 1)) (v := .int .i64 (rdL p1_ids s7.1)) sc_3 (RdL.arg hr1_0) rfl (encL_get0 cI_len hg10.1 (lt_nat hg10.2 rfl) rfl)) ?_
      refine ox_y rfl (y_assign_int rfl) ?_
      refine ox_nil ?_
      refine ex_then ?_
      refine cx_region ?_
      refine ox_y rfl (y_load1 3 (v := .map (some b3)) sc_140 rfl rfl rfl) ?_
      refine ox_y rfl (y_move_int rfl) ?_
      obtain ⟨hg11, h⟩ := guardO_some h
      refine ox_n rfl (y_updateV 2 (k := (rdL p1_ids s7.1)) (v := true) rfl ke_3 um_140 rfl rfl rfl hg11) ?_
      refine ox_nil ?_
      refine ex_block ?_
      refine ex_then ?_
      refine cx_region ?_
      refine ox_y rfl (y_add rfl rfl) ?_
      refine ox_y rfl (y_move_int rfl) ?_
      refine ox_nil ?_
      obtain rfl := Option.some.inj h
      exact ex_next ⟨_, rfl, (keep (keep (keep (keep (keep (keep (keep (keep rfl rfl) rfl) rfl) rfl) rfl) rfl) rfl) rfl)⟩
    · refine cx_false (congrArg Value.bool hp9) ?_
      refine cx_exit ?_
      refine ex_then_exit ?_
      obtain rfl := Option.some.inj h
      exact ex_stop ⟨rfl, _, rfl, (keep (keep (keep (keep (keep (keep (keep (keep rfl rfl) rfl) rfl) rfl) rfl) rfl) rfl) rfl)⟩
  · intro e L tm hJ
    obtain ⟨rfl, tm0_u8, rfl, rfl⟩ := hJ
    refine ⟨(by intro hc; cases hc), ?_⟩
    refine ex_block_here ?_
    refine ex_then ?_
    refine cx_seq ?_
    refine cx_region ?_
    refine ox_y rfl (y_fieldAddr fo_24_4 rfl) ?_
    refine ox_y rfl (y_load1 0 (v := .slice A0_4 p0_f.fLooks.length c0_4) sc_22 rfl rfl rfl) ?_
    obtain ⟨y13, hy14, h⟩ := bind_some h
    refine ox_call [.slice A0_4 p0_f.fLooks.length c0_4] _ _ _ rfl go_104 rfl (fun W2 hW2 => slices_Clone_calx_api_Look_calx_api_Look_ok p0_f.fLooks y13 hy14 W2 A0_4 p0_f.fLooks.length c0_4 rfl ((RdL.arg hr0_4) W2 hW2)) ?_
    rintro ⟨A15, n17, c16⟩ hn18
    replace hn18 : n17 = y13.length := hn18; subst hn18
    refine ox_y rfl (y_makeFunc [.pointer (some ⟨b4, 0, none⟩)] rfl rfl) ?_
    obtain ⟨y20, hy21, h⟩ := bind_some h
    refine ox_callT 4 [.slice A15 y13.length c16, .func (.func 105) #[] #[.pointer (some ⟨b4, 0, none⟩)]] (fun k : Nat => k = y20.length) (fun k => .slice A15 k c16) (fun k => rowR A15 c16 34 5 k (encL TLook_cells y20)) (fun _ => []) rfl rfl go_103 rfl (fun W2 hW2 => (slices_DeleteFunc_calx_api_Look_calx_api_Look_ok y13 (fun x19 => fire_without_1 x19 u8.2) y20 hy21 W2 _ (restR [cellsR b1 24 [.int .i64 p0_f.fRise, .int .i64 p0_f.fFall, .int .i64 p0_f.fUp, .int .i64 p0_f.fDown, .slice A0_4 p0_f.fLooks.length c0_4], cellsR b2 24 [.int .i64 0, .int .i64 0, .int .i64 0, .int .i64 0, .slice none 0 0], mapV Try.prog 3 kI rngB kB false b3 u8.2, cellsR b4 140 [.map (some b3)], rowR A15 c16 34 5 y13.length (encL TLook_cells y13)] [4]) A15 y13.length c16 rfl 105 [.pointer (some ⟨b4, 0, none⟩)] go_105 (fun W3 hb hR x y hxy => fire_without_1_ok x u8.2 y hxy W3 b4 b3 ((MpL.own 2 rfl) W3 (hW2.rest hb hR)) ((RdL.cells 3 rfl) W3 (hW2.rest hb hR))) hW2).mono (fun e W3 h3 => h3)) ?_
    rintro k22 hn23
    subst hn23
    try dsimp only [List.set_cons_zero, List.set_cons_succ, List.append_nil]
    refine ox_y rfl (y_fieldAddr fo_24_4 rfl) ?_
    refine ox_n rfl (y_store1 0 (v := .slice A15 y20.length c16) sz_22 rfl (Nat.lt_of_lt_of_le (Nat.lt_succ_self _) (Nat.le_of_ble_eq_true rfl)) rfl rfl rfl) ?_
    refine ox_nil ?_
    refine ex_then ?_
    refine cx_seq ?_
    refine cx_region ?_
    refine ox_y rfl (y_loadN 0 [.int .i64 p0_f.fRise, .int .i64 p0_f.fFall, .int .i64 p0_f.fUp, .int .i64 p0_f.fDown, .slice A15 y20.length c16] ag_24 rfl rfl rfl) ?_
    refine ox_n rfl (y_storeN 1 [.int .i64 p0_f.fRise, .int .i64 p0_f.fFall, .int .i64 p0_f.fUp, .int .i64 p0_f.fDown, .slice A15 y20.length c16] sz_24 rfl (Nat.le_of_ble_eq_true rfl) rfl rfl rfl) ?_
    refine ox_nil ?_
    refine ex_then ?_
    refine cx_ret ?_
    obtain rfl := Option.some.inj h
    exact ex_res1 (.inl rfl) rfl (resV_cellN 1 [.int .i64 p0_f.fRise, .int .i64 p0_f.fFall, .int .i64 p0_f.fUp, .int .i64 p0_f.fDown, .slice A15 y20.length c16] ag_24 rfl rfl rfl) (fun W2 hW2 => ⟨(A15, y20.length, c16), rfl, rfl, (hW2.pick 4 rfl)⟩)

/-! calx/fire.Suspects$1 -/
set_option maxRecDepth 100000 in
theorem fire_Suspects_1_ok (p0_id : Int) (cap0 : TFire) (res : Bool) (h : fire_Suspects_1 p0_id cap0 = some res) (W : World) (bc0 : Nat) (A100_4 : Option Addr) (n100_4 c100_4 : Nat) (hn100_4 : n100_4 = cap0.fLooks.length) (hr100_4 : Rd W A100_4 n100_4 c100_4 (encL TLook_cells cap0.fLooks)) (hcap0 : Rd W (some ⟨bc0, 0, none⟩) 1 1 [.int .i64 cap0.fRise, .int .i64 cap0.fFall, .int .i64 cap0.fUp, .int .i64 cap0.fDown, .slice A100_4 n100_4 c100_4]) :
    Calls Try.prog 61 [.int .i64 p0_id, .pointer (some ⟨bc0, 0, none⟩)].toArray W fun e W2 => e = .returned (.bool res) ∧ Ext W W2 [] := by
  subst hn100_4
  unfold fire_Suspects_1 at h
  refine calls_enter (m := 9) Try.func61 rfl rfl (Nat.le_of_ble_eq_true rfl) ?_
  refine cx_seq ?_
  refine cx_region ?_
  refine ox_y rfl (y_assign_bool rfl) ?_
  refine ox_nil ?_
  refine ex_then ?_
  refine cx_seq ?_
  refine cx_region ?_
  refine ox_y rfl (y_loadRN (A := (some ⟨bc0, 0, none⟩)) (j := 0) [.int .i64 cap0.fRise, .int .i64 cap0.fFall, .int .i64 cap0.fUp, .int .i64 cap0.fDown, .slice A100_4 cap0.fLooks.length c100_4] ag_24 (Nat.succ_pos _) (RdL.arg hcap0) rfl (gets_all rfl)) ?_
  refine ox_y rfl (y_move_int rfl) ?_
  refine ox_buildSliceE 1 (encL cI [p0_id]) _ mc_3_1 us_41 ze_3 by_3 (by decide) (by decide) (by kernel_rfl) (encL_len cI_len rfl) rfl (fun b1 => ?_)
  obtain ⟨y2, hy3, h⟩ := bind_some h
  refine ox_call [.agg #[.int .i64 cap0.fRise, .int .i64 cap0.fFall, .int .i64 cap0.fUp, .int .i64 cap0.fDown, .slice A100_4 cap0.fLooks.length c100_4], .slice (some ⟨b1, 0, none⟩) 1 1] _ _ _ rfl go_62 rfl (fun W2 hW2 => fire_without_ok cap0 [p0_id] y2 hy3 W2 A100_4 cap0.fLooks.length c100_4 rfl ((RdL.arg hr100_4) W2 hW2) (some ⟨b1, 0, none⟩) 1 1 rfl ((RdL.row 0 rfl) W2 hW2)) ?_
  rintro ⟨A4, n6, c5⟩ hn7
  replace hn7 : n6 = y2.fLooks.length := hn7; subst hn7
  obtain ⟨y8, hy9, h⟩ := bind_some h
  refine ox_y rfl (y_call [.agg #[.int .i64 y2.fRise, .int .i64 y2.fFall, .int .i64 y2.fUp, .int .i64 y2.fDown, .slice A4 y2.fLooks.length c5]] go_59 rfl (fun W2 hW2 => fire_agree_ok y2 y8 hy9 W2 A4 y2.fLooks.length c5 rfl ((RdL.row 1 rfl) W2 hW2)) rfl) ?_
  refine ox_y rfl (y_assign_bool rfl) ?_
  refine ox_nil ?_
  refine ex_then ?_
  refine cx_ret ?_
  obtain rfl := Option.some.inj h
  exact ex_res1 (.inl rfl) rfl (resV_tmp (v := .bool y8) rfl) (fun W2 hW2 => ⟨rfl, hW2.none⟩)

/-! calx/fire.Suspects -/
set_option maxRecDepth 100000 in
theorem fire_Suspects_ok (p0_f : TFire) (res : ((List Int) × Int)) (h : fire_Suspects p0_f = some res) (W : World) (A0_4 : Option Addr) (n0_4 c0_4 : Nat) (hn0_4 : n0_4 = p0_f.fLooks.length) (hr0_4 : Rd W A0_4 n0_4 c0_4 (encL TLook_cells p0_f.fLooks)) :
    Calls Try.prog 16 [.agg #[.int .i64 p0_f.fRise, .int .i64 p0_f.fFall, .int .i64 p0_f.fUp, .int .i64 p0_f.fDown, .slice A0_4 n0_4 c0_4]].toArray W fun e W2 => ∃ x : Option Addr × Nat × Nat, x.2.1 = res.1.length ∧ e = .returned (.tuple #[.slice x.1 x.2.1 x.2.2, .int .i64 res.2]) ∧ Ext W W2 [rowR x.1 x.2.2 3 1 x.2.1 (encL cI res.1)] := by
  subst hn0_4
  unfold fire_Suspects at h
  refine calls_enter (m := 17) Try.func16 rfl rfl (Nat.le_of_ble_eq_true rfl) ?_
  refine cx_seq ?_
  refine cx_region ?_
  refine ox_box [.int .i64 p0_f.fRise, .int .i64 p0_f.fFall, .int .i64 p0_f.fUp, .int .i64 p0_f.fDown, .slice A0_4 p0_f.fLooks.length c0_4] rfl rfl rfl (fun b1 => ?_)
  refine ox_y rfl (y_assign_slice rfl) ?_
  refine ox_y rfl (y_assign_int rfl) ?_
  refine ox_nil ?_
  refine ex_then ?_
  refine cx_seq ?_
  refine cx_seq ?_
  refine cx_region ?_
  refine ox_y rfl (y_loadN 0 [.int .i64 p0_f.fRise, .int .i64 p0_f.fFall, .int .i64 p0_f.fUp, .int .i64 p0_f.fDown, .slice A0_4 p0_f.fLooks.length c0_4] ag_24 rfl rfl rfl) ?_
  obtain ⟨y2, hy3, h⟩ := bind_some h
  refine ox_y rfl (y_call [.agg #[.int .i64 p0_f.fRise, .int .i64 p0_f.fFall, .int .i64 p0_f.fUp, .int .i64 p0_f.fDown, .slice A0_4 p0_f.fLooks.length c0_4]] go_12 rfl (fun W2 hW2 => fire_Check_ok p0_f y2 hy3 W2 A0_4 p0_f.fLooks.length c0_4 rfl ((RdL.arg hr0_4) W2 hW2)) rfl) ?_
  refine ox_y rfl (y_assign_int rfl) ?_
  refine ox_nil ?_
  refine ex_then ?_
  refine cx_seq ?_
  refine cx_region ?_
  refine ox_y rfl (y_move_int rfl) ?_
  refine ox_y rfl (y_neq rfl rfl) ?_
  refine ox_y rfl (y_move_bool rfl) ?_
  obtain ⟨b5, hb6, h⟩ := bind_some h
  refine ox_join 3 (fun tm0 => (upd (upd (upd (upd (upd tm0 1 (.pointer (some ⟨b1, 0, none⟩))) 2 (.slice none 0 0)) 3 (.int .i64 0)) 4 (.int .i64 y2)) 12 (.bool b5))) (fun tm0 => ?_) (fun key => ?_)
  · refine ox_nil ?_
    refine ex_then ?_
    rcases ite_some h with ⟨hp7, h⟩ | ⟨hp7, h⟩
    · refine cx_true (congrArg Value.bool hp7) ?_
      refine cx_seq ?_
      refine cx_region ?_
      refine ox_y rfl (y_move_int rfl) ?_
      refine ox_y rfl (y_assign_slice rfl) ?_
      refine ox_y rfl (y_assign_int rfl) ?_
      refine ox_nil ?_
      refine ex_then ?_
      refine cx_ret ?_
      refine ex_then_ret ?_
      obtain rfl := Option.some.inj h
      exact ex_res2 (.inl rfl) rfl (resV_tmp (v := .slice none 0 0) rfl) (resV_tmp (v := .int .i64 y2) rfl) (fun W2 hW2 => ⟨(none, 0, 0), rfl, rfl, ((hW2.nilrow 3 1).pick 1 rfl)⟩)
    · refine cx_false (congrArg Value.bool hp7) ?_
      refine cx_skip ?_
      refine ex_then ?_
      refine cx_seq ?_
      refine cx_region ?_
      refine ox_y rfl (y_loadN 0 [.int .i64 p0_f.fRise, .int .i64 p0_f.fFall, .int .i64 p0_f.fUp, .int .i64 p0_f.fDown, .slice A0_4 p0_f.fLooks.length c0_4] ag_24 rfl rfl rfl) ?_
      refine ox_y rfl (y_makeFunc [.pointer (some ⟨b1, 0, none⟩)] rfl rfl) ?_
      obtain ⟨y9, hy10, h⟩ := bind_some h
      refine ox_call [.agg #[.int .i64 p0_f.fRise, .int .i64 p0_f.fFall, .int .i64 p0_f.fUp, .int .i64 p0_f.fDown, .slice A0_4 p0_f.fLooks.length c0_4], .func (.func 61) #[] #[.pointer (some ⟨b1, 0, none⟩)]] _ _ _ rfl go_60 rfl (fun W2 hW2 => fire_named_ok p0_f (fun x8 => fire_Suspects_1 x8 p0_f) y9 hy10 W2 A0_4 p0_f.fLooks.length c0_4 rfl ((RdL.arg hr0_4) W2 hW2) 61 [.pointer (some ⟨b1, 0, none⟩)] go_61 (fun W3 hb x y hxy => fire_Suspects_1_ok x p0_f y hxy W3 b1 A0_4 p0_f.fLooks.length c0_4 rfl (((RdL.arg hr0_4) W2 hW2).later hb) (((RdL.cells 0 rfl) W2 hW2).later hb))) ?_
      rintro ⟨A11, n13, c12⟩ hn14
      replace hn14 : n13 = y9.length := hn14; subst hn14
      refine ox_y rfl (y_assign_slice rfl) ?_
      refine ox_y rfl (y_assign_int rfl) ?_
      refine ox_nil ?_
      refine ex_then ?_
      refine cx_ret ?_
      obtain rfl := Option.some.inj h
      exact ex_res2 (.inl rfl) rfl (resV_tmp (v := .slice A11 y9.length c12) rfl) (resV_tmp (v := .int .i64 0) rfl) (fun W2 hW2 => ⟨(A11, y9.length, c12), rfl, rfl, (hW2.pick 1 rfl)⟩)
  · clear h; rcases ite_some hb6 with ⟨hp4, h⟩ | ⟨hp4, h⟩
    · refine ox_skip (sees_f rfl rfl rfl rfl hp4) ?_
      refine ox_skip (sees_f rfl rfl rfl rfl hp4) ?_
      refine ox_y rfl (y_pick_tb (congrArg Value.bool hp4) rfl) ?_
      obtain rfl := Option.some.inj h
      exact key _ _ (keep (keep (keep (keep (keep rfl rfl) rfl) rfl) rfl) rfl)
    · refine ox_y (sees_t rfl rfl rfl rfl hp4) (y_loadN 0 [.int .i64 p0_f.fRise, .int .i64 p0_f.fFall, .int .i64 p0_f.fUp, .int .i64 p0_f.fDown, .slice A0_4 p0_f.fLooks.length c0_4] ag_24 rfl rfl rfl) ?_
      obtain ⟨y15, hy16, h⟩ := bind_some h
      refine ox_y (sees_t rfl rfl rfl rfl hp4) (y_call [.agg #[.int .i64 p0_f.fRise, .int .i64 p0_f.fFall, .int .i64 p0_f.fUp, .int .i64 p0_f.fDown, .slice A0_4 p0_f.fLooks.length c0_4]] go_59 rfl (fun W2 hW2 => fire_agree_ok p0_f y15 hy16 W2 A0_4 p0_f.fLooks.length c0_4 rfl ((RdL.arg hr0_4) W2 hW2)) rfl) ?_
      refine ox_y rfl (y_pick_fb (congrArg Value.bool hp4) rfl) ?_
      obtain rfl := Option.some.inj h
      exact key _ _ (keep (keep (keep (keep (keep rfl rfl) rfl) rfl) rfl) rfl)

/-! calx/calxref02.SameInts -/
set_option maxRecDepth 100000 in
theorem calxref02_SameInts_ok (p0_a : (List Int)) (p1_b : (List Int)) (res : Bool) (h : calxref02_SameInts p0_a p1_b = some res) (W : World) (A0_0 : Option Addr) (n0_0 c0_0 : Nat) (hn0_0 : n0_0 = p0_a.length) (hr0_0 : Rd W A0_0 n0_0 c0_0 (encL cI p0_a)) (A1_0 : Option Addr) (n1_0 c1_0 : Nat) (hn1_0 : n1_0 = p1_b.length) (hr1_0 : Rd W A1_0 n1_0 c1_0 (encL cI p1_b)) :
    Calls Try.prog 17 [.slice A0_0 n0_0 c0_0, .slice A1_0 n1_0 c1_0].toArray W fun e W2 => e = .returned (.bool res) ∧ Ext W W2 [] := by
  subst hn0_0
  subst hn1_0
  unfold calxref02_SameInts at h
  refine calls_enter (m := 26) Try.func17 rfl rfl (Nat.le_of_ble_eq_true rfl) ?_
  refine cx_seq ?_
  refine cx_region ?_
  refine ox_y rfl (y_assign_bool rfl) ?_
  refine ox_nil ?_
  refine ex_then ?_
  refine cx_seq ?_
  refine cx_seq ?_
  refine cx_region ?_
  refine ox_y rfl (y_move_slice rfl) ?_
  refine ox_y rfl (y_len (us := []) us_41 rfl) ?_
  refine ox_y rfl (y_move_slice rfl) ?_
  refine ox_y rfl (y_len (us := []) us_41 rfl) ?_
  refine ox_y rfl (y_neq rfl rfl) ?_
  refine ox_nil ?_
  refine ex_then ?_
  rcases ite_some h with ⟨hp1, h⟩ | ⟨hp1, h⟩
  · refine cx_true (congrArg Value.bool hp1) ?_
    refine cx_seq ?_
    refine cx_region ?_
    refine ox_y rfl (y_assign_bool rfl) ?_
    refine ox_nil ?_
    refine ex_then ?_
    refine cx_ret ?_
    refine ex_then_ret ?_
    obtain rfl := Option.some.inj h
    exact ex_res1 (.inl rfl) rfl (resV_tmp (v := .bool false) rfl) (fun W2 hW2 => ⟨rfl, hW2.none⟩)
  · refine cx_false (congrArg Value.bool hp1) ?_
    refine cx_skip ?_
    refine ex_then ?_
    refine cx_seq ?_
    refine cx_seq ?_
    refine cx_region ?_
    refine ox_y rfl (y_assign_int rfl) ?_
    refine ox_nil ?_
    refine ex_then ?_
    refine cx_block ?_
    obtain ⟨u4, hl9, h⟩ := bind_some h
    refine cx_loop (fun (s : (Bool × Int)) L tm => ∃ (tm0 : Nat → Value), L = [] ∧ tm = (upd (upd (upd (upd (upd tm0 0 (.slice A0_0 p0_a.length c0_0)) 1 (.slice A1_0 p1_b.length c1_0)) 4 (.bool s.1)) 10 (.bool (((p0_a.length : Nat) : Int) != ((p1_b.length : Nat) : Int)))) 5 (.int .i64 s.2))) (fun | (.inl s), e, L, tm => e = .ret ∧ ∃ (tm0 : Nat → Value), L = [] ∧ tm = (upd (upd (upd (upd (upd tm0 0 (.slice A0_0 p0_a.length c0_0)) 1 (.slice A1_0 p1_b.length c1_0)) 4 (.bool s.1)) 10 (.bool (((p0_a.length : Nat) : Int) != ((p1_b.length : Nat) : Int)))) 5 (.int .i64 s.2)) | (.inr s), e, L, tm => e = .exit 0 ∧ ∃ (tm0 : Nat → Value), L = [] ∧ tm = (upd (upd (upd (upd (upd tm0 0 (.slice A0_0 p0_a.length c0_0)) 1 (.slice A1_0 p1_b.length c1_0)) 4 (.bool s.1)) 10 (.bool (((p0_a.length : Nat) : Int) != ((p1_b.length : Nat) : Int)))) 5 (.int .i64 s.2))) hl9 ⟨_, rfl, (keep (keep (keep (keep (keep rfl rfl) rfl) rfl) rfl) rfl)⟩ ?_ ?_
    · rintro s3 L tm st ⟨tm0_s3, rfl, rfl⟩ h
      unfold calxref02_SameInts_l1 at h
      refine cx_seq ?_
      refine cx_seq ?_
      refine cx_region ?_
      refine ox_y rfl (y_move_int rfl) ?_
      refine ox_y rfl (y_move_slice rfl) ?_
      refine ox_y rfl (y_len (us := []) us_41 rfl) ?_
      refine ox_y rfl (y_lss rfl rfl) ?_
      refine ox_nil ?_
      refine ex_then ?_
      rcases ite_some h with ⟨hp5, h⟩ | ⟨hp5, h⟩
      · refine cx_true (congrArg Value.bool hp5) ?_
        refine cx_skip ?_
        refine ex_then ?_
        refine cx_seq ?_
        refine cx_block ?_
        refine cx_seq ?_
        refine cx_draws 9 mixed (by kernel_rfl) (by kernel_rfl) ?_
        refine qx_y rfl (y_move_slice rfl) ?_
        refine qx_y rfl (y_move_int rfl) ?_
        obtain ⟨hg6, h⟩ := guardO_some h
        refine qx_y rfl (y_indexR sl_41 (by decide) hg6.1 hg6.2 (RdL.arg hr0_0) (encL_len cI_len rfl) rfl rfl) ?_
        refine qx_y rfl (y_loadR1 (A := A0_0) (j := (Int.toNat s3.2 * 1)) (v := .int .i64 (rdL p0_a s3.2)) sc_3 (RdL.arg hr0_0) rfl (encL_get0 cI_len hg6.1 (lt_nat hg6.2 rfl) rfl)) ?_
        refine qx_y rfl (y_move_slice rfl) ?_
        refine qx_y rfl (y_move_int rfl) ?_
        obtain ⟨hg7, h⟩ := guardO_some h
        refine qx_y rfl (y_indexR sl_41 (by decide) hg7.1 hg7.2 (RdL.arg hr1_0) (encL_len cI_len rfl) rfl rfl) ?_
        refine qx_y rfl (y_loadR1 (A := A1_0) (j := (Int.toNat s3.2 * 1)) (v := .int .i64 (rdL p1_b s3.2)) sc_3 (RdL.arg hr1_0) rfl (encL_get0 cI_len hg7.1 (lt_nat hg7.2 rfl) rfl)) ?_
        refine qx_y rfl (y_neq rfl rfl) ?_
        refine qx_nil ?_
        refine ox_nil ?_
        refine ex_then ?_
        rcases ite_some h with ⟨hp8, h⟩ | ⟨hp8, h⟩
        · refine cx_true (congrArg Value.bool hp8) ?_
          refine cx_seq ?_
          refine cx_region ?_
          refine ox_y rfl (y_assign_bool rfl) ?_
          refine ox_nil ?_
          refine ex_then ?_
          refine cx_ret ?_
          refine ex_block_ret ?_
          refine ex_then_ret ?_
          obtain rfl := Option.some.inj h
          exact ex_stop ⟨rfl, _, rfl, (keep (keep (keep (keep (keep rfl rfl) rfl) rfl) rfl) rfl)⟩
        · refine cx_false (congrArg Value.bool hp8) ?_
          refine cx_skip ?_
          refine ex_block ?_
          refine ex_then ?_
          refine cx_region ?_
          refine ox_y rfl (y_move_int rfl) ?_
          refine ox_y rfl (y_add rfl rfl) ?_
          refine ox_y rfl (y_assign_int rfl) ?_
          refine ox_nil ?_
          obtain rfl := Option.some.inj h
          exact ex_next ⟨_, rfl, (keep (keep (keep (keep (keep rfl rfl) rfl) rfl) rfl) rfl)⟩
      · refine cx_false (congrArg Value.bool hp5) ?_
        refine cx_exit ?_
        refine ex_then_exit ?_
        obtain rfl := Option.some.inj h
        exact ex_stop ⟨rfl, _, rfl, (keep (keep (keep (keep (keep rfl rfl) rfl) rfl) rfl) rfl)⟩
    · intro e L tm hJ
      rcases u4 with u10 | u11
      · dsimp only at h hJ
        obtain ⟨rfl, tm0_u10, rfl, rfl⟩ := hJ
        refine ⟨(by intro hc; cases hc), ?_⟩
        refine ex_block_ret ?_
        refine ex_then_ret ?_
        obtain rfl := Option.some.inj h
        exact ex_res1 (.inl rfl) rfl (resV_tmp (v := .bool u10.1) rfl) (fun W2 hW2 => ⟨rfl, hW2.none⟩)
      · dsimp only at h hJ
        obtain ⟨rfl, tm0_u11, rfl, rfl⟩ := hJ
        refine ⟨(by intro hc; cases hc), ?_⟩
        refine ex_block_here ?_
        refine ex_then ?_
        refine cx_seq ?_
        refine cx_region ?_
        refine ox_y rfl (y_assign_bool rfl) ?_
        refine ox_nil ?_
        refine ex_then ?_
        refine cx_ret ?_
        obtain rfl := Option.some.inj h
        exact ex_res1 (.inl rfl) rfl (resV_tmp (v := .bool true) rfl) (fun W2 hW2 => ⟨rfl, hW2.none⟩)

/-! calx/fire.CheckPath -/
set_option maxRecDepth 100000 in
theorem fire_CheckPath_ok (p0_l : (List TSpot)) (res : Int) (h : fire_CheckPath p0_l = some res) (W : World) (A0_0 : Option Addr) (n0_0 c0_0 : Nat) (hn0_0 : n0_0 = p0_l.length) (hr0_0 : Rd W A0_0 n0_0 c0_0 (encL TSpot_cells p0_l)) :
    Calls Try.prog 25 [.slice A0_0 n0_0 c0_0].toArray W fun e W2 => e = .returned (.int .i64 res) ∧ Ext W W2 [] := by
  subst hn0_0
  unfold fire_CheckPath at h
  refine calls_enter (m := 38) Try.func25 rfl rfl (Nat.le_of_ble_eq_true rfl) ?_
  refine cx_seq ?_
  refine cx_region ?_
  refine ox_y rfl (y_assign_int rfl) ?_
  refine ox_nil ?_
  refine ex_then ?_
  refine cx_seq ?_
  refine cx_seq ?_
  refine cx_region ?_
  refine ox_y rfl (y_move_slice rfl) ?_
  refine ox_y rfl (y_len (us := []) us_46 rfl) ?_
  refine ox_y rfl (y_gtr rfl rfl) ?_
  refine ox_nil ?_
  refine ex_then ?_
  rcases ite_some h with ⟨hp1, h⟩ | ⟨hp1, h⟩
  · refine cx_true (congrArg Value.bool hp1) ?_
    refine cx_seq ?_
    refine cx_region ?_
    refine ox_y rfl (y_assign_int rfl) ?_
    refine ox_nil ?_
    refine ex_then ?_
    refine cx_ret ?_
    refine ex_then_ret ?_
    obtain rfl := Option.some.inj h
    exact ex_res1 (.inl rfl) rfl (resV_tmp (v := .int .i64 2) rfl) (fun W2 hW2 => ⟨rfl, hW2.none⟩)
  · refine cx_false (congrArg Value.bool hp1) ?_
    refine cx_skip ?_
    refine ex_then ?_
    refine cx_seq ?_
    refine cx_seq ?_
    refine cx_region ?_
    refine ox_y rfl (y_move_slice rfl) ?_
    refine ox_y rfl (y_len (us := []) us_46 rfl) ?_
    refine ox_y rfl (y_move_int rfl) ?_
    refine ox_nil ?_
    refine ex_then ?_
    refine cx_block ?_
    obtain ⟨u4, hl18, h⟩ := bind_some h
    refine cx_loop (fun (s : (Int × Int)) L tm => ∃ (tm0 : Nat → Value), L = [] ∧ tm = (upd (upd (upd (upd (upd (upd tm0 0 (.slice A0_0 p0_l.length c0_0)) 2 (.int .i64 s.1)) 7 (.bool (decide (200 < ((p0_l.length : Nat) : Int))))) 8 (.slice A0_0 p0_l.length c0_0)) 9 (.int .i64 ((p0_l.length : Nat) : Int))) 10 (.int .i64 s.2))) (fun | (.inl s), e, L, tm => e = .ret ∧ ∃ (tm0 : Nat → Value), L = [] ∧ tm = (upd (upd (upd (upd (upd (upd tm0 0 (.slice A0_0 p0_l.length c0_0)) 2 (.int .i64 s.1)) 7 (.bool (decide (200 < ((p0_l.length : Nat) : Int))))) 8 (.slice A0_0 p0_l.length c0_0)) 9 (.int .i64 ((p0_l.length : Nat) : Int))) 10 (.int .i64 s.2)) | (.inr s), e, L, tm => e = .exit 0 ∧ ∃ (tm0 : Nat → Value), L = [] ∧ tm = (upd (upd (upd (upd (upd (upd tm0 0 (.slice A0_0 p0_l.length c0_0)) 2 (.int .i64 s.1)) 7 (.bool (decide (200 < ((p0_l.length : Nat) : Int))))) 8 (.slice A0_0 p0_l.length c0_0)) 9 (.int .i64 ((p0_l.length : Nat) : Int))) 10 (.int .i64 s.2))) hl18 ⟨_, rfl, (keep (keep (keep (keep (keep (keep rfl rfl) rfl) rfl) rfl) rfl) rfl)⟩ ?_ ?_
    · rintro s3 L tm st ⟨tm0_s3, rfl, rfl⟩ h
      unfold fire_CheckPath_l1 at h
      refine cx_seq ?_
      refine cx_region ?_
      refine ox_y rfl (y_lss rfl rfl) ?_
      refine ox_nil ?_
      refine ex_then ?_
      refine cx_seq ?_
      rcases ite_some h with ⟨hp5, h⟩ | ⟨hp5, h⟩
      · refine cx_true (congrArg Value.bool hp5) ?_
        refine cx_skip ?_
        refine ex_then ?_
        refine cx_seq ?_
        refine cx_block ?_
        refine cx_seq ?_
        refine cx_region ?_
        refine ox_y rfl (y_move_int rfl) ?_
        obtain ⟨hg6, h⟩ := guardO_some h
        refine ox_y rfl (y_indexR sl_46 (by decide) hg6.1 hg6.2 (RdL.arg hr0_0) (encL_len TSpot_cells_len rfl) rfl rfl) ?_
        refine ox_y rfl (y_loadRN (A := A0_0) (j := (Int.toNat s3.2 * 2)) [.int .i64 ((rdL p0_l s3.2).fFoot), .int .i64 ((rdL p0_l s3.2).fHour)] ag_26 (Nat.succ_pos _) (RdL.arg hr0_0) rfl (encL_gets TSpot_cells_len hg6.1 (lt_nat hg6.2 rfl))) ?_
        refine ox_alloc ze_26 rfl (fun b7 => ?_)
        refine ox_y rfl (y_assign_int rfl) ?_
        refine ox_n rfl (y_storeN 0 [.int .i64 ((rdL p0_l s3.2).fFoot), .int .i64 ((rdL p0_l s3.2).fHour)] sz_26 rfl (Nat.le_of_ble_eq_true rfl) rfl rfl rfl) ?_
        refine ox_nil ?_
        refine ex_then ?_
        refine cx_seq ?_
        refine cx_draws 19 mixed (by kernel_rfl) (by kernel_rfl) ?_
        refine qx_y rfl (y_loadN 0 [.int .i64 ((rdL p0_l s3.2).fFoot), .int .i64 ((rdL p0_l s3.2).fHour)] ag_26 rfl rfl rfl) ?_
        obtain ⟨y8, hy9, h⟩ := bind_some h
        refine qx_y rfl (y_call [.agg #[.int .i64 ((rdL p0_l s3.2).fFoot), .int .i64 ((rdL p0_l s3.2).fHour)]] go_70 rfl (fun W2 hW2 => fire_right_ok (TSpot.mk ((rdL p0_l s3.2).fFoot) ((rdL p0_l s3.2).fHour)) y8 hy9 W2 ) rfl) ?_
        refine qx_y rfl (y_not rfl) ?_
        refine qx_y rfl (y_move_bool rfl) ?_
        obtain ⟨b11, hb12, h⟩ := bind_some h
        refine qx_join 15 (fun tm0 => (upd (upd (upd (upd (upd (upd (upd (upd (upd (upd tm0 0 (.slice A0_0 p0_l.length c0_0)) 2 (.int .i64 s3.1)) 7 (.bool (decide (200 < ((p0_l.length : Nat) : Int))))) 8 (.slice A0_0 p0_l.length c0_0)) 9 (.int .i64 ((p0_l.length : Nat) : Int))) 10 (.int .i64 s3.2)) 11 (.bool (decide (s3.2 < ((p0_l.length : Nat) : Int))))) 4 (.pointer (some ⟨b7, 0, none⟩))) 3 (.int .i64 s3.2)) 33 (.bool b11))) (fun tm0 => ?_) (fun key => ?_)
        · refine qx_nil ?_
          refine ox_nil ?_
          refine ex_then ?_
          rcases ite_some h with ⟨hp13, h⟩ | ⟨hp13, h⟩
          · refine cx_true (congrArg Value.bool hp13) ?_
            refine cx_seq ?_
            refine cx_region ?_
            refine ox_y rfl (y_assign_int rfl) ?_
            refine ox_nil ?_
            refine ex_then ?_
            refine cx_ret ?_
            refine ex_block_ret ?_
            refine ex_then_ret ?_
            refine ex_take 0 ?_
            obtain rfl := Option.some.inj h
            exact ex_stop ⟨rfl, _, rfl, (keep (keep (keep (keep (keep (keep rfl rfl) rfl) rfl) rfl) rfl) rfl)⟩
          · refine cx_false (congrArg Value.bool hp13) ?_
            refine cx_skip ?_
            refine ex_block ?_
            refine ex_then ?_
            refine cx_region ?_
            refine ox_y rfl (y_add rfl rfl) ?_
            refine ox_y rfl (y_move_int rfl) ?_
            refine ox_nil ?_
            refine ex_take 0 ?_
            obtain rfl := Option.some.inj h
            exact ex_next ⟨_, rfl, (keep (keep (keep (keep (keep (keep rfl rfl) rfl) rfl) rfl) rfl) rfl)⟩
        · clear h; rcases ite_some hb12 with ⟨hp10, h⟩ | ⟨hp10, h⟩
          · refine qx_skip (sees_f rfl rfl rfl rfl hp10) ?_
            refine qx_skip (sees_f rfl rfl rfl rfl hp10) ?_
            refine qx_skip (sees_f rfl rfl rfl rfl hp10) ?_
            refine qx_skip rfl ?_
            refine qx_skip rfl ?_
            refine qx_skip rfl ?_
            refine qx_skip rfl ?_
            refine qx_skip rfl ?_
            refine qx_skip rfl ?_
            refine qx_skip rfl ?_
            refine qx_skip rfl ?_
            refine qx_skip rfl ?_
            refine qx_skip rfl ?_
            refine qx_skip (sees_f rfl rfl rfl rfl hp10) ?_
            refine qx_y rfl (y_pick_tb (congrArg Value.bool hp10) rfl) ?_
            obtain rfl := Option.some.inj h
            exact key _ _ (keep (keep (keep (keep (keep (keep (keep (keep (keep (keep rfl rfl) rfl) rfl) rfl) rfl) rfl) rfl) rfl) rfl) rfl)
          · refine qx_y (sees_t rfl rfl rfl rfl hp10) (y_move_int rfl) ?_
            refine qx_y (sees_t rfl rfl rfl rfl hp10) (y_gtr rfl rfl) ?_
            refine qx_y (sees_t rfl rfl rfl rfl hp10) (y_move_bool rfl) ?_
            obtain ⟨b15, hb16, h⟩ := bind_some h
            refine qx_join 11 (fun tm0 => (upd (upd (upd (upd (upd (upd (upd (upd (upd (upd (upd tm0 0 (.slice A0_0 p0_l.length c0_0)) 2 (.int .i64 s3.1)) 7 (.bool (decide (200 < ((p0_l.length : Nat) : Int))))) 8 (.slice A0_0 p0_l.length c0_0)) 9 (.int .i64 ((p0_l.length : Nat) : Int))) 10 (.int .i64 s3.2)) 11 (.bool (decide (s3.2 < ((p0_l.length : Nat) : Int))))) 4 (.pointer (some ⟨b7, 0, none⟩))) 3 (.int .i64 s3.2)) 18 (.bool (!y8))) 32 (.bool b15))) (fun tm0 => ?_) (fun key => ?_)
            · refine qx_y rfl (y_pick_fb (congrArg Value.bool hp10) rfl) ?_
              obtain rfl := Option.some.inj h
              exact key _ _ (keep (keep (keep (keep (keep (keep (keep (keep (keep (keep rfl rfl) rfl) rfl) rfl) rfl) rfl) rfl) rfl) rfl) rfl)
            · clear h; rcases ite_some hb16 with ⟨hp14, h⟩ | ⟨hp14, h⟩
              · refine qx_y (sees_t rfl rfl rfl rfl hp14) (y_fieldAddr fo_26_1 rfl) ?_
                refine qx_y (sees_t rfl rfl rfl rfl hp14) (y_load1 0 (v := .int .i64 ((rdL p0_l s3.2).fHour)) sc_3 rfl rfl rfl) ?_
                refine qx_y (sees_t rfl rfl rfl rfl hp14) (y_move_slice rfl) ?_
                refine qx_y (sees_t rfl rfl rfl rfl hp14) (y_move_int rfl) ?_
                refine qx_y (sees_t rfl rfl rfl rfl hp14) (y_sub rfl rfl) ?_
                obtain ⟨hg17, h⟩ := guardO_some h
                refine qx_y (sees_t rfl rfl rfl rfl hp14) (y_indexR sl_46 (by decide) hg17.1 hg17.2 (RdL.arg hr0_0) (encL_len TSpot_cells_len rfl) rfl rfl) ?_
                refine qx_y (sees_t rfl rfl rfl rfl hp14) (y_fieldAddrR (A := A0_0) (j := (Int.toNat (w64 (s3.2 - 1)) * 2)) fo_26_1 rfl) ?_
                refine qx_y (sees_t rfl rfl rfl rfl hp14) (y_loadR1 (A := A0_0) (j := ((Int.toNat (w64 (s3.2 - 1)) * 2) + 1)) (v := .int .i64 ((rdL p0_l (w64 (s3.2 - 1))).fHour)) sc_3 (RdL.arg hr0_0) rfl (encL_get TSpot_cells_len hg17.1 (lt_nat hg17.2 rfl) rfl)) ?_
                refine qx_y (sees_t rfl rfl rfl rfl hp14) (y_add rfl rfl) ?_
                refine qx_y (sees_t rfl rfl rfl rfl hp14) (y_neq rfl rfl) ?_
                refine qx_y (sees_t rfl rfl rfl rfl hp10) (y_pick_tb (congrArg Value.bool hp14) rfl) ?_
                obtain rfl := Option.some.inj h
                exact key _ _ (keep (keep (keep (keep (keep (keep (keep (keep (keep (keep (keep rfl rfl) rfl) rfl) rfl) rfl) rfl) rfl) rfl) rfl) rfl) rfl)
              · refine qx_skip (sees_f rfl rfl rfl rfl hp14) ?_
                refine qx_skip (sees_f rfl rfl rfl rfl hp14) ?_
                refine qx_skip (sees_f rfl rfl rfl rfl hp14) ?_
                refine qx_skip (sees_f rfl rfl rfl rfl hp14) ?_
                refine qx_skip (sees_f rfl rfl rfl rfl hp14) ?_
                refine qx_skip (sees_f rfl rfl rfl rfl hp14) ?_
                refine qx_skip (sees_f rfl rfl rfl rfl hp14) ?_
                refine qx_skip (sees_f rfl rfl rfl rfl hp14) ?_
                refine qx_skip (sees_f rfl rfl rfl rfl hp14) ?_
                refine qx_skip (sees_f rfl rfl rfl rfl hp14) ?_
                refine qx_y (sees_t rfl rfl rfl rfl hp10) (y_pick_fb (congrArg Value.bool hp14) rfl) ?_
                obtain rfl := Option.some.inj h
                exact key _ _ (keep (keep (keep (keep (keep (keep (keep (keep (keep (keep (keep rfl rfl) rfl) rfl) rfl) rfl) rfl) rfl) rfl) rfl) rfl) rfl)
      · refine cx_false (congrArg Value.bool hp5) ?_
        refine cx_exit ?_
        refine ex_then_exit ?_
        obtain rfl := Option.some.inj h
        exact ex_stop ⟨rfl, _, rfl, (keep (keep (keep (keep (keep (keep rfl rfl) rfl) rfl) rfl) rfl) rfl)⟩
    · intro e L tm hJ
      rcases u4 with u19 | u20
      · dsimp only at h hJ
        obtain ⟨rfl, tm0_u19, rfl, rfl⟩ := hJ
        refine ⟨(by intro hc; cases hc), ?_⟩
        refine ex_block_ret ?_
        refine ex_then_ret ?_
        obtain rfl := Option.some.inj h
        exact ex_res1 (.inl rfl) rfl (resV_tmp (v := .int .i64 u19.1) rfl) (fun W2 hW2 => ⟨rfl, hW2.none⟩)
      · dsimp only at h hJ
        obtain ⟨rfl, tm0_u20, rfl, rfl⟩ := hJ
        refine ⟨(by intro hc; cases hc), ?_⟩
        refine ex_block_here ?_
        refine ex_then ?_
        refine cx_seq ?_
        refine cx_seq ?_
        refine cx_region ?_
        refine ox_y rfl (y_move_slice rfl) ?_
        refine ox_y rfl (y_len (us := []) us_46 rfl) ?_
        refine ox_y rfl (y_eql rfl rfl) ?_
        refine ox_nil ?_
        refine ex_then ?_
        rcases ite_some h with ⟨hp21, h⟩ | ⟨hp21, h⟩
        · refine cx_true (congrArg Value.bool hp21) ?_
          refine cx_seq ?_
          refine cx_region ?_
          refine ox_y rfl (y_assign_int rfl) ?_
          refine ox_nil ?_
          refine ex_then ?_
          refine cx_ret ?_
          refine ex_then_ret ?_
          obtain rfl := Option.some.inj h
          exact ex_res1 (.inl rfl) rfl (resV_tmp (v := .int .i64 1) rfl) (fun W2 hW2 => ⟨rfl, hW2.none⟩)
        · refine cx_false (congrArg Value.bool hp21) ?_
          refine cx_skip ?_
          refine ex_then ?_
          refine cx_seq ?_
          refine cx_region ?_
          refine ox_y rfl (y_assign_int rfl) ?_
          refine ox_nil ?_
          refine ex_then ?_
          refine cx_ret ?_
          obtain rfl := Option.some.inj h
          exact ex_res1 (.inl rfl) rfl (resV_tmp (v := .int .i64 0) rfl) (fun W2 hW2 => ⟨rfl, hW2.none⟩)

/-! calx/fire.walked -/
set_option maxRecDepth 100000 in
theorem fire_walked_ok (p0_f : TFire) (p1_path : (List TSpot)) (p2_need : Int) (res : Int) (h : fire_walked p0_f p1_path p2_need = some res) (W : World) (A0_4 : Option Addr) (n0_4 c0_4 : Nat) (hn0_4 : n0_4 = p0_f.fLooks.length) (hr0_4 : Rd W A0_4 n0_4 c0_4 (encL TLook_cells p0_f.fLooks)) (A1_0 : Option Addr) (n1_0 c1_0 : Nat) (hn1_0 : n1_0 = p1_path.length) (hr1_0 : Rd W A1_0 n1_0 c1_0 (encL TSpot_cells p1_path)) :
    Calls Try.prog 63 [.agg #[.int .i64 p0_f.fRise, .int .i64 p0_f.fFall, .int .i64 p0_f.fUp, .int .i64 p0_f.fDown, .slice A0_4 n0_4 c0_4], .slice A1_0 n1_0 c1_0, .int .i64 p2_need].toArray W fun e W2 => e = .returned (.int .i64 res) ∧ Ext W W2 [] := by
  subst hn0_4
  subst hn1_0
  unfold fire_walked at h
  refine calls_enter (m := 24) Try.func63 rfl rfl (Nat.le_of_ble_eq_true rfl) ?_
  refine cx_seq ?_
  refine cx_region ?_
  refine ox_box [.int .i64 p0_f.fRise, .int .i64 p0_f.fFall, .int .i64 p0_f.fUp, .int .i64 p0_f.fDown, .slice A0_4 p0_f.fLooks.length c0_4] rfl rfl rfl (fun b1 => ?_)
  refine ox_y rfl (y_assign_int rfl) ?_
  refine ox_nil ?_
  refine ex_then ?_
  refine cx_seq ?_
  refine cx_seq ?_
  refine cx_region ?_
  refine ox_y rfl (y_loadN 0 [.int .i64 p0_f.fRise, .int .i64 p0_f.fFall, .int .i64 p0_f.fUp, .int .i64 p0_f.fDown, .slice A0_4 p0_f.fLooks.length c0_4] ag_24 rfl rfl rfl) ?_
  obtain ⟨y2, hy3, h⟩ := bind_some h
  refine ox_y rfl (y_call [.agg #[.int .i64 p0_f.fRise, .int .i64 p0_f.fFall, .int .i64 p0_f.fUp, .int .i64 p0_f.fDown, .slice A0_4 p0_f.fLooks.length c0_4]] go_12 rfl (fun W2 hW2 => fire_Check_ok p0_f y2 hy3 W2 A0_4 p0_f.fLooks.length c0_4 rfl ((RdL.arg hr0_4) W2 hW2)) rfl) ?_
  refine ox_y rfl (y_assign_int rfl) ?_
  refine ox_nil ?_
  refine ex_then ?_
  refine cx_seq ?_
  refine cx_region ?_
  refine ox_y rfl (y_move_int rfl) ?_
  refine ox_y rfl (y_neq rfl rfl) ?_
  refine ox_nil ?_
  refine ex_then ?_
  rcases ite_some h with ⟨hp4, h⟩ | ⟨hp4, h⟩
  · refine cx_true (congrArg Value.bool hp4) ?_
    refine cx_seq ?_
    refine cx_region ?_
    refine ox_y rfl (y_move_int rfl) ?_
    refine ox_y rfl (y_assign_int rfl) ?_
    refine ox_nil ?_
    refine ex_then ?_
    refine cx_ret ?_
    refine ex_then_ret ?_
    obtain rfl := Option.some.inj h
    exact ex_res1 (.inl rfl) rfl (resV_tmp (v := .int .i64 y2) rfl) (fun W2 hW2 => ⟨rfl, hW2.none⟩)
  · refine cx_false (congrArg Value.bool hp4) ?_
    refine cx_skip ?_
    refine ex_then ?_
    refine cx_seq ?_
    refine cx_seq ?_
    refine cx_region ?_
    refine ox_y rfl (y_move_slice rfl) ?_
    obtain ⟨y5, hy6, h⟩ := bind_some h
    refine ox_y rfl (y_call [.slice A1_0 p1_path.length c1_0] go_25 rfl (fun W2 hW2 => fire_CheckPath_ok p1_path y5 hy6 W2 A1_0 p1_path.length c1_0 rfl ((RdL.arg hr1_0) W2 hW2)) rfl) ?_
    refine ox_y rfl (y_assign_int rfl) ?_
    refine ox_nil ?_
    refine ex_then ?_
    refine cx_seq ?_
    refine cx_region ?_
    refine ox_y rfl (y_move_int rfl) ?_
    refine ox_y rfl (y_neq rfl rfl) ?_
    refine ox_nil ?_
    refine ex_then ?_
    rcases ite_some h with ⟨hp7, h⟩ | ⟨hp7, h⟩
    · refine cx_true (congrArg Value.bool hp7) ?_
      refine cx_seq ?_
      refine cx_region ?_
      refine ox_y rfl (y_move_int rfl) ?_
      refine ox_y rfl (y_assign_int rfl) ?_
      refine ox_nil ?_
      refine ex_then ?_
      refine cx_ret ?_
      refine ex_then_ret ?_
      obtain rfl := Option.some.inj h
      exact ex_res1 (.inl rfl) rfl (resV_tmp (v := .int .i64 y5) rfl) (fun W2 hW2 => ⟨rfl, hW2.none⟩)
    · refine cx_false (congrArg Value.bool hp7) ?_
      refine cx_skip ?_
      refine ex_then ?_
      refine cx_seq ?_
      refine cx_seq ?_
      refine cx_region ?_
      refine ox_y rfl (y_move_int rfl) ?_
      obtain ⟨y8, hy9, h⟩ := bind_some h
      refine ox_y rfl (y_call [.int .i64 p2_need] go_87 rfl (fun W2 hW2 => fire_heat_ok p2_need y8 hy9 W2 ) rfl) ?_
      refine ox_y rfl (y_not rfl) ?_
      refine ox_nil ?_
      refine ex_then ?_
      rcases ite_some h with ⟨hp10, h⟩ | ⟨hp10, h⟩
      · refine cx_true (congrArg Value.bool hp10) ?_
        refine cx_seq ?_
        refine cx_region ?_
        refine ox_y rfl (y_assign_int rfl) ?_
        refine ox_nil ?_
        refine ex_then ?_
        refine cx_ret ?_
        refine ex_then_ret ?_
        obtain rfl := Option.some.inj h
        exact ex_res1 (.inl rfl) rfl (resV_tmp (v := .int .i64 1) rfl) (fun W2 hW2 => ⟨rfl, hW2.none⟩)
      · refine cx_false (congrArg Value.bool hp10) ?_
        refine cx_skip ?_
        refine ex_then ?_
        refine cx_seq ?_
        refine cx_region ?_
        refine ox_y rfl (y_loadN 0 [.int .i64 p0_f.fRise, .int .i64 p0_f.fFall, .int .i64 p0_f.fUp, .int .i64 p0_f.fDown, .slice A0_4 p0_f.fLooks.length c0_4] ag_24 rfl rfl rfl) ?_
        obtain ⟨y11, hy12, h⟩ := bind_some h
        refine ox_y rfl (y_call [.agg #[.int .i64 p0_f.fRise, .int .i64 p0_f.fFall, .int .i64 p0_f.fUp, .int .i64 p0_f.fDown, .slice A0_4 p0_f.fLooks.length c0_4], .int .i64 0] go_55 rfl (fun W2 hW2 => fire_agreed_ok p0_f 0 y11 hy12 W2 A0_4 p0_f.fLooks.length c0_4 rfl ((RdL.arg hr0_4) W2 hW2)) rfl) ?_
        refine ox_y rfl (y_assign_int rfl) ?_
        refine ox_nil ?_
        refine ex_then ?_
        refine cx_ret ?_
        obtain rfl := Option.some.inj h
        exact ex_res1 (.inl rfl) rfl (resV_tmp (v := .int .i64 y11) rfl) (fun W2 hW2 => ⟨rfl, hW2.none⟩)

/-! calx/fire.heats -/
set_option maxRecDepth 100000 in
theorem fire_heats_ok (p0_f : TFire) (p1_path : (List TSpot)) (res : ((List Int) × (List Int))) (h : fire_heats p0_f p1_path = some res) (W : World) (A0_4 : Option Addr) (n0_4 c0_4 : Nat) (hn0_4 : n0_4 = p0_f.fLooks.length) (hr0_4 : Rd W A0_4 n0_4 c0_4 (encL TLook_cells p0_f.fLooks)) (A1_0 : Option Addr) (n1_0 c1_0 : Nat) (hn1_0 : n1_0 = p1_path.length) (hr1_0 : Rd W A1_0 n1_0 c1_0 (encL TSpot_cells p1_path)) :
    Calls Try.prog 64 [.agg #[.int .i64 p0_f.fRise, .int .i64 p0_f.fFall, .int .i64 p0_f.fUp, .int .i64 p0_f.fDown, .slice A0_4 n0_4 c0_4], .slice A1_0 n1_0 c1_0].toArray W fun e W2 => ∃ x : (Option Addr × Nat × Nat) × (Option Addr × Nat × Nat), (x.1.2.1 = res.1.length ∧ x.2.2.1 = res.2.length) ∧ e = .returned (.tuple #[.slice x.1.1 x.1.2.1 x.1.2.2, .slice x.2.1 x.2.2.1 x.2.2.2]) ∧ Ext W W2 [rowR x.1.1 x.1.2.2 3 1 x.1.2.1 (encL cI res.1), rowR x.2.1 x.2.2.2 3 1 x.2.2.1 (encL cI res.2)] := by
  subst hn0_4
  subst hn1_0
  unfold fire_heats at h
  refine calls_enter (m := 32) Try.func64 rfl rfl (Nat.le_of_ble_eq_true rfl) ?_
  refine cx_seq ?_
  refine cx_region ?_
  refine ox_box [.int .i64 p0_f.fRise, .int .i64 p0_f.fFall, .int .i64 p0_f.fUp, .int .i64 p0_f.fDown, .slice A0_4 p0_f.fLooks.length c0_4] rfl rfl rfl (fun b1 => ?_)
  refine ox_y rfl (y_assign_slice rfl) ?_
  refine ox_y rfl (y_assign_slice rfl) ?_
  refine ox_nil ?_
  refine ex_then ?_
  refine cx_seq ?_
  refine cx_seq ?_
  refine cx_region ?_
  refine ox_y rfl (y_move_slice rfl) ?_
  refine ox_y rfl (y_len (us := []) us_46 rfl) ?_
  refine ox_y rfl (y_move_int rfl) ?_
  refine ox_nil ?_
  refine ex_then ?_
  refine cx_block ?_
  obtain ⟨u5, hl21, h⟩ := bind_some h
  refine cx_nilrow 3 1 ?_
  refine cx_nilrow 3 1 ?_
  refine cx_loop (fun (s : (Int × (List Int) × (List Int))) L tm => ∃ (tm0 : Nat → Value) (A1_s : Option Addr) (c1_s : Nat) (n1_s : Nat) (A2_s : Option Addr) (c2_s : Nat) (n2_s : Nat), n1_s = s.2.1.length ∧ n2_s = s.2.2.length ∧ L = [cellsR b1 24 [.int .i64 p0_f.fRise, .int .i64 p0_f.fFall, .int .i64 p0_f.fUp, .int .i64 p0_f.fDown, .slice A0_4 p0_f.fLooks.length c0_4], rowR A1_s c1_s 3 1 n1_s (encL cI s.2.1), rowR A2_s c2_s 3 1 n2_s (encL cI s.2.2)] ∧ tm = (upd (upd (upd (upd (upd (upd (upd (upd tm0 0 (.agg #[.int .i64 p0_f.fRise, .int .i64 p0_f.fFall, .int .i64 p0_f.fUp, .int .i64 p0_f.fDown, .slice A0_4 p0_f.fLooks.length c0_4])) 1 (.slice A1_0 p1_path.length c1_0)) 2 (.pointer (some ⟨b1, 0, none⟩))) 4 (.slice A1_s n1_s c1_s)) 5 (.slice A2_s n2_s c2_s)) 9 (.slice A1_0 p1_path.length c1_0)) 10 (.int .i64 ((p1_path.length : Nat) : Int))) 11 (.int .i64 s.1))) (fun s e L tm => e = .exit 0 ∧ ∃ (tm0 : Nat → Value) (A1_s : Option Addr) (c1_s : Nat) (n1_s : Nat) (A2_s : Option Addr) (c2_s : Nat) (n2_s : Nat), n1_s = s.2.1.length ∧ n2_s = s.2.2.length ∧ L = [cellsR b1 24 [.int .i64 p0_f.fRise, .int .i64 p0_f.fFall, .int .i64 p0_f.fUp, .int .i64 p0_f.fDown, .slice A0_4 p0_f.fLooks.length c0_4], rowR A1_s c1_s 3 1 n1_s (encL cI s.2.1), rowR A2_s c2_s 3 1 n2_s (encL cI s.2.2)] ∧ tm = (upd (upd (upd (upd (upd (upd (upd (upd tm0 0 (.agg #[.int .i64 p0_f.fRise, .int .i64 p0_f.fFall, .int .i64 p0_f.fUp, .int .i64 p0_f.fDown, .slice A0_4 p0_f.fLooks.length c0_4])) 1 (.slice A1_0 p1_path.length c1_0)) 2 (.pointer (some ⟨b1, 0, none⟩))) 4 (.slice A1_s n1_s c1_s)) 5 (.slice A2_s n2_s c2_s)) 9 (.slice A1_0 p1_path.length c1_0)) 10 (.int .i64 ((p1_path.length : Nat) : Int))) 11 (.int .i64 s.1))) hl21 ⟨_, none, 0, 0, none, 0, 0, rfl, rfl, rfl, (keep (keep (keep (keep (keep (keep (keep (keep rfl rfl) rfl) rfl) rfl) rfl) rfl) rfl) rfl)⟩ ?_ ?_
  · rintro s4 L tm st ⟨tm0_s4, A1_s4, c1_s4, n1_s4, A2_s4, c2_s4, n2_s4, rfl, rfl, rfl, rfl⟩ h
    unfold fire_heats_l1 at h
    refine cx_seq ?_
    refine cx_region ?_
    refine ox_y rfl (y_lss rfl rfl) ?_
    refine ox_nil ?_
    refine ex_then ?_
    refine cx_seq ?_
    rcases ite_some h with ⟨hp6, h⟩ | ⟨hp6, h⟩
    · refine cx_true (congrArg Value.bool hp6) ?_
      refine cx_skip ?_
      refine ex_then ?_
      refine cx_seq ?_
      refine cx_block ?_
      refine cx_seq ?_
      refine cx_region ?_
      obtain ⟨hg7, h⟩ := guardO_some h
      refine ox_y rfl (y_indexR sl_46 (by decide) hg7.1 hg7.2 (RdL.arg hr1_0) (encL_len TSpot_cells_len rfl) rfl rfl) ?_
      refine ox_y rfl (y_loadRN (A := A1_0) (j := (Int.toNat s4.1 * 2)) [.int .i64 ((rdL p1_path s4.1).fFoot), .int .i64 ((rdL p1_path s4.1).fHour)] ag_26 (Nat.succ_pos _) (RdL.arg hr1_0) rfl (encL_gets TSpot_cells_len hg7.1 (lt_nat hg7.2 rfl))) ?_
      refine ox_alloc ze_26 rfl (fun b8 => ?_)
      refine ox_n rfl (y_storeN 3 [.int .i64 ((rdL p1_path s4.1).fFoot), .int .i64 ((rdL p1_path s4.1).fHour)] sz_26 rfl (Nat.le_of_ble_eq_true rfl) rfl rfl rfl) ?_
      refine ox_nil ?_
      refine ex_then ?_
      refine cx_seq ?_
      refine cx_region ?_
      refine ox_y rfl (y_loadN 0 [.int .i64 p0_f.fRise, .int .i64 p0_f.fFall, .int .i64 p0_f.fUp, .int .i64 p0_f.fDown, .slice A0_4 p0_f.fLooks.length c0_4] ag_24 rfl rfl rfl) ?_
      refine ox_y rfl (y_loadN 3 [.int .i64 ((rdL p1_path s4.1).fFoot), .int .i64 ((rdL p1_path s4.1).fHour)] ag_26 rfl rfl rfl) ?_
      obtain ⟨y9, hy10, h⟩ := bind_some h
      refine ox_y rfl (y_call [.agg #[.int .i64 p0_f.fRise, .int .i64 p0_f.fFall, .int .i64 p0_f.fUp, .int .i64 p0_f.fDown, .slice A0_4 p0_f.fLooks.length c0_4], .agg #[.int .i64 ((rdL p1_path s4.1).fFoot), .int .i64 ((rdL p1_path s4.1).fHour)]] go_57 rfl (fun W2 hW2 => fire_ends_ok p0_f (TSpot.mk ((rdL p1_path s4.1).fFoot) ((rdL p1_path s4.1).fHour)) y9 hy10 W2 A0_4 p0_f.fLooks.length c0_4 rfl ((RdL.arg hr0_4) W2 hW2)) rfl) ?_
      refine ox_y rfl (y_fieldN [.int .i64 y9.fSpan.fLo, .int .i64 y9.fSpan.fHi, .int .i64 y9.fLow, .int .i64 y9.fHigh] [.int .i64 y9.fSpan.fLo, .int .i64 y9.fSpan.fHi] fd_36_0 ag_32 rfl rfl) ?_
      refine ox_alloc ze_32 rfl (fun b11 => ?_)
      refine ox_n rfl (y_storeN 4 [.int .i64 y9.fSpan.fLo, .int .i64 y9.fSpan.fHi] sz_32 rfl (Nat.le_of_ble_eq_true rfl) rfl rfl rfl) ?_
      refine ox_nil ?_
      refine ex_then ?_
      obtain ⟨hg16, h⟩ := guardO_some h
      obtain ⟨hg20, h⟩ := guardO_some h
      refine cx_drawsG [[], [], [1], [1, 2], [0, 1, 2, 3], [], [], [6], [6, 7], [0, 1, 2, 3, 4, 5, 6, 7, 8], [0, 1, 2, 3, 4, 5, 6, 7, 8, 9], [0, 1, 2, 3, 4, 5, 6, 7, 8, 9, 10]] [(none, 0, [true, true, true, true, true]), (none, 0, [true, true, true, true, true]), (none, 0, [true, true, true, true, true]), (none, 1, [true, true, true, true, true]), (some 1, 0, [true, true, true, true, true, true]), (none, 0, [true, false, true, true, true, false]), (none, 0, [true, false, true, true, true, false]), (none, 0, [true, false, true, true, true, false]), (none, 1, [true, false, true, true, true, false]), (some 2, 0, [true, true, true, true, true, true, true]), (none, 0, [true, true, true, true, true, true, true]), (none, 0, [true, true, true, true, true, true, true])] [⟨fun _ => .slice A1_s4 s4.2.1.length c1_s4, fun _ => noR, fun _ => []⟩, ⟨fun _ => .pointer (some ⟨b11, 0 + 0, none⟩), fun _ => noR, fun _ => []⟩, ⟨fun _ => .int .i64 y9.fSpan.fLo, fun _ => noR, fun _ => []⟩, ⟨fun ξ12 => .slice (some ⟨(ξ12 3 0).2.1, 0, none⟩) 1 1, fun _ => noR, fun ξ12 => [rowR (some ⟨(ξ12 3 0).2.1, 0, none⟩) 1 3 1 1 (encL cI [y9.fSpan.fLo])]⟩, ⟨fun ξ12 => .slice (ξ12 4 0).1 (s4.2.1.length + 1) (ξ12 4 0).2.2, fun ξ12 => rowR (ξ12 4 0).1 (ξ12 4 0).2.2 3 1 (s4.2.1.length + 1) (encL cI (s4.2.1 ++ [y9.fSpan.fLo])), fun _ => []⟩, ⟨fun _ => .slice A2_s4 s4.2.2.length c2_s4, fun _ => noR, fun _ => []⟩, ⟨fun _ => .pointer (some ⟨b11, 0 + 1, none⟩), fun _ => noR, fun _ => []⟩, ⟨fun _ => .int .i64 y9.fSpan.fHi, fun _ => noR, fun _ => []⟩, ⟨fun ξ12 => .slice (some ⟨(ξ12 8 0).2.1, 0, none⟩) 1 1, fun _ => noR, fun ξ12 => [rowR (some ⟨(ξ12 8 0).2.1, 0, none⟩) 1 3 1 1 (encL cI [y9.fSpan.fHi])]⟩, ⟨fun ξ12 => .slice (ξ12 9 0).1 (s4.2.2.length + 1) (ξ12 9 0).2.2, fun ξ12 => rowR (ξ12 9 0).1 (ξ12 9 0).2.2 3 1 (s4.2.2.length + 1) (encL cI (s4.2.2 ++ [y9.fSpan.fHi])), fun _ => []⟩, ⟨fun ξ12 => .slice (ξ12 4 0).1 (s4.2.1.length + 1) (ξ12 4 0).2.2, fun _ => noR, fun _ => []⟩, ⟨fun ξ12 => .slice (ξ12 9 0).1 (s4.2.2.length + 1) (ξ12 9 0).2.2, fun _ => noR, fun _ => []⟩] 5 mixed (by kernel_rfl) (by kernel_rfl) ⟨⟨fun ξ12 ξ12' h => ⟨rfl, rfl, rfl⟩, fun _ => rfl⟩, ⟨fun ξ12 ξ12' h => ⟨rfl, rfl, rfl⟩, fun _ => rfl⟩, ⟨fun ξ12 ξ12' h => ⟨rfl, rfl, rfl⟩, fun _ => rfl⟩, ⟨fun ξ12 ξ12' h => ⟨by simp only [h 3 (.inl rfl)], rfl, by simp only [h 3 (.inl rfl)]⟩, fun _ => rfl⟩, ⟨fun ξ12 ξ12' h => ⟨by simp only [h 4 (.inl rfl)], by simp only [h 4 (.inl rfl)], rfl⟩, fun _ => rfl⟩, ⟨fun ξ12 ξ12' h => ⟨rfl, rfl, rfl⟩, fun _ => rfl⟩, ⟨fun ξ12 ξ12' h => ⟨rfl, rfl, rfl⟩, fun _ => rfl⟩, ⟨fun ξ12 ξ12' h => ⟨rfl, rfl, rfl⟩, fun _ => rfl⟩, ⟨fun ξ12 ξ12' h => ⟨by simp only [h 8 (.inl rfl)], rfl, by simp only [h 8 (.inl rfl)]⟩, fun _ => rfl⟩, ⟨fun ξ12 ξ12' h => ⟨by simp only [h 9 (.inl rfl)], by simp only [h 9 (.inl rfl)], rfl⟩, fun _ => rfl⟩, ⟨fun ξ12 ξ12' h => ⟨by simp only [h 4 (.inr rfl)], rfl, rfl⟩, fun _ => rfl⟩, ⟨fun ξ12 ξ12' h => ⟨by simp only [h 9 (.inr rfl)], rfl, rfl⟩, fun _ => rfl⟩, trivial⟩ rfl (fun ξ12 => ?_)
      refine gx_o rfl (fun L2 => ?_) ?_
      · dsimp only [maskL, List.cons_append, List.nil_append]
        refine ox_y rfl (y_move_slice rfl) ?_
        refine ox_nil ?_
        exact ex_capG (fun _ => (none, 0, 0)) rfl (List.append_nil _)
      dsimp only [aftL, List.set_cons_zero, List.set_cons_succ, List.nil_append, List.cons_append, List.append_nil]
      refine gx_o rfl (fun L2 => ?_) ?_
      · dsimp only [maskL, List.cons_append, List.nil_append]
        refine ox_y rfl (y_fieldAddr fo_32_0 rfl) ?_
        refine ox_nil ?_
        exact ex_capG (fun _ => (none, 0, 0)) rfl (List.append_nil _)
      dsimp only [aftL, List.set_cons_zero, List.set_cons_succ, List.nil_append, List.cons_append, List.append_nil]
      refine gx_o rfl (fun L2 => ?_) ?_
      · dsimp only [maskL, List.cons_append, List.nil_append]
        refine ox_y rfl (y_load1 4 (v := .int .i64 y9.fSpan.fLo) sc_3 rfl rfl rfl) ?_
        refine ox_nil ?_
        exact ex_capG (fun _ => (none, 0, 0)) rfl (List.append_nil _)
      dsimp only [aftL, List.set_cons_zero, List.set_cons_succ, List.nil_append, List.cons_append, List.append_nil]
      refine gx_o rfl (fun L2 => ?_) ?_
      · dsimp only [maskL, List.cons_append, List.nil_append]
        refine ox_buildSliceE 1 (encL cI [y9.fSpan.fLo]) _ mc_3_1 us_41 ze_3 by_3 (by decide) (by decide) (by kernel_rfl) (encL_len cI_len rfl) rfl (fun b13 => ?_)
        refine ox_nil ?_
        exact ex_capG (fun _ => (none, b13, 0)) rfl rfl
      dsimp only [aftL, List.set_cons_zero, List.set_cons_succ, List.nil_append, List.cons_append, List.append_nil]
      refine gx_o rfl (fun L2 => ?_) ?_
      · dsimp only [maskL, List.cons_append, List.nil_append]
        refine ox_append0 1 us_41 ze_3 by_3 rfl rfl rfl (RdL.row 5 rfl) (encL_len cI_len rfl) (encL_one cI_one _) (app_room hg16 (by decide)) rfl (fun A14 c15 => ?_)
        refine ox_nil ?_
        exact ex_capG (fun _ => (A14, 0, c15)) rfl (List.append_nil _)
      dsimp only [aftL, List.set_cons_zero, List.set_cons_succ, List.nil_append, List.cons_append, List.append_nil]
      refine gx_o rfl (fun L2 => ?_) ?_
      · dsimp only [maskL, List.cons_append, List.nil_append]
        refine ox_y rfl (y_move_slice rfl) ?_
        refine ox_nil ?_
        exact ex_capG (fun _ => (none, 0, 0)) rfl (List.append_nil _)
      dsimp only [aftL, List.set_cons_zero, List.set_cons_succ, List.nil_append, List.cons_append, List.append_nil]
      refine gx_o rfl (fun L2 => ?_) ?_
      · dsimp only [maskL, List.cons_append, List.nil_append]
        refine ox_y rfl (y_fieldAddr fo_32_1 rfl) ?_
        refine ox_nil ?_
        exact ex_capG (fun _ => (none, 0, 0)) rfl (List.append_nil _)
      dsimp only [aftL, List.set_cons_zero, List.set_cons_succ, List.nil_append, List.cons_append, List.append_nil]
      refine gx_o rfl (fun L2 => ?_) ?_
      · dsimp only [maskL, List.cons_append, List.nil_append]
        refine ox_y rfl (y_load1 4 (v := .int .i64 y9.fSpan.fHi) sc_3 rfl rfl rfl) ?_
        refine ox_nil ?_
        exact ex_capG (fun _ => (none, 0, 0)) rfl (List.append_nil _)
      dsimp only [aftL, List.set_cons_zero, List.set_cons_succ, List.nil_append, List.cons_append, List.append_nil]
      refine gx_o rfl (fun L2 => ?_) ?_
      · dsimp only [maskL, List.cons_append, List.nil_append]
        refine ox_buildSliceE 1 (encL cI [y9.fSpan.fHi]) _ mc_3_1 us_41 ze_3 by_3 (by decide) (by decide) (by kernel_rfl) (encL_len cI_len rfl) rfl (fun b17 => ?_)
        refine ox_nil ?_
        exact ex_capG (fun _ => (none, b17, 0)) rfl rfl
      dsimp only [aftL, List.set_cons_zero, List.set_cons_succ, List.nil_append, List.cons_append, List.append_nil]
      refine gx_o rfl (fun L2 => ?_) ?_
      · dsimp only [maskL, List.cons_append, List.nil_append]
        refine ox_append0 2 us_41 ze_3 by_3 rfl rfl rfl (RdL.row 6 rfl) (encL_len cI_len rfl) (encL_one cI_one _) (app_room hg20 (by decide)) rfl (fun A18 c19 => ?_)
        refine ox_nil ?_
        exact ex_capG (fun _ => (A18, 0, c19)) rfl (List.append_nil _)
      dsimp only [aftL, List.set_cons_zero, List.set_cons_succ, List.nil_append, List.cons_append, List.append_nil]
      refine gx_o rfl (fun L2 => ?_) ?_
      · dsimp only [maskL, List.cons_append, List.nil_append]
        refine ox_y rfl (y_assign_slice rfl) ?_
        refine ox_nil ?_
        exact ex_capG (fun _ => (none, 0, 0)) rfl (List.append_nil _)
      dsimp only [aftL, List.set_cons_zero, List.set_cons_succ, List.nil_append, List.cons_append, List.append_nil]
      refine gx_o rfl (fun L2 => ?_) ?_
      · dsimp only [maskL, List.cons_append, List.nil_append]
        refine ox_y rfl (y_assign_slice rfl) ?_
        refine ox_nil ?_
        exact ex_capG (fun _ => (none, 0, 0)) rfl (List.append_nil _)
      dsimp only [aftL, List.set_cons_zero, List.set_cons_succ, List.nil_append, List.cons_append, List.append_nil]
      refine gx_nil ?_
      refine ex_block ?_
      refine ex_then ?_
      refine cx_region ?_
      try dsimp only [List.nil_append, List.cons_append, List.set_cons_zero, List.set_cons_succ]
      refine ox_y rfl (y_add rfl rfl) ?_
      refine ox_y rfl (y_move_int rfl) ?_
      refine ox_nil ?_
      refine ex_take 3 ?_
      obtain rfl := Option.some.inj h
      exact ex_next ⟨_, (ξ12 4 0).1, (ξ12 4 0).2.2, (s4.2.1.length + 1), (ξ12 9 0).1, (ξ12 9 0).2.2, (s4.2.2.length + 1), (hn_app rfl rfl), (hn_app rfl rfl), rfl, (keep (keep (keep (keep (keep (keep (keep (keep rfl rfl) rfl) rfl) rfl) rfl) rfl) rfl) rfl)⟩
    · refine cx_false (congrArg Value.bool hp6) ?_
      refine cx_exit ?_
      refine ex_then_exit ?_
      obtain rfl := Option.some.inj h
      exact ex_stop ⟨rfl, _, A1_s4, c1_s4, s4.2.1.length, A2_s4, c2_s4, s4.2.2.length, rfl, rfl, rfl, (keep (keep (keep (keep (keep (keep (keep (keep rfl rfl) rfl) rfl) rfl) rfl) rfl) rfl) rfl)⟩
  · intro e L tm hJ
    obtain ⟨rfl, tm0_u5, A1_u5, c1_u5, n1_u5, A2_u5, c2_u5, n2_u5, rfl, rfl, rfl, rfl⟩ := hJ
    refine ⟨(by intro hc; cases hc), ?_⟩
    refine ex_block_here ?_
    refine ex_then ?_
    refine cx_seq ?_
    refine cx_region ?_
    refine ox_y rfl (y_move_slice rfl) ?_
    refine ox_y rfl (y_move_slice rfl) ?_
    refine ox_y rfl (y_assign_slice rfl) ?_
    refine ox_y rfl (y_assign_slice rfl) ?_
    refine ox_nil ?_
    refine ex_then ?_
    refine cx_ret ?_
    obtain rfl := Option.some.inj h
    exact ex_res2 (.inl rfl) rfl (resV_tmp (v := .slice A1_u5 u5.2.1.length c1_u5) rfl) (resV_tmp (v := .slice A2_u5 u5.2.2.length c2_u5) rfl) (fun W2 hW2 => ⟨((A1_u5, u5.2.1.length, c1_u5), (A2_u5, u5.2.2.length, c2_u5)), ⟨rfl, rfl⟩, rfl, hW2.pick2 1 2 (by decide) rfl rfl⟩)

/-! calx/fire.burnt -/
set_option maxRecDepth 100000 in
theorem fire_burnt_ok (p0_heats : (List Int)) (p1_need : Int) (res : TBurn) (h : fire_burnt p0_heats p1_need = some res) (W : World) (A0_0 : Option Addr) (n0_0 c0_0 : Nat) (hn0_0 : n0_0 = p0_heats.length) (hr0_0 : Rd W A0_0 n0_0 c0_0 (encL cI p0_heats)) :
    Calls Try.prog 65 [.slice A0_0 n0_0 c0_0, .int .i64 p1_need].toArray W fun e W2 => e = .returned (.agg #[.int .i64 res.fHours, .int .i64 res.fRow, .int .i64 res.fSum]) ∧ Ext W W2 [] := by
  subst hn0_0
  unfold fire_burnt at h
  refine calls_enter (m := 38) Try.func65 rfl rfl (Nat.le_of_ble_eq_true rfl) ?_
  refine cx_seq ?_
  refine cx_region ?_
  refine ox_alloc ze_49 rfl (fun b1 => ?_)
  refine ox_nil ?_
  refine ex_then ?_
  refine cx_seq ?_
  refine cx_region ?_
  refine ox_alloc ze_49 rfl (fun b2 => ?_)
  refine ox_nil ?_
  refine ex_then ?_
  refine cx_seq ?_
  refine cx_region ?_
  refine ox_y rfl (y_assign_int rfl) ?_
  refine ox_nil ?_
  refine ex_then ?_
  refine cx_seq ?_
  refine cx_seq ?_
  refine cx_region ?_
  refine ox_y rfl (y_move_slice rfl) ?_
  refine ox_y rfl (y_len (us := []) us_41 rfl) ?_
  refine ox_y rfl (y_move_int rfl) ?_
  refine ox_nil ?_
  refine ex_then ?_
  refine cx_block ?_
  obtain ⟨u6, hl10, h⟩ := bind_some h
  refine cx_loop (fun (s : (Int × Int × Int × Int × Int)) L tm => ∃ (tm0 : Nat → Value), L = [cellsR b1 49 [.int .i64 0, .int .i64 0, .int .i64 0], cellsR b2 49 [.int .i64 s.2.2.1, .int .i64 s.2.2.2.1, .int .i64 s.2.2.2.2]] ∧ tm = (upd (upd (upd (upd (upd (upd (upd (upd tm0 0 (.slice A0_0 p0_heats.length c0_0)) 1 (.int .i64 p1_need)) 4 (.pointer (some ⟨b1, 0, none⟩))) 5 (.pointer (some ⟨b2, 0, none⟩))) 6 (.int .i64 s.1)) 9 (.slice A0_0 p0_heats.length c0_0)) 10 (.int .i64 ((p0_heats.length : Nat) : Int))) 11 (.int .i64 s.2.1))) (fun s e L tm => e = .exit 0 ∧ ∃ (tm0 : Nat → Value), L = [cellsR b1 49 [.int .i64 0, .int .i64 0, .int .i64 0], cellsR b2 49 [.int .i64 s.2.2.1, .int .i64 s.2.2.2.1, .int .i64 s.2.2.2.2]] ∧ tm = (upd (upd (upd (upd (upd (upd (upd (upd tm0 0 (.slice A0_0 p0_heats.length c0_0)) 1 (.int .i64 p1_need)) 4 (.pointer (some ⟨b1, 0, none⟩))) 5 (.pointer (some ⟨b2, 0, none⟩))) 6 (.int .i64 s.1)) 9 (.slice A0_0 p0_heats.length c0_0)) 10 (.int .i64 ((p0_heats.length : Nat) : Int))) 11 (.int .i64 s.2.1))) hl10 ⟨_, rfl, (keep (keep (keep (keep (keep (keep (keep (keep rfl rfl) rfl) rfl) rfl) rfl) rfl) rfl) rfl)⟩ ?_ ?_
  · rintro s5 L tm st ⟨tm0_s5, rfl, rfl⟩ h
    unfold fire_burnt_l1 at h
    refine cx_seq ?_
    refine cx_region ?_
    refine ox_y rfl (y_lss rfl rfl) ?_
    refine ox_nil ?_
    refine ex_then ?_
    refine cx_seq ?_
    rcases ite_some h with ⟨hp7, h⟩ | ⟨hp7, h⟩
    · refine cx_true (congrArg Value.bool hp7) ?_
      refine cx_skip ?_
      refine ex_then ?_
      refine cx_seq ?_
      refine cx_block ?_
      refine cx_seq ?_
      refine cx_region ?_
      obtain ⟨hg8, h⟩ := guardO_some h
      refine ox_y rfl (y_indexR sl_41 (by decide) hg8.1 hg8.2 (RdL.arg hr0_0) (encL_len cI_len rfl) rfl rfl) ?_
      refine ox_y rfl (y_loadR1 (A := A0_0) (j := (Int.toNat s5.2.1 * 1)) (v := .int .i64 (rdL p0_heats s5.2.1)) sc_3 (RdL.arg hr0_0) rfl (encL_get0 cI_len hg8.1 (lt_nat hg8.2 rfl) rfl)) ?_
      refine ox_y rfl (y_assign_int rfl) ?_
      refine ox_nil ?_
      refine ex_then ?_
      refine cx_seq ?_
      refine cx_seq ?_
      refine cx_region ?_
      refine ox_y rfl (y_move_int rfl) ?_
      refine ox_y rfl (y_move_int rfl) ?_
      refine ox_y rfl (y_lss rfl rfl) ?_
      refine ox_nil ?_
      refine ex_then ?_
      rcases ite_some h with ⟨hp9, h⟩ | ⟨hp9, h⟩
      · refine cx_true (congrArg Value.bool hp9) ?_
        refine cx_seq ?_
        refine cx_region ?_
        refine ox_y rfl (y_assign_int rfl) ?_
        refine ox_nil ?_
        refine ex_then ?_
        refine cx_exit ?_
        refine ex_then_exit ?_
        refine ex_block_here ?_
        refine ex_then ?_
        refine cx_region ?_
        refine ox_y rfl (y_add rfl rfl) ?_
        refine ox_y rfl (y_move_int rfl) ?_
        refine ox_nil ?_
        obtain rfl := Option.some.inj h
        exact ex_next ⟨_, rfl, (keep (keep (keep (keep (keep (keep (keep (keep rfl rfl) rfl) rfl) rfl) rfl) rfl) rfl) rfl)⟩
      · refine cx_false (congrArg Value.bool hp9) ?_
        refine cx_skip ?_
        refine ex_then ?_
        refine cx_seq ?_
        refine cx_region ?_
        refine ox_y rfl (y_move_int rfl) ?_
        refine ox_y rfl (y_add rfl rfl) ?_
        refine ox_y rfl (y_assign_int rfl) ?_
        refine ox_nil ?_
        refine ex_then ?_
        refine cx_seq ?_
        refine cx_region ?_
        refine ox_y rfl (y_fieldAddr fo_49_0 rfl) ?_
        refine ox_y rfl (y_load1 1 (v := .int .i64 s5.2.2.1) sc_3 rfl rfl rfl) ?_
        refine ox_y rfl (y_add rfl rfl) ?_
        refine ox_y rfl (y_fieldAddr fo_49_0 rfl) ?_
        refine ox_n rfl (y_store1 1 (v := .int .i64 (w64 (s5.2.2.1 + 1))) sz_3 rfl (Nat.lt_of_lt_of_le (Nat.lt_succ_self _) (Nat.le_of_ble_eq_true rfl)) rfl rfl rfl) ?_
        refine ox_nil ?_
        refine ex_then ?_
        refine cx_seq ?_
        refine cx_region ?_
        refine ox_y rfl (y_fieldAddr fo_49_1 rfl) ?_
        refine ox_y rfl (y_load1 1 (v := .int .i64 s5.2.2.2.1) sc_3 rfl rfl rfl) ?_
        refine ox_y rfl (y_move_int rfl) ?_
        refine ox_y rfl (y_max rfl rfl) ?_
        refine ox_y rfl (y_fieldAddr fo_49_1 rfl) ?_
        refine ox_n rfl (y_store1 1 (v := .int .i64 (max s5.2.2.2.1 (w64 (s5.1 + 1)))) sz_3 rfl (Nat.lt_of_lt_of_le (Nat.lt_succ_self _) (Nat.le_of_ble_eq_true rfl)) rfl rfl rfl) ?_
        refine ox_nil ?_
        refine ex_then ?_
        refine cx_region ?_
        refine ox_y rfl (y_fieldAddr fo_49_2 rfl) ?_
        refine ox_y rfl (y_load1 1 (v := .int .i64 s5.2.2.2.2) sc_3 rfl rfl rfl) ?_
        refine ox_y rfl (y_move_int rfl) ?_
        refine ox_y rfl (y_move_int rfl) ?_
        refine ox_y rfl (y_sub rfl rfl) ?_
        refine ox_y rfl (y_add rfl rfl) ?_
        refine ox_y rfl (y_fieldAddr fo_49_2 rfl) ?_
        refine ox_n rfl (y_store1 1 (v := .int .i64 (w64 (s5.2.2.2.2 + (w64 ((rdL p0_heats s5.2.1) - p1_need))))) sz_3 rfl (Nat.lt_of_lt_of_le (Nat.lt_succ_self _) (Nat.le_of_ble_eq_true rfl)) rfl rfl rfl) ?_
        refine ox_nil ?_
        refine ex_block ?_
        refine ex_then ?_
        refine cx_region ?_
        refine ox_y rfl (y_add rfl rfl) ?_
        refine ox_y rfl (y_move_int rfl) ?_
        refine ox_nil ?_
        obtain rfl := Option.some.inj h
        exact ex_next ⟨_, rfl, (keep (keep (keep (keep (keep (keep (keep (keep rfl rfl) rfl) rfl) rfl) rfl) rfl) rfl) rfl)⟩
    · refine cx_false (congrArg Value.bool hp7) ?_
      refine cx_exit ?_
      refine ex_then_exit ?_
      obtain rfl := Option.some.inj h
      exact ex_stop ⟨rfl, _, rfl, (keep (keep (keep (keep (keep (keep (keep (keep rfl rfl) rfl) rfl) rfl) rfl) rfl) rfl) rfl)⟩
  · intro e L tm hJ
    obtain ⟨rfl, tm0_u6, rfl, rfl⟩ := hJ
    refine ⟨(by intro hc; cases hc), ?_⟩
    refine ex_block_here ?_
    refine ex_then ?_
    refine cx_seq ?_
    refine cx_region ?_
    refine ox_y rfl (y_loadN 1 [.int .i64 u6.2.2.1, .int .i64 u6.2.2.2.1, .int .i64 u6.2.2.2.2] ag_49 rfl rfl rfl) ?_
    refine ox_n rfl (y_storeN 0 [.int .i64 u6.2.2.1, .int .i64 u6.2.2.2.1, .int .i64 u6.2.2.2.2] sz_49 rfl (Nat.le_of_ble_eq_true rfl) rfl rfl rfl) ?_
    refine ox_nil ?_
    refine ex_then ?_
    refine cx_ret ?_
    obtain rfl := Option.some.inj h
    exact ex_res1 (.inl rfl) rfl (resV_cellN 0 [.int .i64 u6.2.2.1, .int .i64 u6.2.2.2.1, .int .i64 u6.2.2.2.2] ag_49 rfl rfl rfl) (fun W2 hW2 => ⟨rfl, hW2.none⟩)

/-! calx/fire.Burnt -/
set_option maxRecDepth 100000 in
theorem fire_Burnt_ok (p0_f : TFire) (p1_path : (List TSpot)) (p2_need : Int) (res : (TBurn × TBurn × Int)) (h : fire_Burnt p0_f p1_path p2_need = some res) (W : World) (A0_4 : Option Addr) (n0_4 c0_4 : Nat) (hn0_4 : n0_4 = p0_f.fLooks.length) (hr0_4 : Rd W A0_4 n0_4 c0_4 (encL TLook_cells p0_f.fLooks)) (A1_0 : Option Addr) (n1_0 c1_0 : Nat) (hn1_0 : n1_0 = p1_path.length) (hr1_0 : Rd W A1_0 n1_0 c1_0 (encL TSpot_cells p1_path)) :
    Calls Try.prog 19 [.agg #[.int .i64 p0_f.fRise, .int .i64 p0_f.fFall, .int .i64 p0_f.fUp, .int .i64 p0_f.fDown, .slice A0_4 n0_4 c0_4], .slice A1_0 n1_0 c1_0, .int .i64 p2_need].toArray W fun e W2 => e = .returned (.tuple #[.agg #[.int .i64 res.1.fHours, .int .i64 res.1.fRow, .int .i64 res.1.fSum], .agg #[.int .i64 res.2.1.fHours, .int .i64 res.2.1.fRow, .int .i64 res.2.1.fSum], .int .i64 res.2.2]) ∧ Ext W W2 [] := by
  subst hn0_4
  subst hn1_0
  unfold fire_Burnt at h
  refine calls_enter (m := 33) Try.func19 rfl rfl (Nat.le_of_ble_eq_true rfl) ?_
  refine cx_seq ?_
  refine cx_region ?_
  refine ox_box [.int .i64 p0_f.fRise, .int .i64 p0_f.fFall, .int .i64 p0_f.fUp, .int .i64 p0_f.fDown, .slice A0_4 p0_f.fLooks.length c0_4] rfl rfl rfl (fun b1 => ?_)
  refine ox_alloc ze_49 rfl (fun b2 => ?_)
  refine ox_alloc ze_49 rfl (fun b3 => ?_)
  refine ox_y rfl (y_assign_int rfl) ?_
  refine ox_nil ?_
  refine ex_then ?_
  refine cx_seq ?_
  refine cx_seq ?_
  refine cx_region ?_
  refine ox_y rfl (y_loadN 0 [.int .i64 p0_f.fRise, .int .i64 p0_f.fFall, .int .i64 p0_f.fUp, .int .i64 p0_f.fDown, .slice A0_4 p0_f.fLooks.length c0_4] ag_24 rfl rfl rfl) ?_
  refine ox_y rfl (y_move_slice rfl) ?_
  refine ox_y rfl (y_move_int rfl) ?_
  obtain ⟨y4, hy5, h⟩ := bind_some h
  refine ox_y rfl (y_call [.agg #[.int .i64 p0_f.fRise, .int .i64 p0_f.fFall, .int .i64 p0_f.fUp, .int .i64 p0_f.fDown, .slice A0_4 p0_f.fLooks.length c0_4], .slice A1_0 p1_path.length c1_0, .int .i64 p2_need] go_63 rfl (fun W2 hW2 => fire_walked_ok p0_f p1_path p2_need y4 hy5 W2 A0_4 p0_f.fLooks.length c0_4 rfl ((RdL.arg hr0_4) W2 hW2) A1_0 p1_path.length c1_0 rfl ((RdL.arg hr1_0) W2 hW2)) rfl) ?_
  refine ox_y rfl (y_assign_int rfl) ?_
  refine ox_nil ?_
  refine ex_then ?_
  refine cx_seq ?_
  refine cx_region ?_
  refine ox_y rfl (y_move_int rfl) ?_
  refine ox_y rfl (y_neq rfl rfl) ?_
  refine ox_nil ?_
  refine ex_then ?_
  rcases ite_some h with ⟨hp6, h⟩ | ⟨hp6, h⟩
  · refine cx_true (congrArg Value.bool hp6) ?_
    refine cx_seq ?_
    refine cx_region ?_
    refine ox_y rfl (y_buildS [.int .i64 0, .int .i64 0, .int .i64 0] [(0, 1), (1, 1), (2, 1)] ust_49 ze_49 (by kernel_rfl)) ?_
    refine ox_y rfl (y_buildS [.int .i64 0, .int .i64 0, .int .i64 0] [(0, 1), (1, 1), (2, 1)] ust_49 ze_49 (by kernel_rfl)) ?_
    refine ox_y rfl (y_move_int rfl) ?_
    refine ox_n rfl (y_storeN 1 [.int .i64 0, .int .i64 0, .int .i64 0] sz_49 rfl (Nat.le_of_ble_eq_true rfl) rfl rfl rfl) ?_
    refine ox_n rfl (y_storeN 2 [.int .i64 0, .int .i64 0, .int .i64 0] sz_49 rfl (Nat.le_of_ble_eq_true rfl) rfl rfl rfl) ?_
    refine ox_y rfl (y_assign_int rfl) ?_
    refine ox_nil ?_
    refine ex_then ?_
    refine cx_ret ?_
    refine ex_then_ret ?_
    obtain rfl := Option.some.inj h
    exact ex_res3 (.inl rfl) rfl (resV_cellN 1 [.int .i64 0, .int .i64 0, .int .i64 0] ag_49 rfl rfl rfl) (resV_cellN 2 [.int .i64 0, .int .i64 0, .int .i64 0] ag_49 rfl rfl rfl) (resV_tmp (v := .int .i64 y4) rfl) (fun W2 hW2 => ⟨rfl, hW2.none⟩)
  · refine cx_false (congrArg Value.bool hp6) ?_
    refine cx_skip ?_
    refine ex_then ?_
    refine cx_seq ?_
    refine cx_region ?_
    refine ox_y rfl (y_loadN 0 [.int .i64 p0_f.fRise, .int .i64 p0_f.fFall, .int .i64 p0_f.fUp, .int .i64 p0_f.fDown, .slice A0_4 p0_f.fLooks.length c0_4] ag_24 rfl rfl rfl) ?_
    refine ox_y rfl (y_move_slice rfl) ?_
    obtain ⟨y7, hy8, h⟩ := bind_some h
    refine ox_call [.agg #[.int .i64 p0_f.fRise, .int .i64 p0_f.fFall, .int .i64 p0_f.fUp, .int .i64 p0_f.fDown, .slice A0_4 p0_f.fLooks.length c0_4], .slice A1_0 p1_path.length c1_0] _ _ _ rfl go_64 rfl (fun W2 hW2 => fire_heats_ok p0_f p1_path y7 hy8 W2 A0_4 p0_f.fLooks.length c0_4 rfl ((RdL.arg hr0_4) W2 hW2) A1_0 p1_path.length c1_0 rfl ((RdL.arg hr1_0) W2 hW2)) ?_
    rintro ⟨⟨A9, n13, c10⟩, ⟨A11, n15, c12⟩⟩ ⟨hn14, hn16⟩
    replace hn14 : n13 = y7.1.length := hn14; subst hn14
    replace hn16 : n15 = y7.2.length := hn16; subst hn16
    refine ox_y rfl (y_move_tuple rfl) ?_
    refine ox_y rfl (y_extract (vs := [.slice A9 y7.1.length c10, .slice A11 y7.2.length c12]) (v := .slice A9 y7.1.length c10) rfl rfl) ?_
    refine ox_y rfl (y_extract (vs := [.slice A9 y7.1.length c10, .slice A11 y7.2.length c12]) (v := .slice A11 y7.2.length c12) rfl rfl) ?_
    refine ox_y rfl (y_assign_slice rfl) ?_
    refine ox_y rfl (y_assign_slice rfl) ?_
    refine ox_nil ?_
    refine ex_then ?_
    refine cx_seq ?_
    refine cx_region ?_
    refine ox_y rfl (y_move_slice rfl) ?_
    refine ox_y rfl (y_move_int rfl) ?_
    obtain ⟨y17, hy18, h⟩ := bind_some h
    refine ox_y rfl (y_call [.slice A9 y7.1.length c10, .int .i64 p2_need] go_65 rfl (fun W2 hW2 => fire_burnt_ok y7.1 p2_need y17 hy18 W2 A9 y7.1.length c10 rfl ((RdL.row 3 rfl) W2 hW2)) rfl) ?_
    refine ox_y rfl (y_move_slice rfl) ?_
    refine ox_y rfl (y_move_int rfl) ?_
    obtain ⟨y19, hy20, h⟩ := bind_some h
    refine ox_y rfl (y_call [.slice A11 y7.2.length c12, .int .i64 p2_need] go_65 rfl (fun W2 hW2 => fire_burnt_ok y7.2 p2_need y19 hy20 W2 A11 y7.2.length c12 rfl ((RdL.row 4 rfl) W2 hW2)) rfl) ?_
    refine ox_n rfl (y_storeN 1 [.int .i64 y17.fHours, .int .i64 y17.fRow, .int .i64 y17.fSum] sz_49 rfl (Nat.le_of_ble_eq_true rfl) rfl rfl rfl) ?_
    refine ox_n rfl (y_storeN 2 [.int .i64 y19.fHours, .int .i64 y19.fRow, .int .i64 y19.fSum] sz_49 rfl (Nat.le_of_ble_eq_true rfl) rfl rfl rfl) ?_
    refine ox_y rfl (y_assign_int rfl) ?_
    refine ox_nil ?_
    refine ex_then ?_
    refine cx_ret ?_
    obtain rfl := Option.some.inj h
    exact ex_res3 (.inl rfl) rfl (resV_cellN 1 [.int .i64 y17.fHours, .int .i64 y17.fRow, .int .i64 y17.fSum] ag_49 rfl rfl rfl) (resV_cellN 2 [.int .i64 y19.fHours, .int .i64 y19.fRow, .int .i64 y19.fSum] ag_49 rfl rfl rfl) (resV_tmp (v := .int .i64 0) rfl) (fun W2 hW2 => ⟨rfl, hW2.none⟩)

/-! calx/fire.hot -/
set_option maxRecDepth 100000 in
theorem fire_hot_ok (p0_heats : (List Int)) (p1_need : Int) (res : (List TSpan)) (h : fire_hot p0_heats p1_need = some res) (W : World) (A0_0 : Option Addr) (n0_0 c0_0 : Nat) (hn0_0 : n0_0 = p0_heats.length) (hr0_0 : Rd W A0_0 n0_0 c0_0 (encL cI p0_heats)) :
    Calls Try.prog 68 [.slice A0_0 n0_0 c0_0, .int .i64 p1_need].toArray W fun e W2 => ∃ x : Option Addr × Nat × Nat, x.2.1 = res.length ∧ e = .returned (.slice x.1 x.2.1 x.2.2) ∧ Ext W W2 [rowR x.1 x.2.2 32 2 x.2.1 (encL TSpan_cells res)] := by
  subst hn0_0
  unfold fire_hot at h
  refine calls_enter (m := 48) Try.func68 rfl rfl (Nat.le_of_ble_eq_true rfl) ?_
  refine cx_seq ?_
  refine cx_region ?_
  refine ox_y rfl (y_assign_slice rfl) ?_
  refine ox_nil ?_
  refine ex_then ?_
  refine cx_seq ?_
  refine cx_region ?_
  refine ox_y rfl (y_assign_slice rfl) ?_
  refine ox_nil ?_
  refine ex_then ?_
  refine cx_seq ?_
  refine cx_seq ?_
  refine cx_region ?_
  refine ox_y rfl (y_move_slice rfl) ?_
  refine ox_y rfl (y_len (us := []) us_41 rfl) ?_
  refine ox_y rfl (y_move_int rfl) ?_
  refine ox_nil ?_
  refine ex_then ?_
  refine cx_block ?_
  obtain ⟨u4, hl18, h⟩ := bind_some h
  refine cx_nilrow 32 2 ?_
  refine cx_loop (fun (s : (Int × (List TSpan))) L tm => ∃ (tm0 : Nat → Value) (A0_s : Option Addr) (c0_s : Nat) (n0_s : Nat), n0_s = s.2.length ∧ L = [rowR A0_s c0_s 32 2 n0_s (encL TSpan_cells s.2)] ∧ tm = (upd (upd (upd (upd (upd (upd (upd tm0 0 (.slice A0_0 p0_heats.length c0_0)) 1 (.int .i64 p1_need)) 4 (.slice none 0 0)) 5 (.slice A0_s n0_s c0_s)) 9 (.slice A0_0 p0_heats.length c0_0)) 10 (.int .i64 ((p0_heats.length : Nat) : Int))) 11 (.int .i64 s.1))) (fun s e L tm => e = .exit 0 ∧ ∃ (tm0 : Nat → Value) (A0_s : Option Addr) (c0_s : Nat) (n0_s : Nat), n0_s = s.2.length ∧ L = [rowR A0_s c0_s 32 2 n0_s (encL TSpan_cells s.2)] ∧ tm = (upd (upd (upd (upd (upd (upd (upd tm0 0 (.slice A0_0 p0_heats.length c0_0)) 1 (.int .i64 p1_need)) 4 (.slice none 0 0)) 5 (.slice A0_s n0_s c0_s)) 9 (.slice A0_0 p0_heats.length c0_0)) 10 (.int .i64 ((p0_heats.length : Nat) : Int))) 11 (.int .i64 s.1))) hl18 ⟨_, none, 0, 0, rfl, rfl, (keep (keep (keep (keep (keep (keep (keep rfl rfl) rfl) rfl) rfl) rfl) rfl) rfl)⟩ ?_ ?_
  · rintro s3 L tm st ⟨tm0_s3, A0_s3, c0_s3, n0_s3, rfl, rfl, rfl⟩ h
    unfold fire_hot_l1 at h
    refine cx_seq ?_
    refine cx_region ?_
    refine ox_y rfl (y_lss rfl rfl) ?_
    refine ox_nil ?_
    refine ex_then ?_
    refine cx_seq ?_
    rcases ite_some h with ⟨hp5, h⟩ | ⟨hp5, h⟩
    · refine cx_true (congrArg Value.bool hp5) ?_
      refine cx_skip ?_
      refine ex_then ?_
      refine cx_seq ?_
      refine cx_block ?_
      refine cx_seq ?_
      refine cx_region ?_
      refine ox_y rfl (y_move_int rfl) ?_
      obtain ⟨hg6, h⟩ := guardO_some h
      refine ox_y rfl (y_indexR sl_41 (by decide) hg6.1 hg6.2 (RdL.arg hr0_0) (encL_len cI_len rfl) rfl rfl) ?_
      refine ox_y rfl (y_loadR1 (A := A0_0) (j := (Int.toNat s3.1 * 1)) (v := .int .i64 (rdL p0_heats s3.1)) sc_3 (RdL.arg hr0_0) rfl (encL_get0 cI_len hg6.1 (lt_nat hg6.2 rfl) rfl)) ?_
      refine ox_y rfl (y_assign_int rfl) ?_
      refine ox_y rfl (y_assign_int rfl) ?_
      refine ox_nil ?_
      refine ex_then ?_
      refine cx_seq ?_
      refine cx_seq ?_
      refine cx_region ?_
      refine ox_y rfl (y_move_int rfl) ?_
      refine ox_y rfl (y_move_int rfl) ?_
      refine ox_y rfl (y_lss rfl rfl) ?_
      refine ox_nil ?_
      refine ex_then ?_
      rcases ite_some h with ⟨hp7, h⟩ | ⟨hp7, h⟩
      · refine cx_true (congrArg Value.bool hp7) ?_
        refine cx_exit ?_
        refine ex_then_exit ?_
        refine ex_block_here ?_
        refine ex_then ?_
        refine cx_region ?_
        refine ox_y rfl (y_add rfl rfl) ?_
        refine ox_y rfl (y_move_int rfl) ?_
        refine ox_nil ?_
        obtain rfl := Option.some.inj h
        exact ex_next ⟨_, A0_s3, c0_s3, s3.2.length, rfl, rfl, (keep (keep (keep (keep (keep (keep (keep rfl rfl) rfl) rfl) rfl) rfl) rfl) rfl)⟩
      · refine cx_false (congrArg Value.bool hp7) ?_
        refine cx_skip ?_
        refine ex_then ?_
        refine cx_seq ?_
        refine cx_region ?_
        refine ox_y rfl (y_move_slice rfl) ?_
        refine ox_y rfl (y_len (us := []) us_55 rfl) ?_
        refine ox_y rfl (y_assign_int rfl) ?_
        refine ox_nil ?_
        refine ex_then ?_
        refine cx_seq ?_
        refine cx_region ?_
        refine ox_y rfl (y_move_int rfl) ?_
        refine ox_y rfl (y_gtr rfl rfl) ?_
        refine ox_y rfl (y_move_bool rfl) ?_
        obtain ⟨b9, hb10, h⟩ := bind_some h
        refine ox_join 10 (fun tm0 => (upd (upd (upd (upd (upd (upd (upd (upd (upd (upd (upd (upd (upd tm0 0 (.slice A0_0 p0_heats.length c0_0)) 1 (.int .i64 p1_need)) 4 (.slice none 0 0)) 5 (.slice A0_s3 s3.2.length c0_s3)) 9 (.slice A0_0 p0_heats.length c0_0)) 10 (.int .i64 ((p0_heats.length : Nat) : Int))) 11 (.int .i64 s3.1)) 12 (.bool (decide (s3.1 < ((p0_heats.length : Nat) : Int))))) 6 (.int .i64 s3.1)) 7 (.int .i64 (rdL p0_heats s3.1))) 18 (.bool (decide ((rdL p0_heats s3.1) < p1_need)))) 8 (.int .i64 ((s3.2.length : Nat) : Int))) 33 (.bool b9))) (fun tm0 => ?_) (fun key => ?_)
        · refine ox_nil ?_
          refine ex_then ?_
          rcases ite_some h with ⟨hp11, h⟩ | ⟨hp11, h⟩
          · refine cx_true (congrArg Value.bool hp11) ?_
            refine cx_region ?_
            refine ox_y rfl (y_move_slice rfl) ?_
            refine ox_y rfl (y_move_int rfl) ?_
            refine ox_y rfl (y_sub rfl rfl) ?_
            refine ox_y rfl (y_move_int rfl) ?_
            obtain ⟨hg12, h⟩ := guardO_some h
            refine ox_y rfl (y_indexR sl_55 (by decide) hg12.1 hg12.2 (RdL.row 0 rfl) (encL_len TSpan_cells_len rfl) rfl rfl) ?_
            refine ox_y rfl (y_fieldAddrR (A := A0_s3) (j := (Int.toNat (w64 (((s3.2.length : Nat) : Int) - 1)) * 2)) fo_32_1 rfl) ?_
            refine ox_n rfl (y_storeRF 0 (xs := s3.2) TSpan_cells_len (TSpan.mk ((rdL s3.2 (w64 (((s3.2.length : Nat) : Int) - 1))).fLo) s3.1) 1 (by decide) sz_3 rfl hg12.1 (lt_nat hg12.2 rfl) rfl rfl rfl rfl) ?_
            refine ox_nil ?_
            refine ex_block ?_
            refine ex_then ?_
            refine cx_region ?_
            refine ox_y rfl (y_add rfl rfl) ?_
            refine ox_y rfl (y_move_int rfl) ?_
            refine ox_nil ?_
            obtain rfl := Option.some.inj h
            exact ex_next ⟨_, A0_s3, c0_s3, s3.2.length, (hn_set rfl), rfl, (keep (keep (keep (keep (keep (keep (keep rfl rfl) rfl) rfl) rfl) rfl) rfl) rfl)⟩
          · refine cx_false (congrArg Value.bool hp11) ?_
            refine cx_region ?_
            refine ox_y rfl (y_move_slice rfl) ?_
            refine ox_y rfl (y_move_int rfl) ?_
            refine ox_y rfl (y_move_int rfl) ?_
            refine ox_y rfl (y_buildS [.int .i64 s3.1, .int .i64 s3.1] [(0, 1), (1, 1)] ust_32 ze_32 (by kernel_rfl)) ?_
            refine ox_buildSliceE 1 (encL TSpan_cells [(TSpan.mk s3.1 s3.1)]) _ mc_32_1 us_55 ze_32 by_32 (by decide) (by decide) (by kernel_rfl) (encL_len TSpan_cells_len rfl) rfl (fun b13 => ?_)
            obtain ⟨hg16, h⟩ := guardO_some h
            refine ox_append0 0 us_55 ze_32 by_32 rfl rfl rfl (RdL.row 1 rfl) (encL_len TSpan_cells_len rfl) (encL_one TSpan_cells_one _) (app_room hg16 (by decide)) rfl (fun A14 c15 => ?_)
            refine ox_y rfl (y_assign_slice rfl) ?_
            refine ox_nil ?_
            refine ex_block ?_
            refine ex_then ?_
            refine cx_region ?_
            refine ox_y rfl (y_add rfl rfl) ?_
            refine ox_y rfl (y_move_int rfl) ?_
            refine ox_nil ?_
            refine ex_take 1 ?_
            obtain rfl := Option.some.inj h
            exact ex_next ⟨_, A14, c15, (s3.2.length + 1), (hn_app rfl rfl), rfl, (keep (keep (keep (keep (keep (keep (keep rfl rfl) rfl) rfl) rfl) rfl) rfl) rfl)⟩
        · clear h; rcases ite_some hb10 with ⟨hp8, h⟩ | ⟨hp8, h⟩
          · refine ox_y (sees_t rfl rfl rfl rfl hp8) (y_move_slice rfl) ?_
            refine ox_y (sees_t rfl rfl rfl rfl hp8) (y_move_int rfl) ?_
            refine ox_y (sees_t rfl rfl rfl rfl hp8) (y_sub rfl rfl) ?_
            obtain ⟨hg17, h⟩ := guardO_some h
            refine ox_y (sees_t rfl rfl rfl rfl hp8) (y_indexR sl_55 (by decide) hg17.1 hg17.2 (RdL.row 0 rfl) (encL_len TSpan_cells_len rfl) rfl rfl) ?_
            refine ox_y (sees_t rfl rfl rfl rfl hp8) (y_fieldAddrR (A := A0_s3) (j := (Int.toNat (w64 (((s3.2.length : Nat) : Int) - 1)) * 2)) fo_32_1 rfl) ?_
            refine ox_y (sees_t rfl rfl rfl rfl hp8) (y_loadR1 (A := A0_s3) (j := ((Int.toNat (w64 (((s3.2.length : Nat) : Int) - 1)) * 2) + 1)) (v := .int .i64 ((rdL s3.2 (w64 (((s3.2.length : Nat) : Int) - 1))).fHi)) sc_3 (RdL.row 0 rfl) rfl (encL_get TSpan_cells_len hg17.1 (lt_nat hg17.2 rfl) rfl)) ?_
            refine ox_y (sees_t rfl rfl rfl rfl hp8) (y_move_int rfl) ?_
            refine ox_y (sees_t rfl rfl rfl rfl hp8) (y_sub rfl rfl) ?_
            refine ox_y (sees_t rfl rfl rfl rfl hp8) (y_eql rfl rfl) ?_
            refine ox_y rfl (y_pick_tb (congrArg Value.bool hp8) rfl) ?_
            obtain rfl := Option.some.inj h
            exact key _ _ (keep (keep (keep (keep (keep (keep (keep (keep (keep (keep (keep (keep (keep rfl rfl) rfl) rfl) rfl) rfl) rfl) rfl) rfl) rfl) rfl) rfl) rfl) rfl)
          · refine ox_skip (sees_f rfl rfl rfl rfl hp8) ?_
            refine ox_skip (sees_f rfl rfl rfl rfl hp8) ?_
            refine ox_skip (sees_f rfl rfl rfl rfl hp8) ?_
            refine ox_skip (sees_f rfl rfl rfl rfl hp8) ?_
            refine ox_skip (sees_f rfl rfl rfl rfl hp8) ?_
            refine ox_skip (sees_f rfl rfl rfl rfl hp8) ?_
            refine ox_skip (sees_f rfl rfl rfl rfl hp8) ?_
            refine ox_skip (sees_f rfl rfl rfl rfl hp8) ?_
            refine ox_skip (sees_f rfl rfl rfl rfl hp8) ?_
            refine ox_y rfl (y_pick_fb (congrArg Value.bool hp8) rfl) ?_
            obtain rfl := Option.some.inj h
            exact key _ _ (keep (keep (keep (keep (keep (keep (keep (keep (keep (keep (keep (keep (keep rfl rfl) rfl) rfl) rfl) rfl) rfl) rfl) rfl) rfl) rfl) rfl) rfl) rfl)
    · refine cx_false (congrArg Value.bool hp5) ?_
      refine cx_exit ?_
      refine ex_then_exit ?_
      obtain rfl := Option.some.inj h
      exact ex_stop ⟨rfl, _, A0_s3, c0_s3, s3.2.length, rfl, rfl, (keep (keep (keep (keep (keep (keep (keep rfl rfl) rfl) rfl) rfl) rfl) rfl) rfl)⟩
  · intro e L tm hJ
    obtain ⟨rfl, tm0_u4, A0_u4, c0_u4, n0_u4, rfl, rfl, rfl⟩ := hJ
    refine ⟨(by intro hc; cases hc), ?_⟩
    refine ex_block_here ?_
    refine ex_then ?_
    refine cx_seq ?_
    refine cx_region ?_
    refine ox_y rfl (y_move_slice rfl) ?_
    refine ox_y rfl (y_assign_slice rfl) ?_
    refine ox_nil ?_
    refine ex_then ?_
    refine cx_ret ?_
    obtain rfl := Option.some.inj h
    exact ex_res1 (.inl rfl) rfl (resV_tmp (v := .slice A0_u4 u4.2.length c0_u4) rfl) (fun W2 hW2 => ⟨(A0_u4, u4.2.length, c0_u4), rfl, rfl, (hW2.pick 0 rfl)⟩)

/-! calx/fire.Surely -/
set_option maxRecDepth 100000 in
theorem fire_Surely_ok (p0_f : TFire) (p1_path : (List TSpot)) (p2_need : Int) (res : ((List TSpan) × Int)) (h : fire_Surely p0_f p1_path p2_need = some res) (W : World) (A0_4 : Option Addr) (n0_4 c0_4 : Nat) (hn0_4 : n0_4 = p0_f.fLooks.length) (hr0_4 : Rd W A0_4 n0_4 c0_4 (encL TLook_cells p0_f.fLooks)) (A1_0 : Option Addr) (n1_0 c1_0 : Nat) (hn1_0 : n1_0 = p1_path.length) (hr1_0 : Rd W A1_0 n1_0 c1_0 (encL TSpot_cells p1_path)) :
    Calls Try.prog 21 [.agg #[.int .i64 p0_f.fRise, .int .i64 p0_f.fFall, .int .i64 p0_f.fUp, .int .i64 p0_f.fDown, .slice A0_4 n0_4 c0_4], .slice A1_0 n1_0 c1_0, .int .i64 p2_need].toArray W fun e W2 => ∃ x : Option Addr × Nat × Nat, x.2.1 = res.1.length ∧ e = .returned (.tuple #[.slice x.1 x.2.1 x.2.2, .int .i64 res.2]) ∧ Ext W W2 [rowR x.1 x.2.2 32 2 x.2.1 (encL TSpan_cells res.1)] := by
  subst hn0_4
  subst hn1_0
  unfold fire_Surely at h
  refine calls_enter (m := 27) Try.func21 rfl rfl (Nat.le_of_ble_eq_true rfl) ?_
  refine cx_seq ?_
  refine cx_region ?_
  refine ox_box [.int .i64 p0_f.fRise, .int .i64 p0_f.fFall, .int .i64 p0_f.fUp, .int .i64 p0_f.fDown, .slice A0_4 p0_f.fLooks.length c0_4] rfl rfl rfl (fun b1 => ?_)
  refine ox_y rfl (y_assign_slice rfl) ?_
  refine ox_y rfl (y_assign_int rfl) ?_
  refine ox_nil ?_
  refine ex_then ?_
  refine cx_seq ?_
  refine cx_seq ?_
  refine cx_region ?_
  refine ox_y rfl (y_loadN 0 [.int .i64 p0_f.fRise, .int .i64 p0_f.fFall, .int .i64 p0_f.fUp, .int .i64 p0_f.fDown, .slice A0_4 p0_f.fLooks.length c0_4] ag_24 rfl rfl rfl) ?_
  refine ox_y rfl (y_move_slice rfl) ?_
  refine ox_y rfl (y_move_int rfl) ?_
  obtain ⟨y2, hy3, h⟩ := bind_some h
  refine ox_y rfl (y_call [.agg #[.int .i64 p0_f.fRise, .int .i64 p0_f.fFall, .int .i64 p0_f.fUp, .int .i64 p0_f.fDown, .slice A0_4 p0_f.fLooks.length c0_4], .slice A1_0 p1_path.length c1_0, .int .i64 p2_need] go_63 rfl (fun W2 hW2 => fire_walked_ok p0_f p1_path p2_need y2 hy3 W2 A0_4 p0_f.fLooks.length c0_4 rfl ((RdL.arg hr0_4) W2 hW2) A1_0 p1_path.length c1_0 rfl ((RdL.arg hr1_0) W2 hW2)) rfl) ?_
  refine ox_y rfl (y_assign_int rfl) ?_
  refine ox_nil ?_
  refine ex_then ?_
  refine cx_seq ?_
  refine cx_region ?_
  refine ox_y rfl (y_move_int rfl) ?_
  refine ox_y rfl (y_neq rfl rfl) ?_
  refine ox_nil ?_
  refine ex_then ?_
  rcases ite_some h with ⟨hp4, h⟩ | ⟨hp4, h⟩
  · refine cx_true (congrArg Value.bool hp4) ?_
    refine cx_seq ?_
    refine cx_region ?_
    refine ox_y rfl (y_move_int rfl) ?_
    refine ox_y rfl (y_assign_slice rfl) ?_
    refine ox_y rfl (y_assign_int rfl) ?_
    refine ox_nil ?_
    refine ex_then ?_
    refine cx_ret ?_
    refine ex_then_ret ?_
    obtain rfl := Option.some.inj h
    exact ex_res2 (.inl rfl) rfl (resV_tmp (v := .slice none 0 0) rfl) (resV_tmp (v := .int .i64 y2) rfl) (fun W2 hW2 => ⟨(none, 0, 0), rfl, rfl, ((hW2.nilrow 32 2).pick 1 rfl)⟩)
  · refine cx_false (congrArg Value.bool hp4) ?_
    refine cx_skip ?_
    refine ex_then ?_
    refine cx_seq ?_
    refine cx_region ?_
    refine ox_y rfl (y_loadN 0 [.int .i64 p0_f.fRise, .int .i64 p0_f.fFall, .int .i64 p0_f.fUp, .int .i64 p0_f.fDown, .slice A0_4 p0_f.fLooks.length c0_4] ag_24 rfl rfl rfl) ?_
    refine ox_y rfl (y_move_slice rfl) ?_
    obtain ⟨y5, hy6, h⟩ := bind_some h
    refine ox_call [.agg #[.int .i64 p0_f.fRise, .int .i64 p0_f.fFall, .int .i64 p0_f.fUp, .int .i64 p0_f.fDown, .slice A0_4 p0_f.fLooks.length c0_4], .slice A1_0 p1_path.length c1_0] _ _ _ rfl go_64 rfl (fun W2 hW2 => fire_heats_ok p0_f p1_path y5 hy6 W2 A0_4 p0_f.fLooks.length c0_4 rfl ((RdL.arg hr0_4) W2 hW2) A1_0 p1_path.length c1_0 rfl ((RdL.arg hr1_0) W2 hW2)) ?_
    rintro ⟨⟨A7, n11, c8⟩, ⟨A9, n13, c10⟩⟩ ⟨hn12, hn14⟩
    replace hn12 : n11 = y5.1.length := hn12; subst hn12
    replace hn14 : n13 = y5.2.length := hn14; subst hn14
    refine ox_y rfl (y_move_tuple rfl) ?_
    refine ox_y rfl (y_extract (vs := [.slice A7 y5.1.length c8, .slice A9 y5.2.length c10]) (v := .slice A7 y5.1.length c8) rfl rfl) ?_
    refine ox_y rfl (y_extract (vs := [.slice A7 y5.1.length c8, .slice A9 y5.2.length c10]) (v := .slice A9 y5.2.length c10) rfl rfl) ?_
    refine ox_y rfl (y_assign_slice rfl) ?_
    refine ox_y rfl (y_assign_slice rfl) ?_
    refine ox_nil ?_
    refine ex_then ?_
    refine cx_seq ?_
    refine cx_region ?_
    refine ox_y rfl (y_move_slice rfl) ?_
    refine ox_y rfl (y_move_int rfl) ?_
    obtain ⟨y15, hy16, h⟩ := bind_some h
    refine ox_call [.slice A7 y5.1.length c8, .int .i64 p2_need] _ _ _ rfl go_68 rfl (fun W2 hW2 => fire_hot_ok y5.1 p2_need y15 hy16 W2 A7 y5.1.length c8 rfl ((RdL.row 1 rfl) W2 hW2)) ?_
    rintro ⟨A17, n19, c18⟩ hn20
    replace hn20 : n19 = y15.length := hn20; subst hn20
    refine ox_y rfl (y_assign_slice rfl) ?_
    refine ox_y rfl (y_assign_int rfl) ?_
    refine ox_nil ?_
    refine ex_then ?_
    refine cx_ret ?_
    obtain rfl := Option.some.inj h
    exact ex_res2 (.inl rfl) rfl (resV_tmp (v := .slice A17 y15.length c18) rfl) (resV_tmp (v := .int .i64 0) rfl) (fun W2 hW2 => ⟨(A17, y15.length, c18), rfl, rfl, (hW2.pick 3 rfl)⟩)

/-! calx/fire.Possibly -/
set_option maxRecDepth 100000 in
theorem fire_Possibly_ok (p0_f : TFire) (p1_path : (List TSpot)) (p2_need : Int) (res : ((List TSpan) × Int)) (h : fire_Possibly p0_f p1_path p2_need = some res) (W : World) (A0_4 : Option Addr) (n0_4 c0_4 : Nat) (hn0_4 : n0_4 = p0_f.fLooks.length) (hr0_4 : Rd W A0_4 n0_4 c0_4 (encL TLook_cells p0_f.fLooks)) (A1_0 : Option Addr) (n1_0 c1_0 : Nat) (hn1_0 : n1_0 = p1_path.length) (hr1_0 : Rd W A1_0 n1_0 c1_0 (encL TSpot_cells p1_path)) :
    Calls Try.prog 23 [.agg #[.int .i64 p0_f.fRise, .int .i64 p0_f.fFall, .int .i64 p0_f.fUp, .int .i64 p0_f.fDown, .slice A0_4 n0_4 c0_4], .slice A1_0 n1_0 c1_0, .int .i64 p2_need].toArray W fun e W2 => ∃ x : Option Addr × Nat × Nat, x.2.1 = res.1.length ∧ e = .returned (.tuple #[.slice x.1 x.2.1 x.2.2, .int .i64 res.2]) ∧ Ext W W2 [rowR x.1 x.2.2 32 2 x.2.1 (encL TSpan_cells res.1)] := by
  subst hn0_4
  subst hn1_0
  unfold fire_Possibly at h
  refine calls_enter (m := 27) Try.func23 rfl rfl (Nat.le_of_ble_eq_true rfl) ?_
  refine cx_seq ?_
  refine cx_region ?_
  refine ox_box [.int .i64 p0_f.fRise, .int .i64 p0_f.fFall, .int .i64 p0_f.fUp, .int .i64 p0_f.fDown, .slice A0_4 p0_f.fLooks.length c0_4] rfl rfl rfl (fun b1 => ?_)
  refine ox_y rfl (y_assign_slice rfl) ?_
  refine ox_y rfl (y_assign_int rfl) ?_
  refine ox_nil ?_
  refine ex_then ?_
  refine cx_seq ?_
  refine cx_seq ?_
  refine cx_region ?_
  refine ox_y rfl (y_loadN 0 [.int .i64 p0_f.fRise, .int .i64 p0_f.fFall, .int .i64 p0_f.fUp, .int .i64 p0_f.fDown, .slice A0_4 p0_f.fLooks.length c0_4] ag_24 rfl rfl rfl) ?_
  refine ox_y rfl (y_move_slice rfl) ?_
  refine ox_y rfl (y_move_int rfl) ?_
  obtain ⟨y2, hy3, h⟩ := bind_some h
  refine ox_y rfl (y_call [.agg #[.int .i64 p0_f.fRise, .int .i64 p0_f.fFall, .int .i64 p0_f.fUp, .int .i64 p0_f.fDown, .slice A0_4 p0_f.fLooks.length c0_4], .slice A1_0 p1_path.length c1_0, .int .i64 p2_need] go_63 rfl (fun W2 hW2 => fire_walked_ok p0_f p1_path p2_need y2 hy3 W2 A0_4 p0_f.fLooks.length c0_4 rfl ((RdL.arg hr0_4) W2 hW2) A1_0 p1_path.length c1_0 rfl ((RdL.arg hr1_0) W2 hW2)) rfl) ?_
  refine ox_y rfl (y_assign_int rfl) ?_
  refine ox_nil ?_
  refine ex_then ?_
  refine cx_seq ?_
  refine cx_region ?_
  refine ox_y rfl (y_move_int rfl) ?_
  refine ox_y rfl (y_neq rfl rfl) ?_
  refine ox_nil ?_
  refine ex_then ?_
  rcases ite_some h with ⟨hp4, h⟩ | ⟨hp4, h⟩
  · refine cx_true (congrArg Value.bool hp4) ?_
    refine cx_seq ?_
    refine cx_region ?_
    refine ox_y rfl (y_move_int rfl) ?_
    refine ox_y rfl (y_assign_slice rfl) ?_
    refine ox_y rfl (y_assign_int rfl) ?_
    refine ox_nil ?_
    refine ex_then ?_
    refine cx_ret ?_
    refine ex_then_ret ?_
    obtain rfl := Option.some.inj h
    exact ex_res2 (.inl rfl) rfl (resV_tmp (v := .slice none 0 0) rfl) (resV_tmp (v := .int .i64 y2) rfl) (fun W2 hW2 => ⟨(none, 0, 0), rfl, rfl, ((hW2.nilrow 32 2).pick 1 rfl)⟩)
  · refine cx_false (congrArg Value.bool hp4) ?_
    refine cx_skip ?_
    refine ex_then ?_
    refine cx_seq ?_
    refine cx_region ?_
    refine ox_y rfl (y_loadN 0 [.int .i64 p0_f.fRise, .int .i64 p0_f.fFall, .int .i64 p0_f.fUp, .int .i64 p0_f.fDown, .slice A0_4 p0_f.fLooks.length c0_4] ag_24 rfl rfl rfl) ?_
    refine ox_y rfl (y_move_slice rfl) ?_
    obtain ⟨y5, hy6, h⟩ := bind_some h
    refine ox_call [.agg #[.int .i64 p0_f.fRise, .int .i64 p0_f.fFall, .int .i64 p0_f.fUp, .int .i64 p0_f.fDown, .slice A0_4 p0_f.fLooks.length c0_4], .slice A1_0 p1_path.length c1_0] _ _ _ rfl go_64 rfl (fun W2 hW2 => fire_heats_ok p0_f p1_path y5 hy6 W2 A0_4 p0_f.fLooks.length c0_4 rfl ((RdL.arg hr0_4) W2 hW2) A1_0 p1_path.length c1_0 rfl ((RdL.arg hr1_0) W2 hW2)) ?_
    rintro ⟨⟨A7, n11, c8⟩, ⟨A9, n13, c10⟩⟩ ⟨hn12, hn14⟩
    replace hn12 : n11 = y5.1.length := hn12; subst hn12
    replace hn14 : n13 = y5.2.length := hn14; subst hn14
    refine ox_y rfl (y_move_tuple rfl) ?_
    refine ox_y rfl (y_extract (vs := [.slice A7 y5.1.length c8, .slice A9 y5.2.length c10]) (v := .slice A7 y5.1.length c8) rfl rfl) ?_
    refine ox_y rfl (y_extract (vs := [.slice A7 y5.1.length c8, .slice A9 y5.2.length c10]) (v := .slice A9 y5.2.length c10) rfl rfl) ?_
    refine ox_y rfl (y_assign_slice rfl) ?_
    refine ox_y rfl (y_assign_slice rfl) ?_
    refine ox_nil ?_
    refine ex_then ?_
    refine cx_seq ?_
    refine cx_region ?_
    refine ox_y rfl (y_move_slice rfl) ?_
    refine ox_y rfl (y_move_int rfl) ?_
    obtain ⟨y15, hy16, h⟩ := bind_some h
    refine ox_call [.slice A9 y5.2.length c10, .int .i64 p2_need] _ _ _ rfl go_68 rfl (fun W2 hW2 => fire_hot_ok y5.2 p2_need y15 hy16 W2 A9 y5.2.length c10 rfl ((RdL.row 2 rfl) W2 hW2)) ?_
    rintro ⟨A17, n19, c18⟩ hn20
    replace hn20 : n19 = y15.length := hn20; subst hn20
    refine ox_y rfl (y_assign_slice rfl) ?_
    refine ox_y rfl (y_assign_int rfl) ?_
    refine ox_nil ?_
    refine ex_then ?_
    refine cx_ret ?_
    obtain rfl := Option.some.inj h
    exact ex_res2 (.inl rfl) rfl (resV_tmp (v := .slice A17 y15.length c18) rfl) (resV_tmp (v := .int .i64 0) rfl) (fun W2 hW2 => ⟨(A17, y15.length, c18), rfl, rfl, (hW2.pick 3 rfl)⟩)

/-! calx/calxref02.SameSpans -/
set_option maxRecDepth 100000 in
theorem calxref02_SameSpans_ok (p0_a : (List TSpan)) (p1_b : (List TSpan)) (res : Bool) (h : calxref02_SameSpans p0_a p1_b = some res) (W : World) (A0_0 : Option Addr) (n0_0 c0_0 : Nat) (hn0_0 : n0_0 = p0_a.length) (hr0_0 : Rd W A0_0 n0_0 c0_0 (encL TSpan_cells p0_a)) (A1_0 : Option Addr) (n1_0 c1_0 : Nat) (hn1_0 : n1_0 = p1_b.length) (hr1_0 : Rd W A1_0 n1_0 c1_0 (encL TSpan_cells p1_b)) :
    Calls Try.prog 27 [.slice A0_0 n0_0 c0_0, .slice A1_0 n1_0 c1_0].toArray W fun e W2 => e = .returned (.bool res) ∧ Ext W W2 [] := by
  subst hn0_0
  subst hn1_0
  unfold calxref02_SameSpans at h
  refine calls_enter (m := 26) Try.func27 rfl rfl (Nat.le_of_ble_eq_true rfl) ?_
  refine cx_seq ?_
  refine cx_region ?_
  refine ox_y rfl (y_assign_bool rfl) ?_
  refine ox_nil ?_
  refine ex_then ?_
  refine cx_seq ?_
  refine cx_seq ?_
  refine cx_region ?_
  refine ox_y rfl (y_move_slice rfl) ?_
  refine ox_y rfl (y_len (us := []) us_55 rfl) ?_
  refine ox_y rfl (y_move_slice rfl) ?_
  refine ox_y rfl (y_len (us := []) us_55 rfl) ?_
  refine ox_y rfl (y_neq rfl rfl) ?_
  refine ox_nil ?_
  refine ex_then ?_
  rcases ite_some h with ⟨hp1, h⟩ | ⟨hp1, h⟩
  · refine cx_true (congrArg Value.bool hp1) ?_
    refine cx_seq ?_
    refine cx_region ?_
    refine ox_y rfl (y_assign_bool rfl) ?_
    refine ox_nil ?_
    refine ex_then ?_
    refine cx_ret ?_
    refine ex_then_ret ?_
    obtain rfl := Option.some.inj h
    exact ex_res1 (.inl rfl) rfl (resV_tmp (v := .bool false) rfl) (fun W2 hW2 => ⟨rfl, hW2.none⟩)
  · refine cx_false (congrArg Value.bool hp1) ?_
    refine cx_skip ?_
    refine ex_then ?_
    refine cx_seq ?_
    refine cx_seq ?_
    refine cx_region ?_
    refine ox_y rfl (y_assign_int rfl) ?_
    refine ox_nil ?_
    refine ex_then ?_
    refine cx_block ?_
    obtain ⟨u4, hl9, h⟩ := bind_some h
    refine cx_loop (fun (s : (Bool × Int)) L tm => ∃ (tm0 : Nat → Value), L = [] ∧ tm = (upd (upd (upd (upd (upd tm0 0 (.slice A0_0 p0_a.length c0_0)) 1 (.slice A1_0 p1_b.length c1_0)) 4 (.bool s.1)) 10 (.bool (((p0_a.length : Nat) : Int) != ((p1_b.length : Nat) : Int)))) 5 (.int .i64 s.2))) (fun | (.inl s), e, L, tm => e = .ret ∧ ∃ (tm0 : Nat → Value), L = [] ∧ tm = (upd (upd (upd (upd (upd tm0 0 (.slice A0_0 p0_a.length c0_0)) 1 (.slice A1_0 p1_b.length c1_0)) 4 (.bool s.1)) 10 (.bool (((p0_a.length : Nat) : Int) != ((p1_b.length : Nat) : Int)))) 5 (.int .i64 s.2)) | (.inr s), e, L, tm => e = .exit 0 ∧ ∃ (tm0 : Nat → Value), L = [] ∧ tm = (upd (upd (upd (upd (upd tm0 0 (.slice A0_0 p0_a.length c0_0)) 1 (.slice A1_0 p1_b.length c1_0)) 4 (.bool s.1)) 10 (.bool (((p0_a.length : Nat) : Int) != ((p1_b.length : Nat) : Int)))) 5 (.int .i64 s.2))) hl9 ⟨_, rfl, (keep (keep (keep (keep (keep rfl rfl) rfl) rfl) rfl) rfl)⟩ ?_ ?_
    · rintro s3 L tm st ⟨tm0_s3, rfl, rfl⟩ h
      unfold calxref02_SameSpans_l1 at h
      refine cx_seq ?_
      refine cx_seq ?_
      refine cx_region ?_
      refine ox_y rfl (y_move_int rfl) ?_
      refine ox_y rfl (y_move_slice rfl) ?_
      refine ox_y rfl (y_len (us := []) us_55 rfl) ?_
      refine ox_y rfl (y_lss rfl rfl) ?_
      refine ox_nil ?_
      refine ex_then ?_
      rcases ite_some h with ⟨hp5, h⟩ | ⟨hp5, h⟩
      · refine cx_true (congrArg Value.bool hp5) ?_
        refine cx_skip ?_
        refine ex_then ?_
        refine cx_seq ?_
        refine cx_block ?_
        refine cx_seq ?_
        refine cx_draws 9 mixed (by kernel_rfl) (by kernel_rfl) ?_
        refine qx_y rfl (y_move_slice rfl) ?_
        refine qx_y rfl (y_move_int rfl) ?_
        obtain ⟨hg6, h⟩ := guardO_some h
        refine qx_y rfl (y_indexR sl_55 (by decide) hg6.1 hg6.2 (RdL.arg hr0_0) (encL_len TSpan_cells_len rfl) rfl rfl) ?_
        refine qx_y rfl (y_loadRN (A := A0_0) (j := (Int.toNat s3.2 * 2)) [.int .i64 ((rdL p0_a s3.2).fLo), .int .i64 ((rdL p0_a s3.2).fHi)] ag_32 (Nat.succ_pos _) (RdL.arg hr0_0) rfl (encL_gets TSpan_cells_len hg6.1 (lt_nat hg6.2 rfl))) ?_
        refine qx_y rfl (y_move_slice rfl) ?_
        refine qx_y rfl (y_move_int rfl) ?_
        obtain ⟨hg7, h⟩ := guardO_some h
        refine qx_y rfl (y_indexR sl_55 (by decide) hg7.1 hg7.2 (RdL.arg hr1_0) (encL_len TSpan_cells_len rfl) rfl rfl) ?_
        refine qx_y rfl (y_loadRN (A := A1_0) (j := (Int.toNat s3.2 * 2)) [.int .i64 ((rdL p1_b s3.2).fLo), .int .i64 ((rdL p1_b s3.2).fHi)] ag_32 (Nat.succ_pos _) (RdL.arg hr1_0) rfl (encL_gets TSpan_cells_len hg7.1 (lt_nat hg7.2 rfl))) ?_
        refine qx_y rfl (y_neqa (b := (((rdL p0_a s3.2).fLo == (rdL p1_b s3.2).fLo) && ((rdL p0_a s3.2).fHi == (rdL p1_b s3.2).fHi))) eg_32 rfl rfl (fun _ => (eqS2 fl_32 (part1 sc_3 rfl) (part1 sc_3 rfl) (part1 sc_3 rfl) (part1 sc_3 rfl) (run_equalIn_int _ _ _ _ _ _ _ ui_3) (run_equalIn_int _ _ _ _ _ _ _ ui_3)))) ?_
        refine qx_nil ?_
        refine ox_nil ?_
        refine ex_then ?_
        rcases ite_some h with ⟨hp8, h⟩ | ⟨hp8, h⟩
        · refine cx_true (congrArg Value.bool hp8) ?_
          refine cx_seq ?_
          refine cx_region ?_
          refine ox_y rfl (y_assign_bool rfl) ?_
          refine ox_nil ?_
          refine ex_then ?_
          refine cx_ret ?_
          refine ex_block_ret ?_
          refine ex_then_ret ?_
          obtain rfl := Option.some.inj h
          exact ex_stop ⟨rfl, _, rfl, (keep (keep (keep (keep (keep rfl rfl) rfl) rfl) rfl) rfl)⟩
        · refine cx_false (congrArg Value.bool hp8) ?_
          refine cx_skip ?_
          refine ex_block ?_
          refine ex_then ?_
          refine cx_region ?_
          refine ox_y rfl (y_move_int rfl) ?_
          refine ox_y rfl (y_add rfl rfl) ?_
          refine ox_y rfl (y_assign_int rfl) ?_
          refine ox_nil ?_
          obtain rfl := Option.some.inj h
          exact ex_next ⟨_, rfl, (keep (keep (keep (keep (keep rfl rfl) rfl) rfl) rfl) rfl)⟩
      · refine cx_false (congrArg Value.bool hp5) ?_
        refine cx_exit ?_
        refine ex_then_exit ?_
        obtain rfl := Option.some.inj h
        exact ex_stop ⟨rfl, _, rfl, (keep (keep (keep (keep (keep rfl rfl) rfl) rfl) rfl) rfl)⟩
    · intro e L tm hJ
      rcases u4 with u10 | u11
      · dsimp only at h hJ
        obtain ⟨rfl, tm0_u10, rfl, rfl⟩ := hJ
        refine ⟨(by intro hc; cases hc), ?_⟩
        refine ex_block_ret ?_
        refine ex_then_ret ?_
        obtain rfl := Option.some.inj h
        exact ex_res1 (.inl rfl) rfl (resV_tmp (v := .bool u10.1) rfl) (fun W2 hW2 => ⟨rfl, hW2.none⟩)
      · dsimp only at h hJ
        obtain ⟨rfl, tm0_u11, rfl, rfl⟩ := hJ
        refine ⟨(by intro hc; cases hc), ?_⟩
        refine ex_block_here ?_
        refine ex_then ?_
        refine cx_seq ?_
        refine cx_region ?_
        refine ox_y rfl (y_assign_bool rfl) ?_
        refine ox_nil ?_
        refine ex_then ?_
        refine cx_ret ?_
        obtain rfl := Option.some.inj h
        exact ex_res1 (.inl rfl) rfl (resV_tmp (v := .bool true) rfl) (fun W2 hW2 => ⟨rfl, hW2.none⟩)

end Go.Proofs.Ytndajeiecdmhnaa
