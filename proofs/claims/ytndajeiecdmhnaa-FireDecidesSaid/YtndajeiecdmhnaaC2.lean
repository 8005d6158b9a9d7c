/- The calls hand back what the plain functions say. -/
import Derived.Test.YtndajeiecdmhnaaF
import Derived.Test.YtndajeiecdmhnaaGy
import Derived.Test.YtndajeiecdmhnaaGz
import Derived.Test.YtndajeiecdmhnaaC0
import Derived.Test.YtndajeiecdmhnaaC1
set_option linter.unusedVariables false
set_option maxHeartbeats 4000000
namespace Go.Proofs.Ytndajeiecdmhnaa
open Go.RowKit (Below)
attribute [local irreducible] OX QX CX EX OpY Calls CallsIn

/-! calx/fire.clash -/
set_option maxRecDepth 100000 in
theorem fire_clash_ok (p0_f : TFire) (res : (TLook × TLook × Bool)) (h : fire_clash p0_f = some res) (W : World) (A0_4 : Option Addr) (n0_4 c0_4 : Nat) (hn0_4 : n0_4 = p0_f.fLooks.length) (hr0_4 : Rd W A0_4 n0_4 c0_4 (encL TLook_cells p0_f.fLooks)) :
    Calls Try.prog 58 [.agg #[.int .i64 p0_f.fRise, .int .i64 p0_f.fFall, .int .i64 p0_f.fUp, .int .i64 p0_f.fDown, .slice A0_4 n0_4 c0_4]].toArray W fun e W2 => e = .returned (.tuple #[.agg #[.int .i64 res.1.fID, .int .i64 res.1.fAt.fFoot, .int .i64 res.1.fAt.fHour, .int .i64 res.1.fHeat.fLo, .int .i64 res.1.fHeat.fHi], .agg #[.int .i64 res.2.1.fID, .int .i64 res.2.1.fAt.fFoot, .int .i64 res.2.1.fAt.fHour, .int .i64 res.2.1.fHeat.fLo, .int .i64 res.2.1.fHeat.fHi], .bool res.2.2]) ∧ Ext W W2 [] := by
  subst hn0_4
  unfold fire_clash at h
  refine calls_enterM (m := 22) Try.func58 rfl rfl (Nat.le_of_ble_eq_true rfl) ?_
  refine cx_seq ?_
  refine cx_region ?_
  refine ox_box [.int .i64 p0_f.fRise, .int .i64 p0_f.fFall, .int .i64 p0_f.fUp, .int .i64 p0_f.fDown, .slice A0_4 p0_f.fLooks.length c0_4] rfl rfl rfl (fun b1 => ?_)
  refine ox_alloc ze_34 rfl (fun b2 => ?_)
  refine ox_alloc ze_34 rfl (fun b3 => ?_)
  refine ox_alloc ze_4 rfl (fun b4 => ?_)
  refine ox_nil ?_
  refine ex_then ?_
  refine cx_scope ?_
  refine cx_seq ?_
  refine cx_label ?_
  refine ex_then ?_
  refine cx_seq ?_
  refine cx_seq ?_
  refine cx_region ?_
  refine ox_y rfl (y_loadN 0 [.int .i64 p0_f.fRise, .int .i64 p0_f.fFall, .int .i64 p0_f.fUp, .int .i64 p0_f.fDown, .slice A0_4 p0_f.fLooks.length c0_4] ag_24 rfl rfl rfl) ?_
  obtain ⟨y5, hy6, h⟩ := bind_some h
  refine ox_call [.agg #[.int .i64 p0_f.fRise, .int .i64 p0_f.fFall, .int .i64 p0_f.fUp, .int .i64 p0_f.fDown, .slice A0_4 p0_f.fLooks.length c0_4]] _ _ _ rfl go_100 rfl (fun W2 hW2 => fire_sorted_ok p0_f y5 hy6 W2 A0_4 p0_f.fLooks.length c0_4 rfl ((RdL.arg hr0_4) W2 hW2)) ?_
  rintro ⟨b7, A8, n10, c9⟩ hn11
  replace hn11 : n10 = y5.length := hn11; subst hn11
  try dsimp only [List.nil_append, List.cons_append, List.set_cons_zero, List.set_cons_succ]
  refine ox_nil ?_
  refine ex_then ?_
  refine cx_block ?_
  obtain ⟨hok52, h⟩ := guardO_some h
  obtain ⟨u22, hl51, h⟩ := bind_some h
  refine cx_rangeH (enc := fun x : TLook => .agg #[.int .i64 x.fID, .int .i64 x.fAt.fFoot, .int .i64 x.fAt.fHour, .int .i64 x.fHeat.fLo, .int .i64 x.fHeat.fHi])  (caps := [.pointer (some ⟨b7, 0, none⟩)]) (fun (s : (Int × Int × Int × Int × Int × Int × Int × Int × Int × Int × Bool)) L => L = [cellsR b1 24 [.int .i64 p0_f.fRise, .int .i64 p0_f.fFall, .int .i64 p0_f.fUp, .int .i64 p0_f.fDown, .slice A0_4 p0_f.fLooks.length c0_4], cellsR b2 34 [.int .i64 s.1, .int .i64 s.2.1, .int .i64 s.2.2.1, .int .i64 s.2.2.2.1, .int .i64 s.2.2.2.2.1], cellsR b3 34 [.int .i64 s.2.2.2.2.2.1, .int .i64 s.2.2.2.2.2.2.1, .int .i64 s.2.2.2.2.2.2.2.1, .int .i64 s.2.2.2.2.2.2.2.2.1, .int .i64 s.2.2.2.2.2.2.2.2.2.1], cellsR b4 4 [.bool s.2.2.2.2.2.2.2.2.2.2], cellsR b7 22 [.slice A8 y5.length c9], rowR A8 c9 34 5 y5.length (encL TLook_cells y5)]) (fun (s : (Int × Int × Int × Int × Int × Int × Int × Int × Int × Int × Bool)) e L => e = .exit 0 ∧ L = [cellsR b1 24 [.int .i64 p0_f.fRise, .int .i64 p0_f.fFall, .int .i64 p0_f.fUp, .int .i64 p0_f.fDown, .slice A0_4 p0_f.fLooks.length c0_4], cellsR b2 34 [.int .i64 s.1, .int .i64 s.2.1, .int .i64 s.2.2.1, .int .i64 s.2.2.2.1, .int .i64 s.2.2.2.2.1], cellsR b3 34 [.int .i64 s.2.2.2.2.2.1, .int .i64 s.2.2.2.2.2.2.1, .int .i64 s.2.2.2.2.2.2.2.1, .int .i64 s.2.2.2.2.2.2.2.2.1, .int .i64 s.2.2.2.2.2.2.2.2.2.1], cellsR b4 4 [.bool s.2.2.2.2.2.2.2.2.2.2], cellsR b7 22 [.slice A8 y5.length c9], rowR A8 c9 34 5 y5.length (encL TLook_cells y5)]) hl51 rfl go_116 (slices_Values_calx_api_Look_calx_api_Look_1_seq y5 hok52 b7 A8 y5.length c9 rfl) (fun W2 s L hI hW2 => by obtain rfl := hI; exact ⟨hW2.mem (i := 4) rfl, (RdL.row 5 rfl) W2 hW2⟩) rfl (fun W2 hW2 s L hI => by obtain rfl := hI; exact (.cons Cy.cells (.cons Cy.cells (.cons Cy.cells (.cons Cy.cells (.cons Cy.cells (.cons Cy.row CyL.nil))))))) (fun W2 hW2 s e L hI => by obtain ⟨rfl, rfl⟩ := hI; exact (.cons Cy.cells (.cons Cy.cells (.cons Cy.cells (.cons Cy.cells (.cons Cy.cells (.cons Cy.row CyL.nil))))))) (fun s e L hI => by obtain ⟨rfl, _⟩ := hI; exact .inr ⟨_, rfl⟩) ?_ ?_ ?_
  · rintro D12 l13 rec14 s20 x21 L st hrec15 rfl h
    unfold fire_clash_r1 at h
    refine cx_region ?_
    try dsimp only [List.nil_append, List.cons_append, List.set_cons_zero, List.set_cons_succ]
    refine ox_alloc ze_34 rfl (fun b23 => ?_)
    try dsimp only [List.nil_append, List.cons_append, List.set_cons_zero, List.set_cons_succ]
    refine ox_n rfl (y_storeN 8 [.int .i64 x21.fID, .int .i64 x21.fAt.fFoot, .int .i64 x21.fAt.fHour, .int .i64 x21.fHeat.fLo, .int .i64 x21.fHeat.fHi] sz_34 rfl (Nat.le_of_ble_eq_true rfl) rfl rfl rfl) ?_
    refine ox_nil ?_
    refine ex_begin 7 rfl hrec15 ?_
    refine cx_block ?_
    refine cx_seq ?_
    refine cx_region ?_
    refine ox_y rfl (y_loadN 0 [.int .i64 p0_f.fRise, .int .i64 p0_f.fFall, .int .i64 p0_f.fUp, .int .i64 p0_f.fDown, .slice A0_4 p0_f.fLooks.length c0_4] ag_24 rfl rfl rfl) ?_
    obtain ⟨y24, hy25, h⟩ := bind_some h
    refine ox_call [.agg #[.int .i64 p0_f.fRise, .int .i64 p0_f.fFall, .int .i64 p0_f.fUp, .int .i64 p0_f.fDown, .slice A0_4 p0_f.fLooks.length c0_4]] _ _ _ rfl go_100 rfl (fun W2 hW2 => fire_sorted_ok p0_f y24 hy25 W2 A0_4 p0_f.fLooks.length c0_4 rfl ((RdL.arg hr0_4) W2 hW2)) ?_
    rintro ⟨b26, A27, n29, c28⟩ hn30
    replace hn30 : n29 = y24.length := hn30; subst hn30
    try dsimp only [List.nil_append, List.cons_append, List.set_cons_zero, List.set_cons_succ]
    refine ox_nil ?_
    refine ex_then ?_
    refine cx_block ?_
    obtain ⟨hok48, h⟩ := guardO_some h
    obtain ⟨u41, hl47, h⟩ := bind_some h
    refine cx_rangeN (enc := fun x : TLook => .agg #[.int .i64 x.fID, .int .i64 x.fAt.fFoot, .int .i64 x.fAt.fHour, .int .i64 x.fHeat.fLo, .int .i64 x.fHeat.fHi]) 7 rfl  (caps := [.pointer (some ⟨b26, 0, none⟩)]) (fun (s : (Int × Int × Int × Int × Int × Int × Int × Int × Int × Int × Bool)) L => L = [cellsR b1 24 [.int .i64 p0_f.fRise, .int .i64 p0_f.fFall, .int .i64 p0_f.fUp, .int .i64 p0_f.fDown, .slice A0_4 p0_f.fLooks.length c0_4], cellsR b2 34 [.int .i64 s.1, .int .i64 s.2.1, .int .i64 s.2.2.1, .int .i64 s.2.2.2.1, .int .i64 s.2.2.2.2.1], cellsR b3 34 [.int .i64 s.2.2.2.2.2.1, .int .i64 s.2.2.2.2.2.2.1, .int .i64 s.2.2.2.2.2.2.2.1, .int .i64 s.2.2.2.2.2.2.2.2.1, .int .i64 s.2.2.2.2.2.2.2.2.2.1], cellsR b4 4 [.bool s.2.2.2.2.2.2.2.2.2.2], cellsR b7 22 [.slice A8 y5.length c9], rowR A8 c9 34 5 y5.length (encL TLook_cells y5), dfR D12, lpR l13 { rec14 with state := .busy }, cellsR b23 34 [.int .i64 x21.fID, .int .i64 x21.fAt.fFoot, .int .i64 x21.fAt.fHour, .int .i64 x21.fHeat.fLo, .int .i64 x21.fHeat.fHi], cellsR b26 22 [.slice A27 y24.length c28], rowR A27 c28 34 5 y24.length (encL TLook_cells y24)]) (fun (s : (Int × Int × Int × Int × Int × Int × Int × Int × Int × Int × Bool)) e L => e = .exit 0 ∧ L = [cellsR b1 24 [.int .i64 p0_f.fRise, .int .i64 p0_f.fFall, .int .i64 p0_f.fUp, .int .i64 p0_f.fDown, .slice A0_4 p0_f.fLooks.length c0_4], cellsR b2 34 [.int .i64 s.1, .int .i64 s.2.1, .int .i64 s.2.2.1, .int .i64 s.2.2.2.1, .int .i64 s.2.2.2.2.1], cellsR b3 34 [.int .i64 s.2.2.2.2.2.1, .int .i64 s.2.2.2.2.2.2.1, .int .i64 s.2.2.2.2.2.2.2.1, .int .i64 s.2.2.2.2.2.2.2.2.1, .int .i64 s.2.2.2.2.2.2.2.2.2.1], cellsR b4 4 [.bool s.2.2.2.2.2.2.2.2.2.2], cellsR b7 22 [.slice A8 y5.length c9], rowR A8 c9 34 5 y5.length (encL TLook_cells y5), dfR D12, lpR l13 { rec14 with state := .busy }, cellsR b23 34 [.int .i64 x21.fID, .int .i64 x21.fAt.fFoot, .int .i64 x21.fAt.fHour, .int .i64 x21.fHeat.fLo, .int .i64 x21.fHeat.fHi], cellsR b26 22 [.slice A27 y24.length c28], rowR A27 c28 34 5 y24.length (encL TLook_cells y24)]) hl47 rfl go_116 (slices_Values_calx_api_Look_calx_api_Look_1_seq y24 hok48 b26 A27 y24.length c28 rfl) (fun W2 s L hI hW2 => by obtain rfl := hI; exact ⟨hW2.mem (i := 9) rfl, (RdL.row 10 rfl) W2 hW2⟩) rfl (fun W2 hW2 s L hI => by obtain rfl := hI; exact (.cons Cy.cells (.cons Cy.cells (.cons Cy.cells (.cons Cy.cells (.cons Cy.cells (.cons Cy.row (.cons (Cy.blk rfl) (.cons (Cy.blk rfl) (.cons Cy.cells (.cons Cy.cells (.cons Cy.row CyL.nil)))))))))))) (fun W2 hW2 s e L hI => by obtain ⟨rfl, rfl⟩ := hI; exact (.cons Cy.cells (.cons Cy.cells (.cons Cy.cells (.cons Cy.cells (.cons Cy.cells (.cons Cy.row (.cons (Cy.blk rfl) (.cons (Cy.blk rfl) (.cons Cy.cells (.cons Cy.cells (.cons Cy.row CyL.nil)))))))))))) (fun s e L hI => by obtain ⟨rfl, _⟩ := hI; exact .inr ⟨_, rfl⟩) ?_ ?_ ?_
    · rintro l32 rec33 s39 x40 L st hrec34 rfl h
      unfold fire_clash_r2 at h
      refine cx_region ?_
      try dsimp only [List.nil_append, List.cons_append, List.set_cons_zero, List.set_cons_succ]
      refine ox_alloc ze_34 rfl (fun b42 => ?_)
      try dsimp only [List.nil_append, List.cons_append, List.set_cons_zero, List.set_cons_succ]
      refine ox_n rfl (y_storeN 12 [.int .i64 x40.fID, .int .i64 x40.fAt.fFoot, .int .i64 x40.fAt.fHour, .int .i64 x40.fHeat.fLo, .int .i64 x40.fHeat.fHi] sz_34 rfl (Nat.le_of_ble_eq_true rfl) rfl rfl rfl) ?_
      refine ox_nil ?_
      refine ex_begin 11 rfl hrec34 ?_
      refine cx_block ?_
      refine cx_seq ?_
      refine cx_region ?_
      refine ox_y rfl (y_loadN 0 [.int .i64 p0_f.fRise, .int .i64 p0_f.fFall, .int .i64 p0_f.fUp, .int .i64 p0_f.fDown, .slice A0_4 p0_f.fLooks.length c0_4] ag_24 rfl rfl rfl) ?_
      refine ox_y rfl (y_loadN 8 [.int .i64 x21.fID, .int .i64 x21.fAt.fFoot, .int .i64 x21.fAt.fHour, .int .i64 x21.fHeat.fLo, .int .i64 x21.fHeat.fHi] ag_34 rfl rfl rfl) ?_
      refine ox_y rfl (y_loadN 12 [.int .i64 x40.fID, .int .i64 x40.fAt.fFoot, .int .i64 x40.fAt.fHour, .int .i64 x40.fHeat.fLo, .int .i64 x40.fHeat.fHi] ag_34 rfl rfl rfl) ?_
      obtain ⟨y43, hy44, h⟩ := bind_some h
      refine ox_y rfl (y_call [.agg #[.int .i64 p0_f.fRise, .int .i64 p0_f.fFall, .int .i64 p0_f.fUp, .int .i64 p0_f.fDown, .slice A0_4 p0_f.fLooks.length c0_4], .agg #[.int .i64 x21.fID, .int .i64 x21.fAt.fFoot, .int .i64 x21.fAt.fHour, .int .i64 x21.fHeat.fLo, .int .i64 x21.fHeat.fHi], .agg #[.int .i64 x40.fID, .int .i64 x40.fAt.fFoot, .int .i64 x40.fAt.fHour, .int .i64 x40.fHeat.fLo, .int .i64 x40.fHeat.fHi]] go_72 rfl (fun W2 hW2 => fire_against_ok p0_f x21 x40 y43 hy44 W2 A0_4 p0_f.fLooks.length c0_4 rfl ((RdL.arg hr0_4) W2 hW2)) rfl) ?_
      refine ox_nil ?_
      refine ex_then ?_
      rcases ite_some h with ⟨hp45, h⟩ | ⟨hp45, h⟩
      · refine cx_true (congrArg Value.bool hp45) ?_
        refine cx_seq ?_
        refine cx_drawsG [[], [], [0], [0, 1, 2], [0, 1, 2, 3]] [(none, 0, [true, true, true, true, true, true, true, true, true, true, true, true, true]), (none, 0, [true, false, true, true, true, true, true, true, true, true, true, true, true]), (some 1, 0, [true, true, true, true, true, true, true, true, true, true, true, true, true]), (some 2, 0, [true, true, true, true, true, true, true, true, true, true, true, true, true]), (some 3, 0, [true, true, true, true, true, true, true, true, true, true, true, true, true])] [⟨fun _ => .agg #[.int .i64 x21.fID, .int .i64 x21.fAt.fFoot, .int .i64 x21.fAt.fHour, .int .i64 x21.fHeat.fLo, .int .i64 x21.fHeat.fHi], fun _ => noR, fun _ => []⟩, ⟨fun _ => .agg #[.int .i64 x40.fID, .int .i64 x40.fAt.fFoot, .int .i64 x40.fAt.fHour, .int .i64 x40.fHeat.fLo, .int .i64 x40.fHeat.fHi], fun _ => noR, fun _ => []⟩, ⟨fun _ => undef, fun _ => cellsR b2 34 [.int .i64 x21.fID, .int .i64 x21.fAt.fFoot, .int .i64 x21.fAt.fHour, .int .i64 x21.fHeat.fLo, .int .i64 x21.fHeat.fHi], fun _ => []⟩, ⟨fun _ => undef, fun _ => cellsR b3 34 [.int .i64 x40.fID, .int .i64 x40.fAt.fFoot, .int .i64 x40.fAt.fHour, .int .i64 x40.fHeat.fLo, .int .i64 x40.fHeat.fHi], fun _ => []⟩, ⟨fun _ => undef, fun _ => cellsR b4 4 [.bool true], fun _ => []⟩] 13 mixed (by kernel_rfl) (by kernel_rfl) ⟨⟨fun ξ46 ξ46' h => ⟨rfl, rfl, rfl⟩, fun _ => rfl⟩, ⟨fun ξ46 ξ46' h => ⟨rfl, rfl, rfl⟩, fun _ => rfl⟩, ⟨fun ξ46 ξ46' h => ⟨rfl, rfl, rfl⟩, fun _ => rfl⟩, ⟨fun ξ46 ξ46' h => ⟨rfl, rfl, rfl⟩, fun _ => rfl⟩, ⟨fun ξ46 ξ46' h => ⟨rfl, rfl, rfl⟩, fun _ => rfl⟩, trivial⟩ rfl (fun ξ46 => ?_)
        refine gx_o rfl (fun L2 => ?_) ?_
        · dsimp only [maskL, List.cons_append, List.nil_append]
          refine ox_y rfl (y_loadN 8 [.int .i64 x21.fID, .int .i64 x21.fAt.fFoot, .int .i64 x21.fAt.fHour, .int .i64 x21.fHeat.fLo, .int .i64 x21.fHeat.fHi] ag_34 rfl rfl rfl) ?_
          refine ox_nil ?_
          exact ex_capG (fun _ => (none, 0, 0)) rfl (List.append_nil _)
        dsimp only [aftL, List.set_cons_zero, List.set_cons_succ, List.nil_append, List.cons_append, List.append_nil]
        refine gx_o rfl (fun L2 => ?_) ?_
        · dsimp only [maskL, List.cons_append, List.nil_append]
          refine ox_y rfl (y_loadN 12 [.int .i64 x40.fID, .int .i64 x40.fAt.fFoot, .int .i64 x40.fAt.fHour, .int .i64 x40.fHeat.fLo, .int .i64 x40.fHeat.fHi] ag_34 rfl rfl rfl) ?_
          refine ox_nil ?_
          exact ex_capG (fun _ => (none, 0, 0)) rfl (List.append_nil _)
        dsimp only [aftL, List.set_cons_zero, List.set_cons_succ, List.nil_append, List.cons_append, List.append_nil]
        refine gx_n rfl (fun L2 => ?_) ?_
        · dsimp only [maskL, List.cons_append, List.nil_append]
          refine ox_n rfl (y_storeN 1 [.int .i64 x21.fID, .int .i64 x21.fAt.fFoot, .int .i64 x21.fAt.fHour, .int .i64 x21.fHeat.fLo, .int .i64 x21.fHeat.fHi] sz_34 rfl (Nat.le_of_ble_eq_true rfl) rfl rfl rfl) ?_
          refine ox_nil ?_
          exact ex_capGn (fun _ => (none, 0, 0)) (List.append_nil _)
        dsimp only [aftL, List.set_cons_zero, List.set_cons_succ, List.nil_append, List.cons_append, List.append_nil]
        refine gx_n rfl (fun L2 => ?_) ?_
        · dsimp only [maskL, List.cons_append, List.nil_append]
          refine ox_n rfl (y_storeN 2 [.int .i64 x40.fID, .int .i64 x40.fAt.fFoot, .int .i64 x40.fAt.fHour, .int .i64 x40.fHeat.fLo, .int .i64 x40.fHeat.fHi] sz_34 rfl (Nat.le_of_ble_eq_true rfl) rfl rfl rfl) ?_
          refine ox_nil ?_
          exact ex_capGn (fun _ => (none, 0, 0)) (List.append_nil _)
        dsimp only [aftL, List.set_cons_zero, List.set_cons_succ, List.nil_append, List.cons_append, List.append_nil]
        refine gx_n rfl (fun L2 => ?_) ?_
        · dsimp only [maskL, List.cons_append, List.nil_append]
          refine ox_n rfl (y_store1 3 (v := .bool true) sz_4 rfl (Nat.lt_of_lt_of_le (Nat.lt_succ_self _) (Nat.le_of_ble_eq_true rfl)) rfl rfl rfl) ?_
          refine ox_nil ?_
          exact ex_capGn (fun _ => (none, 0, 0)) (List.append_nil _)
        dsimp only [aftL, List.set_cons_zero, List.set_cons_succ, List.nil_append, List.cons_append, List.append_nil]
        refine gx_nil ?_
        refine ex_then ?_
        refine cx_exit ?_
        refine ex_block_past rfl ?_
        refine ex_take 12 ?_
        obtain rfl := Option.some.inj h
        exact ex_nstop [cellsR b1 24 [.int .i64 p0_f.fRise, .int .i64 p0_f.fFall, .int .i64 p0_f.fUp, .int .i64 p0_f.fDown, .slice A0_4 p0_f.fLooks.length c0_4], cellsR b2 34 [.int .i64 x21.fID, .int .i64 x21.fAt.fFoot, .int .i64 x21.fAt.fHour, .int .i64 x21.fHeat.fLo, .int .i64 x21.fHeat.fHi], cellsR b3 34 [.int .i64 x40.fID, .int .i64 x40.fAt.fFoot, .int .i64 x40.fAt.fHour, .int .i64 x40.fHeat.fLo, .int .i64 x40.fHeat.fHi], cellsR b4 4 [.bool true], cellsR b7 22 [.slice A8 y5.length c9], rowR A8 c9 34 5 y5.length (encL TLook_cells y5), dfR D12, lpR l13 { rec14 with state := .busy }, cellsR b23 34 [.int .i64 x21.fID, .int .i64 x21.fAt.fFoot, .int .i64 x21.fAt.fHour, .int .i64 x21.fHeat.fLo, .int .i64 x21.fHeat.fHi], cellsR b26 22 [.slice A27 y24.length c28], rowR A27 c28 34 5 y24.length (encL TLook_cells y24)] ⟨rfl, rfl⟩
      · refine cx_false (congrArg Value.bool hp45) ?_
        refine cx_skip ?_
        refine ex_block ?_
        refine ex_take 12 ?_
        obtain rfl := Option.some.inj h
        exact ex_nnext [cellsR b1 24 [.int .i64 p0_f.fRise, .int .i64 p0_f.fFall, .int .i64 p0_f.fUp, .int .i64 p0_f.fDown, .slice A0_4 p0_f.fLooks.length c0_4], cellsR b2 34 [.int .i64 s39.1, .int .i64 s39.2.1, .int .i64 s39.2.2.1, .int .i64 s39.2.2.2.1, .int .i64 s39.2.2.2.2.1], cellsR b3 34 [.int .i64 s39.2.2.2.2.2.1, .int .i64 s39.2.2.2.2.2.2.1, .int .i64 s39.2.2.2.2.2.2.2.1, .int .i64 s39.2.2.2.2.2.2.2.2.1, .int .i64 s39.2.2.2.2.2.2.2.2.2.1], cellsR b4 4 [.bool s39.2.2.2.2.2.2.2.2.2.2], cellsR b7 22 [.slice A8 y5.length c9], rowR A8 c9 34 5 y5.length (encL TLook_cells y5), dfR D12, lpR l13 { rec14 with state := .busy }, cellsR b23 34 [.int .i64 x21.fID, .int .i64 x21.fAt.fFoot, .int .i64 x21.fAt.fHour, .int .i64 x21.fHeat.fLo, .int .i64 x21.fHeat.fHi], cellsR b26 22 [.slice A27 y24.length c28], rowR A27 c28 34 5 y24.length (encL TLook_cells y24)] rfl
    · rintro u49 L hst rfl
      subst hst
      dsimp only at h
      refine ex_block ?_
      refine ex_block ?_
      refine ex_take 8 ?_
      obtain rfl := Option.some.inj h
      exact ex_rnext [cellsR b1 24 [.int .i64 p0_f.fRise, .int .i64 p0_f.fFall, .int .i64 p0_f.fUp, .int .i64 p0_f.fDown, .slice A0_4 p0_f.fLooks.length c0_4], cellsR b2 34 [.int .i64 u49.1, .int .i64 u49.2.1, .int .i64 u49.2.2.1, .int .i64 u49.2.2.2.1, .int .i64 u49.2.2.2.2.1], cellsR b3 34 [.int .i64 u49.2.2.2.2.2.1, .int .i64 u49.2.2.2.2.2.2.1, .int .i64 u49.2.2.2.2.2.2.2.1, .int .i64 u49.2.2.2.2.2.2.2.2.1, .int .i64 u49.2.2.2.2.2.2.2.2.2.1], cellsR b4 4 [.bool u49.2.2.2.2.2.2.2.2.2.2], cellsR b7 22 [.slice A8 y5.length c9], rowR A8 c9 34 5 y5.length (encL TLook_cells y5)] rfl
    · rintro u50 e L hst ⟨rfl, rfl⟩
      subst hst
      dsimp only at h
      refine ex_block_past rfl ?_
      refine ex_block_past rfl ?_
      refine ex_take 8 ?_
      obtain rfl := Option.some.inj h
      exact ex_rstop [cellsR b1 24 [.int .i64 p0_f.fRise, .int .i64 p0_f.fFall, .int .i64 p0_f.fUp, .int .i64 p0_f.fDown, .slice A0_4 p0_f.fLooks.length c0_4], cellsR b2 34 [.int .i64 u50.1, .int .i64 u50.2.1, .int .i64 u50.2.2.1, .int .i64 u50.2.2.2.1, .int .i64 u50.2.2.2.2.1], cellsR b3 34 [.int .i64 u50.2.2.2.2.2.1, .int .i64 u50.2.2.2.2.2.2.1, .int .i64 u50.2.2.2.2.2.2.2.1, .int .i64 u50.2.2.2.2.2.2.2.2.1, .int .i64 u50.2.2.2.2.2.2.2.2.2.1], cellsR b4 4 [.bool u50.2.2.2.2.2.2.2.2.2.2], cellsR b7 22 [.slice A8 y5.length c9], rowR A8 c9 34 5 y5.length (encL TLook_cells y5)] ⟨rfl, rfl⟩
  · rintro D12 u53 L hst rfl
    subst hst
    dsimp only at h
    refine ex_block ?_
    refine ex_then ?_
    refine cx_seq ?_
    refine cx_drawsG [[], [], [], [0], [0, 1, 3], [0, 1, 2, 3, 4]] [(none, 0, [true, true, true, true, true, true, true]), (none, 0, [true, true, true, true, true, true, true]), (none, 0, [true, true, true, true, true, true, true]), (none, 0, [true, true, true, true, true, true, true]), (none, 0, [true, true, true, true, true, true, true]), (none, 0, [true, true, true, true, true, true, true])] [⟨fun _ => .agg #[.int .i64 u53.1, .int .i64 u53.2.1, .int .i64 u53.2.2.1, .int .i64 u53.2.2.2.1, .int .i64 u53.2.2.2.2.1], fun _ => noR, fun _ => []⟩, ⟨fun _ => .agg #[.int .i64 u53.2.2.2.2.2.1, .int .i64 u53.2.2.2.2.2.2.1, .int .i64 u53.2.2.2.2.2.2.2.1, .int .i64 u53.2.2.2.2.2.2.2.2.1, .int .i64 u53.2.2.2.2.2.2.2.2.2.1], fun _ => noR, fun _ => []⟩, ⟨fun _ => .bool u53.2.2.2.2.2.2.2.2.2.2, fun _ => noR, fun _ => []⟩, ⟨fun _ => undef, fun _ => noR, fun _ => []⟩, ⟨fun _ => undef, fun _ => noR, fun _ => []⟩, ⟨fun _ => undef, fun _ => noR, fun _ => []⟩] 7 mixed (by kernel_rfl) (by kernel_rfl) ⟨⟨fun ξ54 ξ54' h => ⟨rfl, rfl, rfl⟩, fun _ => rfl⟩, ⟨fun ξ54 ξ54' h => ⟨rfl, rfl, rfl⟩, fun _ => rfl⟩, ⟨fun ξ54 ξ54' h => ⟨rfl, rfl, rfl⟩, fun _ => rfl⟩, ⟨fun ξ54 ξ54' h => ⟨rfl, rfl, rfl⟩, fun _ => rfl⟩, ⟨fun ξ54 ξ54' h => ⟨rfl, rfl, rfl⟩, fun _ => rfl⟩, ⟨fun ξ54 ξ54' h => ⟨rfl, rfl, rfl⟩, fun _ => rfl⟩, trivial⟩ rfl (fun ξ54 => ?_)
    refine gx_o rfl (fun L2 => ?_) ?_
    · dsimp only [maskL, List.cons_append, List.nil_append]
      refine ox_y rfl (y_loadN 1 [.int .i64 u53.1, .int .i64 u53.2.1, .int .i64 u53.2.2.1, .int .i64 u53.2.2.2.1, .int .i64 u53.2.2.2.2.1] ag_34 rfl rfl rfl) ?_
      refine ox_nil ?_
      exact ex_capG (fun _ => (none, 0, 0)) rfl (List.append_nil _)
    dsimp only [aftL, List.set_cons_zero, List.set_cons_succ, List.nil_append, List.cons_append, List.append_nil]
    refine gx_o rfl (fun L2 => ?_) ?_
    · dsimp only [maskL, List.cons_append, List.nil_append]
      refine ox_y rfl (y_loadN 2 [.int .i64 u53.2.2.2.2.2.1, .int .i64 u53.2.2.2.2.2.2.1, .int .i64 u53.2.2.2.2.2.2.2.1, .int .i64 u53.2.2.2.2.2.2.2.2.1, .int .i64 u53.2.2.2.2.2.2.2.2.2.1] ag_34 rfl rfl rfl) ?_
      refine ox_nil ?_
      exact ex_capG (fun _ => (none, 0, 0)) rfl (List.append_nil _)
    dsimp only [aftL, List.set_cons_zero, List.set_cons_succ, List.nil_append, List.cons_append, List.append_nil]
    refine gx_o rfl (fun L2 => ?_) ?_
    · dsimp only [maskL, List.cons_append, List.nil_append]
      refine ox_y rfl (y_load1 3 (v := .bool u53.2.2.2.2.2.2.2.2.2.2) sc_4 rfl rfl rfl) ?_
      refine ox_nil ?_
      exact ex_capG (fun _ => (none, 0, 0)) rfl (List.append_nil _)
    dsimp only [aftL, List.set_cons_zero, List.set_cons_succ, List.nil_append, List.cons_append, List.append_nil]
    refine gx_n rfl (fun L2 => ?_) ?_
    · dsimp only [maskL, List.cons_append, List.nil_append]
      refine ox_n rfl (y_storeN 1 [.int .i64 u53.1, .int .i64 u53.2.1, .int .i64 u53.2.2.1, .int .i64 u53.2.2.2.1, .int .i64 u53.2.2.2.2.1] sz_34 rfl (Nat.le_of_ble_eq_true rfl) rfl rfl rfl) ?_
      refine ox_nil ?_
      exact ex_capGn (fun _ => (none, 0, 0)) (List.append_nil _)
    dsimp only [aftL, List.set_cons_zero, List.set_cons_succ, List.nil_append, List.cons_append, List.append_nil]
    refine gx_n rfl (fun L2 => ?_) ?_
    · dsimp only [maskL, List.cons_append, List.nil_append]
      refine ox_n rfl (y_storeN 2 [.int .i64 u53.2.2.2.2.2.1, .int .i64 u53.2.2.2.2.2.2.1, .int .i64 u53.2.2.2.2.2.2.2.1, .int .i64 u53.2.2.2.2.2.2.2.2.1, .int .i64 u53.2.2.2.2.2.2.2.2.2.1] sz_34 rfl (Nat.le_of_ble_eq_true rfl) rfl rfl rfl) ?_
      refine ox_nil ?_
      exact ex_capGn (fun _ => (none, 0, 0)) (List.append_nil _)
    dsimp only [aftL, List.set_cons_zero, List.set_cons_succ, List.nil_append, List.cons_append, List.append_nil]
    refine gx_n rfl (fun L2 => ?_) ?_
    · dsimp only [maskL, List.cons_append, List.nil_append]
      refine ox_n rfl (y_store1 3 (v := .bool u53.2.2.2.2.2.2.2.2.2.2) sz_4 rfl (Nat.lt_of_lt_of_le (Nat.lt_succ_self _) (Nat.le_of_ble_eq_true rfl)) rfl rfl rfl) ?_
      refine ox_nil ?_
      exact ex_capGn (fun _ => (none, 0, 0)) (List.append_nil _)
    dsimp only [aftL, List.set_cons_zero, List.set_cons_succ, List.nil_append, List.cons_append, List.append_nil]
    refine gx_nil ?_
    refine ex_then ?_
    refine cx_ret ?_
    refine ex_scope_ret ?_
    refine ex_M1 6 rfl (.inl rfl) ?_
    obtain rfl := Option.some.inj h
    exact ex_res3 (.inl rfl) rfl (resV_cellN 1 [.int .i64 u53.1, .int .i64 u53.2.1, .int .i64 u53.2.2.1, .int .i64 u53.2.2.2.1, .int .i64 u53.2.2.2.2.1] ag_34 rfl rfl rfl) (resV_cellN 2 [.int .i64 u53.2.2.2.2.2.1, .int .i64 u53.2.2.2.2.2.2.1, .int .i64 u53.2.2.2.2.2.2.2.1, .int .i64 u53.2.2.2.2.2.2.2.2.1, .int .i64 u53.2.2.2.2.2.2.2.2.2.1] ag_34 rfl rfl rfl) (resV_cell1 3 (v := .bool u53.2.2.2.2.2.2.2.2.2.2) sc_4 rfl rfl rfl) (fun W2 hW2 => ⟨rfl, hW2.none⟩)
  · rintro D12 u55 e L hst ⟨rfl, rfl⟩
    subst hst
    dsimp only at h
    refine ex_block_here ?_
    refine ex_then ?_
    refine cx_seq ?_
    refine cx_drawsG [[], [], [], [0], [0, 1, 3], [0, 1, 2, 3, 4]] [(none, 0, [true, true, true, true, true, true, true]), (none, 0, [true, true, true, true, true, true, true]), (none, 0, [true, true, true, true, true, true, true]), (none, 0, [true, true, true, true, true, true, true]), (none, 0, [true, true, true, true, true, true, true]), (none, 0, [true, true, true, true, true, true, true])] [⟨fun _ => .agg #[.int .i64 u55.1, .int .i64 u55.2.1, .int .i64 u55.2.2.1, .int .i64 u55.2.2.2.1, .int .i64 u55.2.2.2.2.1], fun _ => noR, fun _ => []⟩, ⟨fun _ => .agg #[.int .i64 u55.2.2.2.2.2.1, .int .i64 u55.2.2.2.2.2.2.1, .int .i64 u55.2.2.2.2.2.2.2.1, .int .i64 u55.2.2.2.2.2.2.2.2.1, .int .i64 u55.2.2.2.2.2.2.2.2.2.1], fun _ => noR, fun _ => []⟩, ⟨fun _ => .bool u55.2.2.2.2.2.2.2.2.2.2, fun _ => noR, fun _ => []⟩, ⟨fun _ => undef, fun _ => noR, fun _ => []⟩, ⟨fun _ => undef, fun _ => noR, fun _ => []⟩, ⟨fun _ => undef, fun _ => noR, fun _ => []⟩] 7 mixed (by kernel_rfl) (by kernel_rfl) ⟨⟨fun ξ56 ξ56' h => ⟨rfl, rfl, rfl⟩, fun _ => rfl⟩, ⟨fun ξ56 ξ56' h => ⟨rfl, rfl, rfl⟩, fun _ => rfl⟩, ⟨fun ξ56 ξ56' h => ⟨rfl, rfl, rfl⟩, fun _ => rfl⟩, ⟨fun ξ56 ξ56' h => ⟨rfl, rfl, rfl⟩, fun _ => rfl⟩, ⟨fun ξ56 ξ56' h => ⟨rfl, rfl, rfl⟩, fun _ => rfl⟩, ⟨fun ξ56 ξ56' h => ⟨rfl, rfl, rfl⟩, fun _ => rfl⟩, trivial⟩ rfl (fun ξ56 => ?_)
    refine gx_o rfl (fun L2 => ?_) ?_
    · dsimp only [maskL, List.cons_append, List.nil_append]
      refine ox_y rfl (y_loadN 1 [.int .i64 u55.1, .int .i64 u55.2.1, .int .i64 u55.2.2.1, .int .i64 u55.2.2.2.1, .int .i64 u55.2.2.2.2.1] ag_34 rfl rfl rfl) ?_
      refine ox_nil ?_
      exact ex_capG (fun _ => (none, 0, 0)) rfl (List.append_nil _)
    dsimp only [aftL, List.set_cons_zero, List.set_cons_succ, List.nil_append, List.cons_append, List.append_nil]
    refine gx_o rfl (fun L2 => ?_) ?_
    · dsimp only [maskL, List.cons_append, List.nil_append]
      refine ox_y rfl (y_loadN 2 [.int .i64 u55.2.2.2.2.2.1, .int .i64 u55.2.2.2.2.2.2.1, .int .i64 u55.2.2.2.2.2.2.2.1, .int .i64 u55.2.2.2.2.2.2.2.2.1, .int .i64 u55.2.2.2.2.2.2.2.2.2.1] ag_34 rfl rfl rfl) ?_
      refine ox_nil ?_
      exact ex_capG (fun _ => (none, 0, 0)) rfl (List.append_nil _)
    dsimp only [aftL, List.set_cons_zero, List.set_cons_succ, List.nil_append, List.cons_append, List.append_nil]
    refine gx_o rfl (fun L2 => ?_) ?_
    · dsimp only [maskL, List.cons_append, List.nil_append]
      refine ox_y rfl (y_load1 3 (v := .bool u55.2.2.2.2.2.2.2.2.2.2) sc_4 rfl rfl rfl) ?_
      refine ox_nil ?_
      exact ex_capG (fun _ => (none, 0, 0)) rfl (List.append_nil _)
    dsimp only [aftL, List.set_cons_zero, List.set_cons_succ, List.nil_append, List.cons_append, List.append_nil]
    refine gx_n rfl (fun L2 => ?_) ?_
    · dsimp only [maskL, List.cons_append, List.nil_append]
      refine ox_n rfl (y_storeN 1 [.int .i64 u55.1, .int .i64 u55.2.1, .int .i64 u55.2.2.1, .int .i64 u55.2.2.2.1, .int .i64 u55.2.2.2.2.1] sz_34 rfl (Nat.le_of_ble_eq_true rfl) rfl rfl rfl) ?_
      refine ox_nil ?_
      exact ex_capGn (fun _ => (none, 0, 0)) (List.append_nil _)
    dsimp only [aftL, List.set_cons_zero, List.set_cons_succ, List.nil_append, List.cons_append, List.append_nil]
    refine gx_n rfl (fun L2 => ?_) ?_
    · dsimp only [maskL, List.cons_append, List.nil_append]
      refine ox_n rfl (y_storeN 2 [.int .i64 u55.2.2.2.2.2.1, .int .i64 u55.2.2.2.2.2.2.1, .int .i64 u55.2.2.2.2.2.2.2.1, .int .i64 u55.2.2.2.2.2.2.2.2.1, .int .i64 u55.2.2.2.2.2.2.2.2.2.1] sz_34 rfl (Nat.le_of_ble_eq_true rfl) rfl rfl rfl) ?_
      refine ox_nil ?_
      exact ex_capGn (fun _ => (none, 0, 0)) (List.append_nil _)
    dsimp only [aftL, List.set_cons_zero, List.set_cons_succ, List.nil_append, List.cons_append, List.append_nil]
    refine gx_n rfl (fun L2 => ?_) ?_
    · dsimp only [maskL, List.cons_append, List.nil_append]
      refine ox_n rfl (y_store1 3 (v := .bool u55.2.2.2.2.2.2.2.2.2.2) sz_4 rfl (Nat.lt_of_lt_of_le (Nat.lt_succ_self _) (Nat.le_of_ble_eq_true rfl)) rfl rfl rfl) ?_
      refine ox_nil ?_
      exact ex_capGn (fun _ => (none, 0, 0)) (List.append_nil _)
    dsimp only [aftL, List.set_cons_zero, List.set_cons_succ, List.nil_append, List.cons_append, List.append_nil]
    refine gx_nil ?_
    refine ex_then ?_
    refine cx_ret ?_
    refine ex_scope_ret ?_
    refine ex_M1 6 rfl (.inl rfl) ?_
    obtain rfl := Option.some.inj h
    exact ex_res3 (.inl rfl) rfl (resV_cellN 1 [.int .i64 u55.1, .int .i64 u55.2.1, .int .i64 u55.2.2.1, .int .i64 u55.2.2.2.1, .int .i64 u55.2.2.2.2.1] ag_34 rfl rfl rfl) (resV_cellN 2 [.int .i64 u55.2.2.2.2.2.1, .int .i64 u55.2.2.2.2.2.2.1, .int .i64 u55.2.2.2.2.2.2.2.1, .int .i64 u55.2.2.2.2.2.2.2.2.1, .int .i64 u55.2.2.2.2.2.2.2.2.2.1] ag_34 rfl rfl rfl) (resV_cell1 3 (v := .bool u55.2.2.2.2.2.2.2.2.2.2) sc_4 rfl rfl rfl) (fun W2 hW2 => ⟨rfl, hW2.none⟩)

/-! calx/fire.agree -/
set_option maxRecDepth 100000 in
theorem fire_agree_ok (p0_f : TFire) (res : Bool) (h : fire_agree p0_f = some res) (W : World) (A0_4 : Option Addr) (n0_4 c0_4 : Nat) (hn0_4 : n0_4 = p0_f.fLooks.length) (hr0_4 : Rd W A0_4 n0_4 c0_4 (encL TLook_cells p0_f.fLooks)) :
    Calls Try.prog 59 [.agg #[.int .i64 p0_f.fRise, .int .i64 p0_f.fFall, .int .i64 p0_f.fUp, .int .i64 p0_f.fDown, .slice A0_4 n0_4 c0_4]].toArray W fun e W2 => e = .returned (.bool res) ∧ Ext W W2 [] := by
  subst hn0_4
  unfold fire_agree at h
  refine calls_enter (m := 14) Try.func59 rfl rfl (Nat.le_of_ble_eq_true rfl) ?_
  refine cx_seq ?_
  refine cx_region ?_
  refine ox_box [.int .i64 p0_f.fRise, .int .i64 p0_f.fFall, .int .i64 p0_f.fUp, .int .i64 p0_f.fDown, .slice A0_4 p0_f.fLooks.length c0_4] rfl rfl rfl (fun b1 => ?_)
  refine ox_y rfl (y_assign_bool rfl) ?_
  refine ox_nil ?_
  refine ex_then ?_
  refine cx_seq ?_
  refine cx_region ?_
  refine ox_y rfl (y_loadN 0 [.int .i64 p0_f.fRise, .int .i64 p0_f.fFall, .int .i64 p0_f.fUp, .int .i64 p0_f.fDown, .slice A0_4 p0_f.fLooks.length c0_4] ag_24 rfl rfl rfl) ?_
  obtain ⟨y2, hy3, h⟩ := bind_some h
  refine ox_y rfl (y_call [.agg #[.int .i64 p0_f.fRise, .int .i64 p0_f.fFall, .int .i64 p0_f.fUp, .int .i64 p0_f.fDown, .slice A0_4 p0_f.fLooks.length c0_4]] go_58 rfl (fun W2 hW2 => fire_clash_ok p0_f y2 hy3 W2 A0_4 p0_f.fLooks.length c0_4 rfl ((RdL.arg hr0_4) W2 hW2)) rfl) ?_
  refine ox_y rfl (y_move_tuple rfl) ?_
  refine ox_y rfl (y_extract (vs := [.agg #[.int .i64 y2.1.fID, .int .i64 y2.1.fAt.fFoot, .int .i64 y2.1.fAt.fHour, .int .i64 y2.1.fHeat.fLo, .int .i64 y2.1.fHeat.fHi], .agg #[.int .i64 y2.2.1.fID, .int .i64 y2.2.1.fAt.fFoot, .int .i64 y2.2.1.fAt.fHour, .int .i64 y2.2.1.fHeat.fLo, .int .i64 y2.2.1.fHeat.fHi], .bool y2.2.2]) (v := .agg #[.int .i64 y2.1.fID, .int .i64 y2.1.fAt.fFoot, .int .i64 y2.1.fAt.fHour, .int .i64 y2.1.fHeat.fLo, .int .i64 y2.1.fHeat.fHi]) rfl rfl) ?_
  refine ox_y rfl (y_extract (vs := [.agg #[.int .i64 y2.1.fID, .int .i64 y2.1.fAt.fFoot, .int .i64 y2.1.fAt.fHour, .int .i64 y2.1.fHeat.fLo, .int .i64 y2.1.fHeat.fHi], .agg #[.int .i64 y2.2.1.fID, .int .i64 y2.2.1.fAt.fFoot, .int .i64 y2.2.1.fAt.fHour, .int .i64 y2.2.1.fHeat.fLo, .int .i64 y2.2.1.fHeat.fHi], .bool y2.2.2]) (v := .agg #[.int .i64 y2.2.1.fID, .int .i64 y2.2.1.fAt.fFoot, .int .i64 y2.2.1.fAt.fHour, .int .i64 y2.2.1.fHeat.fLo, .int .i64 y2.2.1.fHeat.fHi]) rfl rfl) ?_
  refine ox_y rfl (y_extract (vs := [.agg #[.int .i64 y2.1.fID, .int .i64 y2.1.fAt.fFoot, .int .i64 y2.1.fAt.fHour, .int .i64 y2.1.fHeat.fLo, .int .i64 y2.1.fHeat.fHi], .agg #[.int .i64 y2.2.1.fID, .int .i64 y2.2.1.fAt.fFoot, .int .i64 y2.2.1.fAt.fHour, .int .i64 y2.2.1.fHeat.fLo, .int .i64 y2.2.1.fHeat.fHi], .bool y2.2.2]) (v := .bool y2.2.2) rfl rfl) ?_
  refine ox_alloc ze_34 rfl (fun b4 => ?_)
  refine ox_alloc ze_34 rfl (fun b5 => ?_)
  refine ox_n rfl (y_storeN 1 [.int .i64 y2.1.fID, .int .i64 y2.1.fAt.fFoot, .int .i64 y2.1.fAt.fHour, .int .i64 y2.1.fHeat.fLo, .int .i64 y2.1.fHeat.fHi] sz_34 rfl (Nat.le_of_ble_eq_true rfl) rfl rfl rfl) ?_
  refine ox_n rfl (y_storeN 2 [.int .i64 y2.2.1.fID, .int .i64 y2.2.1.fAt.fFoot, .int .i64 y2.2.1.fAt.fHour, .int .i64 y2.2.1.fHeat.fLo, .int .i64 y2.2.1.fHeat.fHi] sz_34 rfl (Nat.le_of_ble_eq_true rfl) rfl rfl rfl) ?_
  refine ox_y rfl (y_assign_bool rfl) ?_
  refine ox_nil ?_
  refine ex_then ?_
  refine cx_seq ?_
  refine cx_region ?_
  refine ox_y rfl (y_move_bool rfl) ?_
  refine ox_y rfl (y_not rfl) ?_
  refine ox_y rfl (y_assign_bool rfl) ?_
  refine ox_nil ?_
  refine ex_then ?_
  refine cx_ret ?_
  obtain rfl := Option.some.inj h
  exact ex_res1 (.inl rfl) rfl (resV_tmp (v := .bool (!y2.2.2)) rfl) (fun W2 hW2 => ⟨rfl, hW2.none⟩)

/-! calx/fire.agreed -/
set_option maxRecDepth 100000 in
theorem fire_agreed_ok (p0_f : TFire) (p1_e : Int) (res : Int) (h : fire_agreed p0_f p1_e = some res) (W : World) (A0_4 : Option Addr) (n0_4 c0_4 : Nat) (hn0_4 : n0_4 = p0_f.fLooks.length) (hr0_4 : Rd W A0_4 n0_4 c0_4 (encL TLook_cells p0_f.fLooks)) :
    Calls Try.prog 55 [.agg #[.int .i64 p0_f.fRise, .int .i64 p0_f.fFall, .int .i64 p0_f.fUp, .int .i64 p0_f.fDown, .slice A0_4 n0_4 c0_4], .int .i64 p1_e].toArray W fun e W2 => e = .returned (.int .i64 res) ∧ Ext W W2 [] := by
  subst hn0_4
  unfold fire_agreed at h
  refine calls_enter (m := 13) Try.func55 rfl rfl (Nat.le_of_ble_eq_true rfl) ?_
  refine cx_seq ?_
  refine cx_region ?_
  refine ox_box [.int .i64 p0_f.fRise, .int .i64 p0_f.fFall, .int .i64 p0_f.fUp, .int .i64 p0_f.fDown, .slice A0_4 p0_f.fLooks.length c0_4] rfl rfl rfl (fun b1 => ?_)
  refine ox_y rfl (y_assign_int rfl) ?_
  refine ox_nil ?_
  refine ex_then ?_
  refine cx_seq ?_
  refine cx_seq ?_
  refine cx_region ?_
  refine ox_y rfl (y_move_int rfl) ?_
  refine ox_y rfl (y_eql rfl rfl) ?_
  refine ox_y rfl (y_move_bool rfl) ?_
  obtain ⟨b3, hb4, h⟩ := bind_some h
  refine ox_join 4 (fun tm0 => (upd (upd (upd tm0 1 (.int .i64 p1_e)) 4 (.int .i64 0)) 11 (.bool b3))) (fun tm0 => ?_) (fun key => ?_)
  · refine ox_nil ?_
    refine ex_then ?_
    rcases ite_some h with ⟨hp5, h⟩ | ⟨hp5, h⟩
    · refine cx_true (congrArg Value.bool hp5) ?_
      refine cx_seq ?_
      refine cx_region ?_
      refine ox_y rfl (y_assign_int rfl) ?_
      refine ox_nil ?_
      refine ex_then ?_
      refine cx_ret ?_
      refine ex_then_ret ?_
      obtain rfl := Option.some.inj h
      exact ex_res1 (.inl rfl) rfl (resV_tmp (v := .int .i64 9) rfl) (fun W2 hW2 => ⟨rfl, hW2.none⟩)
    · refine cx_false (congrArg Value.bool hp5) ?_
      refine cx_skip ?_
      refine ex_then ?_
      refine cx_seq ?_
      refine cx_region ?_
      refine ox_y rfl (y_move_int rfl) ?_
      refine ox_y rfl (y_assign_int rfl) ?_
      refine ox_nil ?_
      refine ex_then ?_
      refine cx_ret ?_
      obtain rfl := Option.some.inj h
      exact ex_res1 (.inl rfl) rfl (resV_tmp (v := .int .i64 p1_e) rfl) (fun W2 hW2 => ⟨rfl, hW2.none⟩)
  · clear h; rcases ite_some hb4 with ⟨hp2, h⟩ | ⟨hp2, h⟩
    · refine ox_y (sees_t rfl rfl rfl rfl hp2) (y_loadN 0 [.int .i64 p0_f.fRise, .int .i64 p0_f.fFall, .int .i64 p0_f.fUp, .int .i64 p0_f.fDown, .slice A0_4 p0_f.fLooks.length c0_4] ag_24 rfl rfl rfl) ?_
      obtain ⟨y6, hy7, h⟩ := bind_some h
      refine ox_y (sees_t rfl rfl rfl rfl hp2) (y_call [.agg #[.int .i64 p0_f.fRise, .int .i64 p0_f.fFall, .int .i64 p0_f.fUp, .int .i64 p0_f.fDown, .slice A0_4 p0_f.fLooks.length c0_4]] go_59 rfl (fun W2 hW2 => fire_agree_ok p0_f y6 hy7 W2 A0_4 p0_f.fLooks.length c0_4 rfl ((RdL.arg hr0_4) W2 hW2)) rfl) ?_
      refine ox_y (sees_t rfl rfl rfl rfl hp2) (y_not rfl) ?_
      refine ox_y rfl (y_pick_tb (congrArg Value.bool hp2) rfl) ?_
      obtain rfl := Option.some.inj h
      exact key _ _ (keep (keep (keep rfl rfl) rfl) rfl)
    · refine ox_skip (sees_f rfl rfl rfl rfl hp2) ?_
      refine ox_skip (sees_f rfl rfl rfl rfl hp2) ?_
      refine ox_skip (sees_f rfl rfl rfl rfl hp2) ?_
      refine ox_y rfl (y_pick_fb (congrArg Value.bool hp2) rfl) ?_
      obtain rfl := Option.some.inj h
      exact key _ _ (keep (keep (keep rfl rfl) rfl) rfl)

/-! slices.IndexFunc[[]calx/api.Spot,calx/api.Spot] -/
set_option maxRecDepth 100000 in
theorem slices_IndexFunc_calx_api_Spot_calx_api_Spot_ok (p0_s : (List TSpot)) (p1_f : TSpot → Option Bool) (res : Int) (h : slices_IndexFunc_calx_api_Spot_calx_api_Spot p0_s p1_f = some res) (W : World) (A0_0 : Option Addr) (n0_0 c0_0 : Nat) (hn0_0 : n0_0 = p0_s.length) (hr0_0 : Rd W A0_0 n0_0 c0_0 (encL TSpot_cells p0_s)) (fid1 : Nat) (caps1 : List Value) (hgo1 : goes Try.prog fid1 = true) (hof1 : ∀ W2, Below W.heap.size W W2 → ∀ x y, p1_f x = some y → Calls Try.prog fid1 (([.agg #[.int .i64 x.fFoot, .int .i64 x.fHour]] : List Value) ++ caps1).toArray W2 fun e W3 => e = .returned (.bool y) ∧ Ext W2 W3 []) :
    Calls Try.prog 112 [.slice A0_0 n0_0 c0_0, .func (.func fid1) #[] caps1.toArray].toArray W fun e W2 => e = .returned (.int .i64 res) ∧ Ext W W2 [] := by
  subst hn0_0
  unfold slices_IndexFunc_calx_api_Spot_calx_api_Spot at h
  refine calls_enter (m := 19) Try.func112 rfl rfl (Nat.le_of_ble_eq_true rfl) ?_
  refine cx_seq ?_
  refine cx_region ?_
  refine ox_y rfl (y_assign_int rfl) ?_
  refine ox_nil ?_
  refine ex_then ?_
  refine cx_seq ?_
  refine cx_seq ?_
  refine cx_region ?_
  refine ox_y rfl (y_move_slice rfl) ?_
  refine ox_y rfl (y_len (us := []) us_46 rfl) ?_
  refine ox_y rfl (y_move_int rfl) ?_
  refine ox_nil ?_
  refine ex_then ?_
  refine cx_block ?_
  obtain ⟨u3, hl9, h⟩ := bind_some h
  refine cx_loop (fun (s : (Int × Int)) L tm => ∃ (tm0 : Nat → Value), L = [] ∧ tm = (upd (upd (upd (upd (upd tm0 0 (.slice A0_0 p0_s.length c0_0)) 1 (.func (.func fid1) #[] caps1.toArray)) 4 (.int .i64 s.1)) 7 (.int .i64 ((p0_s.length : Nat) : Int))) 8 (.int .i64 s.2))) (fun | (.inl s), e, L, tm => e = .ret ∧ ∃ (tm0 : Nat → Value), L = [] ∧ tm = (upd (upd (upd (upd (upd tm0 0 (.slice A0_0 p0_s.length c0_0)) 1 (.func (.func fid1) #[] caps1.toArray)) 4 (.int .i64 s.1)) 7 (.int .i64 ((p0_s.length : Nat) : Int))) 8 (.int .i64 s.2)) | (.inr s), e, L, tm => e = .exit 0 ∧ ∃ (tm0 : Nat → Value), L = [] ∧ tm = (upd (upd (upd (upd (upd tm0 0 (.slice A0_0 p0_s.length c0_0)) 1 (.func (.func fid1) #[] caps1.toArray)) 4 (.int .i64 s.1)) 7 (.int .i64 ((p0_s.length : Nat) : Int))) 8 (.int .i64 s.2))) hl9 ⟨_, rfl, (keep (keep (keep (keep (keep rfl rfl) rfl) rfl) rfl) rfl)⟩ ?_ ?_
  · rintro s2 L tm st ⟨tm0_s2, rfl, rfl⟩ h
    unfold slices_IndexFunc_calx_api_Spot_calx_api_Spot_l1 at h
    refine cx_seq ?_
    refine cx_region ?_
    refine ox_y rfl (y_lss rfl rfl) ?_
    refine ox_nil ?_
    refine ex_then ?_
    refine cx_seq ?_
    rcases ite_some h with ⟨hp4, h⟩ | ⟨hp4, h⟩
    · refine cx_true (congrArg Value.bool hp4) ?_
      refine cx_skip ?_
      refine ex_then ?_
      refine cx_seq ?_
      refine cx_block ?_
      refine cx_seq ?_
      refine cx_region ?_
      refine ox_y rfl (y_move_int rfl) ?_
      refine ox_y rfl (y_assign_int rfl) ?_
      refine ox_nil ?_
      refine ex_then ?_
      refine cx_seq ?_
      refine cx_region ?_
      refine ox_y rfl (y_move (v := .func (.func fid1) #[] caps1.toArray) rfl) ?_
      refine ox_y rfl (y_move_slice rfl) ?_
      refine ox_y rfl (y_move_int rfl) ?_
      obtain ⟨hg5, h⟩ := guardO_some h
      refine ox_y rfl (y_indexR sl_46 (by decide) hg5.1 hg5.2 (RdL.arg hr0_0) (encL_len TSpot_cells_len rfl) rfl rfl) ?_
      refine ox_y rfl (y_loadRN (A := A0_0) (j := (Int.toNat s2.2 * 2)) [.int .i64 ((rdL p0_s s2.2).fFoot), .int .i64 ((rdL p0_s s2.2).fHour)] ag_26 (Nat.succ_pos _) (RdL.arg hr0_0) rfl (encL_gets TSpot_cells_len hg5.1 (lt_nat hg5.2 rfl))) ?_
      obtain ⟨y6, hy7, h⟩ := bind_some h
      refine ox_y rfl (y_callv [.agg #[.int .i64 ((rdL p0_s s2.2).fFoot), .int .i64 ((rdL p0_s s2.2).fHour)]] hgo1 rfl rfl (fun W2 hW2 => hof1 W2 hW2.below (TSpot.mk ((rdL p0_s s2.2).fFoot) ((rdL p0_s s2.2).fHour)) y6 hy7)) ?_
      refine ox_nil ?_
      refine ex_then ?_
      rcases ite_some h with ⟨hp8, h⟩ | ⟨hp8, h⟩
      · refine cx_true (congrArg Value.bool hp8) ?_
        refine cx_seq ?_
        refine cx_region ?_
        refine ox_y rfl (y_move_int rfl) ?_
        refine ox_y rfl (y_assign_int rfl) ?_
        refine ox_nil ?_
        refine ex_then ?_
        refine cx_ret ?_
        refine ex_block_ret ?_
        refine ex_then_ret ?_
        obtain rfl := Option.some.inj h
        exact ex_stop ⟨rfl, _, rfl, (keep (keep (keep (keep (keep rfl rfl) rfl) rfl) rfl) rfl)⟩
      · refine cx_false (congrArg Value.bool hp8) ?_
        refine cx_skip ?_
        refine ex_block ?_
        refine ex_then ?_
        refine cx_region ?_
        refine ox_y rfl (y_add rfl rfl) ?_
        refine ox_y rfl (y_move_int rfl) ?_
        refine ox_nil ?_
        obtain rfl := Option.some.inj h
        exact ex_next ⟨_, rfl, (keep (keep (keep (keep (keep rfl rfl) rfl) rfl) rfl) rfl)⟩
    · refine cx_false (congrArg Value.bool hp4) ?_
      refine cx_exit ?_
      refine ex_then_exit ?_
      obtain rfl := Option.some.inj h
      exact ex_stop ⟨rfl, _, rfl, (keep (keep (keep (keep (keep rfl rfl) rfl) rfl) rfl) rfl)⟩
  · intro e L tm hJ
    rcases u3 with u10 | u11
    · dsimp only at h hJ
      obtain ⟨rfl, tm0_u10, rfl, rfl⟩ := hJ
      refine ⟨(by intro hc; cases hc), ?_⟩
      refine ex_block_ret ?_
      refine ex_then_ret ?_
      obtain rfl := Option.some.inj h
      exact ex_res1 (.inl rfl) rfl (resV_tmp (v := .int .i64 u10.1) rfl) (fun W2 hW2 => ⟨rfl, hW2.none⟩)
    · dsimp only at h hJ
      obtain ⟨rfl, tm0_u11, rfl, rfl⟩ := hJ
      refine ⟨(by intro hc; cases hc), ?_⟩
      refine ex_block_here ?_
      refine ex_then ?_
      refine cx_seq ?_
      refine cx_region ?_
      refine ox_y rfl (y_assign_int rfl) ?_
      refine ox_nil ?_
      refine ex_then ?_
      refine cx_ret ?_
      obtain rfl := Option.some.inj h
      exact ex_res1 (.inl rfl) rfl (resV_tmp (v := .int .i64 (-1)) rfl) (fun W2 hW2 => ⟨rfl, hW2.none⟩)

/-! slices.ContainsFunc[[]calx/api.Spot,calx/api.Spot] -/
set_option maxRecDepth 100000 in
theorem slices_ContainsFunc_calx_api_Spot_calx_api_Spot_ok (p0_s : (List TSpot)) (p1_f : TSpot → Option Bool) (res : Bool) (h : slices_ContainsFunc_calx_api_Spot_calx_api_Spot p0_s p1_f = some res) (W : World) (A0_0 : Option Addr) (n0_0 c0_0 : Nat) (hn0_0 : n0_0 = p0_s.length) (hr0_0 : Rd W A0_0 n0_0 c0_0 (encL TSpot_cells p0_s)) (fid1 : Nat) (caps1 : List Value) (hgo1 : goes Try.prog fid1 = true) (hof1 : ∀ W2, Below W.heap.size W W2 → ∀ x y, p1_f x = some y → Calls Try.prog fid1 (([.agg #[.int .i64 x.fFoot, .int .i64 x.fHour]] : List Value) ++ caps1).toArray W2 fun e W3 => e = .returned (.bool y) ∧ Ext W2 W3 []) :
    Calls Try.prog 97 [.slice A0_0 n0_0 c0_0, .func (.func fid1) #[] caps1.toArray].toArray W fun e W2 => e = .returned (.bool res) ∧ Ext W W2 [] := by
  subst hn0_0
  unfold slices_ContainsFunc_calx_api_Spot_calx_api_Spot at h
  refine calls_enter (m := 9) Try.func97 rfl rfl (Nat.le_of_ble_eq_true rfl) ?_
  refine cx_seq ?_
  refine cx_region ?_
  refine ox_y rfl (y_assign_bool rfl) ?_
  refine ox_nil ?_
  refine ex_then ?_
  refine cx_seq ?_
  refine cx_region ?_
  refine ox_y rfl (y_move_slice rfl) ?_
  refine ox_y rfl (y_move (v := .func (.func fid1) #[] caps1.toArray) rfl) ?_
  obtain ⟨y1, hy2, h⟩ := bind_some h
  refine ox_y rfl (y_call [.slice A0_0 p0_s.length c0_0, .func (.func fid1) #[] caps1.toArray] go_112 rfl (fun W2 hW2 => slices_IndexFunc_calx_api_Spot_calx_api_Spot_ok p0_s p1_f y1 hy2 W2 A0_0 p0_s.length c0_0 rfl ((RdL.arg hr0_0) W2 hW2) fid1 caps1 hgo1 (fun W3 hb => hof1 W3 (belowT hW2.below hb))) rfl) ?_
  refine ox_y rfl (y_geq rfl rfl) ?_
  refine ox_y rfl (y_assign_bool rfl) ?_
  refine ox_nil ?_
  refine ex_then ?_
  refine cx_ret ?_
  obtain rfl := Option.some.inj h
  exact ex_res1 (.inl rfl) rfl (resV_tmp (v := .bool (decide (0 ≤ y1))) rfl) (fun W2 hW2 => ⟨rfl, hW2.none⟩)

/-! calx/fire.spots$1 -/
set_option maxRecDepth 100000 in
theorem fire_spots_1_ok (p0_s : TSpot) (res : Bool) (h : fire_spots_1 p0_s = some res) (W : World)  :
    Calls Try.prog 98 [.agg #[.int .i64 p0_s.fFoot, .int .i64 p0_s.fHour]].toArray W fun e W2 => e = .returned (.bool res) ∧ Ext W W2 [] := by
  unfold fire_spots_1 at h
  refine calls_enter (m := 6) Try.func98 rfl rfl (Nat.le_of_ble_eq_true rfl) ?_
  refine cx_seq ?_
  refine cx_region ?_
  refine ox_box [.int .i64 p0_s.fFoot, .int .i64 p0_s.fHour] rfl rfl rfl (fun b1 => ?_)
  refine ox_y rfl (y_assign_bool rfl) ?_
  refine ox_nil ?_
  refine ex_then ?_
  refine cx_seq ?_
  refine cx_region ?_
  refine ox_y rfl (y_loadN 0 [.int .i64 p0_s.fFoot, .int .i64 p0_s.fHour] ag_26 rfl rfl rfl) ?_
  obtain ⟨y2, hy3, h⟩ := bind_some h
  refine ox_y rfl (y_call [.agg #[.int .i64 p0_s.fFoot, .int .i64 p0_s.fHour]] go_70 rfl (fun W2 hW2 => fire_right_ok p0_s y2 hy3 W2 ) rfl) ?_
  refine ox_y rfl (y_not rfl) ?_
  refine ox_y rfl (y_assign_bool rfl) ?_
  refine ox_nil ?_
  refine ex_then ?_
  refine cx_ret ?_
  obtain rfl := Option.some.inj h
  exact ex_res1 (.inl rfl) rfl (resV_tmp (v := .bool (!y2)) rfl) (fun W2 hW2 => ⟨rfl, hW2.none⟩)

/-! calx/fire.spots -/
set_option maxRecDepth 100000 in
theorem fire_spots_ok (p0_f : TFire) (p1_l : (List TSpot)) (res : Int) (h : fire_spots p0_f p1_l = some res) (W : World) (A0_4 : Option Addr) (n0_4 c0_4 : Nat) (hn0_4 : n0_4 = p0_f.fLooks.length) (hr0_4 : Rd W A0_4 n0_4 c0_4 (encL TLook_cells p0_f.fLooks)) (A1_0 : Option Addr) (n1_0 c1_0 : Nat) (hn1_0 : n1_0 = p1_l.length) (hr1_0 : Rd W A1_0 n1_0 c1_0 (encL TSpot_cells p1_l)) :
    Calls Try.prog 56 [.agg #[.int .i64 p0_f.fRise, .int .i64 p0_f.fFall, .int .i64 p0_f.fUp, .int .i64 p0_f.fDown, .slice A0_4 n0_4 c0_4], .slice A1_0 n1_0 c1_0].toArray W fun e W2 => e = .returned (.int .i64 res) ∧ Ext W W2 [] := by
  subst hn0_4
  subst hn1_0
  unfold fire_spots at h
  refine calls_enter (m := 13) Try.func56 rfl rfl (Nat.le_of_ble_eq_true rfl) ?_
  refine cx_seq ?_
  refine cx_region ?_
  refine ox_box [.int .i64 p0_f.fRise, .int .i64 p0_f.fFall, .int .i64 p0_f.fUp, .int .i64 p0_f.fDown, .slice A0_4 p0_f.fLooks.length c0_4] rfl rfl rfl (fun b1 => ?_)
  refine ox_y rfl (y_assign_int rfl) ?_
  refine ox_nil ?_
  refine ex_then ?_
  refine cx_seq ?_
  refine cx_seq ?_
  refine cx_region ?_
  refine ox_y rfl (y_loadN 0 [.int .i64 p0_f.fRise, .int .i64 p0_f.fFall, .int .i64 p0_f.fUp, .int .i64 p0_f.fDown, .slice A0_4 p0_f.fLooks.length c0_4] ag_24 rfl rfl rfl) ?_
  obtain ⟨y2, hy3, h⟩ := bind_some h
  refine ox_y rfl (y_call [.agg #[.int .i64 p0_f.fRise, .int .i64 p0_f.fFall, .int .i64 p0_f.fUp, .int .i64 p0_f.fDown, .slice A0_4 p0_f.fLooks.length c0_4]] go_12 rfl (fun W2 hW2 => fire_Check_ok p0_f y2 hy3 W2 A0_4 p0_f.fLooks.length c0_4 rfl ((RdL.arg hr0_4) W2 hW2)) rfl) ?_
  refine ox_y rfl (y_assign_int rfl) ?_
  refine ox_nil ?_
  refine ex_then ?_
  refine cx_seq ?_
  refine cx_region ?_
  refine ox_y rfl (y_move_int rfl) ?_
  refine ox_y rfl (y_neq rfl rfl) ?_
  refine ox_nil ?_
  refine ex_then ?_
  rcases ite_some h with ⟨hp4, h⟩ | ⟨hp4, h⟩
  · refine cx_true (congrArg Value.bool hp4) ?_
    refine cx_seq ?_
    refine cx_region ?_
    refine ox_y rfl (y_move_int rfl) ?_
    refine ox_y rfl (y_assign_int rfl) ?_
    refine ox_nil ?_
    refine ex_then ?_
    refine cx_ret ?_
    refine ex_then_ret ?_
    obtain rfl := Option.some.inj h
    exact ex_res1 (.inl rfl) rfl (resV_tmp (v := .int .i64 y2) rfl) (fun W2 hW2 => ⟨rfl, hW2.none⟩)
  · refine cx_false (congrArg Value.bool hp4) ?_
    refine cx_skip ?_
    refine ex_then ?_
    refine cx_seq ?_
    refine cx_seq ?_
    refine cx_region ?_
    refine ox_y rfl (y_move_slice rfl) ?_
    obtain ⟨y6, hy7, h⟩ := bind_some h
    refine ox_y rfl (y_call [.slice A1_0 p1_l.length c1_0, .func (.func 98) #[] #[]] go_97 rfl (fun W2 hW2 => slices_ContainsFunc_calx_api_Spot_calx_api_Spot_ok p1_l (fun x5 => fire_spots_1 x5) y6 hy7 W2 A1_0 p1_l.length c1_0 rfl ((RdL.arg hr1_0) W2 hW2) 98 [] go_98 (fun W3 hb x y hxy => fire_spots_1_ok x  y hxy W3 )) rfl) ?_
    refine ox_nil ?_
    refine ex_then ?_
    rcases ite_some h with ⟨hp8, h⟩ | ⟨hp8, h⟩
    · refine cx_true (congrArg Value.bool hp8) ?_
      refine cx_seq ?_
      refine cx_region ?_
      refine ox_y rfl (y_assign_int rfl) ?_
      refine ox_nil ?_
      refine ex_then ?_
      refine cx_ret ?_
      refine ex_then_ret ?_
      obtain rfl := Option.some.inj h
      exact ex_res1 (.inl rfl) rfl (resV_tmp (v := .int .i64 1) rfl) (fun W2 hW2 => ⟨rfl, hW2.none⟩)
    · refine cx_false (congrArg Value.bool hp8) ?_
      refine cx_skip ?_
      refine ex_then ?_
      refine cx_seq ?_
      refine cx_region ?_
      refine ox_y rfl (y_assign_int rfl) ?_
      refine ox_nil ?_
      refine ex_then ?_
      refine cx_ret ?_
      obtain rfl := Option.some.inj h
      exact ex_res1 (.inl rfl) rfl (resV_tmp (v := .int .i64 0) rfl) (fun W2 hW2 => ⟨rfl, hW2.none⟩)

/-! calx/fire.low$1 -/
set_option maxRecDepth 100000 in
theorem fire_low_1_ok (p0_x : TLook) (cap0 : TFire) (cap1 : TSpot) (res : Int) (h : fire_low_1 p0_x cap0 cap1 = some res) (W : World) (bc0 : Nat) (A100_4 : Option Addr) (n100_4 c100_4 : Nat) (hn100_4 : n100_4 = cap0.fLooks.length) (hr100_4 : Rd W A100_4 n100_4 c100_4 (encL TLook_cells cap0.fLooks)) (hcap0 : Rd W (some ⟨bc0, 0, none⟩) 1 1 [.int .i64 cap0.fRise, .int .i64 cap0.fFall, .int .i64 cap0.fUp, .int .i64 cap0.fDown, .slice A100_4 n100_4 c100_4]) (bc1 : Nat) (hcap1 : Rd W (some ⟨bc1, 0, none⟩) 1 1 (TSpot_cells cap1)) :
    Calls Try.prog 110 [.agg #[.int .i64 p0_x.fID, .int .i64 p0_x.fAt.fFoot, .int .i64 p0_x.fAt.fHour, .int .i64 p0_x.fHeat.fLo, .int .i64 p0_x.fHeat.fHi], .pointer (some ⟨bc0, 0, none⟩), .pointer (some ⟨bc1, 0, none⟩)].toArray W fun e W2 => e = .returned (.int .i64 res) ∧ Ext W W2 [] := by
  subst hn100_4
  unfold fire_low_1 at h
  refine calls_enter (m := 14) Try.func110 rfl rfl (Nat.le_of_ble_eq_true rfl) ?_
  refine cx_seq ?_
  refine cx_region ?_
  refine ox_box [.int .i64 p0_x.fID, .int .i64 p0_x.fAt.fFoot, .int .i64 p0_x.fAt.fHour, .int .i64 p0_x.fHeat.fLo, .int .i64 p0_x.fHeat.fHi] rfl rfl rfl (fun b1 => ?_)
  refine ox_y rfl (y_assign_int rfl) ?_
  refine ox_nil ?_
  refine ex_then ?_
  refine cx_seq ?_
  refine cx_draws 10 mixed (by kernel_rfl) (by kernel_rfl) ?_
  refine qx_y rfl (y_fieldAddr fo_34_2 rfl) ?_
  refine qx_y rfl (y_fieldAddr fo_32_0 rfl) ?_
  refine qx_y rfl (y_load1 0 (v := .int .i64 p0_x.fHeat.fLo) sc_3 rfl rfl rfl) ?_
  refine qx_y rfl (y_loadRN (A := (some ⟨bc0, 0, none⟩)) (j := 0) [.int .i64 cap0.fRise, .int .i64 cap0.fFall, .int .i64 cap0.fUp, .int .i64 cap0.fDown, .slice A100_4 cap0.fLooks.length c100_4] ag_24 (Nat.succ_pos _) (RdL.arg hcap0) rfl (gets_all rfl)) ?_
  refine qx_y rfl (y_loadRN (A := (some ⟨bc1, 0, none⟩)) (j := 0) [.int .i64 cap1.fFoot, .int .i64 cap1.fHour] ag_26 (Nat.succ_pos _) (RdL.arg hcap1) rfl (gets_all rfl)) ?_
  refine qx_y rfl (y_fieldAddr fo_34_1 rfl) ?_
  refine qx_y rfl (y_loadN 0 [.int .i64 p0_x.fAt.fFoot, .int .i64 p0_x.fAt.fHour] ag_26 rfl rfl rfl) ?_
  obtain ⟨y2, hy3, h⟩ := bind_some h
  refine qx_y rfl (y_call [.agg #[.int .i64 cap0.fRise, .int .i64 cap0.fFall, .int .i64 cap0.fUp, .int .i64 cap0.fDown, .slice A100_4 cap0.fLooks.length c100_4], .agg #[.int .i64 cap1.fFoot, .int .i64 cap1.fHour], .agg #[.int .i64 p0_x.fAt.fFoot, .int .i64 p0_x.fAt.fHour]] go_73 rfl (fun W2 hW2 => fire_far_ok cap0 cap1 p0_x.fAt y2 hy3 W2 A100_4 cap0.fLooks.length c100_4 rfl ((RdL.arg hr100_4) W2 hW2)) rfl) ?_
  refine qx_y rfl (y_sub rfl rfl) ?_
  refine qx_y rfl (y_assign_int rfl) ?_
  refine qx_nil ?_
  refine ox_nil ?_
  refine ex_then ?_
  refine cx_ret ?_
  obtain rfl := Option.some.inj h
  exact ex_res1 (.inl rfl) rfl (resV_tmp (v := .int .i64 (w64 (p0_x.fHeat.fLo - y2))) rfl) (fun W2 hW2 => ⟨rfl, hW2.none⟩)

/-! calx/fire.low -/
set_option maxRecDepth 100000 in
theorem fire_low_ok (p0_f : TFire) (p1_at : TSpot) (res : Unit) (h : fire_low p0_f p1_at = some res) (W : World) (A0_4 : Option Addr) (n0_4 c0_4 : Nat) (hn0_4 : n0_4 = p0_f.fLooks.length) (hr0_4 : Rd W A0_4 n0_4 c0_4 (encL TLook_cells p0_f.fLooks)) :
    Calls Try.prog 93 [.agg #[.int .i64 p0_f.fRise, .int .i64 p0_f.fFall, .int .i64 p0_f.fUp, .int .i64 p0_f.fDown, .slice A0_4 n0_4 c0_4], .agg #[.int .i64 p1_at.fFoot, .int .i64 p1_at.fHour]].toArray W fun e W2 => ∃ x : (Nat × Nat), e = .returned (.func (.func 110) #[] #[.pointer (some ⟨x.1, 0, none⟩), .pointer (some ⟨x.2, 0, none⟩)]) ∧ Ext W W2 [cellsR x.1 24 [.int .i64 p0_f.fRise, .int .i64 p0_f.fFall, .int .i64 p0_f.fUp, .int .i64 p0_f.fDown, .slice A0_4 n0_4 c0_4], cellsR x.2 26 [.int .i64 p1_at.fFoot, .int .i64 p1_at.fHour]] := by
  subst hn0_4
  unfold fire_low at h
  refine calls_enter (m := 6) Try.func93 rfl rfl (Nat.le_of_ble_eq_true rfl) ?_
  refine cx_seq ?_
  refine cx_region ?_
  refine ox_box [.int .i64 p0_f.fRise, .int .i64 p0_f.fFall, .int .i64 p0_f.fUp, .int .i64 p0_f.fDown, .slice A0_4 p0_f.fLooks.length c0_4] rfl rfl rfl (fun b1 => ?_)
  refine ox_box [.int .i64 p1_at.fFoot, .int .i64 p1_at.fHour] rfl rfl rfl (fun b2 => ?_)
  refine ox_y rfl (y_assign_nilFunc rfl) ?_
  refine ox_nil ?_
  refine ex_then ?_
  refine cx_seq ?_
  refine cx_region ?_
  refine ox_y rfl (y_makeFunc [.pointer (some ⟨b1, 0, none⟩), .pointer (some ⟨b2, 0, none⟩)] rfl rfl) ?_
  refine ox_y rfl (y_assign_func rfl) ?_
  refine ox_nil ?_
  refine ex_then ?_
  refine cx_ret ?_
  obtain rfl := Option.some.inj h
  exact ex_res1 (.inl rfl) rfl (resV_tmp (v := .func (.func 110) #[] #[.pointer (some ⟨b1, 0, none⟩), .pointer (some ⟨b2, 0, none⟩)]) rfl) (fun W2 hW2 => ⟨(b1, b2), rfl, hW2⟩)

/-! calx/fire.high$1 -/
set_option maxRecDepth 100000 in
theorem fire_high_1_ok (p0_x : TLook) (cap0 : TFire) (cap1 : TSpot) (res : Int) (h : fire_high_1 p0_x cap0 cap1 = some res) (W : World) (bc0 : Nat) (A100_4 : Option Addr) (n100_4 c100_4 : Nat) (hn100_4 : n100_4 = cap0.fLooks.length) (hr100_4 : Rd W A100_4 n100_4 c100_4 (encL TLook_cells cap0.fLooks)) (hcap0 : Rd W (some ⟨bc0, 0, none⟩) 1 1 [.int .i64 cap0.fRise, .int .i64 cap0.fFall, .int .i64 cap0.fUp, .int .i64 cap0.fDown, .slice A100_4 n100_4 c100_4]) (bc1 : Nat) (hcap1 : Rd W (some ⟨bc1, 0, none⟩) 1 1 (TSpot_cells cap1)) :
    Calls Try.prog 111 [.agg #[.int .i64 p0_x.fID, .int .i64 p0_x.fAt.fFoot, .int .i64 p0_x.fAt.fHour, .int .i64 p0_x.fHeat.fLo, .int .i64 p0_x.fHeat.fHi], .pointer (some ⟨bc0, 0, none⟩), .pointer (some ⟨bc1, 0, none⟩)].toArray W fun e W2 => e = .returned (.int .i64 res) ∧ Ext W W2 [] := by
  subst hn100_4
  unfold fire_high_1 at h
  refine calls_enter (m := 14) Try.func111 rfl rfl (Nat.le_of_ble_eq_true rfl) ?_
  refine cx_seq ?_
  refine cx_region ?_
  refine ox_box [.int .i64 p0_x.fID, .int .i64 p0_x.fAt.fFoot, .int .i64 p0_x.fAt.fHour, .int .i64 p0_x.fHeat.fLo, .int .i64 p0_x.fHeat.fHi] rfl rfl rfl (fun b1 => ?_)
  refine ox_y rfl (y_assign_int rfl) ?_
  refine ox_nil ?_
  refine ex_then ?_
  refine cx_seq ?_
  refine cx_draws 10 mixed (by kernel_rfl) (by kernel_rfl) ?_
  refine qx_y rfl (y_fieldAddr fo_34_2 rfl) ?_
  refine qx_y rfl (y_fieldAddr fo_32_1 rfl) ?_
  refine qx_y rfl (y_load1 0 (v := .int .i64 p0_x.fHeat.fHi) sc_3 rfl rfl rfl) ?_
  refine qx_y rfl (y_loadRN (A := (some ⟨bc0, 0, none⟩)) (j := 0) [.int .i64 cap0.fRise, .int .i64 cap0.fFall, .int .i64 cap0.fUp, .int .i64 cap0.fDown, .slice A100_4 cap0.fLooks.length c100_4] ag_24 (Nat.succ_pos _) (RdL.arg hcap0) rfl (gets_all rfl)) ?_
  refine qx_y rfl (y_fieldAddr fo_34_1 rfl) ?_
  refine qx_y rfl (y_loadN 0 [.int .i64 p0_x.fAt.fFoot, .int .i64 p0_x.fAt.fHour] ag_26 rfl rfl rfl) ?_
  refine qx_y rfl (y_loadRN (A := (some ⟨bc1, 0, none⟩)) (j := 0) [.int .i64 cap1.fFoot, .int .i64 cap1.fHour] ag_26 (Nat.succ_pos _) (RdL.arg hcap1) rfl (gets_all rfl)) ?_
  obtain ⟨y2, hy3, h⟩ := bind_some h
  refine qx_y rfl (y_call [.agg #[.int .i64 cap0.fRise, .int .i64 cap0.fFall, .int .i64 cap0.fUp, .int .i64 cap0.fDown, .slice A100_4 cap0.fLooks.length c100_4], .agg #[.int .i64 p0_x.fAt.fFoot, .int .i64 p0_x.fAt.fHour], .agg #[.int .i64 cap1.fFoot, .int .i64 cap1.fHour]] go_73 rfl (fun W2 hW2 => fire_far_ok cap0 p0_x.fAt cap1 y2 hy3 W2 A100_4 cap0.fLooks.length c100_4 rfl ((RdL.arg hr100_4) W2 hW2)) rfl) ?_
  refine qx_y rfl (y_add rfl rfl) ?_
  refine qx_y rfl (y_assign_int rfl) ?_
  refine qx_nil ?_
  refine ox_nil ?_
  refine ex_then ?_
  refine cx_ret ?_
  obtain rfl := Option.some.inj h
  exact ex_res1 (.inl rfl) rfl (resV_tmp (v := .int .i64 (w64 (p0_x.fHeat.fHi + y2))) rfl) (fun W2 hW2 => ⟨rfl, hW2.none⟩)

/-! calx/fire.high -/
set_option maxRecDepth 100000 in
theorem fire_high_ok (p0_f : TFire) (p1_at : TSpot) (res : Unit) (h : fire_high p0_f p1_at = some res) (W : World) (A0_4 : Option Addr) (n0_4 c0_4 : Nat) (hn0_4 : n0_4 = p0_f.fLooks.length) (hr0_4 : Rd W A0_4 n0_4 c0_4 (encL TLook_cells p0_f.fLooks)) :
    Calls Try.prog 94 [.agg #[.int .i64 p0_f.fRise, .int .i64 p0_f.fFall, .int .i64 p0_f.fUp, .int .i64 p0_f.fDown, .slice A0_4 n0_4 c0_4], .agg #[.int .i64 p1_at.fFoot, .int .i64 p1_at.fHour]].toArray W fun e W2 => ∃ x : (Nat × Nat), e = .returned (.func (.func 111) #[] #[.pointer (some ⟨x.1, 0, none⟩), .pointer (some ⟨x.2, 0, none⟩)]) ∧ Ext W W2 [cellsR x.1 24 [.int .i64 p0_f.fRise, .int .i64 p0_f.fFall, .int .i64 p0_f.fUp, .int .i64 p0_f.fDown, .slice A0_4 n0_4 c0_4], cellsR x.2 26 [.int .i64 p1_at.fFoot, .int .i64 p1_at.fHour]] := by
  subst hn0_4
  unfold fire_high at h
  refine calls_enter (m := 6) Try.func94 rfl rfl (Nat.le_of_ble_eq_true rfl) ?_
  refine cx_seq ?_
  refine cx_region ?_
  refine ox_box [.int .i64 p0_f.fRise, .int .i64 p0_f.fFall, .int .i64 p0_f.fUp, .int .i64 p0_f.fDown, .slice A0_4 p0_f.fLooks.length c0_4] rfl rfl rfl (fun b1 => ?_)
  refine ox_box [.int .i64 p1_at.fFoot, .int .i64 p1_at.fHour] rfl rfl rfl (fun b2 => ?_)
  refine ox_y rfl (y_assign_nilFunc rfl) ?_
  refine ox_nil ?_
  refine ex_then ?_
  refine cx_seq ?_
  refine cx_region ?_
  refine ox_y rfl (y_makeFunc [.pointer (some ⟨b1, 0, none⟩), .pointer (some ⟨b2, 0, none⟩)] rfl rfl) ?_
  refine ox_y rfl (y_assign_func rfl) ?_
  refine ox_nil ?_
  refine ex_then ?_
  refine cx_ret ?_
  obtain rfl := Option.some.inj h
  exact ex_res1 (.inl rfl) rfl (resV_tmp (v := .func (.func 111) #[] #[.pointer (some ⟨b1, 0, none⟩), .pointer (some ⟨b2, 0, none⟩)]) rfl) (fun W2 hW2 => ⟨(b1, b2), rfl, hW2⟩)

/-! calx/fire.best[calx/api.Look] -/
set_option maxRecDepth 100000 in
theorem fire_best_calx_api_Look_ok (p0_l : (List TLook)) (p1_none : Int) (p2_tell : TLook → Option Int) (p3_better : Int → Int → Option Bool) (res : (Int × TLook × Bool)) (h : fire_best_calx_api_Look p0_l p1_none p2_tell p3_better = some res) (W : World) (bs0 : Nat) (A0_0 : Option Addr) (n0_0 c0_0 : Nat) (hn0_0 : n0_0 = p0_l.length) (hs0 : W.heap[bs0]? = some (.cells #[.slice A0_0 n0_0 c0_0] 22 (0, 0))) (hr0_0 : Rd W A0_0 n0_0 c0_0 (encL TLook_cells p0_l)) (fid2 : Nat) (caps2 : List Value) (hgo2 : goes Try.prog fid2 = true) (hof2 : ∀ W2, Below W.heap.size W W2 → ∀ x y, p2_tell x = some y → Calls Try.prog fid2 (([.agg #[.int .i64 x.fID, .int .i64 x.fAt.fFoot, .int .i64 x.fAt.fHour, .int .i64 x.fHeat.fLo, .int .i64 x.fHeat.fHi]] : List Value) ++ caps2).toArray W2 fun e W3 => e = .returned (.int .i64 y) ∧ Ext W2 W3 []) (fid3 : Nat) (caps3 : List Value) (hgo3 : goes Try.prog fid3 = true) (hof3 : ∀ W2, Below W.heap.size W W2 → ∀ x0 x1 y, p3_better x0 x1 = some y → Calls Try.prog fid3 (([.int .i64 x0, .int .i64 x1] : List Value) ++ caps3).toArray W2 fun e W3 => e = .returned (.bool y) ∧ Ext W2 W3 []) :
    Calls Try.prog 99 [.func (.func 116) #[] #[.pointer (some ⟨bs0, 0, none⟩)], .int .i64 p1_none, .func (.func fid2) #[] caps2.toArray, .func (.func fid3) #[] caps3.toArray].toArray W fun e W2 => e = .returned (.tuple #[.int .i64 res.1, .agg #[.int .i64 res.2.1.fID, .int .i64 res.2.1.fAt.fFoot, .int .i64 res.2.1.fAt.fHour, .int .i64 res.2.1.fHeat.fLo, .int .i64 res.2.1.fHeat.fHi], .bool res.2.2]) ∧ Ext W W2 [] := by
  subst hn0_0
  unfold fire_best_calx_api_Look at h
  refine calls_enterM (m := 38) Try.func99 rfl rfl (Nat.le_of_ble_eq_true rfl) ?_
  refine cx_seq ?_
  refine cx_region ?_
  refine ox_box [.func (.func fid2) #[] caps2.toArray] rfl rfl rfl (fun b1 => ?_)
  refine ox_box [.func (.func fid3) #[] caps3.toArray] rfl rfl rfl (fun b2 => ?_)
  refine ox_alloc ze_3 rfl (fun b3 => ?_)
  refine ox_alloc ze_34 rfl (fun b4 => ?_)
  refine ox_alloc ze_4 rfl (fun b5 => ?_)
  refine ox_nil ?_
  refine ex_then ?_
  refine cx_seq ?_
  refine cx_region ?_
  refine ox_y rfl (y_move_int rfl) ?_
  refine ox_alloc ze_3 rfl (fun b6 => ?_)
  try dsimp only [List.nil_append, List.cons_append, List.set_cons_zero, List.set_cons_succ]
  refine ox_n rfl (y_store1 5 (v := .int .i64 p1_none) sz_3 rfl (Nat.lt_of_lt_of_le (Nat.lt_succ_self _) (Nat.le_of_ble_eq_true rfl)) rfl rfl rfl) ?_
  refine ox_nil ?_
  refine ex_then ?_
  refine cx_seq ?_
  refine cx_seq ?_
  refine cx_region ?_
  refine ox_y rfl (y_move_func rfl) ?_
  refine ox_nil ?_
  refine ex_then ?_
  refine cx_block ?_
  obtain ⟨hok25, h⟩ := guardO_some h
  obtain ⟨u17, hl24, h⟩ := bind_some h
  refine cx_rangeH (enc := fun x : TLook => .agg #[.int .i64 x.fID, .int .i64 x.fAt.fFoot, .int .i64 x.fAt.fHour, .int .i64 x.fHeat.fLo, .int .i64 x.fHeat.fHi])  (caps := [.pointer (some ⟨bs0, 0, none⟩)]) (fun (s : Int) L => L = [cellsR b1 129 [.func (.func fid2) #[] caps2.toArray], cellsR b2 139 [.func (.func fid3) #[] caps3.toArray], cellsR b3 3 [.int .i64 0], cellsR b4 34 [.int .i64 0, .int .i64 0, .int .i64 0, .int .i64 0, .int .i64 0], cellsR b5 4 [.bool false], cellsR b6 3 [.int .i64 s]]) (fun (_ : Unit) _ _ => False) hl24 rfl go_116 (slices_Values_calx_api_Look_calx_api_Look_1_seq p0_l hok25 bs0 A0_0 p0_l.length c0_0 rfl) (fun W2 s L hI hW2 => by obtain rfl := hI; exact ⟨(hW2.below.block _ (lt_of_block hs0)).trans hs0, (RdL.arg hr0_0) W2 hW2⟩) rfl (fun W2 hW2 s L hI => by obtain rfl := hI; exact (.cons Cy.cells (.cons Cy.cells (.cons Cy.cells (.cons Cy.cells (.cons Cy.cells (.cons Cy.cells CyL.nil))))))) (fun _ _ _ _ _ h => h.elim) (fun _ _ _ h => h.elim) ?_ ?_ ?_
  · rintro D7 l8 rec9 s15 x16 L st hrec10 rfl h
    unfold fire_best_calx_api_Look_r1 at h
    refine cx_region ?_
    try dsimp only [List.nil_append, List.cons_append, List.set_cons_zero, List.set_cons_succ]
    refine ox_alloc ze_34 rfl (fun b18 => ?_)
    try dsimp only [List.nil_append, List.cons_append, List.set_cons_zero, List.set_cons_succ]
    refine ox_n rfl (y_storeN 8 [.int .i64 x16.fID, .int .i64 x16.fAt.fFoot, .int .i64 x16.fAt.fHour, .int .i64 x16.fHeat.fLo, .int .i64 x16.fHeat.fHi] sz_34 rfl (Nat.le_of_ble_eq_true rfl) rfl rfl rfl) ?_
    refine ox_nil ?_
    refine ex_begin 7 rfl hrec10 ?_
    refine cx_block ?_
    refine cx_seq ?_
    refine cx_region ?_
    refine ox_y rfl (y_load1 0 (v := .func (.func fid2) #[] caps2.toArray) sc_129 rfl rfl rfl) ?_
    refine ox_y rfl (y_loadN 8 [.int .i64 x16.fID, .int .i64 x16.fAt.fFoot, .int .i64 x16.fAt.fHour, .int .i64 x16.fHeat.fLo, .int .i64 x16.fHeat.fHi] ag_34 rfl rfl rfl) ?_
    obtain ⟨y19, hy20, h⟩ := bind_some h
    refine ox_y rfl (y_callv [.agg #[.int .i64 x16.fID, .int .i64 x16.fAt.fFoot, .int .i64 x16.fAt.fHour, .int .i64 x16.fHeat.fLo, .int .i64 x16.fHeat.fHi]] hgo2 rfl rfl (fun W2 hW2 => hof2 W2 hW2.below x16 y19 hy20)) ?_
    refine ox_y rfl (y_assign_int rfl) ?_
    refine ox_nil ?_
    refine ex_then ?_
    refine cx_seq ?_
    refine cx_region ?_
    refine ox_y rfl (y_load1 1 (v := .func (.func fid3) #[] caps3.toArray) sc_139 rfl rfl rfl) ?_
    refine ox_y rfl (y_move_int rfl) ?_
    refine ox_y rfl (y_load1 5 (v := .int .i64 s15) sc_3 rfl rfl rfl) ?_
    obtain ⟨y21, hy22, h⟩ := bind_some h
    refine ox_y rfl (y_callv [.int .i64 y19, .int .i64 s15] hgo3 rfl rfl (fun W2 hW2 => hof3 W2 hW2.below y19 s15 y21 hy22)) ?_
    refine ox_nil ?_
    refine ex_then ?_
    rcases ite_some h with ⟨hp23, h⟩ | ⟨hp23, h⟩
    · refine cx_true (congrArg Value.bool hp23) ?_
      refine cx_region ?_
      refine ox_y rfl (y_move_int rfl) ?_
      refine ox_n rfl (y_store1 5 (v := .int .i64 y19) sz_3 rfl (Nat.lt_of_lt_of_le (Nat.lt_succ_self _) (Nat.le_of_ble_eq_true rfl)) rfl rfl rfl) ?_
      refine ox_nil ?_
      refine ex_block ?_
      refine ex_take 8 ?_
      obtain rfl := Option.some.inj h
      exact ex_rnext [cellsR b1 129 [.func (.func fid2) #[] caps2.toArray], cellsR b2 139 [.func (.func fid3) #[] caps3.toArray], cellsR b3 3 [.int .i64 0], cellsR b4 34 [.int .i64 0, .int .i64 0, .int .i64 0, .int .i64 0, .int .i64 0], cellsR b5 4 [.bool false], cellsR b6 3 [.int .i64 y19]] rfl
    · refine cx_false (congrArg Value.bool hp23) ?_
      refine cx_skip ?_
      refine ex_block ?_
      refine ex_take 8 ?_
      obtain rfl := Option.some.inj h
      exact ex_rnext [cellsR b1 129 [.func (.func fid2) #[] caps2.toArray], cellsR b2 139 [.func (.func fid3) #[] caps3.toArray], cellsR b3 3 [.int .i64 0], cellsR b4 34 [.int .i64 0, .int .i64 0, .int .i64 0, .int .i64 0, .int .i64 0], cellsR b5 4 [.bool false], cellsR b6 3 [.int .i64 s15]] rfl
  · rintro D7 u26 L hst rfl
    subst hst
    dsimp only at h
    refine ex_block ?_
    refine ex_then ?_
    refine cx_seq ?_
    refine cx_seq ?_
    refine cx_region ?_
    try dsimp only [List.nil_append, List.cons_append, List.set_cons_zero, List.set_cons_succ]
    refine ox_y rfl (y_move_func rfl) ?_
    refine ox_nil ?_
    refine ex_then ?_
    refine cx_block ?_
    obtain ⟨hok44, h⟩ := guardO_some h
    obtain ⟨u37, hl43, h⟩ := bind_some h
    refine cx_rangeH (enc := fun x : TLook => .agg #[.int .i64 x.fID, .int .i64 x.fAt.fFoot, .int .i64 x.fAt.fHour, .int .i64 x.fHeat.fLo, .int .i64 x.fHeat.fHi])  (caps := [.pointer (some ⟨bs0, 0, none⟩)]) (fun (s : (Int × Int × Int × Int × Int × Int × Bool)) L => L = [cellsR b1 129 [.func (.func fid2) #[] caps2.toArray], cellsR b2 139 [.func (.func fid3) #[] caps3.toArray], cellsR b3 3 [.int .i64 s.1], cellsR b4 34 [.int .i64 s.2.1, .int .i64 s.2.2.1, .int .i64 s.2.2.2.1, .int .i64 s.2.2.2.2.1, .int .i64 s.2.2.2.2.2.1], cellsR b5 4 [.bool s.2.2.2.2.2.2], cellsR b6 3 [.int .i64 u26], dfR D7]) (fun (s : (Int × Int × Int × Int × Int × Int × Bool)) e L => e = .ret ∧ L = [cellsR b1 129 [.func (.func fid2) #[] caps2.toArray], cellsR b2 139 [.func (.func fid3) #[] caps3.toArray], cellsR b3 3 [.int .i64 s.1], cellsR b4 34 [.int .i64 s.2.1, .int .i64 s.2.2.1, .int .i64 s.2.2.2.1, .int .i64 s.2.2.2.2.1, .int .i64 s.2.2.2.2.2.1], cellsR b5 4 [.bool s.2.2.2.2.2.2], cellsR b6 3 [.int .i64 u26], dfR D7]) hl43 rfl go_116 (slices_Values_calx_api_Look_calx_api_Look_1_seq p0_l hok44 bs0 A0_0 p0_l.length c0_0 rfl) (fun W2 s L hI hW2 => by obtain rfl := hI; exact ⟨(hW2.below.block _ (lt_of_block hs0)).trans hs0, (RdL.arg hr0_0) W2 hW2⟩) rfl (fun W2 hW2 s L hI => by obtain rfl := hI; exact (.cons Cy.cells (.cons Cy.cells (.cons Cy.cells (.cons Cy.cells (.cons Cy.cells (.cons Cy.cells (.cons (Cy.blk rfl) CyL.nil)))))))) (fun W2 hW2 s e L hI => by obtain ⟨rfl, rfl⟩ := hI; exact (.cons Cy.cells (.cons Cy.cells (.cons Cy.cells (.cons Cy.cells (.cons Cy.cells (.cons Cy.cells (.cons (Cy.blk rfl) CyL.nil)))))))) (fun s e L hI => by obtain ⟨rfl, _⟩ := hI; exact .inl rfl) ?_ ?_ ?_
    · rintro D27 l28 rec29 s35 x36 L st hrec30 rfl h
      unfold fire_best_calx_api_Look_r2 at h
      refine cx_region ?_
      try dsimp only [List.nil_append, List.cons_append, List.set_cons_zero, List.set_cons_succ]
      refine ox_alloc ze_34 rfl (fun b38 => ?_)
      try dsimp only [List.nil_append, List.cons_append, List.set_cons_zero, List.set_cons_succ]
      refine ox_n rfl (y_storeN 9 [.int .i64 x36.fID, .int .i64 x36.fAt.fFoot, .int .i64 x36.fAt.fHour, .int .i64 x36.fHeat.fLo, .int .i64 x36.fHeat.fHi] sz_34 rfl (Nat.le_of_ble_eq_true rfl) rfl rfl rfl) ?_
      refine ox_nil ?_
      refine ex_begin 8 rfl hrec30 ?_
      refine cx_block ?_
      refine cx_seq ?_
      refine cx_draws 5 mixed (by kernel_rfl) (by kernel_rfl) ?_
      refine qx_y rfl (y_load1 0 (v := .func (.func fid2) #[] caps2.toArray) sc_129 rfl rfl rfl) ?_
      refine qx_y rfl (y_loadN 9 [.int .i64 x36.fID, .int .i64 x36.fAt.fFoot, .int .i64 x36.fAt.fHour, .int .i64 x36.fHeat.fLo, .int .i64 x36.fHeat.fHi] ag_34 rfl rfl rfl) ?_
      obtain ⟨y39, hy40, h⟩ := bind_some h
      refine qx_y rfl (y_callv [.agg #[.int .i64 x36.fID, .int .i64 x36.fAt.fFoot, .int .i64 x36.fAt.fHour, .int .i64 x36.fHeat.fLo, .int .i64 x36.fHeat.fHi]] hgo2 rfl rfl (fun W2 hW2 => hof2 W2 hW2.below x36 y39 hy40)) ?_
      refine qx_y rfl (y_load1 5 (v := .int .i64 u26) sc_3 rfl rfl rfl) ?_
      refine qx_y rfl (y_eql rfl rfl) ?_
      refine qx_nil ?_
      refine ox_nil ?_
      refine ex_then ?_
      rcases ite_some h with ⟨hp41, h⟩ | ⟨hp41, h⟩
      · refine cx_true (congrArg Value.bool hp41) ?_
        refine cx_seq ?_
        refine cx_drawsG [[], [], [0], [0, 1, 2], [0, 1, 2, 3]] [(none, 0, [true, true, true, true, true, true, true, true, true, true]), (none, 0, [true, true, false, true, true, true, true, true, true, true]), (some 2, 0, [true, true, true, true, true, true, true, true, true, true]), (some 3, 0, [true, true, true, true, true, true, true, true, true, true]), (some 4, 0, [true, true, true, true, true, true, true, true, true, true])] [⟨fun _ => .int .i64 u26, fun _ => noR, fun _ => []⟩, ⟨fun _ => .agg #[.int .i64 x36.fID, .int .i64 x36.fAt.fFoot, .int .i64 x36.fAt.fHour, .int .i64 x36.fHeat.fLo, .int .i64 x36.fHeat.fHi], fun _ => noR, fun _ => []⟩, ⟨fun _ => undef, fun _ => cellsR b3 3 [.int .i64 u26], fun _ => []⟩, ⟨fun _ => undef, fun _ => cellsR b4 34 [.int .i64 x36.fID, .int .i64 x36.fAt.fFoot, .int .i64 x36.fAt.fHour, .int .i64 x36.fHeat.fLo, .int .i64 x36.fHeat.fHi], fun _ => []⟩, ⟨fun _ => undef, fun _ => cellsR b5 4 [.bool true], fun _ => []⟩] 10 mixed (by kernel_rfl) (by kernel_rfl) ⟨⟨fun ξ42 ξ42' h => ⟨rfl, rfl, rfl⟩, fun _ => rfl⟩, ⟨fun ξ42 ξ42' h => ⟨rfl, rfl, rfl⟩, fun _ => rfl⟩, ⟨fun ξ42 ξ42' h => ⟨rfl, rfl, rfl⟩, fun _ => rfl⟩, ⟨fun ξ42 ξ42' h => ⟨rfl, rfl, rfl⟩, fun _ => rfl⟩, ⟨fun ξ42 ξ42' h => ⟨rfl, rfl, rfl⟩, fun _ => rfl⟩, trivial⟩ rfl (fun ξ42 => ?_)
        refine gx_o rfl (fun L2 => ?_) ?_
        · dsimp only [maskL, List.cons_append, List.nil_append]
          refine ox_y rfl (y_load1 5 (v := .int .i64 u26) sc_3 rfl rfl rfl) ?_
          refine ox_nil ?_
          exact ex_capG (fun _ => (none, 0, 0)) rfl (List.append_nil _)
        dsimp only [aftL, List.set_cons_zero, List.set_cons_succ, List.nil_append, List.cons_append, List.append_nil]
        refine gx_o rfl (fun L2 => ?_) ?_
        · dsimp only [maskL, List.cons_append, List.nil_append]
          refine ox_y rfl (y_loadN 9 [.int .i64 x36.fID, .int .i64 x36.fAt.fFoot, .int .i64 x36.fAt.fHour, .int .i64 x36.fHeat.fLo, .int .i64 x36.fHeat.fHi] ag_34 rfl rfl rfl) ?_
          refine ox_nil ?_
          exact ex_capG (fun _ => (none, 0, 0)) rfl (List.append_nil _)
        dsimp only [aftL, List.set_cons_zero, List.set_cons_succ, List.nil_append, List.cons_append, List.append_nil]
        refine gx_n rfl (fun L2 => ?_) ?_
        · dsimp only [maskL, List.cons_append, List.nil_append]
          refine ox_n rfl (y_store1 2 (v := .int .i64 u26) sz_3 rfl (Nat.lt_of_lt_of_le (Nat.lt_succ_self _) (Nat.le_of_ble_eq_true rfl)) rfl rfl rfl) ?_
          refine ox_nil ?_
          exact ex_capGn (fun _ => (none, 0, 0)) (List.append_nil _)
        dsimp only [aftL, List.set_cons_zero, List.set_cons_succ, List.nil_append, List.cons_append, List.append_nil]
        refine gx_n rfl (fun L2 => ?_) ?_
        · dsimp only [maskL, List.cons_append, List.nil_append]
          refine ox_n rfl (y_storeN 3 [.int .i64 x36.fID, .int .i64 x36.fAt.fFoot, .int .i64 x36.fAt.fHour, .int .i64 x36.fHeat.fLo, .int .i64 x36.fHeat.fHi] sz_34 rfl (Nat.le_of_ble_eq_true rfl) rfl rfl rfl) ?_
          refine ox_nil ?_
          exact ex_capGn (fun _ => (none, 0, 0)) (List.append_nil _)
        dsimp only [aftL, List.set_cons_zero, List.set_cons_succ, List.nil_append, List.cons_append, List.append_nil]
        refine gx_n rfl (fun L2 => ?_) ?_
        · dsimp only [maskL, List.cons_append, List.nil_append]
          refine ox_n rfl (y_store1 4 (v := .bool true) sz_4 rfl (Nat.lt_of_lt_of_le (Nat.lt_succ_self _) (Nat.le_of_ble_eq_true rfl)) rfl rfl rfl) ?_
          refine ox_nil ?_
          exact ex_capGn (fun _ => (none, 0, 0)) (List.append_nil _)
        dsimp only [aftL, List.set_cons_zero, List.set_cons_succ, List.nil_append, List.cons_append, List.append_nil]
        refine gx_nil ?_
        refine ex_then ?_
        refine cx_ret ?_
        refine ex_block_ret ?_
        refine ex_take 9 ?_
        obtain rfl := Option.some.inj h
        exact ex_rstop [cellsR b1 129 [.func (.func fid2) #[] caps2.toArray], cellsR b2 139 [.func (.func fid3) #[] caps3.toArray], cellsR b3 3 [.int .i64 u26], cellsR b4 34 [.int .i64 x36.fID, .int .i64 x36.fAt.fFoot, .int .i64 x36.fAt.fHour, .int .i64 x36.fHeat.fLo, .int .i64 x36.fHeat.fHi], cellsR b5 4 [.bool true], cellsR b6 3 [.int .i64 u26], dfR D7] ⟨rfl, rfl⟩
      · refine cx_false (congrArg Value.bool hp41) ?_
        refine cx_skip ?_
        refine ex_block ?_
        refine ex_take 9 ?_
        obtain rfl := Option.some.inj h
        exact ex_rnext [cellsR b1 129 [.func (.func fid2) #[] caps2.toArray], cellsR b2 139 [.func (.func fid3) #[] caps3.toArray], cellsR b3 3 [.int .i64 s35.1], cellsR b4 34 [.int .i64 s35.2.1, .int .i64 s35.2.2.1, .int .i64 s35.2.2.2.1, .int .i64 s35.2.2.2.2.1, .int .i64 s35.2.2.2.2.2.1], cellsR b5 4 [.bool s35.2.2.2.2.2.2], cellsR b6 3 [.int .i64 u26], dfR D7] rfl
    · rintro D27 u45 L hst rfl
      subst hst
      dsimp only at h
      refine ex_block ?_
      refine ex_then ?_
      refine cx_seq ?_
      refine cx_region ?_
      try dsimp only [List.nil_append, List.cons_append, List.set_cons_zero, List.set_cons_succ]
      refine ox_alloc ze_34 rfl (fun b46 => ?_)
      try dsimp only [List.nil_append, List.cons_append, List.set_cons_zero, List.set_cons_succ]
      refine ox_nil ?_
      refine ex_then ?_
      refine cx_seq ?_
      refine cx_drawsG [[], [], [0], [0, 1, 2], [0, 1, 2, 3]] [(none, 0, [true, true, true, true, true, true, true, true, true]), (none, 0, [true, true, false, true, true, true, true, true, true]), (some 2, 0, [true, true, true, true, true, true, true, true, true]), (some 3, 0, [true, true, true, true, true, true, true, true, true]), (some 4, 0, [true, true, true, true, true, true, true, true, true])] [⟨fun _ => .int .i64 u26, fun _ => noR, fun _ => []⟩, ⟨fun _ => .agg #[.int .i64 0, .int .i64 0, .int .i64 0, .int .i64 0, .int .i64 0], fun _ => noR, fun _ => []⟩, ⟨fun _ => undef, fun _ => cellsR b3 3 [.int .i64 u26], fun _ => []⟩, ⟨fun _ => undef, fun _ => cellsR b4 34 [.int .i64 0, .int .i64 0, .int .i64 0, .int .i64 0, .int .i64 0], fun _ => []⟩, ⟨fun _ => undef, fun _ => cellsR b5 4 [.bool false], fun _ => []⟩] 9 mixed (by kernel_rfl) (by kernel_rfl) ⟨⟨fun ξ47 ξ47' h => ⟨rfl, rfl, rfl⟩, fun _ => rfl⟩, ⟨fun ξ47 ξ47' h => ⟨rfl, rfl, rfl⟩, fun _ => rfl⟩, ⟨fun ξ47 ξ47' h => ⟨rfl, rfl, rfl⟩, fun _ => rfl⟩, ⟨fun ξ47 ξ47' h => ⟨rfl, rfl, rfl⟩, fun _ => rfl⟩, ⟨fun ξ47 ξ47' h => ⟨rfl, rfl, rfl⟩, fun _ => rfl⟩, trivial⟩ rfl (fun ξ47 => ?_)
      refine gx_o rfl (fun L2 => ?_) ?_
      · dsimp only [maskL, List.cons_append, List.nil_append]
        refine ox_y rfl (y_load1 5 (v := .int .i64 u26) sc_3 rfl rfl rfl) ?_
        refine ox_nil ?_
        exact ex_capG (fun _ => (none, 0, 0)) rfl (List.append_nil _)
      dsimp only [aftL, List.set_cons_zero, List.set_cons_succ, List.nil_append, List.cons_append, List.append_nil]
      refine gx_o rfl (fun L2 => ?_) ?_
      · dsimp only [maskL, List.cons_append, List.nil_append]
        refine ox_y rfl (y_loadN 8 [.int .i64 0, .int .i64 0, .int .i64 0, .int .i64 0, .int .i64 0] ag_34 rfl rfl rfl) ?_
        refine ox_nil ?_
        exact ex_capG (fun _ => (none, 0, 0)) rfl (List.append_nil _)
      dsimp only [aftL, List.set_cons_zero, List.set_cons_succ, List.nil_append, List.cons_append, List.append_nil]
      refine gx_n rfl (fun L2 => ?_) ?_
      · dsimp only [maskL, List.cons_append, List.nil_append]
        refine ox_n rfl (y_store1 2 (v := .int .i64 u26) sz_3 rfl (Nat.lt_of_lt_of_le (Nat.lt_succ_self _) (Nat.le_of_ble_eq_true rfl)) rfl rfl rfl) ?_
        refine ox_nil ?_
        exact ex_capGn (fun _ => (none, 0, 0)) (List.append_nil _)
      dsimp only [aftL, List.set_cons_zero, List.set_cons_succ, List.nil_append, List.cons_append, List.append_nil]
      refine gx_n rfl (fun L2 => ?_) ?_
      · dsimp only [maskL, List.cons_append, List.nil_append]
        refine ox_n rfl (y_storeN 3 [.int .i64 0, .int .i64 0, .int .i64 0, .int .i64 0, .int .i64 0] sz_34 rfl (Nat.le_of_ble_eq_true rfl) rfl rfl rfl) ?_
        refine ox_nil ?_
        exact ex_capGn (fun _ => (none, 0, 0)) (List.append_nil _)
      dsimp only [aftL, List.set_cons_zero, List.set_cons_succ, List.nil_append, List.cons_append, List.append_nil]
      refine gx_n rfl (fun L2 => ?_) ?_
      · dsimp only [maskL, List.cons_append, List.nil_append]
        refine ox_n rfl (y_store1 4 (v := .bool false) sz_4 rfl (Nat.lt_of_lt_of_le (Nat.lt_succ_self _) (Nat.le_of_ble_eq_true rfl)) rfl rfl rfl) ?_
        refine ox_nil ?_
        exact ex_capGn (fun _ => (none, 0, 0)) (List.append_nil _)
      dsimp only [aftL, List.set_cons_zero, List.set_cons_succ, List.nil_append, List.cons_append, List.append_nil]
      refine gx_nil ?_
      refine ex_then ?_
      refine cx_ret ?_
      refine ex_M2 7 6 (by decide) rfl rfl (.inl rfl) ?_
      obtain rfl := Option.some.inj h
      exact ex_res3 (.inl rfl) rfl (resV_cell1 2 (v := .int .i64 u26) sc_3 rfl rfl rfl) (resV_cellN 3 [.int .i64 0, .int .i64 0, .int .i64 0, .int .i64 0, .int .i64 0] ag_34 rfl rfl rfl) (resV_cell1 4 (v := .bool false) sc_4 rfl rfl rfl) (fun W2 hW2 => ⟨rfl, hW2.none⟩)
    · rintro D27 u48 e L hst ⟨rfl, rfl⟩
      subst hst
      dsimp only at h
      refine ex_block_ret ?_
      refine ex_then_ret ?_
      refine ex_M2 7 6 (by decide) rfl rfl (.inl rfl) ?_
      obtain rfl := Option.some.inj h
      exact ex_res3 (.inl rfl) rfl (resV_cell1 2 (v := .int .i64 u48.1) sc_3 rfl rfl rfl) (resV_cellN 3 [.int .i64 u48.2.1, .int .i64 u48.2.2.1, .int .i64 u48.2.2.2.1, .int .i64 u48.2.2.2.2.1, .int .i64 u48.2.2.2.2.2.1] ag_34 rfl rfl rfl) (resV_cell1 4 (v := .bool u48.2.2.2.2.2.2) sc_4 rfl rfl rfl) (fun W2 hW2 => ⟨rfl, hW2.none⟩)
  · intro D7 t e L _ hh
    exact hh.elim

/-! calx/fire.more -/
set_option maxRecDepth 100000 in
theorem fire_more_ok (p0_a : Int) (p1_b : Int) (res : Bool) (h : fire_more p0_a p1_b = some res) (W : World)  :
    Calls Try.prog 101 [.int .i64 p0_a, .int .i64 p1_b].toArray W fun e W2 => e = .returned (.bool res) ∧ Ext W W2 [] := by
  unfold fire_more at h
  refine calls_enter (m := 8) Try.func101 rfl rfl (Nat.le_of_ble_eq_true rfl) ?_
  refine cx_seq ?_
  refine cx_region ?_
  refine ox_y rfl (y_assign_bool rfl) ?_
  refine ox_nil ?_
  refine ex_then ?_
  refine cx_seq ?_
  refine cx_region ?_
  refine ox_y rfl (y_move_int rfl) ?_
  refine ox_y rfl (y_move_int rfl) ?_
  refine ox_y rfl (y_gtr rfl rfl) ?_
  refine ox_y rfl (y_assign_bool rfl) ?_
  refine ox_nil ?_
  refine ex_then ?_
  refine cx_ret ?_
  obtain rfl := Option.some.inj h
  exact ex_res1 (.inl rfl) rfl (resV_tmp (v := .bool (decide (p1_b < p0_a))) rfl) (fun W2 hW2 => ⟨rfl, hW2.none⟩)

/-! calx/fire.less -/
set_option maxRecDepth 100000 in
theorem fire_less_ok (p0_a : Int) (p1_b : Int) (res : Bool) (h : fire_less p0_a p1_b = some res) (W : World)  :
    Calls Try.prog 102 [.int .i64 p0_a, .int .i64 p1_b].toArray W fun e W2 => e = .returned (.bool res) ∧ Ext W W2 [] := by
  unfold fire_less at h
  refine calls_enter (m := 8) Try.func102 rfl rfl (Nat.le_of_ble_eq_true rfl) ?_
  refine cx_seq ?_
  refine cx_region ?_
  refine ox_y rfl (y_assign_bool rfl) ?_
  refine ox_nil ?_
  refine ex_then ?_
  refine cx_seq ?_
  refine cx_region ?_
  refine ox_y rfl (y_move_int rfl) ?_
  refine ox_y rfl (y_move_int rfl) ?_
  refine ox_y rfl (y_lss rfl rfl) ?_
  refine ox_y rfl (y_assign_bool rfl) ?_
  refine ox_nil ?_
  refine ex_then ?_
  refine cx_ret ?_
  obtain rfl := Option.some.inj h
  exact ex_res1 (.inl rfl) rfl (resV_tmp (v := .bool (decide (p0_a < p1_b))) rfl) (fun W2 hW2 => ⟨rfl, hW2.none⟩)

/-! calx/fire.ends -/
set_option maxRecDepth 100000 in
theorem fire_ends_ok (p0_f : TFire) (p1_at : TSpot) (res : TBounds) (h : fire_ends p0_f p1_at = some res) (W : World) (A0_4 : Option Addr) (n0_4 c0_4 : Nat) (hn0_4 : n0_4 = p0_f.fLooks.length) (hr0_4 : Rd W A0_4 n0_4 c0_4 (encL TLook_cells p0_f.fLooks)) :
    Calls Try.prog 57 [.agg #[.int .i64 p0_f.fRise, .int .i64 p0_f.fFall, .int .i64 p0_f.fUp, .int .i64 p0_f.fDown, .slice A0_4 n0_4 c0_4], .agg #[.int .i64 p1_at.fFoot, .int .i64 p1_at.fHour]].toArray W fun e W2 => e = .returned (.agg #[.int .i64 res.fSpan.fLo, .int .i64 res.fSpan.fHi, .int .i64 res.fLow, .int .i64 res.fHigh]) ∧ Ext W W2 [] := by
  subst hn0_4
  unfold fire_ends at h
  refine calls_enter (m := 43) Try.func57 rfl rfl (Nat.le_of_ble_eq_true rfl) ?_
  refine cx_seq ?_
  refine cx_region ?_
  refine ox_box [.int .i64 p0_f.fRise, .int .i64 p0_f.fFall, .int .i64 p0_f.fUp, .int .i64 p0_f.fDown, .slice A0_4 p0_f.fLooks.length c0_4] rfl rfl rfl (fun b1 => ?_)
  refine ox_box [.int .i64 p1_at.fFoot, .int .i64 p1_at.fHour] rfl rfl rfl (fun b2 => ?_)
  refine ox_alloc ze_36 rfl (fun b3 => ?_)
  refine ox_nil ?_
  refine ex_then ?_
  refine cx_seq ?_
  refine cx_region ?_
  refine ox_alloc ze_36 rfl (fun b4 => ?_)
  refine ox_nil ?_
  refine ex_then ?_
  refine cx_seq ?_
  obtain ⟨y6, hy7, h⟩ := bind_some h
  obtain ⟨y13, hy14, h⟩ := bind_some h
  obtain ⟨y20, hy21, h⟩ := bind_some h
  refine cx_drawsG [[], [0], [], [], [0, 1, 2, 3], [0, 1, 2, 3, 4], [0, 1, 2, 3, 4, 5], [0, 1, 2, 3, 4, 5, 6], [0, 1, 2, 3, 4, 5, 6], [0, 1, 2, 3, 4, 5, 6], [], [0, 1, 2, 3, 4, 5, 6, 7, 10], [0, 1, 2, 3, 4, 5, 6, 7, 8, 10, 11], [0, 1, 2, 3, 4, 5, 6, 7, 8, 9, 10, 11, 12]] [(none, 0, [true, true, true, true]), (none, 2, [true, true, true, true]), (none, 0, [true, true, true, true, false, false]), (none, 0, [true, true, true, true, false, false]), (none, 2, [true, true, true, true, true, true]), (none, 0, [true, true, true, true, true, true, true, true]), (none, 0, [true, true, true, true, true, true, true, true]), (none, 0, [true, true, true, true, true, true, true, true]), (none, 0, [true, true, true, true, true, true, true, true]), (none, 0, [true, true, true, true, true, true, true, true]), (none, 1, [true, true, true, true, false, false, false, false]), (none, 0, [true, true, true, true, true, true, true, true, true]), (some 8, 0, [true, true, true, true, true, true, true, true, true]), (none, 0, [true, true, true, true, true, true, true, true, true])] [⟨fun _ => .agg #[.int .i64 p0_f.fRise, .int .i64 p0_f.fFall, .int .i64 p0_f.fUp, .int .i64 p0_f.fDown, .slice A0_4 p0_f.fLooks.length c0_4], fun _ => noR, fun _ => []⟩, ⟨fun ξ5 => .func (.func 116) #[] #[.pointer (some ⟨(ξ5 1 0).2.1, 0, none⟩)], fun _ => noR, fun ξ5 => [cellsR (ξ5 1 0).2.1 22 [.slice (ξ5 1 1).1 y6.length (ξ5 1 1).2.2], rowR (ξ5 1 1).1 (ξ5 1 1).2.2 34 5 y6.length (encL TLook_cells y6)]⟩, ⟨fun _ => .agg #[.int .i64 p0_f.fRise, .int .i64 p0_f.fFall, .int .i64 p0_f.fUp, .int .i64 p0_f.fDown, .slice A0_4 p0_f.fLooks.length c0_4], fun _ => noR, fun _ => []⟩, ⟨fun _ => .agg #[.int .i64 p1_at.fFoot, .int .i64 p1_at.fHour], fun _ => noR, fun _ => []⟩, ⟨fun ξ5 => .func (.func 110) #[] #[.pointer (some ⟨(ξ5 4 0).2.1, 0, none⟩), .pointer (some ⟨(ξ5 4 1).2.1, 0, none⟩)], fun _ => noR, fun ξ5 => [cellsR (ξ5 4 0).2.1 24 [.int .i64 p0_f.fRise, .int .i64 p0_f.fFall, .int .i64 p0_f.fUp, .int .i64 p0_f.fDown, .slice A0_4 p0_f.fLooks.length c0_4], cellsR (ξ5 4 1).2.1 26 [.int .i64 p1_at.fFoot, .int .i64 p1_at.fHour]]⟩, ⟨fun _ => .tuple #[.int .i64 y20.1, .agg #[.int .i64 y20.2.1.fID, .int .i64 y20.2.1.fAt.fFoot, .int .i64 y20.2.1.fAt.fHour, .int .i64 y20.2.1.fHeat.fLo, .int .i64 y20.2.1.fHeat.fHi], .bool y20.2.2], fun _ => noR, fun _ => []⟩, ⟨fun _ => .tuple #[.int .i64 y20.1, .agg #[.int .i64 y20.2.1.fID, .int .i64 y20.2.1.fAt.fFoot, .int .i64 y20.2.1.fAt.fHour, .int .i64 y20.2.1.fHeat.fLo, .int .i64 y20.2.1.fHeat.fHi], .bool y20.2.2], fun _ => noR, fun _ => []⟩, ⟨fun _ => .int .i64 y20.1, fun _ => noR, fun _ => []⟩, ⟨fun _ => .agg #[.int .i64 y20.2.1.fID, .int .i64 y20.2.1.fAt.fFoot, .int .i64 y20.2.1.fAt.fHour, .int .i64 y20.2.1.fHeat.fLo, .int .i64 y20.2.1.fHeat.fHi], fun _ => noR, fun _ => []⟩, ⟨fun _ => .bool y20.2.2, fun _ => noR, fun _ => []⟩, ⟨fun ξ5 => .pointer (some ⟨(ξ5 10 0).2.1, 0, none⟩), fun _ => noR, fun ξ5 => [cellsR (ξ5 10 0).2.1 34 [.int .i64 0, .int .i64 0, .int .i64 0, .int .i64 0, .int .i64 0]]⟩, ⟨fun _ => .int .i64 y20.1, fun _ => noR, fun _ => []⟩, ⟨fun _ => undef, fun ξ5 => cellsR (ξ5 10 0).2.1 34 [.int .i64 y20.2.1.fID, .int .i64 y20.2.1.fAt.fFoot, .int .i64 y20.2.1.fAt.fHour, .int .i64 y20.2.1.fHeat.fLo, .int .i64 y20.2.1.fHeat.fHi], fun _ => []⟩, ⟨fun _ => .bool y20.2.2, fun _ => noR, fun _ => []⟩] 4 mixed (by kernel_rfl) (by kernel_rfl) ⟨⟨fun ξ5 ξ5' h => ⟨rfl, rfl, rfl⟩, fun _ => rfl⟩, ⟨fun ξ5 ξ5' h => ⟨by simp only [h 1 (.inl rfl)], rfl, by simp only [h 1 (.inl rfl)]⟩, fun _ => rfl⟩, ⟨fun ξ5 ξ5' h => ⟨rfl, rfl, rfl⟩, fun _ => rfl⟩, ⟨fun ξ5 ξ5' h => ⟨rfl, rfl, rfl⟩, fun _ => rfl⟩, ⟨fun ξ5 ξ5' h => ⟨by simp only [h 4 (.inl rfl)], rfl, by simp only [h 4 (.inl rfl)]⟩, fun _ => rfl⟩, ⟨fun ξ5 ξ5' h => ⟨rfl, rfl, rfl⟩, fun _ => rfl⟩, ⟨fun ξ5 ξ5' h => ⟨rfl, rfl, rfl⟩, fun _ => rfl⟩, ⟨fun ξ5 ξ5' h => ⟨rfl, rfl, rfl⟩, fun _ => rfl⟩, ⟨fun ξ5 ξ5' h => ⟨rfl, rfl, rfl⟩, fun _ => rfl⟩, ⟨fun ξ5 ξ5' h => ⟨rfl, rfl, rfl⟩, fun _ => rfl⟩, ⟨fun ξ5 ξ5' h => ⟨by simp only [h 10 (.inl rfl)], rfl, by simp only [h 10 (.inl rfl)]⟩, fun _ => rfl⟩, ⟨fun ξ5 ξ5' h => ⟨rfl, rfl, rfl⟩, fun _ => rfl⟩, ⟨fun ξ5 ξ5' h => ⟨rfl, by simp only [h 10 (.inr rfl)], rfl⟩, fun _ => rfl⟩, ⟨fun ξ5 ξ5' h => ⟨rfl, rfl, rfl⟩, fun _ => rfl⟩, trivial⟩ rfl (fun ξ5 => ?_)
  refine gx_o rfl (fun L2 => ?_) ?_
  · dsimp only [maskL, List.cons_append, List.nil_append]
    refine ox_y rfl (y_loadN 0 [.int .i64 p0_f.fRise, .int .i64 p0_f.fFall, .int .i64 p0_f.fUp, .int .i64 p0_f.fDown, .slice A0_4 p0_f.fLooks.length c0_4] ag_24 rfl rfl rfl) ?_
    refine ox_nil ?_
    exact ex_capG (fun _ => (none, 0, 0)) rfl (List.append_nil _)
  dsimp only [aftL, List.set_cons_zero, List.set_cons_succ, List.nil_append, List.cons_append, List.append_nil]
  refine gx_o rfl (fun L2 => ?_) ?_
  · dsimp only [maskL, List.cons_append, List.nil_append]
    refine ox_call [.agg #[.int .i64 p0_f.fRise, .int .i64 p0_f.fFall, .int .i64 p0_f.fUp, .int .i64 p0_f.fDown, .slice A0_4 p0_f.fLooks.length c0_4]] _ _ _ rfl go_100 rfl (fun W2 hW2 => fire_sorted_ok p0_f y6 hy7 W2 A0_4 p0_f.fLooks.length c0_4 rfl ((RdL.arg hr0_4) W2 hW2)) ?_
    rintro ⟨b8, A9, n11, c10⟩ hn12
    replace hn12 : n11 = y6.length := hn12; subst hn12
    refine ox_nil ?_
    exact ex_capG (fun q => if q = 0 then (none, b8, 0) else (A9, 0, c10)) rfl rfl
  dsimp only [aftL, List.set_cons_zero, List.set_cons_succ, List.nil_append, List.cons_append, List.append_nil]
  refine gx_o rfl (fun L2 => ?_) ?_
  · dsimp only [maskL, List.cons_append, List.nil_append]
    refine ox_y rfl (y_loadN 0 [.int .i64 p0_f.fRise, .int .i64 p0_f.fFall, .int .i64 p0_f.fUp, .int .i64 p0_f.fDown, .slice A0_4 p0_f.fLooks.length c0_4] ag_24 rfl rfl rfl) ?_
    refine ox_nil ?_
    exact ex_capG (fun _ => (none, 0, 0)) rfl (List.append_nil _)
  dsimp only [aftL, List.set_cons_zero, List.set_cons_succ, List.nil_append, List.cons_append, List.append_nil]
  refine gx_o rfl (fun L2 => ?_) ?_
  · dsimp only [maskL, List.cons_append, List.nil_append]
    refine ox_y rfl (y_loadN 1 [.int .i64 p1_at.fFoot, .int .i64 p1_at.fHour] ag_26 rfl rfl rfl) ?_
    refine ox_nil ?_
    exact ex_capG (fun _ => (none, 0, 0)) rfl (List.append_nil _)
  dsimp only [aftL, List.set_cons_zero, List.set_cons_succ, List.nil_append, List.cons_append, List.append_nil]
  refine gx_o rfl (fun L2 => ?_) ?_
  · dsimp only [maskL, List.cons_append, List.nil_append]
    refine ox_call1 [.agg #[.int .i64 p0_f.fRise, .int .i64 p0_f.fFall, .int .i64 p0_f.fUp, .int .i64 p0_f.fDown, .slice A0_4 p0_f.fLooks.length c0_4], .agg #[.int .i64 p1_at.fFoot, .int .i64 p1_at.fHour]] _ _ rfl go_93 rfl (fun W2 hW2 => fire_low_ok p0_f p1_at y13 hy14 W2 A0_4 p0_f.fLooks.length c0_4 rfl ((RdL.arg hr0_4) W2 hW2)) ?_
    rintro ⟨b15, b16⟩
    refine ox_nil ?_
    exact ex_capG (fun q => if q = 0 then (none, b15, 0) else (none, b16, 0)) rfl rfl
  dsimp only [aftL, List.set_cons_zero, List.set_cons_succ, List.nil_append, List.cons_append, List.append_nil]
  refine gx_o rfl (fun L2 => ?_) ?_
  · dsimp only [maskL, List.cons_append, List.nil_append]
    refine ox_y rfl (y_call [.func (.func 116) #[] #[.pointer (some ⟨(ξ5 1 0).2.1, 0, none⟩)], .int .i64 0, .func (.func 110) #[] #[.pointer (some ⟨(ξ5 4 0).2.1, 0, none⟩), .pointer (some ⟨(ξ5 4 1).2.1, 0, none⟩)], .func (.func 101) #[] #[]] go_99 rfl (fun W2 hW2 => fire_best_calx_api_Look_ok y6 0 (fun x17 => fire_low_1 x17 p0_f p1_at) (fun x18 x19 => fire_more x18 x19) y20 hy21 W2 (ξ5 1 0).2.1 (ξ5 1 1).1 y6.length (ξ5 1 1).2.2 rfl (hW2.mem (i := 4) rfl) ((RdL.row 5 rfl) W2 hW2) 110 [.pointer (some ⟨(ξ5 4 0).2.1, 0, none⟩), .pointer (some ⟨(ξ5 4 1).2.1, 0, none⟩)] go_110 (fun W3 hb x y hxy => fire_low_1_ok x p0_f p1_at y hxy W3 (ξ5 4 0).2.1 A0_4 p0_f.fLooks.length c0_4 rfl (((RdL.arg hr0_4) W2 hW2).later hb) (((RdL.cells 6 rfl) W2 hW2).later hb) (ξ5 4 1).2.1 (((RdL.cells 7 rfl) W2 hW2).later hb)) 101 [] go_101 (fun W3 hb x0 x1 y hxy => fire_more_ok x0 x1  y hxy W3 )) rfl) ?_
    refine ox_nil ?_
    exact ex_capG (fun _ => (none, 0, 0)) rfl (List.append_nil _)
  dsimp only [aftL, List.set_cons_zero, List.set_cons_succ, List.nil_append, List.cons_append, List.append_nil]
  refine gx_o rfl (fun L2 => ?_) ?_
  · dsimp only [maskL, List.cons_append, List.nil_append]
    refine ox_y rfl (y_move_tuple rfl) ?_
    refine ox_nil ?_
    exact ex_capG (fun _ => (none, 0, 0)) rfl (List.append_nil _)
  dsimp only [aftL, List.set_cons_zero, List.set_cons_succ, List.nil_append, List.cons_append, List.append_nil]
  refine gx_o rfl (fun L2 => ?_) ?_
  · dsimp only [maskL, List.cons_append, List.nil_append]
    refine ox_y rfl (y_extract (vs := [.int .i64 y20.1, .agg #[.int .i64 y20.2.1.fID, .int .i64 y20.2.1.fAt.fFoot, .int .i64 y20.2.1.fAt.fHour, .int .i64 y20.2.1.fHeat.fLo, .int .i64 y20.2.1.fHeat.fHi], .bool y20.2.2]) (v := .int .i64 y20.1) rfl rfl) ?_
    refine ox_nil ?_
    exact ex_capG (fun _ => (none, 0, 0)) rfl (List.append_nil _)
  dsimp only [aftL, List.set_cons_zero, List.set_cons_succ, List.nil_append, List.cons_append, List.append_nil]
  refine gx_o rfl (fun L2 => ?_) ?_
  · dsimp only [maskL, List.cons_append, List.nil_append]
    refine ox_y rfl (y_extract (vs := [.int .i64 y20.1, .agg #[.int .i64 y20.2.1.fID, .int .i64 y20.2.1.fAt.fFoot, .int .i64 y20.2.1.fAt.fHour, .int .i64 y20.2.1.fHeat.fLo, .int .i64 y20.2.1.fHeat.fHi], .bool y20.2.2]) (v := .agg #[.int .i64 y20.2.1.fID, .int .i64 y20.2.1.fAt.fFoot, .int .i64 y20.2.1.fAt.fHour, .int .i64 y20.2.1.fHeat.fLo, .int .i64 y20.2.1.fHeat.fHi]) rfl rfl) ?_
    refine ox_nil ?_
    exact ex_capG (fun _ => (none, 0, 0)) rfl (List.append_nil _)
  dsimp only [aftL, List.set_cons_zero, List.set_cons_succ, List.nil_append, List.cons_append, List.append_nil]
  refine gx_o rfl (fun L2 => ?_) ?_
  · dsimp only [maskL, List.cons_append, List.nil_append]
    refine ox_y rfl (y_extract (vs := [.int .i64 y20.1, .agg #[.int .i64 y20.2.1.fID, .int .i64 y20.2.1.fAt.fFoot, .int .i64 y20.2.1.fAt.fHour, .int .i64 y20.2.1.fHeat.fLo, .int .i64 y20.2.1.fHeat.fHi], .bool y20.2.2]) (v := .bool y20.2.2) rfl rfl) ?_
    refine ox_nil ?_
    exact ex_capG (fun _ => (none, 0, 0)) rfl (List.append_nil _)
  dsimp only [aftL, List.set_cons_zero, List.set_cons_succ, List.nil_append, List.cons_append, List.append_nil]
  refine gx_o rfl (fun L2 => ?_) ?_
  · dsimp only [maskL, List.cons_append, List.nil_append]
    refine ox_alloc ze_34 rfl (fun b22 => ?_)
    refine ox_nil ?_
    exact ex_capG (fun _ => (none, b22, 0)) rfl rfl
  dsimp only [aftL, List.set_cons_zero, List.set_cons_succ, List.nil_append, List.cons_append, List.append_nil]
  refine gx_o rfl (fun L2 => ?_) ?_
  · dsimp only [maskL, List.cons_append, List.nil_append]
    refine ox_y rfl (y_assign_int rfl) ?_
    refine ox_nil ?_
    exact ex_capG (fun _ => (none, 0, 0)) rfl (List.append_nil _)
  dsimp only [aftL, List.set_cons_zero, List.set_cons_succ, List.nil_append, List.cons_append, List.append_nil]
  refine gx_n rfl (fun L2 => ?_) ?_
  · dsimp only [maskL, List.cons_append, List.nil_append]
    refine ox_n rfl (y_storeN 8 [.int .i64 y20.2.1.fID, .int .i64 y20.2.1.fAt.fFoot, .int .i64 y20.2.1.fAt.fHour, .int .i64 y20.2.1.fHeat.fLo, .int .i64 y20.2.1.fHeat.fHi] sz_34 rfl (Nat.le_of_ble_eq_true rfl) rfl rfl rfl) ?_
    refine ox_nil ?_
    exact ex_capGn (fun _ => (none, 0, 0)) (List.append_nil _)
  dsimp only [aftL, List.set_cons_zero, List.set_cons_succ, List.nil_append, List.cons_append, List.append_nil]
  refine gx_o rfl (fun L2 => ?_) ?_
  · dsimp only [maskL, List.cons_append, List.nil_append]
    refine ox_y rfl (y_assign_bool rfl) ?_
    refine ox_nil ?_
    exact ex_capG (fun _ => (none, 0, 0)) rfl (List.append_nil _)
  dsimp only [aftL, List.set_cons_zero, List.set_cons_succ, List.nil_append, List.cons_append, List.append_nil]
  refine gx_nil ?_
  refine ex_then ?_
  refine cx_seq ?_
  obtain ⟨y24, hy25, h⟩ := bind_some h
  obtain ⟨y31, hy32, h⟩ := bind_some h
  obtain ⟨y38, hy39, h⟩ := bind_some h
  refine cx_drawsG [[], [0], [], [], [0, 1, 2, 3], [0, 1, 2, 3, 4], [0, 1, 2, 3, 4, 5], [0, 1, 2, 3, 4, 5, 6], [0, 1, 2, 3, 4, 5, 6], [0, 1, 2, 3, 4, 5, 6], [], [0, 1, 2, 3, 4, 5, 6, 7, 10], [0, 1, 2, 3, 4, 5, 6, 7, 8, 10, 11], [0, 1, 2, 3, 4, 5, 6, 7, 8, 9, 10, 11, 12]] [(none, 0, [true, true, true, true, true, true, true, true, true]), (none, 2, [true, true, true, true, true, true, true, true, true]), (none, 0, [true, true, true, true, true, true, true, true, true, false, false]), (none, 0, [true, true, true, true, true, true, true, true, true, false, false]), (none, 2, [true, true, true, true, true, true, true, true, true, true, true]), (none, 0, [true, true, true, true, true, true, true, true, true, true, true, true, true]), (none, 0, [true, true, true, true, true, true, true, true, true, true, true, true, true]), (none, 0, [true, true, true, true, true, true, true, true, true, true, true, true, true]), (none, 0, [true, true, true, true, true, true, true, true, true, true, true, true, true]), (none, 0, [true, true, true, true, true, true, true, true, true, true, true, true, true]), (none, 1, [true, true, true, true, true, true, true, true, true, false, false, false, false]), (none, 0, [true, true, true, true, true, true, true, true, true, true, true, true, true, true]), (some 13, 0, [true, true, true, true, true, true, true, true, true, true, true, true, true, true]), (none, 0, [true, true, true, true, true, true, true, true, true, true, true, true, true, true])] [⟨fun _ => .agg #[.int .i64 p0_f.fRise, .int .i64 p0_f.fFall, .int .i64 p0_f.fUp, .int .i64 p0_f.fDown, .slice A0_4 p0_f.fLooks.length c0_4], fun _ => noR, fun _ => []⟩, ⟨fun ξ23 => .func (.func 116) #[] #[.pointer (some ⟨(ξ23 1 0).2.1, 0, none⟩)], fun _ => noR, fun ξ23 => [cellsR (ξ23 1 0).2.1 22 [.slice (ξ23 1 1).1 y24.length (ξ23 1 1).2.2], rowR (ξ23 1 1).1 (ξ23 1 1).2.2 34 5 y24.length (encL TLook_cells y24)]⟩, ⟨fun _ => .agg #[.int .i64 p0_f.fRise, .int .i64 p0_f.fFall, .int .i64 p0_f.fUp, .int .i64 p0_f.fDown, .slice A0_4 p0_f.fLooks.length c0_4], fun _ => noR, fun _ => []⟩, ⟨fun _ => .agg #[.int .i64 p1_at.fFoot, .int .i64 p1_at.fHour], fun _ => noR, fun _ => []⟩, ⟨fun ξ23 => .func (.func 111) #[] #[.pointer (some ⟨(ξ23 4 0).2.1, 0, none⟩), .pointer (some ⟨(ξ23 4 1).2.1, 0, none⟩)], fun _ => noR, fun ξ23 => [cellsR (ξ23 4 0).2.1 24 [.int .i64 p0_f.fRise, .int .i64 p0_f.fFall, .int .i64 p0_f.fUp, .int .i64 p0_f.fDown, .slice A0_4 p0_f.fLooks.length c0_4], cellsR (ξ23 4 1).2.1 26 [.int .i64 p1_at.fFoot, .int .i64 p1_at.fHour]]⟩, ⟨fun _ => .tuple #[.int .i64 y38.1, .agg #[.int .i64 y38.2.1.fID, .int .i64 y38.2.1.fAt.fFoot, .int .i64 y38.2.1.fAt.fHour, .int .i64 y38.2.1.fHeat.fLo, .int .i64 y38.2.1.fHeat.fHi], .bool y38.2.2], fun _ => noR, fun _ => []⟩, ⟨fun _ => .tuple #[.int .i64 y38.1, .agg #[.int .i64 y38.2.1.fID, .int .i64 y38.2.1.fAt.fFoot, .int .i64 y38.2.1.fAt.fHour, .int .i64 y38.2.1.fHeat.fLo, .int .i64 y38.2.1.fHeat.fHi], .bool y38.2.2], fun _ => noR, fun _ => []⟩, ⟨fun _ => .int .i64 y38.1, fun _ => noR, fun _ => []⟩, ⟨fun _ => .agg #[.int .i64 y38.2.1.fID, .int .i64 y38.2.1.fAt.fFoot, .int .i64 y38.2.1.fAt.fHour, .int .i64 y38.2.1.fHeat.fLo, .int .i64 y38.2.1.fHeat.fHi], fun _ => noR, fun _ => []⟩, ⟨fun _ => .bool y38.2.2, fun _ => noR, fun _ => []⟩, ⟨fun ξ23 => .pointer (some ⟨(ξ23 10 0).2.1, 0, none⟩), fun _ => noR, fun ξ23 => [cellsR (ξ23 10 0).2.1 34 [.int .i64 0, .int .i64 0, .int .i64 0, .int .i64 0, .int .i64 0]]⟩, ⟨fun _ => .int .i64 y38.1, fun _ => noR, fun _ => []⟩, ⟨fun _ => undef, fun ξ23 => cellsR (ξ23 10 0).2.1 34 [.int .i64 y38.2.1.fID, .int .i64 y38.2.1.fAt.fFoot, .int .i64 y38.2.1.fAt.fHour, .int .i64 y38.2.1.fHeat.fLo, .int .i64 y38.2.1.fHeat.fHi], fun _ => []⟩, ⟨fun _ => .bool y38.2.2, fun _ => noR, fun _ => []⟩] 9 mixed (by kernel_rfl) (by kernel_rfl) ⟨⟨fun ξ23 ξ23' h => ⟨rfl, rfl, rfl⟩, fun _ => rfl⟩, ⟨fun ξ23 ξ23' h => ⟨by simp only [h 1 (.inl rfl)], rfl, by simp only [h 1 (.inl rfl)]⟩, fun _ => rfl⟩, ⟨fun ξ23 ξ23' h => ⟨rfl, rfl, rfl⟩, fun _ => rfl⟩, ⟨fun ξ23 ξ23' h => ⟨rfl, rfl, rfl⟩, fun _ => rfl⟩, ⟨fun ξ23 ξ23' h => ⟨by simp only [h 4 (.inl rfl)], rfl, by simp only [h 4 (.inl rfl)]⟩, fun _ => rfl⟩, ⟨fun ξ23 ξ23' h => ⟨rfl, rfl, rfl⟩, fun _ => rfl⟩, ⟨fun ξ23 ξ23' h => ⟨rfl, rfl, rfl⟩, fun _ => rfl⟩, ⟨fun ξ23 ξ23' h => ⟨rfl, rfl, rfl⟩, fun _ => rfl⟩, ⟨fun ξ23 ξ23' h => ⟨rfl, rfl, rfl⟩, fun _ => rfl⟩, ⟨fun ξ23 ξ23' h => ⟨rfl, rfl, rfl⟩, fun _ => rfl⟩, ⟨fun ξ23 ξ23' h => ⟨by simp only [h 10 (.inl rfl)], rfl, by simp only [h 10 (.inl rfl)]⟩, fun _ => rfl⟩, ⟨fun ξ23 ξ23' h => ⟨rfl, rfl, rfl⟩, fun _ => rfl⟩, ⟨fun ξ23 ξ23' h => ⟨rfl, by simp only [h 10 (.inr rfl)], rfl⟩, fun _ => rfl⟩, ⟨fun ξ23 ξ23' h => ⟨rfl, rfl, rfl⟩, fun _ => rfl⟩, trivial⟩ rfl (fun ξ23 => ?_)
  refine gx_o rfl (fun L2 => ?_) ?_
  · dsimp only [maskL, List.cons_append, List.nil_append]
    refine ox_y rfl (y_loadN 0 [.int .i64 p0_f.fRise, .int .i64 p0_f.fFall, .int .i64 p0_f.fUp, .int .i64 p0_f.fDown, .slice A0_4 p0_f.fLooks.length c0_4] ag_24 rfl rfl rfl) ?_
    refine ox_nil ?_
    exact ex_capG (fun _ => (none, 0, 0)) rfl (List.append_nil _)
  dsimp only [aftL, List.set_cons_zero, List.set_cons_succ, List.nil_append, List.cons_append, List.append_nil]
  refine gx_o rfl (fun L2 => ?_) ?_
  · dsimp only [maskL, List.cons_append, List.nil_append]
    refine ox_call [.agg #[.int .i64 p0_f.fRise, .int .i64 p0_f.fFall, .int .i64 p0_f.fUp, .int .i64 p0_f.fDown, .slice A0_4 p0_f.fLooks.length c0_4]] _ _ _ rfl go_100 rfl (fun W2 hW2 => fire_sorted_ok p0_f y24 hy25 W2 A0_4 p0_f.fLooks.length c0_4 rfl ((RdL.arg hr0_4) W2 hW2)) ?_
    rintro ⟨b26, A27, n29, c28⟩ hn30
    replace hn30 : n29 = y24.length := hn30; subst hn30
    refine ox_nil ?_
    exact ex_capG (fun q => if q = 0 then (none, b26, 0) else (A27, 0, c28)) rfl rfl
  dsimp only [aftL, List.set_cons_zero, List.set_cons_succ, List.nil_append, List.cons_append, List.append_nil]
  refine gx_o rfl (fun L2 => ?_) ?_
  · dsimp only [maskL, List.cons_append, List.nil_append]
    refine ox_y rfl (y_loadN 0 [.int .i64 p0_f.fRise, .int .i64 p0_f.fFall, .int .i64 p0_f.fUp, .int .i64 p0_f.fDown, .slice A0_4 p0_f.fLooks.length c0_4] ag_24 rfl rfl rfl) ?_
    refine ox_nil ?_
    exact ex_capG (fun _ => (none, 0, 0)) rfl (List.append_nil _)
  dsimp only [aftL, List.set_cons_zero, List.set_cons_succ, List.nil_append, List.cons_append, List.append_nil]
  refine gx_o rfl (fun L2 => ?_) ?_
  · dsimp only [maskL, List.cons_append, List.nil_append]
    refine ox_y rfl (y_loadN 1 [.int .i64 p1_at.fFoot, .int .i64 p1_at.fHour] ag_26 rfl rfl rfl) ?_
    refine ox_nil ?_
    exact ex_capG (fun _ => (none, 0, 0)) rfl (List.append_nil _)
  dsimp only [aftL, List.set_cons_zero, List.set_cons_succ, List.nil_append, List.cons_append, List.append_nil]
  refine gx_o rfl (fun L2 => ?_) ?_
  · dsimp only [maskL, List.cons_append, List.nil_append]
    refine ox_call1 [.agg #[.int .i64 p0_f.fRise, .int .i64 p0_f.fFall, .int .i64 p0_f.fUp, .int .i64 p0_f.fDown, .slice A0_4 p0_f.fLooks.length c0_4], .agg #[.int .i64 p1_at.fFoot, .int .i64 p1_at.fHour]] _ _ rfl go_94 rfl (fun W2 hW2 => fire_high_ok p0_f p1_at y31 hy32 W2 A0_4 p0_f.fLooks.length c0_4 rfl ((RdL.arg hr0_4) W2 hW2)) ?_
    rintro ⟨b33, b34⟩
    refine ox_nil ?_
    exact ex_capG (fun q => if q = 0 then (none, b33, 0) else (none, b34, 0)) rfl rfl
  dsimp only [aftL, List.set_cons_zero, List.set_cons_succ, List.nil_append, List.cons_append, List.append_nil]
  refine gx_o rfl (fun L2 => ?_) ?_
  · dsimp only [maskL, List.cons_append, List.nil_append]
    refine ox_y rfl (y_call [.func (.func 116) #[] #[.pointer (some ⟨(ξ23 1 0).2.1, 0, none⟩)], .int .i64 1500, .func (.func 111) #[] #[.pointer (some ⟨(ξ23 4 0).2.1, 0, none⟩), .pointer (some ⟨(ξ23 4 1).2.1, 0, none⟩)], .func (.func 102) #[] #[]] go_99 rfl (fun W2 hW2 => fire_best_calx_api_Look_ok y24 1500 (fun x35 => fire_high_1 x35 p0_f p1_at) (fun x36 x37 => fire_less x36 x37) y38 hy39 W2 (ξ23 1 0).2.1 (ξ23 1 1).1 y24.length (ξ23 1 1).2.2 rfl (hW2.mem (i := 9) rfl) ((RdL.row 10 rfl) W2 hW2) 111 [.pointer (some ⟨(ξ23 4 0).2.1, 0, none⟩), .pointer (some ⟨(ξ23 4 1).2.1, 0, none⟩)] go_111 (fun W3 hb x y hxy => fire_high_1_ok x p0_f p1_at y hxy W3 (ξ23 4 0).2.1 A0_4 p0_f.fLooks.length c0_4 rfl (((RdL.arg hr0_4) W2 hW2).later hb) (((RdL.cells 11 rfl) W2 hW2).later hb) (ξ23 4 1).2.1 (((RdL.cells 12 rfl) W2 hW2).later hb)) 102 [] go_102 (fun W3 hb x0 x1 y hxy => fire_less_ok x0 x1  y hxy W3 )) rfl) ?_
    refine ox_nil ?_
    exact ex_capG (fun _ => (none, 0, 0)) rfl (List.append_nil _)
  dsimp only [aftL, List.set_cons_zero, List.set_cons_succ, List.nil_append, List.cons_append, List.append_nil]
  refine gx_o rfl (fun L2 => ?_) ?_
  · dsimp only [maskL, List.cons_append, List.nil_append]
    refine ox_y rfl (y_move_tuple rfl) ?_
    refine ox_nil ?_
    exact ex_capG (fun _ => (none, 0, 0)) rfl (List.append_nil _)
  dsimp only [aftL, List.set_cons_zero, List.set_cons_succ, List.nil_append, List.cons_append, List.append_nil]
  refine gx_o rfl (fun L2 => ?_) ?_
  · dsimp only [maskL, List.cons_append, List.nil_append]
    refine ox_y rfl (y_extract (vs := [.int .i64 y38.1, .agg #[.int .i64 y38.2.1.fID, .int .i64 y38.2.1.fAt.fFoot, .int .i64 y38.2.1.fAt.fHour, .int .i64 y38.2.1.fHeat.fLo, .int .i64 y38.2.1.fHeat.fHi], .bool y38.2.2]) (v := .int .i64 y38.1) rfl rfl) ?_
    refine ox_nil ?_
    exact ex_capG (fun _ => (none, 0, 0)) rfl (List.append_nil _)
  dsimp only [aftL, List.set_cons_zero, List.set_cons_succ, List.nil_append, List.cons_append, List.append_nil]
  refine gx_o rfl (fun L2 => ?_) ?_
  · dsimp only [maskL, List.cons_append, List.nil_append]
    refine ox_y rfl (y_extract (vs := [.int .i64 y38.1, .agg #[.int .i64 y38.2.1.fID, .int .i64 y38.2.1.fAt.fFoot, .int .i64 y38.2.1.fAt.fHour, .int .i64 y38.2.1.fHeat.fLo, .int .i64 y38.2.1.fHeat.fHi], .bool y38.2.2]) (v := .agg #[.int .i64 y38.2.1.fID, .int .i64 y38.2.1.fAt.fFoot, .int .i64 y38.2.1.fAt.fHour, .int .i64 y38.2.1.fHeat.fLo, .int .i64 y38.2.1.fHeat.fHi]) rfl rfl) ?_
    refine ox_nil ?_
    exact ex_capG (fun _ => (none, 0, 0)) rfl (List.append_nil _)
  dsimp only [aftL, List.set_cons_zero, List.set_cons_succ, List.nil_append, List.cons_append, List.append_nil]
  refine gx_o rfl (fun L2 => ?_) ?_
  · dsimp only [maskL, List.cons_append, List.nil_append]
    refine ox_y rfl (y_extract (vs := [.int .i64 y38.1, .agg #[.int .i64 y38.2.1.fID, .int .i64 y38.2.1.fAt.fFoot, .int .i64 y38.2.1.fAt.fHour, .int .i64 y38.2.1.fHeat.fLo, .int .i64 y38.2.1.fHeat.fHi], .bool y38.2.2]) (v := .bool y38.2.2) rfl rfl) ?_
    refine ox_nil ?_
    exact ex_capG (fun _ => (none, 0, 0)) rfl (List.append_nil _)
  dsimp only [aftL, List.set_cons_zero, List.set_cons_succ, List.nil_append, List.cons_append, List.append_nil]
  refine gx_o rfl (fun L2 => ?_) ?_
  · dsimp only [maskL, List.cons_append, List.nil_append]
    refine ox_alloc ze_34 rfl (fun b40 => ?_)
    refine ox_nil ?_
    exact ex_capG (fun _ => (none, b40, 0)) rfl rfl
  dsimp only [aftL, List.set_cons_zero, List.set_cons_succ, List.nil_append, List.cons_append, List.append_nil]
  refine gx_o rfl (fun L2 => ?_) ?_
  · dsimp only [maskL, List.cons_append, List.nil_append]
    refine ox_y rfl (y_assign_int rfl) ?_
    refine ox_nil ?_
    exact ex_capG (fun _ => (none, 0, 0)) rfl (List.append_nil _)
  dsimp only [aftL, List.set_cons_zero, List.set_cons_succ, List.nil_append, List.cons_append, List.append_nil]
  refine gx_n rfl (fun L2 => ?_) ?_
  · dsimp only [maskL, List.cons_append, List.nil_append]
    refine ox_n rfl (y_storeN 13 [.int .i64 y38.2.1.fID, .int .i64 y38.2.1.fAt.fFoot, .int .i64 y38.2.1.fAt.fHour, .int .i64 y38.2.1.fHeat.fLo, .int .i64 y38.2.1.fHeat.fHi] sz_34 rfl (Nat.le_of_ble_eq_true rfl) rfl rfl rfl) ?_
    refine ox_nil ?_
    exact ex_capGn (fun _ => (none, 0, 0)) (List.append_nil _)
  dsimp only [aftL, List.set_cons_zero, List.set_cons_succ, List.nil_append, List.cons_append, List.append_nil]
  refine gx_o rfl (fun L2 => ?_) ?_
  · dsimp only [maskL, List.cons_append, List.nil_append]
    refine ox_y rfl (y_assign_bool rfl) ?_
    refine ox_nil ?_
    exact ex_capG (fun _ => (none, 0, 0)) rfl (List.append_nil _)
  dsimp only [aftL, List.set_cons_zero, List.set_cons_succ, List.nil_append, List.cons_append, List.append_nil]
  refine gx_nil ?_
  refine ex_then ?_
  refine cx_seq ?_
  refine cx_drawsG [[], [], [0, 1], [], [3], [], [5], [0, 1, 2], [0, 1, 2, 7], [0, 1, 2, 3, 4, 7, 8], [0, 1, 2, 3, 4, 7, 8, 9], [0, 1, 2, 3, 4, 5, 6, 7, 8, 9, 10], [0, 1, 2, 3, 4, 5, 6, 7, 8, 9, 10, 11]] [(none, 0, [true, true, true, true, true, true, true, true, true, true, true, true, true, true]), (none, 0, [true, true, true, true, true, true, true, true, true, true, true, true, true, true]), (none, 0, [true, true, true, true, true, true, true, true, true, true, true, true, true, true]), (none, 0, [true, true, true, false, true, true, true, true, true, true, true, true, true, true]), (none, 0, [true, true, true, false, true, true, true, true, true, true, true, true, true, true]), (none, 0, [true, true, true, false, true, true, true, true, true, true, true, true, true, true]), (none, 0, [true, true, true, false, true, true, true, true, true, true, true, true, true, true]), (none, 0, [true, true, true, true, true, true, true, true, true, true, true, true, true, true]), (some 3, 0, [true, true, true, true, true, true, true, true, true, true, true, true, true, true]), (none, 0, [true, true, true, true, true, true, true, true, true, true, true, true, true, true]), (some 3, 0, [true, true, true, true, true, true, true, true, true, true, true, true, true, true]), (none, 0, [true, true, true, true, true, true, true, true, true, true, true, true, true, true]), (some 3, 0, [true, true, true, true, true, true, true, true, true, true, true, true, true, true])] [⟨fun _ => .int .i64 y20.1, fun _ => noR, fun _ => []⟩, ⟨fun _ => .int .i64 y38.1, fun _ => noR, fun _ => []⟩, ⟨fun _ => .agg #[.int .i64 y20.1, .int .i64 y38.1], fun _ => noR, fun _ => []⟩, ⟨fun _ => .pointer (some ⟨(ξ5 10 0).2.1, 0 + 0, none⟩), fun _ => noR, fun _ => []⟩, ⟨fun _ => .int .i64 y20.2.1.fID, fun _ => noR, fun _ => []⟩, ⟨fun _ => .pointer (some ⟨(ξ23 10 0).2.1, 0 + 0, none⟩), fun _ => noR, fun _ => []⟩, ⟨fun _ => .int .i64 y38.2.1.fID, fun _ => noR, fun _ => []⟩, ⟨fun _ => .pointer (some ⟨b4, 0 + 0, none⟩), fun _ => noR, fun _ => []⟩, ⟨fun _ => undef, fun _ => cellsR b4 36 [.int .i64 y20.1, .int .i64 y38.1, .int .i64 0, .int .i64 0], fun _ => []⟩, ⟨fun _ => .pointer (some ⟨b4, 0 + 2, none⟩), fun _ => noR, fun _ => []⟩, ⟨fun _ => undef, fun _ => cellsR b4 36 [.int .i64 y20.1, .int .i64 y38.1, .int .i64 y20.2.1.fID, .int .i64 0], fun _ => []⟩, ⟨fun _ => .pointer (some ⟨b4, 0 + 3, none⟩), fun _ => noR, fun _ => []⟩, ⟨fun _ => undef, fun _ => cellsR b4 36 [.int .i64 y20.1, .int .i64 y38.1, .int .i64 y20.2.1.fID, .int .i64 y38.2.1.fID], fun _ => []⟩] 14 mixed (by kernel_rfl) (by kernel_rfl) ⟨⟨fun ξ41 ξ41' h => ⟨rfl, rfl, rfl⟩, fun _ => rfl⟩, ⟨fun ξ41 ξ41' h => ⟨rfl, rfl, rfl⟩, fun _ => rfl⟩, ⟨fun ξ41 ξ41' h => ⟨rfl, rfl, rfl⟩, fun _ => rfl⟩, ⟨fun ξ41 ξ41' h => ⟨rfl, rfl, rfl⟩, fun _ => rfl⟩, ⟨fun ξ41 ξ41' h => ⟨rfl, rfl, rfl⟩, fun _ => rfl⟩, ⟨fun ξ41 ξ41' h => ⟨rfl, rfl, rfl⟩, fun _ => rfl⟩, ⟨fun ξ41 ξ41' h => ⟨rfl, rfl, rfl⟩, fun _ => rfl⟩, ⟨fun ξ41 ξ41' h => ⟨rfl, rfl, rfl⟩, fun _ => rfl⟩, ⟨fun ξ41 ξ41' h => ⟨rfl, rfl, rfl⟩, fun _ => rfl⟩, ⟨fun ξ41 ξ41' h => ⟨rfl, rfl, rfl⟩, fun _ => rfl⟩, ⟨fun ξ41 ξ41' h => ⟨rfl, rfl, rfl⟩, fun _ => rfl⟩, ⟨fun ξ41 ξ41' h => ⟨rfl, rfl, rfl⟩, fun _ => rfl⟩, ⟨fun ξ41 ξ41' h => ⟨rfl, rfl, rfl⟩, fun _ => rfl⟩, trivial⟩ rfl (fun ξ41 => ?_)
  refine gx_o rfl (fun L2 => ?_) ?_
  · dsimp only [maskL, List.cons_append, List.nil_append]
    refine ox_y rfl (y_move_int rfl) ?_
    refine ox_nil ?_
    exact ex_capG (fun _ => (none, 0, 0)) rfl (List.append_nil _)
  dsimp only [aftL, List.set_cons_zero, List.set_cons_succ, List.nil_append, List.cons_append, List.append_nil]
  refine gx_o rfl (fun L2 => ?_) ?_
  · dsimp only [maskL, List.cons_append, List.nil_append]
    refine ox_y rfl (y_move_int rfl) ?_
    refine ox_nil ?_
    exact ex_capG (fun _ => (none, 0, 0)) rfl (List.append_nil _)
  dsimp only [aftL, List.set_cons_zero, List.set_cons_succ, List.nil_append, List.cons_append, List.append_nil]
  refine gx_o rfl (fun L2 => ?_) ?_
  · dsimp only [maskL, List.cons_append, List.nil_append]
    refine ox_y rfl (y_buildS [.int .i64 y20.1, .int .i64 y38.1] [(0, 1), (1, 1)] ust_32 ze_32 (by kernel_rfl)) ?_
    refine ox_nil ?_
    exact ex_capG (fun _ => (none, 0, 0)) rfl (List.append_nil _)
  dsimp only [aftL, List.set_cons_zero, List.set_cons_succ, List.nil_append, List.cons_append, List.append_nil]
  refine gx_o rfl (fun L2 => ?_) ?_
  · dsimp only [maskL, List.cons_append, List.nil_append]
    refine ox_y rfl (y_fieldAddr fo_34_0 rfl) ?_
    refine ox_nil ?_
    exact ex_capG (fun _ => (none, 0, 0)) rfl (List.append_nil _)
  dsimp only [aftL, List.set_cons_zero, List.set_cons_succ, List.nil_append, List.cons_append, List.append_nil]
  refine gx_o rfl (fun L2 => ?_) ?_
  · dsimp only [maskL, List.cons_append, List.nil_append]
    refine ox_y rfl (y_load1 8 (v := .int .i64 y20.2.1.fID) sc_3 rfl rfl rfl) ?_
    refine ox_nil ?_
    exact ex_capG (fun _ => (none, 0, 0)) rfl (List.append_nil _)
  dsimp only [aftL, List.set_cons_zero, List.set_cons_succ, List.nil_append, List.cons_append, List.append_nil]
  refine gx_o rfl (fun L2 => ?_) ?_
  · dsimp only [maskL, List.cons_append, List.nil_append]
    refine ox_y rfl (y_fieldAddr fo_34_0 rfl) ?_
    refine ox_nil ?_
    exact ex_capG (fun _ => (none, 0, 0)) rfl (List.append_nil _)
  dsimp only [aftL, List.set_cons_zero, List.set_cons_succ, List.nil_append, List.cons_append, List.append_nil]
  refine gx_o rfl (fun L2 => ?_) ?_
  · dsimp only [maskL, List.cons_append, List.nil_append]
    refine ox_y rfl (y_load1 13 (v := .int .i64 y38.2.1.fID) sc_3 rfl rfl rfl) ?_
    refine ox_nil ?_
    exact ex_capG (fun _ => (none, 0, 0)) rfl (List.append_nil _)
  dsimp only [aftL, List.set_cons_zero, List.set_cons_succ, List.nil_append, List.cons_append, List.append_nil]
  refine gx_o rfl (fun L2 => ?_) ?_
  · dsimp only [maskL, List.cons_append, List.nil_append]
    refine ox_y rfl (y_fieldAddr fo_36_0 rfl) ?_
    refine ox_nil ?_
    exact ex_capG (fun _ => (none, 0, 0)) rfl (List.append_nil _)
  dsimp only [aftL, List.set_cons_zero, List.set_cons_succ, List.nil_append, List.cons_append, List.append_nil]
  refine gx_n rfl (fun L2 => ?_) ?_
  · dsimp only [maskL, List.cons_append, List.nil_append]
    refine ox_n rfl (y_storeN 3 [.int .i64 y20.1, .int .i64 y38.1] sz_32 rfl (Nat.le_of_ble_eq_true rfl) rfl rfl rfl) ?_
    refine ox_nil ?_
    exact ex_capGn (fun _ => (none, 0, 0)) (List.append_nil _)
  dsimp only [aftL, List.set_cons_zero, List.set_cons_succ, List.nil_append, List.cons_append, List.append_nil]
  refine gx_o rfl (fun L2 => ?_) ?_
  · dsimp only [maskL, List.cons_append, List.nil_append]
    refine ox_y rfl (y_fieldAddr fo_36_1 rfl) ?_
    refine ox_nil ?_
    exact ex_capG (fun _ => (none, 0, 0)) rfl (List.append_nil _)
  dsimp only [aftL, List.set_cons_zero, List.set_cons_succ, List.nil_append, List.cons_append, List.append_nil]
  refine gx_n rfl (fun L2 => ?_) ?_
  · dsimp only [maskL, List.cons_append, List.nil_append]
    refine ox_n rfl (y_store1 3 (v := .int .i64 y20.2.1.fID) sz_3 rfl (Nat.lt_of_lt_of_le (Nat.lt_succ_self _) (Nat.le_of_ble_eq_true rfl)) rfl rfl rfl) ?_
    refine ox_nil ?_
    exact ex_capGn (fun _ => (none, 0, 0)) (List.append_nil _)
  dsimp only [aftL, List.set_cons_zero, List.set_cons_succ, List.nil_append, List.cons_append, List.append_nil]
  refine gx_o rfl (fun L2 => ?_) ?_
  · dsimp only [maskL, List.cons_append, List.nil_append]
    refine ox_y rfl (y_fieldAddr fo_36_2 rfl) ?_
    refine ox_nil ?_
    exact ex_capG (fun _ => (none, 0, 0)) rfl (List.append_nil _)
  dsimp only [aftL, List.set_cons_zero, List.set_cons_succ, List.nil_append, List.cons_append, List.append_nil]
  refine gx_n rfl (fun L2 => ?_) ?_
  · dsimp only [maskL, List.cons_append, List.nil_append]
    refine ox_n rfl (y_store1 3 (v := .int .i64 y38.2.1.fID) sz_3 rfl (Nat.lt_of_lt_of_le (Nat.lt_succ_self _) (Nat.le_of_ble_eq_true rfl)) rfl rfl rfl) ?_
    refine ox_nil ?_
    exact ex_capGn (fun _ => (none, 0, 0)) (List.append_nil _)
  dsimp only [aftL, List.set_cons_zero, List.set_cons_succ, List.nil_append, List.cons_append, List.append_nil]
  refine gx_nil ?_
  refine ex_then ?_
  refine cx_seq ?_
  refine cx_region ?_
  try dsimp only [List.nil_append, List.cons_append, List.set_cons_zero, List.set_cons_succ]
  refine ox_y rfl (y_loadN 3 [.int .i64 y20.1, .int .i64 y38.1, .int .i64 y20.2.1.fID, .int .i64 y38.2.1.fID] ag_36 rfl rfl rfl) ?_
  refine ox_n rfl (y_storeN 2 [.int .i64 y20.1, .int .i64 y38.1, .int .i64 y20.2.1.fID, .int .i64 y38.2.1.fID] sz_36 rfl (Nat.le_of_ble_eq_true rfl) rfl rfl rfl) ?_
  refine ox_nil ?_
  refine ex_then ?_
  refine cx_ret ?_
  obtain rfl := Option.some.inj h
  exact ex_res1 (.inl rfl) rfl (resV_cellN 2 [.int .i64 y20.1, .int .i64 y38.1, .int .i64 y20.2.1.fID, .int .i64 y38.2.1.fID] ag_36 rfl rfl rfl) (fun W2 hW2 => ⟨rfl, hW2.none⟩)

/-! calx/fire.Ends -/
set_option maxRecDepth 100000 in
theorem fire_Ends_ok (p0_f : TFire) (p1_at : TSpot) (res : (TBounds × Int)) (h : fire_Ends p0_f p1_at = some res) (W : World) (A0_4 : Option Addr) (n0_4 c0_4 : Nat) (hn0_4 : n0_4 = p0_f.fLooks.length) (hr0_4 : Rd W A0_4 n0_4 c0_4 (encL TLook_cells p0_f.fLooks)) :
    Calls Try.prog 14 [.agg #[.int .i64 p0_f.fRise, .int .i64 p0_f.fFall, .int .i64 p0_f.fUp, .int .i64 p0_f.fDown, .slice A0_4 n0_4 c0_4], .agg #[.int .i64 p1_at.fFoot, .int .i64 p1_at.fHour]].toArray W fun e W2 => e = .returned (.tuple #[.agg #[.int .i64 res.1.fSpan.fLo, .int .i64 res.1.fSpan.fHi, .int .i64 res.1.fLow, .int .i64 res.1.fHigh], .int .i64 res.2]) ∧ Ext W W2 [] := by
  subst hn0_4
  unfold fire_Ends at h
  refine calls_enter (m := 20) Try.func14 rfl rfl (Nat.le_of_ble_eq_true rfl) ?_
  refine cx_seq ?_
  refine cx_region ?_
  refine ox_box [.int .i64 p0_f.fRise, .int .i64 p0_f.fFall, .int .i64 p0_f.fUp, .int .i64 p0_f.fDown, .slice A0_4 p0_f.fLooks.length c0_4] rfl rfl rfl (fun b1 => ?_)
  refine ox_box [.int .i64 p1_at.fFoot, .int .i64 p1_at.fHour] rfl rfl rfl (fun b2 => ?_)
  refine ox_alloc ze_36 rfl (fun b3 => ?_)
  refine ox_y rfl (y_assign_int rfl) ?_
  refine ox_nil ?_
  refine ex_then ?_
  refine cx_seq ?_
  refine cx_seq ?_
  obtain ⟨y6, hy7, h⟩ := bind_some h
  obtain ⟨y8, hy9, h⟩ := bind_some h
  refine cx_drawsG [[], [], [], [2], [1, 2, 3], [0, 1, 2, 3, 4], [0, 1, 2, 3, 4, 5]] [(none, 0, [true, true, true]), (none, 0, [true, true, true]), (none, 0, [true, true, true]), (none, 1, [true, true, true]), (none, 0, [true, true, true, true]), (none, 0, [true, true, true, true]), (none, 0, [true, true, true, true])] [⟨fun _ => .agg #[.int .i64 p0_f.fRise, .int .i64 p0_f.fFall, .int .i64 p0_f.fUp, .int .i64 p0_f.fDown, .slice A0_4 p0_f.fLooks.length c0_4], fun _ => noR, fun _ => []⟩, ⟨fun _ => .agg #[.int .i64 p0_f.fRise, .int .i64 p0_f.fFall, .int .i64 p0_f.fUp, .int .i64 p0_f.fDown, .slice A0_4 p0_f.fLooks.length c0_4], fun _ => noR, fun _ => []⟩, ⟨fun _ => .agg #[.int .i64 p1_at.fFoot, .int .i64 p1_at.fHour], fun _ => noR, fun _ => []⟩, ⟨fun ξ4 => .slice (some ⟨(ξ4 3 0).2.1, 0, none⟩) 1 1, fun _ => noR, fun ξ4 => [rowR (some ⟨(ξ4 3 0).2.1, 0, none⟩) 1 26 2 1 (encL TSpot_cells [p1_at])]⟩, ⟨fun _ => .int .i64 y6, fun _ => noR, fun _ => []⟩, ⟨fun _ => .int .i64 y8, fun _ => noR, fun _ => []⟩, ⟨fun _ => .int .i64 y8, fun _ => noR, fun _ => []⟩] 3 mixed (by kernel_rfl) (by kernel_rfl) ⟨⟨fun ξ4 ξ4' h => ⟨rfl, rfl, rfl⟩, fun _ => rfl⟩, ⟨fun ξ4 ξ4' h => ⟨rfl, rfl, rfl⟩, fun _ => rfl⟩, ⟨fun ξ4 ξ4' h => ⟨rfl, rfl, rfl⟩, fun _ => rfl⟩, ⟨fun ξ4 ξ4' h => ⟨by simp only [h 3 (.inl rfl)], rfl, by simp only [h 3 (.inl rfl)]⟩, fun _ => rfl⟩, ⟨fun ξ4 ξ4' h => ⟨rfl, rfl, rfl⟩, fun _ => rfl⟩, ⟨fun ξ4 ξ4' h => ⟨rfl, rfl, rfl⟩, fun _ => rfl⟩, ⟨fun ξ4 ξ4' h => ⟨rfl, rfl, rfl⟩, fun _ => rfl⟩, trivial⟩ rfl (fun ξ4 => ?_)
  refine gx_o rfl (fun L2 => ?_) ?_
  · dsimp only [maskL, List.cons_append, List.nil_append]
    refine ox_y rfl (y_loadN 0 [.int .i64 p0_f.fRise, .int .i64 p0_f.fFall, .int .i64 p0_f.fUp, .int .i64 p0_f.fDown, .slice A0_4 p0_f.fLooks.length c0_4] ag_24 rfl rfl rfl) ?_
    refine ox_nil ?_
    exact ex_capG (fun _ => (none, 0, 0)) rfl (List.append_nil _)
  dsimp only [aftL, List.set_cons_zero, List.set_cons_succ, List.nil_append, List.cons_append, List.append_nil]
  refine gx_o rfl (fun L2 => ?_) ?_
  · dsimp only [maskL, List.cons_append, List.nil_append]
    refine ox_y rfl (y_loadN 0 [.int .i64 p0_f.fRise, .int .i64 p0_f.fFall, .int .i64 p0_f.fUp, .int .i64 p0_f.fDown, .slice A0_4 p0_f.fLooks.length c0_4] ag_24 rfl rfl rfl) ?_
    refine ox_nil ?_
    exact ex_capG (fun _ => (none, 0, 0)) rfl (List.append_nil _)
  dsimp only [aftL, List.set_cons_zero, List.set_cons_succ, List.nil_append, List.cons_append, List.append_nil]
  refine gx_o rfl (fun L2 => ?_) ?_
  · dsimp only [maskL, List.cons_append, List.nil_append]
    refine ox_y rfl (y_loadN 1 [.int .i64 p1_at.fFoot, .int .i64 p1_at.fHour] ag_26 rfl rfl rfl) ?_
    refine ox_nil ?_
    exact ex_capG (fun _ => (none, 0, 0)) rfl (List.append_nil _)
  dsimp only [aftL, List.set_cons_zero, List.set_cons_succ, List.nil_append, List.cons_append, List.append_nil]
  refine gx_o rfl (fun L2 => ?_) ?_
  · dsimp only [maskL, List.cons_append, List.nil_append]
    refine ox_buildSliceE 1 (encL TSpot_cells [p1_at]) _ mc_26_1 us_46 ze_26 by_26 (by decide) (by decide) (by kernel_rfl) (encL_len TSpot_cells_len rfl) rfl (fun b5 => ?_)
    refine ox_nil ?_
    exact ex_capG (fun _ => (none, b5, 0)) rfl rfl
  dsimp only [aftL, List.set_cons_zero, List.set_cons_succ, List.nil_append, List.cons_append, List.append_nil]
  refine gx_o rfl (fun L2 => ?_) ?_
  · dsimp only [maskL, List.cons_append, List.nil_append]
    refine ox_y rfl (y_call [.agg #[.int .i64 p0_f.fRise, .int .i64 p0_f.fFall, .int .i64 p0_f.fUp, .int .i64 p0_f.fDown, .slice A0_4 p0_f.fLooks.length c0_4], .slice (some ⟨(ξ4 3 0).2.1, 0, none⟩) 1 1] go_56 rfl (fun W2 hW2 => fire_spots_ok p0_f [p1_at] y6 hy7 W2 A0_4 p0_f.fLooks.length c0_4 rfl ((RdL.arg hr0_4) W2 hW2) (some ⟨(ξ4 3 0).2.1, 0, none⟩) 1 1 rfl ((RdL.row 3 rfl) W2 hW2)) rfl) ?_
    refine ox_nil ?_
    exact ex_capG (fun _ => (none, 0, 0)) rfl (List.append_nil _)
  dsimp only [aftL, List.set_cons_zero, List.set_cons_succ, List.nil_append, List.cons_append, List.append_nil]
  refine gx_o rfl (fun L2 => ?_) ?_
  · dsimp only [maskL, List.cons_append, List.nil_append]
    refine ox_y rfl (y_call [.agg #[.int .i64 p0_f.fRise, .int .i64 p0_f.fFall, .int .i64 p0_f.fUp, .int .i64 p0_f.fDown, .slice A0_4 p0_f.fLooks.length c0_4], .int .i64 y6] go_55 rfl (fun W2 hW2 => fire_agreed_ok p0_f y6 y8 hy9 W2 A0_4 p0_f.fLooks.length c0_4 rfl ((RdL.arg hr0_4) W2 hW2)) rfl) ?_
    refine ox_nil ?_
    exact ex_capG (fun _ => (none, 0, 0)) rfl (List.append_nil _)
  dsimp only [aftL, List.set_cons_zero, List.set_cons_succ, List.nil_append, List.cons_append, List.append_nil]
  refine gx_o rfl (fun L2 => ?_) ?_
  · dsimp only [maskL, List.cons_append, List.nil_append]
    refine ox_y rfl (y_assign_int rfl) ?_
    refine ox_nil ?_
    exact ex_capG (fun _ => (none, 0, 0)) rfl (List.append_nil _)
  dsimp only [aftL, List.set_cons_zero, List.set_cons_succ, List.nil_append, List.cons_append, List.append_nil]
  refine gx_nil ?_
  refine ex_then ?_
  refine cx_seq ?_
  refine cx_region ?_
  refine ox_y rfl (y_move_int rfl) ?_
  refine ox_y rfl (y_neq rfl rfl) ?_
  refine ox_nil ?_
  refine ex_then ?_
  rcases ite_some h with ⟨hp10, h⟩ | ⟨hp10, h⟩
  · refine cx_true (congrArg Value.bool hp10) ?_
    refine cx_seq ?_
    refine cx_region ?_
    refine ox_y rfl (y_buildS [.int .i64 0, .int .i64 0, .int .i64 0, .int .i64 0] [(0, 2), (2, 1), (3, 1)] ust_36 ze_36 (by kernel_rfl)) ?_
    refine ox_y rfl (y_move_int rfl) ?_
    refine ox_n rfl (y_storeN 2 [.int .i64 0, .int .i64 0, .int .i64 0, .int .i64 0] sz_36 rfl (Nat.le_of_ble_eq_true rfl) rfl rfl rfl) ?_
    refine ox_y rfl (y_assign_int rfl) ?_
    refine ox_nil ?_
    refine ex_then ?_
    refine cx_ret ?_
    refine ex_then_ret ?_
    obtain rfl := Option.some.inj h
    exact ex_res2 (.inl rfl) rfl (resV_cellN 2 [.int .i64 0, .int .i64 0, .int .i64 0, .int .i64 0] ag_36 rfl rfl rfl) (resV_tmp (v := .int .i64 y8) rfl) (fun W2 hW2 => ⟨rfl, hW2.none⟩)
  · refine cx_false (congrArg Value.bool hp10) ?_
    refine cx_skip ?_
    refine ex_then ?_
    refine cx_seq ?_
    refine cx_region ?_
    refine ox_y rfl (y_loadN 0 [.int .i64 p0_f.fRise, .int .i64 p0_f.fFall, .int .i64 p0_f.fUp, .int .i64 p0_f.fDown, .slice A0_4 p0_f.fLooks.length c0_4] ag_24 rfl rfl rfl) ?_
    refine ox_y rfl (y_loadN 1 [.int .i64 p1_at.fFoot, .int .i64 p1_at.fHour] ag_26 rfl rfl rfl) ?_
    obtain ⟨y11, hy12, h⟩ := bind_some h
    refine ox_y rfl (y_call [.agg #[.int .i64 p0_f.fRise, .int .i64 p0_f.fFall, .int .i64 p0_f.fUp, .int .i64 p0_f.fDown, .slice A0_4 p0_f.fLooks.length c0_4], .agg #[.int .i64 p1_at.fFoot, .int .i64 p1_at.fHour]] go_57 rfl (fun W2 hW2 => fire_ends_ok p0_f p1_at y11 hy12 W2 A0_4 p0_f.fLooks.length c0_4 rfl ((RdL.arg hr0_4) W2 hW2)) rfl) ?_
    refine ox_n rfl (y_storeN 2 [.int .i64 y11.fSpan.fLo, .int .i64 y11.fSpan.fHi, .int .i64 y11.fLow, .int .i64 y11.fHigh] sz_36 rfl (Nat.le_of_ble_eq_true rfl) rfl rfl rfl) ?_
    refine ox_y rfl (y_assign_int rfl) ?_
    refine ox_nil ?_
    refine ex_then ?_
    refine cx_ret ?_
    obtain rfl := Option.some.inj h
    exact ex_res2 (.inl rfl) rfl (resV_cellN 2 [.int .i64 y11.fSpan.fLo, .int .i64 y11.fSpan.fHi, .int .i64 y11.fLow, .int .i64 y11.fHigh] ag_36 rfl rfl rfl) (resV_tmp (v := .int .i64 0) rfl) (fun W2 hW2 => ⟨rfl, hW2.none⟩)

end Go.Proofs.Ytndajeiecdmhnaa
