/- The calls hand back what the plain functions say. -/
import Derived.Test.YtndajeiecdmhnaaGreatF
import Derived.Test.YtndajeiecdmhnaaGreatC2
set_option linter.unusedVariables false
set_option maxHeartbeats 4000000
set_option maxRecDepth 100000
namespace Go.Proofs.YtndajeiecdmhnaaGreat
open Go.RowKit (Below)
attribute [local irreducible] OX QX CX EX OpY Calls CallsIn

theorem calxlaw02_short_ok (p0_l:(List TSpot)) (res:Bool) (h:calxlaw02_short p0_l = some res) (W:World) (A0_0:Option Addr) (n0_0 c0_0 : Nat) (hn0_0:n0_0 = p0_l.length) (hr0_0:Rd W A0_0 n0_0 c0_0 (encL TSpot_cells p0_l)) :
  Calls Tryz.prog 15 [.slice A0_0 n0_0 c0_0].toArray W fun e W2 => e = .returned (.bool res) ∧ Ext W W2 []:=by
 subst hn0_0
 unfold calxlaw02_short at h
 refine calls_enter (m:=16) Tryz.func15 rfl rfl (Nat.le_of_ble_eq_true rfl) ?_
 refine cx_seq (cx_region ?_)
 refine ox_y rfl (y_assign_bool rfl) ?_
 refine ox_nil (ex_then (cx_seq (cx_region ?_)))
 refine ox_y rfl (y_move_slice rfl) ?_
 refine ox_y rfl (y_len (us:=[]) us_50 rfl) ?_
 refine ox_y rfl (y_leq rfl rfl) ?_
 refine ox_y rfl (y_move_bool rfl) ?_
 refine ox_join 9 (fun tm0 => (upd (upd tm0 2 (.bool false)) 15 (.bool ((decide ((p0_l.length:Int) ≤ 12)) || ((decide (24 < (p0_l.length:Int))) && (decide ((p0_l.length:Int) ≤ 40))))))) (fun tm0 => ?_) (fun key => ?_)
 ·refine ox_y rfl (y_assign_bool rfl) ?_
  refine ox_nil (ex_then (cx_ret ?_))
  obtain rfl:=Option.some.inj h
  exact ex_res1 (.inl rfl) rfl (resV_tmp (v:=.bool ((decide ((p0_l.length:Int) ≤ 12)) || ((decide (24 < (p0_l.length:Int))) && (decide ((p0_l.length:Int) ≤ 40))))) rfl) (fun W2 hW2 => ⟨rfl,hW2.none⟩)
 ·rcases bool_cases (decide ((p0_l.length:Int) ≤ 12)) with hp1 | hp1
  ·refine ox_skip (sees_f rfl rfl rfl rfl hp1) ?_
   refine ox_skip (sees_f rfl rfl rfl rfl hp1) ?_
   refine ox_skip (sees_f rfl rfl rfl rfl hp1) ?_
   refine ox_skip (sees_f rfl rfl rfl rfl hp1) ?_
   refine ox_skip rfl ?_
   refine ox_skip rfl ?_
   refine ox_skip rfl ?_
   refine ox_skip (sees_f rfl rfl rfl rfl hp1) ?_
   refine ox_y rfl (y_pick_tb (congrArg Value.bool hp1) rfl) ?_
   exact key _ _ (keep (keep rfl rfl) (congrArg Value.bool (or_t hp1)))
  ·refine ox_y (sees_t rfl rfl rfl rfl hp1) (y_move_slice rfl) ?_
   refine ox_y (sees_t rfl rfl rfl rfl hp1) (y_len (us:=[]) us_50 rfl) ?_
   refine ox_y (sees_t rfl rfl rfl rfl hp1) (y_gtr rfl rfl) ?_
   refine ox_y (sees_t rfl rfl rfl rfl hp1) (y_move_bool rfl) ?_
   refine ox_join 4 (fun tm0 => (upd (upd (upd tm0 2 (.bool false)) 6 (.bool (decide ((p0_l.length:Int) ≤ 12)))) 14 (.bool ((decide (24 < (p0_l.length:Int))) && (decide ((p0_l.length:Int) ≤ 40)))))) (fun tm0 => ?_) (fun key => ?_)
   ·refine ox_y rfl (y_pick_fb (congrArg Value.bool hp1) rfl) ?_
    exact key _ _ (keep (keep rfl rfl) (congrArg Value.bool (or_f hp1)))
   ·rcases bool_cases (decide (24 < (p0_l.length:Int))) with hp2 | hp2
    ·refine ox_y (sees_t rfl rfl rfl rfl hp2) (y_move_slice rfl) ?_
     refine ox_y (sees_t rfl rfl rfl rfl hp2) (y_len (us:=[]) us_50 rfl) ?_
     refine ox_y (sees_t rfl rfl rfl rfl hp2) (y_leq rfl rfl) ?_
     refine ox_y (sees_t rfl rfl rfl rfl hp1) (y_pick_tb (congrArg Value.bool hp2) rfl) ?_
     exact key _ _ (keep (keep (keep rfl rfl) rfl) (congrArg Value.bool (and_t hp2)))
    ·refine ox_skip (sees_f rfl rfl rfl rfl hp2) ?_
     refine ox_skip (sees_f rfl rfl rfl rfl hp2) ?_
     refine ox_skip (sees_f rfl rfl rfl rfl hp2) ?_
     refine ox_y (sees_t rfl rfl rfl rfl hp1) (y_pick_fb (congrArg Value.bool hp2) rfl) ?_
     exact key _ _ (keep (keep (keep rfl rfl) rfl) (congrArg Value.bool (and_f hp2)))

theorem fire_listed_ok (p0_f:TFire) (p1_l:(List TSpot)) (res:Int) (h:fire_listed p0_f p1_l = some res) (W:World) (A0_4:Option Addr) (n0_4 c0_4 : Nat) (hn0_4:n0_4 = p0_f.fLooks.length) (hr0_4:Rd W A0_4 n0_4 c0_4 (encL TLook_cells p0_f.fLooks)) (A1_0:Option Addr) (n1_0 c1_0 : Nat) (hn1_0:n1_0 = p1_l.length) (hr1_0:Rd W A1_0 n1_0 c1_0 (encL TSpot_cells p1_l)) :
  Calls Tryz.prog 61 [.agg #[.int .i64 p0_f.fRise,.int .i64 p0_f.fFall,.int .i64 p0_f.fUp,.int .i64 p0_f.fDown,.slice A0_4 n0_4 c0_4],.slice A1_0 n1_0 c1_0].toArray W fun e W2 => e = .returned (.int .i64 res) ∧ Ext W W2 []:=by
 subst hn0_4
 subst hn1_0
 unfold fire_listed at h
 refine calls_enter (m:=17) Tryz.func61 rfl rfl (Nat.le_of_ble_eq_true rfl) ?_
 refine cx_seq (cx_region ?_)
 refine ox_box [.int .i64 p0_f.fRise,.int .i64 p0_f.fFall,.int .i64 p0_f.fUp,.int .i64 p0_f.fDown,.slice A0_4 p0_f.fLooks.length c0_4] rfl rfl rfl (fun b1 => ?_)
 refine ox_y rfl (y_assign_int rfl) ?_
 refine ox_nil (ex_then (cx_seq (cx_seq (cx_region ?_))))
 refine ox_y rfl (y_loadN 0 [.int .i64 p0_f.fRise,.int .i64 p0_f.fFall,.int .i64 p0_f.fUp,.int .i64 p0_f.fDown,.slice A0_4 p0_f.fLooks.length c0_4] ag_24 rfl rfl rfl) ?_
 obtain ⟨y2,hy3,h⟩:=bind_some h
 refine ox_y rfl (y_call [.agg #[.int .i64 p0_f.fRise,.int .i64 p0_f.fFall,.int .i64 p0_f.fUp,.int .i64 p0_f.fDown,.slice A0_4 p0_f.fLooks.length c0_4]] go_54 rfl (fun W2 hW2 => fire_Check_ok p0_f y2 hy3 W2 A0_4 p0_f.fLooks.length c0_4 rfl ((RdL.arg hr0_4) W2 hW2)) rfl) ?_
 refine ox_y rfl (y_assign_int rfl) ?_
 refine ox_nil (ex_then (cx_seq (cx_region ?_)))
 refine ox_y rfl (y_move_int rfl) ?_
 refine ox_y rfl (y_neq rfl rfl) ?_
 refine ox_nil (ex_then ?_)
 rcases ite_some h with ⟨hp4,h⟩ | ⟨hp4,h⟩
 ·refine cx_true (congrArg Value.bool hp4) ?_
  refine cx_seq (cx_region ?_)
  refine ox_y rfl (y_move_int rfl) ?_
  refine ox_y rfl (y_assign_int rfl) ?_
  refine ox_nil (ex_then (cx_ret (ex_then_ret ?_)))
  obtain rfl:=Option.some.inj h
  exact ex_res1 (.inl rfl) rfl (resV_tmp (v:=.int .i64 y2) rfl) (fun W2 hW2 => ⟨rfl,hW2.none⟩)
 ·refine cx_false (congrArg Value.bool hp4) ?_
  refine cx_skip (ex_then (cx_seq (cx_seq (cx_region ?_))))
  refine ox_y rfl (y_move_slice rfl) ?_
  refine ox_y rfl (y_len (us:=[]) us_50 rfl) ?_
  refine ox_y rfl (y_gtr rfl rfl) ?_
  refine ox_nil (ex_then ?_)
  rcases ite_some h with ⟨hp5,h⟩ | ⟨hp5,h⟩
  ·refine cx_true (congrArg Value.bool hp5) ?_
   refine cx_seq (cx_region ?_)
   refine ox_y rfl (y_assign_int rfl) ?_
   refine ox_nil (ex_then (cx_ret (ex_then_ret ?_)))
   obtain rfl:=Option.some.inj h
   exact ex_res1 (.inl rfl) rfl (resV_tmp (v:=.int .i64 2) rfl) (fun W2 hW2 => ⟨rfl,hW2.none⟩)
  ·refine cx_false (congrArg Value.bool hp5) ?_
   refine cx_skip (ex_then (cx_seq (cx_region ?_)))
   refine ox_y rfl (y_loadN 0 [.int .i64 p0_f.fRise,.int .i64 p0_f.fFall,.int .i64 p0_f.fUp,.int .i64 p0_f.fDown,.slice A0_4 p0_f.fLooks.length c0_4] ag_24 rfl rfl rfl) ?_
   refine ox_y rfl (y_move_slice rfl) ?_
   obtain ⟨y6,hy7,h⟩:=bind_some h
   refine ox_y rfl (y_call [.agg #[.int .i64 p0_f.fRise,.int .i64 p0_f.fFall,.int .i64 p0_f.fUp,.int .i64 p0_f.fDown,.slice A0_4 p0_f.fLooks.length c0_4],.slice A1_0 p1_l.length c1_0] go_38 rfl (fun W2 hW2 => fire_spots_ok p0_f p1_l y6 hy7 W2 A0_4 p0_f.fLooks.length c0_4 rfl ((RdL.arg hr0_4) W2 hW2) A1_0 p1_l.length c1_0 rfl ((RdL.arg hr1_0) W2 hW2)) rfl) ?_
   refine ox_y rfl (y_assign_int rfl) ?_
   refine ox_nil (ex_then (cx_ret ?_))
   obtain rfl:=Option.some.inj h
   exact ex_res1 (.inl rfl) rfl (resV_tmp (v:=.int .i64 y6) rfl) (fun W2 hW2 => ⟨rfl,hW2.none⟩)

end Go.Proofs.YtndajeiecdmhnaaGreat
