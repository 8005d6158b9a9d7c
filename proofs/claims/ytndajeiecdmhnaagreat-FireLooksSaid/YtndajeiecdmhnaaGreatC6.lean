/- The calls hand back what the plain functions say. -/
import Derived.Test.YtndajeiecdmhnaaGreatF
import Derived.Test.YtndajeiecdmhnaaGreatC5
set_option linter.unusedVariables false
set_option maxHeartbeats 4000000
set_option maxRecDepth 100000
namespace Go.Proofs.YtndajeiecdmhnaaGreat
open Go.RowKit (Below)
attribute [local irreducible] OX QX CX EX OpY Calls CallsIn

theorem ref02_Check_ok (p0:TFire) (res:Int) (h:ref02_Check p0 = some res) (W:World) (A0_4:Option Addr) (n0_4 c0_4 : Nat) (hn0_4:n0_4 = p0.fLooks.length) (hr0_4:Rd W A0_4 n0_4 c0_4 (encL TLook_cells p0.fLooks)) :
  Calls Tryz.prog 55 [.agg #[.int .i64 p0.fRise,.int .i64 p0.fFall,.int .i64 p0.fUp,.int .i64 p0.fDown,.slice A0_4 n0_4 c0_4]].toArray W fun e W2 => e = .returned (.int .i64 res) ∧ Ext W W2 []:=by
 subst hn0_4
 unfold ref02_Check at h
 refine calls_enter (m:=73) Tryz.func55 rfl rfl (Nat.le_of_ble_eq_true rfl) ?_
 refine cx_seq (cx_region ?_)
 refine ox_box [.int .i64 p0.fRise,.int .i64 p0.fFall,.int .i64 p0.fUp,.int .i64 p0.fDown,.slice A0_4 p0.fLooks.length c0_4] rfl rfl rfl (fun b1 => ?_)
 refine ox_y rfl (y_assign_int rfl) ?_
 refine ox_nil (ex_then (cx_seq (cx_region ?_)))
 refine ox_y rfl (y_fieldAddr fo_24_0 rfl) ?_
 refine ox_y rfl (y_load1 0 (v:=.int .i64 p0.fRise) sc_3 rfl rfl rfl) ?_
 obtain ⟨y2,hy3,h⟩:=bind_some h
 refine ox_y rfl (y_call [.int .i64 p0.fRise,.int .i64 0,.int .i64 200] go_97 rfl (fun W2 hW2 => ref02_within_ok p0.fRise 0 200 y2 hy3 W2 ) rfl) ?_
 refine ox_y rfl (y_assign_bool rfl) ?_
 refine ox_nil (ex_then (cx_seq (cx_region ?_)))
 refine ox_y rfl (y_fieldAddr fo_24_1 rfl) ?_
 refine ox_y rfl (y_load1 0 (v:=.int .i64 p0.fFall) sc_3 rfl rfl rfl) ?_
 obtain ⟨y4,hy5,h⟩:=bind_some h
 refine ox_y rfl (y_call [.int .i64 p0.fFall,.int .i64 0,.int .i64 200] go_97 rfl (fun W2 hW2 => ref02_within_ok p0.fFall 0 200 y4 hy5 W2 ) rfl) ?_
 refine ox_y rfl (y_assign_bool rfl) ?_
 refine ox_nil (ex_then (cx_seq (cx_region ?_)))
 refine ox_y rfl (y_fieldAddr fo_24_2 rfl) ?_
 refine ox_y rfl (y_load1 0 (v:=.int .i64 p0.fUp) sc_3 rfl rfl rfl) ?_
 obtain ⟨y6,hy7,h⟩:=bind_some h
 refine ox_y rfl (y_call [.int .i64 p0.fUp,.int .i64 0,.int .i64 200] go_97 rfl (fun W2 hW2 => ref02_within_ok p0.fUp 0 200 y6 hy7 W2 ) rfl) ?_
 refine ox_y rfl (y_assign_bool rfl) ?_
 refine ox_nil (ex_then (cx_seq (cx_region ?_)))
 refine ox_y rfl (y_fieldAddr fo_24_3 rfl) ?_
 refine ox_y rfl (y_load1 0 (v:=.int .i64 p0.fDown) sc_3 rfl rfl rfl) ?_
 obtain ⟨y8,hy9,h⟩:=bind_some h
 refine ox_y rfl (y_call [.int .i64 p0.fDown,.int .i64 0,.int .i64 200] go_97 rfl (fun W2 hW2 => ref02_within_ok p0.fDown 0 200 y8 hy9 W2 ) rfl) ?_
 refine ox_y rfl (y_assign_bool rfl) ?_
 refine ox_nil (ex_then (cx_seq (cx_seq (cx_region ?_))))
 refine ox_y rfl (y_move_bool rfl) ?_
 refine ox_y rfl (y_not rfl) ?_
 refine ox_y rfl (y_move_bool rfl) ?_
 refine ox_join 3 (fun tm0 => (upd (upd (upd (upd (upd tm0 1 (.pointer (some ⟨b1,0,none⟩))) 2 (.int .i64 0)) 5 (.bool y6)) 6 (.bool y8)) 27 (.bool ((!y2) || (!y4))))) (fun tm0 => ?_) (fun key => ?_)
 ·refine ox_y rfl (y_move_bool rfl) ?_
  refine ox_join 3 (fun tm0 => (upd (upd (upd (upd tm0 1 (.pointer (some ⟨b1,0,none⟩))) 2 (.int .i64 0)) 6 (.bool y8)) 31 (.bool (((!y2) || (!y4)) || (!y6))))) (fun tm0 => ?_) (fun key => ?_)
  ·refine ox_y rfl (y_move_bool rfl) ?_
   refine ox_join 3 (fun tm0 => (upd (upd (upd tm0 1 (.pointer (some ⟨b1,0,none⟩))) 2 (.int .i64 0)) 35 (.bool ((((!y2) || (!y4)) || (!y6)) || (!y8))))) (fun tm0 => ?_) (fun key => ?_)
   ·refine ox_nil (ex_then ?_)
    rcases ite_some h with ⟨hp13,h⟩ | ⟨hp13,h⟩
    ·refine cx_true (congrArg Value.bool hp13) ?_
     refine cx_seq (cx_region ?_)
     refine ox_y rfl (y_assign_int rfl) ?_
     refine ox_nil (ex_then (cx_ret (ex_then_ret ?_)))
     obtain rfl:=Option.some.inj h
     exact ex_res1 (.inl rfl) rfl (resV_tmp (v:=.int .i64 1) rfl) (fun W2 hW2 => ⟨rfl,hW2.none⟩)
    ·refine cx_false (congrArg Value.bool hp13) ?_
     refine cx_skip (ex_then (cx_seq (cx_seq (cx_region ?_))))
     refine ox_y rfl (y_fieldAddr fo_24_4 rfl) ?_
     refine ox_y rfl (y_load1 0 (v:=.slice A0_4 p0.fLooks.length c0_4) sc_22 rfl rfl rfl) ?_
     refine ox_y rfl (y_len (us:=[]) us_22 rfl) ?_
     refine ox_y rfl (y_gtr rfl rfl) ?_
     refine ox_nil (ex_then ?_)
     rcases ite_some h with ⟨hp14,h⟩ | ⟨hp14,h⟩
     ·refine cx_true (congrArg Value.bool hp14) ?_
      refine cx_seq (cx_region ?_)
      refine ox_y rfl (y_assign_int rfl) ?_
      refine ox_nil (ex_then (cx_ret (ex_then_ret ?_)))
      obtain rfl:=Option.some.inj h
      exact ex_res1 (.inl rfl) rfl (resV_tmp (v:=.int .i64 2) rfl) (fun W2 hW2 => ⟨rfl,hW2.none⟩)
     ·refine cx_false (congrArg Value.bool hp14) ?_
      refine cx_skip (ex_then (cx_seq (cx_seq (cx_region ?_))))
      refine ox_y rfl (y_assign_int rfl) ?_
      refine ox_nil (ex_then (cx_block ?_))
      obtain ⟨u17,hl33,h⟩:=bind_some h
      refine cx_loop (fun (s:(Int × Int)) L tm => ∃ (tm0:Nat → Value),L = [cellsR b1 24 [.int .i64 p0.fRise,.int .i64 p0.fFall,.int .i64 p0.fUp,.int .i64 p0.fDown,.slice A0_4 p0.fLooks.length c0_4]] ∧ tm = (upd (upd (upd (upd (upd tm0 1 (.pointer (some ⟨b1,0,none⟩))) 2 (.int .i64 s.1)) 35 (.bool ((((!y2) || (!y4)) || (!y6)) || (!y8)))) 39 (.bool (decide (24 < (p0.fLooks.length:Int))))) 7 (.int .i64 s.2))) (fun | (.inl s),e,L,tm => e = .ret ∧ ∃ (tm0:Nat → Value),L = [cellsR b1 24 [.int .i64 p0.fRise,.int .i64 p0.fFall,.int .i64 p0.fUp,.int .i64 p0.fDown,.slice A0_4 p0.fLooks.length c0_4]] ∧ tm = (upd (upd (upd (upd (upd tm0 1 (.pointer (some ⟨b1,0,none⟩))) 2 (.int .i64 s.1)) 35 (.bool ((((!y2) || (!y4)) || (!y6)) || (!y8)))) 39 (.bool (decide (24 < (p0.fLooks.length:Int))))) 7 (.int .i64 s.2)) | (.inr s),e,L,tm => e = .exit 0 ∧ ∃ (tm0:Nat → Value),L = [cellsR b1 24 [.int .i64 p0.fRise,.int .i64 p0.fFall,.int .i64 p0.fUp,.int .i64 p0.fDown,.slice A0_4 p0.fLooks.length c0_4]] ∧ tm = (upd (upd (upd (upd (upd tm0 1 (.pointer (some ⟨b1,0,none⟩))) 2 (.int .i64 s.1)) 35 (.bool ((((!y2) || (!y4)) || (!y6)) || (!y8)))) 39 (.bool (decide (24 < (p0.fLooks.length:Int))))) 7 (.int .i64 s.2))) hl33 ⟨_,rfl,(keep (keep (keep (keep (keep rfl rfl) rfl) rfl) rfl) rfl)⟩ ?_ ?_
      ·rintro s16 L tm st ⟨tm0_s16,rfl,rfl⟩ h
       unfold ref02_Check_l1 at h
       refine cx_seq (cx_seq (cx_region ?_))
       refine ox_y rfl (y_move_int rfl) ?_
       refine ox_y rfl (y_fieldAddr fo_24_4 rfl) ?_
       refine ox_y rfl (y_load1 0 (v:=.slice A0_4 p0.fLooks.length c0_4) sc_22 rfl rfl rfl) ?_
       refine ox_y rfl (y_len (us:=[]) us_22 rfl) ?_
       refine ox_y rfl (y_lss rfl rfl) ?_
       refine ox_nil (ex_then ?_)
       rcases ite_some h with ⟨hp18,h⟩ | ⟨hp18,h⟩
       ·refine cx_true (congrArg Value.bool hp18) ?_
        refine cx_skip (ex_then (cx_seq (cx_block (cx_seq (cx_region ?_)))))
        refine ox_y rfl (y_fieldAddr fo_24_4 rfl) ?_
        refine ox_y rfl (y_load1 0 (v:=.slice A0_4 p0.fLooks.length c0_4) sc_22 rfl rfl rfl) ?_
        refine ox_y rfl (y_move_int rfl) ?_
        obtain ⟨hg19,h⟩:=guardO_some h
        refine ox_y rfl (y_indexR sl_22 (by decide) hg19.1 hg19.2 (RdL.arg hr0_4) (encL_len TLook_cells_len rfl) rfl rfl) ?_
        refine ox_y rfl (y_loadRN (A:=A0_4) (j:=(Int.toNat s16.2 * 5)) [.int .i64 ((rdL p0.fLooks s16.2).fID),.int .i64 ((rdL p0.fLooks s16.2).fAt.fFoot),.int .i64 ((rdL p0.fLooks s16.2).fAt.fHour),.int .i64 ((rdL p0.fLooks s16.2).fHeat.fLo),.int .i64 ((rdL p0.fLooks s16.2).fHeat.fHi)] ag_49 (Nat.succ_pos _) (RdL.arg hr0_4) rfl (encL_gets TLook_cells_len hg19.1 (lt_nat hg19.2 rfl))) ?_
        obtain ⟨y20,hy21,h⟩:=bind_some h
        refine ox_y rfl (y_call [.agg #[.int .i64 ((rdL p0.fLooks s16.2).fID),.int .i64 ((rdL p0.fLooks s16.2).fAt.fFoot),.int .i64 ((rdL p0.fLooks s16.2).fAt.fHour),.int .i64 ((rdL p0.fLooks s16.2).fHeat.fLo),.int .i64 ((rdL p0.fLooks s16.2).fHeat.fHi)]] go_98 rfl (fun W2 hW2 => ref02_right_ok (TLook.mk ((rdL p0.fLooks s16.2).fID) (TSpot.mk ((rdL p0.fLooks s16.2).fAt.fFoot) ((rdL p0.fLooks s16.2).fAt.fHour)) (TSpan.mk ((rdL p0.fLooks s16.2).fHeat.fLo) ((rdL p0.fLooks s16.2).fHeat.fHi))) y20 hy21 W2 ) rfl) ?_
        refine ox_y rfl (y_assign_bool rfl) ?_
        refine ox_nil (ex_then (cx_seq (cx_seq (cx_region ?_))))
        refine ox_y rfl (y_move_bool rfl) ?_
        refine ox_y rfl (y_not rfl) ?_
        refine ox_nil (ex_then ?_)
        rcases ite_some h with ⟨hp22,h⟩ | ⟨hp22,h⟩
        ·refine cx_true (congrArg Value.bool hp22) ?_
         refine cx_seq (cx_region ?_)
         refine ox_y rfl (y_assign_int rfl) ?_
         refine ox_nil (ex_then (cx_ret (ex_then_ret (ex_block_ret (ex_then_ret ?_)))))
         obtain rfl:=Option.some.inj h
         exact ex_stop ⟨rfl,_,rfl,(keep (keep (keep (keep (keep rfl rfl) rfl) rfl) rfl) rfl)⟩
        ·refine cx_false (congrArg Value.bool hp22) ?_
         refine cx_skip (ex_then (cx_seq (cx_region ?_)))
         refine ox_y rfl (y_assign_int rfl) ?_
         refine ox_nil (ex_then (cx_block ?_))
         obtain ⟨u25,hl30,h⟩:=bind_some h
         refine cx_loop (fun (s:(Int × Int)) L tm => ∃ (tm0:Nat → Value),L = [cellsR b1 24 [.int .i64 p0.fRise,.int .i64 p0.fFall,.int .i64 p0.fUp,.int .i64 p0.fDown,.slice A0_4 p0.fLooks.length c0_4]] ∧ tm = (upd (upd (upd (upd (upd (upd (upd (upd (upd tm0 1 (.pointer (some ⟨b1,0,none⟩))) 2 (.int .i64 s.1)) 35 (.bool ((((!y2) || (!y4)) || (!y6)) || (!y8)))) 39 (.bool (decide (24 < (p0.fLooks.length:Int))))) 7 (.int .i64 s16.2)) 44 (.bool (decide (s16.2 < (p0.fLooks.length:Int))))) 8 (.bool y20)) 54 (.bool (!y20))) 9 (.int .i64 s.2))) (fun | (.inl s),e,L,tm => e = .ret ∧ ∃ (tm0:Nat → Value),L = [cellsR b1 24 [.int .i64 p0.fRise,.int .i64 p0.fFall,.int .i64 p0.fUp,.int .i64 p0.fDown,.slice A0_4 p0.fLooks.length c0_4]] ∧ tm = (upd (upd (upd (upd (upd (upd (upd (upd (upd tm0 1 (.pointer (some ⟨b1,0,none⟩))) 2 (.int .i64 s.1)) 35 (.bool ((((!y2) || (!y4)) || (!y6)) || (!y8)))) 39 (.bool (decide (24 < (p0.fLooks.length:Int))))) 7 (.int .i64 s16.2)) 44 (.bool (decide (s16.2 < (p0.fLooks.length:Int))))) 8 (.bool y20)) 54 (.bool (!y20))) 9 (.int .i64 s.2)) | (.inr s),e,L,tm => e = .exit 2 ∧ ∃ (tm0:Nat → Value),L = [cellsR b1 24 [.int .i64 p0.fRise,.int .i64 p0.fFall,.int .i64 p0.fUp,.int .i64 p0.fDown,.slice A0_4 p0.fLooks.length c0_4]] ∧ tm = (upd (upd (upd (upd (upd (upd (upd (upd (upd tm0 1 (.pointer (some ⟨b1,0,none⟩))) 2 (.int .i64 s.1)) 35 (.bool ((((!y2) || (!y4)) || (!y6)) || (!y8)))) 39 (.bool (decide (24 < (p0.fLooks.length:Int))))) 7 (.int .i64 s16.2)) 44 (.bool (decide (s16.2 < (p0.fLooks.length:Int))))) 8 (.bool y20)) 54 (.bool (!y20))) 9 (.int .i64 s.2))) hl30 ⟨_,rfl,(keep (keep (keep (keep (keep (keep (keep (keep (keep rfl rfl) rfl) rfl) rfl) rfl) rfl) rfl) rfl) rfl)⟩ ?_ ?_
         ·rintro s24 L tm st ⟨tm0_s24,rfl,rfl⟩ h
          unfold ref02_Check_l2 at h
          refine cx_seq (cx_seq (cx_region ?_))
          refine ox_y rfl (y_move_int rfl) ?_
          refine ox_y rfl (y_move_int rfl) ?_
          refine ox_y rfl (y_lss rfl rfl) ?_
          refine ox_nil (ex_then ?_)
          rcases ite_some h with ⟨hp26,h⟩ | ⟨hp26,h⟩
          ·refine cx_true (congrArg Value.bool hp26) ?_
           refine cx_skip (ex_then (cx_seq (cx_block (cx_seq ?_))))
           refine cx_draws 13 mixed (by kernel_rfl) (by kernel_rfl) ?_
           refine qx_y rfl (y_fieldAddr fo_24_4 rfl) ?_
           refine qx_y rfl (y_load1 0 (v:=.slice A0_4 p0.fLooks.length c0_4) sc_22 rfl rfl rfl) ?_
           refine qx_y rfl (y_move_int rfl) ?_
           obtain ⟨hg27,h⟩:=guardO_some h
           refine qx_y rfl (y_indexR sl_22 (by decide) hg27.1 hg27.2 (RdL.arg hr0_4) (encL_len TLook_cells_len rfl) rfl rfl) ?_
           refine qx_y rfl (y_fieldAddrR (A:=A0_4) (j:=(Int.toNat s24.2 * 5)) fo_49_0 rfl) ?_
           refine qx_y rfl (y_loadR1 (A:=A0_4) (j:=((Int.toNat s24.2 * 5) + 0)) (v:=.int .i64 ((rdL p0.fLooks s24.2).fID)) sc_3 (RdL.arg hr0_4) rfl (encL_get TLook_cells_len hg27.1 (lt_nat hg27.2 rfl) rfl)) ?_
           refine qx_y rfl (y_fieldAddr fo_24_4 rfl) ?_
           refine qx_y rfl (y_load1 0 (v:=.slice A0_4 p0.fLooks.length c0_4) sc_22 rfl rfl rfl) ?_
           refine qx_y rfl (y_move_int rfl) ?_
           obtain ⟨hg28,h⟩:=guardO_some h
           refine qx_y rfl (y_indexR sl_22 (by decide) hg28.1 hg28.2 (RdL.arg hr0_4) (encL_len TLook_cells_len rfl) rfl rfl) ?_
           refine qx_y rfl (y_fieldAddrR (A:=A0_4) (j:=(Int.toNat s16.2 * 5)) fo_49_0 rfl) ?_
           refine qx_y rfl (y_loadR1 (A:=A0_4) (j:=((Int.toNat s16.2 * 5) + 0)) (v:=.int .i64 ((rdL p0.fLooks s16.2).fID)) sc_3 (RdL.arg hr0_4) rfl (encL_get TLook_cells_len hg28.1 (lt_nat hg28.2 rfl) rfl)) ?_
           refine qx_y rfl (y_eql rfl rfl) ?_
           refine qx_nil ?_
           refine ox_nil (ex_then ?_)
           rcases ite_some h with ⟨hp29,h⟩ | ⟨hp29,h⟩
           ·refine cx_true (congrArg Value.bool hp29) ?_
            refine cx_seq (cx_region ?_)
            refine ox_y rfl (y_assign_int rfl) ?_
            refine ox_nil (ex_then (cx_ret (ex_block_ret (ex_then_ret ?_))))
            obtain rfl:=Option.some.inj h
            exact ex_stop ⟨rfl,_,rfl,(keep (keep (keep (keep (keep (keep (keep (keep (keep rfl rfl) rfl) rfl) rfl) rfl) rfl) rfl) rfl) rfl)⟩
           ·refine cx_false (congrArg Value.bool hp29) ?_
            refine cx_skip ?_
            refine ex_block ?_
            refine ex_then (cx_region ?_)
            refine ox_y rfl (y_move_int rfl) ?_
            refine ox_y rfl (y_add rfl rfl) ?_
            refine ox_y rfl (y_assign_int rfl) ?_
            refine ox_nil ?_
            obtain rfl:=Option.some.inj h
            exact ex_next ⟨_,rfl,(keep (keep (keep (keep (keep (keep (keep (keep (keep rfl rfl) rfl) rfl) rfl) rfl) rfl) rfl) rfl) rfl)⟩
          ·refine cx_false (congrArg Value.bool hp26) ?_
           refine cx_exit ?_
           refine ex_then_exit ?_
           obtain rfl:=Option.some.inj h
           exact ex_stop ⟨rfl,_,rfl,(keep (keep (keep (keep (keep (keep (keep (keep (keep rfl rfl) rfl) rfl) rfl) rfl) rfl) rfl) rfl) rfl)⟩
         ·intro e L tm hJ
          rcases u25 with u31 | u32
          ·dsimp only at h hJ
           obtain ⟨rfl,tm0_u31,rfl,rfl⟩:=hJ
           refine ⟨(by intro hc; cases hc),?_⟩
           refine ex_block_ret (ex_block_ret (ex_then_ret ?_))
           obtain rfl:=Option.some.inj h
           exact ex_stop ⟨rfl,_,rfl,(keep (keep (keep (keep (keep rfl rfl) rfl) rfl) rfl) rfl)⟩
          ·dsimp only at h hJ
           obtain ⟨rfl,tm0_u32,rfl,rfl⟩:=hJ
           refine ⟨(by intro hc; cases hc),?_⟩
           refine ex_block_here ?_
           refine ex_block ?_
           refine ex_then (cx_region ?_)
           refine ox_y rfl (y_move_int rfl) ?_
           refine ox_y rfl (y_add rfl rfl) ?_
           refine ox_y rfl (y_assign_int rfl) ?_
           refine ox_nil ?_
           obtain rfl:=Option.some.inj h
           exact ex_next ⟨_,rfl,(keep (keep (keep (keep (keep rfl rfl) rfl) rfl) rfl) rfl)⟩
       ·refine cx_false (congrArg Value.bool hp18) ?_
        refine cx_exit ?_
        refine ex_then_exit ?_
        obtain rfl:=Option.some.inj h
        exact ex_stop ⟨rfl,_,rfl,(keep (keep (keep (keep (keep rfl rfl) rfl) rfl) rfl) rfl)⟩
      ·intro e L tm hJ
       rcases u17 with u34 | u35
       ·dsimp only at h hJ
        obtain ⟨rfl,tm0_u34,rfl,rfl⟩:=hJ
        refine ⟨(by intro hc; cases hc),?_⟩
        refine ex_block_ret (ex_then_ret ?_)
        obtain rfl:=Option.some.inj h
        exact ex_res1 (.inl rfl) rfl (resV_tmp (v:=.int .i64 u34.1) rfl) (fun W2 hW2 => ⟨rfl,hW2.none⟩)
       ·dsimp only at h hJ
        obtain ⟨rfl,tm0_u35,rfl,rfl⟩:=hJ
        refine ⟨(by intro hc; cases hc),?_⟩
        refine ex_block_here ?_
        refine ex_then (cx_seq (cx_region ?_))
        refine ox_y rfl (y_assign_int rfl) ?_
        refine ox_nil (ex_then (cx_ret ?_))
        obtain rfl:=Option.some.inj h
        exact ex_res1 (.inl rfl) rfl (resV_tmp (v:=.int .i64 0) rfl) (fun W2 hW2 => ⟨rfl,hW2.none⟩)
   ·rcases bool_cases (((!y2) || (!y4)) || (!y6)) with hp12 | hp12
    ·refine ox_skip (sees_f rfl rfl rfl rfl hp12) ?_
     refine ox_skip (sees_f rfl rfl rfl rfl hp12) ?_
     refine ox_y rfl (y_pick_tb (congrArg Value.bool hp12) rfl) ?_
     exact key _ _ (keep (keep (keep rfl rfl) rfl) (congrArg Value.bool (or_t hp12)))
    ·refine ox_y (sees_t rfl rfl rfl rfl hp12) (y_move_bool rfl) ?_
     refine ox_y (sees_t rfl rfl rfl rfl hp12) (y_not rfl) ?_
     refine ox_y rfl (y_pick_fb (congrArg Value.bool hp12) rfl) ?_
     exact key _ _ (keep (keep (keep rfl rfl) rfl) (congrArg Value.bool (or_f hp12)))
  ·rcases bool_cases ((!y2) || (!y4)) with hp11 | hp11
   ·refine ox_skip (sees_f rfl rfl rfl rfl hp11) ?_
    refine ox_skip (sees_f rfl rfl rfl rfl hp11) ?_
    refine ox_y rfl (y_pick_tb (congrArg Value.bool hp11) rfl) ?_
    exact key _ _ (keep (keep (keep (keep rfl rfl) rfl) rfl) (congrArg Value.bool (or_t hp11)))
   ·refine ox_y (sees_t rfl rfl rfl rfl hp11) (y_move_bool rfl) ?_
    refine ox_y (sees_t rfl rfl rfl rfl hp11) (y_not rfl) ?_
    refine ox_y rfl (y_pick_fb (congrArg Value.bool hp11) rfl) ?_
    exact key _ _ (keep (keep (keep (keep rfl rfl) rfl) rfl) (congrArg Value.bool (or_f hp11)))
 ·rcases bool_cases (!y2) with hp10 | hp10
  ·refine ox_skip (sees_f rfl rfl rfl rfl hp10) ?_
   refine ox_skip (sees_f rfl rfl rfl rfl hp10) ?_
   refine ox_y rfl (y_pick_tb (congrArg Value.bool hp10) rfl) ?_
   exact key _ _ (keep (keep (keep (keep (keep rfl rfl) rfl) rfl) rfl) (congrArg Value.bool (or_t hp10)))
  ·refine ox_y (sees_t rfl rfl rfl rfl hp10) (y_move_bool rfl) ?_
   refine ox_y (sees_t rfl rfl rfl rfl hp10) (y_not rfl) ?_
   refine ox_y rfl (y_pick_fb (congrArg Value.bool hp10) rfl) ?_
   exact key _ _ (keep (keep (keep (keep (keep rfl rfl) rfl) rfl) rfl) (congrArg Value.bool (or_f hp10)))

theorem ref02_spots_ok (p0_l:(List TSpot)) (res:Int) (h:ref02_spots p0_l = some res) (W:World) (A0_0:Option Addr) (n0_0 c0_0 : Nat) (hn0_0:n0_0 = p0_l.length) (hr0_0:Rd W A0_0 n0_0 c0_0 (encL TSpot_cells p0_l)) :
  Calls Tryz.prog 72 [.slice A0_0 n0_0 c0_0].toArray W fun e W2 => e = .returned (.int .i64 res) ∧ Ext W W2 []:=by
 subst hn0_0
 unfold ref02_spots at h
 refine calls_enter (m:=21) Tryz.func72 rfl rfl (Nat.le_of_ble_eq_true rfl) ?_
 refine cx_seq (cx_region ?_)
 refine ox_y rfl (y_assign_int rfl) ?_
 refine ox_nil (ex_then (cx_seq (cx_seq (cx_region ?_))))
 refine ox_y rfl (y_move_slice rfl) ?_
 refine ox_y rfl (y_len (us:=[]) us_50 rfl) ?_
 refine ox_y rfl (y_gtr rfl rfl) ?_
 refine ox_nil (ex_then ?_)
 rcases ite_some h with ⟨hp1,h⟩ | ⟨hp1,h⟩
 ·refine cx_true (congrArg Value.bool hp1) ?_
  refine cx_seq (cx_region ?_)
  refine ox_y rfl (y_assign_int rfl) ?_
  refine ox_nil (ex_then (cx_ret (ex_then_ret ?_)))
  obtain rfl:=Option.some.inj h
  exact ex_res1 (.inl rfl) rfl (resV_tmp (v:=.int .i64 2) rfl) (fun W2 hW2 => ⟨rfl,hW2.none⟩)
 ·refine cx_false (congrArg Value.bool hp1) ?_
  refine cx_skip (ex_then (cx_seq (cx_seq (cx_region ?_))))
  refine ox_y rfl (y_assign_int rfl) ?_
  refine ox_nil (ex_then (cx_block ?_))
  obtain ⟨u4,hl10,h⟩:=bind_some h
  refine cx_loop (fun (s:(Int × Int)) L tm => ∃ (tm0:Nat → Value),L = [] ∧ tm = (upd (upd (upd (upd tm0 0 (.slice A0_0 p0_l.length c0_0)) 2 (.int .i64 s.1)) 7 (.bool (decide (24 < (p0_l.length:Int))))) 3 (.int .i64 s.2))) (fun | (.inl s),e,L,tm => e = .ret ∧ ∃ (tm0:Nat → Value),L = [] ∧ tm = (upd (upd (upd (upd tm0 0 (.slice A0_0 p0_l.length c0_0)) 2 (.int .i64 s.1)) 7 (.bool (decide (24 < (p0_l.length:Int))))) 3 (.int .i64 s.2)) | (.inr s),e,L,tm => e = .exit 0 ∧ ∃ (tm0:Nat → Value),L = [] ∧ tm = (upd (upd (upd (upd tm0 0 (.slice A0_0 p0_l.length c0_0)) 2 (.int .i64 s.1)) 7 (.bool (decide (24 < (p0_l.length:Int))))) 3 (.int .i64 s.2))) hl10 ⟨_,rfl,(keep (keep (keep (keep rfl rfl) rfl) rfl) rfl)⟩ ?_ ?_
  ·rintro s3 L tm st ⟨tm0_s3,rfl,rfl⟩ h
   unfold ref02_spots_l1 at h
   refine cx_seq (cx_seq (cx_region ?_))
   refine ox_y rfl (y_move_int rfl) ?_
   refine ox_y rfl (y_move_slice rfl) ?_
   refine ox_y rfl (y_len (us:=[]) us_50 rfl) ?_
   refine ox_y rfl (y_lss rfl rfl) ?_
   refine ox_nil (ex_then ?_)
   rcases ite_some h with ⟨hp5,h⟩ | ⟨hp5,h⟩
   ·refine cx_true (congrArg Value.bool hp5) ?_
    refine cx_skip (ex_then (cx_seq (cx_block (cx_seq (cx_region ?_)))))
    refine ox_y rfl (y_move_slice rfl) ?_
    refine ox_y rfl (y_move_int rfl) ?_
    obtain ⟨hg6,h⟩:=guardO_some h
    refine ox_y rfl (y_indexR sl_50 (by decide) hg6.1 hg6.2 (RdL.arg hr0_0) (encL_len TSpot_cells_len rfl) rfl rfl) ?_
    refine ox_y rfl (y_loadRN (A:=A0_0) (j:=(Int.toNat s3.2 * 2)) [.int .i64 ((rdL p0_l s3.2).fFoot),.int .i64 ((rdL p0_l s3.2).fHour)] ag_26 (Nat.succ_pos _) (RdL.arg hr0_0) rfl (encL_gets TSpot_cells_len hg6.1 (lt_nat hg6.2 rfl))) ?_
    obtain ⟨y7,hy8,h⟩:=bind_some h
    refine ox_y rfl (y_call [.agg #[.int .i64 ((rdL p0_l s3.2).fFoot),.int .i64 ((rdL p0_l s3.2).fHour)]] go_56 rfl (fun W2 hW2 => ref02_Spot_ok (TSpot.mk ((rdL p0_l s3.2).fFoot) ((rdL p0_l s3.2).fHour)) y7 hy8 W2 ) rfl) ?_
    refine ox_y rfl (y_assign_bool rfl) ?_
    refine ox_nil (ex_then (cx_seq (cx_region ?_)))
    refine ox_y rfl (y_move_bool rfl) ?_
    refine ox_y rfl (y_not rfl) ?_
    refine ox_nil (ex_then ?_)
    rcases ite_some h with ⟨hp9,h⟩ | ⟨hp9,h⟩
    ·refine cx_true (congrArg Value.bool hp9) ?_
     refine cx_seq (cx_region ?_)
     refine ox_y rfl (y_assign_int rfl) ?_
     refine ox_nil (ex_then (cx_ret (ex_block_ret (ex_then_ret ?_))))
     obtain rfl:=Option.some.inj h
     exact ex_stop ⟨rfl,_,rfl,(keep (keep (keep (keep rfl rfl) rfl) rfl) rfl)⟩
    ·refine cx_false (congrArg Value.bool hp9) ?_
     refine cx_skip ?_
     refine ex_block ?_
     refine ex_then (cx_region ?_)
     refine ox_y rfl (y_move_int rfl) ?_
     refine ox_y rfl (y_add rfl rfl) ?_
     refine ox_y rfl (y_assign_int rfl) ?_
     refine ox_nil ?_
     obtain rfl:=Option.some.inj h
     exact ex_next ⟨_,rfl,(keep (keep (keep (keep rfl rfl) rfl) rfl) rfl)⟩
   ·refine cx_false (congrArg Value.bool hp5) ?_
    refine cx_exit ?_
    refine ex_then_exit ?_
    obtain rfl:=Option.some.inj h
    exact ex_stop ⟨rfl,_,rfl,(keep (keep (keep (keep rfl rfl) rfl) rfl) rfl)⟩
  ·intro e L tm hJ
   rcases u4 with u11 | u12
   ·dsimp only at h hJ
    obtain ⟨rfl,tm0_u11,rfl,rfl⟩:=hJ
    refine ⟨(by intro hc; cases hc),?_⟩
    refine ex_block_ret (ex_then_ret ?_)
    obtain rfl:=Option.some.inj h
    exact ex_res1 (.inl rfl) rfl (resV_tmp (v:=.int .i64 u11.1) rfl) (fun W2 hW2 => ⟨rfl,hW2.none⟩)
   ·dsimp only at h hJ
    obtain ⟨rfl,tm0_u12,rfl,rfl⟩:=hJ
    refine ⟨(by intro hc; cases hc),?_⟩
    refine ex_block_here ?_
    refine ex_then (cx_seq (cx_region ?_))
    refine ox_y rfl (y_assign_int rfl) ?_
    refine ox_nil (ex_then (cx_ret ?_))
    obtain rfl:=Option.some.inj h
    exact ex_res1 (.inl rfl) rfl (resV_tmp (v:=.int .i64 0) rfl) (fun W2 hW2 => ⟨rfl,hW2.none⟩)

theorem ref02_far_ok (p0_f:TFire) (p1_p:TSpot) (p2_q:TSpot) (res:Int) (h:ref02_far p0_f p1_p p2_q = some res) (W:World) (A0_4:Option Addr) (n0_4 c0_4 : Nat) (hn0_4:n0_4 = p0_f.fLooks.length) (hr0_4:Rd W A0_4 n0_4 c0_4 (encL TLook_cells p0_f.fLooks)) :
  Calls Tryz.prog 64 [.agg #[.int .i64 p0_f.fRise,.int .i64 p0_f.fFall,.int .i64 p0_f.fUp,.int .i64 p0_f.fDown,.slice A0_4 n0_4 c0_4],.agg #[.int .i64 p1_p.fFoot,.int .i64 p1_p.fHour],.agg #[.int .i64 p2_q.fFoot,.int .i64 p2_q.fHour]].toArray W fun e W2 => e = .returned (.int .i64 res) ∧ Ext W W2 []:=by
 subst hn0_4
 unfold ref02_far at h
 refine calls_enter (m:=54) Tryz.func64 rfl rfl (Nat.le_of_ble_eq_true rfl) ?_
 refine cx_seq (cx_region ?_)
 refine ox_box [.int .i64 p0_f.fRise,.int .i64 p0_f.fFall,.int .i64 p0_f.fUp,.int .i64 p0_f.fDown,.slice A0_4 p0_f.fLooks.length c0_4] rfl rfl rfl (fun b1 => ?_)
 refine ox_box [.int .i64 p1_p.fFoot,.int .i64 p1_p.fHour] rfl rfl rfl (fun b2 => ?_)
 refine ox_box [.int .i64 p2_q.fFoot,.int .i64 p2_q.fHour] rfl rfl rfl (fun b3 => ?_)
 refine ox_y rfl (y_assign_int rfl) ?_
 refine ox_nil (ex_then (cx_seq (cx_region ?_)))
 refine ox_y rfl (y_fieldAddr fo_26_0 rfl) ?_
 refine ox_y rfl (y_load1 2 (v:=.int .i64 p2_q.fFoot) sc_3 rfl rfl rfl) ?_
 refine ox_y rfl (y_fieldAddr fo_26_0 rfl) ?_
 refine ox_y rfl (y_load1 1 (v:=.int .i64 p1_p.fFoot) sc_3 rfl rfl rfl) ?_
 refine ox_y rfl (y_sub rfl rfl) ?_
 refine ox_y rfl (y_max rfl rfl) ?_
 refine ox_y rfl (y_assign_int rfl) ?_
 refine ox_nil (ex_then (cx_seq (cx_region ?_)))
 refine ox_y rfl (y_fieldAddr fo_26_0 rfl) ?_
 refine ox_y rfl (y_load1 1 (v:=.int .i64 p1_p.fFoot) sc_3 rfl rfl rfl) ?_
 refine ox_y rfl (y_fieldAddr fo_26_0 rfl) ?_
 refine ox_y rfl (y_load1 2 (v:=.int .i64 p2_q.fFoot) sc_3 rfl rfl rfl) ?_
 refine ox_y rfl (y_sub rfl rfl) ?_
 refine ox_y rfl (y_max rfl rfl) ?_
 refine ox_y rfl (y_assign_int rfl) ?_
 refine ox_nil (ex_then (cx_seq (cx_region ?_)))
 refine ox_y rfl (y_fieldAddr fo_26_1 rfl) ?_
 refine ox_y rfl (y_load1 2 (v:=.int .i64 p2_q.fHour) sc_3 rfl rfl rfl) ?_
 refine ox_y rfl (y_fieldAddr fo_26_1 rfl) ?_
 refine ox_y rfl (y_load1 1 (v:=.int .i64 p1_p.fHour) sc_3 rfl rfl rfl) ?_
 refine ox_y rfl (y_sub rfl rfl) ?_
 refine ox_y rfl (y_max rfl rfl) ?_
 refine ox_y rfl (y_assign_int rfl) ?_
 refine ox_nil (ex_then (cx_seq (cx_region ?_)))
 refine ox_y rfl (y_fieldAddr fo_26_1 rfl) ?_
 refine ox_y rfl (y_load1 1 (v:=.int .i64 p1_p.fHour) sc_3 rfl rfl rfl) ?_
 refine ox_y rfl (y_fieldAddr fo_26_1 rfl) ?_
 refine ox_y rfl (y_load1 2 (v:=.int .i64 p2_q.fHour) sc_3 rfl rfl rfl) ?_
 refine ox_y rfl (y_sub rfl rfl) ?_
 refine ox_y rfl (y_max rfl rfl) ?_
 refine ox_y rfl (y_assign_int rfl) ?_
 refine ox_nil (ex_then (cx_seq (cx_region ?_)))
 refine ox_y rfl (y_move_int rfl) ?_
 refine ox_y rfl (y_fieldAddr fo_24_2 rfl) ?_
 refine ox_y rfl (y_load1 0 (v:=.int .i64 p0_f.fUp) sc_3 rfl rfl rfl) ?_
 refine ox_y rfl (y_mul rfl rfl) ?_
 refine ox_y rfl (y_move_int rfl) ?_
 refine ox_y rfl (y_fieldAddr fo_24_3 rfl) ?_
 refine ox_y rfl (y_load1 0 (v:=.int .i64 p0_f.fDown) sc_3 rfl rfl rfl) ?_
 refine ox_y rfl (y_mul rfl rfl) ?_
 refine ox_y rfl (y_add rfl rfl) ?_
 refine ox_y rfl (y_move_int rfl) ?_
 refine ox_y rfl (y_fieldAddr fo_24_0 rfl) ?_
 refine ox_y rfl (y_load1 0 (v:=.int .i64 p0_f.fRise) sc_3 rfl rfl rfl) ?_
 refine ox_y rfl (y_mul rfl rfl) ?_
 refine ox_y rfl (y_add rfl rfl) ?_
 refine ox_y rfl (y_move_int rfl) ?_
 refine ox_y rfl (y_fieldAddr fo_24_1 rfl) ?_
 refine ox_y rfl (y_load1 0 (v:=.int .i64 p0_f.fFall) sc_3 rfl rfl rfl) ?_
 refine ox_y rfl (y_mul rfl rfl) ?_
 refine ox_y rfl (y_add rfl rfl) ?_
 refine ox_y rfl (y_assign_int rfl) ?_
 refine ox_nil (ex_then (cx_ret ?_))
 obtain rfl:=Option.some.inj h
 exact ex_res1 (.inl rfl) rfl (resV_tmp (v:=.int .i64 (w64 ((w64 ((w64 ((w64 ((max 0 (w64 (p2_q.fFoot - p1_p.fFoot))) * p0_f.fUp)) + (w64 ((max 0 (w64 (p1_p.fFoot - p2_q.fFoot))) * p0_f.fDown)))) + (w64 ((max 0 (w64 (p2_q.fHour - p1_p.fHour))) * p0_f.fRise)))) + (w64 ((max 0 (w64 (p1_p.fHour - p2_q.fHour))) * p0_f.fFall))))) rfl) (fun W2 hW2 => ⟨rfl,hW2.none⟩)

theorem ref02_against_ok (p0_f:TFire) (p1_a:TLook) (p2_b:TLook) (res:Bool) (h:ref02_against p0_f p1_a p2_b = some res) (W:World) (A0_4:Option Addr) (n0_4 c0_4 : Nat) (hn0_4:n0_4 = p0_f.fLooks.length) (hr0_4:Rd W A0_4 n0_4 c0_4 (encL TLook_cells p0_f.fLooks)) :
  Calls Tryz.prog 100 [.agg #[.int .i64 p0_f.fRise,.int .i64 p0_f.fFall,.int .i64 p0_f.fUp,.int .i64 p0_f.fDown,.slice A0_4 n0_4 c0_4],.agg #[.int .i64 p1_a.fID,.int .i64 p1_a.fAt.fFoot,.int .i64 p1_a.fAt.fHour,.int .i64 p1_a.fHeat.fLo,.int .i64 p1_a.fHeat.fHi],.agg #[.int .i64 p2_b.fID,.int .i64 p2_b.fAt.fFoot,.int .i64 p2_b.fAt.fHour,.int .i64 p2_b.fHeat.fLo,.int .i64 p2_b.fHeat.fHi]].toArray W fun e W2 => e = .returned (.bool res) ∧ Ext W W2 []:=by
 subst hn0_4
 unfold ref02_against at h
 refine calls_enter (m:=21) Tryz.func100 rfl rfl (Nat.le_of_ble_eq_true rfl) ?_
 refine cx_seq (cx_region ?_)
 refine ox_box [.int .i64 p0_f.fRise,.int .i64 p0_f.fFall,.int .i64 p0_f.fUp,.int .i64 p0_f.fDown,.slice A0_4 p0_f.fLooks.length c0_4] rfl rfl rfl (fun b1 => ?_)
 refine ox_box [.int .i64 p1_a.fID,.int .i64 p1_a.fAt.fFoot,.int .i64 p1_a.fAt.fHour,.int .i64 p1_a.fHeat.fLo,.int .i64 p1_a.fHeat.fHi] rfl rfl rfl (fun b2 => ?_)
 refine ox_box [.int .i64 p2_b.fID,.int .i64 p2_b.fAt.fFoot,.int .i64 p2_b.fAt.fHour,.int .i64 p2_b.fHeat.fLo,.int .i64 p2_b.fHeat.fHi] rfl rfl rfl (fun b3 => ?_)
 refine ox_y rfl (y_assign_bool rfl) ?_
 refine ox_nil (ex_then (cx_seq ?_))
 refine cx_draws 15 mixed (by kernel_rfl) (by kernel_rfl) ?_
 refine qx_y rfl (y_fieldAddr fo_49_2 rfl) ?_
 refine qx_y rfl (y_fieldAddr fo_28_0 rfl) ?_
 refine qx_y rfl (y_load1 2 (v:=.int .i64 p2_b.fHeat.fLo) sc_3 rfl rfl rfl) ?_
 refine qx_y rfl (y_fieldAddr fo_49_2 rfl) ?_
 refine qx_y rfl (y_fieldAddr fo_28_1 rfl) ?_
 refine qx_y rfl (y_load1 1 (v:=.int .i64 p1_a.fHeat.fHi) sc_3 rfl rfl rfl) ?_
 refine qx_y rfl (y_loadN 0 [.int .i64 p0_f.fRise,.int .i64 p0_f.fFall,.int .i64 p0_f.fUp,.int .i64 p0_f.fDown,.slice A0_4 p0_f.fLooks.length c0_4] ag_24 rfl rfl rfl) ?_
 refine qx_y rfl (y_fieldAddr fo_49_1 rfl) ?_
 refine qx_y rfl (y_loadN 1 [.int .i64 p1_a.fAt.fFoot,.int .i64 p1_a.fAt.fHour] ag_26 rfl rfl rfl) ?_
 refine qx_y rfl (y_fieldAddr fo_49_1 rfl) ?_
 refine qx_y rfl (y_loadN 2 [.int .i64 p2_b.fAt.fFoot,.int .i64 p2_b.fAt.fHour] ag_26 rfl rfl rfl) ?_
 obtain ⟨y4,hy5,h⟩:=bind_some h
 refine qx_y rfl (y_call [.agg #[.int .i64 p0_f.fRise,.int .i64 p0_f.fFall,.int .i64 p0_f.fUp,.int .i64 p0_f.fDown,.slice A0_4 p0_f.fLooks.length c0_4],.agg #[.int .i64 p1_a.fAt.fFoot,.int .i64 p1_a.fAt.fHour],.agg #[.int .i64 p2_b.fAt.fFoot,.int .i64 p2_b.fAt.fHour]] go_64 rfl (fun W2 hW2 => ref02_far_ok p0_f p1_a.fAt p2_b.fAt y4 hy5 W2 A0_4 p0_f.fLooks.length c0_4 rfl ((RdL.arg hr0_4) W2 hW2)) rfl) ?_
 refine qx_y rfl (y_add rfl rfl) ?_
 refine qx_y rfl (y_gtr rfl rfl) ?_
 refine qx_y rfl (y_assign_bool rfl) ?_
 refine qx_nil ?_
 refine ox_nil (ex_then (cx_ret ?_))
 obtain rfl:=Option.some.inj h
 exact ex_res1 (.inl rfl) rfl (resV_tmp (v:=.bool (decide (w64 (p1_a.fHeat.fHi + y4) < p2_b.fHeat.fLo))) rfl) (fun W2 hW2 => ⟨rfl,hW2.none⟩)

theorem ref02_agree_ok (p0_f:TFire) (res:Bool) (h:ref02_agree p0_f = some res) (W:World) (A0_4:Option Addr) (n0_4 c0_4 : Nat) (hn0_4:n0_4 = p0_f.fLooks.length) (hr0_4:Rd W A0_4 n0_4 c0_4 (encL TLook_cells p0_f.fLooks)) :
  Calls Tryz.prog 74 [.agg #[.int .i64 p0_f.fRise,.int .i64 p0_f.fFall,.int .i64 p0_f.fUp,.int .i64 p0_f.fDown,.slice A0_4 n0_4 c0_4]].toArray W fun e W2 => e = .returned (.bool res) ∧ Ext W W2 []:=by
 subst hn0_4
 unfold ref02_agree at h
 refine calls_enter (m:=33) Tryz.func74 rfl rfl (Nat.le_of_ble_eq_true rfl) ?_
 refine cx_seq (cx_region ?_)
 refine ox_box [.int .i64 p0_f.fRise,.int .i64 p0_f.fFall,.int .i64 p0_f.fUp,.int .i64 p0_f.fDown,.slice A0_4 p0_f.fLooks.length c0_4] rfl rfl rfl (fun b1 => ?_)
 refine ox_y rfl (y_assign_bool rfl) ?_
 refine ox_nil (ex_then (cx_seq (cx_seq (cx_region ?_))))
 refine ox_y rfl (y_assign_int rfl) ?_
 refine ox_nil (ex_then (cx_block ?_))
 obtain ⟨u4,hl18,h⟩:=bind_some h
 refine cx_loop (fun (s:(Bool × Int)) L tm => ∃ (tm0:Nat → Value),L = [cellsR b1 24 [.int .i64 p0_f.fRise,.int .i64 p0_f.fFall,.int .i64 p0_f.fUp,.int .i64 p0_f.fDown,.slice A0_4 p0_f.fLooks.length c0_4]] ∧ tm = (upd (upd (upd (upd tm0 0 (.agg #[.int .i64 p0_f.fRise,.int .i64 p0_f.fFall,.int .i64 p0_f.fUp,.int .i64 p0_f.fDown,.slice A0_4 p0_f.fLooks.length c0_4])) 1 (.pointer (some ⟨b1,0,none⟩))) 2 (.bool s.1)) 3 (.int .i64 s.2))) (fun | (.inl s),e,L,tm => e = .ret ∧ ∃ (tm0:Nat → Value),L = [cellsR b1 24 [.int .i64 p0_f.fRise,.int .i64 p0_f.fFall,.int .i64 p0_f.fUp,.int .i64 p0_f.fDown,.slice A0_4 p0_f.fLooks.length c0_4]] ∧ tm = (upd (upd (upd (upd tm0 0 (.agg #[.int .i64 p0_f.fRise,.int .i64 p0_f.fFall,.int .i64 p0_f.fUp,.int .i64 p0_f.fDown,.slice A0_4 p0_f.fLooks.length c0_4])) 1 (.pointer (some ⟨b1,0,none⟩))) 2 (.bool s.1)) 3 (.int .i64 s.2)) | (.inr s),e,L,tm => e = .exit 0 ∧ ∃ (tm0:Nat → Value),L = [cellsR b1 24 [.int .i64 p0_f.fRise,.int .i64 p0_f.fFall,.int .i64 p0_f.fUp,.int .i64 p0_f.fDown,.slice A0_4 p0_f.fLooks.length c0_4]] ∧ tm = (upd (upd (upd (upd tm0 0 (.agg #[.int .i64 p0_f.fRise,.int .i64 p0_f.fFall,.int .i64 p0_f.fUp,.int .i64 p0_f.fDown,.slice A0_4 p0_f.fLooks.length c0_4])) 1 (.pointer (some ⟨b1,0,none⟩))) 2 (.bool s.1)) 3 (.int .i64 s.2))) hl18 ⟨_,rfl,(keep (keep (keep (keep rfl rfl) rfl) rfl) rfl)⟩ ?_ ?_
 ·rintro s3 L tm st ⟨tm0_s3,rfl,rfl⟩ h
  unfold ref02_agree_l1 at h
  refine cx_seq (cx_seq (cx_region ?_))
  refine ox_y rfl (y_move_int rfl) ?_
  refine ox_y rfl (y_fieldAddr fo_24_4 rfl) ?_
  refine ox_y rfl (y_load1 0 (v:=.slice A0_4 p0_f.fLooks.length c0_4) sc_22 rfl rfl rfl) ?_
  refine ox_y rfl (y_len (us:=[]) us_22 rfl) ?_
  refine ox_y rfl (y_lss rfl rfl) ?_
  refine ox_nil (ex_then ?_)
  rcases ite_some h with ⟨hp5,h⟩ | ⟨hp5,h⟩
  ·refine cx_true (congrArg Value.bool hp5) ?_
   refine cx_skip (ex_then (cx_seq (cx_block (cx_seq (cx_region ?_)))))
   refine ox_y rfl (y_assign_int rfl) ?_
   refine ox_nil (ex_then (cx_block ?_))
   obtain ⟨u8,hl15,h⟩:=bind_some h
   refine cx_loop (fun (s:(Bool × Int)) L tm => ∃ (tm0:Nat → Value),L = [cellsR b1 24 [.int .i64 p0_f.fRise,.int .i64 p0_f.fFall,.int .i64 p0_f.fUp,.int .i64 p0_f.fDown,.slice A0_4 p0_f.fLooks.length c0_4]] ∧ tm = (upd (upd (upd (upd (upd (upd tm0 0 (.agg #[.int .i64 p0_f.fRise,.int .i64 p0_f.fFall,.int .i64 p0_f.fUp,.int .i64 p0_f.fDown,.slice A0_4 p0_f.fLooks.length c0_4])) 1 (.pointer (some ⟨b1,0,none⟩))) 2 (.bool s.1)) 3 (.int .i64 s3.2)) 10 (.bool (decide (s3.2 < (p0_f.fLooks.length:Int))))) 4 (.int .i64 s.2))) (fun | (.inl s),e,L,tm => e = .ret ∧ ∃ (tm0:Nat → Value),L = [cellsR b1 24 [.int .i64 p0_f.fRise,.int .i64 p0_f.fFall,.int .i64 p0_f.fUp,.int .i64 p0_f.fDown,.slice A0_4 p0_f.fLooks.length c0_4]] ∧ tm = (upd (upd (upd (upd (upd (upd tm0 0 (.agg #[.int .i64 p0_f.fRise,.int .i64 p0_f.fFall,.int .i64 p0_f.fUp,.int .i64 p0_f.fDown,.slice A0_4 p0_f.fLooks.length c0_4])) 1 (.pointer (some ⟨b1,0,none⟩))) 2 (.bool s.1)) 3 (.int .i64 s3.2)) 10 (.bool (decide (s3.2 < (p0_f.fLooks.length:Int))))) 4 (.int .i64 s.2)) | (.inr s),e,L,tm => e = .exit 2 ∧ ∃ (tm0:Nat → Value),L = [cellsR b1 24 [.int .i64 p0_f.fRise,.int .i64 p0_f.fFall,.int .i64 p0_f.fUp,.int .i64 p0_f.fDown,.slice A0_4 p0_f.fLooks.length c0_4]] ∧ tm = (upd (upd (upd (upd (upd (upd tm0 0 (.agg #[.int .i64 p0_f.fRise,.int .i64 p0_f.fFall,.int .i64 p0_f.fUp,.int .i64 p0_f.fDown,.slice A0_4 p0_f.fLooks.length c0_4])) 1 (.pointer (some ⟨b1,0,none⟩))) 2 (.bool s.1)) 3 (.int .i64 s3.2)) 10 (.bool (decide (s3.2 < (p0_f.fLooks.length:Int))))) 4 (.int .i64 s.2))) hl15 ⟨_,rfl,(keep (keep (keep (keep (keep (keep rfl rfl) rfl) rfl) rfl) rfl) rfl)⟩ ?_ ?_
   ·rintro s7 L tm st ⟨tm0_s7,rfl,rfl⟩ h
    unfold ref02_agree_l2 at h
    refine cx_seq (cx_seq (cx_region ?_))
    refine ox_y rfl (y_move_int rfl) ?_
    refine ox_y rfl (y_fieldAddr fo_24_4 rfl) ?_
    refine ox_y rfl (y_load1 0 (v:=.slice A0_4 p0_f.fLooks.length c0_4) sc_22 rfl rfl rfl) ?_
    refine ox_y rfl (y_len (us:=[]) us_22 rfl) ?_
    refine ox_y rfl (y_lss rfl rfl) ?_
    refine ox_nil (ex_then ?_)
    rcases ite_some h with ⟨hp9,h⟩ | ⟨hp9,h⟩
    ·refine cx_true (congrArg Value.bool hp9) ?_
     refine cx_skip (ex_then (cx_seq (cx_block (cx_seq ?_))))
     refine cx_draws 13 mixed (by kernel_rfl) (by kernel_rfl) ?_
     refine qx_y rfl (y_loadN 0 [.int .i64 p0_f.fRise,.int .i64 p0_f.fFall,.int .i64 p0_f.fUp,.int .i64 p0_f.fDown,.slice A0_4 p0_f.fLooks.length c0_4] ag_24 rfl rfl rfl) ?_
     refine qx_y rfl (y_fieldAddr fo_24_4 rfl) ?_
     refine qx_y rfl (y_load1 0 (v:=.slice A0_4 p0_f.fLooks.length c0_4) sc_22 rfl rfl rfl) ?_
     refine qx_y rfl (y_move_int rfl) ?_
     obtain ⟨hg10,h⟩:=guardO_some h
     refine qx_y rfl (y_indexR sl_22 (by decide) hg10.1 hg10.2 (RdL.arg hr0_4) (encL_len TLook_cells_len rfl) rfl rfl) ?_
     refine qx_y rfl (y_loadRN (A:=A0_4) (j:=(Int.toNat s3.2 * 5)) [.int .i64 ((rdL p0_f.fLooks s3.2).fID),.int .i64 ((rdL p0_f.fLooks s3.2).fAt.fFoot),.int .i64 ((rdL p0_f.fLooks s3.2).fAt.fHour),.int .i64 ((rdL p0_f.fLooks s3.2).fHeat.fLo),.int .i64 ((rdL p0_f.fLooks s3.2).fHeat.fHi)] ag_49 (Nat.succ_pos _) (RdL.arg hr0_4) rfl (encL_gets TLook_cells_len hg10.1 (lt_nat hg10.2 rfl))) ?_
     refine qx_y rfl (y_fieldAddr fo_24_4 rfl) ?_
     refine qx_y rfl (y_load1 0 (v:=.slice A0_4 p0_f.fLooks.length c0_4) sc_22 rfl rfl rfl) ?_
     refine qx_y rfl (y_move_int rfl) ?_
     obtain ⟨hg11,h⟩:=guardO_some h
     refine qx_y rfl (y_indexR sl_22 (by decide) hg11.1 hg11.2 (RdL.arg hr0_4) (encL_len TLook_cells_len rfl) rfl rfl) ?_
     refine qx_y rfl (y_loadRN (A:=A0_4) (j:=(Int.toNat s7.2 * 5)) [.int .i64 ((rdL p0_f.fLooks s7.2).fID),.int .i64 ((rdL p0_f.fLooks s7.2).fAt.fFoot),.int .i64 ((rdL p0_f.fLooks s7.2).fAt.fHour),.int .i64 ((rdL p0_f.fLooks s7.2).fHeat.fLo),.int .i64 ((rdL p0_f.fLooks s7.2).fHeat.fHi)] ag_49 (Nat.succ_pos _) (RdL.arg hr0_4) rfl (encL_gets TLook_cells_len hg11.1 (lt_nat hg11.2 rfl))) ?_
     obtain ⟨y12,hy13,h⟩:=bind_some h
     refine qx_y rfl (y_call [.agg #[.int .i64 p0_f.fRise,.int .i64 p0_f.fFall,.int .i64 p0_f.fUp,.int .i64 p0_f.fDown,.slice A0_4 p0_f.fLooks.length c0_4],.agg #[.int .i64 ((rdL p0_f.fLooks s3.2).fID),.int .i64 ((rdL p0_f.fLooks s3.2).fAt.fFoot),.int .i64 ((rdL p0_f.fLooks s3.2).fAt.fHour),.int .i64 ((rdL p0_f.fLooks s3.2).fHeat.fLo),.int .i64 ((rdL p0_f.fLooks s3.2).fHeat.fHi)],.agg #[.int .i64 ((rdL p0_f.fLooks s7.2).fID),.int .i64 ((rdL p0_f.fLooks s7.2).fAt.fFoot),.int .i64 ((rdL p0_f.fLooks s7.2).fAt.fHour),.int .i64 ((rdL p0_f.fLooks s7.2).fHeat.fLo),.int .i64 ((rdL p0_f.fLooks s7.2).fHeat.fHi)]] go_100 rfl (fun W2 hW2 => ref02_against_ok p0_f (TLook.mk ((rdL p0_f.fLooks s3.2).fID) (TSpot.mk ((rdL p0_f.fLooks s3.2).fAt.fFoot) ((rdL p0_f.fLooks s3.2).fAt.fHour)) (TSpan.mk ((rdL p0_f.fLooks s3.2).fHeat.fLo) ((rdL p0_f.fLooks s3.2).fHeat.fHi))) (TLook.mk ((rdL p0_f.fLooks s7.2).fID) (TSpot.mk ((rdL p0_f.fLooks s7.2).fAt.fFoot) ((rdL p0_f.fLooks s7.2).fAt.fHour)) (TSpan.mk ((rdL p0_f.fLooks s7.2).fHeat.fLo) ((rdL p0_f.fLooks s7.2).fHeat.fHi))) y12 hy13 W2 A0_4 p0_f.fLooks.length c0_4 rfl ((RdL.arg hr0_4) W2 hW2)) rfl) ?_
     refine qx_y rfl (y_assign_bool rfl) ?_
     refine qx_nil ?_
     refine ox_nil (ex_then (cx_seq (cx_region ?_)))
     refine ox_y rfl (y_move_bool rfl) ?_
     refine ox_nil (ex_then ?_)
     rcases ite_some h with ⟨hp14,h⟩ | ⟨hp14,h⟩
     ·refine cx_true (congrArg Value.bool hp14) ?_
      refine cx_seq (cx_region ?_)
      refine ox_y rfl (y_assign_bool rfl) ?_
      refine ox_nil (ex_then (cx_ret (ex_block_ret (ex_then_ret ?_))))
      obtain rfl:=Option.some.inj h
      exact ex_stop ⟨rfl,_,rfl,(keep (keep (keep (keep (keep (keep rfl rfl) rfl) rfl) rfl) rfl) rfl)⟩
     ·refine cx_false (congrArg Value.bool hp14) ?_
      refine cx_skip ?_
      refine ex_block ?_
      refine ex_then (cx_region ?_)
      refine ox_y rfl (y_move_int rfl) ?_
      refine ox_y rfl (y_add rfl rfl) ?_
      refine ox_y rfl (y_assign_int rfl) ?_
      refine ox_nil ?_
      obtain rfl:=Option.some.inj h
      exact ex_next ⟨_,rfl,(keep (keep (keep (keep (keep (keep rfl rfl) rfl) rfl) rfl) rfl) rfl)⟩
    ·refine cx_false (congrArg Value.bool hp9) ?_
     refine cx_exit ?_
     refine ex_then_exit ?_
     obtain rfl:=Option.some.inj h
     exact ex_stop ⟨rfl,_,rfl,(keep (keep (keep (keep (keep (keep rfl rfl) rfl) rfl) rfl) rfl) rfl)⟩
   ·intro e L tm hJ
    rcases u8 with u16 | u17
    ·dsimp only at h hJ
     obtain ⟨rfl,tm0_u16,rfl,rfl⟩:=hJ
     refine ⟨(by intro hc; cases hc),?_⟩
     refine ex_block_ret (ex_block_ret (ex_then_ret ?_))
     obtain rfl:=Option.some.inj h
     exact ex_stop ⟨rfl,_,rfl,(keep (keep (keep (keep rfl rfl) rfl) rfl) rfl)⟩
    ·dsimp only at h hJ
     obtain ⟨rfl,tm0_u17,rfl,rfl⟩:=hJ
     refine ⟨(by intro hc; cases hc),?_⟩
     refine ex_block_here ?_
     refine ex_block ?_
     refine ex_then (cx_region ?_)
     refine ox_y rfl (y_move_int rfl) ?_
     refine ox_y rfl (y_add rfl rfl) ?_
     refine ox_y rfl (y_assign_int rfl) ?_
     refine ox_nil ?_
     obtain rfl:=Option.some.inj h
     exact ex_next ⟨_,rfl,(keep (keep (keep (keep rfl rfl) rfl) rfl) rfl)⟩
  ·refine cx_false (congrArg Value.bool hp5) ?_
   refine cx_exit ?_
   refine ex_then_exit ?_
   obtain rfl:=Option.some.inj h
   exact ex_stop ⟨rfl,_,rfl,(keep (keep (keep (keep rfl rfl) rfl) rfl) rfl)⟩
 ·intro e L tm hJ
  rcases u4 with u19 | u20
  ·dsimp only at h hJ
   obtain ⟨rfl,tm0_u19,rfl,rfl⟩:=hJ
   refine ⟨(by intro hc; cases hc),?_⟩
   refine ex_block_ret (ex_then_ret ?_)
   obtain rfl:=Option.some.inj h
   exact ex_res1 (.inl rfl) rfl (resV_tmp (v:=.bool u19.1) rfl) (fun W2 hW2 => ⟨rfl,hW2.none⟩)
  ·dsimp only at h hJ
   obtain ⟨rfl,tm0_u20,rfl,rfl⟩:=hJ
   refine ⟨(by intro hc; cases hc),?_⟩
   refine ex_block_here ?_
   refine ex_then (cx_seq (cx_region ?_))
   refine ox_y rfl (y_assign_bool rfl) ?_
   refine ox_nil (ex_then (cx_ret ?_))
   obtain rfl:=Option.some.inj h
   exact ex_res1 (.inl rfl) rfl (resV_tmp (v:=.bool true) rfl) (fun W2 hW2 => ⟨rfl,hW2.none⟩)

theorem ref02_asked_ok (p0_f:TFire) (p1_l:(List TSpot)) (res:Int) (h:ref02_asked p0_f p1_l = some res) (W:World) (A0_4:Option Addr) (n0_4 c0_4 : Nat) (hn0_4:n0_4 = p0_f.fLooks.length) (hr0_4:Rd W A0_4 n0_4 c0_4 (encL TLook_cells p0_f.fLooks)) (A1_0:Option Addr) (n1_0 c1_0 : Nat) (hn1_0:n1_0 = p1_l.length) (hr1_0:Rd W A1_0 n1_0 c1_0 (encL TSpot_cells p1_l)) :
  Calls Tryz.prog 40 [.agg #[.int .i64 p0_f.fRise,.int .i64 p0_f.fFall,.int .i64 p0_f.fUp,.int .i64 p0_f.fDown,.slice A0_4 n0_4 c0_4],.slice A1_0 n1_0 c1_0].toArray W fun e W2 => e = .returned (.int .i64 res) ∧ Ext W W2 []:=by
 subst hn0_4
 subst hn1_0
 unfold ref02_asked at h
 refine calls_enter (m:=22) Tryz.func40 rfl rfl (Nat.le_of_ble_eq_true rfl) ?_
 refine cx_seq (cx_region ?_)
 refine ox_box [.int .i64 p0_f.fRise,.int .i64 p0_f.fFall,.int .i64 p0_f.fUp,.int .i64 p0_f.fDown,.slice A0_4 p0_f.fLooks.length c0_4] rfl rfl rfl (fun b1 => ?_)
 refine ox_y rfl (y_assign_int rfl) ?_
 refine ox_nil (ex_then (cx_seq (cx_region ?_)))
 refine ox_y rfl (y_loadN 0 [.int .i64 p0_f.fRise,.int .i64 p0_f.fFall,.int .i64 p0_f.fUp,.int .i64 p0_f.fDown,.slice A0_4 p0_f.fLooks.length c0_4] ag_24 rfl rfl rfl) ?_
 obtain ⟨y2,hy3,h⟩:=bind_some h
 refine ox_y rfl (y_call [.agg #[.int .i64 p0_f.fRise,.int .i64 p0_f.fFall,.int .i64 p0_f.fUp,.int .i64 p0_f.fDown,.slice A0_4 p0_f.fLooks.length c0_4]] go_55 rfl (fun W2 hW2 => ref02_Check_ok p0_f y2 hy3 W2 A0_4 p0_f.fLooks.length c0_4 rfl ((RdL.arg hr0_4) W2 hW2)) rfl) ?_
 refine ox_y rfl (y_assign_int rfl) ?_
 refine ox_nil (ex_then (cx_seq (cx_seq (cx_region ?_))))
 refine ox_y rfl (y_move_int rfl) ?_
 refine ox_y rfl (y_neq rfl rfl) ?_
 refine ox_nil (ex_then ?_)
 rcases ite_some h with ⟨hp4,h⟩ | ⟨hp4,h⟩
 ·refine cx_true (congrArg Value.bool hp4) ?_
  refine cx_seq (cx_region ?_)
  refine ox_y rfl (y_move_int rfl) ?_
  refine ox_y rfl (y_assign_int rfl) ?_
  refine ox_nil (ex_then (cx_ret (ex_then_ret ?_)))
  obtain rfl:=Option.some.inj h
  exact ex_res1 (.inl rfl) rfl (resV_tmp (v:=.int .i64 y2) rfl) (fun W2 hW2 => ⟨rfl,hW2.none⟩)
 ·refine cx_false (congrArg Value.bool hp4) ?_
  refine cx_skip (ex_then (cx_seq (cx_region ?_)))
  refine ox_y rfl (y_move_slice rfl) ?_
  obtain ⟨y5,hy6,h⟩:=bind_some h
  refine ox_y rfl (y_call [.slice A1_0 p1_l.length c1_0] go_72 rfl (fun W2 hW2 => ref02_spots_ok p1_l y5 hy6 W2 A1_0 p1_l.length c1_0 rfl ((RdL.arg hr1_0) W2 hW2)) rfl) ?_
  refine ox_y rfl (y_assign_int rfl) ?_
  refine ox_nil (ex_then (cx_seq (cx_seq (cx_region ?_))))
  refine ox_y rfl (y_move_int rfl) ?_
  refine ox_y rfl (y_neq rfl rfl) ?_
  refine ox_nil (ex_then ?_)
  rcases ite_some h with ⟨hp7,h⟩ | ⟨hp7,h⟩
  ·refine cx_true (congrArg Value.bool hp7) ?_
   refine cx_seq (cx_region ?_)
   refine ox_y rfl (y_move_int rfl) ?_
   refine ox_y rfl (y_assign_int rfl) ?_
   refine ox_nil (ex_then (cx_ret (ex_then_ret ?_)))
   obtain rfl:=Option.some.inj h
   exact ex_res1 (.inl rfl) rfl (resV_tmp (v:=.int .i64 y5) rfl) (fun W2 hW2 => ⟨rfl,hW2.none⟩)
  ·refine cx_false (congrArg Value.bool hp7) ?_
   refine cx_skip (ex_then (cx_seq (cx_region ?_)))
   refine ox_y rfl (y_loadN 0 [.int .i64 p0_f.fRise,.int .i64 p0_f.fFall,.int .i64 p0_f.fUp,.int .i64 p0_f.fDown,.slice A0_4 p0_f.fLooks.length c0_4] ag_24 rfl rfl rfl) ?_
   obtain ⟨y8,hy9,h⟩:=bind_some h
   refine ox_y rfl (y_call [.agg #[.int .i64 p0_f.fRise,.int .i64 p0_f.fFall,.int .i64 p0_f.fUp,.int .i64 p0_f.fDown,.slice A0_4 p0_f.fLooks.length c0_4]] go_74 rfl (fun W2 hW2 => ref02_agree_ok p0_f y8 hy9 W2 A0_4 p0_f.fLooks.length c0_4 rfl ((RdL.arg hr0_4) W2 hW2)) rfl) ?_
   refine ox_y rfl (y_assign_bool rfl) ?_
   refine ox_nil (ex_then (cx_seq (cx_seq (cx_region ?_))))
   refine ox_y rfl (y_move_bool rfl) ?_
   refine ox_y rfl (y_not rfl) ?_
   refine ox_nil (ex_then ?_)
   rcases ite_some h with ⟨hp10,h⟩ | ⟨hp10,h⟩
   ·refine cx_true (congrArg Value.bool hp10) ?_
    refine cx_seq (cx_region ?_)
    refine ox_y rfl (y_assign_int rfl) ?_
    refine ox_nil (ex_then (cx_ret (ex_then_ret ?_)))
    obtain rfl:=Option.some.inj h
    exact ex_res1 (.inl rfl) rfl (resV_tmp (v:=.int .i64 9) rfl) (fun W2 hW2 => ⟨rfl,hW2.none⟩)
   ·refine cx_false (congrArg Value.bool hp10) ?_
    refine cx_skip (ex_then (cx_seq (cx_region ?_)))
    refine ox_y rfl (y_assign_int rfl) ?_
    refine ox_nil (ex_then (cx_ret ?_))
    obtain rfl:=Option.some.inj h
    exact ex_res1 (.inl rfl) rfl (resV_tmp (v:=.int .i64 0) rfl) (fun W2 hW2 => ⟨rfl,hW2.none⟩)

theorem ref02_ends_ok (p0_f:TFire) (p1_at:TSpot) (res:TSpan) (h:ref02_ends p0_f p1_at = some res) (W:World) (A0_4:Option Addr) (n0_4 c0_4 : Nat) (hn0_4:n0_4 = p0_f.fLooks.length) (hr0_4:Rd W A0_4 n0_4 c0_4 (encL TLook_cells p0_f.fLooks)) :
  Calls Tryz.prog 45 [.agg #[.int .i64 p0_f.fRise,.int .i64 p0_f.fFall,.int .i64 p0_f.fUp,.int .i64 p0_f.fDown,.slice A0_4 n0_4 c0_4],.agg #[.int .i64 p1_at.fFoot,.int .i64 p1_at.fHour]].toArray W fun e W2 => e = .returned (.agg #[.int .i64 res.fLo,.int .i64 res.fHi]) ∧ Ext W W2 []:=by
 subst hn0_4
 unfold ref02_ends at h
 refine calls_enter (m:=48) Tryz.func45 rfl rfl (Nat.le_of_ble_eq_true rfl) ?_
 refine cx_seq (cx_region ?_)
 refine ox_box [.int .i64 p0_f.fRise,.int .i64 p0_f.fFall,.int .i64 p0_f.fUp,.int .i64 p0_f.fDown,.slice A0_4 p0_f.fLooks.length c0_4] rfl rfl rfl (fun b1 => ?_)
 refine ox_box [.int .i64 p1_at.fFoot,.int .i64 p1_at.fHour] rfl rfl rfl (fun b2 => ?_)
 refine ox_alloc ze_28 rfl (fun b3 => ?_)
 refine ox_nil (ex_then (cx_seq (cx_region ?_)))
 refine ox_y rfl (y_buildS [.int .i64 0,.int .i64 1500] [(0,1),(1,1)] ust_28 ze_28 (by kernel_rfl)) ?_
 refine ox_alloc ze_28 rfl (fun b4 => ?_)
 refine ox_n rfl (y_storeN 3 [.int .i64 0,.int .i64 1500] sz_28 rfl (Nat.le_of_ble_eq_true rfl) rfl rfl rfl) ?_
 refine ox_nil (ex_then (cx_seq (cx_seq (cx_region ?_))))
 refine ox_y rfl (y_assign_int rfl) ?_
 refine ox_nil (ex_then (cx_block ?_))
 obtain ⟨u8,hl16,h⟩:=bind_some h
 refine cx_loop (fun (s:(Int × Int × Int)) L tm => ∃ (tm0:Nat → Value),L = [cellsR b1 24 [.int .i64 p0_f.fRise,.int .i64 p0_f.fFall,.int .i64 p0_f.fUp,.int .i64 p0_f.fDown,.slice A0_4 p0_f.fLooks.length c0_4],cellsR b2 26 [.int .i64 p1_at.fFoot,.int .i64 p1_at.fHour],cellsR b3 28 [.int .i64 0,.int .i64 0],cellsR b4 28 [.int .i64 s.2.1,.int .i64 s.2.2]] ∧ tm = (upd (upd (upd (upd (upd (upd (upd tm0 0 (.agg #[.int .i64 p0_f.fRise,.int .i64 p0_f.fFall,.int .i64 p0_f.fUp,.int .i64 p0_f.fDown,.slice A0_4 p0_f.fLooks.length c0_4])) 1 (.agg #[.int .i64 p1_at.fFoot,.int .i64 p1_at.fHour])) 2 (.pointer (some ⟨b1,0,none⟩))) 3 (.pointer (some ⟨b2,0,none⟩))) 4 (.pointer (some ⟨b3,0,none⟩))) 5 (.pointer (some ⟨b4,0,none⟩))) 6 (.int .i64 s.1))) (fun s e L tm => e = .exit 0 ∧ ∃ (tm0:Nat → Value),L = [cellsR b1 24 [.int .i64 p0_f.fRise,.int .i64 p0_f.fFall,.int .i64 p0_f.fUp,.int .i64 p0_f.fDown,.slice A0_4 p0_f.fLooks.length c0_4],cellsR b2 26 [.int .i64 p1_at.fFoot,.int .i64 p1_at.fHour],cellsR b3 28 [.int .i64 0,.int .i64 0],cellsR b4 28 [.int .i64 s.2.1,.int .i64 s.2.2]] ∧ tm = (upd (upd (upd (upd (upd (upd (upd tm0 0 (.agg #[.int .i64 p0_f.fRise,.int .i64 p0_f.fFall,.int .i64 p0_f.fUp,.int .i64 p0_f.fDown,.slice A0_4 p0_f.fLooks.length c0_4])) 1 (.agg #[.int .i64 p1_at.fFoot,.int .i64 p1_at.fHour])) 2 (.pointer (some ⟨b1,0,none⟩))) 3 (.pointer (some ⟨b2,0,none⟩))) 4 (.pointer (some ⟨b3,0,none⟩))) 5 (.pointer (some ⟨b4,0,none⟩))) 6 (.int .i64 s.1))) hl16 ⟨_,rfl,(keep (keep (keep (keep (keep (keep (keep rfl rfl) rfl) rfl) rfl) rfl) rfl) rfl)⟩ ?_ ?_
 ·rintro s7 L tm st ⟨tm0_s7,rfl,rfl⟩ h
  unfold ref02_ends_l1 at h
  refine cx_seq (cx_seq (cx_region ?_))
  refine ox_y rfl (y_move_int rfl) ?_
  refine ox_y rfl (y_fieldAddr fo_24_4 rfl) ?_
  refine ox_y rfl (y_load1 0 (v:=.slice A0_4 p0_f.fLooks.length c0_4) sc_22 rfl rfl rfl) ?_
  refine ox_y rfl (y_len (us:=[]) us_22 rfl) ?_
  refine ox_y rfl (y_lss rfl rfl) ?_
  refine ox_nil (ex_then ?_)
  rcases ite_some h with ⟨hp9,h⟩ | ⟨hp9,h⟩
  ·refine cx_true (congrArg Value.bool hp9) ?_
   refine cx_skip (ex_then (cx_seq (cx_block (cx_seq (cx_region ?_)))))
   refine ox_y rfl (y_fieldAddr fo_24_4 rfl) ?_
   refine ox_y rfl (y_load1 0 (v:=.slice A0_4 p0_f.fLooks.length c0_4) sc_22 rfl rfl rfl) ?_
   refine ox_y rfl (y_move_int rfl) ?_
   obtain ⟨hg10,h⟩:=guardO_some h
   refine ox_y rfl (y_indexR sl_22 (by decide) hg10.1 hg10.2 (RdL.arg hr0_4) (encL_len TLook_cells_len rfl) rfl rfl) ?_
   refine ox_y rfl (y_loadRN (A:=A0_4) (j:=(Int.toNat s7.1 * 5)) [.int .i64 ((rdL p0_f.fLooks s7.1).fID),.int .i64 ((rdL p0_f.fLooks s7.1).fAt.fFoot),.int .i64 ((rdL p0_f.fLooks s7.1).fAt.fHour),.int .i64 ((rdL p0_f.fLooks s7.1).fHeat.fLo),.int .i64 ((rdL p0_f.fLooks s7.1).fHeat.fHi)] ag_49 (Nat.succ_pos _) (RdL.arg hr0_4) rfl (encL_gets TLook_cells_len hg10.1 (lt_nat hg10.2 rfl))) ?_
   refine ox_alloc ze_49 rfl (fun b11 => ?_)
   refine ox_n rfl (y_storeN 4 [.int .i64 ((rdL p0_f.fLooks s7.1).fID),.int .i64 ((rdL p0_f.fLooks s7.1).fAt.fFoot),.int .i64 ((rdL p0_f.fLooks s7.1).fAt.fHour),.int .i64 ((rdL p0_f.fLooks s7.1).fHeat.fLo),.int .i64 ((rdL p0_f.fLooks s7.1).fHeat.fHi)] sz_49 rfl (Nat.le_of_ble_eq_true rfl) rfl rfl rfl) ?_
   refine ox_nil (ex_then (cx_seq ?_))
   refine cx_draws 13 mixed (by kernel_rfl) (by kernel_rfl) ?_
   refine qx_y rfl (y_fieldAddr fo_28_0 rfl) ?_
   refine qx_y rfl (y_load1 3 (v:=.int .i64 s7.2.1) sc_3 rfl rfl rfl) ?_
   refine qx_y rfl (y_fieldAddr fo_49_2 rfl) ?_
   refine qx_y rfl (y_fieldAddr fo_28_0 rfl) ?_
   refine qx_y rfl (y_load1 4 (v:=.int .i64 ((rdL p0_f.fLooks s7.1).fHeat.fLo)) sc_3 rfl rfl rfl) ?_
   refine qx_y rfl (y_loadN 0 [.int .i64 p0_f.fRise,.int .i64 p0_f.fFall,.int .i64 p0_f.fUp,.int .i64 p0_f.fDown,.slice A0_4 p0_f.fLooks.length c0_4] ag_24 rfl rfl rfl) ?_
   refine qx_y rfl (y_loadN 1 [.int .i64 p1_at.fFoot,.int .i64 p1_at.fHour] ag_26 rfl rfl rfl) ?_
   refine qx_y rfl (y_fieldAddr fo_49_1 rfl) ?_
   refine qx_y rfl (y_loadN 4 [.int .i64 ((rdL p0_f.fLooks s7.1).fAt.fFoot),.int .i64 ((rdL p0_f.fLooks s7.1).fAt.fHour)] ag_26 rfl rfl rfl) ?_
   obtain ⟨y12,hy13,h⟩:=bind_some h
   refine qx_y rfl (y_call [.agg #[.int .i64 p0_f.fRise,.int .i64 p0_f.fFall,.int .i64 p0_f.fUp,.int .i64 p0_f.fDown,.slice A0_4 p0_f.fLooks.length c0_4],.agg #[.int .i64 p1_at.fFoot,.int .i64 p1_at.fHour],.agg #[.int .i64 ((rdL p0_f.fLooks s7.1).fAt.fFoot),.int .i64 ((rdL p0_f.fLooks s7.1).fAt.fHour)]] go_64 rfl (fun W2 hW2 => ref02_far_ok p0_f p1_at (TSpot.mk ((rdL p0_f.fLooks s7.1).fAt.fFoot) ((rdL p0_f.fLooks s7.1).fAt.fHour)) y12 hy13 W2 A0_4 p0_f.fLooks.length c0_4 rfl ((RdL.arg hr0_4) W2 hW2)) rfl) ?_
   refine qx_y rfl (y_sub rfl rfl) ?_
   refine qx_y rfl (y_max rfl rfl) ?_
   refine qx_y rfl (y_fieldAddr fo_28_0 rfl) ?_
   refine qx_nil ?_
   refine ox_n rfl (y_store1 3 (v:=.int .i64 (max s7.2.1 (w64 (((rdL p0_f.fLooks s7.1).fHeat.fLo) - y12)))) sz_3 rfl (Nat.lt_of_lt_of_le (Nat.lt_succ_self _) (Nat.le_of_ble_eq_true rfl)) rfl rfl rfl) ?_
   refine ox_nil (ex_then ?_)
   refine cx_draws 13 mixed (by kernel_rfl) (by kernel_rfl) ?_
   refine qx_y rfl (y_fieldAddr fo_28_1 rfl) ?_
   refine qx_y rfl (y_load1 3 (v:=.int .i64 s7.2.2) sc_3 rfl rfl rfl) ?_
   refine qx_y rfl (y_fieldAddr fo_49_2 rfl) ?_
   refine qx_y rfl (y_fieldAddr fo_28_1 rfl) ?_
   refine qx_y rfl (y_load1 4 (v:=.int .i64 ((rdL p0_f.fLooks s7.1).fHeat.fHi)) sc_3 rfl rfl rfl) ?_
   refine qx_y rfl (y_loadN 0 [.int .i64 p0_f.fRise,.int .i64 p0_f.fFall,.int .i64 p0_f.fUp,.int .i64 p0_f.fDown,.slice A0_4 p0_f.fLooks.length c0_4] ag_24 rfl rfl rfl) ?_
   refine qx_y rfl (y_fieldAddr fo_49_1 rfl) ?_
   refine qx_y rfl (y_loadN 4 [.int .i64 ((rdL p0_f.fLooks s7.1).fAt.fFoot),.int .i64 ((rdL p0_f.fLooks s7.1).fAt.fHour)] ag_26 rfl rfl rfl) ?_
   refine qx_y rfl (y_loadN 1 [.int .i64 p1_at.fFoot,.int .i64 p1_at.fHour] ag_26 rfl rfl rfl) ?_
   obtain ⟨y14,hy15,h⟩:=bind_some h
   refine qx_y rfl (y_call [.agg #[.int .i64 p0_f.fRise,.int .i64 p0_f.fFall,.int .i64 p0_f.fUp,.int .i64 p0_f.fDown,.slice A0_4 p0_f.fLooks.length c0_4],.agg #[.int .i64 ((rdL p0_f.fLooks s7.1).fAt.fFoot),.int .i64 ((rdL p0_f.fLooks s7.1).fAt.fHour)],.agg #[.int .i64 p1_at.fFoot,.int .i64 p1_at.fHour]] go_64 rfl (fun W2 hW2 => ref02_far_ok p0_f (TSpot.mk ((rdL p0_f.fLooks s7.1).fAt.fFoot) ((rdL p0_f.fLooks s7.1).fAt.fHour)) p1_at y14 hy15 W2 A0_4 p0_f.fLooks.length c0_4 rfl ((RdL.arg hr0_4) W2 hW2)) rfl) ?_
   refine qx_y rfl (y_add rfl rfl) ?_
   refine qx_y rfl (y_min rfl rfl) ?_
   refine qx_y rfl (y_fieldAddr fo_28_1 rfl) ?_
   refine qx_nil ?_
   refine ox_n rfl (y_store1 3 (v:=.int .i64 (min s7.2.2 (w64 (((rdL p0_f.fLooks s7.1).fHeat.fHi) + y14)))) sz_3 rfl (Nat.lt_of_lt_of_le (Nat.lt_succ_self _) (Nat.le_of_ble_eq_true rfl)) rfl rfl rfl) ?_
   refine ox_nil ?_
   refine ex_block ?_
   refine ex_then (cx_region ?_)
   refine ox_y rfl (y_move_int rfl) ?_
   refine ox_y rfl (y_add rfl rfl) ?_
   refine ox_y rfl (y_assign_int rfl) ?_
   refine ox_nil ?_
   refine ex_take 4 ?_
   obtain rfl:=Option.some.inj h
   exact ex_next ⟨_,rfl,(keep (keep (keep (keep (keep (keep (keep rfl rfl) rfl) rfl) rfl) rfl) rfl) rfl)⟩
  ·refine cx_false (congrArg Value.bool hp9) ?_
   refine cx_exit ?_
   refine ex_then_exit ?_
   obtain rfl:=Option.some.inj h
   exact ex_stop ⟨rfl,_,rfl,(keep (keep (keep (keep (keep (keep (keep rfl rfl) rfl) rfl) rfl) rfl) rfl) rfl)⟩
 ·intro e L tm hJ
  obtain ⟨rfl,tm0_u8,rfl,rfl⟩:=hJ
  refine ⟨(by intro hc; cases hc),?_⟩
  refine ex_block_here ?_
  refine ex_then (cx_seq (cx_region ?_))
  refine ox_y rfl (y_loadN 3 [.int .i64 u8.2.1,.int .i64 u8.2.2] ag_28 rfl rfl rfl) ?_
  refine ox_n rfl (y_storeN 2 [.int .i64 u8.2.1,.int .i64 u8.2.2] sz_28 rfl (Nat.le_of_ble_eq_true rfl) rfl rfl rfl) ?_
  refine ox_nil (ex_then (cx_ret ?_))
  obtain rfl:=Option.some.inj h
  exact ex_res1 (.inl rfl) rfl (resV_cellN 2 [.int .i64 u8.2.1,.int .i64 u8.2.2] ag_28 rfl rfl rfl) (fun W2 hW2 => ⟨rfl,hW2.none⟩)

end Go.Proofs.YtndajeiecdmhnaaGreat
