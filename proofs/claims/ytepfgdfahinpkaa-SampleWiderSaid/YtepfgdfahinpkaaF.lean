/- Closed facts on the program: its table of types, its functions. -/
import Derived.Test.YtepfgdfahinpkaaGs
import Derived.Test.YtepfgdfahinpkaaP
import Derived.Test.YtepfgdfahinpkaaProg
set_option linter.unusedVariables false
namespace Go.Proofs.Ytepfgdfahinpkaa
def TRatio_cells (x : TRatio) : List Value := [.int .i64 x.fNum, .int .i64 x.fDen]
theorem TRatio_cells_len (x : TRatio) : (TRatio_cells x).length = 2 := rfl
theorem TRatio_cells_one (x : TRatio) : ((TRatio_cells x).all (·.oneCell')) = true := rfl
def TBatch_cells (x : TBatch) : List Value := [.int .i64 x.fBarrows, .int .i64 x.fSeen.x0, .int .i64 x.fSeen.x1, .int .i64 x.fSeen.x2, .int .i64 x.fKnown.x0.fLo, .int .i64 x.fKnown.x0.fHi, .int .i64 x.fKnown.x1.fLo, .int .i64 x.fKnown.x1.fHi, .int .i64 x.fKnown.x2.fLo, .int .i64 x.fKnown.x2.fHi]
theorem TBatch_cells_len (x : TBatch) : (TBatch_cells x).length = 10 := rfl
theorem TBatch_cells_one (x : TBatch) : ((TBatch_cells x).all (·.oneCell')) = true := rfl
def TSpan_cells (x : TSpan) : List Value := [.int .i64 x.fLo, .int .i64 x.fHi]
theorem TSpan_cells_len (x : TSpan) : (TSpan_cells x).length = 2 := rfl
theorem TSpan_cells_one (x : TSpan) : ((TSpan_cells x).all (·.oneCell')) = true := rfl
def TKinds_cells (x : TKinds) : List Value := [.int .i64 x.x0, .int .i64 x.x1, .int .i64 x.x2]
theorem TKinds_cells_len (x : TKinds) : (TKinds_cells x).length = 3 := rfl
theorem TKinds_cells_one (x : TKinds) : ((TKinds_cells x).all (·.oneCell')) = true := rfl
def TStep_cells (x : TStep) : List Value := [.bool x.fBack, .int .i64 x.fSeen.x0, .int .i64 x.fSeen.x1, .int .i64 x.fSeen.x2]
theorem TStep_cells_len (x : TStep) : (TStep_cells x).length = 4 := rfl
theorem TStep_cells_one (x : TStep) : ((TStep_cells x).all (·.oneCell')) = true := rfl

theorem mixed : Try.prog.follows .mixedOrders = true := by kernel_rfl
theorem ust_23 : strB Try.prog 23 [(0, 1), (1, 1)] = true := by kernel_rfl
theorem ze_23 : zeroOf Try.prog 23 = some (.agg #[.int .i64 0, .int .i64 0]) := by kernel_rfl
theorem ag_23 : aggB Try.prog 23 2 = true := by kernel_rfl
theorem sz_23 : szB Try.prog 23 2 = true := by kernel_rfl
theorem fo_23_1 : fieldOff Try.prog 23 1 = some 1 := by kernel_rfl
theorem sc_3 : scB Try.prog 3 = true := by kernel_rfl
theorem go_74 : goes Try.prog 74 = true := by kernel_rfl
theorem fo_23_0 : fieldOff Try.prog 23 0 = some 0 := by kernel_rfl
theorem go_95 : goes Try.prog 95 = true := by kernel_rfl
theorem ui_3 : Try.prog.underlying 3 = some (.int .i64) := by kernel_rfl
theorem fl_23 : flds Try.prog 23 = some [(3, 0, true), (3, 1, true)] := by kernel_rfl
theorem eg_23 : Try.prog.eqGuardType Try.prog.depth 23 = false := by kernel_rfl
theorem go_76 : goes Try.prog 76 = true := by kernel_rfl
theorem go_75 : goes Try.prog 75 = true := by kernel_rfl
theorem ust_26 : strB Try.prog 26 [(0, 1), (1, 1)] = true := by kernel_rfl
theorem ze_26 : zeroOf Try.prog 26 = some (.agg #[.int .i64 0, .int .i64 0]) := by kernel_rfl
theorem ag_26 : aggB Try.prog 26 2 = true := by kernel_rfl
theorem sz_26 : szB Try.prog 26 2 = true := by kernel_rfl
theorem go_77 : goes Try.prog 77 = true := by kernel_rfl
theorem go_120 : goes Try.prog 120 = true := by kernel_rfl
theorem go_78 : goes Try.prog 78 = true := by kernel_rfl
theorem us_66 : Try.prog.underlying 66 = some (.slice 3) := by kernel_rfl
theorem sl_66 : slOf Try.prog 66 = some (3, 1) := by kernel_rfl
theorem ua_43 : Try.prog.underlying 43 = some (.array 3 3) := by kernel_rfl
theorem sz_3 : szB Try.prog 3 1 = true := by kernel_rfl
theorem go_122 : goes Try.prog 122 = true := by kernel_rfl
theorem go_106 : goes Try.prog 106 = true := by kernel_rfl
theorem fo_52_1 : fieldOff Try.prog 52 1 = some 1 := by kernel_rfl
theorem ar_43 : arrOf Try.prog 43 = some (3, 1) := by kernel_rfl
theorem fo_52_2 : fieldOff Try.prog 52 2 = some 4 := by kernel_rfl
theorem ar_50 : arrOf Try.prog 50 = some (3, 2) := by kernel_rfl
theorem fo_33_0 : fieldOff Try.prog 33 0 = some 0 := by kernel_rfl
theorem go_124 : goes Try.prog 124 = true := by kernel_rfl
theorem sc_136 : scB Try.prog 136 = true := by kernel_rfl
theorem fo_33_1 : fieldOff Try.prog 33 1 = some 1 := by kernel_rfl
theorem fo_52_0 : fieldOff Try.prog 52 0 = some 0 := by kernel_rfl
theorem ze_43 : zeroOf Try.prog 43 = some (.agg #[.int .i64 0, .int .i64 0, .int .i64 0]) := by kernel_rfl
theorem sz_136 : szB Try.prog 136 1 = true := by kernel_rfl
theorem ze_136 : zeroOf Try.prog 136 = some (.nilFunc) := by kernel_rfl
theorem ag_43 : aggB Try.prog 43 3 = true := by kernel_rfl
theorem go_103 : goes Try.prog 103 = true := by kernel_rfl
theorem go_94 : goes Try.prog 94 = true := by kernel_rfl
theorem sc_27 : scB Try.prog 27 = true := by kernel_rfl
theorem sz_27 : szB Try.prog 27 1 = true := by kernel_rfl
theorem ag_50 : aggB Try.prog 50 6 = true := by kernel_rfl
theorem ua_50 : Try.prog.underlying 50 = some (.array 3 33) := by kernel_rfl
theorem ag_33 : aggB Try.prog 33 2 = true := by kernel_rfl
theorem sz_33 : szB Try.prog 33 2 = true := by kernel_rfl
theorem ze_33 : zeroOf Try.prog 33 = some (.agg #[.int .i64 0, .int .i64 0]) := by kernel_rfl
theorem ag_52 : aggB Try.prog 52 10 = true := by kernel_rfl
theorem go_125 : goes Try.prog 125 = true := by kernel_rfl
theorem go_99 : goes Try.prog 99 = true := by kernel_rfl
theorem ze_27 : zeroOf Try.prog 27 = some (.int .i64 0) := by kernel_rfl
theorem ust_33 : strB Try.prog 33 [(0, 1), (1, 1)] = true := by kernel_rfl
theorem sz_43 : szB Try.prog 43 3 = true := by kernel_rfl
theorem us_34 : Try.prog.underlying 34 = some (.slice 33) := by kernel_rfl
theorem sl_34 : slOf Try.prog 34 = some (33, 2) := by kernel_rfl
theorem us_31 : Try.prog.underlying 31 = some (.slice 52) := by kernel_rfl
theorem sl_31 : slOf Try.prog 31 = some (52, 10) := by kernel_rfl
theorem go_39 : goes Try.prog 39 = true := by kernel_rfl
theorem sz_52 : szB Try.prog 52 10 = true := by kernel_rfl
theorem ze_52 : zeroOf Try.prog 52 = some (.agg #[.int .i64 0, .int .i64 0, .int .i64 0, .int .i64 0, .int .i64 0, .int .i64 0, .int .i64 0, .int .i64 0, .int .i64 0, .int .i64 0]) := by kernel_rfl
theorem go_83 : goes Try.prog 83 = true := by kernel_rfl
theorem go_84 : goes Try.prog 84 = true := by kernel_rfl
theorem by_33 : bytesB Try.prog 33 (.agg #[.int .i64 0, .int .i64 0]) 2 16 = true := by kernel_rfl
theorem mc_33_1 : madeCells (.agg #[.int .i64 0, .int .i64 0] : Value).cells (1 * 2) = #[.int .i64 0, .int .i64 0] := by kernel_rfl
theorem go_86 : goes Try.prog 86 = true := by kernel_rfl
theorem go_85 : goes Try.prog 85 = true := by kernel_rfl
theorem go_87 : goes Try.prog 87 = true := by kernel_rfl
theorem fl_33 : flds Try.prog 33 = some [(3, 0, true), (3, 1, true)] := by kernel_rfl
theorem eg_33 : Try.prog.eqGuardType Try.prog.depth 33 = false := by kernel_rfl
theorem go_89 : goes Try.prog 89 = true := by kernel_rfl
theorem go_90 : goes Try.prog 90 = true := by kernel_rfl
theorem sc_53 : scB Try.prog 53 = true := by kernel_rfl
theorem sz_53 : szB Try.prog 53 1 = true := by kernel_rfl
theorem us_53 : Try.prog.underlying 53 = some (.slice 43) := by kernel_rfl
theorem by_43 : bytesB Try.prog 43 (.agg #[.int .i64 0, .int .i64 0, .int .i64 0]) 3 24 = true := by kernel_rfl
theorem mc_43_1 : madeCells (.agg #[.int .i64 0, .int .i64 0, .int .i64 0] : Value).cells (1 * 3) = #[.int .i64 0, .int .i64 0, .int .i64 0] := by kernel_rfl
theorem go_123 : goes Try.prog 123 = true := by kernel_rfl
theorem go_98 : goes Try.prog 98 = true := by kernel_rfl
theorem sl_53 : slOf Try.prog 53 = some (43, 3) := by kernel_rfl
theorem eg_43 : Try.prog.eqGuardType Try.prog.depth 43 = false := by kernel_rfl
theorem sc_152 : scB Try.prog 152 = true := by kernel_rfl
theorem um_152 : Try.prog.underlying 152 = some (.map 3 3) := by kernel_rfl
theorem ze_3 : zeroOf Try.prog 3 = some (.int .i64 0) := by kernel_rfl
theorem by_3 : bytesB Try.prog 3 (.int .i64 0) 1 8 = true := by kernel_rfl
theorem sz_152 : szB Try.prog 152 1 = true := by kernel_rfl
theorem ze_152 : zeroOf Try.prog 152 = some (.map none) := by kernel_rfl
theorem go_101 : goes Try.prog 101 = true := by kernel_rfl
theorem go_105 : goes Try.prog 105 = true := by kernel_rfl
theorem go_107 : goes Try.prog 107 = true := by kernel_rfl
theorem go_104 : goes Try.prog 104 = true := by kernel_rfl
theorem go_113 : goes Try.prog 113 = true := by kernel_rfl
theorem go_108 : goes Try.prog 108 = true := by kernel_rfl
theorem go_109 : goes Try.prog 109 = true := by kernel_rfl
theorem go_116 : goes Try.prog 116 = true := by kernel_rfl
theorem ze_50 : zeroOf Try.prog 50 = some (.agg #[.int .i64 0, .int .i64 0, .int .i64 0, .int .i64 0, .int .i64 0, .int .i64 0]) := by kernel_rfl
theorem ust_52 : strB Try.prog 52 [(0, 1), (1, 3), (4, 6)] = true := by kernel_rfl
theorem go_72 : goes Try.prog 72 = true := by kernel_rfl
theorem go_28 : goes Try.prog 28 = true := by kernel_rfl
theorem go_32 : goes Try.prog 32 = true := by kernel_rfl
theorem go_41 : goes Try.prog 41 = true := by kernel_rfl
theorem go_43 : goes Try.prog 43 = true := by kernel_rfl
theorem go_44 : goes Try.prog 44 = true := by kernel_rfl
theorem go_38 : goes Try.prog 38 = true := by kernel_rfl
theorem go_53 : goes Try.prog 53 = true := by kernel_rfl
theorem mc_3_4 : madeCells (.int .i64 0 : Value).cells (4 * 1) = #[.int .i64 0, .int .i64 0, .int .i64 0, .int .i64 0] := by kernel_rfl
theorem go_56 : goes Try.prog 56 = true := by kernel_rfl
theorem go_73 : goes Try.prog 73 = true := by kernel_rfl
theorem go_58 : goes Try.prog 58 = true := by kernel_rfl
theorem go_23 : goes Try.prog 23 = true := by kernel_rfl
theorem go_27 : goes Try.prog 27 = true := by kernel_rfl
theorem fl_26 : flds Try.prog 26 = some [(3, 0, true), (3, 1, true)] := by kernel_rfl
theorem eg_26 : Try.prog.eqGuardType Try.prog.depth 26 = false := by kernel_rfl
theorem mc_33_2 : madeCells (.agg #[.int .i64 0, .int .i64 0] : Value).cells (2 * 2) = #[.int .i64 0, .int .i64 0, .int .i64 0, .int .i64 0] := by kernel_rfl
theorem go_25 : goes Try.prog 25 = true := by kernel_rfl
theorem mc_52_2 : madeCells (.agg #[.int .i64 0, .int .i64 0, .int .i64 0, .int .i64 0, .int .i64 0, .int .i64 0, .int .i64 0, .int .i64 0, .int .i64 0, .int .i64 0] : Value).cells (2 * 10) = #[.int .i64 0, .int .i64 0, .int .i64 0, .int .i64 0, .int .i64 0, .int .i64 0, .int .i64 0, .int .i64 0, .int .i64 0, .int .i64 0, .int .i64 0, .int .i64 0, .int .i64 0, .int .i64 0, .int .i64 0, .int .i64 0, .int .i64 0, .int .i64 0, .int .i64 0, .int .i64 0] := by kernel_rfl
theorem by_52 : bytesB Try.prog 52 (.agg #[.int .i64 0, .int .i64 0, .int .i64 0, .int .i64 0, .int .i64 0, .int .i64 0, .int .i64 0, .int .i64 0, .int .i64 0, .int .i64 0]) 10 80 = true := by kernel_rfl
theorem mc_43_3 : madeCells (.agg #[.int .i64 0, .int .i64 0, .int .i64 0] : Value).cells (3 * 3) = #[.int .i64 0, .int .i64 0, .int .i64 0, .int .i64 0, .int .i64 0, .int .i64 0, .int .i64 0, .int .i64 0, .int .i64 0] := by kernel_rfl
theorem go_42 : goes Try.prog 42 = true := by kernel_rfl
theorem go_34 : goes Try.prog 34 = true := by kernel_rfl
theorem go_79 : goes Try.prog 79 = true := by kernel_rfl
theorem go_97 : goes Try.prog 97 = true := by kernel_rfl
theorem mc_66_1 : madeCells (.slice none 0 0 : Value).cells (1 * 1) = #[.slice none 0 0] := by kernel_rfl
theorem mc_3_1 : madeCells (.int .i64 0 : Value).cells (1 * 1) = #[.int .i64 0] := by kernel_rfl
theorem us_149 : Try.prog.underlying 149 = some (.slice 66) := by kernel_rfl
theorem ze_66 : zeroOf Try.prog 66 = some (.slice none 0 0) := by kernel_rfl
theorem sc_66 : scB Try.prog 66 = true := by kernel_rfl
theorem sl_149 : slOf Try.prog 149 = some (66, 1) := by kernel_rfl
theorem by_66 : bytesB Try.prog 66 (.slice none 0 0) 1 24 = true := by kernel_rfl
theorem go_121 : goes Try.prog 121 = true := by kernel_rfl
theorem go_81 : goes Try.prog 81 = true := by kernel_rfl
theorem go_80 : goes Try.prog 80 = true := by kernel_rfl
theorem go_82 : goes Try.prog 82 = true := by kernel_rfl
theorem go_22 : goes Try.prog 22 = true := by kernel_rfl
theorem go_24 : goes Try.prog 24 = true := by kernel_rfl
theorem go_92 : goes Try.prog 92 = true := by kernel_rfl
theorem go_96 : goes Try.prog 96 = true := by kernel_rfl
theorem go_100 : goes Try.prog 100 = true := by kernel_rfl
theorem ust_38 : strB Try.prog 38 [(0, 1), (1, 1)] = true := by kernel_rfl
theorem ze_38 : zeroOf Try.prog 38 = some (.agg #[.slice none 0 0, .int .i64 0]) := by kernel_rfl
theorem ag_38 : aggB Try.prog 38 2 = true := by kernel_rfl
theorem sz_38 : szB Try.prog 38 2 = true := by kernel_rfl
theorem go_40 : goes Try.prog 40 = true := by kernel_rfl
theorem go_88 : goes Try.prog 88 = true := by kernel_rfl
theorem fo_38_0 : fieldOff Try.prog 38 0 = some 0 := by kernel_rfl
theorem sc_34 : scB Try.prog 34 = true := by kernel_rfl
theorem fo_38_1 : fieldOff Try.prog 38 1 = some 1 := by kernel_rfl
theorem go_26 : goes Try.prog 26 = true := by kernel_rfl
theorem go_91 : goes Try.prog 91 = true := by kernel_rfl
theorem go_93 : goes Try.prog 93 = true := by kernel_rfl
theorem go_29 : goes Try.prog 29 = true := by kernel_rfl
theorem go_30 : goes Try.prog 30 = true := by kernel_rfl
theorem go_31 : goes Try.prog 31 = true := by kernel_rfl
theorem go_33 : goes Try.prog 33 = true := by kernel_rfl
theorem ust_57 : strB Try.prog 57 [(0, 1), (1, 1)] = true := by kernel_rfl
theorem ze_57 : zeroOf Try.prog 57 = some (.agg #[.slice none 0 0, .int .i64 0]) := by kernel_rfl
theorem ag_57 : aggB Try.prog 57 2 = true := by kernel_rfl
theorem sz_57 : szB Try.prog 57 2 = true := by kernel_rfl
theorem go_102 : goes Try.prog 102 = true := by kernel_rfl
theorem go_36 : goes Try.prog 36 = true := by kernel_rfl
theorem go_37 : goes Try.prog 37 = true := by kernel_rfl
theorem fo_57_0 : fieldOff Try.prog 57 0 = some 0 := by kernel_rfl
theorem fo_57_1 : fieldOff Try.prog 57 1 = some 1 := by kernel_rfl
theorem go_35 : goes Try.prog 35 = true := by kernel_rfl
theorem ub_4 : Try.prog.underlying 4 = some .bool := by kernel_rfl
theorem ui_5 : Try.prog.underlying 5 = some (.int .u8) := by kernel_rfl
theorem go_112 : goes Try.prog 112 = true := by kernel_rfl
theorem go_111 : goes Try.prog 111 = true := by kernel_rfl
theorem go_110 : goes Try.prog 110 = true := by kernel_rfl
theorem go_45 : goes Try.prog 45 = true := by kernel_rfl
theorem go_46 : goes Try.prog 46 = true := by kernel_rfl
theorem go_47 : goes Try.prog 47 = true := by kernel_rfl
theorem ust_76 : strB Try.prog 76 [(0, 1), (1, 1)] = true := by kernel_rfl
theorem ze_76 : zeroOf Try.prog 76 = some (.agg #[.slice none 0 0, .int .i64 0]) := by kernel_rfl
theorem ag_76 : aggB Try.prog 76 2 = true := by kernel_rfl
theorem sz_76 : szB Try.prog 76 2 = true := by kernel_rfl
theorem go_49 : goes Try.prog 49 = true := by kernel_rfl
theorem go_50 : goes Try.prog 50 = true := by kernel_rfl
theorem go_51 : goes Try.prog 51 = true := by kernel_rfl
theorem go_52 : goes Try.prog 52 = true := by kernel_rfl
theorem fo_76_0 : fieldOff Try.prog 76 0 = some 0 := by kernel_rfl
theorem fo_76_1 : fieldOff Try.prog 76 1 = some 1 := by kernel_rfl
theorem go_48 : goes Try.prog 48 = true := by kernel_rfl
theorem go_114 : goes Try.prog 114 = true := by kernel_rfl
theorem go_115 : goes Try.prog 115 = true := by kernel_rfl
theorem go_54 : goes Try.prog 54 = true := by kernel_rfl
theorem go_55 : goes Try.prog 55 = true := by kernel_rfl
theorem go_57 : goes Try.prog 57 = true := by kernel_rfl
theorem go_59 : goes Try.prog 59 = true := by kernel_rfl
theorem fo_26_0 : fieldOff Try.prog 26 0 = some 0 := by kernel_rfl
theorem fo_26_1 : fieldOff Try.prog 26 1 = some 1 := by kernel_rfl
theorem go_64 : goes Try.prog 64 = true := by kernel_rfl
theorem go_117 : goes Try.prog 117 = true := by kernel_rfl
theorem go_60 : goes Try.prog 60 = true := by kernel_rfl
theorem go_61 : goes Try.prog 61 = true := by kernel_rfl
theorem ust_92 : strB Try.prog 92 [(0, 10), (10, 1)] = true := by kernel_rfl
theorem ze_92 : zeroOf Try.prog 92 = some (.agg #[.int .i64 0, .int .i64 0, .int .i64 0, .int .i64 0, .int .i64 0, .int .i64 0, .int .i64 0, .int .i64 0, .int .i64 0, .int .i64 0, .int .i64 0]) := by kernel_rfl
theorem ag_92 : aggB Try.prog 92 11 = true := by kernel_rfl
theorem sz_92 : szB Try.prog 92 11 = true := by kernel_rfl
theorem go_62 : goes Try.prog 62 = true := by kernel_rfl
theorem go_63 : goes Try.prog 63 = true := by kernel_rfl
theorem fo_92_0 : fieldOff Try.prog 92 0 = some 0 := by kernel_rfl
theorem fl_52 : flds Try.prog 52 = some [(3, 0, true), (43, 1, true), (50, 4, true)] := by kernel_rfl
theorem eg_52 : Try.prog.eqGuardType Try.prog.depth 52 = false := by kernel_rfl
theorem fo_92_1 : fieldOff Try.prog 92 1 = some 10 := by kernel_rfl
theorem fo_97_0 : fieldOff Try.prog 97 0 = some 0 := by kernel_rfl
theorem fo_97_3 : fieldOff Try.prog 97 3 = some 3 := by kernel_rfl
theorem fo_97_1 : fieldOff Try.prog 97 1 = some 1 := by kernel_rfl
theorem fo_97_2 : fieldOff Try.prog 97 2 = some 2 := by kernel_rfl
theorem fo_97_4 : fieldOff Try.prog 97 4 = some 4 := by kernel_rfl
theorem go_65 : goes Try.prog 65 = true := by kernel_rfl
theorem ag_97 : aggB Try.prog 97 5 = true := by kernel_rfl
theorem go_66 : goes Try.prog 66 = true := by kernel_rfl
theorem go_67 : goes Try.prog 67 = true := by kernel_rfl
theorem ust_97 : strB Try.prog 97 [(0, 1), (1, 1), (2, 1), (3, 1), (4, 1)] = true := by kernel_rfl
theorem ze_97 : zeroOf Try.prog 97 = some (.agg #[.int .i64 0, .int .i64 0, .int .i64 0, .int .i64 0, .int .i64 0]) := by kernel_rfl
theorem us_102 : Try.prog.underlying 102 = some (.slice 107) := by kernel_rfl

end Go.Proofs.Ytepfgdfahinpkaa
