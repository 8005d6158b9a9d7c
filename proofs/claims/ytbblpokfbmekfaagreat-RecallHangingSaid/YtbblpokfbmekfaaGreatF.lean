import Derived.Test.YtbblpokfbmekfaaGreatG3
import Derived.Test.YtbblpokfbmekfaaGreatGt
import Derived.Test.YtbblpokfbmekfaaGreatP
import Derived.Test.YtbblpokfbmekfaaGreatProg
set_option maxRecDepth 20000
set_option linter.unusedVariables false
namespace Go.Proofs.YtbblpokfbmekfaaGreat
def TNode_cells (x : TN) : List Value := [.int .i64 x.fID, .int .i64 x.fLevel, .int .i64 x.fCost]
theorem TNode_cells_len (x : TN) : (TNode_cells x).length = 3 := rfl
theorem TNode_cells_one (x : TN) : ((TNode_cells x).all (·.oneCell')) = true := rfl
def THop_cells (x : TH) : List Value := [.int .i64 x.fFrom, .int .i64 x.fTo]
theorem THop_cells_len (x : TH) : (THop_cells x).length = 2 := rfl
theorem THop_cells_one (x : TH) : ((THop_cells x).all (·.oneCell')) = true := rfl
def Tasking_cells (x : Tasking) : List Value := [.int .i64 x.f_id, .int .i64 x.f_left]
theorem Tasking_cells_len (x : Tasking) : (Tasking_cells x).length = 2 := rfl
theorem Tasking_cells_one (x : Tasking) : ((Tasking_cells x).all (·.oneCell')) = true := rfl
def TClaim_cells2 (p : Hd × TC) : List Value := [.int .i64 p.2.fID, .slice p.1.1 p.1.2.1 p.1.2.2]
theorem TClaim_cells2_len (p : Hd × TC) : (TClaim_cells2 p).length = 2 := rfl
theorem TClaim_cells2_one (p : Hd × TC) : ((TClaim_cells2 p).all (·.oneCell')) = true := rfl
theorem TClaim_cells2_eq {p : Hd × TC} {z : TC} {k : Nat} (hs : p.2 = z) (hl : p.1.2.1 = k) : TClaim_cells2 p = [.int .i64 z.fID, .slice p.1.1 k p.1.2.2] := by subst hs hl; rfl
theorem us_22 : Tryz.prog.underlying 22 = some (.slice 97) := by kernel_rfl
theorem sl_22 : slOf Tryz.prog 22 = some (97, 3) := by kernel_rfl
theorem ag_97 : aggB Tryz.prog 97 3 = true := by kernel_rfl
theorem fo_97_0 : fieldOff Tryz.prog 97 0 = some 0 := by kernel_rfl
theorem sc_3 : scB Tryz.prog 3 = true := by kernel_rfl
theorem fo_25_0 : fieldOff Tryz.prog 25 0 = some 0 := by kernel_rfl
theorem sc_22 : scB Tryz.prog 22 = true := by kernel_rfl
theorem go_120 : goes Tryz.prog 120 = true := by kernel_rfl
theorem go_119 : goes Tryz.prog 119 = true := by kernel_rfl
theorem us_23 : Tryz.prog.underlying 23 = some (.slice 90) := by kernel_rfl
theorem sl_23 : slOf Tryz.prog 23 = some (90, 2) := by kernel_rfl
theorem ag_90 : aggB Tryz.prog 90 2 = true := by kernel_rfl
theorem fo_90_0 : fieldOff Tryz.prog 90 0 = some 0 := by kernel_rfl
theorem fo_25_1 : fieldOff Tryz.prog 25 1 = some 1 := by kernel_rfl
theorem sc_23 : scB Tryz.prog 23 = true := by kernel_rfl
theorem go_144 : goes Tryz.prog 144 = true := by kernel_rfl
theorem go_139 : goes Tryz.prog 139 = true := by kernel_rfl
theorem us_88 : Tryz.prog.underlying 88 = some (.slice 111) := by kernel_rfl
theorem ag_111 : aggB Tryz.prog 111 2 = true := by kernel_rfl
theorem sl_88 : slOf Tryz.prog 88 = some (111, 2) := by kernel_rfl
theorem ui_3 : Tryz.prog.underlying 3 = some (.int .i64) := by kernel_rfl
theorem fl_111 : flds Tryz.prog 111 = some [(3, 0, true), (3, 1, true)] := by kernel_rfl
theorem eg_111 : Tryz.prog.eqGuardType Tryz.prog.depth 111 = false := by kernel_rfl
theorem mixed : Tryz.prog.follows .mixedOrders = true := by kernel_rfl
theorem go_162 : goes Tryz.prog 162 = true := by kernel_rfl
theorem go_117 : goes Tryz.prog 117 = true := by kernel_rfl
theorem ag_25 : aggB Tryz.prog 25 2 = true := by kernel_rfl
theorem fo_111_0 : fieldOff Tryz.prog 111 0 = some 0 := by kernel_rfl
theorem go_62 : goes Tryz.prog 62 = true := by kernel_rfl
theorem fo_111_1 : fieldOff Tryz.prog 111 1 = some 1 := by kernel_rfl
theorem fo_97_1 : fieldOff Tryz.prog 97 1 = some 1 := by kernel_rfl
theorem go_146 : goes Tryz.prog 146 = true := by kernel_rfl
theorem sz_111 : szB Tryz.prog 111 2 = true := by kernel_rfl
theorem ze_111 : zeroOf Tryz.prog 111 = some (.agg #[.int .i64 0, .int .i64 0]) := by kernel_rfl
theorem fo_97_2 : fieldOff Tryz.prog 97 2 = some 2 := by kernel_rfl
theorem sz_97 : szB Tryz.prog 97 3 = true := by kernel_rfl
theorem ze_97 : zeroOf Tryz.prog 97 = some (.agg #[.int .i64 0, .int .i64 0, .int .i64 0]) := by kernel_rfl
theorem fo_90_1 : fieldOff Tryz.prog 90 1 = some 1 := by kernel_rfl
theorem sc_88 : scB Tryz.prog 88 = true := by kernel_rfl
theorem go_118 : goes Tryz.prog 118 = true := by kernel_rfl
theorem go_114 : goes Tryz.prog 114 = true := by kernel_rfl
theorem sz_90 : szB Tryz.prog 90 2 = true := by kernel_rfl
theorem ze_90 : zeroOf Tryz.prog 90 = some (.agg #[.int .i64 0, .slice none 0 0]) := by kernel_rfl
theorem go_168 : goes Tryz.prog 168 = true := by kernel_rfl
theorem sl_26 : slOf Tryz.prog 26 = some (3, 1) := by kernel_rfl
theorem go_154 : goes Tryz.prog 154 = true := by kernel_rfl
theorem sz_3 : szB Tryz.prog 3 1 = true := by kernel_rfl
theorem us_s9 : Tryz.prog.underlying 9 = some .string := by kernel_rfl
theorem ui_175 : Tryz.prog.underlying 175 = some (.int .u64) := by kernel_rfl
theorem ui_5 : Tryz.prog.underlying 5 = some (.int .u8) := by kernel_rfl
theorem go_158 : goes Tryz.prog 158 = true := by kernel_rfl
theorem ui_151 : Tryz.prog.underlying 151 = some (.int .u64) := by kernel_rfl
theorem go_128 : goes Tryz.prog 128 = true := by kernel_rfl
theorem go_148 : goes Tryz.prog 148 = true := by kernel_rfl
theorem go_127 : goes Tryz.prog 127 = true := by kernel_rfl
theorem us_26 : Tryz.prog.underlying 26 = some (.slice 3) := by kernel_rfl
theorem mc_3_1 : madeCells (.int .i64 0 : Value).cells (1 * 1) = #[.int .i64 0] := by kernel_rfl
theorem go_78 : goes Tryz.prog 78 = true := by kernel_rfl
theorem ze_3 : zeroOf Tryz.prog 3 = some (.int .i64 0) := by kernel_rfl
theorem um_94 : Tryz.prog.underlying 94 = some (.map 3 4) := by kernel_rfl
theorem by_3 : bytesB Tryz.prog 3 (.int .i64 0) 1 8 = true := by kernel_rfl
theorem go_96 : goes Tryz.prog 96 = true := by kernel_rfl
theorem go_121 : goes Tryz.prog 121 = true := by kernel_rfl
theorem go_171 : goes Tryz.prog 171 = true := by kernel_rfl
theorem go_169 : goes Tryz.prog 169 = true := by kernel_rfl
theorem go_161 : goes Tryz.prog 161 = true := by kernel_rfl
theorem go_160 : goes Tryz.prog 160 = true := by kernel_rfl
theorem go_159 : goes Tryz.prog 159 = true := by kernel_rfl
theorem um_154 : Tryz.prog.underlying 154 = some (.map 3 26) := by kernel_rfl
theorem ze_26 : zeroOf Tryz.prog 26 = some (.slice none 0 0) := by kernel_rfl
theorem ze_4 : zeroOf Tryz.prog 4 = some (.bool false) := by kernel_rfl
theorem go_131 : goes Tryz.prog 131 = true := by kernel_rfl
theorem sl_155 : slOf Tryz.prog 155 = some (3, 1) := by kernel_rfl
theorem sc_26 : scB Tryz.prog 26 = true := by kernel_rfl
theorem go_88 : goes Tryz.prog 88 = true := by kernel_rfl
theorem go_132 : goes Tryz.prog 132 = true := by kernel_rfl
theorem sc_94 : scB Tryz.prog 94 = true := by kernel_rfl
theorem go_87 : goes Tryz.prog 87 = true := by kernel_rfl
theorem go_130 : goes Tryz.prog 130 = true := by kernel_rfl
theorem go_86 : goes Tryz.prog 86 = true := by kernel_rfl
theorem sz_94 : szB Tryz.prog 94 1 = true := by kernel_rfl
theorem ze_94 : zeroOf Tryz.prog 94 = some (.map none) := by kernel_rfl
theorem go_65 : goes Tryz.prog 65 = true := by kernel_rfl
theorem go_61 : goes Tryz.prog 61 = true := by kernel_rfl
theorem go_64 : goes Tryz.prog 64 = true := by kernel_rfl
theorem go_63 : goes Tryz.prog 63 = true := by kernel_rfl
theorem go_135 : goes Tryz.prog 135 = true := by kernel_rfl
theorem go_147 : goes Tryz.prog 147 = true := by kernel_rfl
theorem go_134 : goes Tryz.prog 134 = true := by kernel_rfl
theorem go_124 : goes Tryz.prog 124 = true := by kernel_rfl
theorem go_70 : goes Tryz.prog 70 = true := by kernel_rfl
theorem go_71 : goes Tryz.prog 71 = true := by kernel_rfl
theorem sc_107 : scB Tryz.prog 107 = true := by kernel_rfl
theorem sc_4 : scB Tryz.prog 4 = true := by kernel_rfl
theorem sz_4 : szB Tryz.prog 4 1 = true := by kernel_rfl
theorem go_126 : goes Tryz.prog 126 = true := by kernel_rfl
theorem sz_26 : szB Tryz.prog 26 1 = true := by kernel_rfl
theorem go_74 : goes Tryz.prog 74 = true := by kernel_rfl
theorem go_76 : goes Tryz.prog 76 = true := by kernel_rfl
theorem go_75 : goes Tryz.prog 75 = true := by kernel_rfl
theorem go_77 : goes Tryz.prog 77 = true := by kernel_rfl
theorem go_129 : goes Tryz.prog 129 = true := by kernel_rfl
theorem go_80 : goes Tryz.prog 80 = true := by kernel_rfl
theorem go_81 : goes Tryz.prog 81 = true := by kernel_rfl
theorem ust_48 : strB Tryz.prog 48 [(0, 1), (1, 1)] = true := by kernel_rfl
theorem ze_48 : zeroOf Tryz.prog 48 = some (.agg #[.int .i64 0, .int .i64 0]) := by kernel_rfl
theorem ag_48 : aggB Tryz.prog 48 2 = true := by kernel_rfl
theorem sz_48 : szB Tryz.prog 48 2 = true := by kernel_rfl
theorem by_111 : bytesB Tryz.prog 111 (.agg #[.int .i64 0, .int .i64 0]) 2 16 = true := by kernel_rfl
theorem by_97 : bytesB Tryz.prog 97 (.agg #[.int .i64 0, .int .i64 0, .int .i64 0]) 3 24 = true := by kernel_rfl
theorem by_90 : bytesB Tryz.prog 90 (.agg #[.int .i64 0, .slice none 0 0]) 2 32 = true := by kernel_rfl
theorem go_142 : goes Tryz.prog 142 = true := by kernel_rfl
theorem go_143 : goes Tryz.prog 143 = true := by kernel_rfl
theorem ust_25 : strB Tryz.prog 25 [(0, 1), (1, 1)] = true := by kernel_rfl
theorem ze_25 : zeroOf Tryz.prog 25 = some (.agg #[.slice none 0 0, .slice none 0 0]) := by kernel_rfl
theorem sz_25 : szB Tryz.prog 25 2 = true := by kernel_rfl
theorem sz_88 : szB Tryz.prog 88 1 = true := by kernel_rfl
theorem go_110 : goes Tryz.prog 110 = true := by kernel_rfl
theorem go_111 : goes Tryz.prog 111 = true := by kernel_rfl
theorem us_121 : Tryz.prog.underlying 121 = some (.slice 123) := by kernel_rfl
theorem sl_121 : slOf Tryz.prog 121 = some (123, 2) := by kernel_rfl
theorem ag_123 : aggB Tryz.prog 123 2 = true := by kernel_rfl
theorem sz_123 : szB Tryz.prog 123 2 = true := by kernel_rfl
theorem ze_123 : zeroOf Tryz.prog 123 = some (.agg #[.int .i64 0, .int .i64 0]) := by kernel_rfl
theorem fo_123_1 : fieldOff Tryz.prog 123 1 = some 1 := by kernel_rfl
theorem fo_123_0 : fieldOff Tryz.prog 123 0 = some 0 := by kernel_rfl
theorem ust_123 : strB Tryz.prog 123 [(0, 1), (1, 1)] = true := by kernel_rfl
theorem go_90 : goes Tryz.prog 90 = true := by kernel_rfl
theorem go_91 : goes Tryz.prog 91 = true := by kernel_rfl
theorem by_123 : bytesB Tryz.prog 123 (.agg #[.int .i64 0, .int .i64 0]) 2 16 = true := by kernel_rfl
theorem mc_123_1 : madeCells (.agg #[.int .i64 0, .int .i64 0] : Value).cells (1 * 2) = #[.int .i64 0, .int .i64 0] := by kernel_rfl
theorem go_93 : goes Tryz.prog 93 = true := by kernel_rfl
theorem go_92 : goes Tryz.prog 92 = true := by kernel_rfl
theorem go_133 : goes Tryz.prog 133 = true := by kernel_rfl
theorem go_97 : goes Tryz.prog 97 = true := by kernel_rfl
theorem ust_97 : strB Tryz.prog 97 [(0, 1), (1, 1), (2, 1)] = true := by kernel_rfl
theorem ust_111 : strB Tryz.prog 111 [(0, 1), (1, 1)] = true := by kernel_rfl
theorem ust_90 : strB Tryz.prog 90 [(0, 1), (1, 1)] = true := by kernel_rfl
theorem mc_90_4 : madeCells (.agg #[.int .i64 0, .slice none 0 0] : Value).cells (4 * 2) = #[.int .i64 0, .slice none 0 0, .int .i64 0, .slice none 0 0, .int .i64 0, .slice none 0 0, .int .i64 0, .slice none 0 0] := by kernel_rfl
theorem mc_111_2 : madeCells (.agg #[.int .i64 0, .int .i64 0] : Value).cells (2 * 2) = #[.int .i64 0, .int .i64 0, .int .i64 0, .int .i64 0] := by kernel_rfl
theorem mc_111_1 : madeCells (.agg #[.int .i64 0, .int .i64 0] : Value).cells (1 * 2) = #[.int .i64 0, .int .i64 0] := by kernel_rfl
theorem mc_97_6 : madeCells (.agg #[.int .i64 0, .int .i64 0, .int .i64 0] : Value).cells (6 * 3) = #[.int .i64 0, .int .i64 0, .int .i64 0, .int .i64 0, .int .i64 0, .int .i64 0, .int .i64 0, .int .i64 0, .int .i64 0, .int .i64 0, .int .i64 0, .int .i64 0, .int .i64 0, .int .i64 0, .int .i64 0, .int .i64 0, .int .i64 0, .int .i64 0] := by kernel_rfl
theorem go_60 : goes Tryz.prog 60 = true := by kernel_rfl
theorem go_24 : goes Tryz.prog 24 = true := by kernel_rfl
theorem go_26 : goes Tryz.prog 26 = true := by kernel_rfl
theorem go_19 : goes Tryz.prog 19 = true := by kernel_rfl
theorem mc_3_4 : madeCells (.int .i64 0 : Value).cells (4 * 1) = #[.int .i64 0, .int .i64 0, .int .i64 0, .int .i64 0] := by kernel_rfl
theorem mc_3_2 : madeCells (.int .i64 0 : Value).cells (2 * 1) = #[.int .i64 0, .int .i64 0] := by kernel_rfl
theorem fl_48 : flds Tryz.prog 48 = some [(3, 0, true), (3, 1, true)] := by kernel_rfl
theorem eg_48 : Tryz.prog.eqGuardType Tryz.prog.depth 48 = false := by kernel_rfl
theorem mc_3_3 : madeCells (.int .i64 0 : Value).cells (3 * 1) = #[.int .i64 0, .int .i64 0, .int .i64 0] := by kernel_rfl
theorem go_15 : goes Tryz.prog 15 = true := by kernel_rfl
theorem go_17 : goes Tryz.prog 17 = true := by kernel_rfl
theorem go_28 : goes Tryz.prog 28 = true := by kernel_rfl
theorem go_22 : goes Tryz.prog 22 = true := by kernel_rfl
theorem go_20 : goes Tryz.prog 20 = true := by kernel_rfl
theorem go_36 : goes Tryz.prog 36 = true := by kernel_rfl
theorem go_34 : goes Tryz.prog 34 = true := by kernel_rfl
theorem go_59 : goes Tryz.prog 59 = true := by kernel_rfl
theorem go_13 : goes Tryz.prog 13 = true := by kernel_rfl
theorem go_14 : goes Tryz.prog 14 = true := by kernel_rfl
theorem go_136 : goes Tryz.prog 136 = true := by kernel_rfl
theorem go_98 : goes Tryz.prog 98 = true := by kernel_rfl
theorem go_30 : goes Tryz.prog 30 = true := by kernel_rfl
theorem go_100 : goes Tryz.prog 100 = true := by kernel_rfl
theorem go_32 : goes Tryz.prog 32 = true := by kernel_rfl
theorem ub_4 : Tryz.prog.underlying 4 = some .bool := by kernel_rfl
theorem go_138 : goes Tryz.prog 138 = true := by kernel_rfl
theorem go_103 : goes Tryz.prog 103 = true := by kernel_rfl
theorem go_140 : goes Tryz.prog 140 = true := by kernel_rfl
theorem go_141 : goes Tryz.prog 141 = true := by kernel_rfl
theorem ust_64 : strB Tryz.prog 64 [(0, 1), (1, 1)] = true := by kernel_rfl
theorem ze_64 : zeroOf Tryz.prog 64 = some (.agg #[.slice none 0 0, .slice none 0 0]) := by kernel_rfl
theorem ag_64 : aggB Tryz.prog 64 2 = true := by kernel_rfl
theorem sz_64 : szB Tryz.prog 64 2 = true := by kernel_rfl
theorem go_104 : goes Tryz.prog 104 = true := by kernel_rfl
theorem fo_64_0 : fieldOff Tryz.prog 64 0 = some 0 := by kernel_rfl
theorem fo_64_1 : fieldOff Tryz.prog 64 1 = some 1 := by kernel_rfl
theorem go_106 : goes Tryz.prog 106 = true := by kernel_rfl
theorem go_49 : goes Tryz.prog 49 = true := by kernel_rfl
theorem go_48 : goes Tryz.prog 48 = true := by kernel_rfl
theorem go_46 : goes Tryz.prog 46 = true := by kernel_rfl
theorem go_47 : goes Tryz.prog 47 = true := by kernel_rfl
theorem go_42 : goes Tryz.prog 42 = true := by kernel_rfl
theorem ke_3 : KeyE Tryz.prog 3 kI rngB := keyE_int ui_3
end Go.Proofs.YtbblpokfbmekfaaGreat
