import Derived.Test.YtbblpokfbmekfaaGk
import Derived.Test.YtbblpokfbmekfaaGt
import Derived.Test.YtbblpokfbmekfaaP
import Derived.Test.YtbblpokfbmekfaaProg
/- Closed facts on the program: its table of types, its functions. -/
set_option linter.unusedVariables false
set_option maxRecDepth 20000
namespace Go.Proofs.Ytbblpokfbmekfaa
def TNode_cells (x : TNode) : List Value := [.int .i64 x.fID, .int .i64 x.fLevel, .int .i64 x.fCost]
theorem TNode_cells_len (x : TNode) : (TNode_cells x).length = 3 := rfl
theorem TNode_cells_one (x : TNode) : ((TNode_cells x).all (·.oneCell')) = true := rfl
def THop_cells (x : THop) : List Value := [.int .i64 x.fFrom, .int .i64 x.fTo]
theorem THop_cells_len (x : THop) : (THop_cells x).length = 2 := rfl
theorem THop_cells_one (x : THop) : ((THop_cells x).all (·.oneCell')) = true := rfl
def Tasking_cells (x : Tasking) : List Value := [.int .i64 x.f_id, .int .i64 x.f_left]
theorem Tasking_cells_len (x : Tasking) : (Tasking_cells x).length = 2 := rfl
theorem Tasking_cells_one (x : Tasking) : ((Tasking_cells x).all (·.oneCell')) = true := rfl
def TClaim_cells2 (p : Hd × TClaim) : List Value := [.int .i64 p.2.fID, .slice p.1.1 p.1.2.1 p.1.2.2]
theorem TClaim_cells2_len (p : Hd × TClaim) : (TClaim_cells2 p).length = 2 := rfl
theorem TClaim_cells2_one (p : Hd × TClaim) : ((TClaim_cells2 p).all (·.oneCell')) = true := rfl
theorem TClaim_cells2_eq {p : Hd × TClaim} {z : TClaim} {k : Nat} (hs : p.2 = z) (hl : p.1.2.1 = k) : TClaim_cells2 p = [.int .i64 z.fID, .slice p.1.1 k p.1.2.2] := by subst hs hl; rfl

theorem us_22 : Try.prog.underlying 22 = some (.slice 41) := by kernel_rfl
theorem sl_22 : slOf Try.prog 22 = some (41, 3) := by kernel_rfl
theorem ag_41 : aggB Try.prog 41 3 = true := by kernel_rfl
theorem fo_41_0 : fieldOff Try.prog 41 0 = some 0 := by kernel_rfl
theorem sc_3 : scB Try.prog 3 = true := by kernel_rfl
theorem fo_25_0 : fieldOff Try.prog 25 0 = some 0 := by kernel_rfl
theorem sc_22 : scB Try.prog 22 = true := by kernel_rfl
theorem go_72 : goes Try.prog 72 = true := by kernel_rfl
theorem go_71 : goes Try.prog 71 = true := by kernel_rfl
theorem us_33 : Try.prog.underlying 33 = some (.slice 93) := by kernel_rfl
theorem ag_93 : aggB Try.prog 93 2 = true := by kernel_rfl
theorem sl_33 : slOf Try.prog 33 = some (93, 2) := by kernel_rfl
theorem ui_3 : Try.prog.underlying 3 = some (.int .i64) := by kernel_rfl
theorem fl_93 : flds Try.prog 93 = some [(3, 0, true), (3, 1, true)] := by kernel_rfl
theorem eg_93 : Try.prog.eqGuardType Try.prog.depth 93 = false := by kernel_rfl
theorem mixed : Try.prog.follows .mixedOrders = true := by kernel_rfl
theorem go_90 : goes Try.prog 90 = true := by kernel_rfl
theorem go_35 : goes Try.prog 35 = true := by kernel_rfl
theorem ag_25 : aggB Try.prog 25 2 = true := by kernel_rfl
theorem fo_93_0 : fieldOff Try.prog 93 0 = some 0 := by kernel_rfl
theorem go_36 : goes Try.prog 36 = true := by kernel_rfl
theorem fo_93_1 : fieldOff Try.prog 93 1 = some 1 := by kernel_rfl
theorem fo_41_1 : fieldOff Try.prog 41 1 = some 1 := by kernel_rfl
theorem go_73 : goes Try.prog 73 = true := by kernel_rfl
theorem sz_93 : szB Try.prog 93 2 = true := by kernel_rfl
theorem ze_93 : zeroOf Try.prog 93 = some (.agg #[.int .i64 0, .int .i64 0]) := by kernel_rfl
theorem us_23 : Try.prog.underlying 23 = some (.slice 35) := by kernel_rfl
theorem sl_23 : slOf Try.prog 23 = some (35, 2) := by kernel_rfl
theorem ag_35 : aggB Try.prog 35 2 = true := by kernel_rfl
theorem fo_35_0 : fieldOff Try.prog 35 0 = some 0 := by kernel_rfl
theorem fo_25_1 : fieldOff Try.prog 25 1 = some 1 := by kernel_rfl
theorem sc_23 : scB Try.prog 23 = true := by kernel_rfl
theorem go_75 : goes Try.prog 75 = true := by kernel_rfl
theorem go_74 : goes Try.prog 74 = true := by kernel_rfl
theorem fo_41_2 : fieldOff Try.prog 41 2 = some 2 := by kernel_rfl
theorem sz_41 : szB Try.prog 41 3 = true := by kernel_rfl
theorem ze_41 : zeroOf Try.prog 41 = some (.agg #[.int .i64 0, .int .i64 0, .int .i64 0]) := by kernel_rfl
theorem fo_35_1 : fieldOff Try.prog 35 1 = some 1 := by kernel_rfl
theorem sc_33 : scB Try.prog 33 = true := by kernel_rfl
theorem go_37 : goes Try.prog 37 = true := by kernel_rfl
theorem go_38 : goes Try.prog 38 = true := by kernel_rfl
theorem sz_35 : szB Try.prog 35 2 = true := by kernel_rfl
theorem ze_35 : zeroOf Try.prog 35 = some (.agg #[.int .i64 0, .slice none 0 0]) := by kernel_rfl
theorem sl_32 : slOf Try.prog 32 = some (3, 1) := by kernel_rfl
theorem ze_3 : zeroOf Try.prog 3 = some (.int .i64 0) := by kernel_rfl
theorem us_32 : Try.prog.underlying 32 = some (.slice 3) := by kernel_rfl
theorem sz_3 : szB Try.prog 3 1 = true := by kernel_rfl
theorem by_3 : bytesB Try.prog 3 (.int .i64 0) 1 8 = true := by kernel_rfl
theorem go_14 : goes Try.prog 14 = true := by kernel_rfl
theorem go_70 : goes Try.prog 70 = true := by kernel_rfl
theorem go_33 : goes Try.prog 33 = true := by kernel_rfl
theorem go_82 : goes Try.prog 82 = true := by kernel_rfl
theorem go_91 : goes Try.prog 91 = true := by kernel_rfl
theorem go_81 : goes Try.prog 81 = true := by kernel_rfl
theorem go_76 : goes Try.prog 76 = true := by kernel_rfl
theorem go_107 : goes Try.prog 107 = true := by kernel_rfl
theorem go_101 : goes Try.prog 101 = true := by kernel_rfl
theorem us_s9 : Try.prog.underlying 9 = some .string := by kernel_rfl
theorem ui_133 : Try.prog.underlying 133 = some (.int .u64) := by kernel_rfl
theorem ui_5 : Try.prog.underlying 5 = some (.int .u8) := by kernel_rfl
theorem go_105 : goes Try.prog 105 = true := by kernel_rfl
theorem ui_117 : Try.prog.underlying 117 = some (.int .u64) := by kernel_rfl
theorem go_88 : goes Try.prog 88 = true := by kernel_rfl
theorem go_95 : goes Try.prog 95 = true := by kernel_rfl
theorem go_87 : goes Try.prog 87 = true := by kernel_rfl
theorem mc_3_1 : madeCells (.int .i64 0 : Value).cells (1 * 1) = #[.int .i64 0] := by kernel_rfl
theorem um_74 : Try.prog.underlying 74 = some (.map 3 4) := by kernel_rfl
theorem go_67 : goes Try.prog 67 = true := by kernel_rfl
theorem go_113 : goes Try.prog 113 = true := by kernel_rfl
theorem go_106 : goes Try.prog 106 = true := by kernel_rfl
theorem go_94 : goes Try.prog 94 = true := by kernel_rfl
theorem go_93 : goes Try.prog 93 = true := by kernel_rfl
theorem go_92 : goes Try.prog 92 = true := by kernel_rfl
theorem um_107 : Try.prog.underlying 107 = some (.map 3 32) := by kernel_rfl
theorem ze_32 : zeroOf Try.prog 32 = some (.slice none 0 0) := by kernel_rfl
theorem ze_4 : zeroOf Try.prog 4 = some (.bool false) := by kernel_rfl
theorem go_77 : goes Try.prog 77 = true := by kernel_rfl
theorem sl_108 : slOf Try.prog 108 = some (3, 1) := by kernel_rfl
theorem sc_32 : scB Try.prog 32 = true := by kernel_rfl
theorem go_49 : goes Try.prog 49 = true := by kernel_rfl
theorem go_78 : goes Try.prog 78 = true := by kernel_rfl
theorem sc_74 : scB Try.prog 74 = true := by kernel_rfl
theorem go_48 : goes Try.prog 48 = true := by kernel_rfl
theorem sz_74 : szB Try.prog 74 1 = true := by kernel_rfl
theorem ze_74 : zeroOf Try.prog 74 = some (.map none) := by kernel_rfl
theorem go_46 : goes Try.prog 46 = true := by kernel_rfl
theorem go_43 : goes Try.prog 43 = true := by kernel_rfl
theorem go_44 : goes Try.prog 44 = true := by kernel_rfl
theorem go_45 : goes Try.prog 45 = true := by kernel_rfl
theorem go_47 : goes Try.prog 47 = true := by kernel_rfl
theorem ust_43 : strB Try.prog 43 [(0, 1), (1, 1)] = true := by kernel_rfl
theorem ze_43 : zeroOf Try.prog 43 = some (.agg #[.int .i64 0, .int .i64 0]) := by kernel_rfl
theorem ag_43 : aggB Try.prog 43 2 = true := by kernel_rfl
theorem sz_43 : szB Try.prog 43 2 = true := by kernel_rfl
theorem go_52 : goes Try.prog 52 = true := by kernel_rfl
theorem by_93 : bytesB Try.prog 93 (.agg #[.int .i64 0, .int .i64 0]) 2 16 = true := by kernel_rfl
theorem by_41 : bytesB Try.prog 41 (.agg #[.int .i64 0, .int .i64 0, .int .i64 0]) 3 24 = true := by kernel_rfl
theorem by_35 : bytesB Try.prog 35 (.agg #[.int .i64 0, .slice none 0 0]) 2 32 = true := by kernel_rfl
theorem go_84 : goes Try.prog 84 = true := by kernel_rfl
theorem go_85 : goes Try.prog 85 = true := by kernel_rfl
theorem ust_25 : strB Try.prog 25 [(0, 1), (1, 1)] = true := by kernel_rfl
theorem ze_25 : zeroOf Try.prog 25 = some (.agg #[.slice none 0 0, .slice none 0 0]) := by kernel_rfl
theorem sz_25 : szB Try.prog 25 2 = true := by kernel_rfl
theorem sz_33 : szB Try.prog 33 1 = true := by kernel_rfl
theorem go_57 : goes Try.prog 57 = true := by kernel_rfl
theorem go_61 : goes Try.prog 61 = true := by kernel_rfl
theorem us_84 : Try.prog.underlying 84 = some (.slice 86) := by kernel_rfl
theorem sl_84 : slOf Try.prog 84 = some (86, 2) := by kernel_rfl
theorem ag_86 : aggB Try.prog 86 2 = true := by kernel_rfl
theorem sz_86 : szB Try.prog 86 2 = true := by kernel_rfl
theorem ze_86 : zeroOf Try.prog 86 = some (.agg #[.int .i64 0, .int .i64 0]) := by kernel_rfl
theorem fo_86_1 : fieldOff Try.prog 86 1 = some 1 := by kernel_rfl
theorem fo_86_0 : fieldOff Try.prog 86 0 = some 0 := by kernel_rfl
theorem ust_86 : strB Try.prog 86 [(0, 1), (1, 1)] = true := by kernel_rfl
theorem go_53 : goes Try.prog 53 = true := by kernel_rfl
theorem go_51 : goes Try.prog 51 = true := by kernel_rfl
theorem by_86 : bytesB Try.prog 86 (.agg #[.int .i64 0, .int .i64 0]) 2 16 = true := by kernel_rfl
theorem mc_86_1 : madeCells (.agg #[.int .i64 0, .int .i64 0] : Value).cells (1 * 2) = #[.int .i64 0, .int .i64 0] := by kernel_rfl
theorem go_55 : goes Try.prog 55 = true := by kernel_rfl
theorem go_54 : goes Try.prog 54 = true := by kernel_rfl
theorem go_79 : goes Try.prog 79 = true := by kernel_rfl
theorem sc_78 : scB Try.prog 78 = true := by kernel_rfl
theorem sc_4 : scB Try.prog 4 = true := by kernel_rfl
theorem sz_4 : szB Try.prog 4 1 = true := by kernel_rfl
theorem go_86 : goes Try.prog 86 = true := by kernel_rfl
theorem sz_32 : szB Try.prog 32 1 = true := by kernel_rfl
theorem go_80 : goes Try.prog 80 = true := by kernel_rfl
theorem go_64 : goes Try.prog 64 = true := by kernel_rfl
theorem go_58 : goes Try.prog 58 = true := by kernel_rfl
theorem go_59 : goes Try.prog 59 = true := by kernel_rfl
theorem ust_41 : strB Try.prog 41 [(0, 1), (1, 1), (2, 1)] = true := by kernel_rfl
theorem ust_93 : strB Try.prog 93 [(0, 1), (1, 1)] = true := by kernel_rfl
theorem ust_35 : strB Try.prog 35 [(0, 1), (1, 1)] = true := by kernel_rfl
theorem mc_35_4 : madeCells (.agg #[.int .i64 0, .slice none 0 0] : Value).cells (4 * 2) = #[.int .i64 0, .slice none 0 0, .int .i64 0, .slice none 0 0, .int .i64 0, .slice none 0 0, .int .i64 0, .slice none 0 0] := by kernel_rfl
theorem mc_93_2 : madeCells (.agg #[.int .i64 0, .int .i64 0] : Value).cells (2 * 2) = #[.int .i64 0, .int .i64 0, .int .i64 0, .int .i64 0] := by kernel_rfl
theorem mc_93_1 : madeCells (.agg #[.int .i64 0, .int .i64 0] : Value).cells (1 * 2) = #[.int .i64 0, .int .i64 0] := by kernel_rfl
theorem mc_41_6 : madeCells (.agg #[.int .i64 0, .int .i64 0, .int .i64 0] : Value).cells (6 * 3) = #[.int .i64 0, .int .i64 0, .int .i64 0, .int .i64 0, .int .i64 0, .int .i64 0, .int .i64 0, .int .i64 0, .int .i64 0, .int .i64 0, .int .i64 0, .int .i64 0, .int .i64 0, .int .i64 0, .int .i64 0, .int .i64 0, .int .i64 0, .int .i64 0] := by kernel_rfl
theorem go_65 : goes Try.prog 65 = true := by kernel_rfl
theorem go_66 : goes Try.prog 66 = true := by kernel_rfl
theorem go_68 : goes Try.prog 68 = true := by kernel_rfl
theorem go_89 : goes Try.prog 89 = true := by kernel_rfl
theorem go_69 : goes Try.prog 69 = true := by kernel_rfl
theorem go_12 : goes Try.prog 12 = true := by kernel_rfl
theorem go_19 : goes Try.prog 19 = true := by kernel_rfl
theorem go_24 : goes Try.prog 24 = true := by kernel_rfl
theorem go_20 : goes Try.prog 20 = true := by kernel_rfl
theorem mc_3_4 : madeCells (.int .i64 0 : Value).cells (4 * 1) = #[.int .i64 0, .int .i64 0, .int .i64 0, .int .i64 0] := by kernel_rfl
theorem mc_3_2 : madeCells (.int .i64 0 : Value).cells (2 * 1) = #[.int .i64 0, .int .i64 0] := by kernel_rfl
theorem fl_43 : flds Try.prog 43 = some [(3, 0, true), (3, 1, true)] := by kernel_rfl
theorem eg_43 : Try.prog.eqGuardType Try.prog.depth 43 = false := by kernel_rfl
theorem mc_3_3 : madeCells (.int .i64 0 : Value).cells (3 * 1) = #[.int .i64 0, .int .i64 0, .int .i64 0] := by kernel_rfl
theorem go_32 : goes Try.prog 32 = true := by kernel_rfl
theorem go_23 : goes Try.prog 23 = true := by kernel_rfl
theorem go_26 : goes Try.prog 26 = true := by kernel_rfl
theorem go_31 : goes Try.prog 31 = true := by kernel_rfl
theorem go_30 : goes Try.prog 30 = true := by kernel_rfl
theorem go_17 : goes Try.prog 17 = true := by kernel_rfl
theorem go_16 : goes Try.prog 16 = true := by kernel_rfl
theorem go_29 : goes Try.prog 29 = true := by kernel_rfl
theorem go_10 : goes Try.prog 10 = true := by kernel_rfl
theorem go_11 : goes Try.prog 11 = true := by kernel_rfl
theorem go_22 : goes Try.prog 22 = true := by kernel_rfl
theorem go_18 : goes Try.prog 18 = true := by kernel_rfl
theorem go_50 : goes Try.prog 50 = true := by kernel_rfl
theorem go_21 : goes Try.prog 21 = true := by kernel_rfl
theorem ke_3 : KeyE Try.prog 3 kI rngB := keyE_int ui_3

end Go.Proofs.Ytbblpokfbmekfaa
