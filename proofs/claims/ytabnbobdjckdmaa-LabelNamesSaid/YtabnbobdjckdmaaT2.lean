/- closed facts of this program. -/
import Derived.Test.YtabnbobdjckdmaaProg
import Derived.Test.YtabnbobdjckdmaaOwZ
import Derived.KernelRfl
namespace Go.Proofs.Ytabnbobdjckdmaa
open Go.Ow Go.RowKit Go.Proofs
set_option linter.unusedVariables false
set_option linter.unusedSimpArgs false
theorem B25 : placesOf Try.prog 25 = some [(0, 1), (1, 1)] := by kernel_rfl
theorem B28 : placesOf Try.prog 28 = some [(0, 1), (1, 1), (2, 1), (3, 1), (4, 1)] := by kernel_rfl
theorem B30 : placesOf Try.prog 30 = some [(0, 1), (1, 1), (2, 5)] := by kernel_rfl
theorem B47 : placesOf Try.prog 47 = some [(0, 1), (1, 1)] := by kernel_rfl
theorem B99 : placesA Try.prog 99 5 = some [(0, 1), (1, 1), (2, 1), (3, 1), (4, 1)] := by kernel_rfl
theorem B102 : placesA Try.prog 102 4 = some [(0, 1), (1, 1), (2, 1), (3, 1)] := by kernel_rfl
theorem E8 : Enters Try.prog 8 := enters_of Try.func8 (by kernel_rfl) (by kernel_rfl)
theorem E10 : Enters Try.prog 10 := enters_of Try.func10 (by kernel_rfl) (by kernel_rfl)
theorem E12 : Enters Try.prog 12 := enters_of Try.func12 (by kernel_rfl) (by kernel_rfl)
theorem E15 : Enters Try.prog 15 := enters_of Try.func15 (by kernel_rfl) (by kernel_rfl)
theorem E17 : Enters Try.prog 17 := enters_of Try.func17 (by kernel_rfl) (by kernel_rfl)
theorem E18 : Enters Try.prog 18 := enters_of Try.func18 (by kernel_rfl) (by kernel_rfl)
theorem E19 : Enters Try.prog 19 := enters_of Try.func19 (by kernel_rfl) (by kernel_rfl)
theorem E20 : Enters Try.prog 20 := enters_of Try.func20 (by kernel_rfl) (by kernel_rfl)
theorem E21 : Enters Try.prog 21 := enters_of Try.func21 (by kernel_rfl) (by kernel_rfl)
theorem E22 : Enters Try.prog 22 := enters_of Try.func22 (by kernel_rfl) (by kernel_rfl)
theorem E23 : Enters Try.prog 23 := enters_of Try.func23 (by kernel_rfl) (by kernel_rfl)
theorem E24 : Enters Try.prog 24 := enters_of Try.func24 (by kernel_rfl) (by kernel_rfl)
theorem E25 : Enters Try.prog 25 := enters_of Try.func25 (by kernel_rfl) (by kernel_rfl)
theorem E26 : Enters Try.prog 26 := enters_of Try.func26 (by kernel_rfl) (by kernel_rfl)
theorem E30 : Enters Try.prog 30 := enters_of Try.func30 (by kernel_rfl) (by kernel_rfl)
theorem E31 : Enters Try.prog 31 := enters_of Try.func31 (by kernel_rfl) (by kernel_rfl)
theorem E32 : Enters Try.prog 32 := enters_of Try.func32 (by kernel_rfl) (by kernel_rfl)
theorem E34 : Enters Try.prog 34 := enters_of Try.func34 (by kernel_rfl) (by kernel_rfl)
theorem E36 : Enters Try.prog 36 := enters_of Try.func36 (by kernel_rfl) (by kernel_rfl)
theorem E37 : Enters Try.prog 37 := enters_of Try.func37 (by kernel_rfl) (by kernel_rfl)
theorem E38 : Enters Try.prog 38 := enters_of Try.func38 (by kernel_rfl) (by kernel_rfl)
theorem E39 : Enters Try.prog 39 := enters_of Try.func39 (by kernel_rfl) (by kernel_rfl)
theorem E40 : Enters Try.prog 40 := enters_of Try.func40 (by kernel_rfl) (by kernel_rfl)
theorem E41 : Enters Try.prog 41 := enters_of Try.func41 (by kernel_rfl) (by kernel_rfl)
theorem E42 : Enters Try.prog 42 := enters_of Try.func42 (by kernel_rfl) (by kernel_rfl)
theorem E43 : Enters Try.prog 43 := enters_of Try.func43 (by kernel_rfl) (by kernel_rfl)
theorem E44 : Enters Try.prog 44 := enters_of Try.func44 (by kernel_rfl) (by kernel_rfl)
theorem E45 : Enters Try.prog 45 := enters_of Try.func45 (by kernel_rfl) (by kernel_rfl)
theorem E46 : Enters Try.prog 46 := enters_of Try.func46 (by kernel_rfl) (by kernel_rfl)
theorem E47 : Enters Try.prog 47 := enters_of Try.func47 (by kernel_rfl) (by kernel_rfl)
theorem E48 : Enters Try.prog 48 := enters_of Try.func48 (by kernel_rfl) (by kernel_rfl)
theorem E54 : Enters Try.prog 54 := enters_of Try.func54 (by kernel_rfl) (by kernel_rfl)
theorem E55 : Enters Try.prog 55 := enters_of Try.func55 (by kernel_rfl) (by kernel_rfl)
theorem E56 : Enters Try.prog 56 := enters_of Try.func56 (by kernel_rfl) (by kernel_rfl)
theorem E57 : Enters Try.prog 57 := enters_of Try.func57 (by kernel_rfl) (by kernel_rfl)
theorem E58 : Enters Try.prog 58 := enters_of Try.func58 (by kernel_rfl) (by kernel_rfl)
theorem E61 : Enters Try.prog 61 := enters_of Try.func61 (by kernel_rfl) (by kernel_rfl)
theorem E64 : Enters Try.prog 64 := enters_of Try.func64 (by kernel_rfl) (by kernel_rfl)
theorem E65 : Enters Try.prog 65 := enters_of Try.func65 (by kernel_rfl) (by kernel_rfl)
theorem E66 : Enters Try.prog 66 := enters_of Try.func66 (by kernel_rfl) (by kernel_rfl)
theorem E67 : Enters Try.prog 67 := enters_of Try.func67 (by kernel_rfl) (by kernel_rfl)
theorem E68 : Enters Try.prog 68 := enters_of Try.func68 (by kernel_rfl) (by kernel_rfl)
theorem E69 : Enters Try.prog 69 := enters_of Try.func69 (by kernel_rfl) (by kernel_rfl)
theorem E70 : Enters Try.prog 70 := enters_of Try.func70 (by kernel_rfl) (by kernel_rfl)
theorem E74 : Enters Try.prog 74 := enters_of Try.func74 (by kernel_rfl) (by kernel_rfl)
theorem E89 : Enters Try.prog 89 := enters_of Try.func89 (by kernel_rfl) (by kernel_rfl)
theorem E90 : Enters Try.prog 90 := enters_of Try.func90 (by kernel_rfl) (by kernel_rfl)
theorem E91 : Enters Try.prog 91 := enters_of Try.func91 (by kernel_rfl) (by kernel_rfl)
theorem E92 : Enters Try.prog 92 := enters_of Try.func92 (by kernel_rfl) (by kernel_rfl)
theorem E93 : Enters Try.prog 93 := enters_of Try.func93 (by kernel_rfl) (by kernel_rfl)
theorem E94 : Enters Try.prog 94 := enters_of Try.func94 (by kernel_rfl) (by kernel_rfl)
theorem E96 : Enters Try.prog 96 := enters_of Try.func96 (by kernel_rfl) (by kernel_rfl)
theorem E103 : Enters Try.prog 103 := enters_of Try.func103 (by kernel_rfl) (by kernel_rfl)
theorem E104 : Enters Try.prog 104 := enters_of Try.func104 (by kernel_rfl) (by kernel_rfl)
theorem E108 : Enters Try.prog 108 := enters_of Try.func108 (by kernel_rfl) (by kernel_rfl)
theorem E109 : Enters Try.prog 109 := enters_of Try.func109 (by kernel_rfl) (by kernel_rfl)
theorem F25_0 : fieldOff Try.prog 25 0 = some 0 := by kernel_rfl
theorem F25_1 : fieldOff Try.prog 25 1 = some 1 := by kernel_rfl
theorem F28_0 : fieldOff Try.prog 28 0 = some 0 := by kernel_rfl
theorem F28_1 : fieldOff Try.prog 28 1 = some 1 := by kernel_rfl
theorem F28_2 : fieldOff Try.prog 28 2 = some 2 := by kernel_rfl
theorem F28_3 : fieldOff Try.prog 28 3 = some 3 := by kernel_rfl
theorem F28_4 : fieldOff Try.prog 28 4 = some 4 := by kernel_rfl
theorem F30_0 : fieldOff Try.prog 30 0 = some 0 := by kernel_rfl
theorem F30_1 : fieldOff Try.prog 30 1 = some 1 := by kernel_rfl
theorem F30_2 : fieldOff Try.prog 30 2 = some 2 := by kernel_rfl
theorem F47_0 : fieldOff Try.prog 47 0 = some 0 := by kernel_rfl
theorem F47_1 : fieldOff Try.prog 47 1 = some 1 := by kernel_rfl
theorem I3 : eInfo Try.prog 3 = some (.int .i64 0, 1, 8) := by kernel_rfl
theorem I4 : eInfo Try.prog 4 = some (.bool false, 1, 1) := by kernel_rfl
theorem I5 : eInfo Try.prog 5 = some (.int .u8 0, 1, 1) := by kernel_rfl
theorem I30 : eInfo Try.prog 30 = some (.agg #[.int .u32 0, .int .u32 0, .int .i64 0, .int .u32 0, .int .u32 0, .int .u32 0, .int .u32 0], 7, 32) := by kernel_rfl
theorem I45 : eInfo Try.prog 45 = some (.slice none 0 0, 1, 24) := by kernel_rfl
theorem I47 : eInfo Try.prog 47 = some (.agg #[.int .i64 0, .slice none 0 0], 2, 32) := by kernel_rfl
theorem Mixed : Try.prog.follows .mixedOrders = true := by kernel_rfl
theorem QF28 : (Try.prog.fieldsOf 28).toList = [Field.mk "At" 3 0 false "" "" 0, Field.mk "Birth" 26 1 false "" "" 8, Field.mk "Iv" 26 2 false "" "" 12, Field.mk "Tag" 26 3 false "" "" 16, Field.mk "Sum" 26 4 false "" "" 20] := by kernel_rfl
theorem QF30 : (Try.prog.fieldsOf 30).toList = [Field.mk "Gen" 26 0 false "" "" 0, Field.mk "Epoch" 26 1 false "" "" 4, Field.mk "Root" 28 2 false "" "" 8] := by kernel_rfl
theorem QG28 : Try.prog.eqGuardType Try.prog.depth 28 = false := by kernel_rfl
theorem QG30 : Try.prog.eqGuardType Try.prog.depth 30 = false := by kernel_rfl
theorem QP28 : Try.prog.stoodInHeld 28 = false := by kernel_rfl
theorem QP30 : Try.prog.stoodInHeld 30 = false := by kernel_rfl
theorem QU28 : Try.prog.underlying 28 = some (.struct (Try.prog.fieldsOf 28)) := by kernel_rfl
theorem QU30 : Try.prog.underlying 30 = some (.struct (Try.prog.fieldsOf 30)) := by kernel_rfl
theorem S3 : shapeOf Try.prog 3 = some (false, 1) := by kernel_rfl
theorem S4 : shapeOf Try.prog 4 = some (false, 1) := by kernel_rfl
theorem S5 : shapeOf Try.prog 5 = some (false, 1) := by kernel_rfl
theorem S22 : shapeOf Try.prog 22 = some (false, 1) := by kernel_rfl
theorem S23 : shapeOf Try.prog 23 = some (false, 1) := by kernel_rfl
theorem S25 : shapeOf Try.prog 25 = some (true, 2) := by kernel_rfl
theorem S26 : shapeOf Try.prog 26 = some (false, 1) := by kernel_rfl
theorem S28 : shapeOf Try.prog 28 = some (true, 5) := by kernel_rfl
theorem S30 : shapeOf Try.prog 30 = some (true, 7) := by kernel_rfl
theorem S45 : shapeOf Try.prog 45 = some (false, 1) := by kernel_rfl
theorem S47 : shapeOf Try.prog 47 = some (true, 2) := by kernel_rfl
theorem S57 : shapeOf Try.prog 57 = some (false, 1) := by kernel_rfl
theorem S99 : shapeOf Try.prog 99 = some (true, 5) := by kernel_rfl
theorem S102 : shapeOf Try.prog 102 = some (true, 4) := by kernel_rfl
theorem U3 : Try.prog.underlying 3 = some (.int .i64) := by kernel_rfl
theorem U5 : Try.prog.underlying 5 = some (.int .u8) := by kernel_rfl
theorem U9 : Try.prog.underlying 9 = some (.string) := by kernel_rfl
theorem U22 : Try.prog.underlying 22 = some (.slice 45) := by kernel_rfl
theorem U23 : Try.prog.underlying 23 = some (.slice 47) := by kernel_rfl
theorem U26 : Try.prog.underlying 26 = some (.int .u32) := by kernel_rfl
theorem U38 : Try.prog.underlying 38 = some (.slice 30) := by kernel_rfl
theorem U45 : Try.prog.underlying 45 = some (.slice 5) := by kernel_rfl
theorem U57 : Try.prog.underlying 57 = some (.slice 4) := by kernel_rfl
theorem U72 : Try.prog.underlying 72 = some (.slice 3) := by kernel_rfl
theorem U90 : Try.prog.underlying 90 = some (.int .u64) := by kernel_rfl
theorem U97 : Try.prog.underlying 97 = some (.map 3 47) := by kernel_rfl
theorem U99 : Try.prog.underlying 99 = some (.array 5 3) := by kernel_rfl
theorem U102 : Try.prog.underlying 102 = some (.array 4 26) := by kernel_rfl
theorem Z3 : zeroOf Try.prog 3 = some (.int .i64 0) := by kernel_rfl
theorem Z25 : zeroOf Try.prog 25 = some (.agg #[.slice none 0 0, .slice none 0 0]) := by kernel_rfl
theorem Z28 : zeroOf Try.prog 28 = some (.agg #[.int .i64 0, .int .u32 0, .int .u32 0, .int .u32 0, .int .u32 0]) := by kernel_rfl
theorem Z30 : zeroOf Try.prog 30 = some (.agg #[.int .u32 0, .int .u32 0, .int .i64 0, .int .u32 0, .int .u32 0, .int .u32 0, .int .u32 0]) := by kernel_rfl
theorem Z47 : zeroOf Try.prog 47 = some (.agg #[.int .i64 0, .slice none 0 0]) := by kernel_rfl
theorem Z99 : zeroOf Try.prog 99 = some (.agg #[.int .i64 0, .int .i64 0, .int .i64 0, .int .i64 0, .int .i64 0]) := by kernel_rfl
theorem Z102 : zeroOf Try.prog 102 = some (.agg #[.int .u32 0, .int .u32 0, .int .u32 0, .int .u32 0]) := by kernel_rfl
end Go.Proofs.Ytabnbobdjckdmaa
