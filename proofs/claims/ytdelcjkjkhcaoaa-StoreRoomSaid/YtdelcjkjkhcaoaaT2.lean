/- closed facts of this program. -/
import Derived.Test.YtdelcjkjkhcaoaaProg
import Derived.Test.YtdelcjkjkhcaoaaOwZD
import Derived.KernelRfl
namespace Go.Proofs.Ytdelcjkjkhcaoaa
open Go.Ow Go.RowKit Go.Proofs
set_option linter.unusedVariables false
set_option linter.unusedSimpArgs false
theorem B25 : placesOf Try.prog 25 = some [(0, 1), (1, 1)] := by kernel_rfl
theorem B29 : placesOf Try.prog 29 = some [(0, 2), (2, 1), (3, 1), (4, 1)] := by kernel_rfl
theorem B33 : placesOf Try.prog 33 = some [(0, 1), (1, 1), (2, 1), (3, 1), (4, 1)] := by kernel_rfl
theorem B72 : placesOf Try.prog 72 = some [(0, 1), (1, 1)] := by kernel_rfl
theorem B82 : placesA Try.prog 82 4 = some [(0, 1), (1, 1), (2, 1), (3, 1)] := by kernel_rfl
theorem E8 : Enters Try.prog 8 := enters_of Try.func8 (by kernel_rfl) (by kernel_rfl)
theorem E10 : Enters Try.prog 10 := enters_of Try.func10 (by kernel_rfl) (by kernel_rfl)
theorem E12 : Enters Try.prog 12 := enters_of Try.func12 (by kernel_rfl) (by kernel_rfl)
theorem E14 : Enters Try.prog 14 := enters_of Try.func14 (by kernel_rfl) (by kernel_rfl)
theorem E18 : Enters Try.prog 18 := enters_of Try.func18 (by kernel_rfl) (by kernel_rfl)
theorem E19 : Enters Try.prog 19 := enters_of Try.func19 (by kernel_rfl) (by kernel_rfl)
theorem E20 : Enters Try.prog 20 := enters_of Try.func20 (by kernel_rfl) (by kernel_rfl)
theorem E23 : Enters Try.prog 23 := enters_of Try.func23 (by kernel_rfl) (by kernel_rfl)
theorem E24 : Enters Try.prog 24 := enters_of Try.func24 (by kernel_rfl) (by kernel_rfl)
theorem E25 : Enters Try.prog 25 := enters_of Try.func25 (by kernel_rfl) (by kernel_rfl)
theorem E26 : Enters Try.prog 26 := enters_of Try.func26 (by kernel_rfl) (by kernel_rfl)
theorem E28 : Enters Try.prog 28 := enters_of Try.func28 (by kernel_rfl) (by kernel_rfl)
theorem E29 : Enters Try.prog 29 := enters_of Try.func29 (by kernel_rfl) (by kernel_rfl)
theorem E30 : Enters Try.prog 30 := enters_of Try.func30 (by kernel_rfl) (by kernel_rfl)
theorem E35 : Enters Try.prog 35 := enters_of Try.func35 (by kernel_rfl) (by kernel_rfl)
theorem E36 : Enters Try.prog 36 := enters_of Try.func36 (by kernel_rfl) (by kernel_rfl)
theorem E37 : Enters Try.prog 37 := enters_of Try.func37 (by kernel_rfl) (by kernel_rfl)
theorem E38 : Enters Try.prog 38 := enters_of Try.func38 (by kernel_rfl) (by kernel_rfl)
theorem E39 : Enters Try.prog 39 := enters_of Try.func39 (by kernel_rfl) (by kernel_rfl)
theorem E40 : Enters Try.prog 40 := enters_of Try.func40 (by kernel_rfl) (by kernel_rfl)
theorem E42 : Enters Try.prog 42 := enters_of Try.func42 (by kernel_rfl) (by kernel_rfl)
theorem E43 : Enters Try.prog 43 := enters_of Try.func43 (by kernel_rfl) (by kernel_rfl)
theorem E44 : Enters Try.prog 44 := enters_of Try.func44 (by kernel_rfl) (by kernel_rfl)
theorem E46 : Enters Try.prog 46 := enters_of Try.func46 (by kernel_rfl) (by kernel_rfl)
theorem E47 : Enters Try.prog 47 := enters_of Try.func47 (by kernel_rfl) (by kernel_rfl)
theorem E48 : Enters Try.prog 48 := enters_of Try.func48 (by kernel_rfl) (by kernel_rfl)
theorem E49 : Enters Try.prog 49 := enters_of Try.func49 (by kernel_rfl) (by kernel_rfl)
theorem E50 : Enters Try.prog 50 := enters_of Try.func50 (by kernel_rfl) (by kernel_rfl)
theorem E51 : Enters Try.prog 51 := enters_of Try.func51 (by kernel_rfl) (by kernel_rfl)
theorem E52 : Enters Try.prog 52 := enters_of Try.func52 (by kernel_rfl) (by kernel_rfl)
theorem E53 : Enters Try.prog 53 := enters_of Try.func53 (by kernel_rfl) (by kernel_rfl)
theorem E54 : Enters Try.prog 54 := enters_of Try.func54 (by kernel_rfl) (by kernel_rfl)
theorem E62 : Enters Try.prog 62 := enters_of Try.func62 (by kernel_rfl) (by kernel_rfl)
theorem E63 : Enters Try.prog 63 := enters_of Try.func63 (by kernel_rfl) (by kernel_rfl)
theorem E64 : Enters Try.prog 64 := enters_of Try.func64 (by kernel_rfl) (by kernel_rfl)
theorem E65 : Enters Try.prog 65 := enters_of Try.func65 (by kernel_rfl) (by kernel_rfl)
theorem E66 : Enters Try.prog 66 := enters_of Try.func66 (by kernel_rfl) (by kernel_rfl)
theorem E67 : Enters Try.prog 67 := enters_of Try.func67 (by kernel_rfl) (by kernel_rfl)
theorem E68 : Enters Try.prog 68 := enters_of Try.func68 (by kernel_rfl) (by kernel_rfl)
theorem E69 : Enters Try.prog 69 := enters_of Try.func69 (by kernel_rfl) (by kernel_rfl)
theorem E70 : Enters Try.prog 70 := enters_of Try.func70 (by kernel_rfl) (by kernel_rfl)
theorem E71 : Enters Try.prog 71 := enters_of Try.func71 (by kernel_rfl) (by kernel_rfl)
theorem E72 : Enters Try.prog 72 := enters_of Try.func72 (by kernel_rfl) (by kernel_rfl)
theorem E73 : Enters Try.prog 73 := enters_of Try.func73 (by kernel_rfl) (by kernel_rfl)
theorem E74 : Enters Try.prog 74 := enters_of Try.func74 (by kernel_rfl) (by kernel_rfl)
theorem E75 : Enters Try.prog 75 := enters_of Try.func75 (by kernel_rfl) (by kernel_rfl)
theorem E76 : Enters Try.prog 76 := enters_of Try.func76 (by kernel_rfl) (by kernel_rfl)
theorem E77 : Enters Try.prog 77 := enters_of Try.func77 (by kernel_rfl) (by kernel_rfl)
theorem E78 : Enters Try.prog 78 := enters_of Try.func78 (by kernel_rfl) (by kernel_rfl)
theorem E79 : Enters Try.prog 79 := enters_of Try.func79 (by kernel_rfl) (by kernel_rfl)
theorem E80 : Enters Try.prog 80 := enters_of Try.func80 (by kernel_rfl) (by kernel_rfl)
theorem E81 : Enters Try.prog 81 := enters_of Try.func81 (by kernel_rfl) (by kernel_rfl)
theorem E82 : Enters Try.prog 82 := enters_of Try.func82 (by kernel_rfl) (by kernel_rfl)
theorem E83 : Enters Try.prog 83 := enters_of Try.func83 (by kernel_rfl) (by kernel_rfl)
theorem E89 : Enters Try.prog 89 := enters_of Try.func89 (by kernel_rfl) (by kernel_rfl)
theorem E91 : Enters Try.prog 91 := enters_of Try.func91 (by kernel_rfl) (by kernel_rfl)
theorem E92 : Enters Try.prog 92 := enters_of Try.func92 (by kernel_rfl) (by kernel_rfl)
theorem E93 : Enters Try.prog 93 := enters_of Try.func93 (by kernel_rfl) (by kernel_rfl)
theorem E94 : Enters Try.prog 94 := enters_of Try.func94 (by kernel_rfl) (by kernel_rfl)
theorem E96 : Enters Try.prog 96 := enters_of Try.func96 (by kernel_rfl) (by kernel_rfl)
theorem E97 : Enters Try.prog 97 := enters_of Try.func97 (by kernel_rfl) (by kernel_rfl)
theorem E98 : Enters Try.prog 98 := enters_of Try.func98 (by kernel_rfl) (by kernel_rfl)
theorem E99 : Enters Try.prog 99 := enters_of Try.func99 (by kernel_rfl) (by kernel_rfl)
theorem E100 : Enters Try.prog 100 := enters_of Try.func100 (by kernel_rfl) (by kernel_rfl)
theorem E107 : Enters Try.prog 107 := enters_of Try.func107 (by kernel_rfl) (by kernel_rfl)
theorem E108 : Enters Try.prog 108 := enters_of Try.func108 (by kernel_rfl) (by kernel_rfl)
theorem E109 : Enters Try.prog 109 := enters_of Try.func109 (by kernel_rfl) (by kernel_rfl)
theorem E110 : Enters Try.prog 110 := enters_of Try.func110 (by kernel_rfl) (by kernel_rfl)
theorem E117 : Enters Try.prog 117 := enters_of Try.func117 (by kernel_rfl) (by kernel_rfl)
theorem E118 : Enters Try.prog 118 := enters_of Try.func118 (by kernel_rfl) (by kernel_rfl)
theorem E125 : Enters Try.prog 125 := enters_of Try.func125 (by kernel_rfl) (by kernel_rfl)
theorem E128 : Enters Try.prog 128 := enters_of Try.func128 (by kernel_rfl) (by kernel_rfl)
theorem F25_0 : fieldOff Try.prog 25 0 = some 0 := by kernel_rfl
theorem F25_1 : fieldOff Try.prog 25 1 = some 1 := by kernel_rfl
theorem F29_0 : fieldOff Try.prog 29 0 = some 0 := by kernel_rfl
theorem F29_1 : fieldOff Try.prog 29 1 = some 2 := by kernel_rfl
theorem F29_2 : fieldOff Try.prog 29 2 = some 3 := by kernel_rfl
theorem F29_3 : fieldOff Try.prog 29 3 = some 4 := by kernel_rfl
theorem F33_0 : fieldOff Try.prog 33 0 = some 0 := by kernel_rfl
theorem F33_1 : fieldOff Try.prog 33 1 = some 1 := by kernel_rfl
theorem F33_2 : fieldOff Try.prog 33 2 = some 2 := by kernel_rfl
theorem F33_3 : fieldOff Try.prog 33 3 = some 3 := by kernel_rfl
theorem F33_4 : fieldOff Try.prog 33 4 = some 4 := by kernel_rfl
theorem F72_0 : fieldOff Try.prog 72 0 = some 0 := by kernel_rfl
theorem F72_1 : fieldOff Try.prog 72 1 = some 1 := by kernel_rfl
theorem I3 : eInfo Try.prog 3 = some (.int .i64 0, 1, 8) := by kernel_rfl
theorem I5 : eInfo Try.prog 5 = some (.int .u8 0, 1, 1) := by kernel_rfl
theorem I26 : eInfo Try.prog 26 = some (.slice none 0 0, 1, 24) := by kernel_rfl
theorem I72 : eInfo Try.prog 72 = some (.agg #[.int .i64 0, .slice none 0 0], 2, 32) := by kernel_rfl
theorem Mixed : Try.prog.follows .mixedOrders = true := by kernel_rfl
theorem QF33 : (Try.prog.fieldsOf 33).toList = [Field.mk "At" 3 0 false "" "" 0, Field.mk "Birth" 27 1 false "" "" 8, Field.mk "Iv" 27 2 false "" "" 12, Field.mk "Tag" 27 3 false "" "" 16, Field.mk "Sum" 27 4 false "" "" 20] := by kernel_rfl
theorem QG33 : Try.prog.eqGuardType Try.prog.depth 33 = false := by kernel_rfl
theorem QP33 : Try.prog.stoodInHeld 33 = false := by kernel_rfl
theorem QU33 : Try.prog.underlying 33 = some (.struct (Try.prog.fieldsOf 33)) := by kernel_rfl
theorem S3 : shapeOf Try.prog 3 = some (false, 1) := by kernel_rfl
theorem S5 : shapeOf Try.prog 5 = some (false, 1) := by kernel_rfl
theorem S22 : shapeOf Try.prog 22 = some (false, 1) := by kernel_rfl
theorem S23 : shapeOf Try.prog 23 = some (false, 1) := by kernel_rfl
theorem S25 : shapeOf Try.prog 25 = some (true, 2) := by kernel_rfl
theorem S26 : shapeOf Try.prog 26 = some (false, 1) := by kernel_rfl
theorem S27 : shapeOf Try.prog 27 = some (false, 1) := by kernel_rfl
theorem S29 : shapeOf Try.prog 29 = some (true, 5) := by kernel_rfl
theorem S33 : shapeOf Try.prog 33 = some (true, 5) := by kernel_rfl
theorem S72 : shapeOf Try.prog 72 = some (true, 2) := by kernel_rfl
theorem S82 : shapeOf Try.prog 82 = some (true, 4) := by kernel_rfl
theorem U3 : Try.prog.underlying 3 = some (.int .i64) := by kernel_rfl
theorem U4 : Try.prog.underlying 4 = some (.bool) := by kernel_rfl
theorem U5 : Try.prog.underlying 5 = some (.int .u8) := by kernel_rfl
theorem U9 : Try.prog.underlying 9 = some (.string) := by kernel_rfl
theorem U22 : Try.prog.underlying 22 = some (.slice 26) := by kernel_rfl
theorem U23 : Try.prog.underlying 23 = some (.slice 72) := by kernel_rfl
theorem U26 : Try.prog.underlying 26 = some (.slice 5) := by kernel_rfl
theorem U27 : Try.prog.underlying 27 = some (.int .u32) := by kernel_rfl
theorem U47 : Try.prog.underlying 47 = some (.int .u64) := by kernel_rfl
theorem U58 : Try.prog.underlying 58 = some (.slice 3) := by kernel_rfl
theorem U82 : Try.prog.underlying 82 = some (.array 4 27) := by kernel_rfl
theorem U105 : Try.prog.underlying 105 = some (.map 3 72) := by kernel_rfl
theorem Z3 : zeroOf Try.prog 3 = some (.int .i64 0) := by kernel_rfl
theorem Z25 : zeroOf Try.prog 25 = some (.agg #[.slice none 0 0, .slice none 0 0]) := by kernel_rfl
theorem Z26 : zeroOf Try.prog 26 = some (.slice none 0 0) := by kernel_rfl
theorem Z29 : zeroOf Try.prog 29 = some (.agg #[.slice none 0 0, .slice none 0 0, .slice none 0 0, .int .u32 0, .int .u32 0]) := by kernel_rfl
theorem Z33 : zeroOf Try.prog 33 = some (.agg #[.int .i64 0, .int .u32 0, .int .u32 0, .int .u32 0, .int .u32 0]) := by kernel_rfl
theorem Z72 : zeroOf Try.prog 72 = some (.agg #[.int .i64 0, .slice none 0 0]) := by kernel_rfl
theorem Z82 : zeroOf Try.prog 82 = some (.agg #[.int .u32 0, .int .u32 0, .int .u32 0, .int .u32 0]) := by kernel_rfl
end Go.Proofs.Ytdelcjkjkhcaoaa
