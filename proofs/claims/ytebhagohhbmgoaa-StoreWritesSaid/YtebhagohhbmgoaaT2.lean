import Derived.Test.YtebhagohhbmgoaaProg
import Derived.Test.YtebhagohhbmgoaaOwMc
import Derived.KernelRfl
/- closed facts of this program. -/
namespace Go.Proofs.Ytebhagohhbmgoaa
open Go.Ow Go.RowKit Go.Proofs
set_option linter.unusedVariables false
set_option linter.unusedSimpArgs false
theorem B44 : placesOf Try.prog 44 = some [(0, 1), (1, 1)] := by kernel_rfl
theorem B46 : placesOf Try.prog 46 = some [(0, 2), (2, 1), (3, 1), (4, 1)] := by kernel_rfl
theorem B50 : placesOf Try.prog 50 = some [(0, 1), (1, 1), (2, 1), (3, 1), (4, 1)] := by kernel_rfl
theorem B80 : placesOf Try.prog 80 = some [(0, 1), (1, 1)] := by kernel_rfl
theorem B120 : placesA Try.prog 120 4 = some [(0, 1), (1, 1), (2, 1), (3, 1)] := by kernel_rfl
theorem B121 : placesA Try.prog 121 4 = some [(0, 1), (1, 1), (2, 1), (3, 1)] := by kernel_rfl
theorem E11 : Enters Try.prog 11 := ZZ Try.func11 (by kernel_rfl) (by kernel_rfl)
theorem E12 : Enters Try.prog 12 := ZZ Try.func12 (by kernel_rfl) (by kernel_rfl)
theorem E13 : Enters Try.prog 13 := ZZ Try.func13 (by kernel_rfl) (by kernel_rfl)
theorem E14 : Enters Try.prog 14 := ZZ Try.func14 (by kernel_rfl) (by kernel_rfl)
theorem E15 : Enters Try.prog 15 := ZZ Try.func15 (by kernel_rfl) (by kernel_rfl)
theorem E16 : Enters Try.prog 16 := ZZ Try.func16 (by kernel_rfl) (by kernel_rfl)
theorem E17 : Enters Try.prog 17 := ZZ Try.func17 (by kernel_rfl) (by kernel_rfl)
theorem E18 : Enters Try.prog 18 := ZZ Try.func18 (by kernel_rfl) (by kernel_rfl)
theorem E19 : Enters Try.prog 19 := ZZ Try.func19 (by kernel_rfl) (by kernel_rfl)
theorem E20 : Enters Try.prog 20 := ZZ Try.func20 (by kernel_rfl) (by kernel_rfl)
theorem E26 : Enters Try.prog 26 := ZZ Try.func26 (by kernel_rfl) (by kernel_rfl)
theorem E28 : Enters Try.prog 28 := ZZ Try.func28 (by kernel_rfl) (by kernel_rfl)
theorem E30 : Enters Try.prog 30 := ZZ Try.func30 (by kernel_rfl) (by kernel_rfl)
theorem E31 : Enters Try.prog 31 := ZZ Try.func31 (by kernel_rfl) (by kernel_rfl)
theorem E32 : Enters Try.prog 32 := ZZ Try.func32 (by kernel_rfl) (by kernel_rfl)
theorem E33 : Enters Try.prog 33 := ZZ Try.func33 (by kernel_rfl) (by kernel_rfl)
theorem E34 : Enters Try.prog 34 := ZZ Try.func34 (by kernel_rfl) (by kernel_rfl)
theorem E35 : Enters Try.prog 35 := ZZ Try.func35 (by kernel_rfl) (by kernel_rfl)
theorem E36 : Enters Try.prog 36 := ZZ Try.func36 (by kernel_rfl) (by kernel_rfl)
theorem E37 : Enters Try.prog 37 := ZZ Try.func37 (by kernel_rfl) (by kernel_rfl)
theorem E38 : Enters Try.prog 38 := ZZ Try.func38 (by kernel_rfl) (by kernel_rfl)
theorem E47 : Enters Try.prog 47 := ZZ Try.func47 (by kernel_rfl) (by kernel_rfl)
theorem E48 : Enters Try.prog 48 := ZZ Try.func48 (by kernel_rfl) (by kernel_rfl)
theorem E49 : Enters Try.prog 49 := ZZ Try.func49 (by kernel_rfl) (by kernel_rfl)
theorem E50 : Enters Try.prog 50 := ZZ Try.func50 (by kernel_rfl) (by kernel_rfl)
theorem E51 : Enters Try.prog 51 := ZZ Try.func51 (by kernel_rfl) (by kernel_rfl)
theorem E52 : Enters Try.prog 52 := ZZ Try.func52 (by kernel_rfl) (by kernel_rfl)
theorem E53 : Enters Try.prog 53 := ZZ Try.func53 (by kernel_rfl) (by kernel_rfl)
theorem E54 : Enters Try.prog 54 := ZZ Try.func54 (by kernel_rfl) (by kernel_rfl)
theorem E55 : Enters Try.prog 55 := ZZ Try.func55 (by kernel_rfl) (by kernel_rfl)
theorem E56 : Enters Try.prog 56 := ZZ Try.func56 (by kernel_rfl) (by kernel_rfl)
theorem E57 : Enters Try.prog 57 := ZZ Try.func57 (by kernel_rfl) (by kernel_rfl)
theorem E58 : Enters Try.prog 58 := ZZ Try.func58 (by kernel_rfl) (by kernel_rfl)
theorem E59 : Enters Try.prog 59 := ZZ Try.func59 (by kernel_rfl) (by kernel_rfl)
theorem E60 : Enters Try.prog 60 := ZZ Try.func60 (by kernel_rfl) (by kernel_rfl)
theorem E61 : Enters Try.prog 61 := ZZ Try.func61 (by kernel_rfl) (by kernel_rfl)
theorem E62 : Enters Try.prog 62 := ZZ Try.func62 (by kernel_rfl) (by kernel_rfl)
theorem E63 : Enters Try.prog 63 := ZZ Try.func63 (by kernel_rfl) (by kernel_rfl)
theorem E66 : Enters Try.prog 66 := ZZ Try.func66 (by kernel_rfl) (by kernel_rfl)
theorem E68 : Enters Try.prog 68 := ZZ Try.func68 (by kernel_rfl) (by kernel_rfl)
theorem E69 : Enters Try.prog 69 := ZZ Try.func69 (by kernel_rfl) (by kernel_rfl)
theorem E70 : Enters Try.prog 70 := ZZ Try.func70 (by kernel_rfl) (by kernel_rfl)
theorem E71 : Enters Try.prog 71 := ZZ Try.func71 (by kernel_rfl) (by kernel_rfl)
theorem E72 : Enters Try.prog 72 := ZZ Try.func72 (by kernel_rfl) (by kernel_rfl)
theorem E73 : Enters Try.prog 73 := ZZ Try.func73 (by kernel_rfl) (by kernel_rfl)
theorem E74 : Enters Try.prog 74 := ZZ Try.func74 (by kernel_rfl) (by kernel_rfl)
theorem E75 : Enters Try.prog 75 := ZZ Try.func75 (by kernel_rfl) (by kernel_rfl)
theorem E76 : Enters Try.prog 76 := ZZ Try.func76 (by kernel_rfl) (by kernel_rfl)
theorem E77 : Enters Try.prog 77 := ZZ Try.func77 (by kernel_rfl) (by kernel_rfl)
theorem E78 : Enters Try.prog 78 := ZZ Try.func78 (by kernel_rfl) (by kernel_rfl)
theorem E79 : Enters Try.prog 79 := ZZ Try.func79 (by kernel_rfl) (by kernel_rfl)
theorem E80 : Enters Try.prog 80 := ZZ Try.func80 (by kernel_rfl) (by kernel_rfl)
theorem E81 : Enters Try.prog 81 := ZZ Try.func81 (by kernel_rfl) (by kernel_rfl)
theorem E82 : Enters Try.prog 82 := ZZ Try.func82 (by kernel_rfl) (by kernel_rfl)
theorem E83 : Enters Try.prog 83 := ZZ Try.func83 (by kernel_rfl) (by kernel_rfl)
theorem E84 : Enters Try.prog 84 := ZZ Try.func84 (by kernel_rfl) (by kernel_rfl)
theorem E85 : Enters Try.prog 85 := ZZ Try.func85 (by kernel_rfl) (by kernel_rfl)
theorem E86 : Enters Try.prog 86 := ZZ Try.func86 (by kernel_rfl) (by kernel_rfl)
theorem E89 : Enters Try.prog 89 := ZZ Try.func89 (by kernel_rfl) (by kernel_rfl)
theorem E90 : Enters Try.prog 90 := ZZ Try.func90 (by kernel_rfl) (by kernel_rfl)
theorem E91 : Enters Try.prog 91 := ZZ Try.func91 (by kernel_rfl) (by kernel_rfl)
theorem E92 : Enters Try.prog 92 := ZZ Try.func92 (by kernel_rfl) (by kernel_rfl)
theorem E93 : Enters Try.prog 93 := ZZ Try.func93 (by kernel_rfl) (by kernel_rfl)
theorem E94 : Enters Try.prog 94 := ZZ Try.func94 (by kernel_rfl) (by kernel_rfl)
theorem E95 : Enters Try.prog 95 := ZZ Try.func95 (by kernel_rfl) (by kernel_rfl)
theorem E96 : Enters Try.prog 96 := ZZ Try.func96 (by kernel_rfl) (by kernel_rfl)
theorem E97 : Enters Try.prog 97 := ZZ Try.func97 (by kernel_rfl) (by kernel_rfl)
theorem E98 : Enters Try.prog 98 := ZZ Try.func98 (by kernel_rfl) (by kernel_rfl)
theorem E99 : Enters Try.prog 99 := ZZ Try.func99 (by kernel_rfl) (by kernel_rfl)
theorem E100 : Enters Try.prog 100 := ZZ Try.func100 (by kernel_rfl) (by kernel_rfl)
theorem E101 : Enters Try.prog 101 := ZZ Try.func101 (by kernel_rfl) (by kernel_rfl)
theorem E102 : Enters Try.prog 102 := ZZ Try.func102 (by kernel_rfl) (by kernel_rfl)
theorem E103 : Enters Try.prog 103 := ZZ Try.func103 (by kernel_rfl) (by kernel_rfl)
theorem E105 : Enters Try.prog 105 := ZZ Try.func105 (by kernel_rfl) (by kernel_rfl)
theorem E107 : Enters Try.prog 107 := ZZ Try.func107 (by kernel_rfl) (by kernel_rfl)
theorem E108 : Enters Try.prog 108 := ZZ Try.func108 (by kernel_rfl) (by kernel_rfl)
theorem E109 : Enters Try.prog 109 := ZZ Try.func109 (by kernel_rfl) (by kernel_rfl)
theorem E110 : Enters Try.prog 110 := ZZ Try.func110 (by kernel_rfl) (by kernel_rfl)
theorem E111 : Enters Try.prog 111 := ZZ Try.func111 (by kernel_rfl) (by kernel_rfl)
theorem E112 : Enters Try.prog 112 := ZZ Try.func112 (by kernel_rfl) (by kernel_rfl)
theorem E113 : Enters Try.prog 113 := ZZ Try.func113 (by kernel_rfl) (by kernel_rfl)
theorem E114 : Enters Try.prog 114 := ZZ Try.func114 (by kernel_rfl) (by kernel_rfl)
theorem E115 : Enters Try.prog 115 := ZZ Try.func115 (by kernel_rfl) (by kernel_rfl)
theorem E116 : Enters Try.prog 116 := ZZ Try.func116 (by kernel_rfl) (by kernel_rfl)
theorem E123 : Enters Try.prog 123 := ZZ Try.func123 (by kernel_rfl) (by kernel_rfl)
theorem E124 : Enters Try.prog 124 := ZZ Try.func124 (by kernel_rfl) (by kernel_rfl)
theorem E125 : Enters Try.prog 125 := ZZ Try.func125 (by kernel_rfl) (by kernel_rfl)
theorem F44_0 : fieldOff Try.prog 44 0 = some 0 := by kernel_rfl
theorem F44_1 : fieldOff Try.prog 44 1 = some 1 := by kernel_rfl
theorem F46_0 : fieldOff Try.prog 46 0 = some 0 := by kernel_rfl
theorem F46_1 : fieldOff Try.prog 46 1 = some 2 := by kernel_rfl
theorem F46_2 : fieldOff Try.prog 46 2 = some 3 := by kernel_rfl
theorem F46_3 : fieldOff Try.prog 46 3 = some 4 := by kernel_rfl
theorem F50_0 : fieldOff Try.prog 50 0 = some 0 := by kernel_rfl
theorem F50_4 : fieldOff Try.prog 50 4 = some 4 := by kernel_rfl
theorem F80_0 : fieldOff Try.prog 80 0 = some 0 := by kernel_rfl
theorem F80_1 : fieldOff Try.prog 80 1 = some 1 := by kernel_rfl
theorem I3 : eInfo Try.prog 3 = some (.int .i64 0, 1, 8) := by kernel_rfl
theorem I5 : eInfo Try.prog 5 = some (.int .u8 0, 1, 1) := by kernel_rfl
theorem I23 : eInfo Try.prog 23 = some (.slice none 0 0, 1, 24) := by kernel_rfl
theorem I80 : eInfo Try.prog 80 = some (.agg #[.int .i64 0, .slice none 0 0], 2, 32) := by kernel_rfl
theorem Mixed : Try.prog.follows .mixedOrders = true := by kernel_rfl
theorem QF50 : (Try.prog.fieldsOf 50).toList = [Field.mk "At" 3 0 false "" "" 0, Field.mk "Birth" 22 1 false "" "" 8, Field.mk "Iv" 22 2 false "" "" 12, Field.mk "Tag" 22 3 false "" "" 16, Field.mk "Sum" 22 4 false "" "" 20] := by kernel_rfl
theorem QG50 : Try.prog.eqGuardType Try.prog.depth 50 = false := by kernel_rfl
theorem QP50 : Try.prog.stoodInHeld 50 = false := by kernel_rfl
theorem QU50 : Try.prog.underlying 50 = some (.struct (Try.prog.fieldsOf 50)) := by kernel_rfl
theorem S3 : shapeOf Try.prog 3 = some (false, 1) := by kernel_rfl
theorem S5 : shapeOf Try.prog 5 = some (false, 1) := by kernel_rfl
theorem S22 : shapeOf Try.prog 22 = some (false, 1) := by kernel_rfl
theorem S23 : shapeOf Try.prog 23 = some (false, 1) := by kernel_rfl
theorem S41 : shapeOf Try.prog 41 = some (false, 1) := by kernel_rfl
theorem S42 : shapeOf Try.prog 42 = some (false, 1) := by kernel_rfl
theorem S44 : shapeOf Try.prog 44 = some (true, 2) := by kernel_rfl
theorem S46 : shapeOf Try.prog 46 = some (true, 5) := by kernel_rfl
theorem S50 : shapeOf Try.prog 50 = some (true, 5) := by kernel_rfl
theorem S80 : shapeOf Try.prog 80 = some (true, 2) := by kernel_rfl
theorem S120 : shapeOf Try.prog 120 = some (true, 4) := by kernel_rfl
theorem S121 : shapeOf Try.prog 121 = some (true, 4) := by kernel_rfl
theorem U3 : Try.prog.underlying 3 = some (.int .i64) := by kernel_rfl
theorem U5 : Try.prog.underlying 5 = some (.int .u8) := by kernel_rfl
theorem U9 : Try.prog.underlying 9 = some (.string) := by kernel_rfl
theorem U22 : Try.prog.underlying 22 = some (.int .u32) := by kernel_rfl
theorem U23 : Try.prog.underlying 23 = some (.slice 5) := by kernel_rfl
theorem U41 : Try.prog.underlying 41 = some (.slice 23) := by kernel_rfl
theorem U42 : Try.prog.underlying 42 = some (.slice 80) := by kernel_rfl
theorem U72 : Try.prog.underlying 72 = some (.int .u64) := by kernel_rfl
theorem U105 : Try.prog.underlying 105 = some (.slice 3) := by kernel_rfl
theorem U120 : Try.prog.underlying 120 = some (.array 4 22) := by kernel_rfl
theorem U121 : Try.prog.underlying 121 = some (.array 4 22) := by kernel_rfl
theorem Z3 : zeroOf Try.prog 3 = some (.int .i64 0) := by kernel_rfl
theorem Z23 : zeroOf Try.prog 23 = some (.slice none 0 0) := by kernel_rfl
theorem Z44 : zeroOf Try.prog 44 = some (.agg #[.slice none 0 0, .slice none 0 0]) := by kernel_rfl
theorem Z46 : zeroOf Try.prog 46 = some (.agg #[.slice none 0 0, .slice none 0 0, .slice none 0 0, .int .u32 0, .int .u32 0]) := by kernel_rfl
theorem Z50 : zeroOf Try.prog 50 = some (.agg #[.int .i64 0, .int .u32 0, .int .u32 0, .int .u32 0, .int .u32 0]) := by kernel_rfl
theorem Z80 : zeroOf Try.prog 80 = some (.agg #[.int .i64 0, .slice none 0 0]) := by kernel_rfl
theorem Z120 : zeroOf Try.prog 120 = some (.agg #[.int .u32 0, .int .u32 0, .int .u32 0, .int .u32 0]) := by kernel_rfl
theorem Z121 : zeroOf Try.prog 121 = some (.agg #[.int .u32 0, .int .u32 0, .int .u32 0, .int .u32 0]) := by kernel_rfl
end Go.Proofs.Ytebhagohhbmgoaa
