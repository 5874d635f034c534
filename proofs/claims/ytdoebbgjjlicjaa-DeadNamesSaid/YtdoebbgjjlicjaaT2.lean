import Derived.Test.YtdoebbgjjlicjaaProg
import Derived.Test.YtdoebbgjjlicjaaOwMc
import Derived.KernelRfl
/- closed facts of this program. -/
namespace Go.Proofs.Ytdoebbgjjlicjaa
open Go.Ow Go.RowKit Go.Proofs
set_option linter.unusedVariables false
set_option linter.unusedSimpArgs false
theorem B25 : placesOf Try.prog 25 = some [(0, 1), (1, 1)] := by kernel_rfl
theorem B28 : placesOf Try.prog 28 = some [(0, 1), (1, 1), (2, 1), (3, 1), (4, 1)] := by kernel_rfl
theorem B47 : placesOf Try.prog 47 = some [(0, 1), (1, 1)] := by kernel_rfl
theorem B50 : placesOf Try.prog 50 = some [(0, 2), (2, 1), (3, 1), (4, 1)] := by kernel_rfl
theorem B158 : placesA Try.prog 158 5 = some [(0, 1), (1, 1), (2, 1), (3, 1), (4, 1)] := by kernel_rfl
theorem B161 : placesA Try.prog 161 4 = some [(0, 1), (1, 1), (2, 1), (3, 1)] := by kernel_rfl
theorem E26 : Enters Try.prog 26 := ZY Try.func26 (by kernel_rfl) (by kernel_rfl)
theorem E27 : Enters Try.prog 27 := ZY Try.func27 (by kernel_rfl) (by kernel_rfl)
theorem E29 : Enters Try.prog 29 := ZY Try.func29 (by kernel_rfl) (by kernel_rfl)
theorem E30 : Enters Try.prog 30 := ZY Try.func30 (by kernel_rfl) (by kernel_rfl)
theorem E31 : Enters Try.prog 31 := ZY Try.func31 (by kernel_rfl) (by kernel_rfl)
theorem E32 : Enters Try.prog 32 := ZY Try.func32 (by kernel_rfl) (by kernel_rfl)
theorem E33 : Enters Try.prog 33 := ZY Try.func33 (by kernel_rfl) (by kernel_rfl)
theorem E34 : Enters Try.prog 34 := ZY Try.func34 (by kernel_rfl) (by kernel_rfl)
theorem E35 : Enters Try.prog 35 := ZY Try.func35 (by kernel_rfl) (by kernel_rfl)
theorem E36 : Enters Try.prog 36 := ZY Try.func36 (by kernel_rfl) (by kernel_rfl)
theorem E38 : Enters Try.prog 38 := ZY Try.func38 (by kernel_rfl) (by kernel_rfl)
theorem E49 : Enters Try.prog 49 := ZY Try.func49 (by kernel_rfl) (by kernel_rfl)
theorem E53 : Enters Try.prog 53 := ZY Try.func53 (by kernel_rfl) (by kernel_rfl)
theorem E57 : Enters Try.prog 57 := ZY Try.func57 (by kernel_rfl) (by kernel_rfl)
theorem E58 : Enters Try.prog 58 := ZY Try.func58 (by kernel_rfl) (by kernel_rfl)
theorem E60 : Enters Try.prog 60 := ZY Try.func60 (by kernel_rfl) (by kernel_rfl)
theorem E61 : Enters Try.prog 61 := ZY Try.func61 (by kernel_rfl) (by kernel_rfl)
theorem E62 : Enters Try.prog 62 := ZY Try.func62 (by kernel_rfl) (by kernel_rfl)
theorem E63 : Enters Try.prog 63 := ZY Try.func63 (by kernel_rfl) (by kernel_rfl)
theorem E64 : Enters Try.prog 64 := ZY Try.func64 (by kernel_rfl) (by kernel_rfl)
theorem E65 : Enters Try.prog 65 := ZY Try.func65 (by kernel_rfl) (by kernel_rfl)
theorem E66 : Enters Try.prog 66 := ZY Try.func66 (by kernel_rfl) (by kernel_rfl)
theorem E67 : Enters Try.prog 67 := ZY Try.func67 (by kernel_rfl) (by kernel_rfl)
theorem E68 : Enters Try.prog 68 := ZY Try.func68 (by kernel_rfl) (by kernel_rfl)
theorem E69 : Enters Try.prog 69 := ZY Try.func69 (by kernel_rfl) (by kernel_rfl)
theorem E70 : Enters Try.prog 70 := ZY Try.func70 (by kernel_rfl) (by kernel_rfl)
theorem E71 : Enters Try.prog 71 := ZY Try.func71 (by kernel_rfl) (by kernel_rfl)
theorem E72 : Enters Try.prog 72 := ZY Try.func72 (by kernel_rfl) (by kernel_rfl)
theorem E73 : Enters Try.prog 73 := ZY Try.func73 (by kernel_rfl) (by kernel_rfl)
theorem E74 : Enters Try.prog 74 := ZY Try.func74 (by kernel_rfl) (by kernel_rfl)
theorem E83 : Enters Try.prog 83 := ZY Try.func83 (by kernel_rfl) (by kernel_rfl)
theorem E95 : Enters Try.prog 95 := ZY Try.func95 (by kernel_rfl) (by kernel_rfl)
theorem E96 : Enters Try.prog 96 := ZY Try.func96 (by kernel_rfl) (by kernel_rfl)
theorem E97 : Enters Try.prog 97 := ZY Try.func97 (by kernel_rfl) (by kernel_rfl)
theorem E98 : Enters Try.prog 98 := ZY Try.func98 (by kernel_rfl) (by kernel_rfl)
theorem E99 : Enters Try.prog 99 := ZY Try.func99 (by kernel_rfl) (by kernel_rfl)
theorem E100 : Enters Try.prog 100 := ZY Try.func100 (by kernel_rfl) (by kernel_rfl)
theorem E101 : Enters Try.prog 101 := ZY Try.func101 (by kernel_rfl) (by kernel_rfl)
theorem E102 : Enters Try.prog 102 := ZY Try.func102 (by kernel_rfl) (by kernel_rfl)
theorem E103 : Enters Try.prog 103 := ZY Try.func103 (by kernel_rfl) (by kernel_rfl)
theorem E104 : Enters Try.prog 104 := ZY Try.func104 (by kernel_rfl) (by kernel_rfl)
theorem E105 : Enters Try.prog 105 := ZY Try.func105 (by kernel_rfl) (by kernel_rfl)
theorem E106 : Enters Try.prog 106 := ZY Try.func106 (by kernel_rfl) (by kernel_rfl)
theorem E107 : Enters Try.prog 107 := ZY Try.func107 (by kernel_rfl) (by kernel_rfl)
theorem E108 : Enters Try.prog 108 := ZY Try.func108 (by kernel_rfl) (by kernel_rfl)
theorem E109 : Enters Try.prog 109 := ZY Try.func109 (by kernel_rfl) (by kernel_rfl)
theorem E110 : Enters Try.prog 110 := ZY Try.func110 (by kernel_rfl) (by kernel_rfl)
theorem E111 : Enters Try.prog 111 := ZY Try.func111 (by kernel_rfl) (by kernel_rfl)
theorem E112 : Enters Try.prog 112 := ZY Try.func112 (by kernel_rfl) (by kernel_rfl)
theorem E113 : Enters Try.prog 113 := ZY Try.func113 (by kernel_rfl) (by kernel_rfl)
theorem E119 : Enters Try.prog 119 := ZY Try.func119 (by kernel_rfl) (by kernel_rfl)
theorem E136 : Enters Try.prog 136 := ZY Try.func136 (by kernel_rfl) (by kernel_rfl)
theorem E137 : Enters Try.prog 137 := ZY Try.func137 (by kernel_rfl) (by kernel_rfl)
theorem E139 : Enters Try.prog 139 := ZY Try.func139 (by kernel_rfl) (by kernel_rfl)
theorem E140 : Enters Try.prog 140 := ZY Try.func140 (by kernel_rfl) (by kernel_rfl)
theorem E141 : Enters Try.prog 141 := ZY Try.func141 (by kernel_rfl) (by kernel_rfl)
theorem E143 : Enters Try.prog 143 := ZY Try.func143 (by kernel_rfl) (by kernel_rfl)
theorem E145 : Enters Try.prog 145 := ZY Try.func145 (by kernel_rfl) (by kernel_rfl)
theorem E146 : Enters Try.prog 146 := ZY Try.func146 (by kernel_rfl) (by kernel_rfl)
theorem E147 : Enters Try.prog 147 := ZY Try.func147 (by kernel_rfl) (by kernel_rfl)
theorem E148 : Enters Try.prog 148 := ZY Try.func148 (by kernel_rfl) (by kernel_rfl)
theorem E149 : Enters Try.prog 149 := ZY Try.func149 (by kernel_rfl) (by kernel_rfl)
theorem E151 : Enters Try.prog 151 := ZY Try.func151 (by kernel_rfl) (by kernel_rfl)
theorem E164 : Enters Try.prog 164 := ZY Try.func164 (by kernel_rfl) (by kernel_rfl)
theorem E174 : Enters Try.prog 174 := ZY Try.func174 (by kernel_rfl) (by kernel_rfl)
theorem E175 : Enters Try.prog 175 := ZY Try.func175 (by kernel_rfl) (by kernel_rfl)
theorem E181 : Enters Try.prog 181 := ZY Try.func181 (by kernel_rfl) (by kernel_rfl)
theorem E185 : Enters Try.prog 185 := ZY Try.func185 (by kernel_rfl) (by kernel_rfl)
theorem E186 : Enters Try.prog 186 := ZY Try.func186 (by kernel_rfl) (by kernel_rfl)
theorem F25_0 : fieldOff Try.prog 25 0 = some 0 := by kernel_rfl
theorem F25_1 : fieldOff Try.prog 25 1 = some 1 := by kernel_rfl
theorem F28_0 : fieldOff Try.prog 28 0 = some 0 := by kernel_rfl
theorem F28_1 : fieldOff Try.prog 28 1 = some 1 := by kernel_rfl
theorem F28_2 : fieldOff Try.prog 28 2 = some 2 := by kernel_rfl
theorem F28_3 : fieldOff Try.prog 28 3 = some 3 := by kernel_rfl
theorem F28_4 : fieldOff Try.prog 28 4 = some 4 := by kernel_rfl
theorem F47_0 : fieldOff Try.prog 47 0 = some 0 := by kernel_rfl
theorem F47_1 : fieldOff Try.prog 47 1 = some 1 := by kernel_rfl
theorem F50_0 : fieldOff Try.prog 50 0 = some 0 := by kernel_rfl
theorem F50_1 : fieldOff Try.prog 50 1 = some 2 := by kernel_rfl
theorem F50_2 : fieldOff Try.prog 50 2 = some 3 := by kernel_rfl
theorem F50_3 : fieldOff Try.prog 50 3 = some 4 := by kernel_rfl
theorem I3 : eInfo Try.prog 3 = some (.int .i64 0, 1, 8) := by kernel_rfl
theorem I5 : eInfo Try.prog 5 = some (.int .u8 0, 1, 1) := by kernel_rfl
theorem I28 : eInfo Try.prog 28 = some (.agg #[.int .i64 0, .int .u32 0, .int .u32 0, .int .u32 0, .int .u32 0], 5, 24) := by kernel_rfl
theorem I45 : eInfo Try.prog 45 = some (.slice none 0 0, 1, 24) := by kernel_rfl
theorem I47 : eInfo Try.prog 47 = some (.agg #[.int .i64 0, .slice none 0 0], 2, 32) := by kernel_rfl
theorem I53 : eInfo Try.prog 53 = some (.slice none 0 0, 1, 24) := by kernel_rfl
theorem Mixed : Try.prog.follows .mixedOrders = true := by kernel_rfl
theorem QF28 : (Try.prog.fieldsOf 28).toList = [Field.mk "At" 3 0 false "" "" 0, Field.mk "Birth" 26 1 false "" "" 8, Field.mk "Iv" 26 2 false "" "" 12, Field.mk "Tag" 26 3 false "" "" 16, Field.mk "Sum" 26 4 false "" "" 20] := by kernel_rfl
theorem QG28 : Try.prog.eqGuardType Try.prog.depth 28 = false := by kernel_rfl
theorem QP28 : Try.prog.stoodInHeld 28 = false := by kernel_rfl
theorem QU28 : Try.prog.underlying 28 = some (.struct (Try.prog.fieldsOf 28)) := by kernel_rfl
theorem S3 : shapeOf Try.prog 3 = some (false, 1) := by kernel_rfl
theorem S5 : shapeOf Try.prog 5 = some (false, 1) := by kernel_rfl
theorem S22 : shapeOf Try.prog 22 = some (false, 1) := by kernel_rfl
theorem S23 : shapeOf Try.prog 23 = some (false, 1) := by kernel_rfl
theorem S25 : shapeOf Try.prog 25 = some (true, 2) := by kernel_rfl
theorem S26 : shapeOf Try.prog 26 = some (false, 1) := by kernel_rfl
theorem S28 : shapeOf Try.prog 28 = some (true, 5) := by kernel_rfl
theorem S33 : shapeOf Try.prog 33 = some (false, 1) := by kernel_rfl
theorem S45 : shapeOf Try.prog 45 = some (false, 1) := by kernel_rfl
theorem S47 : shapeOf Try.prog 47 = some (true, 2) := by kernel_rfl
theorem S50 : shapeOf Try.prog 50 = some (true, 5) := by kernel_rfl
theorem S53 : shapeOf Try.prog 53 = some (false, 1) := by kernel_rfl
theorem S75 : shapeOf Try.prog 75 = some (false, 1) := by kernel_rfl
theorem S110 : shapeOf Try.prog 110 = some (false, 1) := by kernel_rfl
theorem S158 : shapeOf Try.prog 158 = some (true, 5) := by kernel_rfl
theorem S161 : shapeOf Try.prog 161 = some (true, 4) := by kernel_rfl
theorem U3 : Try.prog.underlying 3 = some (.int .i64) := by kernel_rfl
theorem U5 : Try.prog.underlying 5 = some (.int .u8) := by kernel_rfl
theorem U22 : Try.prog.underlying 22 = some (.slice 45) := by kernel_rfl
theorem U23 : Try.prog.underlying 23 = some (.slice 47) := by kernel_rfl
theorem U26 : Try.prog.underlying 26 = some (.int .u32) := by kernel_rfl
theorem U45 : Try.prog.underlying 45 = some (.slice 5) := by kernel_rfl
theorem U53 : Try.prog.underlying 53 = some (.slice 28) := by kernel_rfl
theorem U75 : Try.prog.underlying 75 = some (.slice 3) := by kernel_rfl
theorem U133 : Try.prog.underlying 133 = some (.int .u64) := by kernel_rfl
theorem U158 : Try.prog.underlying 158 = some (.array 5 3) := by kernel_rfl
theorem U161 : Try.prog.underlying 161 = some (.array 4 26) := by kernel_rfl
theorem U192 : Try.prog.underlying 192 = some (.slice 53) := by kernel_rfl
theorem Z3 : zeroOf Try.prog 3 = some (.int .i64 0) := by kernel_rfl
theorem Z25 : zeroOf Try.prog 25 = some (.agg #[.slice none 0 0, .slice none 0 0]) := by kernel_rfl
theorem Z28 : zeroOf Try.prog 28 = some (.agg #[.int .i64 0, .int .u32 0, .int .u32 0, .int .u32 0, .int .u32 0]) := by kernel_rfl
theorem Z33 : zeroOf Try.prog 33 = some (.int .i64 0) := by kernel_rfl
theorem Z47 : zeroOf Try.prog 47 = some (.agg #[.int .i64 0, .slice none 0 0]) := by kernel_rfl
theorem Z50 : zeroOf Try.prog 50 = some (.agg #[.slice none 0 0, .slice none 0 0, .slice none 0 0, .int .u32 0, .int .u32 0]) := by kernel_rfl
theorem Z53 : zeroOf Try.prog 53 = some (.slice none 0 0) := by kernel_rfl
theorem Z75 : zeroOf Try.prog 75 = some (.slice none 0 0) := by kernel_rfl
theorem Z110 : zeroOf Try.prog 110 = some (.nilFunc) := by kernel_rfl
theorem Z158 : zeroOf Try.prog 158 = some (.agg #[.int .i64 0, .int .i64 0, .int .i64 0, .int .i64 0, .int .i64 0]) := by kernel_rfl
theorem Z161 : zeroOf Try.prog 161 = some (.agg #[.int .u32 0, .int .u32 0, .int .u32 0, .int .u32 0]) := by kernel_rfl
end Go.Proofs.Ytdoebbgjjlicjaa
