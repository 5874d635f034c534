import Derived.Test.YtpggcoheldampaaGreatDoorProg
import Derived.Test.YtpggcoheldampaaGreatDoorOwMc
import Derived.Test.YtpggcoheldampaaGreatDoorOwMe
import Derived.KernelRfl
/- closed facts of this program. -/
namespace Go.Proofs.YtpggcoheldampaaGreatDoor
open Go.Ow Go.RowKit Go.Proofs
set_option linter.unusedVariables false
set_option linter.unusedSimpArgs false
theorem B26 : placesOf Tryz.prog 26 = some [(0, 1), (1, 1)] := by kernel_rfl
theorem B195 : placesOf Tryz.prog 195 = some [(0, 1), (1, 1)] := by kernel_rfl
theorem B280 : placesA Tryz.prog 280 4 = some [(0, 1), (1, 1), (2, 1), (3, 1)] := by kernel_rfl
theorem E58 : Enters Tryz.prog 58 := enters_of Tryz.func58 (by kernel_rfl) (by kernel_rfl)
theorem E73 : Enters Tryz.prog 73 := enters_of Tryz.func73 (by kernel_rfl) (by kernel_rfl)
theorem E74 : Enters Tryz.prog 74 := enters_of Tryz.func74 (by kernel_rfl) (by kernel_rfl)
theorem E76 : Enters Tryz.prog 76 := enters_of Tryz.func76 (by kernel_rfl) (by kernel_rfl)
theorem E101 : Enters Tryz.prog 101 := enters_of Tryz.func101 (by kernel_rfl) (by kernel_rfl)
theorem E103 : Enters Tryz.prog 103 := enters_of Tryz.func103 (by kernel_rfl) (by kernel_rfl)
theorem E136 : Enters Tryz.prog 136 := enters_of Tryz.func136 (by kernel_rfl) (by kernel_rfl)
theorem E137 : Enters Tryz.prog 137 := enters_of Tryz.func137 (by kernel_rfl) (by kernel_rfl)
theorem E139 : Enters Tryz.prog 139 := enters_of Tryz.func139 (by kernel_rfl) (by kernel_rfl)
theorem E148 : Enters Tryz.prog 148 := enters_of Tryz.func148 (by kernel_rfl) (by kernel_rfl)
theorem E167 : Enters Tryz.prog 167 := enters_of Tryz.func167 (by kernel_rfl) (by kernel_rfl)
theorem E168 : Enters Tryz.prog 168 := enters_of Tryz.func168 (by kernel_rfl) (by kernel_rfl)
theorem E202 : Enters Tryz.prog 202 := enters_of Tryz.func202 (by kernel_rfl) (by kernel_rfl)
theorem E214 : Enters Tryz.prog 214 := enters_of Tryz.func214 (by kernel_rfl) (by kernel_rfl)
theorem E215 : Enters Tryz.prog 215 := enters_of Tryz.func215 (by kernel_rfl) (by kernel_rfl)
theorem E224 : Enters Tryz.prog 224 := enters_of Tryz.func224 (by kernel_rfl) (by kernel_rfl)
theorem E225 : Enters Tryz.prog 225 := enters_of Tryz.func225 (by kernel_rfl) (by kernel_rfl)
theorem E226 : Enters Tryz.prog 226 := enters_of Tryz.func226 (by kernel_rfl) (by kernel_rfl)
theorem E247 : Enters Tryz.prog 247 := enters_of Tryz.func247 (by kernel_rfl) (by kernel_rfl)
theorem E251 : Enters Tryz.prog 251 := enters_of Tryz.func251 (by kernel_rfl) (by kernel_rfl)
theorem E278 : Enters Tryz.prog 278 := enters_of Tryz.func278 (by kernel_rfl) (by kernel_rfl)
theorem E281 : Enters Tryz.prog 281 := enters_of Tryz.func281 (by kernel_rfl) (by kernel_rfl)
theorem E283 : Enters Tryz.prog 283 := enters_of Tryz.func283 (by kernel_rfl) (by kernel_rfl)
theorem E285 : Enters Tryz.prog 285 := enters_of Tryz.func285 (by kernel_rfl) (by kernel_rfl)
theorem E286 : Enters Tryz.prog 286 := enters_of Tryz.func286 (by kernel_rfl) (by kernel_rfl)
theorem E287 : Enters Tryz.prog 287 := enters_of Tryz.func287 (by kernel_rfl) (by kernel_rfl)
theorem E288 : Enters Tryz.prog 288 := enters_of Tryz.func288 (by kernel_rfl) (by kernel_rfl)
theorem E289 : Enters Tryz.prog 289 := enters_of Tryz.func289 (by kernel_rfl) (by kernel_rfl)
theorem E309 : Enters Tryz.prog 309 := enters_of Tryz.func309 (by kernel_rfl) (by kernel_rfl)
theorem E315 : Enters Tryz.prog 315 := enters_of Tryz.func315 (by kernel_rfl) (by kernel_rfl)
theorem E316 : Enters Tryz.prog 316 := enters_of Tryz.func316 (by kernel_rfl) (by kernel_rfl)
theorem E326 : Enters Tryz.prog 326 := enters_of Tryz.func326 (by kernel_rfl) (by kernel_rfl)
theorem E342 : Enters Tryz.prog 342 := enters_of Tryz.func342 (by kernel_rfl) (by kernel_rfl)
theorem E351 : Enters Tryz.prog 351 := enters_of Tryz.func351 (by kernel_rfl) (by kernel_rfl)
theorem E352 : Enters Tryz.prog 352 := enters_of Tryz.func352 (by kernel_rfl) (by kernel_rfl)
theorem F26_0 : fieldOff Tryz.prog 26 0 = some 0 := by kernel_rfl
theorem F26_1 : fieldOff Tryz.prog 26 1 = some 1 := by kernel_rfl
theorem F195_0 : fieldOff Tryz.prog 195 0 = some 0 := by kernel_rfl
theorem F195_1 : fieldOff Tryz.prog 195 1 = some 1 := by kernel_rfl
theorem I3 : eInfo Tryz.prog 3 = some (.int .i64 0, 1, 8) := by kernel_rfl
theorem I5 : eInfo Tryz.prog 5 = some (.int .u8 0, 1, 1) := by kernel_rfl
theorem I27 : eInfo Tryz.prog 27 = some (.slice none 0 0, 1, 24) := by kernel_rfl
theorem I195 : eInfo Tryz.prog 195 = some (.agg #[.int .i64 0, .slice none 0 0], 2, 32) := by kernel_rfl
theorem Mixed : Tryz.prog.follows .mixedOrders = true := by kernel_rfl
theorem S3 : shapeOf Tryz.prog 3 = some (false, 1) := by kernel_rfl
theorem S5 : shapeOf Tryz.prog 5 = some (false, 1) := by kernel_rfl
theorem S23 : shapeOf Tryz.prog 23 = some (false, 1) := by kernel_rfl
theorem S24 : shapeOf Tryz.prog 24 = some (false, 1) := by kernel_rfl
theorem S26 : shapeOf Tryz.prog 26 = some (true, 2) := by kernel_rfl
theorem S27 : shapeOf Tryz.prog 27 = some (false, 1) := by kernel_rfl
theorem S28 : shapeOf Tryz.prog 28 = some (false, 1) := by kernel_rfl
theorem S195 : shapeOf Tryz.prog 195 = some (true, 2) := by kernel_rfl
theorem S280 : shapeOf Tryz.prog 280 = some (true, 4) := by kernel_rfl
theorem U3 : Tryz.prog.underlying 3 = some (.int .i64) := by kernel_rfl
theorem U5 : Tryz.prog.underlying 5 = some (.int .u8) := by kernel_rfl
theorem U23 : Tryz.prog.underlying 23 = some (.slice 27) := by kernel_rfl
theorem U24 : Tryz.prog.underlying 24 = some (.slice 195) := by kernel_rfl
theorem U27 : Tryz.prog.underlying 27 = some (.slice 5) := by kernel_rfl
theorem U28 : Tryz.prog.underlying 28 = some (.int .u32) := by kernel_rfl
theorem U33 : Tryz.prog.underlying 33 = some (.slice 3) := by kernel_rfl
theorem U192 : Tryz.prog.underlying 192 = some (.int .u64) := by kernel_rfl
theorem U280 : Tryz.prog.underlying 280 = some (.array 4 28) := by kernel_rfl
theorem U331 : Tryz.prog.underlying 331 = some (.map 3 195) := by kernel_rfl
theorem Z3 : zeroOf Tryz.prog 3 = some (.int .i64 0) := by kernel_rfl
theorem Z26 : zeroOf Tryz.prog 26 = some (.agg #[.slice none 0 0, .slice none 0 0]) := by kernel_rfl
theorem Z195 : zeroOf Tryz.prog 195 = some (.agg #[.int .i64 0, .slice none 0 0]) := by kernel_rfl
theorem Z280 : zeroOf Tryz.prog 280 = some (.agg #[.int .u32 0, .int .u32 0, .int .u32 0, .int .u32 0]) := by kernel_rfl
def tb : Tab := ⟨[(3, (false, 1)), (5, (false, 1)), (23, (false, 1)), (24, (false, 1)), (26, (true, 2)), (27, (false, 1)), (28, (false, 1)), (195, (true, 2)), (280, (true, 4))],
  [(26, 0, 0), (26, 1, 1), (195, 0, 0), (195, 1, 1)],
  [(3, (.int .i64 0)), (26, (.agg #[.slice none 0 0, .slice none 0 0])), (195, (.agg #[.int .i64 0, .slice none 0 0])), (280, (.agg #[.int .u32 0, .int .u32 0, .int .u32 0, .int .u32 0]))],
  [(26, [(0, 1), (1, 1)]), (195, [(0, 1), (1, 1)])]⟩
theorem tbo : tb.Ok Tryz.prog :=
  ⟨⟨S3, S5, S23, S24, S26, S27, S28, S195, S280, trivial⟩,
  ⟨F26_0, F26_1, F195_0, F195_1, trivial⟩,
  ⟨Z3, Z26, Z195, Z280, trivial⟩,
  ⟨B26, B195, trivial⟩⟩
end Go.Proofs.YtpggcoheldampaaGreatDoor
