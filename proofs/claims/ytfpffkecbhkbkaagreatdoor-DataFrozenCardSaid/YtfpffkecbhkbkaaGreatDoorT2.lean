import Derived.Test.YtfpffkecbhkbkaaGreatDoorProg
import Derived.Test.YtfpffkecbhkbkaaGreatDoorOwMb
import Derived.Test.YtfpffkecbhkbkaaGreatDoorOwMc
import Derived.Test.YtfpffkecbhkbkaaGreatDoorOwMd
import Derived.KernelRfl
/- closed facts of this program. -/
set_option linter.unusedSimpArgs false
set_option linter.unusedVariables false
namespace Go.Proofs.YtfpffkecbhkbkaaGreatDoor
open Go.Ow Go.RowKit Go.Proofs
theorem B25:KB Tryz.prog 25=some [(0,1),(1,1)]:=by kernel_rfl
theorem B31:KB Tryz.prog 31=some [(0,1),(1,1),(2,1),(3,1),(4,1)]:=by kernel_rfl
theorem B105:KB Tryz.prog 105=some [(0,1),(1,1)]:=by kernel_rfl
theorem E26:Enters Tryz.prog 26:=Z2 Tryz.func26 (by kernel_rfl) (by kernel_rfl)
theorem E65:Enters Tryz.prog 65:=Z2 Tryz.func65 (by kernel_rfl) (by kernel_rfl)
theorem E71:Enters Tryz.prog 71:=Z2 Tryz.func71 (by kernel_rfl) (by kernel_rfl)
theorem E82:Enters Tryz.prog 82:=Z2 Tryz.func82 (by kernel_rfl) (by kernel_rfl)
theorem E103:Enters Tryz.prog 103:=Z2 Tryz.func103 (by kernel_rfl) (by kernel_rfl)
theorem E115:Enters Tryz.prog 115:=Z2 Tryz.func115 (by kernel_rfl) (by kernel_rfl)
theorem E125:Enters Tryz.prog 125:=Z2 Tryz.func125 (by kernel_rfl) (by kernel_rfl)
theorem E131:Enters Tryz.prog 131:=Z2 Tryz.func131 (by kernel_rfl) (by kernel_rfl)
theorem E133:Enters Tryz.prog 133:=Z2 Tryz.func133 (by kernel_rfl) (by kernel_rfl)
theorem E134:Enters Tryz.prog 134:=Z2 Tryz.func134 (by kernel_rfl) (by kernel_rfl)
theorem E156:Enters Tryz.prog 156:=Z2 Tryz.func156 (by kernel_rfl) (by kernel_rfl)
theorem E159:Enters Tryz.prog 159:=Z2 Tryz.func159 (by kernel_rfl) (by kernel_rfl)
theorem E163:Enters Tryz.prog 163:=Z2 Tryz.func163 (by kernel_rfl) (by kernel_rfl)
theorem E194:Enters Tryz.prog 194:=Z2 Tryz.func194 (by kernel_rfl) (by kernel_rfl)
theorem E218:Enters Tryz.prog 218:=Z2 Tryz.func218 (by kernel_rfl) (by kernel_rfl)
theorem E221:Enters Tryz.prog 221:=Z2 Tryz.func221 (by kernel_rfl) (by kernel_rfl)
theorem F25_0:Y0 Tryz.prog 25 0=some 0:=by kernel_rfl
theorem F25_1:Y0 Tryz.prog 25 1=some 1:=by kernel_rfl
theorem F31_0:Y0 Tryz.prog 31 0=some 0:=by kernel_rfl
theorem F31_1:Y0 Tryz.prog 31 1=some 1:=by kernel_rfl
theorem F31_2:Y0 Tryz.prog 31 2=some 2:=by kernel_rfl
theorem F31_3:Y0 Tryz.prog 31 3=some 3:=by kernel_rfl
theorem F31_4:Y0 Tryz.prog 31 4=some 4:=by kernel_rfl
theorem F105_0:Y0 Tryz.prog 105 0=some 0:=by kernel_rfl
theorem F105_1:Y0 Tryz.prog 105 1=some 1:=by kernel_rfl
theorem I3:eInfo Tryz.prog 3=some (.int .i64 0,1,8):=by kernel_rfl
theorem I5:eInfo Tryz.prog 5=some (.int .u8 0,1,1):=by kernel_rfl
theorem I26:eInfo Tryz.prog 26=some (.slice none 0 0,1,24):=by kernel_rfl
theorem I31:eInfo Tryz.prog 31=some (.agg #[.int .i64 0,.int .u32 0,.int .u32 0,.int .u32 0,.int .u32 0],5,24):=by kernel_rfl
theorem I105:eInfo Tryz.prog 105=some (.agg #[.int .i64 0,.slice none 0 0],2,32):=by kernel_rfl
theorem Mixed:Tryz.prog.follows .mixedOrders=true:=by kernel_rfl
theorem S3:ZC Tryz.prog 3=some (false,1):=by kernel_rfl
theorem S5:ZC Tryz.prog 5=some (false,1):=by kernel_rfl
theorem S22:ZC Tryz.prog 22=some (false,1):=by kernel_rfl
theorem S23:ZC Tryz.prog 23=some (false,1):=by kernel_rfl
theorem S25:ZC Tryz.prog 25=some (true,2):=by kernel_rfl
theorem S26:ZC Tryz.prog 26=some (false,1):=by kernel_rfl
theorem S27:ZC Tryz.prog 27=some (false,1):=by kernel_rfl
theorem S31:ZC Tryz.prog 31=some (true,5):=by kernel_rfl
theorem S32:ZC Tryz.prog 32=some (false,1):=by kernel_rfl
theorem S39:ZC Tryz.prog 39=some (false,1):=by kernel_rfl
theorem S105:ZC Tryz.prog 105=some (true,2):=by kernel_rfl
theorem S196:ZC Tryz.prog 196=some (true,4):=by kernel_rfl
theorem S213:ZC Tryz.prog 213=some (true,5):=by kernel_rfl
theorem U3:Tryz.prog.underlying 3=some (.int .i64):=by kernel_rfl
theorem U22:Tryz.prog.underlying 22=some (.slice 26):=by kernel_rfl
theorem U23:Tryz.prog.underlying 23=some (.slice 105):=by kernel_rfl
theorem U26:Tryz.prog.underlying 26=some (.slice 5):=by kernel_rfl
theorem U32:Tryz.prog.underlying 32=some (.slice 3):=by kernel_rfl
theorem U39:Tryz.prog.underlying 39=some (.slice 31):=by kernel_rfl
theorem U122:Tryz.prog.underlying 122=some (.int .u64):=by kernel_rfl
theorem U217:Tryz.prog.underlying 217=some (.map 3 105):=by kernel_rfl
theorem Z3:Yn Tryz.prog 3=some (.int .i64 0):=by kernel_rfl
theorem Z25:Yn Tryz.prog 25=some (.agg #[.slice none 0 0,.slice none 0 0]):=by kernel_rfl
theorem Z26:Yn Tryz.prog 26=some (.slice none 0 0):=by kernel_rfl
theorem Z31:Yn Tryz.prog 31=some (.agg #[.int .i64 0,.int .u32 0,.int .u32 0,.int .u32 0,.int .u32 0]):=by kernel_rfl
theorem Z105:Yn Tryz.prog 105=some (.agg #[.int .i64 0,.slice none 0 0]):=by kernel_rfl
theorem Z196:Yn Tryz.prog 196=some (.agg #[.int .u32 0,.int .u32 0,.int .u32 0,.int .u32 0]):=by kernel_rfl
theorem Z213:Yn Tryz.prog 213=some (.agg #[.int .i64 0,.int .i64 0,.int .i64 0,.int .i64 0,.int .i64 0]):=by kernel_rfl
def tb:Tab:=⟨[(3,(false,1)),(5,(false,1)),(22,(false,1)),(23,(false,1)),(25,(true,2)),(26,(false,1)),(27,(false,1)),(31,(true,5)),(32,(false,1)),(39,(false,1)),(105,(true,2)),(196,(true,4)),(213,(true,5))],
  [(25,0,0),(25,1,1),(31,0,0),(31,1,1),(31,2,2),(31,3,3),(31,4,4),(105,0,0),(105,1,1)],
  [(3,(.int .i64 0)),(25,(.agg #[.slice none 0 0,.slice none 0 0])),(26,(.slice none 0 0)),(31,(.agg #[.int .i64 0,.int .u32 0,.int .u32 0,.int .u32 0,.int .u32 0])),(105,(.agg #[.int .i64 0,.slice none 0 0])),(196,(.agg #[.int .u32 0,.int .u32 0,.int .u32 0,.int .u32 0])),(213,(.agg #[.int .i64 0,.int .i64 0,.int .i64 0,.int .i64 0,.int .i64 0]))],
  [(25,[(0,1),(1,1)]),(31,[(0,1),(1,1),(2,1),(3,1),(4,1)]),(105,[(0,1),(1,1)])]⟩
theorem ZP:tb.Ok Tryz.prog:=
  ⟨⟨S3,S5,S22,S23,S25,S26,S27,S31,S32,S39,S105,S196,S213,trivial⟩,
  ⟨F25_0,F25_1,F31_0,F31_1,F31_2,F31_3,F31_4,F105_0,F105_1,trivial⟩,
  ⟨Z3,Z25,Z26,Z31,Z105,Z196,Z213,trivial⟩,
  ⟨B25,B31,B105,trivial⟩⟩
end Go.Proofs.YtfpffkecbhkbkaaGreatDoor
