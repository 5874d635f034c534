import Derived.Test.YtooeopogefefiaaGreatDoorProg
import Derived.Test.YtooeopogefefiaaGreatDoorOwMb
import Derived.Test.YtooeopogefefiaaGreatDoorOwMc
import Derived.Test.YtooeopogefefiaaGreatDoorOwMd
import Derived.KernelRfl
/- closed facts of this program. -/
set_option linter.unusedSimpArgs false
set_option linter.unusedVariables false
namespace Go.Proofs.YtooeopogefefiaaGreatDoor
open Go.Ow Go.RowKit Go.Proofs
theorem B25:KI Tryz.prog 25=some [(0,1),(1,1)]:=by kernel_rfl
theorem B31:KI Tryz.prog 31=some [(0,1),(1,1),(2,1),(3,1),(4,1)]:=by kernel_rfl
theorem B117:KI Tryz.prog 117=some [(0,1),(1,1)]:=by kernel_rfl
theorem E30:Enters Tryz.prog 30:=Z2 Tryz.func30 (by kernel_rfl) (by kernel_rfl)
theorem E72:Enters Tryz.prog 72:=Z2 Tryz.func72 (by kernel_rfl) (by kernel_rfl)
theorem E86:Enters Tryz.prog 86:=Z2 Tryz.func86 (by kernel_rfl) (by kernel_rfl)
theorem E96:Enters Tryz.prog 96:=Z2 Tryz.func96 (by kernel_rfl) (by kernel_rfl)
theorem E107:Enters Tryz.prog 107:=Z2 Tryz.func107 (by kernel_rfl) (by kernel_rfl)
theorem E117:Enters Tryz.prog 117:=Z2 Tryz.func117 (by kernel_rfl) (by kernel_rfl)
theorem E139:Enters Tryz.prog 139:=Z2 Tryz.func139 (by kernel_rfl) (by kernel_rfl)
theorem E141:Enters Tryz.prog 141:=Z2 Tryz.func141 (by kernel_rfl) (by kernel_rfl)
theorem E144:Enters Tryz.prog 144:=Z2 Tryz.func144 (by kernel_rfl) (by kernel_rfl)
theorem E151:Enters Tryz.prog 151:=Z2 Tryz.func151 (by kernel_rfl) (by kernel_rfl)
theorem E152:Enters Tryz.prog 152:=Z2 Tryz.func152 (by kernel_rfl) (by kernel_rfl)
theorem E154:Enters Tryz.prog 154:=Z2 Tryz.func154 (by kernel_rfl) (by kernel_rfl)
theorem E186:Enters Tryz.prog 186:=Z2 Tryz.func186 (by kernel_rfl) (by kernel_rfl)
theorem E216:Enters Tryz.prog 216:=Z2 Tryz.func216 (by kernel_rfl) (by kernel_rfl)
theorem E226:Enters Tryz.prog 226:=Z2 Tryz.func226 (by kernel_rfl) (by kernel_rfl)
theorem E229:Enters Tryz.prog 229:=Z2 Tryz.func229 (by kernel_rfl) (by kernel_rfl)
theorem F25_0:XG Tryz.prog 25 0=some 0:=by kernel_rfl
theorem F25_1:XG Tryz.prog 25 1=some 1:=by kernel_rfl
theorem F31_0:XG Tryz.prog 31 0=some 0:=by kernel_rfl
theorem F31_1:XG Tryz.prog 31 1=some 1:=by kernel_rfl
theorem F31_2:XG Tryz.prog 31 2=some 2:=by kernel_rfl
theorem F31_3:XG Tryz.prog 31 3=some 3:=by kernel_rfl
theorem F31_4:XG Tryz.prog 31 4=some 4:=by kernel_rfl
theorem F117_0:XG Tryz.prog 117 0=some 0:=by kernel_rfl
theorem F117_1:XG Tryz.prog 117 1=some 1:=by kernel_rfl
theorem I3:eInfo Tryz.prog 3=some (.int .i64 0,1,8):=by kernel_rfl
theorem I5:eInfo Tryz.prog 5=some (.int .u8 0,1,1):=by kernel_rfl
theorem I26:eInfo Tryz.prog 26=some (.slice none 0 0,1,24):=by kernel_rfl
theorem I31:eInfo Tryz.prog 31=some (.agg #[.int .i64 0,.int .u32 0,.int .u32 0,.int .u32 0,.int .u32 0],5,24):=by kernel_rfl
theorem I117:eInfo Tryz.prog 117=some (.agg #[.int .i64 0,.slice none 0 0],2,32):=by kernel_rfl
theorem Mixed:Tryz.prog.follows .mixedOrders=true:=by kernel_rfl
theorem S3:ZC Tryz.prog 3=some (false,1):=by kernel_rfl
theorem S5:ZC Tryz.prog 5=some (false,1):=by kernel_rfl
theorem S22:ZC Tryz.prog 22=some (false,1):=by kernel_rfl
theorem S23:ZC Tryz.prog 23=some (false,1):=by kernel_rfl
theorem S25:ZC Tryz.prog 25=some (true,2):=by kernel_rfl
theorem S26:ZC Tryz.prog 26=some (false,1):=by kernel_rfl
theorem S27:ZC Tryz.prog 27=some (false,1):=by kernel_rfl
theorem S31:ZC Tryz.prog 31=some (true,5):=by kernel_rfl
theorem S32:ZC Tryz.prog 32=some (false,1):=by kernel_rfl
theorem S39:ZC Tryz.prog 39=some (false,1):=by kernel_rfl
theorem S117:ZC Tryz.prog 117=some (true,2):=by kernel_rfl
theorem S203:ZC Tryz.prog 203=some (true,5):=by kernel_rfl
theorem S218:ZC Tryz.prog 218=some (true,4):=by kernel_rfl
theorem U3:Tryz.prog.underlying 3=some (.int .i64):=by kernel_rfl
theorem U22:Tryz.prog.underlying 22=some (.slice 26):=by kernel_rfl
theorem U23:Tryz.prog.underlying 23=some (.slice 117):=by kernel_rfl
theorem U26:Tryz.prog.underlying 26=some (.slice 5):=by kernel_rfl
theorem U32:Tryz.prog.underlying 32=some (.slice 3):=by kernel_rfl
theorem U39:Tryz.prog.underlying 39=some (.slice 31):=by kernel_rfl
theorem U172:Tryz.prog.underlying 172=some (.int .u64):=by kernel_rfl
theorem U207:Tryz.prog.underlying 207=some (.map 3 117):=by kernel_rfl
theorem Z3:Yx Tryz.prog 3=some (.int .i64 0):=by kernel_rfl
theorem Z25:Yx Tryz.prog 25=some (.agg #[.slice none 0 0,.slice none 0 0]):=by kernel_rfl
theorem Z26:Yx Tryz.prog 26=some (.slice none 0 0):=by kernel_rfl
theorem Z31:Yx Tryz.prog 31=some (.agg #[.int .i64 0,.int .u32 0,.int .u32 0,.int .u32 0,.int .u32 0]):=by kernel_rfl
theorem Z117:Yx Tryz.prog 117=some (.agg #[.int .i64 0,.slice none 0 0]):=by kernel_rfl
theorem Z203:Yx Tryz.prog 203=some (.agg #[.int .i64 0,.int .i64 0,.int .i64 0,.int .i64 0,.int .i64 0]):=by kernel_rfl
theorem Z218:Yx Tryz.prog 218=some (.agg #[.int .u32 0,.int .u32 0,.int .u32 0,.int .u32 0]):=by kernel_rfl
def tb:Tab:=⟨[(3,(false,1)),(5,(false,1)),(22,(false,1)),(23,(false,1)),(25,(true,2)),(26,(false,1)),(27,(false,1)),(31,(true,5)),(32,(false,1)),(39,(false,1)),(117,(true,2)),(203,(true,5)),(218,(true,4))],
  [(25,0,0),(25,1,1),(31,0,0),(31,1,1),(31,2,2),(31,3,3),(31,4,4),(117,0,0),(117,1,1)],
  [(3,(.int .i64 0)),(25,(.agg #[.slice none 0 0,.slice none 0 0])),(26,(.slice none 0 0)),(31,(.agg #[.int .i64 0,.int .u32 0,.int .u32 0,.int .u32 0,.int .u32 0])),(117,(.agg #[.int .i64 0,.slice none 0 0])),(203,(.agg #[.int .i64 0,.int .i64 0,.int .i64 0,.int .i64 0,.int .i64 0])),(218,(.agg #[.int .u32 0,.int .u32 0,.int .u32 0,.int .u32 0]))],
  [(25,[(0,1),(1,1)]),(31,[(0,1),(1,1),(2,1),(3,1),(4,1)]),(117,[(0,1),(1,1)])]⟩
theorem ZP:tb.Ok Tryz.prog:=
  ⟨⟨S3,S5,S22,S23,S25,S26,S27,S31,S32,S39,S117,S203,S218,trivial⟩,
  ⟨F25_0,F25_1,F31_0,F31_1,F31_2,F31_3,F31_4,F117_0,F117_1,trivial⟩,
  ⟨Z3,Z25,Z26,Z31,Z117,Z203,Z218,trivial⟩,
  ⟨B25,B31,B117,trivial⟩⟩
end Go.Proofs.YtooeopogefefiaaGreatDoor
