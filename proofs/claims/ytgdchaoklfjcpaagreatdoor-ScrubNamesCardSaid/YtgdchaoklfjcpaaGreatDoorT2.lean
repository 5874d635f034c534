import Derived.Test.YtgdchaoklfjcpaaGreatDoorProg
import Derived.Test.YtgdchaoklfjcpaaGreatDoorOwMb
import Derived.Test.YtgdchaoklfjcpaaGreatDoorOwMc
import Derived.Test.YtgdchaoklfjcpaaGreatDoorOwMd
import Derived.KernelRfl
/- closed facts of this program. -/
set_option linter.unusedSimpArgs false
set_option linter.unusedVariables false
namespace Go.Proofs.YtgdchaoklfjcpaaGreatDoor
open Go.Ow Go.RowKit Go.Proofs
theorem B26:QW Tryz.prog 26=some [(0,1),(1,1)]:=by kernel_rfl
theorem B32:QW Tryz.prog 32=some [(0,1),(1,1),(2,1),(3,1),(4,1)]:=by kernel_rfl
theorem B81:QW Tryz.prog 81=some []:=by kernel_rfl
theorem B127:QW Tryz.prog 127=some [(0,1),(1,1)]:=by kernel_rfl
theorem E21:Enters Tryz.prog 21:=ZQ Tryz.func21 (by kernel_rfl)<|by kernel_rfl
theorem E22:Enters Tryz.prog 22:=ZQ Tryz.func22 (by kernel_rfl)<|by kernel_rfl
theorem E23:Enters Tryz.prog 23:=ZQ Tryz.func23 (by kernel_rfl)<|by kernel_rfl
theorem E24:Enters Tryz.prog 24:=ZQ Tryz.func24 (by kernel_rfl)<|by kernel_rfl
theorem E25:Enters Tryz.prog 25:=ZQ Tryz.func25 (by kernel_rfl)<|by kernel_rfl
theorem E26:Enters Tryz.prog 26:=ZQ Tryz.func26 (by kernel_rfl)<|by kernel_rfl
theorem E27:Enters Tryz.prog 27:=ZQ Tryz.func27 (by kernel_rfl)<|by kernel_rfl
theorem E28:Enters Tryz.prog 28:=ZQ Tryz.func28 (by kernel_rfl)<|by kernel_rfl
theorem E29:Enters Tryz.prog 29:=ZQ Tryz.func29 (by kernel_rfl)<|by kernel_rfl
theorem E30:Enters Tryz.prog 30:=ZQ Tryz.func30 (by kernel_rfl)<|by kernel_rfl
theorem E31:Enters Tryz.prog 31:=ZQ Tryz.func31 (by kernel_rfl)<|by kernel_rfl
theorem E32:Enters Tryz.prog 32:=ZQ Tryz.func32 (by kernel_rfl)<|by kernel_rfl
theorem E33:Enters Tryz.prog 33:=ZQ Tryz.func33 (by kernel_rfl)<|by kernel_rfl
theorem E34:Enters Tryz.prog 34:=ZQ Tryz.func34 (by kernel_rfl)<|by kernel_rfl
theorem E35:Enters Tryz.prog 35:=ZQ Tryz.func35 (by kernel_rfl)<|by kernel_rfl
theorem E36:Enters Tryz.prog 36:=ZQ Tryz.func36 (by kernel_rfl)<|by kernel_rfl
theorem E42:Enters Tryz.prog 42:=ZQ Tryz.func42 (by kernel_rfl)<|by kernel_rfl
theorem E63:Enters Tryz.prog 63:=ZQ Tryz.func63 (by kernel_rfl)<|by kernel_rfl
theorem E65:Enters Tryz.prog 65:=ZQ Tryz.func65 (by kernel_rfl)<|by kernel_rfl
theorem E81:Enters Tryz.prog 81:=ZQ Tryz.func81 (by kernel_rfl)<|by kernel_rfl
theorem E82:Enters Tryz.prog 82:=ZQ Tryz.func82 (by kernel_rfl)<|by kernel_rfl
theorem E104:Enters Tryz.prog 104:=ZQ Tryz.func104 (by kernel_rfl)<|by kernel_rfl
theorem E112:Enters Tryz.prog 112:=ZQ Tryz.func112 (by kernel_rfl)<|by kernel_rfl
theorem E130:Enters Tryz.prog 130:=ZQ Tryz.func130 (by kernel_rfl)<|by kernel_rfl
theorem E131:Enters Tryz.prog 131:=ZQ Tryz.func131 (by kernel_rfl)<|by kernel_rfl
theorem E141:Enters Tryz.prog 141:=ZQ Tryz.func141 (by kernel_rfl)<|by kernel_rfl
theorem E142:Enters Tryz.prog 142:=ZQ Tryz.func142 (by kernel_rfl)<|by kernel_rfl
theorem E168:Enters Tryz.prog 168:=ZQ Tryz.func168 (by kernel_rfl)<|by kernel_rfl
theorem E170:Enters Tryz.prog 170:=ZQ Tryz.func170 (by kernel_rfl)<|by kernel_rfl
theorem E171:Enters Tryz.prog 171:=ZQ Tryz.func171 (by kernel_rfl)<|by kernel_rfl
theorem E180:Enters Tryz.prog 180:=ZQ Tryz.func180 (by kernel_rfl)<|by kernel_rfl
theorem E181:Enters Tryz.prog 181:=ZQ Tryz.func181 (by kernel_rfl)<|by kernel_rfl
theorem E207:Enters Tryz.prog 207:=ZQ Tryz.func207 (by kernel_rfl)<|by kernel_rfl
theorem E229:Enters Tryz.prog 229:=ZQ Tryz.func229 (by kernel_rfl)<|by kernel_rfl
theorem E243:Enters Tryz.prog 243:=ZQ Tryz.func243 (by kernel_rfl)<|by kernel_rfl
theorem F26_0:YG Tryz.prog 26 0=some 0:=by kernel_rfl
theorem F26_1:YG Tryz.prog 26 1=some 1:=by kernel_rfl
theorem F32_0:YG Tryz.prog 32 0=some 0:=by kernel_rfl
theorem F32_1:YG Tryz.prog 32 1=some 1:=by kernel_rfl
theorem F37_0:YG Tryz.prog 37 0=some 0:=by kernel_rfl
theorem F37_2:YG Tryz.prog 37 2=some 6:=by kernel_rfl
theorem F37_3:YG Tryz.prog 37 3=some 11:=by kernel_rfl
theorem F37_4:YG Tryz.prog 37 4=some 12:=by kernel_rfl
theorem F37_7:YG Tryz.prog 37 7=some 15:=by kernel_rfl
theorem F42_3:YG Tryz.prog 42 3=some 3:=by kernel_rfl
theorem F47_7:YG Tryz.prog 47 7=some 7:=by kernel_rfl
theorem F83_7:YG Tryz.prog 83 7=some 7:=by kernel_rfl
theorem F127_0:YG Tryz.prog 127 0=some 0:=by kernel_rfl
theorem F127_1:YG Tryz.prog 127 1=some 1:=by kernel_rfl
theorem I3:eInfo Tryz.prog 3=some (.int .i64 0,1,8):=by kernel_rfl
theorem I5:eInfo Tryz.prog 5=some (.int .u8 0,1,1):=by kernel_rfl
theorem I27:eInfo Tryz.prog 27=some (.slice none 0 0,1,24):=by kernel_rfl
theorem I32:eInfo Tryz.prog 32=some (.agg #[.int .i64 0,.int .u32 0,.int .u32 0,.int .u32 0,.int .u32 0],5,24):=by kernel_rfl
theorem I127:eInfo Tryz.prog 127=some (.agg #[.int .i64 0,.slice none 0 0],2,32):=by kernel_rfl
theorem Mixed:Tryz.prog.follows .mixedOrders=true:=by kernel_rfl
theorem QF32 : (Tryz.prog.fieldsOf 32).toList = [Field.mk "At" 3 0 false "" "" 0, Field.mk "Birth" 28 1 false "" "" 8, Field.mk "Iv" 28 2 false "" "" 12, Field.mk "Tag" 28 3 false "" "" 16, Field.mk "Sum" 28 4 false "" "" 20] := by kernel_rfl
theorem QG32:Tryz.prog.eqGuardType Tryz.prog.depth 32=false:=by kernel_rfl
theorem QP32:Tryz.prog.stoodInHeld 32=false:=by kernel_rfl
theorem QU32:Tryz.prog.underlying 32=some (.struct<|Tryz.prog.fieldsOf 32):=by kernel_rfl
theorem S3:ZE Tryz.prog 3=some (false,1):=by kernel_rfl
theorem S5:ZE Tryz.prog 5=some (false,1):=by kernel_rfl
theorem S23:ZE Tryz.prog 23=some (false,1):=by kernel_rfl
theorem S24:ZE Tryz.prog 24=some (false,1):=by kernel_rfl
theorem S26:ZE Tryz.prog 26=some (true,2):=by kernel_rfl
theorem S27:ZE Tryz.prog 27=some (false,1):=by kernel_rfl
theorem S28:ZE Tryz.prog 28=some (false,1):=by kernel_rfl
theorem S30:ZE Tryz.prog 30=some (true,5):=by kernel_rfl
theorem S32:ZE Tryz.prog 32=some (true,5):=by kernel_rfl
theorem S33:ZE Tryz.prog 33=some (false,1):=by kernel_rfl
theorem S34:ZE Tryz.prog 34=some (false,1):=by kernel_rfl
theorem S35:ZE Tryz.prog 35=some (false,1):=by kernel_rfl
theorem S37:ZE Tryz.prog 37=some (true,19):=by kernel_rfl
theorem S40:ZE Tryz.prog 40=some (false,1):=by kernel_rfl
theorem S42:ZE Tryz.prog 42=some (true,4):=by kernel_rfl
theorem S43:ZE Tryz.prog 43=some (false,1):=by kernel_rfl
theorem S47:ZE Tryz.prog 47=some (true,13):=by kernel_rfl
theorem S76:ZE Tryz.prog 76=some (false,1):=by kernel_rfl
theorem S77:ZE Tryz.prog 77=some (false,1):=by kernel_rfl
theorem S83:ZE Tryz.prog 83=some (true,12):=by kernel_rfl
theorem S103:ZE Tryz.prog 103=some (true,4):=by kernel_rfl
theorem S127:ZE Tryz.prog 127=some (true,2):=by kernel_rfl
theorem S150:ZE Tryz.prog 150=some (false,1):=by kernel_rfl
theorem U3:Tryz.prog.underlying 3=some (.int .i64):=by kernel_rfl
theorem U23:Tryz.prog.underlying 23=some (.slice 27):=by kernel_rfl
theorem U24:Tryz.prog.underlying 24=some (.slice 127):=by kernel_rfl
theorem U27:Tryz.prog.underlying 27=some (.slice 5):=by kernel_rfl
theorem U28:Tryz.prog.underlying 28=some (.int .u32):=by kernel_rfl
theorem U33:Tryz.prog.underlying 33=some (.slice 3):=by kernel_rfl
theorem U34:Tryz.prog.underlying 34=some (.slice 47):=by kernel_rfl
theorem U35:Tryz.prog.underlying 35=some (.slice 83):=by kernel_rfl
theorem U40:Tryz.prog.underlying 40=some (.slice 32):=by kernel_rfl
theorem U76:Tryz.prog.underlying 76=some (.map 3 81):=by kernel_rfl
theorem U124:Tryz.prog.underlying 124=some (.int .u64):=by kernel_rfl
theorem U239:Tryz.prog.underlying 239=some (.map 3 127):=by kernel_rfl
theorem Z3:YK Tryz.prog 3=some (.int .i64 0):=by kernel_rfl
theorem Z26:YK Tryz.prog 26=some (.agg #[.slice none 0 0,.slice none 0 0]):=by kernel_rfl
theorem Z27:YK Tryz.prog 27=some (.slice none 0 0):=by kernel_rfl
theorem Z32:YK Tryz.prog 32=some (.agg #[.int .i64 0,.int .u32 0,.int .u32 0,.int .u32 0,.int .u32 0]):=by kernel_rfl
theorem Z42:YK Tryz.prog 42=some (.agg #[.int .u8 0,.int .i64 0,.int .i64 0,.slice none 0 0]):=by kernel_rfl
theorem Z43:YK Tryz.prog 43=some (.int .i64 0):=by kernel_rfl
theorem Z47:YK Tryz.prog 47=some (.agg #[.int .i64 0,.int .u8 0,.int .i64 0,.int .i64 0,.int .u32 0,.int .u32 0,.int .i64 0,.int .i64 0,.int .u32 0,.int .u32 0,.int .u32 0,.int .u32 0,.slice none 0 0]):=by kernel_rfl
theorem Z76:YK Tryz.prog 76=some (.map none):=by kernel_rfl
theorem Z77:YK Tryz.prog 77=some (.nilFunc):=by kernel_rfl
theorem Z81:YK Tryz.prog 81=some (.agg #[]):=by kernel_rfl
theorem Z83:YK Tryz.prog 83=some (.agg #[.int .i64 0,.int .i64 0,.int .i64 0,.int .u8 0,.int .i64 0,.int .i64 0,.slice none 0 0,.int .i64 0,.int .u32 0,.int .u32 0,.int .u32 0,.int .u32 0]):=by kernel_rfl
theorem Z103:YK Tryz.prog 103=some (.agg #[.int .u32 0,.int .u32 0,.int .u32 0,.int .u32 0]):=by kernel_rfl
theorem Z127:YK Tryz.prog 127=some (.agg #[.int .i64 0,.slice none 0 0]):=by kernel_rfl
def tb:Tab:=⟨[(3,(false,1)),(5,(false,1)),(23,(false,1)),(24,(false,1)),(26,(true,2)),(27,(false,1)),(28,(false,1)),(30,(true,5)),(32,(true,5)),(33,(false,1)),(34,(false,1)),(35,(false,1)),(37,(true,19)),(40,(false,1)),(42,(true,4)),(43,(false,1)),(47,(true,13)),(76,(false,1)),(77,(false,1)),(83,(true,12)),(103,(true,4)),(127,(true,2)),(150,(false,1))],
  [(26,0,0),(26,1,1),(32,0,0),(32,1,1),(37,0,0),(37,2,6),(37,3,11),(37,4,12),(37,7,15),(42,3,3),(47,7,7),(83,7,7),(127,0,0),(127,1,1)],
  [(3,(.int .i64 0)),(26,(.agg #[.slice none 0 0,.slice none 0 0])),(27,(.slice none 0 0)),(32,(.agg #[.int .i64 0,.int .u32 0,.int .u32 0,.int .u32 0,.int .u32 0])),(42,(.agg #[.int .u8 0,.int .i64 0,.int .i64 0,.slice none 0 0])),(43,(.int .i64 0)),(47,(.agg #[.int .i64 0,.int .u8 0,.int .i64 0,.int .i64 0,.int .u32 0,.int .u32 0,.int .i64 0,.int .i64 0,.int .u32 0,.int .u32 0,.int .u32 0,.int .u32 0,.slice none 0 0])),(76,(.map none)),(77,(.nilFunc)),(81,(.agg #[])),(83,(.agg #[.int .i64 0,.int .i64 0,.int .i64 0,.int .u8 0,.int .i64 0,.int .i64 0,.slice none 0 0,.int .i64 0,.int .u32 0,.int .u32 0,.int .u32 0,.int .u32 0])),(103,(.agg #[.int .u32 0,.int .u32 0,.int .u32 0,.int .u32 0])),(127,(.agg #[.int .i64 0,.slice none 0 0]))],
  [(26,[(0,1),(1,1)]),(32,[(0,1),(1,1),(2,1),(3,1),(4,1)]),(81,[]),(127,[(0,1),(1,1)])]⟩
theorem ZF:tb.Ok Tryz.prog:=
  ⟨⟨S3,S5,S23,S24,S26,S27,S28,S30,S32,S33,S34,S35,S37,S40,S42,S43,S47,S76,S77,S83,S103,S127,S150,trivial⟩,
  ⟨F26_0,F26_1,F32_0,F32_1,F37_0,F37_2,F37_3,F37_4,F37_7,F42_3,F47_7,F83_7,F127_0,F127_1,trivial⟩,
  ⟨Z3,Z26,Z27,Z32,Z42,Z43,Z47,Z76,Z77,Z81,Z83,Z103,Z127,trivial⟩,
  ⟨B26,B32,B81,B127,trivial⟩⟩
end Go.Proofs.YtgdchaoklfjcpaaGreatDoor
