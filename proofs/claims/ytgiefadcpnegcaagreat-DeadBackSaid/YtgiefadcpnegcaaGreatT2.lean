import Derived.Test.YtgiefadcpnegcaaGreatProg
import Derived.Test.YtgiefadcpnegcaaGreatOwMb
import Derived.Test.YtgiefadcpnegcaaGreatOwMc
import Derived.KernelRfl
/- closed facts of this program. -/
set_option linter.unusedSimpArgs false
set_option linter.unusedVariables false
namespace Go.Proofs.YtgiefadcpnegcaaGreat
open Go.Ow Go.RowKit Go.Proofs
theorem B25:placesOf Tryz.prog 25=some [(0,1),(1,1)]:=by kernel_rfl
theorem B29:placesOf Tryz.prog 29=some [(0,2),(2,1),(3,1),(4,1)]:=by kernel_rfl
theorem B32:placesOf Tryz.prog 32=some [(0,1),(1,1),(2,1),(3,1),(4,1)]:=by kernel_rfl
theorem B78:placesOf Tryz.prog 78=some [(0,1),(1,1)]:=by kernel_rfl
theorem B103:placesA Tryz.prog 103 5=some [(0,1),(1,1),(2,1),(3,1),(4,1)]:=by kernel_rfl
theorem B141:placesA Tryz.prog 141 4=some [(0,1),(1,1),(2,1),(3,1)]:=by kernel_rfl
theorem E5:Enters Tryz.prog 5:=ZD Tryz.func5 (by kernel_rfl) (by kernel_rfl)
theorem E7:Enters Tryz.prog 7:=ZD Tryz.func7 (by kernel_rfl) (by kernel_rfl)
theorem E9:Enters Tryz.prog 9:=ZD Tryz.func9 (by kernel_rfl) (by kernel_rfl)
theorem E14:Enters Tryz.prog 14:=ZD Tryz.func14 (by kernel_rfl) (by kernel_rfl)
theorem E15:Enters Tryz.prog 15:=ZD Tryz.func15 (by kernel_rfl) (by kernel_rfl)
theorem E16:Enters Tryz.prog 16:=ZD Tryz.func16 (by kernel_rfl) (by kernel_rfl)
theorem E17:Enters Tryz.prog 17:=ZD Tryz.func17 (by kernel_rfl) (by kernel_rfl)
theorem E19:Enters Tryz.prog 19:=ZD Tryz.func19 (by kernel_rfl) (by kernel_rfl)
theorem E20:Enters Tryz.prog 20:=ZD Tryz.func20 (by kernel_rfl) (by kernel_rfl)
theorem E21:Enters Tryz.prog 21:=ZD Tryz.func21 (by kernel_rfl) (by kernel_rfl)
theorem E22:Enters Tryz.prog 22:=ZD Tryz.func22 (by kernel_rfl) (by kernel_rfl)
theorem E23:Enters Tryz.prog 23:=ZD Tryz.func23 (by kernel_rfl) (by kernel_rfl)
theorem E24:Enters Tryz.prog 24:=ZD Tryz.func24 (by kernel_rfl) (by kernel_rfl)
theorem E25:Enters Tryz.prog 25:=ZD Tryz.func25 (by kernel_rfl) (by kernel_rfl)
theorem E29:Enters Tryz.prog 29:=ZD Tryz.func29 (by kernel_rfl) (by kernel_rfl)
theorem E30:Enters Tryz.prog 30:=ZD Tryz.func30 (by kernel_rfl) (by kernel_rfl)
theorem E31:Enters Tryz.prog 31:=ZD Tryz.func31 (by kernel_rfl) (by kernel_rfl)
theorem E32:Enters Tryz.prog 32:=ZD Tryz.func32 (by kernel_rfl) (by kernel_rfl)
theorem E36:Enters Tryz.prog 36:=ZD Tryz.func36 (by kernel_rfl) (by kernel_rfl)
theorem E37:Enters Tryz.prog 37:=ZD Tryz.func37 (by kernel_rfl) (by kernel_rfl)
theorem E38:Enters Tryz.prog 38:=ZD Tryz.func38 (by kernel_rfl) (by kernel_rfl)
theorem E39:Enters Tryz.prog 39:=ZD Tryz.func39 (by kernel_rfl) (by kernel_rfl)
theorem E40:Enters Tryz.prog 40:=ZD Tryz.func40 (by kernel_rfl) (by kernel_rfl)
theorem E41:Enters Tryz.prog 41:=ZD Tryz.func41 (by kernel_rfl) (by kernel_rfl)
theorem E42:Enters Tryz.prog 42:=ZD Tryz.func42 (by kernel_rfl) (by kernel_rfl)
theorem E43:Enters Tryz.prog 43:=ZD Tryz.func43 (by kernel_rfl) (by kernel_rfl)
theorem E44:Enters Tryz.prog 44:=ZD Tryz.func44 (by kernel_rfl) (by kernel_rfl)
theorem E45:Enters Tryz.prog 45:=ZD Tryz.func45 (by kernel_rfl) (by kernel_rfl)
theorem E51:Enters Tryz.prog 51:=ZD Tryz.func51 (by kernel_rfl) (by kernel_rfl)
theorem E52:Enters Tryz.prog 52:=ZD Tryz.func52 (by kernel_rfl) (by kernel_rfl)
theorem E53:Enters Tryz.prog 53:=ZD Tryz.func53 (by kernel_rfl) (by kernel_rfl)
theorem E54:Enters Tryz.prog 54:=ZD Tryz.func54 (by kernel_rfl) (by kernel_rfl)
theorem E55:Enters Tryz.prog 55:=ZD Tryz.func55 (by kernel_rfl) (by kernel_rfl)
theorem E59:Enters Tryz.prog 59:=ZD Tryz.func59 (by kernel_rfl) (by kernel_rfl)
theorem E60:Enters Tryz.prog 60:=ZD Tryz.func60 (by kernel_rfl) (by kernel_rfl)
theorem E61:Enters Tryz.prog 61:=ZD Tryz.func61 (by kernel_rfl) (by kernel_rfl)
theorem E62:Enters Tryz.prog 62:=ZD Tryz.func62 (by kernel_rfl) (by kernel_rfl)
theorem E63:Enters Tryz.prog 63:=ZD Tryz.func63 (by kernel_rfl) (by kernel_rfl)
theorem E64:Enters Tryz.prog 64:=ZD Tryz.func64 (by kernel_rfl) (by kernel_rfl)
theorem E65:Enters Tryz.prog 65:=ZD Tryz.func65 (by kernel_rfl) (by kernel_rfl)
theorem E66:Enters Tryz.prog 66:=ZD Tryz.func66 (by kernel_rfl) (by kernel_rfl)
theorem E67:Enters Tryz.prog 67:=ZD Tryz.func67 (by kernel_rfl) (by kernel_rfl)
theorem E68:Enters Tryz.prog 68:=ZD Tryz.func68 (by kernel_rfl) (by kernel_rfl)
theorem E75:Enters Tryz.prog 75:=ZD Tryz.func75 (by kernel_rfl) (by kernel_rfl)
theorem E76:Enters Tryz.prog 76:=ZD Tryz.func76 (by kernel_rfl) (by kernel_rfl)
theorem E77:Enters Tryz.prog 77:=ZD Tryz.func77 (by kernel_rfl) (by kernel_rfl)
theorem E78:Enters Tryz.prog 78:=ZD Tryz.func78 (by kernel_rfl) (by kernel_rfl)
theorem E79:Enters Tryz.prog 79:=ZD Tryz.func79 (by kernel_rfl) (by kernel_rfl)
theorem E82:Enters Tryz.prog 82:=ZD Tryz.func82 (by kernel_rfl) (by kernel_rfl)
theorem E83:Enters Tryz.prog 83:=ZD Tryz.func83 (by kernel_rfl) (by kernel_rfl)
theorem E84:Enters Tryz.prog 84:=ZD Tryz.func84 (by kernel_rfl) (by kernel_rfl)
theorem E85:Enters Tryz.prog 85:=ZD Tryz.func85 (by kernel_rfl) (by kernel_rfl)
theorem E86:Enters Tryz.prog 86:=ZD Tryz.func86 (by kernel_rfl) (by kernel_rfl)
theorem E87:Enters Tryz.prog 87:=ZD Tryz.func87 (by kernel_rfl) (by kernel_rfl)
theorem E89:Enters Tryz.prog 89:=ZD Tryz.func89 (by kernel_rfl) (by kernel_rfl)
theorem E90:Enters Tryz.prog 90:=ZD Tryz.func90 (by kernel_rfl) (by kernel_rfl)
theorem E91:Enters Tryz.prog 91:=ZD Tryz.func91 (by kernel_rfl) (by kernel_rfl)
theorem E92:Enters Tryz.prog 92:=ZD Tryz.func92 (by kernel_rfl) (by kernel_rfl)
theorem E93:Enters Tryz.prog 93:=ZD Tryz.func93 (by kernel_rfl) (by kernel_rfl)
theorem E96:Enters Tryz.prog 96:=ZD Tryz.func96 (by kernel_rfl) (by kernel_rfl)
theorem E97:Enters Tryz.prog 97:=ZD Tryz.func97 (by kernel_rfl) (by kernel_rfl)
theorem E98:Enters Tryz.prog 98:=ZD Tryz.func98 (by kernel_rfl) (by kernel_rfl)
theorem E99:Enters Tryz.prog 99:=ZD Tryz.func99 (by kernel_rfl) (by kernel_rfl)
theorem E100:Enters Tryz.prog 100:=ZD Tryz.func100 (by kernel_rfl) (by kernel_rfl)
theorem E101:Enters Tryz.prog 101:=ZD Tryz.func101 (by kernel_rfl) (by kernel_rfl)
theorem E102:Enters Tryz.prog 102:=ZD Tryz.func102 (by kernel_rfl) (by kernel_rfl)
theorem E105:Enters Tryz.prog 105:=ZD Tryz.func105 (by kernel_rfl) (by kernel_rfl)
theorem E114:Enters Tryz.prog 114:=ZD Tryz.func114 (by kernel_rfl) (by kernel_rfl)
theorem E115:Enters Tryz.prog 115:=ZD Tryz.func115 (by kernel_rfl) (by kernel_rfl)
theorem E116:Enters Tryz.prog 116:=ZD Tryz.func116 (by kernel_rfl) (by kernel_rfl)
theorem E119:Enters Tryz.prog 119:=ZD Tryz.func119 (by kernel_rfl) (by kernel_rfl)
theorem E120:Enters Tryz.prog 120:=ZD Tryz.func120 (by kernel_rfl) (by kernel_rfl)
theorem E121:Enters Tryz.prog 121:=ZD Tryz.func121 (by kernel_rfl) (by kernel_rfl)
theorem E122:Enters Tryz.prog 122:=ZD Tryz.func122 (by kernel_rfl) (by kernel_rfl)
theorem E123:Enters Tryz.prog 123:=ZD Tryz.func123 (by kernel_rfl) (by kernel_rfl)
theorem E124:Enters Tryz.prog 124:=ZD Tryz.func124 (by kernel_rfl) (by kernel_rfl)
theorem E125:Enters Tryz.prog 125:=ZD Tryz.func125 (by kernel_rfl) (by kernel_rfl)
theorem E140:Enters Tryz.prog 140:=ZD Tryz.func140 (by kernel_rfl) (by kernel_rfl)
theorem E144:Enters Tryz.prog 144:=ZD Tryz.func144 (by kernel_rfl) (by kernel_rfl)
theorem E145:Enters Tryz.prog 145:=ZD Tryz.func145 (by kernel_rfl) (by kernel_rfl)
theorem E152:Enters Tryz.prog 152:=ZD Tryz.func152 (by kernel_rfl) (by kernel_rfl)
theorem E153:Enters Tryz.prog 153:=ZD Tryz.func153 (by kernel_rfl) (by kernel_rfl)
theorem F25_0:fieldOff Tryz.prog 25 0=some 0:=by kernel_rfl
theorem F25_1:fieldOff Tryz.prog 25 1=some 1:=by kernel_rfl
theorem F29_0:fieldOff Tryz.prog 29 0=some 0:=by kernel_rfl
theorem F29_1:fieldOff Tryz.prog 29 1=some 2:=by kernel_rfl
theorem F29_2:fieldOff Tryz.prog 29 2=some 3:=by kernel_rfl
theorem F29_3:fieldOff Tryz.prog 29 3=some 4:=by kernel_rfl
theorem F32_0:fieldOff Tryz.prog 32 0=some 0:=by kernel_rfl
theorem F32_1:fieldOff Tryz.prog 32 1=some 1:=by kernel_rfl
theorem F32_2:fieldOff Tryz.prog 32 2=some 2:=by kernel_rfl
theorem F32_3:fieldOff Tryz.prog 32 3=some 3:=by kernel_rfl
theorem F32_4:fieldOff Tryz.prog 32 4=some 4:=by kernel_rfl
theorem F78_0:fieldOff Tryz.prog 78 0=some 0:=by kernel_rfl
theorem F78_1:fieldOff Tryz.prog 78 1=some 1:=by kernel_rfl
theorem I3:eInfo Tryz.prog 3=some (.int .i64 0,1,8):=by kernel_rfl
theorem I5:eInfo Tryz.prog 5=some (.int .u8 0,1,1):=by kernel_rfl
theorem I26:eInfo Tryz.prog 26=some (.slice none 0 0,1,24):=by kernel_rfl
theorem I30:eInfo Tryz.prog 30=some (.slice none 0 0,1,24):=by kernel_rfl
theorem I32:eInfo Tryz.prog 32=some (.agg #[.int .i64 0,.int .u32 0,.int .u32 0,.int .u32 0,.int .u32 0],5,24):=by kernel_rfl
theorem I78:eInfo Tryz.prog 78=some (.agg #[.int .i64 0,.slice none 0 0],2,32):=by kernel_rfl
theorem Mixed:Tryz.prog.follows .mixedOrders=true:=by kernel_rfl
theorem QF32 : (Tryz.prog.fieldsOf 32).toList = [Field.mk "At" 3 0 false "" "" 0, Field.mk "Birth" 27 1 false "" "" 8, Field.mk "Iv" 27 2 false "" "" 12, Field.mk "Tag" 27 3 false "" "" 16, Field.mk "Sum" 27 4 false "" "" 20] := by kernel_rfl
theorem QG32:Tryz.prog.eqGuardType Tryz.prog.depth 32=false:=by kernel_rfl
theorem QP32:Tryz.prog.stoodInHeld 32=false:=by kernel_rfl
theorem QU32:Tryz.prog.underlying 32=some (.struct (Tryz.prog.fieldsOf 32)):=by kernel_rfl
theorem S3:shapeOf Tryz.prog 3=some (false,1):=by kernel_rfl
theorem S5:shapeOf Tryz.prog 5=some (false,1):=by kernel_rfl
theorem S22:shapeOf Tryz.prog 22=some (false,1):=by kernel_rfl
theorem S23:shapeOf Tryz.prog 23=some (false,1):=by kernel_rfl
theorem S25:shapeOf Tryz.prog 25=some (true,2):=by kernel_rfl
theorem S26:shapeOf Tryz.prog 26=some (false,1):=by kernel_rfl
theorem S27:shapeOf Tryz.prog 27=some (false,1):=by kernel_rfl
theorem S29:shapeOf Tryz.prog 29=some (true,5):=by kernel_rfl
theorem S30:shapeOf Tryz.prog 30=some (false,1):=by kernel_rfl
theorem S32:shapeOf Tryz.prog 32=some (true,5):=by kernel_rfl
theorem S35:shapeOf Tryz.prog 35=some (false,1):=by kernel_rfl
theorem S36:shapeOf Tryz.prog 36=some (false,1):=by kernel_rfl
theorem S60:shapeOf Tryz.prog 60=some (false,1):=by kernel_rfl
theorem S78:shapeOf Tryz.prog 78=some (true,2):=by kernel_rfl
theorem S103:shapeOf Tryz.prog 103=some (true,5):=by kernel_rfl
theorem S141:shapeOf Tryz.prog 141=some (true,4):=by kernel_rfl
theorem U3:Tryz.prog.underlying 3=some (.int .i64):=by kernel_rfl
theorem U5:Tryz.prog.underlying 5=some (.int .u8):=by kernel_rfl
theorem U22:Tryz.prog.underlying 22=some (.slice 26):=by kernel_rfl
theorem U23:Tryz.prog.underlying 23=some (.slice 78):=by kernel_rfl
theorem U26:Tryz.prog.underlying 26=some (.slice 5):=by kernel_rfl
theorem U27:Tryz.prog.underlying 27=some (.int .u32):=by kernel_rfl
theorem U30:Tryz.prog.underlying 30=some (.slice 32):=by kernel_rfl
theorem U35:Tryz.prog.underlying 35=some (.slice 3):=by kernel_rfl
theorem U103:Tryz.prog.underlying 103=some (.array 5 3):=by kernel_rfl
theorem U128:Tryz.prog.underlying 128=some (.int .u64):=by kernel_rfl
theorem U141:Tryz.prog.underlying 141=some (.array 4 27):=by kernel_rfl
theorem U148:Tryz.prog.underlying 148=some (.slice 30):=by kernel_rfl
theorem U160:Tryz.prog.underlying 160=some (.map 3 78):=by kernel_rfl
theorem Z3:zeroOf Tryz.prog 3=some (.int .i64 0):=by kernel_rfl
theorem Z25:zeroOf Tryz.prog 25=some (.agg #[.slice none 0 0,.slice none 0 0]):=by kernel_rfl
theorem Z29:zeroOf Tryz.prog 29=some (.agg #[.slice none 0 0,.slice none 0 0,.slice none 0 0,.int .u32 0,.int .u32 0]):=by kernel_rfl
theorem Z30:zeroOf Tryz.prog 30=some (.slice none 0 0):=by kernel_rfl
theorem Z32:zeroOf Tryz.prog 32=some (.agg #[.int .i64 0,.int .u32 0,.int .u32 0,.int .u32 0,.int .u32 0]):=by kernel_rfl
theorem Z35:zeroOf Tryz.prog 35=some (.slice none 0 0):=by kernel_rfl
theorem Z36:zeroOf Tryz.prog 36=some (.int .i64 0):=by kernel_rfl
theorem Z60:zeroOf Tryz.prog 60=some (.nilFunc):=by kernel_rfl
theorem Z78:zeroOf Tryz.prog 78=some (.agg #[.int .i64 0,.slice none 0 0]):=by kernel_rfl
theorem Z103:zeroOf Tryz.prog 103=some (.agg #[.int .i64 0,.int .i64 0,.int .i64 0,.int .i64 0,.int .i64 0]):=by kernel_rfl
theorem Z141:zeroOf Tryz.prog 141=some (.agg #[.int .u32 0,.int .u32 0,.int .u32 0,.int .u32 0]):=by kernel_rfl
def tb:Tab:=⟨[(3,(false,1)),(5,(false,1)),(22,(false,1)),(23,(false,1)),(25,(true,2)),(26,(false,1)),(27,(false,1)),(29,(true,5)),(30,(false,1)),(32,(true,5)),(35,(false,1)),(36,(false,1)),(60,(false,1)),(78,(true,2)),(103,(true,5)),(141,(true,4))],
  [(25,0,0),(25,1,1),(29,0,0),(29,1,2),(29,2,3),(29,3,4),(32,0,0),(32,1,1),(32,2,2),(32,3,3),(32,4,4),(78,0,0),(78,1,1)],
  [(3,(.int .i64 0)),(25,(.agg #[.slice none 0 0,.slice none 0 0])),(29,(.agg #[.slice none 0 0,.slice none 0 0,.slice none 0 0,.int .u32 0,.int .u32 0])),(30,(.slice none 0 0)),(32,(.agg #[.int .i64 0,.int .u32 0,.int .u32 0,.int .u32 0,.int .u32 0])),(35,(.slice none 0 0)),(36,(.int .i64 0)),(60,(.nilFunc)),(78,(.agg #[.int .i64 0,.slice none 0 0])),(103,(.agg #[.int .i64 0,.int .i64 0,.int .i64 0,.int .i64 0,.int .i64 0])),(141,(.agg #[.int .u32 0,.int .u32 0,.int .u32 0,.int .u32 0]))],
  [(25,[(0,1),(1,1)]),(29,[(0,2),(2,1),(3,1),(4,1)]),(32,[(0,1),(1,1),(2,1),(3,1),(4,1)]),(78,[(0,1),(1,1)])]⟩
theorem ZB:tb.Ok Tryz.prog:=
  ⟨⟨S3,S5,S22,S23,S25,S26,S27,S29,S30,S32,S35,S36,S60,S78,S103,S141,trivial⟩,
  ⟨F25_0,F25_1,F29_0,F29_1,F29_2,F29_3,F32_0,F32_1,F32_2,F32_3,F32_4,F78_0,F78_1,trivial⟩,
  ⟨Z3,Z25,Z29,Z30,Z32,Z35,Z36,Z60,Z78,Z103,Z141,trivial⟩,
  ⟨B25,B29,B32,B78,trivial⟩⟩
end Go.Proofs.YtgiefadcpnegcaaGreat
