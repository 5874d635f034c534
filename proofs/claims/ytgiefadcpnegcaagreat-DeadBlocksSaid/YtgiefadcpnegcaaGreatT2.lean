import Derived.Test.YtgiefadcpnegcaaGreatProg
import Derived.Test.YtgiefadcpnegcaaGreatOwMb
import Derived.Test.YtgiefadcpnegcaaGreatOwMc
import Derived.KernelRfl
/- closed facts of this program. -/
set_option linter.unusedSimpArgs false
set_option linter.unusedVariables false
namespace Go.Proofs.YtgiefadcpnegcaaGreat
open Go.Ow Go.RowKit Go.Proofs
theorem B25:placesOf Tryz.prog 25=some [(0,1),(1,1)]:=by kernel_rfl
theorem B29:placesOf Tryz.prog 29=some [(0,2),(2,1),(3,1),(4,1)]:=by kernel_rfl
theorem B32:placesOf Tryz.prog 32=some [(0,1),(1,1),(2,1),(3,1),(4,1)]:=by kernel_rfl
theorem B78:placesOf Tryz.prog 78=some [(0,1),(1,1)]:=by kernel_rfl
theorem B103:placesA Tryz.prog 103 5=some [(0,1),(1,1),(2,1),(3,1),(4,1)]:=by kernel_rfl
theorem B135:placesA Tryz.prog 135 4=some [(0,1),(1,1),(2,1),(3,1)]:=by kernel_rfl
theorem B141:placesA Tryz.prog 141 4=some [(0,1),(1,1),(2,1),(3,1)]:=by kernel_rfl
theorem E5:Enters Tryz.prog 5:=ZH Tryz.func5 (by kernel_rfl) (by kernel_rfl)
theorem E6:Enters Tryz.prog 6:=ZH Tryz.func6 (by kernel_rfl) (by kernel_rfl)
theorem E7:Enters Tryz.prog 7:=ZH Tryz.func7 (by kernel_rfl) (by kernel_rfl)
theorem E8:Enters Tryz.prog 8:=ZH Tryz.func8 (by kernel_rfl) (by kernel_rfl)
theorem E9:Enters Tryz.prog 9:=ZH Tryz.func9 (by kernel_rfl) (by kernel_rfl)
theorem E10:Enters Tryz.prog 10:=ZH Tryz.func10 (by kernel_rfl) (by kernel_rfl)
theorem E11:Enters Tryz.prog 11:=ZH Tryz.func11 (by kernel_rfl) (by kernel_rfl)
theorem E12:Enters Tryz.prog 12:=ZH Tryz.func12 (by kernel_rfl) (by kernel_rfl)
theorem E13:Enters Tryz.prog 13:=ZH Tryz.func13 (by kernel_rfl) (by kernel_rfl)
theorem E17:Enters Tryz.prog 17:=ZH Tryz.func17 (by kernel_rfl) (by kernel_rfl)
theorem E18:Enters Tryz.prog 18:=ZH Tryz.func18 (by kernel_rfl) (by kernel_rfl)
theorem E19:Enters Tryz.prog 19:=ZH Tryz.func19 (by kernel_rfl) (by kernel_rfl)
theorem E20:Enters Tryz.prog 20:=ZH Tryz.func20 (by kernel_rfl) (by kernel_rfl)
theorem E21:Enters Tryz.prog 21:=ZH Tryz.func21 (by kernel_rfl) (by kernel_rfl)
theorem E22:Enters Tryz.prog 22:=ZH Tryz.func22 (by kernel_rfl) (by kernel_rfl)
theorem E23:Enters Tryz.prog 23:=ZH Tryz.func23 (by kernel_rfl) (by kernel_rfl)
theorem E24:Enters Tryz.prog 24:=ZH Tryz.func24 (by kernel_rfl) (by kernel_rfl)
theorem E25:Enters Tryz.prog 25:=ZH Tryz.func25 (by kernel_rfl) (by kernel_rfl)
theorem E26:Enters Tryz.prog 26:=ZH Tryz.func26 (by kernel_rfl) (by kernel_rfl)
theorem E27:Enters Tryz.prog 27:=ZH Tryz.func27 (by kernel_rfl) (by kernel_rfl)
theorem E28:Enters Tryz.prog 28:=ZH Tryz.func28 (by kernel_rfl) (by kernel_rfl)
theorem E29:Enters Tryz.prog 29:=ZH Tryz.func29 (by kernel_rfl) (by kernel_rfl)
theorem E30:Enters Tryz.prog 30:=ZH Tryz.func30 (by kernel_rfl) (by kernel_rfl)
theorem E31:Enters Tryz.prog 31:=ZH Tryz.func31 (by kernel_rfl) (by kernel_rfl)
theorem E32:Enters Tryz.prog 32:=ZH Tryz.func32 (by kernel_rfl) (by kernel_rfl)
theorem E33:Enters Tryz.prog 33:=ZH Tryz.func33 (by kernel_rfl) (by kernel_rfl)
theorem E34:Enters Tryz.prog 34:=ZH Tryz.func34 (by kernel_rfl) (by kernel_rfl)
theorem E35:Enters Tryz.prog 35:=ZH Tryz.func35 (by kernel_rfl) (by kernel_rfl)
theorem E38:Enters Tryz.prog 38:=ZH Tryz.func38 (by kernel_rfl) (by kernel_rfl)
theorem E39:Enters Tryz.prog 39:=ZH Tryz.func39 (by kernel_rfl) (by kernel_rfl)
theorem E40:Enters Tryz.prog 40:=ZH Tryz.func40 (by kernel_rfl) (by kernel_rfl)
theorem E41:Enters Tryz.prog 41:=ZH Tryz.func41 (by kernel_rfl) (by kernel_rfl)
theorem E42:Enters Tryz.prog 42:=ZH Tryz.func42 (by kernel_rfl) (by kernel_rfl)
theorem E43:Enters Tryz.prog 43:=ZH Tryz.func43 (by kernel_rfl) (by kernel_rfl)
theorem E44:Enters Tryz.prog 44:=ZH Tryz.func44 (by kernel_rfl) (by kernel_rfl)
theorem E45:Enters Tryz.prog 45:=ZH Tryz.func45 (by kernel_rfl) (by kernel_rfl)
theorem E46:Enters Tryz.prog 46:=ZH Tryz.func46 (by kernel_rfl) (by kernel_rfl)
theorem E47:Enters Tryz.prog 47:=ZH Tryz.func47 (by kernel_rfl) (by kernel_rfl)
theorem E48:Enters Tryz.prog 48:=ZH Tryz.func48 (by kernel_rfl) (by kernel_rfl)
theorem E49:Enters Tryz.prog 49:=ZH Tryz.func49 (by kernel_rfl) (by kernel_rfl)
theorem E50:Enters Tryz.prog 50:=ZH Tryz.func50 (by kernel_rfl) (by kernel_rfl)
theorem E51:Enters Tryz.prog 51:=ZH Tryz.func51 (by kernel_rfl) (by kernel_rfl)
theorem E52:Enters Tryz.prog 52:=ZH Tryz.func52 (by kernel_rfl) (by kernel_rfl)
theorem E53:Enters Tryz.prog 53:=ZH Tryz.func53 (by kernel_rfl) (by kernel_rfl)
theorem E54:Enters Tryz.prog 54:=ZH Tryz.func54 (by kernel_rfl) (by kernel_rfl)
theorem E55:Enters Tryz.prog 55:=ZH Tryz.func55 (by kernel_rfl) (by kernel_rfl)
theorem E56:Enters Tryz.prog 56:=ZH Tryz.func56 (by kernel_rfl) (by kernel_rfl)
theorem E57:Enters Tryz.prog 57:=ZH Tryz.func57 (by kernel_rfl) (by kernel_rfl)
theorem E58:Enters Tryz.prog 58:=ZH Tryz.func58 (by kernel_rfl) (by kernel_rfl)
theorem E60:Enters Tryz.prog 60:=ZH Tryz.func60 (by kernel_rfl) (by kernel_rfl)
theorem E61:Enters Tryz.prog 61:=ZH Tryz.func61 (by kernel_rfl) (by kernel_rfl)
theorem E62:Enters Tryz.prog 62:=ZH Tryz.func62 (by kernel_rfl) (by kernel_rfl)
theorem E63:Enters Tryz.prog 63:=ZH Tryz.func63 (by kernel_rfl) (by kernel_rfl)
theorem E64:Enters Tryz.prog 64:=ZH Tryz.func64 (by kernel_rfl) (by kernel_rfl)
theorem E65:Enters Tryz.prog 65:=ZH Tryz.func65 (by kernel_rfl) (by kernel_rfl)
theorem E66:Enters Tryz.prog 66:=ZH Tryz.func66 (by kernel_rfl) (by kernel_rfl)
theorem E67:Enters Tryz.prog 67:=ZH Tryz.func67 (by kernel_rfl) (by kernel_rfl)
theorem E68:Enters Tryz.prog 68:=ZH Tryz.func68 (by kernel_rfl) (by kernel_rfl)
theorem E69:Enters Tryz.prog 69:=ZH Tryz.func69 (by kernel_rfl) (by kernel_rfl)
theorem E70:Enters Tryz.prog 70:=ZH Tryz.func70 (by kernel_rfl) (by kernel_rfl)
theorem E71:Enters Tryz.prog 71:=ZH Tryz.func71 (by kernel_rfl) (by kernel_rfl)
theorem E72:Enters Tryz.prog 72:=ZH Tryz.func72 (by kernel_rfl) (by kernel_rfl)
theorem E73:Enters Tryz.prog 73:=ZH Tryz.func73 (by kernel_rfl) (by kernel_rfl)
theorem E74:Enters Tryz.prog 74:=ZH Tryz.func74 (by kernel_rfl) (by kernel_rfl)
theorem E75:Enters Tryz.prog 75:=ZH Tryz.func75 (by kernel_rfl) (by kernel_rfl)
theorem E76:Enters Tryz.prog 76:=ZH Tryz.func76 (by kernel_rfl) (by kernel_rfl)
theorem E77:Enters Tryz.prog 77:=ZH Tryz.func77 (by kernel_rfl) (by kernel_rfl)
theorem E78:Enters Tryz.prog 78:=ZH Tryz.func78 (by kernel_rfl) (by kernel_rfl)
theorem E79:Enters Tryz.prog 79:=ZH Tryz.func79 (by kernel_rfl) (by kernel_rfl)
theorem E80:Enters Tryz.prog 80:=ZH Tryz.func80 (by kernel_rfl) (by kernel_rfl)
theorem E81:Enters Tryz.prog 81:=ZH Tryz.func81 (by kernel_rfl) (by kernel_rfl)
theorem E87:Enters Tryz.prog 87:=ZH Tryz.func87 (by kernel_rfl) (by kernel_rfl)
theorem E89:Enters Tryz.prog 89:=ZH Tryz.func89 (by kernel_rfl) (by kernel_rfl)
theorem E90:Enters Tryz.prog 90:=ZH Tryz.func90 (by kernel_rfl) (by kernel_rfl)
theorem E91:Enters Tryz.prog 91:=ZH Tryz.func91 (by kernel_rfl) (by kernel_rfl)
theorem E92:Enters Tryz.prog 92:=ZH Tryz.func92 (by kernel_rfl) (by kernel_rfl)
theorem E93:Enters Tryz.prog 93:=ZH Tryz.func93 (by kernel_rfl) (by kernel_rfl)
theorem E94:Enters Tryz.prog 94:=ZH Tryz.func94 (by kernel_rfl) (by kernel_rfl)
theorem E95:Enters Tryz.prog 95:=ZH Tryz.func95 (by kernel_rfl) (by kernel_rfl)
theorem E96:Enters Tryz.prog 96:=ZH Tryz.func96 (by kernel_rfl) (by kernel_rfl)
theorem E97:Enters Tryz.prog 97:=ZH Tryz.func97 (by kernel_rfl) (by kernel_rfl)
theorem E98:Enters Tryz.prog 98:=ZH Tryz.func98 (by kernel_rfl) (by kernel_rfl)
theorem E99:Enters Tryz.prog 99:=ZH Tryz.func99 (by kernel_rfl) (by kernel_rfl)
theorem E100:Enters Tryz.prog 100:=ZH Tryz.func100 (by kernel_rfl) (by kernel_rfl)
theorem E101:Enters Tryz.prog 101:=ZH Tryz.func101 (by kernel_rfl) (by kernel_rfl)
theorem E102:Enters Tryz.prog 102:=ZH Tryz.func102 (by kernel_rfl) (by kernel_rfl)
theorem E103:Enters Tryz.prog 103:=ZH Tryz.func103 (by kernel_rfl) (by kernel_rfl)
theorem E104:Enters Tryz.prog 104:=ZH Tryz.func104 (by kernel_rfl) (by kernel_rfl)
theorem E114:Enters Tryz.prog 114:=ZH Tryz.func114 (by kernel_rfl) (by kernel_rfl)
theorem E115:Enters Tryz.prog 115:=ZH Tryz.func115 (by kernel_rfl) (by kernel_rfl)
theorem E116:Enters Tryz.prog 116:=ZH Tryz.func116 (by kernel_rfl) (by kernel_rfl)
theorem E117:Enters Tryz.prog 117:=ZH Tryz.func117 (by kernel_rfl) (by kernel_rfl)
theorem E118:Enters Tryz.prog 118:=ZH Tryz.func118 (by kernel_rfl) (by kernel_rfl)
theorem E119:Enters Tryz.prog 119:=ZH Tryz.func119 (by kernel_rfl) (by kernel_rfl)
theorem E120:Enters Tryz.prog 120:=ZH Tryz.func120 (by kernel_rfl) (by kernel_rfl)
theorem E121:Enters Tryz.prog 121:=ZH Tryz.func121 (by kernel_rfl) (by kernel_rfl)
theorem E122:Enters Tryz.prog 122:=ZH Tryz.func122 (by kernel_rfl) (by kernel_rfl)
theorem E123:Enters Tryz.prog 123:=ZH Tryz.func123 (by kernel_rfl) (by kernel_rfl)
theorem E124:Enters Tryz.prog 124:=ZH Tryz.func124 (by kernel_rfl) (by kernel_rfl)
theorem E125:Enters Tryz.prog 125:=ZH Tryz.func125 (by kernel_rfl) (by kernel_rfl)
theorem E126:Enters Tryz.prog 126:=ZH Tryz.func126 (by kernel_rfl) (by kernel_rfl)
theorem E127:Enters Tryz.prog 127:=ZH Tryz.func127 (by kernel_rfl) (by kernel_rfl)
theorem E140:Enters Tryz.prog 140:=ZH Tryz.func140 (by kernel_rfl) (by kernel_rfl)
theorem E141:Enters Tryz.prog 141:=ZH Tryz.func141 (by kernel_rfl) (by kernel_rfl)
theorem E142:Enters Tryz.prog 142:=ZH Tryz.func142 (by kernel_rfl) (by kernel_rfl)
theorem E143:Enters Tryz.prog 143:=ZH Tryz.func143 (by kernel_rfl) (by kernel_rfl)
theorem E144:Enters Tryz.prog 144:=ZH Tryz.func144 (by kernel_rfl) (by kernel_rfl)
theorem E145:Enters Tryz.prog 145:=ZH Tryz.func145 (by kernel_rfl) (by kernel_rfl)
theorem E146:Enters Tryz.prog 146:=ZH Tryz.func146 (by kernel_rfl) (by kernel_rfl)
theorem E152:Enters Tryz.prog 152:=ZH Tryz.func152 (by kernel_rfl) (by kernel_rfl)
theorem E153:Enters Tryz.prog 153:=ZH Tryz.func153 (by kernel_rfl) (by kernel_rfl)
theorem F25_0:fieldOff Tryz.prog 25 0=some 0:=by kernel_rfl
theorem F25_1:fieldOff Tryz.prog 25 1=some 1:=by kernel_rfl
theorem F29_0:fieldOff Tryz.prog 29 0=some 0:=by kernel_rfl
theorem F29_1:fieldOff Tryz.prog 29 1=some 2:=by kernel_rfl
theorem F29_2:fieldOff Tryz.prog 29 2=some 3:=by kernel_rfl
theorem F29_3:fieldOff Tryz.prog 29 3=some 4:=by kernel_rfl
theorem F32_0:fieldOff Tryz.prog 32 0=some 0:=by kernel_rfl
theorem F32_1:fieldOff Tryz.prog 32 1=some 1:=by kernel_rfl
theorem F32_2:fieldOff Tryz.prog 32 2=some 2:=by kernel_rfl
theorem F32_3:fieldOff Tryz.prog 32 3=some 3:=by kernel_rfl
theorem F32_4:fieldOff Tryz.prog 32 4=some 4:=by kernel_rfl
theorem F78_0:fieldOff Tryz.prog 78 0=some 0:=by kernel_rfl
theorem F78_1:fieldOff Tryz.prog 78 1=some 1:=by kernel_rfl
theorem I3:eInfo Tryz.prog 3=some (.int .i64 0,1,8):=by kernel_rfl
theorem I5:eInfo Tryz.prog 5=some (.int .u8 0,1,1):=by kernel_rfl
theorem I26:eInfo Tryz.prog 26=some (.slice none 0 0,1,24):=by kernel_rfl
theorem I32:eInfo Tryz.prog 32=some (.agg #[.int .i64 0,.int .u32 0,.int .u32 0,.int .u32 0,.int .u32 0],5,24):=by kernel_rfl
theorem I78:eInfo Tryz.prog 78=some (.agg #[.int .i64 0,.slice none 0 0],2,32):=by kernel_rfl
theorem Mixed:Tryz.prog.follows .mixedOrders=true:=by kernel_rfl
theorem QF32 : (Tryz.prog.fieldsOf 32).toList = [Field.mk "At" 3 0 false "" "" 0, Field.mk "Birth" 27 1 false "" "" 8, Field.mk "Iv" 27 2 false "" "" 12, Field.mk "Tag" 27 3 false "" "" 16, Field.mk "Sum" 27 4 false "" "" 20] := by kernel_rfl
theorem QG32:Tryz.prog.eqGuardType Tryz.prog.depth 32=false:=by kernel_rfl
theorem QP32:Tryz.prog.stoodInHeld 32=false:=by kernel_rfl
theorem QU32:Tryz.prog.underlying 32=some (.struct (Tryz.prog.fieldsOf 32)):=by kernel_rfl
theorem S3:shapeOf Tryz.prog 3=some (false,1):=by kernel_rfl
theorem S4:shapeOf Tryz.prog 4=some (false,1):=by kernel_rfl
theorem S5:shapeOf Tryz.prog 5=some (false,1):=by kernel_rfl
theorem S22:shapeOf Tryz.prog 22=some (false,1):=by kernel_rfl
theorem S23:shapeOf Tryz.prog 23=some (false,1):=by kernel_rfl
theorem S25:shapeOf Tryz.prog 25=some (true,2):=by kernel_rfl
theorem S26:shapeOf Tryz.prog 26=some (false,1):=by kernel_rfl
theorem S27:shapeOf Tryz.prog 27=some (false,1):=by kernel_rfl
theorem S29:shapeOf Tryz.prog 29=some (true,5):=by kernel_rfl
theorem S30:shapeOf Tryz.prog 30=some (false,1):=by kernel_rfl
theorem S32:shapeOf Tryz.prog 32=some (true,5):=by kernel_rfl
theorem S35:shapeOf Tryz.prog 35=some (false,1):=by kernel_rfl
theorem S36:shapeOf Tryz.prog 36=some (false,1):=by kernel_rfl
theorem S60:shapeOf Tryz.prog 60=some (false,1):=by kernel_rfl
theorem S78:shapeOf Tryz.prog 78=some (true,2):=by kernel_rfl
theorem S103:shapeOf Tryz.prog 103=some (true,5):=by kernel_rfl
theorem S135:shapeOf Tryz.prog 135=some (true,4):=by kernel_rfl
theorem S141:shapeOf Tryz.prog 141=some (true,4):=by kernel_rfl
theorem U3:Tryz.prog.underlying 3=some (.int .i64):=by kernel_rfl
theorem U5:Tryz.prog.underlying 5=some (.int .u8):=by kernel_rfl
theorem U9:Tryz.prog.underlying 9=some (.string):=by kernel_rfl
theorem U22:Tryz.prog.underlying 22=some (.slice 26):=by kernel_rfl
theorem U23:Tryz.prog.underlying 23=some (.slice 78):=by kernel_rfl
theorem U26:Tryz.prog.underlying 26=some (.slice 5):=by kernel_rfl
theorem U27:Tryz.prog.underlying 27=some (.int .u32):=by kernel_rfl
theorem U30:Tryz.prog.underlying 30=some (.slice 32):=by kernel_rfl
theorem U35:Tryz.prog.underlying 35=some (.slice 3):=by kernel_rfl
theorem U103:Tryz.prog.underlying 103=some (.array 5 3):=by kernel_rfl
theorem U128:Tryz.prog.underlying 128=some (.int .u64):=by kernel_rfl
theorem U135:Tryz.prog.underlying 135=some (.array 4 27):=by kernel_rfl
theorem U141:Tryz.prog.underlying 141=some (.array 4 27):=by kernel_rfl
theorem U160:Tryz.prog.underlying 160=some (.map 3 78):=by kernel_rfl
theorem U184:Tryz.prog.underlying 184=some (.slice 4):=by kernel_rfl
theorem Z3:zeroOf Tryz.prog 3=some (.int .i64 0):=by kernel_rfl
theorem Z25:zeroOf Tryz.prog 25=some (.agg #[.slice none 0 0,.slice none 0 0]):=by kernel_rfl
theorem Z29:zeroOf Tryz.prog 29=some (.agg #[.slice none 0 0,.slice none 0 0,.slice none 0 0,.int .u32 0,.int .u32 0]):=by kernel_rfl
theorem Z30:zeroOf Tryz.prog 30=some (.slice none 0 0):=by kernel_rfl
theorem Z32:zeroOf Tryz.prog 32=some (.agg #[.int .i64 0,.int .u32 0,.int .u32 0,.int .u32 0,.int .u32 0]):=by kernel_rfl
theorem Z35:zeroOf Tryz.prog 35=some (.slice none 0 0):=by kernel_rfl
theorem Z36:zeroOf Tryz.prog 36=some (.int .i64 0):=by kernel_rfl
theorem Z60:zeroOf Tryz.prog 60=some (.nilFunc):=by kernel_rfl
theorem Z78:zeroOf Tryz.prog 78=some (.agg #[.int .i64 0,.slice none 0 0]):=by kernel_rfl
theorem Z103:zeroOf Tryz.prog 103=some (.agg #[.int .i64 0,.int .i64 0,.int .i64 0,.int .i64 0,.int .i64 0]):=by kernel_rfl
theorem Z135:zeroOf Tryz.prog 135=some (.agg #[.int .u32 0,.int .u32 0,.int .u32 0,.int .u32 0]):=by kernel_rfl
theorem Z141:zeroOf Tryz.prog 141=some (.agg #[.int .u32 0,.int .u32 0,.int .u32 0,.int .u32 0]):=by kernel_rfl
def tb:Tab:=⟨[(3,(false,1)),(4,(false,1)),(5,(false,1)),(22,(false,1)),(23,(false,1)),(25,(true,2)),(26,(false,1)),(27,(false,1)),(29,(true,5)),(30,(false,1)),(32,(true,5)),(35,(false,1)),(36,(false,1)),(60,(false,1)),(78,(true,2)),(103,(true,5)),(135,(true,4)),(141,(true,4))],
  [(25,0,0),(25,1,1),(29,0,0),(29,1,2),(29,2,3),(29,3,4),(32,0,0),(32,1,1),(32,2,2),(32,3,3),(32,4,4),(78,0,0),(78,1,1)],
  [(3,(.int .i64 0)),(25,(.agg #[.slice none 0 0,.slice none 0 0])),(29,(.agg #[.slice none 0 0,.slice none 0 0,.slice none 0 0,.int .u32 0,.int .u32 0])),(30,(.slice none 0 0)),(32,(.agg #[.int .i64 0,.int .u32 0,.int .u32 0,.int .u32 0,.int .u32 0])),(35,(.slice none 0 0)),(36,(.int .i64 0)),(60,(.nilFunc)),(78,(.agg #[.int .i64 0,.slice none 0 0])),(103,(.agg #[.int .i64 0,.int .i64 0,.int .i64 0,.int .i64 0,.int .i64 0])),(135,(.agg #[.int .u32 0,.int .u32 0,.int .u32 0,.int .u32 0])),(141,(.agg #[.int .u32 0,.int .u32 0,.int .u32 0,.int .u32 0]))],
  [(25,[(0,1),(1,1)]),(29,[(0,2),(2,1),(3,1),(4,1)]),(32,[(0,1),(1,1),(2,1),(3,1),(4,1)]),(78,[(0,1),(1,1)])]⟩
theorem ZB:tb.Ok Tryz.prog:=
  ⟨⟨S3,S4,S5,S22,S23,S25,S26,S27,S29,S30,S32,S35,S36,S60,S78,S103,S135,S141,trivial⟩,
  ⟨F25_0,F25_1,F29_0,F29_1,F29_2,F29_3,F32_0,F32_1,F32_2,F32_3,F32_4,F78_0,F78_1,trivial⟩,
  ⟨Z3,Z25,Z29,Z30,Z32,Z35,Z36,Z60,Z78,Z103,Z135,Z141,trivial⟩,
  ⟨B25,B29,B32,B78,trivial⟩⟩
end Go.Proofs.YtgiefadcpnegcaaGreat
