import Derived.Test.YtebhagohhbmgoaaGreatProg
import Derived.Test.YtebhagohhbmgoaaGreatOwMc
import Derived.KernelRfl
/- closed facts of this program. -/
namespace Go.Proofs.YtebhagohhbmgoaaGreat
open Go.Ow Go.RowKit Go.Proofs
set_option linter.unusedVariables false
set_option linter.unusedSimpArgs false
theorem B25 : placesOf Tryz.prog 25 = some [(0,1),(1,1)]:=by kernel_rfl
theorem B29 : placesOf Tryz.prog 29 = some [(0,2),(2,1),(3,1),(4,1)]:=by kernel_rfl
theorem B31 : placesOf Tryz.prog 31 = some [(0,1),(1,1),(2,1),(3,1),(4,1)]:=by kernel_rfl
theorem B96 : placesOf Tryz.prog 96 = some [(0,1),(1,1)]:=by kernel_rfl
theorem B156 : placesA Tryz.prog 156 4 = some [(0,1),(1,1),(2,1),(3,1)]:=by kernel_rfl
theorem B157 : placesA Tryz.prog 157 4 = some [(0,1),(1,1),(2,1),(3,1)]:=by kernel_rfl
theorem E7 : Enters Tryz.prog 7:=ZN Tryz.func7 (by kernel_rfl) (by kernel_rfl)
theorem E8 : Enters Tryz.prog 8:=ZN Tryz.func8 (by kernel_rfl) (by kernel_rfl)
theorem E9 : Enters Tryz.prog 9:=ZN Tryz.func9 (by kernel_rfl) (by kernel_rfl)
theorem E10 : Enters Tryz.prog 10:=ZN Tryz.func10 (by kernel_rfl) (by kernel_rfl)
theorem E11 : Enters Tryz.prog 11:=ZN Tryz.func11 (by kernel_rfl) (by kernel_rfl)
theorem E12 : Enters Tryz.prog 12:=ZN Tryz.func12 (by kernel_rfl) (by kernel_rfl)
theorem E13 : Enters Tryz.prog 13:=ZN Tryz.func13 (by kernel_rfl) (by kernel_rfl)
theorem E14 : Enters Tryz.prog 14:=ZN Tryz.func14 (by kernel_rfl) (by kernel_rfl)
theorem E15 : Enters Tryz.prog 15:=ZN Tryz.func15 (by kernel_rfl) (by kernel_rfl)
theorem E16 : Enters Tryz.prog 16:=ZN Tryz.func16 (by kernel_rfl) (by kernel_rfl)
theorem E17 : Enters Tryz.prog 17:=ZN Tryz.func17 (by kernel_rfl) (by kernel_rfl)
theorem E18 : Enters Tryz.prog 18:=ZN Tryz.func18 (by kernel_rfl) (by kernel_rfl)
theorem E19 : Enters Tryz.prog 19:=ZN Tryz.func19 (by kernel_rfl) (by kernel_rfl)
theorem E20 : Enters Tryz.prog 20:=ZN Tryz.func20 (by kernel_rfl) (by kernel_rfl)
theorem E21 : Enters Tryz.prog 21:=ZN Tryz.func21 (by kernel_rfl) (by kernel_rfl)
theorem E22 : Enters Tryz.prog 22:=ZN Tryz.func22 (by kernel_rfl) (by kernel_rfl)
theorem E40 : Enters Tryz.prog 40:=ZN Tryz.func40 (by kernel_rfl) (by kernel_rfl)
theorem E41 : Enters Tryz.prog 41:=ZN Tryz.func41 (by kernel_rfl) (by kernel_rfl)
theorem E42 : Enters Tryz.prog 42:=ZN Tryz.func42 (by kernel_rfl) (by kernel_rfl)
theorem E43 : Enters Tryz.prog 43:=ZN Tryz.func43 (by kernel_rfl) (by kernel_rfl)
theorem E44 : Enters Tryz.prog 44:=ZN Tryz.func44 (by kernel_rfl) (by kernel_rfl)
theorem E45 : Enters Tryz.prog 45:=ZN Tryz.func45 (by kernel_rfl) (by kernel_rfl)
theorem E46 : Enters Tryz.prog 46:=ZN Tryz.func46 (by kernel_rfl) (by kernel_rfl)
theorem E47 : Enters Tryz.prog 47:=ZN Tryz.func47 (by kernel_rfl) (by kernel_rfl)
theorem E48 : Enters Tryz.prog 48:=ZN Tryz.func48 (by kernel_rfl) (by kernel_rfl)
theorem E49 : Enters Tryz.prog 49:=ZN Tryz.func49 (by kernel_rfl) (by kernel_rfl)
theorem E50 : Enters Tryz.prog 50:=ZN Tryz.func50 (by kernel_rfl) (by kernel_rfl)
theorem E51 : Enters Tryz.prog 51:=ZN Tryz.func51 (by kernel_rfl) (by kernel_rfl)
theorem E52 : Enters Tryz.prog 52:=ZN Tryz.func52 (by kernel_rfl) (by kernel_rfl)
theorem E53 : Enters Tryz.prog 53:=ZN Tryz.func53 (by kernel_rfl) (by kernel_rfl)
theorem E54 : Enters Tryz.prog 54:=ZN Tryz.func54 (by kernel_rfl) (by kernel_rfl)
theorem E55 : Enters Tryz.prog 55:=ZN Tryz.func55 (by kernel_rfl) (by kernel_rfl)
theorem E56 : Enters Tryz.prog 56:=ZN Tryz.func56 (by kernel_rfl) (by kernel_rfl)
theorem E57 : Enters Tryz.prog 57:=ZN Tryz.func57 (by kernel_rfl) (by kernel_rfl)
theorem E58 : Enters Tryz.prog 58:=ZN Tryz.func58 (by kernel_rfl) (by kernel_rfl)
theorem E59 : Enters Tryz.prog 59:=ZN Tryz.func59 (by kernel_rfl) (by kernel_rfl)
theorem E60 : Enters Tryz.prog 60:=ZN Tryz.func60 (by kernel_rfl) (by kernel_rfl)
theorem E61 : Enters Tryz.prog 61:=ZN Tryz.func61 (by kernel_rfl) (by kernel_rfl)
theorem E62 : Enters Tryz.prog 62:=ZN Tryz.func62 (by kernel_rfl) (by kernel_rfl)
theorem E63 : Enters Tryz.prog 63:=ZN Tryz.func63 (by kernel_rfl) (by kernel_rfl)
theorem E98 : Enters Tryz.prog 98:=ZN Tryz.func98 (by kernel_rfl) (by kernel_rfl)
theorem E99 : Enters Tryz.prog 99:=ZN Tryz.func99 (by kernel_rfl) (by kernel_rfl)
theorem E100 : Enters Tryz.prog 100:=ZN Tryz.func100 (by kernel_rfl) (by kernel_rfl)
theorem E101 : Enters Tryz.prog 101:=ZN Tryz.func101 (by kernel_rfl) (by kernel_rfl)
theorem E102 : Enters Tryz.prog 102:=ZN Tryz.func102 (by kernel_rfl) (by kernel_rfl)
theorem E103 : Enters Tryz.prog 103:=ZN Tryz.func103 (by kernel_rfl) (by kernel_rfl)
theorem E104 : Enters Tryz.prog 104:=ZN Tryz.func104 (by kernel_rfl) (by kernel_rfl)
theorem E105 : Enters Tryz.prog 105:=ZN Tryz.func105 (by kernel_rfl) (by kernel_rfl)
theorem E106 : Enters Tryz.prog 106:=ZN Tryz.func106 (by kernel_rfl) (by kernel_rfl)
theorem E107 : Enters Tryz.prog 107:=ZN Tryz.func107 (by kernel_rfl) (by kernel_rfl)
theorem E108 : Enters Tryz.prog 108:=ZN Tryz.func108 (by kernel_rfl) (by kernel_rfl)
theorem E109 : Enters Tryz.prog 109:=ZN Tryz.func109 (by kernel_rfl) (by kernel_rfl)
theorem E110 : Enters Tryz.prog 110:=ZN Tryz.func110 (by kernel_rfl) (by kernel_rfl)
theorem E111 : Enters Tryz.prog 111:=ZN Tryz.func111 (by kernel_rfl) (by kernel_rfl)
theorem E112 : Enters Tryz.prog 112:=ZN Tryz.func112 (by kernel_rfl) (by kernel_rfl)
theorem E113 : Enters Tryz.prog 113:=ZN Tryz.func113 (by kernel_rfl) (by kernel_rfl)
theorem E114 : Enters Tryz.prog 114:=ZN Tryz.func114 (by kernel_rfl) (by kernel_rfl)
theorem E115 : Enters Tryz.prog 115:=ZN Tryz.func115 (by kernel_rfl) (by kernel_rfl)
theorem E116 : Enters Tryz.prog 116:=ZN Tryz.func116 (by kernel_rfl) (by kernel_rfl)
theorem E117 : Enters Tryz.prog 117:=ZN Tryz.func117 (by kernel_rfl) (by kernel_rfl)
theorem E118 : Enters Tryz.prog 118:=ZN Tryz.func118 (by kernel_rfl) (by kernel_rfl)
theorem E119 : Enters Tryz.prog 119:=ZN Tryz.func119 (by kernel_rfl) (by kernel_rfl)
theorem E120 : Enters Tryz.prog 120:=ZN Tryz.func120 (by kernel_rfl) (by kernel_rfl)
theorem E144 : Enters Tryz.prog 144:=ZN Tryz.func144 (by kernel_rfl) (by kernel_rfl)
theorem E146 : Enters Tryz.prog 146:=ZN Tryz.func146 (by kernel_rfl) (by kernel_rfl)
theorem E160 : Enters Tryz.prog 160:=ZN Tryz.func160 (by kernel_rfl) (by kernel_rfl)
theorem E161 : Enters Tryz.prog 161:=ZN Tryz.func161 (by kernel_rfl) (by kernel_rfl)
theorem E162 : Enters Tryz.prog 162:=ZN Tryz.func162 (by kernel_rfl) (by kernel_rfl)
theorem E163 : Enters Tryz.prog 163:=ZN Tryz.func163 (by kernel_rfl) (by kernel_rfl)
theorem E164 : Enters Tryz.prog 164:=ZN Tryz.func164 (by kernel_rfl) (by kernel_rfl)
theorem E165 : Enters Tryz.prog 165:=ZN Tryz.func165 (by kernel_rfl) (by kernel_rfl)
theorem E166 : Enters Tryz.prog 166:=ZN Tryz.func166 (by kernel_rfl) (by kernel_rfl)
theorem E167 : Enters Tryz.prog 167:=ZN Tryz.func167 (by kernel_rfl) (by kernel_rfl)
theorem E168 : Enters Tryz.prog 168:=ZN Tryz.func168 (by kernel_rfl) (by kernel_rfl)
theorem E169 : Enters Tryz.prog 169:=ZN Tryz.func169 (by kernel_rfl) (by kernel_rfl)
theorem E170 : Enters Tryz.prog 170:=ZN Tryz.func170 (by kernel_rfl) (by kernel_rfl)
theorem E171 : Enters Tryz.prog 171:=ZN Tryz.func171 (by kernel_rfl) (by kernel_rfl)
theorem E172 : Enters Tryz.prog 172:=ZN Tryz.func172 (by kernel_rfl) (by kernel_rfl)
theorem E173 : Enters Tryz.prog 173:=ZN Tryz.func173 (by kernel_rfl) (by kernel_rfl)
theorem E174 : Enters Tryz.prog 174:=ZN Tryz.func174 (by kernel_rfl) (by kernel_rfl)
theorem E175 : Enters Tryz.prog 175:=ZN Tryz.func175 (by kernel_rfl) (by kernel_rfl)
theorem E176 : Enters Tryz.prog 176:=ZN Tryz.func176 (by kernel_rfl) (by kernel_rfl)
theorem E178 : Enters Tryz.prog 178:=ZN Tryz.func178 (by kernel_rfl) (by kernel_rfl)
theorem E180 : Enters Tryz.prog 180:=ZN Tryz.func180 (by kernel_rfl) (by kernel_rfl)
theorem E200 : Enters Tryz.prog 200:=ZN Tryz.func200 (by kernel_rfl) (by kernel_rfl)
theorem E202 : Enters Tryz.prog 202:=ZN Tryz.func202 (by kernel_rfl) (by kernel_rfl)
theorem E203 : Enters Tryz.prog 203:=ZN Tryz.func203 (by kernel_rfl) (by kernel_rfl)
theorem E218 : Enters Tryz.prog 218:=ZN Tryz.func218 (by kernel_rfl) (by kernel_rfl)
theorem E219 : Enters Tryz.prog 219:=ZN Tryz.func219 (by kernel_rfl) (by kernel_rfl)
theorem E220 : Enters Tryz.prog 220:=ZN Tryz.func220 (by kernel_rfl) (by kernel_rfl)
theorem E221 : Enters Tryz.prog 221:=ZN Tryz.func221 (by kernel_rfl) (by kernel_rfl)
theorem E222 : Enters Tryz.prog 222:=ZN Tryz.func222 (by kernel_rfl) (by kernel_rfl)
theorem E223 : Enters Tryz.prog 223:=ZN Tryz.func223 (by kernel_rfl) (by kernel_rfl)
theorem E224 : Enters Tryz.prog 224:=ZN Tryz.func224 (by kernel_rfl) (by kernel_rfl)
theorem E225 : Enters Tryz.prog 225:=ZN Tryz.func225 (by kernel_rfl) (by kernel_rfl)
theorem E226 : Enters Tryz.prog 226:=ZN Tryz.func226 (by kernel_rfl) (by kernel_rfl)
theorem E227 : Enters Tryz.prog 227:=ZN Tryz.func227 (by kernel_rfl) (by kernel_rfl)
theorem E234 : Enters Tryz.prog 234:=ZN Tryz.func234 (by kernel_rfl) (by kernel_rfl)
theorem E239 : Enters Tryz.prog 239:=ZN Tryz.func239 (by kernel_rfl) (by kernel_rfl)
theorem E255 : Enters Tryz.prog 255:=ZN Tryz.func255 (by kernel_rfl) (by kernel_rfl)
theorem E256 : Enters Tryz.prog 256:=ZN Tryz.func256 (by kernel_rfl) (by kernel_rfl)
theorem E257 : Enters Tryz.prog 257:=ZN Tryz.func257 (by kernel_rfl) (by kernel_rfl)
theorem E258 : Enters Tryz.prog 258:=ZN Tryz.func258 (by kernel_rfl) (by kernel_rfl)
theorem E259 : Enters Tryz.prog 259:=ZN Tryz.func259 (by kernel_rfl) (by kernel_rfl)
theorem E260 : Enters Tryz.prog 260:=ZN Tryz.func260 (by kernel_rfl) (by kernel_rfl)
theorem E261 : Enters Tryz.prog 261:=ZN Tryz.func261 (by kernel_rfl) (by kernel_rfl)
theorem E262 : Enters Tryz.prog 262:=ZN Tryz.func262 (by kernel_rfl) (by kernel_rfl)
theorem E263 : Enters Tryz.prog 263:=ZN Tryz.func263 (by kernel_rfl) (by kernel_rfl)
theorem E264 : Enters Tryz.prog 264:=ZN Tryz.func264 (by kernel_rfl) (by kernel_rfl)
theorem E274 : Enters Tryz.prog 274:=ZN Tryz.func274 (by kernel_rfl) (by kernel_rfl)
theorem F25_0 : fieldOff Tryz.prog 25 0 = some 0:=by kernel_rfl
theorem F25_1 : fieldOff Tryz.prog 25 1 = some 1:=by kernel_rfl
theorem F29_0 : fieldOff Tryz.prog 29 0 = some 0:=by kernel_rfl
theorem F29_1 : fieldOff Tryz.prog 29 1 = some 2:=by kernel_rfl
theorem F29_2 : fieldOff Tryz.prog 29 2 = some 3:=by kernel_rfl
theorem F29_3 : fieldOff Tryz.prog 29 3 = some 4:=by kernel_rfl
theorem F31_0 : fieldOff Tryz.prog 31 0 = some 0:=by kernel_rfl
theorem F31_1 : fieldOff Tryz.prog 31 1 = some 1:=by kernel_rfl
theorem F31_2 : fieldOff Tryz.prog 31 2 = some 2:=by kernel_rfl
theorem F31_3 : fieldOff Tryz.prog 31 3 = some 3:=by kernel_rfl
theorem F31_4 : fieldOff Tryz.prog 31 4 = some 4:=by kernel_rfl
theorem F96_0 : fieldOff Tryz.prog 96 0 = some 0:=by kernel_rfl
theorem F96_1 : fieldOff Tryz.prog 96 1 = some 1:=by kernel_rfl
theorem I3 : eInfo Tryz.prog 3 = some (.int .i64 0,1,8):=by kernel_rfl
theorem I5 : eInfo Tryz.prog 5 = some (.int .u8 0,1,1):=by kernel_rfl
theorem I26 : eInfo Tryz.prog 26 = some (.slice none 0 0,1,24):=by kernel_rfl
theorem I96 : eInfo Tryz.prog 96 = some (.agg #[.int .i64 0,.slice none 0 0],2,32):=by kernel_rfl
theorem Mixed : Tryz.prog.follows .mixedOrders = true:=by kernel_rfl
theorem QF31 : (Tryz.prog.fieldsOf 31).toList = [Field.mk "At" 3 0 false "" "" 0, Field.mk "Birth" 27 1 false "" "" 8, Field.mk "Iv" 27 2 false "" "" 12, Field.mk "Tag" 27 3 false "" "" 16, Field.mk "Sum" 27 4 false "" "" 20] := by kernel_rfl
theorem QG31 : Tryz.prog.eqGuardType Tryz.prog.depth 31 = false:=by kernel_rfl
theorem QP31 : Tryz.prog.stoodInHeld 31 = false:=by kernel_rfl
theorem QU31 : Tryz.prog.underlying 31 = some (.struct (Tryz.prog.fieldsOf 31)):=by kernel_rfl
theorem S3 : shapeOf Tryz.prog 3 = some (false,1):=by kernel_rfl
theorem S4 : shapeOf Tryz.prog 4 = some (false,1):=by kernel_rfl
theorem S5 : shapeOf Tryz.prog 5 = some (false,1):=by kernel_rfl
theorem S22 : shapeOf Tryz.prog 22 = some (false,1):=by kernel_rfl
theorem S23 : shapeOf Tryz.prog 23 = some (false,1):=by kernel_rfl
theorem S25 : shapeOf Tryz.prog 25 = some (true,2):=by kernel_rfl
theorem S26 : shapeOf Tryz.prog 26 = some (false,1):=by kernel_rfl
theorem S27 : shapeOf Tryz.prog 27 = some (false,1):=by kernel_rfl
theorem S29 : shapeOf Tryz.prog 29 = some (true,5):=by kernel_rfl
theorem S31 : shapeOf Tryz.prog 31 = some (true,5):=by kernel_rfl
theorem S96 : shapeOf Tryz.prog 96 = some (true,2):=by kernel_rfl
theorem S156 : shapeOf Tryz.prog 156 = some (true,4):=by kernel_rfl
theorem S157 : shapeOf Tryz.prog 157 = some (true,4):=by kernel_rfl
theorem S167 : shapeOf Tryz.prog 167 = some (false,1):=by kernel_rfl
theorem U3 : Tryz.prog.underlying 3 = some (.int .i64):=by kernel_rfl
theorem U4 : Tryz.prog.underlying 4 = some (.bool):=by kernel_rfl
theorem U5 : Tryz.prog.underlying 5 = some (.int .u8):=by kernel_rfl
theorem U9 : Tryz.prog.underlying 9 = some (.string):=by kernel_rfl
theorem U22 : Tryz.prog.underlying 22 = some (.slice 26):=by kernel_rfl
theorem U23 : Tryz.prog.underlying 23 = some (.slice 96):=by kernel_rfl
theorem U26 : Tryz.prog.underlying 26 = some (.slice 5):=by kernel_rfl
theorem U27 : Tryz.prog.underlying 27 = some (.int .u32):=by kernel_rfl
theorem U51 : Tryz.prog.underlying 51 = some (.slice 3):=by kernel_rfl
theorem U156 : Tryz.prog.underlying 156 = some (.array 4 27):=by kernel_rfl
theorem U157 : Tryz.prog.underlying 157 = some (.array 4 27):=by kernel_rfl
theorem U214 : Tryz.prog.underlying 214 = some (.int .u64):=by kernel_rfl
theorem U215 : Tryz.prog.underlying 215 = some (.map 3 96):=by kernel_rfl
theorem U265 : Tryz.prog.underlying 265 = some (.slice 4):=by kernel_rfl
theorem Z3 : zeroOf Tryz.prog 3 = some (.int .i64 0):=by kernel_rfl
theorem Z25 : zeroOf Tryz.prog 25 = some (.agg #[.slice none 0 0,.slice none 0 0]):=by kernel_rfl
theorem Z26 : zeroOf Tryz.prog 26 = some (.slice none 0 0):=by kernel_rfl
theorem Z29 : zeroOf Tryz.prog 29 = some (.agg #[.slice none 0 0,.slice none 0 0,.slice none 0 0,.int .u32 0,.int .u32 0]):=by kernel_rfl
theorem Z31 : zeroOf Tryz.prog 31 = some (.agg #[.int .i64 0,.int .u32 0,.int .u32 0,.int .u32 0,.int .u32 0]):=by kernel_rfl
theorem Z96 : zeroOf Tryz.prog 96 = some (.agg #[.int .i64 0,.slice none 0 0]):=by kernel_rfl
theorem Z156 : zeroOf Tryz.prog 156 = some (.agg #[.int .u32 0,.int .u32 0,.int .u32 0,.int .u32 0]):=by kernel_rfl
theorem Z157 : zeroOf Tryz.prog 157 = some (.agg #[.int .u32 0,.int .u32 0,.int .u32 0,.int .u32 0]):=by kernel_rfl
theorem Z167 : zeroOf Tryz.prog 167 = some (.nilFunc):=by kernel_rfl
def tb : Tab:=⟨[(3,(false,1)),(4,(false,1)),(5,(false,1)),(22,(false,1)),(23,(false,1)),(25,(true,2)),(26,(false,1)),(27,(false,1)),(29,(true,5)),(31,(true,5)),(96,(true,2)),(156,(true,4)),(157,(true,4)),(167,(false,1))],
  [(25,0,0),(25,1,1),(29,0,0),(29,1,2),(29,2,3),(29,3,4),(31,0,0),(31,1,1),(31,2,2),(31,3,3),(31,4,4),(96,0,0),(96,1,1)],
  [(3,(.int .i64 0)),(25,(.agg #[.slice none 0 0,.slice none 0 0])),(26,(.slice none 0 0)),(29,(.agg #[.slice none 0 0,.slice none 0 0,.slice none 0 0,.int .u32 0,.int .u32 0])),(31,(.agg #[.int .i64 0,.int .u32 0,.int .u32 0,.int .u32 0,.int .u32 0])),(96,(.agg #[.int .i64 0,.slice none 0 0])),(156,(.agg #[.int .u32 0,.int .u32 0,.int .u32 0,.int .u32 0])),(157,(.agg #[.int .u32 0,.int .u32 0,.int .u32 0,.int .u32 0])),(167,(.nilFunc))],
  [(25,[(0,1),(1,1)]),(29,[(0,2),(2,1),(3,1),(4,1)]),(31,[(0,1),(1,1),(2,1),(3,1),(4,1)]),(96,[(0,1),(1,1)])]⟩
theorem ZF : tb.Ok Tryz.prog :=
  ⟨⟨S3,S4,S5,S22,S23,S25,S26,S27,S29,S31,S96,S156,S157,S167,trivial⟩,
  ⟨F25_0,F25_1,F29_0,F29_1,F29_2,F29_3,F31_0,F31_1,F31_2,F31_3,F31_4,F96_0,F96_1,trivial⟩,
  ⟨Z3,Z25,Z26,Z29,Z31,Z96,Z156,Z157,Z167,trivial⟩,
  ⟨B25,B29,B31,B96,trivial⟩⟩
end Go.Proofs.YtebhagohhbmgoaaGreat
