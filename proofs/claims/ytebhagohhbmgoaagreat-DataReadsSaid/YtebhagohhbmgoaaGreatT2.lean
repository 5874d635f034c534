import Derived.Test.YtebhagohhbmgoaaGreatProg
import Derived.Test.YtebhagohhbmgoaaGreatOwMb
import Derived.Test.YtebhagohhbmgoaaGreatOwMc
import Derived.KernelRfl
/- closed facts of this program. -/
set_option linter.unusedSimpArgs false
set_option linter.unusedVariables false
namespace Go.Proofs.YtebhagohhbmgoaaGreat
open Go.Ow Go.RowKit Go.Proofs
theorem B25:placesOf Tryz.prog 25=some [(0,1),(1,1)]:=by kernel_rfl
theorem B31:placesOf Tryz.prog 31=some [(0,1),(1,1),(2,1),(3,1),(4,1)]:=by kernel_rfl
theorem B96:placesOf Tryz.prog 96=some [(0,1),(1,1)]:=by kernel_rfl
theorem B99:placesOf Tryz.prog 99=some [(0,1),(1,1),(2,1),(3,1),(4,1),(5,1),(6,1),(7,5),(12,1)]:=by kernel_rfl
theorem B101:placesOf Tryz.prog 101=some [(0,1),(1,1),(2,1),(3,1),(4,1),(5,1),(6,1),(7,5)]:=by kernel_rfl
theorem B111:placesOf Tryz.prog 111=some [(0,1),(1,1),(2,1)]:=by kernel_rfl
theorem B113:placesOf Tryz.prog 113=some [(0,1),(1,1),(2,1),(3,1)]:=by kernel_rfl
theorem B156:placesA Tryz.prog 156 4=some [(0,1),(1,1),(2,1),(3,1)]:=by kernel_rfl
theorem B157:placesA Tryz.prog 157 4=some [(0,1),(1,1),(2,1),(3,1)]:=by kernel_rfl
theorem B200:placesA Tryz.prog 200 12=some [(0,1),(1,1),(2,1),(3,1),(4,1),(5,1),(6,1),(7,1),(8,1),(9,1),(10,1),(11,1)]:=by kernel_rfl
theorem B248:placesA Tryz.prog 248 5=some [(0,1),(1,1),(2,1),(3,1),(4,1)]:=by kernel_rfl
theorem C5:Tryz.prog.cellsOf 5=1:=by kernel_rfl
theorem E7:Enters Tryz.prog 7:=ZF Tryz.func7 (by kernel_rfl) (by kernel_rfl)
theorem E8:Enters Tryz.prog 8:=ZF Tryz.func8 (by kernel_rfl) (by kernel_rfl)
theorem E9:Enters Tryz.prog 9:=ZF Tryz.func9 (by kernel_rfl) (by kernel_rfl)
theorem E11:Enters Tryz.prog 11:=ZF Tryz.func11 (by kernel_rfl) (by kernel_rfl)
theorem E15:Enters Tryz.prog 15:=ZF Tryz.func15 (by kernel_rfl) (by kernel_rfl)
theorem E16:Enters Tryz.prog 16:=ZF Tryz.func16 (by kernel_rfl) (by kernel_rfl)
theorem E23:Enters Tryz.prog 23:=ZF Tryz.func23 (by kernel_rfl) (by kernel_rfl)
theorem E24:Enters Tryz.prog 24:=ZF Tryz.func24 (by kernel_rfl) (by kernel_rfl)
theorem E25:Enters Tryz.prog 25:=ZF Tryz.func25 (by kernel_rfl) (by kernel_rfl)
theorem E26:Enters Tryz.prog 26:=ZF Tryz.func26 (by kernel_rfl) (by kernel_rfl)
theorem E27:Enters Tryz.prog 27:=ZF Tryz.func27 (by kernel_rfl) (by kernel_rfl)
theorem E28:Enters Tryz.prog 28:=ZF Tryz.func28 (by kernel_rfl) (by kernel_rfl)
theorem E29:Enters Tryz.prog 29:=ZF Tryz.func29 (by kernel_rfl) (by kernel_rfl)
theorem E39:Enters Tryz.prog 39:=ZF Tryz.func39 (by kernel_rfl) (by kernel_rfl)
theorem E40:Enters Tryz.prog 40:=ZF Tryz.func40 (by kernel_rfl) (by kernel_rfl)
theorem E41:Enters Tryz.prog 41:=ZF Tryz.func41 (by kernel_rfl) (by kernel_rfl)
theorem E42:Enters Tryz.prog 42:=ZF Tryz.func42 (by kernel_rfl) (by kernel_rfl)
theorem E43:Enters Tryz.prog 43:=ZF Tryz.func43 (by kernel_rfl) (by kernel_rfl)
theorem E44:Enters Tryz.prog 44:=ZF Tryz.func44 (by kernel_rfl) (by kernel_rfl)
theorem E45:Enters Tryz.prog 45:=ZF Tryz.func45 (by kernel_rfl) (by kernel_rfl)
theorem E46:Enters Tryz.prog 46:=ZF Tryz.func46 (by kernel_rfl) (by kernel_rfl)
theorem E47:Enters Tryz.prog 47:=ZF Tryz.func47 (by kernel_rfl) (by kernel_rfl)
theorem E48:Enters Tryz.prog 48:=ZF Tryz.func48 (by kernel_rfl) (by kernel_rfl)
theorem E49:Enters Tryz.prog 49:=ZF Tryz.func49 (by kernel_rfl) (by kernel_rfl)
theorem E51:Enters Tryz.prog 51:=ZF Tryz.func51 (by kernel_rfl) (by kernel_rfl)
theorem E52:Enters Tryz.prog 52:=ZF Tryz.func52 (by kernel_rfl) (by kernel_rfl)
theorem E54:Enters Tryz.prog 54:=ZF Tryz.func54 (by kernel_rfl) (by kernel_rfl)
theorem E55:Enters Tryz.prog 55:=ZF Tryz.func55 (by kernel_rfl) (by kernel_rfl)
theorem E56:Enters Tryz.prog 56:=ZF Tryz.func56 (by kernel_rfl) (by kernel_rfl)
theorem E58:Enters Tryz.prog 58:=ZF Tryz.func58 (by kernel_rfl) (by kernel_rfl)
theorem E59:Enters Tryz.prog 59:=ZF Tryz.func59 (by kernel_rfl) (by kernel_rfl)
theorem E64:Enters Tryz.prog 64:=ZF Tryz.func64 (by kernel_rfl) (by kernel_rfl)
theorem E65:Enters Tryz.prog 65:=ZF Tryz.func65 (by kernel_rfl) (by kernel_rfl)
theorem E66:Enters Tryz.prog 66:=ZF Tryz.func66 (by kernel_rfl) (by kernel_rfl)
theorem E67:Enters Tryz.prog 67:=ZF Tryz.func67 (by kernel_rfl) (by kernel_rfl)
theorem E68:Enters Tryz.prog 68:=ZF Tryz.func68 (by kernel_rfl) (by kernel_rfl)
theorem E69:Enters Tryz.prog 69:=ZF Tryz.func69 (by kernel_rfl) (by kernel_rfl)
theorem E70:Enters Tryz.prog 70:=ZF Tryz.func70 (by kernel_rfl) (by kernel_rfl)
theorem E71:Enters Tryz.prog 71:=ZF Tryz.func71 (by kernel_rfl) (by kernel_rfl)
theorem E72:Enters Tryz.prog 72:=ZF Tryz.func72 (by kernel_rfl) (by kernel_rfl)
theorem E73:Enters Tryz.prog 73:=ZF Tryz.func73 (by kernel_rfl) (by kernel_rfl)
theorem E74:Enters Tryz.prog 74:=ZF Tryz.func74 (by kernel_rfl) (by kernel_rfl)
theorem E75:Enters Tryz.prog 75:=ZF Tryz.func75 (by kernel_rfl) (by kernel_rfl)
theorem E76:Enters Tryz.prog 76:=ZF Tryz.func76 (by kernel_rfl) (by kernel_rfl)
theorem E85:Enters Tryz.prog 85:=ZF Tryz.func85 (by kernel_rfl) (by kernel_rfl)
theorem E87:Enters Tryz.prog 87:=ZF Tryz.func87 (by kernel_rfl) (by kernel_rfl)
theorem E89:Enters Tryz.prog 89:=ZF Tryz.func89 (by kernel_rfl) (by kernel_rfl)
theorem E90:Enters Tryz.prog 90:=ZF Tryz.func90 (by kernel_rfl) (by kernel_rfl)
theorem E93:Enters Tryz.prog 93:=ZF Tryz.func93 (by kernel_rfl) (by kernel_rfl)
theorem E98:Enters Tryz.prog 98:=ZF Tryz.func98 (by kernel_rfl) (by kernel_rfl)
theorem E99:Enters Tryz.prog 99:=ZF Tryz.func99 (by kernel_rfl) (by kernel_rfl)
theorem E100:Enters Tryz.prog 100:=ZF Tryz.func100 (by kernel_rfl) (by kernel_rfl)
theorem E101:Enters Tryz.prog 101:=ZF Tryz.func101 (by kernel_rfl) (by kernel_rfl)
theorem E102:Enters Tryz.prog 102:=ZF Tryz.func102 (by kernel_rfl) (by kernel_rfl)
theorem E103:Enters Tryz.prog 103:=ZF Tryz.func103 (by kernel_rfl) (by kernel_rfl)
theorem E104:Enters Tryz.prog 104:=ZF Tryz.func104 (by kernel_rfl) (by kernel_rfl)
theorem E105:Enters Tryz.prog 105:=ZF Tryz.func105 (by kernel_rfl) (by kernel_rfl)
theorem E106:Enters Tryz.prog 106:=ZF Tryz.func106 (by kernel_rfl) (by kernel_rfl)
theorem E107:Enters Tryz.prog 107:=ZF Tryz.func107 (by kernel_rfl) (by kernel_rfl)
theorem E108:Enters Tryz.prog 108:=ZF Tryz.func108 (by kernel_rfl) (by kernel_rfl)
theorem E109:Enters Tryz.prog 109:=ZF Tryz.func109 (by kernel_rfl) (by kernel_rfl)
theorem E110:Enters Tryz.prog 110:=ZF Tryz.func110 (by kernel_rfl) (by kernel_rfl)
theorem E111:Enters Tryz.prog 111:=ZF Tryz.func111 (by kernel_rfl) (by kernel_rfl)
theorem E112:Enters Tryz.prog 112:=ZF Tryz.func112 (by kernel_rfl) (by kernel_rfl)
theorem E113:Enters Tryz.prog 113:=ZF Tryz.func113 (by kernel_rfl) (by kernel_rfl)
theorem E121:Enters Tryz.prog 121:=ZF Tryz.func121 (by kernel_rfl) (by kernel_rfl)
theorem E122:Enters Tryz.prog 122:=ZF Tryz.func122 (by kernel_rfl) (by kernel_rfl)
theorem E123:Enters Tryz.prog 123:=ZF Tryz.func123 (by kernel_rfl) (by kernel_rfl)
theorem E124:Enters Tryz.prog 124:=ZF Tryz.func124 (by kernel_rfl) (by kernel_rfl)
theorem E125:Enters Tryz.prog 125:=ZF Tryz.func125 (by kernel_rfl) (by kernel_rfl)
theorem E126:Enters Tryz.prog 126:=ZF Tryz.func126 (by kernel_rfl) (by kernel_rfl)
theorem E127:Enters Tryz.prog 127:=ZF Tryz.func127 (by kernel_rfl) (by kernel_rfl)
theorem E128:Enters Tryz.prog 128:=ZF Tryz.func128 (by kernel_rfl) (by kernel_rfl)
theorem E129:Enters Tryz.prog 129:=ZF Tryz.func129 (by kernel_rfl) (by kernel_rfl)
theorem E130:Enters Tryz.prog 130:=ZF Tryz.func130 (by kernel_rfl) (by kernel_rfl)
theorem E137:Enters Tryz.prog 137:=ZF Tryz.func137 (by kernel_rfl) (by kernel_rfl)
theorem E138:Enters Tryz.prog 138:=ZF Tryz.func138 (by kernel_rfl) (by kernel_rfl)
theorem E139:Enters Tryz.prog 139:=ZF Tryz.func139 (by kernel_rfl) (by kernel_rfl)
theorem E140:Enters Tryz.prog 140:=ZF Tryz.func140 (by kernel_rfl) (by kernel_rfl)
theorem E141:Enters Tryz.prog 141:=ZF Tryz.func141 (by kernel_rfl) (by kernel_rfl)
theorem E142:Enters Tryz.prog 142:=ZF Tryz.func142 (by kernel_rfl) (by kernel_rfl)
theorem E143:Enters Tryz.prog 143:=ZF Tryz.func143 (by kernel_rfl) (by kernel_rfl)
theorem E144:Enters Tryz.prog 144:=ZF Tryz.func144 (by kernel_rfl) (by kernel_rfl)
theorem E145:Enters Tryz.prog 145:=ZF Tryz.func145 (by kernel_rfl) (by kernel_rfl)
theorem E146:Enters Tryz.prog 146:=ZF Tryz.func146 (by kernel_rfl) (by kernel_rfl)
theorem E147:Enters Tryz.prog 147:=ZF Tryz.func147 (by kernel_rfl) (by kernel_rfl)
theorem E151:Enters Tryz.prog 151:=ZF Tryz.func151 (by kernel_rfl) (by kernel_rfl)
theorem E152:Enters Tryz.prog 152:=ZF Tryz.func152 (by kernel_rfl) (by kernel_rfl)
theorem E153:Enters Tryz.prog 153:=ZF Tryz.func153 (by kernel_rfl) (by kernel_rfl)
theorem E154:Enters Tryz.prog 154:=ZF Tryz.func154 (by kernel_rfl) (by kernel_rfl)
theorem E155:Enters Tryz.prog 155:=ZF Tryz.func155 (by kernel_rfl) (by kernel_rfl)
theorem E158:Enters Tryz.prog 158:=ZF Tryz.func158 (by kernel_rfl) (by kernel_rfl)
theorem E159:Enters Tryz.prog 159:=ZF Tryz.func159 (by kernel_rfl) (by kernel_rfl)
theorem E160:Enters Tryz.prog 160:=ZF Tryz.func160 (by kernel_rfl) (by kernel_rfl)
theorem E161:Enters Tryz.prog 161:=ZF Tryz.func161 (by kernel_rfl) (by kernel_rfl)
theorem E162:Enters Tryz.prog 162:=ZF Tryz.func162 (by kernel_rfl) (by kernel_rfl)
theorem E163:Enters Tryz.prog 163:=ZF Tryz.func163 (by kernel_rfl) (by kernel_rfl)
theorem E164:Enters Tryz.prog 164:=ZF Tryz.func164 (by kernel_rfl) (by kernel_rfl)
theorem E165:Enters Tryz.prog 165:=ZF Tryz.func165 (by kernel_rfl) (by kernel_rfl)
theorem E166:Enters Tryz.prog 166:=ZF Tryz.func166 (by kernel_rfl) (by kernel_rfl)
theorem E167:Enters Tryz.prog 167:=ZF Tryz.func167 (by kernel_rfl) (by kernel_rfl)
theorem E168:Enters Tryz.prog 168:=ZF Tryz.func168 (by kernel_rfl) (by kernel_rfl)
theorem E169:Enters Tryz.prog 169:=ZF Tryz.func169 (by kernel_rfl) (by kernel_rfl)
theorem E170:Enters Tryz.prog 170:=ZF Tryz.func170 (by kernel_rfl) (by kernel_rfl)
theorem E171:Enters Tryz.prog 171:=ZF Tryz.func171 (by kernel_rfl) (by kernel_rfl)
theorem E172:Enters Tryz.prog 172:=ZF Tryz.func172 (by kernel_rfl) (by kernel_rfl)
theorem E173:Enters Tryz.prog 173:=ZF Tryz.func173 (by kernel_rfl) (by kernel_rfl)
theorem E174:Enters Tryz.prog 174:=ZF Tryz.func174 (by kernel_rfl) (by kernel_rfl)
theorem E175:Enters Tryz.prog 175:=ZF Tryz.func175 (by kernel_rfl) (by kernel_rfl)
theorem E176:Enters Tryz.prog 176:=ZF Tryz.func176 (by kernel_rfl) (by kernel_rfl)
theorem E178:Enters Tryz.prog 178:=ZF Tryz.func178 (by kernel_rfl) (by kernel_rfl)
theorem E182:Enters Tryz.prog 182:=ZF Tryz.func182 (by kernel_rfl) (by kernel_rfl)
theorem E183:Enters Tryz.prog 183:=ZF Tryz.func183 (by kernel_rfl) (by kernel_rfl)
theorem E184:Enters Tryz.prog 184:=ZF Tryz.func184 (by kernel_rfl) (by kernel_rfl)
theorem E185:Enters Tryz.prog 185:=ZF Tryz.func185 (by kernel_rfl) (by kernel_rfl)
theorem E186:Enters Tryz.prog 186:=ZF Tryz.func186 (by kernel_rfl) (by kernel_rfl)
theorem E187:Enters Tryz.prog 187:=ZF Tryz.func187 (by kernel_rfl) (by kernel_rfl)
theorem E194:Enters Tryz.prog 194:=ZF Tryz.func194 (by kernel_rfl) (by kernel_rfl)
theorem E195:Enters Tryz.prog 195:=ZF Tryz.func195 (by kernel_rfl) (by kernel_rfl)
theorem E196:Enters Tryz.prog 196:=ZF Tryz.func196 (by kernel_rfl) (by kernel_rfl)
theorem E197:Enters Tryz.prog 197:=ZF Tryz.func197 (by kernel_rfl) (by kernel_rfl)
theorem E198:Enters Tryz.prog 198:=ZF Tryz.func198 (by kernel_rfl) (by kernel_rfl)
theorem E199:Enters Tryz.prog 199:=ZF Tryz.func199 (by kernel_rfl) (by kernel_rfl)
theorem E200:Enters Tryz.prog 200:=ZF Tryz.func200 (by kernel_rfl) (by kernel_rfl)
theorem E201:Enters Tryz.prog 201:=ZF Tryz.func201 (by kernel_rfl) (by kernel_rfl)
theorem E202:Enters Tryz.prog 202:=ZF Tryz.func202 (by kernel_rfl) (by kernel_rfl)
theorem E203:Enters Tryz.prog 203:=ZF Tryz.func203 (by kernel_rfl) (by kernel_rfl)
theorem E204:Enters Tryz.prog 204:=ZF Tryz.func204 (by kernel_rfl) (by kernel_rfl)
theorem E205:Enters Tryz.prog 205:=ZF Tryz.func205 (by kernel_rfl) (by kernel_rfl)
theorem E206:Enters Tryz.prog 206:=ZF Tryz.func206 (by kernel_rfl) (by kernel_rfl)
theorem E210:Enters Tryz.prog 210:=ZF Tryz.func210 (by kernel_rfl) (by kernel_rfl)
theorem E211:Enters Tryz.prog 211:=ZF Tryz.func211 (by kernel_rfl) (by kernel_rfl)
theorem E212:Enters Tryz.prog 212:=ZF Tryz.func212 (by kernel_rfl) (by kernel_rfl)
theorem E213:Enters Tryz.prog 213:=ZF Tryz.func213 (by kernel_rfl) (by kernel_rfl)
theorem E214:Enters Tryz.prog 214:=ZF Tryz.func214 (by kernel_rfl) (by kernel_rfl)
theorem E215:Enters Tryz.prog 215:=ZF Tryz.func215 (by kernel_rfl) (by kernel_rfl)
theorem E218:Enters Tryz.prog 218:=ZF Tryz.func218 (by kernel_rfl) (by kernel_rfl)
theorem E219:Enters Tryz.prog 219:=ZF Tryz.func219 (by kernel_rfl) (by kernel_rfl)
theorem E220:Enters Tryz.prog 220:=ZF Tryz.func220 (by kernel_rfl) (by kernel_rfl)
theorem E221:Enters Tryz.prog 221:=ZF Tryz.func221 (by kernel_rfl) (by kernel_rfl)
theorem E222:Enters Tryz.prog 222:=ZF Tryz.func222 (by kernel_rfl) (by kernel_rfl)
theorem E223:Enters Tryz.prog 223:=ZF Tryz.func223 (by kernel_rfl) (by kernel_rfl)
theorem E224:Enters Tryz.prog 224:=ZF Tryz.func224 (by kernel_rfl) (by kernel_rfl)
theorem E225:Enters Tryz.prog 225:=ZF Tryz.func225 (by kernel_rfl) (by kernel_rfl)
theorem E226:Enters Tryz.prog 226:=ZF Tryz.func226 (by kernel_rfl) (by kernel_rfl)
theorem E227:Enters Tryz.prog 227:=ZF Tryz.func227 (by kernel_rfl) (by kernel_rfl)
theorem E235:Enters Tryz.prog 235:=ZF Tryz.func235 (by kernel_rfl) (by kernel_rfl)
theorem E237:Enters Tryz.prog 237:=ZF Tryz.func237 (by kernel_rfl) (by kernel_rfl)
theorem E238:Enters Tryz.prog 238:=ZF Tryz.func238 (by kernel_rfl) (by kernel_rfl)
theorem E239:Enters Tryz.prog 239:=ZF Tryz.func239 (by kernel_rfl) (by kernel_rfl)
theorem E240:Enters Tryz.prog 240:=ZF Tryz.func240 (by kernel_rfl) (by kernel_rfl)
theorem E252:Enters Tryz.prog 252:=ZF Tryz.func252 (by kernel_rfl) (by kernel_rfl)
theorem E253:Enters Tryz.prog 253:=ZF Tryz.func253 (by kernel_rfl) (by kernel_rfl)
theorem E254:Enters Tryz.prog 254:=ZF Tryz.func254 (by kernel_rfl) (by kernel_rfl)
theorem E255:Enters Tryz.prog 255:=ZF Tryz.func255 (by kernel_rfl) (by kernel_rfl)
theorem E256:Enters Tryz.prog 256:=ZF Tryz.func256 (by kernel_rfl) (by kernel_rfl)
theorem E257:Enters Tryz.prog 257:=ZF Tryz.func257 (by kernel_rfl) (by kernel_rfl)
theorem E258:Enters Tryz.prog 258:=ZF Tryz.func258 (by kernel_rfl) (by kernel_rfl)
theorem E259:Enters Tryz.prog 259:=ZF Tryz.func259 (by kernel_rfl) (by kernel_rfl)
theorem E260:Enters Tryz.prog 260:=ZF Tryz.func260 (by kernel_rfl) (by kernel_rfl)
theorem E261:Enters Tryz.prog 261:=ZF Tryz.func261 (by kernel_rfl) (by kernel_rfl)
theorem E262:Enters Tryz.prog 262:=ZF Tryz.func262 (by kernel_rfl) (by kernel_rfl)
theorem E263:Enters Tryz.prog 263:=ZF Tryz.func263 (by kernel_rfl) (by kernel_rfl)
theorem E264:Enters Tryz.prog 264:=ZF Tryz.func264 (by kernel_rfl) (by kernel_rfl)
theorem E273:Enters Tryz.prog 273:=ZF Tryz.func273 (by kernel_rfl) (by kernel_rfl)
theorem E274:Enters Tryz.prog 274:=ZF Tryz.func274 (by kernel_rfl) (by kernel_rfl)
theorem F25_0:fieldOff Tryz.prog 25 0=some 0:=by kernel_rfl
theorem F25_1:fieldOff Tryz.prog 25 1=some 1:=by kernel_rfl
theorem F29_0:fieldOff Tryz.prog 29 0=some 0:=by kernel_rfl
theorem F29_1:fieldOff Tryz.prog 29 1=some 2:=by kernel_rfl
theorem F29_2:fieldOff Tryz.prog 29 2=some 3:=by kernel_rfl
theorem F29_3:fieldOff Tryz.prog 29 3=some 4:=by kernel_rfl
theorem F31_0:fieldOff Tryz.prog 31 0=some 0:=by kernel_rfl
theorem F31_1:fieldOff Tryz.prog 31 1=some 1:=by kernel_rfl
theorem F31_2:fieldOff Tryz.prog 31 2=some 2:=by kernel_rfl
theorem F31_3:fieldOff Tryz.prog 31 3=some 3:=by kernel_rfl
theorem F31_4:fieldOff Tryz.prog 31 4=some 4:=by kernel_rfl
theorem F55_0:fieldOff Tryz.prog 55 0=some 0:=by kernel_rfl
theorem F55_1:fieldOff Tryz.prog 55 1=some 5:=by kernel_rfl
theorem F55_2:fieldOff Tryz.prog 55 2=some 6:=by kernel_rfl
theorem F55_3:fieldOff Tryz.prog 55 3=some 11:=by kernel_rfl
theorem F55_4:fieldOff Tryz.prog 55 4=some 12:=by kernel_rfl
theorem F55_5:fieldOff Tryz.prog 55 5=some 13:=by kernel_rfl
theorem F55_6:fieldOff Tryz.prog 55 6=some 14:=by kernel_rfl
theorem F55_7:fieldOff Tryz.prog 55 7=some 15:=by kernel_rfl
theorem F55_8:fieldOff Tryz.prog 55 8=some 16:=by kernel_rfl
theorem F55_9:fieldOff Tryz.prog 55 9=some 17:=by kernel_rfl
theorem F55_10:fieldOff Tryz.prog 55 10=some 18:=by kernel_rfl
theorem F96_0:fieldOff Tryz.prog 96 0=some 0:=by kernel_rfl
theorem F96_1:fieldOff Tryz.prog 96 1=some 1:=by kernel_rfl
theorem F99_0:fieldOff Tryz.prog 99 0=some 0:=by kernel_rfl
theorem F99_1:fieldOff Tryz.prog 99 1=some 1:=by kernel_rfl
theorem F99_2:fieldOff Tryz.prog 99 2=some 2:=by kernel_rfl
theorem F99_3:fieldOff Tryz.prog 99 3=some 3:=by kernel_rfl
theorem F99_4:fieldOff Tryz.prog 99 4=some 4:=by kernel_rfl
theorem F99_5:fieldOff Tryz.prog 99 5=some 5:=by kernel_rfl
theorem F99_6:fieldOff Tryz.prog 99 6=some 6:=by kernel_rfl
theorem F99_7:fieldOff Tryz.prog 99 7=some 7:=by kernel_rfl
theorem F99_8:fieldOff Tryz.prog 99 8=some 12:=by kernel_rfl
theorem F101_0:fieldOff Tryz.prog 101 0=some 0:=by kernel_rfl
theorem F101_1:fieldOff Tryz.prog 101 1=some 1:=by kernel_rfl
theorem F101_2:fieldOff Tryz.prog 101 2=some 2:=by kernel_rfl
theorem F101_3:fieldOff Tryz.prog 101 3=some 3:=by kernel_rfl
theorem F101_4:fieldOff Tryz.prog 101 4=some 4:=by kernel_rfl
theorem F101_5:fieldOff Tryz.prog 101 5=some 5:=by kernel_rfl
theorem F101_6:fieldOff Tryz.prog 101 6=some 6:=by kernel_rfl
theorem F101_7:fieldOff Tryz.prog 101 7=some 7:=by kernel_rfl
theorem F111_0:fieldOff Tryz.prog 111 0=some 0:=by kernel_rfl
theorem F111_1:fieldOff Tryz.prog 111 1=some 1:=by kernel_rfl
theorem F111_2:fieldOff Tryz.prog 111 2=some 2:=by kernel_rfl
theorem F113_0:fieldOff Tryz.prog 113 0=some 0:=by kernel_rfl
theorem F113_1:fieldOff Tryz.prog 113 1=some 1:=by kernel_rfl
theorem F113_2:fieldOff Tryz.prog 113 2=some 2:=by kernel_rfl
theorem F113_3:fieldOff Tryz.prog 113 3=some 3:=by kernel_rfl
theorem I3:eInfo Tryz.prog 3=some (.int .i64 0,1,8):=by kernel_rfl
theorem I5:eInfo Tryz.prog 5=some (.int .u8 0,1,1):=by kernel_rfl
theorem I26:eInfo Tryz.prog 26=some (.slice none 0 0,1,24):=by kernel_rfl
theorem I31:eInfo Tryz.prog 31=some (.agg #[.int .i64 0,.int .u32 0,.int .u32 0,.int .u32 0,.int .u32 0],5,24):=by kernel_rfl
theorem I96:eInfo Tryz.prog 96=some (.agg #[.int .i64 0,.slice none 0 0],2,32):=by kernel_rfl
theorem I99:eInfo Tryz.prog 99=some (.agg #[.int .i64 0,.int .u8 0,.int .i64 0,.int .i64 0,.int .u32 0,.int .u32 0,.int .i64 0,.int .i64 0,.int .u32 0,.int .u32 0,.int .u32 0,.int .u32 0,.slice none 0 0],13,96):=by kernel_rfl
theorem I101:eInfo Tryz.prog 101=some (.agg #[.int .i64 0,.int .i64 0,.int .i64 0,.int .u8 0,.int .i64 0,.int .i64 0,.slice none 0 0,.int .i64 0,.int .u32 0,.int .u32 0,.int .u32 0,.int .u32 0],12,96):=by kernel_rfl
theorem Mixed:Tryz.prog.follows .mixedOrders=true:=by kernel_rfl
theorem QF31 : (Tryz.prog.fieldsOf 31).toList = [Field.mk "At" 3 0 false "" "" 0, Field.mk "Birth" 27 1 false "" "" 8, Field.mk "Iv" 27 2 false "" "" 12, Field.mk "Tag" 27 3 false "" "" 16, Field.mk "Sum" 27 4 false "" "" 20] := by kernel_rfl
theorem QG31:Tryz.prog.eqGuardType Tryz.prog.depth 31=false:=by kernel_rfl
theorem QG200:Tryz.prog.eqGuardType Tryz.prog.depth 200=false:=by kernel_rfl
theorem QP31:Tryz.prog.stoodInHeld 31=false:=by kernel_rfl
theorem QU31:Tryz.prog.underlying 31=some (.struct (Tryz.prog.fieldsOf 31)):=by kernel_rfl
theorem S3:shapeOf Tryz.prog 3=some (false,1):=by kernel_rfl
theorem S4:shapeOf Tryz.prog 4=some (false,1):=by kernel_rfl
theorem S5:shapeOf Tryz.prog 5=some (false,1):=by kernel_rfl
theorem S22:shapeOf Tryz.prog 22=some (false,1):=by kernel_rfl
theorem S23:shapeOf Tryz.prog 23=some (false,1):=by kernel_rfl
theorem S25:shapeOf Tryz.prog 25=some (true,2):=by kernel_rfl
theorem S26:shapeOf Tryz.prog 26=some (false,1):=by kernel_rfl
theorem S27:shapeOf Tryz.prog 27=some (false,1):=by kernel_rfl
theorem S29:shapeOf Tryz.prog 29=some (true,5):=by kernel_rfl
theorem S31:shapeOf Tryz.prog 31=some (true,5):=by kernel_rfl
theorem S34:shapeOf Tryz.prog 34=some (false,1):=by kernel_rfl
theorem S51:shapeOf Tryz.prog 51=some (false,1):=by kernel_rfl
theorem S52:shapeOf Tryz.prog 52=some (false,1):=by kernel_rfl
theorem S53:shapeOf Tryz.prog 53=some (false,1):=by kernel_rfl
theorem S55:shapeOf Tryz.prog 55=some (true,19):=by kernel_rfl
theorem S96:shapeOf Tryz.prog 96=some (true,2):=by kernel_rfl
theorem S97:shapeOf Tryz.prog 97=some (false,1):=by kernel_rfl
theorem S99:shapeOf Tryz.prog 99=some (true,13):=by kernel_rfl
theorem S101:shapeOf Tryz.prog 101=some (true,12):=by kernel_rfl
theorem S111:shapeOf Tryz.prog 111=some (true,3):=by kernel_rfl
theorem S113:shapeOf Tryz.prog 113=some (true,4):=by kernel_rfl
theorem S156:shapeOf Tryz.prog 156=some (true,4):=by kernel_rfl
theorem S157:shapeOf Tryz.prog 157=some (true,4):=by kernel_rfl
theorem S199:shapeOf Tryz.prog 199=some (true,16):=by kernel_rfl
theorem S200:shapeOf Tryz.prog 200=some (true,12):=by kernel_rfl
theorem S248:shapeOf Tryz.prog 248=some (true,5):=by kernel_rfl
theorem U3:Tryz.prog.underlying 3=some (.int .i64):=by kernel_rfl
theorem U4:Tryz.prog.underlying 4=some (.bool):=by kernel_rfl
theorem U5:Tryz.prog.underlying 5=some (.int .u8):=by kernel_rfl
theorem U9:Tryz.prog.underlying 9=some (.string):=by kernel_rfl
theorem U22:Tryz.prog.underlying 22=some (.slice 26):=by kernel_rfl
theorem U23:Tryz.prog.underlying 23=some (.slice 96):=by kernel_rfl
theorem U26:Tryz.prog.underlying 26=some (.slice 5):=by kernel_rfl
theorem U27:Tryz.prog.underlying 27=some (.int .u32):=by kernel_rfl
theorem U51:Tryz.prog.underlying 51=some (.slice 3):=by kernel_rfl
theorem U52:Tryz.prog.underlying 52=some (.slice 99):=by kernel_rfl
theorem U53:Tryz.prog.underlying 53=some (.slice 101):=by kernel_rfl
theorem U97:Tryz.prog.underlying 97=some (.slice 31):=by kernel_rfl
theorem U156:Tryz.prog.underlying 156=some (.array 4 27):=by kernel_rfl
theorem U157:Tryz.prog.underlying 157=some (.array 4 27):=by kernel_rfl
theorem U190:Tryz.prog.underlying 190=some (.pointer 99):=by kernel_rfl
theorem U199:Tryz.prog.underlying 199=some (.array 16 5):=by kernel_rfl
theorem U200:Tryz.prog.underlying 200=some (.array 12 5):=by kernel_rfl
theorem U214:Tryz.prog.underlying 214=some (.int .u64):=by kernel_rfl
theorem U215:Tryz.prog.underlying 215=some (.map 3 96):=by kernel_rfl
theorem U248:Tryz.prog.underlying 248=some (.array 5 3):=by kernel_rfl
theorem U265:Tryz.prog.underlying 265=some (.slice 4):=by kernel_rfl
theorem Z3:zeroOf Tryz.prog 3=some (.int .i64 0):=by kernel_rfl
theorem Z4:zeroOf Tryz.prog 4=some (.bool false):=by kernel_rfl
theorem Z25:zeroOf Tryz.prog 25=some (.agg #[.slice none 0 0,.slice none 0 0]):=by kernel_rfl
theorem Z26:zeroOf Tryz.prog 26=some (.slice none 0 0):=by kernel_rfl
theorem Z29:zeroOf Tryz.prog 29=some (.agg #[.slice none 0 0,.slice none 0 0,.slice none 0 0,.int .u32 0,.int .u32 0]):=by kernel_rfl
theorem Z31:zeroOf Tryz.prog 31=some (.agg #[.int .i64 0,.int .u32 0,.int .u32 0,.int .u32 0,.int .u32 0]):=by kernel_rfl
theorem Z34:zeroOf Tryz.prog 34=some (.int .i64 0):=by kernel_rfl
theorem Z55:zeroOf Tryz.prog 55=some (.agg #[.slice none 0 0,.slice none 0 0,.slice none 0 0,.int .u32 0,.int .u32 0,.int .u32 0,.int .i64 0,.int .u32 0,.int .u32 0,.int .u32 0,.int .u32 0,.slice none 0 0,.slice none 0 0,.slice none 0 0,.slice none 0 0,.slice none 0 0,.int .i64 0,.int .i64 0,.int .u32 0]):=by kernel_rfl
theorem Z96:zeroOf Tryz.prog 96=some (.agg #[.int .i64 0,.slice none 0 0]):=by kernel_rfl
theorem Z97:zeroOf Tryz.prog 97=some (.slice none 0 0):=by kernel_rfl
theorem Z99:zeroOf Tryz.prog 99=some (.agg #[.int .i64 0,.int .u8 0,.int .i64 0,.int .i64 0,.int .u32 0,.int .u32 0,.int .i64 0,.int .i64 0,.int .u32 0,.int .u32 0,.int .u32 0,.int .u32 0,.slice none 0 0]):=by kernel_rfl
theorem Z101:zeroOf Tryz.prog 101=some (.agg #[.int .i64 0,.int .i64 0,.int .i64 0,.int .u8 0,.int .i64 0,.int .i64 0,.slice none 0 0,.int .i64 0,.int .u32 0,.int .u32 0,.int .u32 0,.int .u32 0]):=by kernel_rfl
theorem Z111:zeroOf Tryz.prog 111=some (.agg #[.int .i64 0,.int .i64 0,.int .i64 0]):=by kernel_rfl
theorem Z113:zeroOf Tryz.prog 113=some (.agg #[.int .u8 0,.int .i64 0,.int .i64 0,.slice none 0 0]):=by kernel_rfl
theorem Z156:zeroOf Tryz.prog 156=some (.agg #[.int .u32 0,.int .u32 0,.int .u32 0,.int .u32 0]):=by kernel_rfl
theorem Z157:zeroOf Tryz.prog 157=some (.agg #[.int .u32 0,.int .u32 0,.int .u32 0,.int .u32 0]):=by kernel_rfl
theorem Z199:zeroOf Tryz.prog 199=some (.agg #[.int .u8 0,.int .u8 0,.int .u8 0,.int .u8 0,.int .u8 0,.int .u8 0,.int .u8 0,.int .u8 0,.int .u8 0,.int .u8 0,.int .u8 0,.int .u8 0,.int .u8 0,.int .u8 0,.int .u8 0,.int .u8 0]):=by kernel_rfl
theorem Z200:zeroOf Tryz.prog 200=some (.agg #[.int .u8 0,.int .u8 0,.int .u8 0,.int .u8 0,.int .u8 0,.int .u8 0,.int .u8 0,.int .u8 0,.int .u8 0,.int .u8 0,.int .u8 0,.int .u8 0]):=by kernel_rfl
theorem Z248:zeroOf Tryz.prog 248=some (.agg #[.int .i64 0,.int .i64 0,.int .i64 0,.int .i64 0,.int .i64 0]):=by kernel_rfl
def tb:Tab:=⟨[(3,(false,1)),(4,(false,1)),(5,(false,1)),(22,(false,1)),(23,(false,1)),(25,(true,2)),(26,(false,1)),(27,(false,1)),(29,(true,5)),(31,(true,5)),(34,(false,1)),(51,(false,1)),(52,(false,1)),(53,(false,1)),(55,(true,19)),(96,(true,2)),(97,(false,1)),(99,(true,13)),(101,(true,12)),(111,(true,3)),(113,(true,4)),(156,(true,4)),(157,(true,4)),(199,(true,16)),(200,(true,12)),(248,(true,5))],
  [(25,0,0),(25,1,1),(29,0,0),(29,1,2),(29,2,3),(29,3,4),(31,0,0),(31,1,1),(31,2,2),(31,3,3),(31,4,4),(55,0,0),(55,1,5),(55,2,6),(55,3,11),(55,4,12),(55,5,13),(55,6,14),(55,7,15),(55,8,16),(55,9,17),(55,10,18),(96,0,0),(96,1,1),(99,0,0),(99,1,1),(99,2,2),(99,3,3),(99,4,4),(99,5,5),(99,6,6),(99,7,7),(99,8,12),(101,0,0),(101,1,1),(101,2,2),(101,3,3),(101,4,4),(101,5,5),(101,6,6),(101,7,7),(111,0,0),(111,1,1),(111,2,2),(113,0,0),(113,1,1),(113,2,2),(113,3,3)],
  [(3,(.int .i64 0)),(4,(.bool false)),(25,(.agg #[.slice none 0 0,.slice none 0 0])),(26,(.slice none 0 0)),(29,(.agg #[.slice none 0 0,.slice none 0 0,.slice none 0 0,.int .u32 0,.int .u32 0])),(31,(.agg #[.int .i64 0,.int .u32 0,.int .u32 0,.int .u32 0,.int .u32 0])),(34,(.int .i64 0)),(55,(.agg #[.slice none 0 0,.slice none 0 0,.slice none 0 0,.int .u32 0,.int .u32 0,.int .u32 0,.int .i64 0,.int .u32 0,.int .u32 0,.int .u32 0,.int .u32 0,.slice none 0 0,.slice none 0 0,.slice none 0 0,.slice none 0 0,.slice none 0 0,.int .i64 0,.int .i64 0,.int .u32 0])),(96,(.agg #[.int .i64 0,.slice none 0 0])),(97,(.slice none 0 0)),(99,(.agg #[.int .i64 0,.int .u8 0,.int .i64 0,.int .i64 0,.int .u32 0,.int .u32 0,.int .i64 0,.int .i64 0,.int .u32 0,.int .u32 0,.int .u32 0,.int .u32 0,.slice none 0 0])),(101,(.agg #[.int .i64 0,.int .i64 0,.int .i64 0,.int .u8 0,.int .i64 0,.int .i64 0,.slice none 0 0,.int .i64 0,.int .u32 0,.int .u32 0,.int .u32 0,.int .u32 0])),(111,(.agg #[.int .i64 0,.int .i64 0,.int .i64 0])),(113,(.agg #[.int .u8 0,.int .i64 0,.int .i64 0,.slice none 0 0])),(156,(.agg #[.int .u32 0,.int .u32 0,.int .u32 0,.int .u32 0])),(157,(.agg #[.int .u32 0,.int .u32 0,.int .u32 0,.int .u32 0])),(199,(.agg #[.int .u8 0,.int .u8 0,.int .u8 0,.int .u8 0,.int .u8 0,.int .u8 0,.int .u8 0,.int .u8 0,.int .u8 0,.int .u8 0,.int .u8 0,.int .u8 0,.int .u8 0,.int .u8 0,.int .u8 0,.int .u8 0])),(200,(.agg #[.int .u8 0,.int .u8 0,.int .u8 0,.int .u8 0,.int .u8 0,.int .u8 0,.int .u8 0,.int .u8 0,.int .u8 0,.int .u8 0,.int .u8 0,.int .u8 0])),(248,(.agg #[.int .i64 0,.int .i64 0,.int .i64 0,.int .i64 0,.int .i64 0]))],
  [(25,[(0,1),(1,1)]),(31,[(0,1),(1,1),(2,1),(3,1),(4,1)]),(96,[(0,1),(1,1)]),(99,[(0,1),(1,1),(2,1),(3,1),(4,1),(5,1),(6,1),(7,5),(12,1)]),(101,[(0,1),(1,1),(2,1),(3,1),(4,1),(5,1),(6,1),(7,5)]),(111,[(0,1),(1,1),(2,1)]),(113,[(0,1),(1,1),(2,1),(3,1)])]⟩
theorem ZB:tb.Ok Tryz.prog:=
  ⟨⟨S3,S4,S5,S22,S23,S25,S26,S27,S29,S31,S34,S51,S52,S53,S55,S96,S97,S99,S101,S111,S113,S156,S157,S199,S200,S248,trivial⟩,
  ⟨F25_0,F25_1,F29_0,F29_1,F29_2,F29_3,F31_0,F31_1,F31_2,F31_3,F31_4,F55_0,F55_1,F55_2,F55_3,F55_4,F55_5,F55_6,F55_7,F55_8,F55_9,F55_10,F96_0,F96_1,F99_0,F99_1,F99_2,F99_3,F99_4,F99_5,F99_6,F99_7,F99_8,F101_0,F101_1,F101_2,F101_3,F101_4,F101_5,F101_6,F101_7,F111_0,F111_1,F111_2,F113_0,F113_1,F113_2,F113_3,trivial⟩,
  ⟨Z3,Z4,Z25,Z26,Z29,Z31,Z34,Z55,Z96,Z97,Z99,Z101,Z111,Z113,Z156,Z157,Z199,Z200,Z248,trivial⟩,
  ⟨B25,B31,B96,B99,B101,B111,B113,trivial⟩⟩
end Go.Proofs.YtebhagohhbmgoaaGreat
