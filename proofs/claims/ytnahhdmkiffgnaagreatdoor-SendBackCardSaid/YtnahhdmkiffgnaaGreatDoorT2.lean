import Derived.Test.YtnahhdmkiffgnaaGreatDoorProg
import Derived.Test.YtnahhdmkiffgnaaGreatDoorOwMb
import Derived.Test.YtnahhdmkiffgnaaGreatDoorOwMc
import Derived.KernelRfl
/- closed facts of this program. -/
set_option linter.unusedSimpArgs false
set_option linter.unusedVariables false
namespace Go.Proofs.YtnahhdmkiffgnaaGreatDoor
open Go.Ow Go.RowKit Go.Proofs
theorem B26:placesOf Tryz.prog 26=some [(0,1),(1,1),(2,1),(3,1),(4,1)]:=by kernel_rfl
theorem B39:placesOf Tryz.prog 39=some [(0,1),(1,1)]:=by kernel_rfl
theorem B57:placesOf Tryz.prog 57=some [(0,1),(1,1),(2,1),(3,1),(4,1)]:=by kernel_rfl
theorem B239:placesOf Tryz.prog 239=some [(0,1),(1,1)]:=by kernel_rfl
theorem B244:placesA Tryz.prog 244 4=some [(0,1),(1,1),(2,1),(3,1)]:=by kernel_rfl
theorem E4:Enters Tryz.prog 4:=enters_of Tryz.func4 (by kernel_rfl) (by kernel_rfl)
theorem E5:Enters Tryz.prog 5:=enters_of Tryz.func5 (by kernel_rfl) (by kernel_rfl)
theorem E6:Enters Tryz.prog 6:=enters_of Tryz.func6 (by kernel_rfl) (by kernel_rfl)
theorem E7:Enters Tryz.prog 7:=enters_of Tryz.func7 (by kernel_rfl) (by kernel_rfl)
theorem E8:Enters Tryz.prog 8:=enters_of Tryz.func8 (by kernel_rfl) (by kernel_rfl)
theorem E12:Enters Tryz.prog 12:=enters_of Tryz.func12 (by kernel_rfl) (by kernel_rfl)
theorem E13:Enters Tryz.prog 13:=enters_of Tryz.func13 (by kernel_rfl) (by kernel_rfl)
theorem E14:Enters Tryz.prog 14:=enters_of Tryz.func14 (by kernel_rfl) (by kernel_rfl)
theorem E15:Enters Tryz.prog 15:=enters_of Tryz.func15 (by kernel_rfl) (by kernel_rfl)
theorem E16:Enters Tryz.prog 16:=enters_of Tryz.func16 (by kernel_rfl) (by kernel_rfl)
theorem E17:Enters Tryz.prog 17:=enters_of Tryz.func17 (by kernel_rfl) (by kernel_rfl)
theorem E25:Enters Tryz.prog 25:=enters_of Tryz.func25 (by kernel_rfl) (by kernel_rfl)
theorem E26:Enters Tryz.prog 26:=enters_of Tryz.func26 (by kernel_rfl) (by kernel_rfl)
theorem E27:Enters Tryz.prog 27:=enters_of Tryz.func27 (by kernel_rfl) (by kernel_rfl)
theorem E28:Enters Tryz.prog 28:=enters_of Tryz.func28 (by kernel_rfl) (by kernel_rfl)
theorem E29:Enters Tryz.prog 29:=enters_of Tryz.func29 (by kernel_rfl) (by kernel_rfl)
theorem E30:Enters Tryz.prog 30:=enters_of Tryz.func30 (by kernel_rfl) (by kernel_rfl)
theorem E31:Enters Tryz.prog 31:=enters_of Tryz.func31 (by kernel_rfl) (by kernel_rfl)
theorem E32:Enters Tryz.prog 32:=enters_of Tryz.func32 (by kernel_rfl) (by kernel_rfl)
theorem E40:Enters Tryz.prog 40:=enters_of Tryz.func40 (by kernel_rfl) (by kernel_rfl)
theorem E55:Enters Tryz.prog 55:=enters_of Tryz.func55 (by kernel_rfl) (by kernel_rfl)
theorem E56:Enters Tryz.prog 56:=enters_of Tryz.func56 (by kernel_rfl) (by kernel_rfl)
theorem E57:Enters Tryz.prog 57:=enters_of Tryz.func57 (by kernel_rfl) (by kernel_rfl)
theorem E58:Enters Tryz.prog 58:=enters_of Tryz.func58 (by kernel_rfl) (by kernel_rfl)
theorem E80:Enters Tryz.prog 80:=enters_of Tryz.func80 (by kernel_rfl) (by kernel_rfl)
theorem E99:Enters Tryz.prog 99:=enters_of Tryz.func99 (by kernel_rfl) (by kernel_rfl)
theorem E100:Enters Tryz.prog 100:=enters_of Tryz.func100 (by kernel_rfl) (by kernel_rfl)
theorem E110:Enters Tryz.prog 110:=enters_of Tryz.func110 (by kernel_rfl) (by kernel_rfl)
theorem E123:Enters Tryz.prog 123:=enters_of Tryz.func123 (by kernel_rfl) (by kernel_rfl)
theorem E137:Enters Tryz.prog 137:=enters_of Tryz.func137 (by kernel_rfl) (by kernel_rfl)
theorem E138:Enters Tryz.prog 138:=enters_of Tryz.func138 (by kernel_rfl) (by kernel_rfl)
theorem E139:Enters Tryz.prog 139:=enters_of Tryz.func139 (by kernel_rfl) (by kernel_rfl)
theorem E140:Enters Tryz.prog 140:=enters_of Tryz.func140 (by kernel_rfl) (by kernel_rfl)
theorem E153:Enters Tryz.prog 153:=enters_of Tryz.func153 (by kernel_rfl) (by kernel_rfl)
theorem E158:Enters Tryz.prog 158:=enters_of Tryz.func158 (by kernel_rfl) (by kernel_rfl)
theorem E161:Enters Tryz.prog 161:=enters_of Tryz.func161 (by kernel_rfl) (by kernel_rfl)
theorem E167:Enters Tryz.prog 167:=enters_of Tryz.func167 (by kernel_rfl) (by kernel_rfl)
theorem E168:Enters Tryz.prog 168:=enters_of Tryz.func168 (by kernel_rfl) (by kernel_rfl)
theorem E169:Enters Tryz.prog 169:=enters_of Tryz.func169 (by kernel_rfl) (by kernel_rfl)
theorem E171:Enters Tryz.prog 171:=enters_of Tryz.func171 (by kernel_rfl) (by kernel_rfl)
theorem E172:Enters Tryz.prog 172:=enters_of Tryz.func172 (by kernel_rfl) (by kernel_rfl)
theorem E183:Enters Tryz.prog 183:=enters_of Tryz.func183 (by kernel_rfl) (by kernel_rfl)
theorem E194:Enters Tryz.prog 194:=enters_of Tryz.func194 (by kernel_rfl) (by kernel_rfl)
theorem E197:Enters Tryz.prog 197:=enters_of Tryz.func197 (by kernel_rfl) (by kernel_rfl)
theorem E198:Enters Tryz.prog 198:=enters_of Tryz.func198 (by kernel_rfl) (by kernel_rfl)
theorem E199:Enters Tryz.prog 199:=enters_of Tryz.func199 (by kernel_rfl) (by kernel_rfl)
theorem E201:Enters Tryz.prog 201:=enters_of Tryz.func201 (by kernel_rfl) (by kernel_rfl)
theorem E203:Enters Tryz.prog 203:=enters_of Tryz.func203 (by kernel_rfl) (by kernel_rfl)
theorem E204:Enters Tryz.prog 204:=enters_of Tryz.func204 (by kernel_rfl) (by kernel_rfl)
theorem E205:Enters Tryz.prog 205:=enters_of Tryz.func205 (by kernel_rfl) (by kernel_rfl)
theorem E206:Enters Tryz.prog 206:=enters_of Tryz.func206 (by kernel_rfl) (by kernel_rfl)
theorem E210:Enters Tryz.prog 210:=enters_of Tryz.func210 (by kernel_rfl) (by kernel_rfl)
theorem E233:Enters Tryz.prog 233:=enters_of Tryz.func233 (by kernel_rfl) (by kernel_rfl)
theorem E251:Enters Tryz.prog 251:=enters_of Tryz.func251 (by kernel_rfl) (by kernel_rfl)
theorem E252:Enters Tryz.prog 252:=enters_of Tryz.func252 (by kernel_rfl) (by kernel_rfl)
theorem F26_0:fieldOff Tryz.prog 26 0=some 0:=by kernel_rfl
theorem F26_1:fieldOff Tryz.prog 26 1=some 1:=by kernel_rfl
theorem F26_2:fieldOff Tryz.prog 26 2=some 2:=by kernel_rfl
theorem F26_3:fieldOff Tryz.prog 26 3=some 3:=by kernel_rfl
theorem F26_4:fieldOff Tryz.prog 26 4=some 4:=by kernel_rfl
theorem F39_0:fieldOff Tryz.prog 39 0=some 0:=by kernel_rfl
theorem F39_1:fieldOff Tryz.prog 39 1=some 1:=by kernel_rfl
theorem F57_0:fieldOff Tryz.prog 57 0=some 0:=by kernel_rfl
theorem F57_1:fieldOff Tryz.prog 57 1=some 1:=by kernel_rfl
theorem F57_2:fieldOff Tryz.prog 57 2=some 2:=by kernel_rfl
theorem F57_3:fieldOff Tryz.prog 57 3=some 3:=by kernel_rfl
theorem F57_4:fieldOff Tryz.prog 57 4=some 4:=by kernel_rfl
theorem F239_0:fieldOff Tryz.prog 239 0=some 0:=by kernel_rfl
theorem F239_1:fieldOff Tryz.prog 239 1=some 1:=by kernel_rfl
theorem I3:eInfo Tryz.prog 3=some (.int .i64 0,1,8):=by kernel_rfl
theorem I5:eInfo Tryz.prog 5=some (.int .u8 0,1,1):=by kernel_rfl
theorem I23:eInfo Tryz.prog 23=some (.slice none 0 0,1,24):=by kernel_rfl
theorem I57:eInfo Tryz.prog 57=some (.agg #[.int .i64 0,.int .i64 0,.int .u32 0,.int .u32 0,.slice none 0 0],5,48):=by kernel_rfl
theorem I239:eInfo Tryz.prog 239=some (.agg #[.int .i64 0,.slice none 0 0],2,32):=by kernel_rfl
theorem Mixed:Tryz.prog.follows .mixedOrders=true:=by kernel_rfl
theorem S3:shapeOf Tryz.prog 3=some (false,1):=by kernel_rfl
theorem S4:shapeOf Tryz.prog 4=some (false,1):=by kernel_rfl
theorem S5:shapeOf Tryz.prog 5=some (false,1):=by kernel_rfl
theorem S22:shapeOf Tryz.prog 22=some (false,1):=by kernel_rfl
theorem S23:shapeOf Tryz.prog 23=some (false,1):=by kernel_rfl
theorem S24:shapeOf Tryz.prog 24=some (false,1):=by kernel_rfl
theorem S26:shapeOf Tryz.prog 26=some (true,5):=by kernel_rfl
theorem S36:shapeOf Tryz.prog 36=some (false,1):=by kernel_rfl
theorem S37:shapeOf Tryz.prog 37=some (false,1):=by kernel_rfl
theorem S39:shapeOf Tryz.prog 39=some (true,2):=by kernel_rfl
theorem S57:shapeOf Tryz.prog 57=some (true,5):=by kernel_rfl
theorem S60:shapeOf Tryz.prog 60=some (false,1):=by kernel_rfl
theorem S239:shapeOf Tryz.prog 239=some (true,2):=by kernel_rfl
theorem S244:shapeOf Tryz.prog 244=some (true,4):=by kernel_rfl
theorem U3:Tryz.prog.underlying 3=some (.int .i64):=by kernel_rfl
theorem U5:Tryz.prog.underlying 5=some (.int .u8):=by kernel_rfl
theorem U9:Tryz.prog.underlying 9=some (.string):=by kernel_rfl
theorem U22:Tryz.prog.underlying 22=some (.int .u32):=by kernel_rfl
theorem U23:Tryz.prog.underlying 23=some (.slice 5):=by kernel_rfl
theorem U24:Tryz.prog.underlying 24=some (.slice 57):=by kernel_rfl
theorem U36:Tryz.prog.underlying 36=some (.slice 23):=by kernel_rfl
theorem U37:Tryz.prog.underlying 37=some (.slice 239):=by kernel_rfl
theorem U44:Tryz.prog.underlying 44=some (.slice 3):=by kernel_rfl
theorem U169:Tryz.prog.underlying 169=some (.int .u64):=by kernel_rfl
theorem U244:Tryz.prog.underlying 244=some (.array 4 22):=by kernel_rfl
theorem U273:Tryz.prog.underlying 273=some (.map 3 239):=by kernel_rfl
theorem Z3:zeroOf Tryz.prog 3=some (.int .i64 0):=by kernel_rfl
theorem Z4:zeroOf Tryz.prog 4=some (.bool false):=by kernel_rfl
theorem Z26:zeroOf Tryz.prog 26=some (.agg #[.int .u32 0,.int .u32 0,.slice none 0 0,.slice none 0 0,.slice none 0 0]):=by kernel_rfl
theorem Z39:zeroOf Tryz.prog 39=some (.agg #[.slice none 0 0,.slice none 0 0]):=by kernel_rfl
theorem Z57:zeroOf Tryz.prog 57=some (.agg #[.int .i64 0,.int .i64 0,.int .u32 0,.int .u32 0,.slice none 0 0]):=by kernel_rfl
theorem Z60:zeroOf Tryz.prog 60=some (.nilFunc):=by kernel_rfl
theorem Z239:zeroOf Tryz.prog 239=some (.agg #[.int .i64 0,.slice none 0 0]):=by kernel_rfl
theorem Z244:zeroOf Tryz.prog 244=some (.agg #[.int .u32 0,.int .u32 0,.int .u32 0,.int .u32 0]):=by kernel_rfl
def tb:Tab:=⟨[(3,(false,1)),(4,(false,1)),(5,(false,1)),(22,(false,1)),(23,(false,1)),(24,(false,1)),(26,(true,5)),(36,(false,1)),(37,(false,1)),(39,(true,2)),(57,(true,5)),(60,(false,1)),(239,(true,2)),(244,(true,4))],
  [(26,0,0),(26,1,1),(26,2,2),(26,3,3),(26,4,4),(39,0,0),(39,1,1),(57,0,0),(57,1,1),(57,2,2),(57,3,3),(57,4,4),(239,0,0),(239,1,1)],
  [(3,(.int .i64 0)),(4,(.bool false)),(26,(.agg #[.int .u32 0,.int .u32 0,.slice none 0 0,.slice none 0 0,.slice none 0 0])),(39,(.agg #[.slice none 0 0,.slice none 0 0])),(57,(.agg #[.int .i64 0,.int .i64 0,.int .u32 0,.int .u32 0,.slice none 0 0])),(60,(.nilFunc)),(239,(.agg #[.int .i64 0,.slice none 0 0])),(244,(.agg #[.int .u32 0,.int .u32 0,.int .u32 0,.int .u32 0]))],
  [(26,[(0,1),(1,1),(2,1),(3,1),(4,1)]),(39,[(0,1),(1,1)]),(57,[(0,1),(1,1),(2,1),(3,1),(4,1)]),(239,[(0,1),(1,1)])]⟩
theorem tbo:tb.Ok Tryz.prog:=
  ⟨⟨S3,S4,S5,S22,S23,S24,S26,S36,S37,S39,S57,S60,S239,S244,trivial⟩,
  ⟨F26_0,F26_1,F26_2,F26_3,F26_4,F39_0,F39_1,F57_0,F57_1,F57_2,F57_3,F57_4,F239_0,F239_1,trivial⟩,
  ⟨Z3,Z4,Z26,Z39,Z57,Z60,Z239,Z244,trivial⟩,
  ⟨B26,B39,B57,B239,trivial⟩⟩
end Go.Proofs.YtnahhdmkiffgnaaGreatDoor
