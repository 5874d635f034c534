import Derived.Test.YtgdchaoklfjcpaaGreatDoorK3
/- Proved: contracts by value. -/
set_option linter.unusedVariables false
namespace Go.Proofs.YtgdchaoklfjcpaaGreatDoor
open Go Go.Ow Go.Pv Go.Proofs
set_option maxRecDepth 20000
noncomputable section
abbrev ZEP:Pv.Sp:=⟨[.ag 19,.d Yi [(2,0,5),(11,1,3),(12,2,47),(13,3,27),(14,4,27),(15,5,83)],.ag 3,ZOG],[.row,.row,.row,.row,.row,.row]⟩
abbrev ZEC:Pv.Sp:=⟨[.ag 12,.d Qv [],VT,.bor .w8 0 5,.bor .i 1 3,.bor Ye 2 47,.bor KJ 3 27,.bor KJ 4 27,.bor Qv 5 83],[.row,.row,.row,.row,.row,.row]⟩
abbrev Ge:SP:=⟨ZEP,ZEC,λx=>ZHj x.1 x.2⟩
theorem ZEM:KT 41 Ge:=kV [(86,[ZR])] [] zm2 ⟨ZY,trivial⟩
abbrev ZEO:Pv.Sp:=⟨[.ag 19,.d Yi [(11,0,3),(12,1,47),(13,2,27),(14,3,27),(15,4,83)],.ag 3,ZOG],[.row,.row,.row,.row,.row]⟩
abbrev ZEB:Pv.Sp:=⟨[.ag 12,.d Qv [],VT,.bor .i 0 3,.bor Ye 1 47,.bor KJ 2 27,.bor KJ 3 27,.bor Qv 4 83],[.row,.row,.row,.row,.row]⟩
abbrev Gd:SP:=⟨ZEO,ZEB,λx=>Ul x.1 x.2⟩
theorem ZEL:KT 41 Gd:=kV [(86,[ZR])] [] zm2 ⟨ZY,trivial⟩
abbrev BG:SP:=⟨zm64,⟨[.ag 5,ZMN,ZX],[.row]⟩,λx=>VX x.1 x.2⟩
theorem ZDE:KT 116 BG:=kV [(21,[YA]),(22,[Zq]),(154,[UA]),(28,[BJ])] [] ⟨[(4,zm0 15)],[],[],[],[],[]⟩ ⟨Yk,Z7,Gz,ZCI,trivial⟩
abbrev Xx:SP:=⟨⟨[.d ZFX [(0,0,83)],ZX,.d ZFX [(0,1,83)]],[.row,.row]⟩,⟨[.d ZFX [(0,2,83)]],[.row,.row,.row]⟩,λx=>(insO (α:=Change)) x.1 x.2.1 x.2.2⟩
theorem Kz:KT 115 Xx:=kG0 ZOa
abbrev ZHY:Pv.Sp:=⟨[.ptr 0 0,.ptr 1 0,.ptr 2 0,.ptr 3 0,.ptr 4 0],[.cells 1 [ZX],.cells 1 [VT],.cells 12 [.d Qv []],.cells 1 [.ptr 5 0],.cells 1 [ZX],.cells 19 [.d Yi [(11,6,3),(12,7,47),(13,8,27),(14,9,27),(15,10,83)]],.row,.row,.row,.row,.row]⟩
abbrev ZGr:Pv.Sp:=⟨[],[.cells 1 [ZX],.cells 1 [VT],.cells 12 [.d Qv []],.cells 1 [.ptr 5 0],.cells 1 [ZX],.cells 19 [.d Yi [(11,6,3),(12,7,47),(13,8,27),(14,9,27),(15,11,83)]],.row,.row,.row,.row,.row,.row]⟩
abbrev Uu:SP:=⟨ZHY,ZGr,λx=>Yj x.1 x.2.1 x.2.2.1 x.2.2.2.1 x.2.2.2.2⟩
theorem Dy:Kd Tryz.prog 114 Uu:=kWd [(115,[Xx])] [] ⟨[],[],[],[(0,[8]),(3,[7])],[],[10]⟩ ⟨Kz,trivial⟩ λx=>T8 (b:=Uj x.1 x.2.1 x.2.2.1 x.2.2.2.1 x.2.2.2.2) (by kernel_rfl) (ZFi x.1 x.2.1 x.2.2.1 x.2.2.2.1 x.2.2.2.2)
abbrev ZF4:Pv.Sp:=⟨[.ptr 0 0,.ptr 1 0,.ptr 2 0,.ptr 3 0,.ptr 4 0],[.cells 1 [ZX],.cells 1 [VT],.cells 12 [.d Qv []],.cells 1 [.ptr 5 0],.cells 1 [ZX],.cells 19 [.d Yi [(2,6,5),(11,7,3),(12,8,47),(13,9,27),(14,10,27),(15,11,83)]],.row,.row,.row,.row,.row,.row]⟩
abbrev ZFm:Pv.Sp:=⟨[],[.cells 1 [ZX],.cells 1 [VT],.cells 12 [.d Qv []],.cells 1 [.ptr 5 0],.cells 1 [ZX],.cells 19 [.d Yi [(2,6,5),(11,7,3),(12,8,47),(13,9,27),(14,10,27),(15,12,83)]],.row,.row,.row,.row,.row,.row,.row]⟩
abbrev Wq:SP:=⟨ZF4,ZFm,λx=>YX x.1 x.2.1 x.2.2.1 x.2.2.2.1 x.2.2.2.2⟩
theorem Bd:Kd Tryz.prog 114 Wq:=kWd [(115,[Xx])] [] ⟨[],[],[],[(0,[8]),(3,[7])],[],[11]⟩ ⟨Kz,trivial⟩ λx=>T8 (b:=Wn x.1 x.2.1 x.2.2.1 x.2.2.2.1 x.2.2.2.2) (by kernel_rfl) (ZD9 x.1 x.2.1 x.2.2.1 x.2.2.2.1 x.2.2.2.2)
abbrev ZLd:Pv.Sp:=⟨[.ptr 0 0,.ag 12,.d Qv []],[.cells 19 [.d Yi [(2,1,5),(11,2,3),(12,3,47),(13,4,27),(14,5,27),(15,6,83)]],.row,.row,.row,.row,.row,.row]⟩
abbrev JZ:SP:=⟨ZLd,⟨[ZX],[.cells 19 [.d Yi [(11,2,3),(12,3,47),(13,4,27),(14,5,27),(15,7,83)]],.row,.row,.row,.row,.row,.row,.row]⟩,λx=>GX x.1 x.2⟩
theorem Di:KT 58 JZ:=kDf [(86,[ZR]),(116,[BG])] [(114,[Uu,Wq])] [] ⟨[(4,⟨[⟨.norm,[5,6],[(0,0,19)],⟨[zm9,.rr 100,zm4,zm4,zm4,.d zm7 [],.rr 101,.rr 102,.rr 103,.rr 104,.d ZFX [(0,105,83)],ZX,ZX,zm4,.ptr 0 0,.ptr 1 0],[.cells 1 [ZX],.cells 1 [VT]]⟩,[(0,some 2),(0,some 11),(0,some 12),(0,some 13),(0,some 14),(0,some 15)]⟩],[(0,0,19)],[(0,some 15)]⟩),(12,zm0 37),(16,⟨[⟨.norm,[7,8],[(0,0,19)],⟨[V2,zm4,.d zm7 [],.rr 100,.rr 101,.rr 102,.rr 103,.rr 104,ZX,ZX,zm4,.ptr 0 0,ZX],[.cells 5 [.d (.st .Store) [(2,1,5)]],.row]⟩,[(0,some 11),(0,some 12),(0,some 13),(0,some 14),(0,some 15)]⟩],[(0,0,19)],[(0,some 2)]⟩)],[],[],[(1,[11]),(4,[12])],[1],[]⟩ ⟨ZY,ZDE,trivial⟩ ⟨Dy,Bd,trivial⟩ λx=>T8 (b:=Dx x.1 x.2) (by kernel_rfl) (ZJm x.1 x.2)
abbrev ZIZ:Pv.Sp:=⟨[.ptr 0 0,.ag 12,.d Qv []],[.cells 19 [.d Yi [(11,1,3),(12,2,47),(13,3,27),(14,4,27),(15,5,83)]],.row,.row,.row,.row,.row]⟩
abbrev ZBa:SP:=⟨ZIZ,⟨[ZX],[.cells 19 [.d Yi [(11,1,3),(12,2,47),(13,3,27),(14,4,27),(15,6,83)]],.row,.row,.row,.row,.row,.row]⟩,λx=>Qe x.1 x.2⟩
theorem ZIS:KT 58 ZBa:=kDf [(86,[ZR]),(116,[BG])] [(114,[Uu,Wq])] [] ⟨[(4,⟨[⟨.norm,[5,6],[(0,0,19)],⟨[V2,zm4,.d zm7 [],.rr 100,.rr 101,.rr 102,.rr 103,.d ZFX [(0,104,83)],ZX,ZX,zm4,.ptr 0 0,.ptr 1 0],[.cells 1 [ZX],.cells 1 [VT]]⟩,[(0,some 11),(0,some 12),(0,some 13),(0,some 14),(0,some 15)]⟩],[(0,0,19)],[(0,some 15)]⟩),(12,zm0 37),(16,⟨[⟨.norm,[7,8],[],⟨[.ptr 0 0,ZX],[.cells 5 [.d (.st .Store) [(2,1,5)]],.row]⟩,[]⟩],[],[]⟩)],[],[],[(1,[11])],[],[]⟩ ⟨ZY,ZDE,trivial⟩ ⟨Dy,Bd,trivial⟩ λx=>T8 (b:=Jo x.1 x.2) (by kernel_rfl) (ZGn x.1 x.2)
abbrev ZF3:Pv.Sp:=⟨[.ptr 0 0,.ptr 1 0,.ptr 2 0,.ptr 3 0],[.cells 19 [.d Yi [(2,4,5),(11,5,3),(12,6,47),(13,7,27),(14,8,27),(15,9,83)]],.cells 4 [.d ZDr [(3,10,32)]],.cells 13 [.d Ye []],.cells 1 [ZX],.row,.row,.row,.row,.row,.row,.row]⟩
abbrev ZFl:Pv.Sp:=⟨[ZX],[.cells 19 [.d Yi [(11,5,3),(12,6,47),(13,7,27),(14,8,27),(15,11,83)]],.cells 4 [.d ZDr [(3,10,32)]],.cells 13 [.d Ye []],.cells 1 [ZX],.row,.row,.row,.row,.row,.row,.row,.row]⟩
abbrev Bn:SP:=⟨ZF3,ZFl,λx=>Vz x.1 x.2.1 x.2.2.1 x.2.2.2⟩
theorem ZFu:KT 113 Bn:=kV [(41,[Ge,Gd]),(58,[JZ,ZBa])] [] ⟨[(16,⟨[⟨.norm,[9],[(0,0,19)],⟨[.d Yi [(11,100,3),(12,101,47),(13,102,27),(14,103,27),(15,104,83)],VT],[]⟩,[(0,some 11),(0,some 12),(0,some 13),(0,some 14),(0,some 15)]⟩],[(0,0,19)],[(0,some 11),(0,some 12),(0,some 13),(0,some 14),(0,some 15)]⟩),(20,zm0 37)],[(2,⟨⟨.norm,[14],[(0,0,19)],zm80,[(0,some 11),(0,some 12),(0,some 13),(0,some 14)]⟩,[⟨.ret,[5],[(0,0,19)],zm80,[(0,some 11),(0,some 12),(0,some 13),(0,some 14)]⟩,⟨(.exit 0),[],[(0,0,19)],⟨[.d Yi [(11,100,3),(12,101,47),(13,102,27),(14,103,27),(15,0,83)]],[.row]⟩,[(0,some 11),(0,some 12),(0,some 13),(0,some 14)]⟩],[(0,0,19)],[(0,some 2),(0,some 11),(0,some 12),(0,some 13),(0,some 14),(0,some 15)],[]⟩)],[],[(4,[8])],[],[]⟩ ⟨ZEM,ZEL,Di,ZIS,trivial⟩ λx=>T8 (b:=Wm x.1 x.2.1 x.2.2.1 x.2.2.2) (by kernel_rfl) (ZD8 x.1 x.2.1 x.2.2.1 x.2.2.2)
abbrev ZLe:Pv.Sp:=⟨[.ag 19,.d Yi [],.clo 113 0 3,.ptr 0 0,.ptr 1 0,.ptr 2 0],[.cells 4 [.d ZDr [(3,3,32)]],.cells 13 [.d Ye []],.cells 1 [ZX],.row]⟩
abbrev ZLB:Pv.Sp:=⟨[.ag 19,.d Yi [(11,4,3),(12,5,47),(13,6,27),(14,7,27),(15,8,83)],ZX],[.cells 4 [.d ZDr [(3,3,32)]],.cells 13 [.d Ye []],.cells 1 [ZX],.row,.row,.row,.row,.row,.row]⟩
abbrev ZFS:SP:=⟨ZLe,ZLB,λx=>ZJG x.1 x.2.1 x.2.2.1 x.2.2.2⟩
theorem ZLX:KT 56 ZFS:=kV [(53,[Vp]),(113,[Bn])] [] zm2 ⟨Uf,ZFu,trivial⟩
abbrev ZBZ:SP:=⟨zm69,zm30,λx=>ZE9 x.1 x.2.1 x.2.2⟩
theorem ZIR:KT 55 ZBZ:=kV [(40,[ZAB]),(43,[Jy]),(56,[ZFS])] [] zm2 ⟨ZE3,ZBB,ZLX,trivial⟩
abbrev ZJ5:Pv.Sp:=⟨[.ptr 0 0,.ptr 1 0,.ptr 2 0,.ptr 3 0,.ptr 4 0,.ptr 5 0],[.cells 19 [.d Yi [(2,6,5),(11,7,3),(12,8,47),(13,9,27),(14,10,27),(15,11,83)]],.cells 1 [ZX],.cells 1 [ZX],.cells 1 [Zv],.cells 1 [ZX],.cells 1 [ZX],.row,.row,.row,.row,.row,.row]⟩
abbrev ZJo:Pv.Sp:=⟨[ZX],[.cells 19 [.d Yi [(11,7,3),(12,8,47),(13,9,27),(14,10,27),(15,12,83)]],.cells 1 [ZX],.cells 1 [ZX],.cells 1 [Zv],.cells 1 [ZX],.cells 1 [ZX],.row,.row,.row,.row,.row,.row,.row]⟩
abbrev ZDi:SP:=⟨ZJ5,ZJo,λx=>ZHk x.1 x.2.1 x.2.2.1 x.2.2.2.1 x.2.2.2.2.1 x.2.2.2.2.2⟩
theorem ZJ3:KT 57 ZDi:=kV [(58,[JZ])] [] zm2 ⟨Di,trivial⟩
abbrev ZHZ:Pv.Sp:=⟨[.ag 19,.d Yi [],.clo 57 0 5,.ptr 0 0,.ptr 1 0,.ptr 2 0,.ptr 3 0,.ptr 4 0],[.cells 1 [ZX],.cells 1 [ZX],.cells 1 [Zv],.cells 1 [ZX],.cells 1 [ZX]]⟩
abbrev ZGt:Pv.Sp:=⟨[.ag 19,.d Yi [(11,5,3),(12,6,47),(13,7,27),(14,8,27),(15,9,83)],ZX],[.cells 1 [ZX],.cells 1 [ZX],.cells 1 [Zv],.cells 1 [ZX],.cells 1 [ZX],.row,.row,.row,.row,.row]⟩
abbrev ZAE:SP:=⟨ZHZ,ZGt,λx=>ZDY x.1 x.2.1 x.2.2.1 x.2.2.2.1 x.2.2.2.2.1 x.2.2.2.2.2⟩
theorem ZHR:KT 56 ZAE:=kV [(53,[Vp]),(57,[ZDi])] [] zm2 ⟨Uf,ZJ3,trivial⟩
abbrev ZHt:SP:=⟨⟨[.ag 19,.d Yi [],ZX,ZX,Zv,ZX,ZX],[]⟩,zm30,λx=>ZHl x.1 x.2.1 x.2.2.1 x.2.2.2.1 x.2.2.2.2.1 x.2.2.2.2.2⟩
theorem ZMo:KT 18 ZHt:=kV [(54,[Jw]),(39,[Jx]),(55,[ZBZ]),(56,[ZAE])] [] ⟨[(16,zm0 27)],[],[],[],[],[]⟩ ⟨ZA9,ZBA,ZIR,ZHR,trivial⟩
abbrev ZIa:Pv.Sp:=⟨[.ptr 0 0,.ptr 1 0],[.cells 19 [.d Yi [(2,2,5),(11,3,3),(12,4,47),(13,5,27),(14,6,27),(15,7,83)]],.cells 12 [.d Qv [(6,8,5)]],.row,.row,.row,.row,.row,.row,.row]⟩
abbrev ZIA:Pv.Sp:=⟨[ZX],[.cells 19 [.d Yi [(11,3,3),(12,4,47),(13,5,27),(14,6,27),(15,9,83)]],.cells 12 [.d Qv []],.row,.row,.row,.row,.row,.row,.row,.row]⟩
abbrev ZBd:SP:=⟨ZIa,ZIA,λx=>ZFC x.1 x.2⟩
theorem ZIV:KT 59 ZBd:=kV [(58,[JZ])] [] zm2 ⟨Di,trivial⟩
abbrev ZGs:Pv.Sp:=⟨[.ag 19,.d Yi [(11,2,3),(12,3,47),(13,4,27),(14,5,27),(15,6,83)],ZX],[.cells 12 [.d Qv []],.row,.row,.row,.row,.row,.row]⟩
abbrev ZAD:SP:=⟨⟨[.ag 19,.d Yi [],.clo 59 0 1,.ptr 0 0],[.cells 12 [.d Qv [(6,1,5)]],.row]⟩,ZGs,λx=>ZDX x.1 x.2⟩
theorem ZHQ:KT 56 ZAD:=kV [(53,[Vp]),(59,[ZBd])] [] zm2 ⟨Uf,ZIV,trivial⟩
abbrev ZFU:SP:=⟨⟨[.ag 19,.d Yi [],ZX,ZX,ZX,zm6],[]⟩,zm30,λx=>ZEV x.1 x.2.1 x.2.2.1 x.2.2.2.1 x.2.2.2.2⟩
theorem ZLZ:KT 19 ZFU:=kV [(54,[Jw]),(39,[Jx]),(40,[ZAB]),(56,[ZAD])] [] ⟨[(60269,⟨[⟨.norm,[],[(16,0,12)],⟨[.d Qv [(6,0,5)]],[.row]⟩,[]⟩],[(16,0,12)],[]⟩)],[],[],[],[],[]⟩ ⟨ZA9,ZBA,ZE3,ZHQ,trivial⟩
abbrev ZFT:SP:=⟨zm78,⟨[.ag 13,.d Ye [(12,0,32)],ZX],[.row]⟩,λx=>ZJH x.1 x.2⟩
theorem ZLY:KT 60 ZFT:=kV [(38,[ZAC]),(111,[Xy])] [] zm2 ⟨ZE4,K7,trivial⟩
abbrev ZBN:SP:=⟨⟨[.ag 19,.d Yi [(11,0,3),(12,1,47),(14,2,27),(15,3,83)]],[.row,.row,.row,.row]⟩,⟨[.ag 19,.d Yi [(11,4,3),(12,5,47),(14,6,27),(15,7,83)],ZX],[.row,.row,.row,.row,.row,.row,.row,.row]⟩,λx=>DD x⟩
theorem ZIE:KT 15 ZBN:=kV [(46,[D1]),(47,[Vo]),(48,[Wo])] [] zm27 ⟨ZEx,GR,Bb,trivial⟩ λx=>T8 (b:=ZAy x) (by kernel_rfl) (ZGl x)
abbrev ZBP:SP:=⟨ZSP,ZOv,λx=>ZEi x.1 x.2⟩
theorem ZIG:KT 62 ZBP:=kV [] [] zm2 trivial
abbrev Xb:SP:=⟨⟨[.d ZAg [(0,0,47)],.clo 62 0 1,.ptr 1 0],[.row,.cells 1 [ZX]]⟩,⟨[ZX,.bor Ye 0 47],[.row,.cells 1 [ZX]]⟩,λx=>X2 x.1 x.2⟩
theorem Vg:KT 61 Xb:=kV [(62,[ZBP])] [] zm15 ⟨ZIG,trivial⟩
abbrev ZFL:SP:=⟨zm78,zm72,λx=>J7 x.1 x.2⟩
theorem ZLP:KT 20 ZFL:=kV [(60,[ZFT]),(15,[ZBN,BE]),(61,[Xb])] [] ⟨[(24,zm0 27),(60,⟨[⟨.norm,[],[(10,0,13)],⟨[.d Ye []],[]⟩,[]⟩],[(10,0,13)],[]⟩),(64,⟨[⟨.norm,[],[(2,0,19)],⟨[V2,zm4,.d zm7 [],.rr 100,.d ZAg [(0,101,47)],ZBk,.rr 102,.rr 103,ZX,ZX,zm4],[]⟩,[(2,some 11),(53,none),(2,some 14),(2,some 15)]⟩],[(2,0,19)],[(53,none)]⟩)],[],[],[(15,[7]),(16,[8])],[],[]⟩ ⟨ZLY,ZIE,ZCA,Vg,trivial⟩ λx=>T8 (b:=DI x.1 x.2) (by kernel_rfl) (ZJk x.1 x.2)
abbrev D8:SP:=⟨ZDq,zm79,λ_=>law28_one⟩
theorem ZE0:KT 7 D8:=kV [(16,[ZJK]),(15,[BE]),(17,[ZBe]),(18,[ZHt]),(19,[ZFU]),(20,[ZFL])] [30] ⟨[],[],[],[(2,[2])],[],[]⟩ ⟨ZOU,ZCA,ZIW,ZMo,ZLZ,ZLP,trivial⟩
abbrev BH:SP:=⟨⟨[.ag 5,V2,.ag 5,.d zm7 [],zm4],[]⟩,⟨[.d Ke [],ZX],[]⟩,λx=>ZIl x.1 x.2.1 x.2.2⟩
theorem ZMk:KT 36 BH:=kG0<|ZRM Yk.2 Z7.2 G3.2 ZI4.2
abbrev Us:SP:=⟨ZKf,ZOt,λx=>Q2 x⟩
theorem Df:KT 11 Us:=kG0<|ZOZ WJ.2 ZMk.2
abbrev Jt:SP:=⟨ZKf,ZOt,λx=>Kn x⟩
theorem ZA6:KT 10 Jt:=kG0<|ZPv WJ.2 Gy.2 ZHK.2 ZHM.2
abbrev ZBT:SP:=⟨ZDq,U2,λ_=>law28_alive⟩
theorem ZIL:KT 6 ZBT:=kV [(7,[D8]),(11,[Us]),(10,[Jt])] [] zm2 ⟨ZE0,Df,ZA6,trivial⟩
abbrev ZDf:SP:=⟨⟨[.ag 2,zm9,ZX,ZX,Zv],[]⟩,ZOF,λx=>XP x.1 x.2.1 x.2.2.1 x.2.2.2⟩
theorem ZJ0:KT 9 ZDf:=kG0 ZOY
abbrev c_law28_ScrubNames:SP:=⟨ZDq,U2,λ_=>law28_ScrubNames⟩
theorem ZAi (q:Option Bool)(a:Option (Pool×Bool))(b:Store->Ptr->Int->Option (Object×Int))(c:Disk->Int->Int->UInt8->Option (Disk×Int))(e:Pool->Option (List Int×Int))(f:Pool->Option (List Int×Int))(x:VH (hyS c_law28_ScrubNames.i)):fnV (mkX Tryz.prog TY NT [] [(6,[⟨ZDq,U2,λ_=>q⟩]),(7,[⟨ZDq,zm79,λ_=>a⟩]),(8,[⟨⟨[.ag 5,V2,.ag 5,.d zm7 [],ZX],[]⟩,ZOx,λx=>b x.1 x.2.1 x.2.2⟩]),(9,[⟨⟨[.ag 2,zm9,ZX,ZX,Zv],[]⟩,ZOF,λx=>c x.1 x.2.1 x.2.2.1 x.2.2.2⟩]),(10,[⟨ZKf,ZOt,λx=>e x⟩]),(11,[⟨ZKf,ZOt,λx=>f x⟩])] []) zm28 3 c_law28_ScrubNames.i c_law28_ScrubNames.o x=law28_ScrubNames_o_p q a b c e f:=by kernel_rfl
theorem ZCH:KT 3 c_law28_ScrubNames:=kV [(6,[ZBT]),(7,[D8]),(8,[UB]),(9,[ZDf]),(10,[Jt]),(11,[Us])] [] zm28 ⟨ZIL,ZE0,G4,ZJ0,ZA6,Df,trivial⟩ λx=>T8 (b:=law28_ScrubNames_o) (ZAi law28_alive law28_one Vc XP Kn Q2 x) (ZAr)
end
end Go.Proofs.YtgdchaoklfjcpaaGreatDoor
