import Derived.Test.YtfpffkecbhkbkaaGreatDoorK0
/- what is proved here: contracts by value. -/
set_option linter.unusedVariables false
namespace Go.Proofs.YtfpffkecbhkbkaaGreatDoor
open Go Go.Ow Go.Pv Go.Proofs
set_option maxRecDepth 20000
noncomputable section
abbrev ZJn:SP:=⟨ZGh,ZNH,λ_=>Us⟩
theorem ZPt:KT 79 ZJn:=kG0 ZU7
abbrev ZAS:SP:=⟨ZJu,zm3,λx=>QA x.1 x.2⟩
theorem ZHo:KT 132 ZAS:=kG0 ZN1
abbrev ZFT:SP:=⟨ZGh,zm3,λ_=>ZI2⟩
theorem ZL8:KT 80 ZFT:=kV [(132,[ZAS])] [] zm2 ⟨ZHo,trivial⟩
abbrev ZFS:SP:=⟨ZGh,⟨[.ag 5,ZNI],[.row]⟩,λ_=>Vn⟩
theorem ZL7:KT 44 ZFS:=kV [(79,[ZJn]),(80,[ZFT])] [] zm2 ⟨ZPt,ZL8,trivial⟩
abbrev ZJl:SP:=⟨ZGh,⟨[.ag 19,.d Yj [(2,0,5),(13,1,26),(14,2,26)]],[.row,.row,.row]⟩,λ_=>ZGH⟩
theorem ZPr:KT 23 ZJl:=kV [(44,[ZFS])] [] ⟨[],[],[],[(1,[4])],[],[]⟩ ⟨ZL7,trivial⟩ (λx=>SS (b:=ZEE) (by kernel_rfl) (ZNd))
abbrev Ju:SP:=⟨X8,UK,λx=>XD x⟩
theorem Dv:KT 139 Ju:=kV [] [] zm2 trivial
abbrev Kn:SP:=⟨ZNH,X8,λx=>Kg x⟩
theorem Wj:KT 92 Kn:=kV [(139,[Ju])] [] ⟨[(4,zm0 3)],[(3,⟨⟨.norm,[3,21],[],⟨[Vk,.n],[]⟩,[]⟩,[⟨(.exit 0),[3],[],UK,[]⟩],[],[],[]⟩),(8,⟨⟨.norm,[3,35],[],⟨[Vk,.n],[]⟩,[]⟩,[⟨(.exit 2),[3],[],UK,[]⟩],[],[],[]⟩)],[],[],[],[]⟩ ⟨Dv,trivial⟩ (λx=>SS (b:=Wm x) (by kernel_rfl) (ZDl x))
abbrev Js:SP:=⟨JP,⟨[Zt],[]⟩,λx=>KM x⟩
theorem ZDZ:KT 143 Js:=kV [] [] ⟨[],[(5,⟨⟨.norm,[3,4],[],⟨[Zt,.n],[]⟩,[]⟩,[⟨(.exit 0),[3],[],⟨[Zt],[]⟩,[]⟩],[],[],[]⟩)],[],[],[],[]⟩ trivial
abbrev Jy:SP:=⟨⟨[zm6,Zt],[]⟩,X8,λx=>B7 x.1 x.2⟩
theorem ZDg:KT 201 Jy:=kV [] [] zm2 trivial
abbrev GS:SP:=⟨ZPU,UK,λx=>Jz x.1 x.2⟩
theorem ZBW:KT 97 GS:=kV [] [] zm2 trivial
abbrev GR:SP:=⟨ZPU,X8,λx=>ZAT x.1 x.2⟩
theorem ZBV:KT 176 GR:=kV [(201,[Jy]),(97,[GS])] [] zm2 ⟨ZDg,ZBW,trivial⟩
abbrev GT:SP:=⟨ZPU,X8,λx=>J0 x.1 x.2⟩
theorem ZBX:KT 144 GT:=kV [(176,[GR])] [] ⟨[],[(6,⟨⟨.norm,[0,5],[],ZJu,[]⟩,[⟨.ret,[4],[],X8,[]⟩],[],[],[]⟩)],[],[],[],[]⟩ ⟨ZBV,trivial⟩
abbrev KD:SP:=⟨JP,X8,λx=>Qa x⟩
theorem WE:KT 93 KD:=kV [(143,[Js]),(144,[GT])] [] ⟨[(4,zm0 17)],[],[],[],[],[]⟩ ⟨ZDZ,ZBX,trivial⟩
abbrev Yq:SP:=⟨⟨[.ag 5,Wz],[]⟩,X8,λx=>Yp x⟩
theorem XV:KT 51 Yq:=kV [(92,[Kn]),(93,[KD])] [] ⟨[(4,zm0 27)],[],[],[],[],[]⟩ ⟨Wj,WE,trivial⟩
abbrev Z9:SP:=⟨ZQH,X8,λx=>YA x⟩
theorem YG:KT 52 Z9:=kV [] [] ⟨[(12,zm0 23)],[],[],[],[],[]⟩ trivial
abbrev B5:SP:=⟨X8,UK,λx=>KC x⟩
theorem ZF5:KT 101 B5:=kV [] [] zm2 trivial
abbrev XS:SP:=⟨ZIR,X8,λx=>Zf x.1 x.2⟩
theorem QU:KT 67 XS:=kV [(101,[B5])] [] zm2 ⟨ZF5,trivial⟩
abbrev Bd:SP:=⟨⟨[.ag 5,.d zm7 [],.ag 5,.d zm7 []],[]⟩,X8,λx=>V0 x.1 x.2⟩
theorem UR:KT 145 Bd:=kV [(67,[XS])] [] zm2 ⟨QU,trivial⟩
abbrev UZ:SP:=⟨ZQG,X8,λx=>KW x⟩
theorem BN:KT 94 UZ:=kV [(52,[Z9]),(145,[Bd])] [] zm79 ⟨YG,UR,trivial⟩
abbrev BV:SP:=⟨zm88,X8,λx=>QY x.1 x.2⟩
theorem ZDV:KT 100 BV:=kV [(67,[XS])] [] zm2 ⟨QU,trivial⟩
abbrev Yd:SP:=⟨⟨[.d ZCz [],ZR,.c (.fn 100)],[]⟩,⟨[ZR,Vk],[]⟩,λx=>Z6 x.1 x.2⟩
theorem Qj:KT 99 Yd:=kV [(100,[BV])] [] zm22 ⟨ZDV,trivial⟩
abbrev ZCp:SP:=⟨⟨[.d ZCz [],ZR],[]⟩,⟨[.oel Yr],[]⟩,λx=>GW x.1 x.2⟩
theorem ZHc:KT 55 ZCp:=kV [(99,[Yd])] [] zm2 ⟨Qj,trivial⟩
abbrev ZJk:SP:=⟨⟨[.d ZCz [],.ag 13,.d Yr []],[]⟩,UK,λx=>ZGG x.1 x.2⟩
theorem ZPq:KT 95 ZJk:=kV [(55,[ZCp])] [] ⟨[(8,zm0 15),(24,zm0 41)],[],[],[],[],[]⟩ ⟨ZHc,trivial⟩
abbrev ZAG:SP:=⟨⟨[.d ZCz []],[]⟩,UK,λx=>UL x⟩
theorem ZHb:KT 53 ZAG:=kV [(52,[Z9]),(94,[UZ]),(95,[ZJk])] [] ⟨[(24,zm0 49),(48,zm0 87)],[(4,⟨ZPW 12,[⟨.ret,[2],[],zm80,[]⟩,ZQL],[],[],[]⟩),(10,⟨ZPW 53,[⟨.ret,[2],[],zm80,[]⟩,⟨(.exit 2),[],[],ZGh,[]⟩],[],[],[]⟩)],[],[],[],[]⟩ ⟨YG,BN,ZPq,trivial⟩
abbrev Bz:SP:=⟨⟨[zm6,.ptr 0 0],[.cells 1 [ZR]]⟩,zm73,λx=>V6 x.1 x.2⟩
theorem ZFz:KT 96 Bz:=kV [(97,[GS])] [] zm2 ⟨ZBW,trivial⟩
abbrev U7:SP:=⟨⟨[ZB1,.clo 96 0 1,.ptr 0 0],[.cells 1 [ZR]]⟩,zm92,λx=>Vr x.1 x.2⟩
theorem ZCP:KT 46 U7:=kV [(96,[Bz])] [] zm20 ⟨ZFz,trivial⟩
abbrev Vi:SP:=⟨⟨[ZB1,.clo 96 0 1,.ptr 0 0],[.cells 1 [ZR]]⟩,zm73,λx=>Q2 x.1 x.2⟩
theorem DF:KT 98 Vi:=kV [(46,[U7])] [] zm2 ⟨ZCP,trivial⟩
abbrev ZBe:SP:=⟨⟨[ZB1,ZR],[]⟩,UK,λx=>WR x.1 x.2⟩
theorem ZIZ:KT 54 ZBe:=kV [(98,[Vi])] [] zm2 ⟨DF,trivial⟩
abbrev B0:SP:=⟨⟨[.ag 12,.d Q1 []],[]⟩,UK,λx=>V7 x⟩
theorem ZF0:KT 56 B0:=kV [(52,[Z9])] [] ⟨[(8,zm0 4),(12,zm0 23),(24,zm0 5),(28,zm0 2)],[],[],[],[],[]⟩ ⟨YG,trivial⟩
abbrev Bi:SP:=⟨⟨[ZJs],[]⟩,X8,λx=>U5 x⟩
theorem ZDf:KT 66 Bi:=kV [] [] ⟨[],[(3,⟨ZPW 8,[⟨.ret,[2],[],X8,[]⟩,ZQL],[],[],[]⟩)],[],[],[],[]⟩ trivial
abbrev ZFP:SP:=⟨⟨[.ag 12,.d Q1 [],.ag 12,.d Q1 []],[]⟩,X8,λx=>ZAc x.1 x.2⟩
theorem ZL4:KT 57 ZFP:=kV [(67,[XS]),(66,[Bi])] [] zm2 ⟨QU,ZDf,trivial⟩
abbrev ZBg:SP:=⟨⟨[.ag 13,.d Yr [],.ptr 0 0],[.cells 19 [.d Yj []]]⟩,⟨[Vk],[.cells 19 [.d Yj []]]⟩,λx=>JX x.1 x.2⟩
theorem ZIb:KT 59 ZBg:=kV [] [] zm2 trivial
abbrev QV:SP:=⟨zm84,⟨[ZR],[.cells 19 [.d Yj []]]⟩,λx=>Y8 x.1 x.2⟩
theorem UQ:KT 31 QV:=kV [(59,[ZBg])] [] ⟨[],[(2,⟨⟨.norm,[8],[(1,0,19)],⟨[.d Yj [],ZR],[]⟩,[]⟩,[⟨.ret,[4],[(1,0,19)],⟨[.d Yj [],ZR],[]⟩,[]⟩,⟨(.exit 0),[],[(1,0,19)],⟨[.d Yj []],[]⟩,[]⟩],[(1,0,19)],[],[]⟩)],[],[],[],[]⟩ ⟨ZIb,trivial⟩
abbrev Xl:SP:=⟨zm84,⟨[Vk],[.cells 19 [.d Yj []]]⟩,λx=>YC x.1 x.2⟩
theorem Vx:KT 58 Xl:=kV [(31,[QV])] [] zm2 ⟨UQ,trivial⟩
abbrev Jp:SP:=⟨ZQI,X8,λx=>Vm x⟩
theorem Dr:KT 30 Jp:=kV [(51,[Yq]),(52,[Z9]),(53,[ZAG]),(54,[ZBe]),(55,[ZCp]),(56,[B0]),(57,[ZFP]),(58,[Xl])] [] ⟨[(4,zm0 32),(24,zm0 69),(36,zm0 106),(60,zm0 148)],[(4,⟨ZPW 36,[zm51,ZQL],[],[],[]⟩),(12,⟨ZPW 110,[zm51,⟨(.exit 2),[],[],ZGh,[]⟩],[],[],[]⟩)],[],[],[],[]⟩ ⟨XV,YG,ZHb,ZIZ,ZHc,ZF0,ZL4,Vx,trivial⟩
abbrev Bc:SP:=⟨ZNH,ZNH,λx=>twinF x⟩
theorem ZCX:KT 71 Bc:=kG0 (gv_Twin.of ZLH)
abbrev XW:SP:=⟨JP,zm3,λx=>Zr x⟩
theorem QJ:KT 26 XW:=kV [] [] zm2 trivial (λx=>SS (b:=ZBz x) (by kernel_rfl) (ZG8 x))
abbrev BX:SP:=⟨⟨[.ag 5,Wz],[]⟩,⟨[.ag 5,ZNI],[.row]⟩,λx=>Ul x⟩
theorem ZDW:KT 61 BX:=kV [(71,[Bc]),(26,[XW])] [] ⟨[],[],[],[(1,[7])],[],[]⟩ ⟨ZCX,QJ,trivial⟩
abbrev U9:SP:=⟨⟨[ZJs],[]⟩,zm95,λx=>Qq x⟩
theorem ZCR:KT 62 U9:=kV [] [] zm2 trivial (λx=>SS (b:=Um x) (by kernel_rfl) (ZBB x))
abbrev Kl:SP:=⟨⟨[.d ZCz []],[]⟩,⟨[.d ZCz [(0,0,41)]],[.row]⟩,λx=>Y6 x⟩
theorem Gr:KT 63 Kl:=kV [] [] zm2 trivial (λx=>SS (b:=Kb x) (by kernel_rfl) (GC x))
abbrev Y9:SP:=⟨⟨[ZA4],[]⟩,⟨[.d ZFi [(0,0,55)]],[.row]⟩,λx=>Zx x⟩
theorem Qz:KT 64 Y9:=kV [] [] zm2 trivial (λx=>SS (b:=Qy x) (by kernel_rfl) (Uv x))
abbrev X5:SP:=⟨ZQG,ZNG,λx=>YE x⟩
theorem VO:KT 13 X5:=kV [] [] zm2 trivial (λx=>SS (b:=K9 x) (by kernel_rfl) (Gh x))
abbrev ZAK:SP:=⟨ZJt,⟨[.d (.sl KQ) [(0,0,26)]],[.row]⟩,λx=>VA x⟩
theorem ZHg:KT 65 ZAK:=kV [] [] zm2 trivial (λx=>SS (b:=DW x) (by kernel_rfl) (ZFp x))
abbrev V4:SP:=⟨ZQI,⟨[.ag 19,.d Yj [(2,0,5),(11,1,3),(12,2,41),(13,3,26),(14,4,26),(15,5,55)]],[.row,.row,.row,.row,.row,.row]⟩,λx=>Q7 x⟩
theorem U0:KT 34 V4:=kV [(61,[BX]),(62,[U9]),(63,[Kl]),(64,[Y9]),(13,[X5]),(26,[XW]),(65,[ZAK])] [75] ⟨[],[(4,⟨⟨.norm,[28],[(1,0,19)],⟨[zm9,.rr 100,zm4,zm4,zm4,.d zm7 [],.rr 101,.d ZCz [(0,102,41)],ZB1,ZB1,.rr 103,ZR,ZR,zm4,ZR],[]⟩,[(1,some 2),(15,none),(18,none),(21,none)]⟩,[⟨(.exit 0),[],[(1,0,19)],⟨[zm9,.rr 100,zm4,zm4,zm4,.d zm7 [],.rr 101,.d ZCz [(0,102,41)],ZB1,ZB1,.rr 103,ZR,ZR,zm4],[]⟩,[(1,some 2),(15,none),(18,none),(21,none)]⟩],[(1,0,19)],[(18,none)],[]⟩),(9,⟨⟨.norm,[47],[(1,0,19)],⟨[zm9,.rr 100,zm4,zm4,zm4,.d zm7 [],.rr 101,.rr 102,ZB1,ZB1,.d ZFi [(0,103,55)],ZR,ZR,zm4,ZR],[]⟩,[(1,some 2),(15,none),(18,none),(21,none)]⟩,[⟨(.exit 2),[],[(1,0,19)],⟨[zm9,.rr 100,zm4,zm4,zm4,.d zm7 [],.rr 101,.rr 102,ZB1,ZB1,.d ZFi [(0,103,55)],ZR,ZR,zm4],[]⟩,[(1,some 2),(15,none),(18,none),(21,none)]⟩],[(1,0,19)],[(21,none)],[]⟩),(18,⟨⟨.norm,[6,81,83],[(1,0,19),(79,0,1)],⟨[zm9,.rr 100,zm4,zm4,zm4,.d zm7 [],.rr 101,.rr 102,.d (.sl KQ) [(0,103,26)],.rr 104,.rr 105,ZR,ZR,zm4,.rr 103,.rr 103,.rr 103,ZR],[]⟩,[(1,some 2),(15,none),(18,none),(65,none),(68,none),(21,none)]⟩,[⟨(.exit 6),[],[(1,0,19),(79,0,1)],⟨[zm9,.rr 100,zm4,zm4,zm4,.d zm7 [],.rr 101,.rr 102,.d (.sl KQ) [(0,103,26)],.rr 104,.rr 105,ZR,ZR,zm4,.rr 103],[]⟩,[(1,some 2),(15,none),(18,none),(65,none),(68,none),(21,none)]⟩],[(1,0,19),(79,0,1)],[(65,none)],[((6,none),(65,none))]⟩),(18,⟨⟨.norm,[6,81,83],[(1,0,19),(79,0,1)],⟨[zm9,.rr 100,zm4,zm4,zm4,.d zm7 [],.rr 101,.rr 102,.rr 103,.d (.sl KQ) [(0,104,26)],.rr 105,ZR,ZR,zm4,.rr 104,.rr 104,.rr 104,ZR],[]⟩,[(1,some 2),(15,none),(18,none),(65,none),(68,none),(21,none)]⟩,[⟨(.exit 6),[],[(1,0,19),(79,0,1)],⟨[zm9,.rr 100,zm4,zm4,zm4,.d zm7 [],.rr 101,.rr 102,.rr 103,.d (.sl KQ) [(0,104,26)],.rr 105,ZR,ZR,zm4,.rr 104],[]⟩,[(1,some 2),(15,none),(18,none),(65,none),(68,none),(21,none)]⟩],[(1,0,19),(79,0,1)],[(68,none)],[((6,none),(68,none))]⟩)],[(15,3)],[(2,[10]),(6,[12]),(11,[12]),(13,[7])],[],[]⟩ ⟨ZDW,ZCR,Gr,Qz,VO,QJ,ZHg,trivial⟩
abbrev GK:SP:=⟨⟨[.ag 12,.d Q1 [],.ptr 0 0],[.cells 1 [.rel Yr 1 0,.bor Yr 1 41],.row]⟩,⟨[Vk,.bor Yr 1 41],[.cells 1 [.rel Yr 1 0],.row]⟩,λx=>WS x.1 x.2.1 x.2.2⟩
theorem ZBN:KT 74 GK:=kV [] [] zm2 trivial
abbrev XQ:SP:=⟨zm55,⟨[ZR,.bor Q1 0 55,.bor Yr 2 41],[.row,.cells 1 [.rel Yr 2 0],.row]⟩,λx=>Z1 x.1 x.2.1 x.2.2⟩
theorem VM:KT 104 XQ:=kV [(74,[GK])] [] ⟨[],[(2,⟨⟨.norm,[8],[(1,0,1)],⟨[.rel Yr 100 0,ZR,.bor Yr 100 41],[]⟩,[(1,some 0)]⟩,[⟨.ret,[4],[(1,0,1)],⟨[.rel Yr 100 0,ZR,.bor Yr 100 41],[]⟩,[(1,some 0)]⟩,⟨(.exit 0),[],[(1,0,1)],⟨[.rel Yr 100 0,.bor Yr 100 41],[]⟩,[(1,some 0)]⟩],[(1,0,1)],[(1,some 0)],[]⟩)],[],[],[],[]⟩ ⟨ZBN,trivial⟩
abbrev Xk:SP:=⟨zm55,⟨[ZA4,.bor Yr 2 41],[.row,.cells 1 [.rel Yr 2 0],.row]⟩,λx=>ZU x.1 x.2.1 x.2.2⟩
theorem Vw:KT 73 Xk:=kV [(104,[XQ]),(74,[GK])] [38] ⟨[(36117,⟨[⟨.norm,[0,5],[],⟨[.d ZFi [(0,100,55)],ZR],[]⟩,[(0,none)]⟩],[],[(0,none)]⟩)],[(5,⟨⟨.norm,[0,5,6],[(1,0,1)],⟨[.rel Yr 100 0,.d ZFi [(0,101,55)],ZR,ZR,.bor Yr 100 41],[]⟩,[(1,some 0),(0,none)]⟩,[⟨(.exit 0),[0,5],[(1,0,1)],⟨[.rel Yr 100 0,.d ZFi [(0,101,55)],ZR,.bor Yr 100 41],[]⟩,[(1,some 0),(0,none)]⟩],[(1,0,1)],[(0,none),(1,some 0)],[]⟩)],[],[],[0],[]⟩ ⟨VM,ZBN,trivial⟩
abbrev ZCu:SP:=⟨⟨[.ag 2,zm9,.c (.fn 125)],[]⟩,ZNH,λx=>leftF x⟩
theorem ZHk:KT 124 ZCu:=kG0 (gv_left.of ZLx)
abbrev ZD1:SP:=⟨zm86,zm83,λx=>ZCj x⟩
theorem ZKZ:KT 140 ZD1:=kV [(124,[ZCu])] [] zm2 ⟨ZHk,trivial⟩
abbrev ZBo:SP:=⟨⟨[.ag 2,zm9,Vk,.clo 140 0 1,.ptr 0 0],[.cells 2 [zm9]]⟩,zm77,λx=>Qk x.1 x.2.1 x.2.2⟩
theorem ZIj:KT 122 ZBo:=kV [(92,[Kn]),(140,[ZD1])] [] zm2 ⟨Wj,ZKZ,trivial⟩
abbrev ZH9:SP:=⟨zm81,ZJu,λx=>Gv x.1 x.2⟩
theorem ZNq:KT 88 ZH9:=kV [(139,[Ju]),(122,[ZBo])] [] ⟨[(4,⟨[⟨.norm,[6,7],[(2,0,2)],⟨[zm9,.ptr 0 0,ZR],[.cells 2 [zm9]]⟩,[]⟩],[(2,0,2)],[]⟩)],[],[],[(1,[4])],[],[]⟩ ⟨Dv,ZIj,trivial⟩ (λx=>SS (b:=ZCi x.1 x.2) (by kernel_rfl) (ZLo x.1 x.2))
abbrev Z7:SP:=⟨JP,zm3,λx=>Zu x⟩
theorem Ym:KT 118 Z7:=kV [] [] zm2 trivial (λx=>SS (b:=UF x) (by kernel_rfl) (Dh x))
abbrev JD:SP:=⟨JP,⟨[.cl .w8],[]⟩,λx=>Qr x⟩
theorem ZCS:KT 170 JD:=kV [] [] zm2 trivial
abbrev XY:SP:=⟨ZJu,⟨[.clo 156 0 2,.ptr 0 0,.ptr 1 0],[.cells 1 [zm6],.cells 1 [ZR]]⟩,λx=>Yf x.1 x.2⟩
theorem Q4:KT 116 XY:=kV [] [] zm2 trivial
abbrev Bf:SP:=⟨X8,UK,λx=>V3 x⟩
theorem ZDe:KT 135 Bf:=kV [] [] zm2 trivial
abbrev VZ:SP:=⟨JP,⟨[.clo 218 0 1,.ptr 0 0],[.cells 1 [zm6]]⟩,λx=>XI x⟩
theorem BM:KT 195 VZ:=kV [] [] zm2 trivial
abbrev Bg:SP:=⟨⟨[zm6,ZR,ZR],[]⟩,ZIR,λx=>YR x.1 x.2.1 x.2.2⟩
theorem ZCY:KT 168 Bg:=kR [(135,[Bf]),(195,[VZ])] [] ⟨[(12000045,zm0 11),(8000045,zm0 11)],[(10,⟨⟨.norm,[],[(8,0,1)],X8,[]⟩,[],[(8,0,1)],[],[]⟩)],[],[],[],[]⟩ ⟨ZDe,BM,trivial⟩
abbrev Bb:SP:=⟨JP,ZPS,λx=>Ux x⟩
theorem ZDc:KT 171 Bb:=kV [(168,[Bg])] [] zm2 ⟨ZCY,trivial⟩
abbrev KE:SP:=⟨⟨[zm4,ZR],[]⟩,ZPS,λx=>Yo x.1 x.2⟩
theorem GD:KT 220 KE:=kV [] [] zm2 trivial
abbrev Ww:SP:=⟨⟨[ZR,ZR,.ptr 0 0],[.cells 4 [zm4,zm4,zm4,zm4]]⟩,⟨[],[.cells 4 [zm4,zm4,zm4,zm4]]⟩,λx=>Yx x.1 x.2.1 x.2.2.1 x.2.2.2.1 x.2.2.2.2.1 x.2.2.2.2.2⟩
theorem Du:KT 219 Ww:=kV [(220,[KE])] [] zm2 ⟨GD,trivial⟩
abbrev JF:SP:=⟨zm67,zm67,λx=>Qu x.1 x.2.1 x.2.2.1 x.2.2.2⟩
theorem ZCV:KT 198 JF:=kV [(219,[Ww])] [] zm2 ⟨Du,trivial⟩
abbrev Va:SP:=⟨⟨[.ag 4,zm4,zm4,zm4,zm4,ZR],[]⟩,zm67,λx=>XC x.1 x.2.1 x.2.2.1 x.2.2.2.1 x.2.2.2.2⟩
theorem Jk:KT 172 Va:=kV [(198,[JF])] [] ⟨[],[(2,⟨⟨.norm,[6],[(2,0,4)],⟨[zm4,zm4,zm4,zm4,ZR],[]⟩,[]⟩,[⟨(.exit 0),[],[(2,0,4)],⟨[zm4,zm4,zm4,zm4],[]⟩,[]⟩],[(2,0,4)],[],[]⟩)],[],[],[],[]⟩ ⟨ZCV,trivial⟩
abbrev ZCs:SP:=⟨JP,zm67,λx=>ZDQ x⟩
theorem ZHj:KT 141 ZCs:=kR [(118,[Z7]),(170,[JD]),(116,[XY]),(171,[Bb]),(172,[Va])] [] zm29 ⟨Ym,ZCS,Q4,ZDc,Jk,trivial⟩
abbrev ZAy:SP:=⟨JP,ZPS,λx=>UO x⟩
theorem ZEc:KT 89 ZAy:=kV [(141,[ZCs])] [] zm2 ⟨ZHj,trivial⟩
abbrev UX:SP:=⟨zm56,ZJu,λx=>Vo x.1 x.2⟩
theorem BI:KT 49 UX:=kV [(51,[Yq]),(52,[Z9]),(88,[ZH9]),(89,[ZAy])] [] ⟨[(4,zm0 15),(24,zm0 35),(28141,⟨[⟨.norm,[6,7],[],ZJu,[]⟩],[],[]⟩)],[],[],[],[],[]⟩ ⟨XV,YG,ZNq,ZEc,trivial⟩
abbrev ZAL:SP:=⟨ZGh,⟨[.ag 5,.c (.i 1),.c (.i 3),.c (.i 4),.c (.i 4),.c (.i 4)],[]⟩,λ_=>ZAl⟩
theorem ZFB:KT 155 ZAL:=kV [] [] zm2 trivial
abbrev ZCr:SP:=⟨JP,⟨[.ag 5,.d zm7 [],ZR],[]⟩,λx=>Dd x⟩
theorem ZHh:KT 167 ZCr:=kV [(155,[ZAL]),(168,[Bg]),(52,[Z9])] [] ⟨[],[],[(6,6)],[],[],[]⟩ ⟨ZFB,ZCY,YG,trivial⟩
abbrev ZH7:SP:=⟨JP,zm87,λx=>ZDH x⟩
theorem ZNo:KT 137 ZH7:=kR [(116,[XY]),(167,[ZCr])] [] zm34 ⟨Q4,ZHh,trivial⟩
abbrev BZ:SP:=⟨zm56,zm87,λx=>DZ x.1 x.2⟩
theorem ZCU:KT 86 BZ:=kV [(51,[Yq]),(52,[Z9]),(49,[UX]),(137,[ZH7])] [] ⟨[(4,zm0 16)],[],[],[],[],[]⟩ ⟨XV,YG,BI,ZNo,trivial⟩
abbrev Wu:SP:=⟨⟨[.ag 12,.d Q1 [],.ptr 0 0],[.cells 1 [ZR]]⟩,zm73,λx=>Uj x.1 x.2⟩
theorem Dq:KT 105 Wu:=kV [] [] zm2 trivial
abbrev YM:SP:=⟨⟨[ZA4,.clo 105 0 1,.ptr 0 0],[.cells 1 [ZR]]⟩,zm92,λx=>Xb x.1 x.2⟩
theorem XL:KT 104 YM:=kV [(105,[Wu])] [] zm20 ⟨Dq,trivial⟩
abbrev X6:SP:=⟨zm8,⟨[.clo 156 0 2,.ptr 1 0,.ptr 2 0],[.row,.cells 1 [zm6],.cells 1 [ZR]]⟩,λx=>XH x.1 x.2⟩
theorem VP:KT 116 X6:=kV [] [] ⟨[],[],[],[],[0],[]⟩ trivial
abbrev ZBk:SP:=⟨zm3,⟨[.d Kv [(0,1,31)],ZR],[.row,.row]⟩,λx=>WY x⟩
theorem ZIf:KT 137 ZBk:=kR [(116,[X6]),(167,[ZCr])] [] zm34 ⟨VP,ZHh,trivial⟩
abbrev GO:SP:=⟨⟨[ZR,ZR,ZR],[]⟩,UK,λx=>XJ x.1 x.2.1 x.2.2⟩
theorem ZBS:KT 196 GO:=kV [] [] zm2 trivial
abbrev GN:SP:=⟨ZQH,UK,λx=>WZ x⟩
theorem ZBR:KT 197 GN:=kV [(52,[Z9])] [] zm2 ⟨YG,trivial⟩
abbrev Qp:SP:=⟨⟨[ZIS,.c (.fn 197)],[.row]⟩,zm68,λx=>XT x⟩
theorem U1:KT 150 Qp:=kV [(197,[GN])] [] zm16 ⟨ZBR,trivial⟩
abbrev Xq:SP:=⟨⟨[ZIS,.c (.fn 197)],[.row]⟩,⟨[Vk,.bor zm7 0 31],[.row]⟩,λx=>YI x⟩
theorem Wh:KT 108 Xq:=kV [(150,[Qp])] [] zm2 ⟨U1,trivial⟩
abbrev ZFX:SP:=⟨⟨[.ag 4,.d ZC0 [(3,0,31)]],[.row]⟩,zm68,λx=>Gj x⟩
theorem ZMC:KT 169 ZFX:=kV [(196,[GO]),(108,[Xq])] [] ⟨[(12,⟨[⟨.norm,[36],[(1,0,4)],⟨[.d ZC0 [(3,100,31)],Vk],[]⟩,[(1,some 3)]⟩],[(1,0,4)],[(1,some 3)]⟩)],[],[],[],[],[]⟩ ⟨ZBS,Wh,trivial⟩
end
end Go.Proofs.YtfpffkecbhkbkaaGreatDoor
