import Derived.Test.YtooeopogefefiaaGreatDoorK3
/- what is proved here: contracts by value. -/
set_option linter.unusedVariables false
namespace Go.Proofs.YtooeopogefefiaaGreatDoor
open Go Go.Ow Go.Pv Go.Proofs
set_option maxRecDepth 20000
noncomputable section
abbrev ZE0:Pv.Sp:=⟨[.ag 19,.d Yu [(2,0,5),(11,1,3),(12,2,41),(13,3,26),(14,4,26),(15,5,57)],.ag 3,ZPH],[.row,.row,.row,.row,.row,.row]⟩
abbrev ZEl:Pv.Sp:=⟨[.ag 12,.d Q7 [],Vm,.bor .w8 0 5,.bor .i 1 3,.bor Yv 2 41,.bor KX 3 26,.bor KX 4 26,.bor Q7 5 57],[.row,.row,.row,.row,.row,.row]⟩
abbrev BF:SP:=⟨ZE0,ZEl,λx=>ZH5 x.1 x.2⟩
theorem ZEx:KT 29 BF:=kV [(52,[ZK])] [] zm2 ⟨ZS,trivial⟩
abbrev ZEz:Pv.Sp:=⟨[.ag 19,.d Yu [(11,0,3),(12,1,41),(13,2,26),(14,3,26),(15,4,57)],.ag 3,ZPH],[.row,.row,.row,.row,.row]⟩
abbrev ZEk:Pv.Sp:=⟨[.ag 12,.d Q7 [],Vm,.bor .i 0 3,.bor Yv 1 41,.bor KX 2 26,.bor KX 3 26,.bor Q7 4 57],[.row,.row,.row,.row,.row]⟩
abbrev BE:SP:=⟨ZEz,ZEk,λx=>Uz x.1 x.2⟩
theorem ZEw:KT 29 BE:=kV [(52,[ZK])] [] zm2 ⟨ZS,trivial⟩
abbrev Bv:SP:=⟨zm60,⟨[.ag 5,ZM5,ZQ],[.row]⟩,λx=>Vs x.1 x.2⟩
theorem ZDn:KT 56 Bv:=kV [(60,[Y4]),(61,[Z8]),(82,[UU]),(117,[Bz])] [] ⟨[(4,zm0 15)],[],[],[],[],[]⟩ ⟨Xk,YH,Bb,ZC0,trivial⟩
abbrev QG:SP:=⟨⟨[.d ZF0 [(0,0,57)],ZQ,.d ZF0 [(0,1,57)]],[.row,.row]⟩,⟨[.d ZF0 [(0,2,57)]],[.row,.row,.row]⟩,λx=>(insO (α:=Change)) x.1 x.2.1 x.2.2⟩
theorem VO:KT 55 QG:=kG0 ZPm
abbrev ZHu:Pv.Sp:=⟨[.ptr 0 0,.ptr 1 0,.ptr 2 0,.ptr 3 0,.ptr 4 0],[.cells 1 [ZQ],.cells 1 [Vm],.cells 12 [.d Q7 []],.cells 1 [.ptr 5 0],.cells 1 [ZQ],.cells 19 [.d Yu [(11,6,3),(12,7,41),(13,8,26),(14,9,26),(15,10,57)]],.row,.row,.row,.row,.row]⟩
abbrev ZHI:Pv.Sp:=⟨[],[.cells 1 [ZQ],.cells 1 [Vm],.cells 12 [.d Q7 []],.cells 1 [.ptr 5 0],.cells 1 [ZQ],.cells 19 [.d Yu [(11,6,3),(12,7,41),(13,8,26),(14,9,26),(15,11,57)]],.row,.row,.row,.row,.row,.row]⟩
abbrev JF:SP:=⟨ZHu,ZHI,λx=>Y2 x.1 x.2.1 x.2.2.1 x.2.2.2.1 x.2.2.2.2⟩
theorem ZAd:Kd Tryz.prog 54 JF:=kWd [(55,[QG])] [] ⟨[],[],[],[(0,[8]),(3,[7])],[],[10]⟩ ⟨VO,trivial⟩ (λx=>SQ (b:=Ux x.1 x.2.1 x.2.2.1 x.2.2.2.1 x.2.2.2.2) (by kernel_rfl) (ZF7 x.1 x.2.1 x.2.2.1 x.2.2.2.1 x.2.2.2.2))
abbrev ZGT:Pv.Sp:=⟨[.ptr 0 0,.ptr 1 0,.ptr 2 0,.ptr 3 0,.ptr 4 0],[.cells 1 [ZQ],.cells 1 [Vm],.cells 12 [.d Q7 []],.cells 1 [.ptr 5 0],.cells 1 [ZQ],.cells 19 [.d Yu [(2,6,5),(11,7,3),(12,8,41),(13,9,26),(14,10,26),(15,11,57)]],.row,.row,.row,.row,.row,.row]⟩
abbrev ZGB:Pv.Sp:=⟨[],[.cells 1 [ZQ],.cells 1 [Vm],.cells 12 [.d Q7 []],.cells 1 [.ptr 5 0],.cells 1 [ZQ],.cells 19 [.d Yu [(2,6,5),(11,7,3),(12,8,41),(13,9,26),(14,10,26),(15,12,57)]],.row,.row,.row,.row,.row,.row,.row]⟩
abbrev W9:SP:=⟨ZGT,ZGB,λx=>Yb x.1 x.2.1 x.2.2.1 x.2.2.2.1 x.2.2.2.2⟩
theorem DJ:Kd Tryz.prog 54 W9:=kWd [(55,[QG])] [] ⟨[],[],[],[(0,[8]),(3,[7])],[],[11]⟩ ⟨VO,trivial⟩ (λx=>SQ (b:=W5 x.1 x.2.1 x.2.2.1 x.2.2.2.1 x.2.2.2.2) (by kernel_rfl) (ZEj x.1 x.2.1 x.2.2.1 x.2.2.2.1 x.2.2.2.2))
abbrev ZMD:Pv.Sp:=⟨[.ptr 0 0,.ag 12,.d Q7 []],[.cells 19 [.d Yu [(2,1,5),(11,2,3),(12,3,41),(13,4,26),(14,5,26),(15,6,57)]],.row,.row,.row,.row,.row,.row]⟩
abbrev J0:SP:=⟨ZMD,⟨[ZQ],[.cells 19 [.d Yu [(11,2,3),(12,3,41),(13,4,26),(14,5,26),(15,7,57)]],.row,.row,.row,.row,.row,.row,.row]⟩,λx=>G6 x.1 x.2⟩
theorem ZAM:KT 28 J0:=kDf [(52,[ZK]),(56,[Bv])] [(54,[JF,W9])] [] ⟨[(4,⟨[⟨.norm,[5,6],[(0,0,19)],⟨[zm9,.rr 100,zm4,zm4,zm4,.d zm7 [],.rr 101,.rr 102,.rr 103,.rr 104,.d ZF0 [(0,105,57)],ZQ,ZQ,zm4,.ptr 0 0,.ptr 1 0],[.cells 1 [ZQ],.cells 1 [Vm]]⟩,[(0,some 2),(0,some 11),(0,some 12),(0,some 13),(0,some 14),(0,some 15)]⟩],[(0,0,19)],[(0,some 15)]⟩),(12,zm0 37),(16,⟨[⟨.norm,[7,8],[(0,0,19)],⟨[WQ,zm4,.d zm7 [],.rr 100,.rr 101,.rr 102,.rr 103,.rr 104,ZQ,ZQ,zm4,.ptr 0 0,ZQ],[.cells 5 [.d (.st .Store) [(2,1,5)]],.row]⟩,[(0,some 11),(0,some 12),(0,some 13),(0,some 14),(0,some 15)]⟩],[(0,0,19)],[(0,some 2)]⟩)],[],[],[(1,[11]),(4,[12])],[1],[]⟩ ⟨ZS,ZDn,trivial⟩ ⟨ZAd,DJ,trivial⟩ (λx=>SQ (b:=ZAa x.1 x.2) (by kernel_rfl) (ZKH x.1 x.2))
abbrev ZIz:Pv.Sp:=⟨[.ptr 0 0,.ag 12,.d Q7 []],[.cells 19 [.d Yu [(11,1,3),(12,2,41),(13,3,26),(14,4,26),(15,5,57)]],.row,.row,.row,.row,.row]⟩
abbrev ZCP:SP:=⟨ZIz,⟨[ZQ],[.cells 19 [.d Yu [(11,1,3),(12,2,41),(13,3,26),(14,4,26),(15,6,57)]],.row,.row,.row,.row,.row,.row]⟩,λx=>Qt x.1 x.2⟩
theorem ZIt:KT 28 ZCP:=kDf [(52,[ZK]),(56,[Bv])] [(54,[JF,W9])] [] ⟨[(4,⟨[⟨.norm,[5,6],[(0,0,19)],⟨[WQ,zm4,.d zm7 [],.rr 100,.rr 101,.rr 102,.rr 103,.d ZF0 [(0,104,57)],ZQ,ZQ,zm4,.ptr 0 0,.ptr 1 0],[.cells 1 [ZQ],.cells 1 [Vm]]⟩,[(0,some 11),(0,some 12),(0,some 13),(0,some 14),(0,some 15)]⟩],[(0,0,19)],[(0,some 15)]⟩),(12,zm0 37),(16,⟨[⟨.norm,[7,8],[],⟨[.ptr 0 0,ZQ],[.cells 5 [.d (.st .Store) [(2,1,5)]],.row]⟩,[]⟩],[],[]⟩)],[],[],[(1,[11])],[],[]⟩ ⟨ZS,ZDn,trivial⟩ ⟨ZAd,DJ,trivial⟩ (λx=>SQ (b:=GK x.1 x.2) (by kernel_rfl) (ZHE x.1 x.2))
abbrev ZGS:Pv.Sp:=⟨[.ptr 0 0,.ptr 1 0,.ptr 2 0,.ptr 3 0],[.cells 19 [.d Yu [(2,4,5),(11,5,3),(12,6,41),(13,7,26),(14,8,26),(15,9,57)]],.cells 4 [.d ZDM [(3,10,31)]],.cells 13 [.d Yv []],.cells 1 [ZQ],.row,.row,.row,.row,.row,.row,.row]⟩
abbrev ZGA:Pv.Sp:=⟨[ZQ],[.cells 19 [.d Yu [(11,5,3),(12,6,41),(13,7,26),(14,8,26),(15,11,57)]],.cells 4 [.d ZDM [(3,10,31)]],.cells 13 [.d Yv []],.cells 1 [ZQ],.row,.row,.row,.row,.row,.row,.row,.row]⟩
abbrev DS:SP:=⟨ZGS,ZGA,λx=>WJ x.1 x.2.1 x.2.2.1 x.2.2.2⟩
theorem ZGJ:KT 111 DS:=kV [(29,[BF,BE]),(28,[J0,ZCP])] [] ⟨[(16,⟨[⟨.norm,[9],[(0,0,19)],⟨[.d Yu [(11,100,3),(12,101,41),(13,102,26),(14,103,26),(15,104,57)],Vm],[]⟩,[(0,some 11),(0,some 12),(0,some 13),(0,some 14),(0,some 15)]⟩],[(0,0,19)],[(0,some 11),(0,some 12),(0,some 13),(0,some 14),(0,some 15)]⟩),(20,zm0 37)],[(2,⟨⟨.norm,[14],[(0,0,19)],zm74,[(0,some 11),(0,some 12),(0,some 13),(0,some 14)]⟩,[⟨.ret,[5],[(0,0,19)],zm74,[(0,some 11),(0,some 12),(0,some 13),(0,some 14)]⟩,⟨(.exit 0),[],[(0,0,19)],⟨[.d Yu [(11,100,3),(12,101,41),(13,102,26),(14,103,26),(15,0,57)]],[.row]⟩,[(0,some 11),(0,some 12),(0,some 13),(0,some 14)]⟩],[(0,0,19)],[(0,some 2),(0,some 11),(0,some 12),(0,some 13),(0,some 14),(0,some 15)],[]⟩)],[],[(4,[8])],[],[]⟩ ⟨ZEx,ZEw,ZAM,ZIt,trivial⟩ (λx=>SQ (b:=W4 x.1 x.2.1 x.2.2.1 x.2.2.2) (by kernel_rfl) (ZEi x.1 x.2.1 x.2.2.1 x.2.2.2))
abbrev ZME:Pv.Sp:=⟨[.ag 19,.d Yu [],.clo 111 0 3,.ptr 0 0,.ptr 1 0,.ptr 2 0],[.cells 4 [.d ZDM [(3,3,31)]],.cells 13 [.d Yv []],.cells 1 [ZQ],.row]⟩
abbrev ZLj:Pv.Sp:=⟨[.ag 19,.d Yu [(11,4,3),(12,5,41),(13,6,26),(14,7,26),(15,8,57)],ZQ],[.cells 4 [.d ZDM [(3,3,31)]],.cells 13 [.d Yv []],.cells 1 [ZQ],.row,.row,.row,.row,.row,.row]⟩
abbrev ZFv:SP:=⟨ZME,ZLj,λx=>ZJX x.1 x.2.1 x.2.2.1 x.2.2.2⟩
theorem ZL9:KT 26 ZFv:=kV [(36,[V4]),(111,[DS])] [] zm2 ⟨Us,ZGJ,trivial⟩
abbrev ZCO:SP:=⟨zm66,zm29,λx=>ZFc x.1 x.2.1 x.2.2⟩
theorem ZIs:KT 49 ZCO:=kV [(25,[J1]),(31,[WN]),(26,[ZFv])] [] zm2 ⟨ZAN,GI,ZL9,trivial⟩
abbrev ZKZ:Pv.Sp:=⟨[.ptr 0 0,.ptr 1 0,.ptr 2 0,.ptr 3 0,.ptr 4 0,.ptr 5 0],[.cells 19 [.d Yu [(2,6,5),(11,7,3),(12,8,41),(13,9,26),(14,10,26),(15,11,57)]],.cells 1 [ZQ],.cells 1 [ZQ],.cells 1 [Zv],.cells 1 [ZQ],.cells 1 [ZQ],.row,.row,.row,.row,.row,.row]⟩
abbrev ZKJ:Pv.Sp:=⟨[ZQ],[.cells 19 [.d Yu [(11,7,3),(12,8,41),(13,9,26),(14,10,26),(15,12,57)]],.cells 1 [ZQ],.cells 1 [ZQ],.cells 1 [Zv],.cells 1 [ZQ],.cells 1 [ZQ],.row,.row,.row,.row,.row,.row,.row]⟩
abbrev ZEO:SP:=⟨ZKZ,ZKJ,λx=>ZH6 x.1 x.2.1 x.2.2.1 x.2.2.2.1 x.2.2.2.2.1 x.2.2.2.2.2⟩
theorem ZKX:KT 50 ZEO:=kV [(28,[J0])] [] zm2 ⟨ZAM,trivial⟩
abbrev ZHv:Pv.Sp:=⟨[.ag 19,.d Yu [],.clo 50 0 5,.ptr 0 0,.ptr 1 0,.ptr 2 0,.ptr 3 0,.ptr 4 0],[.cells 1 [ZQ],.cells 1 [ZQ],.cells 1 [Zv],.cells 1 [ZQ],.cells 1 [ZQ]]⟩
abbrev ZHK:Pv.Sp:=⟨[.ag 19,.d Yu [(11,5,3),(12,6,41),(13,7,26),(14,8,26),(15,9,57)],ZQ],[.cells 1 [ZQ],.cells 1 [ZQ],.cells 1 [Zv],.cells 1 [ZQ],.cells 1 [ZQ],.row,.row,.row,.row,.row]⟩
abbrev ZAt:SP:=⟨ZHv,ZHK,λx=>ZEB x.1 x.2.1 x.2.2.1 x.2.2.2.1 x.2.2.2.2.1 x.2.2.2.2.2⟩
theorem ZHm:KT 26 ZAt:=kV [(36,[V4]),(50,[ZEO])] [] zm2 ⟨Us,ZKX,trivial⟩
abbrev ZIH:SP:=⟨⟨[.ag 19,.d Yu [],ZQ,ZQ,Zv,ZQ,ZQ],[]⟩,zm29,λx=>ZMX x.1 x.2.1 x.2.2.1 x.2.2.2.1 x.2.2.2.2.1 x.2.2.2.2.2⟩
theorem ZNc:KT 22 ZIH:=kV [(23,[GT]),(24,[WM]),(49,[ZCO]),(26,[ZAt])] [] ⟨[(16,zm0 27)],[],[],[],[],[]⟩ ⟨ZBx,GH,ZIs,ZHm,trivial⟩
abbrev ZI0:Pv.Sp:=⟨[.ptr 0 0,.ptr 1 0],[.cells 19 [.d Yu [(2,2,5),(11,3,3),(12,4,41),(13,5,26),(14,6,26),(15,7,57)]],.cells 12 [.d Q7 [(6,8,5)]],.row,.row,.row,.row,.row,.row,.row]⟩
abbrev ZIa:Pv.Sp:=⟨[ZQ],[.cells 19 [.d Yu [(11,3,3),(12,4,41),(13,5,26),(14,6,26),(15,9,57)]],.cells 12 [.d Q7 []],.row,.row,.row,.row,.row,.row,.row,.row]⟩
abbrev ZCR:SP:=⟨ZI0,ZIa,λx=>ZFd x.1 x.2⟩
theorem ZIv:KT 27 ZCR:=kV [(28,[J0])] [] zm2 ⟨ZAM,trivial⟩
abbrev ZHJ:Pv.Sp:=⟨[.ag 19,.d Yu [(11,2,3),(12,3,41),(13,4,26),(14,5,26),(15,6,57)],ZQ],[.cells 12 [.d Q7 []],.row,.row,.row,.row,.row,.row]⟩
abbrev ZAs:SP:=⟨⟨[.ag 19,.d Yu [],.clo 27 0 1,.ptr 0 0],[.cells 12 [.d Q7 [(6,1,5)]],.row]⟩,ZHJ,λx=>ZEA x.1 x.2⟩
theorem ZHl:KT 26 ZAs:=kV [(36,[V4]),(27,[ZCR])] [] zm2 ⟨Us,ZIv,trivial⟩
abbrev ZAv:SP:=⟨⟨[.ag 19,.d Yu [],ZQ,ZQ,ZQ,zm6],[]⟩,zm29,λx=>ZE3 x.1 x.2.1 x.2.2.1 x.2.2.2.1 x.2.2.2.2⟩
theorem ZFU:KT 10 ZAv:=kV [(23,[GT]),(24,[WM]),(25,[J1]),(26,[ZAs])] [] ⟨[(60269,⟨[⟨.norm,[],[(16,0,12)],⟨[.d Q7 [(6,0,5)]],[.row]⟩,[]⟩],[(16,0,12)],[]⟩)],[],[],[],[],[]⟩ ⟨ZBx,GH,ZAN,ZHl,trivial⟩
abbrev ZFs:SP:=⟨ZGs,⟨[.ag 19,.d Yu [(11,0,3),(12,1,41),(13,2,26),(14,3,26),(15,4,57)],Vm],[.row,.row,.row,.row,.row]⟩,λ_=>law21_one⟩
theorem ZL5:KT 9 ZFs:=kV [(20,[ZJf]),(8,[U5]),(21,[ZCS]),(22,[ZIH]),(10,[ZAv])] [28] ⟨[],[],[],[(2,[2])],[],[]⟩ ⟨ZPh,BZ,ZIw,ZNc,ZFU,trivial⟩
abbrev ZAu:SP:=⟨ZQD,⟨[.ag 13,.d Yv [(12,0,31)],ZQ],[.row]⟩,λx=>Uc x.1 x.2⟩
theorem ZFT:KT 6 ZAu:=kV [(13,[J3]),(14,[QH])] [] zm2 ⟨ZAO,VS,trivial⟩
abbrev ZCA:SP:=⟨⟨[.ag 19,.d Yu [(11,0,3),(12,1,41),(14,2,26),(15,3,57)]],[.row,.row,.row,.row]⟩,⟨[.ag 19,.d Yu [(11,4,3),(12,5,41),(14,6,26),(15,7,57)],ZQ],[.row,.row,.row,.row,.row,.row,.row,.row]⟩,λx=>Dl x⟩
theorem ZIe:KT 8 ZCA:=kV [(17,[ZAi]),(18,[V3]),(19,[W7])] [] zm27 ⟨ZFN,Gz,DH,trivial⟩ (λx=>SQ (b:=ZBl x) (by kernel_rfl) (ZHC x))
abbrev ZCC:SP:=⟨zm99,ZQC,λx=>Dr x.1 x.2⟩
theorem ZIg:KT 16 ZCC:=kV [] [] zm2 trivial
abbrev Xz:SP:=⟨⟨[.d ZBY [(0,0,41)],.clo 16 0 1,.ptr 1 0],[.row,.cells 1 [ZQ]]⟩,⟨[ZQ,.bor Yv 0 41],[.row,.cells 1 [ZQ]]⟩,λx=>Z9 x.1 x.2⟩
theorem Vv:KT 15 Xz:=kV [(16,[ZCC])] [] zm12 ⟨ZIg,trivial⟩
abbrev ZAm:SP:=⟨ZQD,zm69,λx=>Kn x.1 x.2⟩
theorem ZFP:KT 7 ZAm:=kV [(6,[ZAu]),(8,[ZCA,U5]),(15,[Xz])] [] ⟨[(24,zm0 27),(60,⟨[⟨.norm,[],[(10,0,13)],⟨[.d Yv []],[]⟩,[]⟩],[(10,0,13)],[]⟩),(64,⟨[⟨.norm,[],[(2,0,19)],⟨[WQ,zm4,.d zm7 [],.rr 100,.d ZBY [(0,101,41)],ZCW,.rr 102,.rr 103,ZQ,ZQ,zm4],[]⟩,[(2,some 11),(53,none),(2,some 14),(2,some 15)]⟩],[(2,0,19)],[(53,none)]⟩)],[],[],[(15,[7]),(16,[8])],[],[]⟩ ⟨ZFT,ZIe,BZ,Vv,trivial⟩ (λx=>SQ (b:=Dq x.1 x.2) (by kernel_rfl) (ZKF x.1 x.2))
abbrev ZFo:SP:=⟨⟨[zm6,zm4,zm6,zm4],[]⟩,zm8,λx=>ZI8 x.1 x.2.1 x.2.2.1 x.2.2.2⟩
theorem ZL1:KT 59 ZFo:=kV [(121,[GQ]),(122,[c_seal_tagged])] [] ⟨[(20,zm0 37)],[],[],[],[],[]⟩ ⟨ZBt,ZBu,trivial⟩
abbrev ZEH:SP:=⟨⟨[.ag 5,WQ,.ag 5,.d zm7 [],zm6],[]⟩,zm8,λx=>ZG0 x.1 x.2.1 x.2.2⟩
theorem ZKQ:KT 32 ZEH:=kV [(58,[UT]),(59,[ZFo])] [] zm2 ⟨Ba,ZL1,trivial⟩
abbrev ZFw:SP:=⟨⟨[.ag 19,.d Yu [],ZQ,ZQ,ZQ],[]⟩,zm8,λx=>ZJY x.1 x.2.1 x.2.2.1 x.2.2.2⟩
theorem ZMA:KT 11 ZFw:=kV [(13,[J3]),(24,[WM]),(25,[J1]),(29,[GU]),(30,[Xl]),(31,[WN]),(32,[ZEH])] [] ⟨[(56,zm0 64),(68301,⟨[⟨.ret,[8,9],[(17,0,5)],⟨[.d zm7 [],.c (.nils),ZQ],[]⟩,[]⟩,⟨.norm,[],[(17,0,5)],⟨[.d zm7 []],[]⟩,[]⟩],[(17,0,5)],[]⟩)],[],[],[],[],[]⟩ ⟨ZAO,GH,ZAN,ZBy,QV,GI,ZKQ,trivial⟩
abbrev ZCI:SP:=⟨ZGs,UH,λ_=>law21_alive⟩
theorem ZIm:KT 4 ZCI:=kV [(9,[ZFs]),(7,[ZAm]),(10,[ZAv]),(11,[ZFw])] [23] zm2 ⟨ZL5,ZFP,ZFU,ZMA,trivial⟩
abbrev ZCF:SP:=⟨ZM4,UH,λx=>Jc x⟩
theorem ZIj:KT 33 ZCF:=kV [] [] ⟨[(4,zm0 27),(20,zm0 36),(36,zm0 55)],[(5,⟨⟨.norm,[3,4],[],ZIX,[]⟩,[zm75],[],[],[]⟩),(9,⟨⟨.norm,[3,5],[],ZIX,[]⟩,[⟨(.exit 2),[3],[],QY,[]⟩],[],[],[]⟩)],[],[],[],[]⟩ trivial
abbrev ZCE:SP:=⟨⟨[.ag 5,WQ],[]⟩,UH,λx=>D1 x⟩
theorem ZIi:KT 12 ZCE:=kV [(33,[ZCF])] [] zm2 ⟨ZIj,trivial⟩
abbrev ZCD:SP:=⟨ZQB,UH,λx=>Jb x⟩
theorem ZIh:KT 5 ZCD:=kV [(12,[ZCE])] [] ⟨[(8,zm0 33)],[(5,⟨⟨.norm,[3,4],[],ZPF,[]⟩,[zm75],[],[],[]⟩),(9,⟨⟨.norm,[3,5],[],ZPF,[]⟩,[⟨(.exit 2),[3],[],QY,[]⟩],[],[],[]⟩),(13,⟨⟨.norm,[3,6],[],ZPF,[]⟩,[⟨(.exit 4),[3],[],QY,[]⟩],[],[],[]⟩),(17,⟨⟨.norm,[3,7],[],ZPF,[]⟩,[⟨(.exit 6),[3],[],QY,[]⟩],[],[],[]⟩)],[],[],[],[]⟩ ⟨ZIi,trivial⟩
abbrev ZBj:SP:=⟨ZQD,UH,λx=>law21_SnapRefuses x.1 x.2⟩
theorem ZBi:KT 3 ZBj:=kV [(4,[ZCI]),(5,[ZCD]),(6,[ZAu]),(7,[ZAm]),(8,[U5])] [] ⟨[(8,zm0 19),(28,zm0 50),(40,zm0 4),(48,zm0 4),(52,zm0 80),(56,zm0 4)],[],[],[],[],[]⟩ ⟨ZIm,ZIh,ZFT,ZFP,BZ,trivial⟩
end
end Go.Proofs.YtooeopogefefiaaGreatDoor
