import Derived.Test.YtfpffkecbhkbkaaGreatDoorK3
/- what is proved here: contracts by value. -/
set_option linter.unusedVariables false
namespace Go.Proofs.YtfpffkecbhkbkaaGreatDoor
open Go Go.Ow Go.Pv Go.Proofs
set_option maxRecDepth 20000
noncomputable section
abbrev ZL:SP:=⟨⟨[.d ZFi [(0,0,55)],.ag 3,ZPV,.c (.fn 36)],[.row]⟩,⟨[ZR,Vk,.bor Q1 0 55],[.row]⟩,λx=>ZD x.1 x.2⟩
theorem ZS:KT 35 ZL:=kV [(36,[Be])] [] zm22 ⟨ZDd,trivial⟩
abbrev ZEj:Pv.Sp:=⟨[.ag 19,.d Yj [(2,0,5),(11,1,3),(12,2,41),(13,3,26),(14,4,26),(15,5,55)],.ag 3,ZPV],[.row,.row,.row,.row,.row,.row]⟩
abbrev ZEU:Pv.Sp:=⟨[.ag 12,.d Q1 [],Vk,.bor .w8 0 5,.bor .i 1 3,.bor Yr 2 41,.bor KQ 3 26,.bor KQ 4 26,.bor Q1 5 55],[.row,.row,.row,.row,.row,.row]⟩
abbrev G4:SP:=⟨ZEj,ZEU,λx=>ZH1 x.1 x.2⟩
theorem ZEg:KT 25 G4:=kV [(35,[ZL])] [] zm2 ⟨ZS,trivial⟩
abbrev ZEi:Pv.Sp:=⟨[.ag 19,.d Yj [(11,0,3),(12,1,41),(13,2,26),(14,3,26),(15,4,55)],.ag 3,ZPV],[.row,.row,.row,.row,.row]⟩
abbrev ZET:Pv.Sp:=⟨[.ag 12,.d Q1 [],Vk,.bor .i 0 3,.bor Yr 1 41,.bor KQ 2 26,.bor KQ 3 26,.bor Q1 4 55],[.row,.row,.row,.row,.row]⟩
abbrev G3:SP:=⟨ZEi,ZET,λx=>Qm x.1 x.2⟩
theorem ZEf:KT 25 G3:=kV [(35,[ZL])] [] zm2 ⟨ZS,trivial⟩
abbrev BY:SP:=⟨zm56,⟨[.ag 5,ZNI,ZR],[.row]⟩,λx=>Xy x.1 x.2⟩
theorem ZDX:KT 39 BY:=kV [(51,[Yq]),(52,[Z9]),(70,[UY]),(71,[Bc])] [] ⟨[(4,zm0 15)],[],[],[],[],[]⟩ ⟨XV,YG,BJ,ZCX,trivial⟩
abbrev X4:SP:=⟨⟨[.d ZFi [(0,0,55)],ZR,.d ZFi [(0,1,55)]],[.row,.row]⟩,⟨[.d ZFi [(0,2,55)]],[.row,.row,.row]⟩,λx=>(insO (α:=Change)) x.1 x.2.1 x.2.2⟩
theorem VL:KT 38 X4:=kG0 ZPw
abbrev ZHt:Pv.Sp:=⟨[.ptr 0 0,.ptr 1 0,.ptr 2 0,.ptr 3 0,.ptr 4 0],[.cells 1 [ZR],.cells 1 [Vk],.cells 12 [.d Q1 []],.cells 1 [.ptr 5 0],.cells 1 [ZR],.cells 19 [.d Yj [(11,6,3),(12,7,41),(13,8,26),(14,9,26),(15,10,55)]],.row,.row,.row,.row,.row]⟩
abbrev ZHA:Pv.Sp:=⟨[],[.cells 1 [ZR],.cells 1 [Vk],.cells 12 [.d Q1 []],.cells 1 [.ptr 5 0],.cells 1 [ZR],.cells 19 [.d Yj [(11,6,3),(12,7,41),(13,8,26),(14,9,26),(15,11,55)]],.row,.row,.row,.row,.row,.row]⟩
abbrev JG:SP:=⟨ZHt,ZHA,λx=>Zh x.1 x.2.1 x.2.2.1 x.2.2.2.1 x.2.2.2.2⟩
theorem ZAD:Kd Tryz.prog 37 JG:=kWd [(38,[X4])] [] ⟨[],[],[],[(0,[8]),(3,[7])],[],[10]⟩ ⟨VL,trivial⟩ (λx=>SS (b:=U4 x.1 x.2.1 x.2.2.1 x.2.2.2.1 x.2.2.2.2) (by kernel_rfl) (ZFq x.1 x.2.1 x.2.2.1 x.2.2.2.1 x.2.2.2.2))
abbrev ZGD:Pv.Sp:=⟨[.ptr 0 0,.ptr 1 0,.ptr 2 0,.ptr 3 0,.ptr 4 0],[.cells 1 [ZR],.cells 1 [Vk],.cells 12 [.d Q1 []],.cells 1 [.ptr 5 0],.cells 1 [ZR],.cells 19 [.d Yj [(2,6,5),(11,7,3),(12,8,41),(13,9,26),(14,10,26),(15,11,55)]],.row,.row,.row,.row,.row,.row]⟩
abbrev ZFu:Pv.Sp:=⟨[],[.cells 1 [ZR],.cells 1 [Vk],.cells 12 [.d Q1 []],.cells 1 [.ptr 5 0],.cells 1 [ZR],.cells 19 [.d Yj [(2,6,5),(11,7,3),(12,8,41),(13,9,26),(14,10,26),(15,12,55)]],.row,.row,.row,.row,.row,.row,.row]⟩
abbrev UB:SP:=⟨ZGD,ZFu,λx=>YK x.1 x.2.1 x.2.2.1 x.2.2.2.1 x.2.2.2.2⟩
theorem Bt:Kd Tryz.prog 37 UB:=kWd [(38,[X4])] [] ⟨[],[],[],[(0,[8]),(3,[7])],[],[11]⟩ ⟨VL,trivial⟩ (λx=>SS (b:=W9 x.1 x.2.1 x.2.2.1 x.2.2.2.1 x.2.2.2.2) (by kernel_rfl) (ZES x.1 x.2.1 x.2.2.1 x.2.2.2.1 x.2.2.2.2))
abbrev ZMO:Pv.Sp:=⟨[.ptr 0 0,.ag 12,.d Q1 []],[.cells 19 [.d Yj [(2,1,5),(11,2,3),(12,3,41),(13,4,26),(14,5,26),(15,6,55)]],.row,.row,.row,.row,.row,.row]⟩
abbrev Jv:SP:=⟨ZMO,⟨[ZR],[.cells 19 [.d Yj [(11,2,3),(12,3,41),(13,4,26),(14,5,26),(15,7,55)]],.row,.row,.row,.row,.row,.row,.row]⟩,λx=>V1 x.1 x.2⟩
theorem Dw:KT 19 Jv:=kDf [(35,[ZL]),(39,[BY])] [(37,[JG,UB])] [] ⟨[(4,⟨[⟨.norm,[5,6],[(0,0,19)],⟨[zm9,.rr 100,zm4,zm4,zm4,.d zm7 [],.rr 101,.rr 102,.rr 103,.rr 104,.d ZFi [(0,105,55)],ZR,ZR,zm4,.ptr 0 0,.ptr 1 0],[.cells 1 [ZR],.cells 1 [Vk]]⟩,[(0,some 2),(0,some 11),(0,some 12),(0,some 13),(0,some 14),(0,some 15)]⟩],[(0,0,19)],[(0,some 15)]⟩),(12,zm0 37),(16,⟨[⟨.norm,[7,8],[(0,0,19)],⟨[Wz,zm4,.d zm7 [],.rr 100,.rr 101,.rr 102,.rr 103,.rr 104,ZR,ZR,zm4,.ptr 0 0,ZR],[.cells 5 [.d (.st .Store) [(2,1,5)]],.row]⟩,[(0,some 11),(0,some 12),(0,some 13),(0,some 14),(0,some 15)]⟩],[(0,0,19)],[(0,some 2)]⟩)],[],[],[(1,[11]),(4,[12])],[1],[]⟩ ⟨ZS,ZDX,trivial⟩ ⟨ZAD,Bt,trivial⟩ (λx=>SS (b:=D9 x.1 x.2) (by kernel_rfl) (ZKJ x.1 x.2))
abbrev ZIu:Pv.Sp:=⟨[.ptr 0 0,.ag 12,.d Q1 []],[.cells 19 [.d Yj [(11,1,3),(12,2,41),(13,3,26),(14,4,26),(15,5,55)]],.row,.row,.row,.row,.row]⟩
abbrev ZBt:SP:=⟨ZIu,⟨[ZR],[.cells 19 [.d Yj [(11,1,3),(12,2,41),(13,3,26),(14,4,26),(15,6,55)]],.row,.row,.row,.row,.row,.row]⟩,λx=>Yc x.1 x.2⟩
theorem ZIo:KT 19 ZBt:=kDf [(35,[ZL]),(39,[BY])] [(37,[JG,UB])] [] ⟨[(4,⟨[⟨.norm,[5,6],[(0,0,19)],⟨[Wz,zm4,.d zm7 [],.rr 100,.rr 101,.rr 102,.rr 103,.d ZFi [(0,104,55)],ZR,ZR,zm4,.ptr 0 0,.ptr 1 0],[.cells 1 [ZR],.cells 1 [Vk]]⟩,[(0,some 11),(0,some 12),(0,some 13),(0,some 14),(0,some 15)]⟩],[(0,0,19)],[(0,some 15)]⟩),(12,zm0 37),(16,⟨[⟨.norm,[7,8],[],⟨[.ptr 0 0,ZR],[.cells 5 [.d (.st .Store) [(2,1,5)]],.row]⟩,[]⟩],[],[]⟩)],[],[],[(1,[11])],[],[]⟩ ⟨ZS,ZDX,trivial⟩ ⟨ZAD,Bt,trivial⟩ (λx=>SS (b:=GH x.1 x.2) (by kernel_rfl) (ZG6 x.1 x.2))
abbrev ZGC:Pv.Sp:=⟨[.ptr 0 0,.ptr 1 0,.ptr 2 0,.ptr 3 0],[.cells 19 [.d Yj [(2,4,5),(11,5,3),(12,6,41),(13,7,26),(14,8,26),(15,9,55)]],.cells 4 [.d ZC0 [(3,10,31)]],.cells 13 [.d Yr []],.cells 1 [ZR],.row,.row,.row,.row,.row,.row,.row]⟩
abbrev ZFt:Pv.Sp:=⟨[ZR],[.cells 19 [.d Yj [(11,5,3),(12,6,41),(13,7,26),(14,8,26),(15,11,55)]],.cells 4 [.d ZC0 [(3,10,31)]],.cells 13 [.d Yr []],.cells 1 [ZR],.row,.row,.row,.row,.row,.row,.row,.row]⟩
abbrev B3:SP:=⟨ZGC,ZFt,λx=>QL x.1 x.2.1 x.2.2.1 x.2.2.2⟩
theorem ZF3:KT 40 B3:=kV [(25,[G4,G3]),(19,[Jv,ZBt])] [] ⟨[(16,⟨[⟨.norm,[9],[(0,0,19)],⟨[.d Yj [(11,100,3),(12,101,41),(13,102,26),(14,103,26),(15,104,55)],Vk],[]⟩,[(0,some 11),(0,some 12),(0,some 13),(0,some 14),(0,some 15)]⟩],[(0,0,19)],[(0,some 11),(0,some 12),(0,some 13),(0,some 14),(0,some 15)]⟩),(20,zm0 37)],[(2,⟨⟨.norm,[14],[(0,0,19)],zm70,[(0,some 11),(0,some 12),(0,some 13),(0,some 14)]⟩,[⟨.ret,[5],[(0,0,19)],zm70,[(0,some 11),(0,some 12),(0,some 13),(0,some 14)]⟩,⟨(.exit 0),[],[(0,0,19)],⟨[.d Yj [(11,100,3),(12,101,41),(13,102,26),(14,103,26),(15,0,55)]],[.row]⟩,[(0,some 11),(0,some 12),(0,some 13),(0,some 14)]⟩],[(0,0,19)],[(0,some 2),(0,some 11),(0,some 12),(0,some 13),(0,some 14),(0,some 15)],[]⟩)],[],[(4,[8])],[],[]⟩ ⟨ZEg,ZEf,Dw,ZIo,trivial⟩ (λx=>SS (b:=W8 x.1 x.2.1 x.2.2.1 x.2.2.2) (by kernel_rfl) (ZER x.1 x.2.1 x.2.2.1 x.2.2.2))
abbrev ZMP:Pv.Sp:=⟨[.ag 19,.d Yj [],.clo 40 0 3,.ptr 0 0,.ptr 1 0,.ptr 2 0],[.cells 4 [.d ZC0 [(3,3,31)]],.cells 13 [.d Yr []],.cells 1 [ZR],.row]⟩
abbrev ZLs:Pv.Sp:=⟨[.ag 19,.d Yj [(11,4,3),(12,5,41),(13,6,26),(14,7,26),(15,8,55)],ZR],[.cells 4 [.d ZC0 [(3,3,31)]],.cells 13 [.d Yr []],.cells 1 [ZR],.row,.row,.row,.row,.row,.row]⟩
abbrev ZFc:SP:=⟨ZMP,ZLs,λx=>ZEp x.1 x.2.1 x.2.2.1 x.2.2.2⟩
theorem ZMI:KT 17 ZFc:=kV [(34,[V4]),(40,[B3])] [] zm2 ⟨U0,ZF3,trivial⟩
abbrev ZBs:SP:=⟨zm63,zm28,λx=>Ki x.1 x.2.1 x.2.2⟩
theorem ZIn:KT 20 ZBs:=kV [(16,[Jw]),(27,[WL]),(17,[ZFc])] [] zm2 ⟨Dx,GF,ZMI,trivial⟩
abbrev ZKe:Pv.Sp:=⟨[.ptr 0 0,.ptr 1 0,.ptr 2 0,.ptr 3 0,.ptr 4 0,.ptr 5 0],[.cells 19 [.d Yj [(2,6,5),(11,7,3),(12,8,41),(13,9,26),(14,10,26),(15,11,55)]],.cells 1 [ZR],.cells 1 [ZR],.cells 1 [Zt],.cells 1 [ZR],.cells 1 [ZR],.row,.row,.row,.row,.row,.row]⟩
abbrev ZKM:Pv.Sp:=⟨[ZR],[.cells 19 [.d Yj [(11,7,3),(12,8,41),(13,9,26),(14,10,26),(15,12,55)]],.cells 1 [ZR],.cells 1 [ZR],.cells 1 [Zt],.cells 1 [ZR],.cells 1 [ZR],.row,.row,.row,.row,.row,.row,.row]⟩
abbrev ZD3:SP:=⟨ZKe,ZKM,λx=>ZCn x.1 x.2.1 x.2.2.1 x.2.2.2.1 x.2.2.2.2.1 x.2.2.2.2.2⟩
theorem ZKb:KT 21 ZD3:=kV [(19,[Jv])] [] zm2 ⟨Dw,trivial⟩
abbrev ZHu:Pv.Sp:=⟨[.ag 19,.d Yj [],.clo 21 0 5,.ptr 0 0,.ptr 1 0,.ptr 2 0,.ptr 3 0,.ptr 4 0],[.cells 1 [ZR],.cells 1 [ZR],.cells 1 [Zt],.cells 1 [ZR],.cells 1 [ZR]]⟩
abbrev ZHC:Pv.Sp:=⟨[.ag 19,.d Yj [(11,5,3),(12,6,41),(13,7,26),(14,8,26),(15,9,55)],ZR],[.cells 1 [ZR],.cells 1 [ZR],.cells 1 [Zt],.cells 1 [ZR],.cells 1 [ZR],.row,.row,.row,.row,.row]⟩
abbrev ZAQ:SP:=⟨ZHu,ZHC,λx=>VU x.1 x.2.1 x.2.2.1 x.2.2.2.1 x.2.2.2.2.1 x.2.2.2.2.2⟩
theorem ZHm:KT 17 ZAQ:=kV [(34,[V4]),(21,[ZD3])] [] zm2 ⟨U0,ZKb,trivial⟩
abbrev ZCv:SP:=⟨⟨[.ag 19,.d Yj [],ZR,ZR,Zt,ZR,ZR],[]⟩,zm28,λx=>ZAB x.1 x.2.1 x.2.2.1 x.2.2.2.1 x.2.2.2.2.1 x.2.2.2.2.2⟩
theorem ZHn:KT 8 ZCv:=kV [(14,[GP]),(15,[WK]),(20,[ZBs]),(17,[ZAQ])] [] ⟨[(16,zm0 27)],[],[],[],[],[]⟩ ⟨ZBT,GE,ZIn,ZHm,trivial⟩
abbrev ZIv:Pv.Sp:=⟨[.ptr 0 0,.ptr 1 0],[.cells 19 [.d Yj [(2,2,5),(11,3,3),(12,4,41),(13,5,26),(14,6,26),(15,7,55)]],.cells 12 [.d Q1 [(6,8,5)]],.row,.row,.row,.row,.row,.row,.row]⟩
abbrev ZIX:Pv.Sp:=⟨[ZR],[.cells 19 [.d Yj [(11,3,3),(12,4,41),(13,5,26),(14,6,26),(15,9,55)]],.cells 12 [.d Q1 []],.row,.row,.row,.row,.row,.row,.row,.row]⟩
abbrev ZBv:SP:=⟨ZIv,ZIX,λx=>ZAC x.1 x.2⟩
theorem ZIq:KT 18 ZBv:=kV [(19,[Jv])] [] zm2 ⟨Dw,trivial⟩
abbrev ZHB:Pv.Sp:=⟨[.ag 19,.d Yj [(11,2,3),(12,3,41),(13,4,26),(14,5,26),(15,6,55)],ZR],[.cells 12 [.d Q1 []],.row,.row,.row,.row,.row,.row]⟩
abbrev ZAP:SP:=⟨⟨[.ag 19,.d Yj [],.clo 18 0 1,.ptr 0 0],[.cells 12 [.d Q1 [(6,1,5)]],.row]⟩,ZHB,λx=>UU x.1 x.2⟩
theorem ZHl:KT 17 ZAP:=kV [(34,[V4]),(18,[ZBv])] [] zm2 ⟨U0,ZIq,trivial⟩
abbrev ZAR:SP:=⟨⟨[.ag 19,.d Yj [],ZR,ZR,ZR,zm6],[]⟩,zm28,λx=>Gw x.1 x.2.1 x.2.2.1 x.2.2.2.1 x.2.2.2.2⟩
theorem ZFE:KT 7 ZAR:=kV [(14,[GP]),(15,[WK]),(16,[Jw]),(17,[ZAP])] [] ⟨[(60269,⟨[⟨.norm,[],[(16,0,12)],⟨[.d Q1 [(6,0,5)]],[.row]⟩,[]⟩],[(16,0,12)],[]⟩)],[],[],[],[],[]⟩ ⟨ZBT,GE,Dx,ZHl,trivial⟩
abbrev ZFV:SP:=⟨⟨[zm6,zm4,zm6,zm4],[]⟩,zm8,λx=>ZI5 x.1 x.2.1 x.2.2.1 x.2.2.2⟩
theorem ZMA:KT 50 ZFV:=kV [(90,[GM]),(91,[c_seal_tagged])] [] ⟨[(20,zm0 37)],[],[],[],[],[]⟩ ⟨ZBP,ZBQ,trivial⟩
abbrev ZDw:SP:=⟨⟨[.ag 5,Wz,.ag 5,.d zm7 [],zm6],[]⟩,zm8,λx=>ZGr x.1 x.2.1 x.2.2⟩
theorem ZKU:KT 28 ZDw:=kV [(49,[UX]),(50,[ZFV])] [] zm2 ⟨BI,ZMA,trivial⟩
abbrev ZFd:SP:=⟨⟨[.ag 19,.d Yj [],ZR,ZR,ZR],[]⟩,zm8,λx=>ZJg x.1 x.2.1 x.2.2.1 x.2.2.2⟩
theorem ZMJ:KT 10 ZFd:=kV [(12,[Jx]),(15,[WK]),(16,[Jw]),(25,[GQ]),(26,[XW]),(27,[WL]),(28,[ZDw])] [] ⟨[(56,zm0 64),(68301,⟨[⟨.ret,[8,9],[(17,0,5)],⟨[.d zm7 [],.c (.nils),ZR],[]⟩,[]⟩,⟨.norm,[],[(17,0,5)],⟨[.d zm7 []],[]⟩,[]⟩],[(17,0,5)],[]⟩)],[],[],[],[],[]⟩ ⟨Dy,GE,Dx,ZBU,QJ,GF,ZKU,trivial⟩
abbrev ZBm:SP:=⟨ZGh,UK,λ_=>law20_alive⟩
theorem ZIh:KT 4 ZBm:=kV [(9,[ZFZ]),(8,[ZCv]),(7,[ZAR]),(10,[ZFd])] [21] zm2 ⟨ZME,ZHn,ZFE,ZMJ,trivial⟩
abbrev ZBj:SP:=⟨ZNH,UK,λx=>Jd x⟩
theorem ZIe:KT 29 ZBj:=kV [] [] ⟨[(4,zm0 27),(20,zm0 36),(36,zm0 55)],[(5,⟨⟨.norm,[3,4],[],ZIR,[]⟩,[zm71],[],[],[]⟩),(9,⟨⟨.norm,[3,5],[],ZIR,[]⟩,[⟨(.exit 2),[3],[],X8,[]⟩],[],[],[]⟩)],[],[],[],[]⟩ trivial
abbrev ZBi:SP:=⟨⟨[.ag 5,Wz],[]⟩,UK,λx=>Jc x⟩
theorem ZId:KT 11 ZBi:=kV [(29,[ZBj])] [] zm2 ⟨ZIe,trivial⟩
abbrev ZBh:SP:=⟨ZQI,UK,λx=>Jb x⟩
theorem ZIc:KT 5 ZBh:=kV [(11,[ZBi])] [] ⟨[(8,zm0 33)],[(5,⟨⟨.norm,[3,4],[],ZPT,[]⟩,[zm71],[],[],[]⟩),(9,⟨⟨.norm,[3,5],[],ZPT,[]⟩,[⟨(.exit 2),[3],[],X8,[]⟩],[],[],[]⟩),(13,⟨⟨.norm,[3,6],[],ZPT,[]⟩,[⟨(.exit 4),[3],[],X8,[]⟩],[],[],[]⟩),(17,⟨⟨.norm,[3,7],[],ZPT,[]⟩,[⟨(.exit 6),[3],[],X8,[]⟩],[],[],[]⟩)],[],[],[],[]⟩ ⟨ZId,trivial⟩
abbrev ZFe:SP:=⟨zm89,⟨[.ag 13,.d Yr [(12,0,31)],ZR],[.row]⟩,λx=>ZAv x.1 x.2⟩
theorem ZMK:KT 6 ZFe:=kV [(12,[Jx]),(13,[X5])] [] zm2 ⟨Dy,VO,trivial⟩
abbrev ZCt:SP:=⟨⟨[.ag 19,.d Yj [],ZR,ZR,ZR,zm6,Zt,ZR],[]⟩,UK,λx=>law20_DataFrozen x.1 x.2.1 x.2.2.1 x.2.2.2.1 x.2.2.2.2.1 x.2.2.2.2.2.1 x.2.2.2.2.2.2⟩
theorem ZCW:KT 3 ZCt:=kV [(4,[ZBm]),(5,[ZBh]),(6,[ZFe]),(7,[ZAR]),(8,[ZCv])] [] ⟨[(8,zm0 34),(28,zm0 91),(40,zm0 14),(48,zm0 14),(52,zm0 22)],[],[],[],[],[]⟩ ⟨ZIh,ZIc,ZMK,ZFE,ZHn,trivial⟩
end
end Go.Proofs.YtfpffkecbhkbkaaGreatDoor
