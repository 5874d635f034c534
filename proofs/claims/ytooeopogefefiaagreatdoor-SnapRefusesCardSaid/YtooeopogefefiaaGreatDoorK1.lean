import Derived.Test.YtooeopogefefiaaGreatDoorK0
/- what is proved here: contracts by value. -/
set_option linter.unusedVariables false
namespace Go.Proofs.YtooeopogefefiaaGreatDoor
open Go Go.Ow Go.Pv Go.Proofs
set_option maxRecDepth 20000
noncomputable section
abbrev ZJh:SP:=⟨ZGs,ZM4,λ_=>Uk⟩
theorem ZPj:KT 104 ZJh:=kG0 ZUw
abbrev ZAw:SP:=⟨ZJp,zm3,λx=>QM x.1 x.2⟩
theorem ZHn:KT 153 ZAw:=kG0 ZNm
abbrev ZFm:SP:=⟨ZGs,zm3,λ_=>ZI5⟩
theorem ZLz:KT 105 ZFm:=kV [(153,[ZAw])] [] zm2 ⟨ZHn,trivial⟩
abbrev ZFl:SP:=⟨ZGs,⟨[.ag 5,ZM5],[.row]⟩,λ_=>Vq⟩
theorem ZLy:KT 45 ZFl:=kV [(104,[ZJh]),(105,[ZFm])] [] zm2 ⟨ZPj,ZLz,trivial⟩
abbrev ZJf:SP:=⟨ZGs,⟨[.ag 19,.d Yu [(2,0,5),(13,1,26),(14,2,26)]],[.row,.row,.row]⟩,λ_=>ZGW⟩
theorem ZPh:KT 20 ZJf:=kV [(45,[ZFl])] [] ⟨[],[],[],[(1,[4])],[],[]⟩ ⟨ZLy,trivial⟩ (λx=>SQ (b:=ZEX) (by kernel_rfl) (ZNL))
abbrev Jz:SP:=⟨QY,UH,λx=>XT x⟩
theorem ZAL:KT 145 Jz:=kV [] [] zm2 trivial
abbrev K6:SP:=⟨ZM4,QY,λx=>Kv x⟩
theorem Wi:KT 97 K6:=kV [(145,[Jz])] [] ⟨[(4,zm0 3)],[(3,⟨⟨.norm,[3,21],[],⟨[Vm,.n],[]⟩,[]⟩,[⟨(.exit 0),[3],[],UH,[]⟩],[],[],[]⟩),(8,⟨⟨.norm,[3,35],[],⟨[Vm,.n],[]⟩,[]⟩,[⟨(.exit 2),[3],[],UH,[]⟩],[],[],[]⟩)],[],[],[],[]⟩ ⟨ZAL,trivial⟩ (λx=>SQ (b:=Wm x) (by kernel_rfl) (ZD2 x))
abbrev Jx:SP:=⟨JM,⟨[Zv],[]⟩,λx=>KS x⟩
theorem ZDp:KT 148 Jx:=kV [] [] ⟨[],[(5,⟨⟨.norm,[3,4],[],⟨[Zv,.n],[]⟩,[]⟩,[⟨(.exit 0),[3],[],⟨[Zv],[]⟩,[]⟩],[],[],[]⟩)],[],[],[],[]⟩ trivial
abbrev J4:SP:=⟨⟨[zm6,Zv],[]⟩,QY,λx=>DW x.1 x.2⟩
theorem ZDw:KT 210 J4:=kV [] [] zm2 trivial
abbrev GW:SP:=⟨ZPG,UH,λx=>ZAx x.1 x.2⟩
theorem ZB0:KT 126 GW:=kV [] [] zm2 trivial
abbrev GV:SP:=⟨ZPG,QY,λx=>J5 x.1 x.2⟩
theorem ZBz:KT 184 GV:=kV [(210,[J4]),(126,[GW])] [] zm2 ⟨ZDw,ZB0,trivial⟩
abbrev GX:SP:=⟨ZPG,QY,λx=>Wv x.1 x.2⟩
theorem ZB1:KT 149 GX:=kV [(184,[GV])] [] ⟨[],[(6,⟨⟨.norm,[0,5],[],ZJp,[]⟩,[⟨.ret,[4],[],QY,[]⟩],[],[],[]⟩)],[],[],[],[]⟩ ⟨ZBz,trivial⟩
abbrev KM:SP:=⟨JM,QY,λx=>Qi x⟩
theorem WH:KT 102 KM:=kV [(148,[Jx]),(149,[GX])] [] ⟨[(4,zm0 17)],[],[],[],[],[]⟩ ⟨ZDp,ZB1,trivial⟩
abbrev Y4:SP:=⟨⟨[.ag 5,WQ],[]⟩,QY,λx=>Y3 x⟩
theorem Xk:KT 60 Y4:=kV [(97,[K6]),(102,[KM])] [] ⟨[(4,zm0 27)],[],[],[],[],[]⟩ ⟨Wi,WH,trivial⟩
abbrev Z8:SP:=⟨ZQA,QY,λx=>YF x⟩
theorem YH:KT 61 Z8:=kV [] [] ⟨[(12,zm0 23)],[],[],[],[],[]⟩ trivial
abbrev DU:SP:=⟨QY,UH,λx=>KL x⟩
theorem ZGL:KT 157 DU:=kV [] [] zm2 trivial
abbrev Xg:SP:=⟨ZIX,QY,λx=>Zd x.1 x.2⟩
theorem Qd:KT 114 Xg:=kV [(157,[DU])] [] zm2 ⟨ZGL,trivial⟩
abbrev B0:SP:=⟨⟨[.ag 5,.d zm7 [],.ag 5,.d zm7 []],[]⟩,QY,λx=>Ki x.1 x.2⟩
theorem UP:KT 163 B0:=kV [(114,[Xg])] [] zm2 ⟨Qd,trivial⟩
abbrev UV:SP:=⟨ZP9,QY,λx=>Kj x⟩
theorem Bf:KT 123 UV:=kV [(61,[Z8]),(163,[B0])] [] zm82 ⟨YH,UP,trivial⟩
abbrev Bs:SP:=⟨zm91,QY,λx=>XA x.1 x.2⟩
theorem ZDl:KT 129 Bs:=kV [(114,[Xg])] [] zm2 ⟨Qd,trivial⟩
abbrev Yn:SP:=⟨⟨[.d ZBY [],ZQ,.c (.fn 129)],[]⟩,⟨[ZQ,Vm],[]⟩,λx=>Z4 x.1 x.2⟩
theorem Qs:KT 128 Yn:=kV [(129,[Bs])] [] zm22 ⟨ZDl,trivial⟩
abbrev ZDF:SP:=⟨⟨[.d ZBY [],ZQ],[]⟩,⟨[.oel Yv],[]⟩,λx=>Gc x.1 x.2⟩
theorem ZHd:KT 64 ZDF:=kV [(128,[Yn])] [] zm2 ⟨Qs,trivial⟩
abbrev ZJe:SP:=⟨⟨[.d ZBY [],.ag 13,.d Yv []],[]⟩,UH,λx=>ZGV x.1 x.2⟩
theorem ZPg:KT 124 ZJe:=kV [(64,[ZDF])] [] ⟨[(8,zm0 15),(24,zm0 41)],[],[],[],[],[]⟩ ⟨ZHd,trivial⟩
abbrev ZAh:SP:=⟨⟨[.d ZBY []],[]⟩,UH,λx=>UI x⟩
theorem ZHc:KT 62 ZAh:=kV [(61,[Z8]),(123,[UV]),(124,[ZJe])] [] ⟨[(24,zm0 49),(48,zm0 87)],[(4,⟨ZPI 12,[⟨.ret,[2],[],zm83,[]⟩,ZQG],[],[],[]⟩),(10,⟨ZPI 53,[⟨.ret,[2],[],zm83,[]⟩,⟨(.exit 2),[],[],ZGs,[]⟩],[],[],[]⟩)],[],[],[],[]⟩ ⟨YH,Bf,ZPg,trivial⟩
abbrev DN:SP:=⟨⟨[zm6,.ptr 0 0],[.cells 1 [ZQ]]⟩,ZQC,λx=>V9 x.1 x.2⟩
theorem ZGF:KT 125 DN:=kV [(126,[GW])] [] zm2 ⟨ZB0,trivial⟩
abbrev U6:SP:=⟨zm97,zm94,λx=>Vt x.1 x.2⟩
theorem ZCt:KT 47 U6:=kV [(125,[DN])] [] zm12 ⟨ZGF,trivial⟩
abbrev Vk:SP:=⟨zm97,ZQC,λx=>Q8 x.1 x.2⟩
theorem Dc:KT 127 Vk:=kV [(47,[U6])] [] zm2 ⟨ZCt,trivial⟩
abbrev ZB8:SP:=⟨⟨[ZCW,ZQ],[]⟩,UH,λx=>WT x.1 x.2⟩
theorem ZIc:KT 63 ZB8:=kV [(127,[Vk])] [] zm2 ⟨Dc,trivial⟩
abbrev DP:SP:=⟨⟨[.ag 12,.d Q7 []],[]⟩,UH,λx=>WD x⟩
theorem ZGG:KT 65 DP:=kV [(61,[Z8])] [] ⟨[(8,zm0 4),(12,zm0 23),(24,zm0 5),(28,zm0 2)],[],[],[],[],[]⟩ ⟨YH,trivial⟩
abbrev B5:SP:=⟨⟨[ZJn],[]⟩,QY,λx=>Bo x⟩
theorem ZDv:KT 113 B5:=kV [] [] ⟨[],[(3,⟨ZPI 8,[⟨.ret,[2],[],QY,[]⟩,ZQG],[],[],[]⟩)],[],[],[],[]⟩ trivial
abbrev ZFj:SP:=⟨⟨[.ag 12,.d Q7 [],.ag 12,.d Q7 []],[]⟩,QY,λx=>ZA5 x.1 x.2⟩
theorem ZLw:KT 66 ZFj:=kV [(114,[Xg]),(113,[B5])] [] zm2 ⟨Qd,ZDv,trivial⟩
abbrev ZCB:SP:=⟨⟨[.ag 13,.d Yv [],.ptr 0 0],[.cells 19 [.d Yu []]]⟩,⟨[Vm],[.cells 19 [.d Yu []]]⟩,λx=>Dm x.1 x.2⟩
theorem ZIf:KT 68 ZCB:=kV [] [] zm2 trivial
abbrev Qe:SP:=⟨zm87,⟨[ZQ],[.cells 19 [.d Yu []]]⟩,λx=>XN x.1 x.2⟩
theorem UO:KT 15 Qe:=kV [(68,[ZCB])] [] ⟨[],[(2,⟨⟨.norm,[8],[(1,0,19)],⟨[.d Yu [],ZQ],[]⟩,[]⟩,[⟨.ret,[4],[(1,0,19)],⟨[.d Yu [],ZQ],[]⟩,[]⟩,⟨(.exit 0),[],[(1,0,19)],⟨[.d Yu []],[]⟩,[]⟩],[(1,0,19)],[],[]⟩)],[],[],[],[]⟩ ⟨ZIf,trivial⟩
abbrev X2:SP:=⟨zm87,⟨[Vm],[.cells 19 [.d Yu []]]⟩,λx=>Ys x.1 x.2⟩
theorem Vy:KT 67 X2:=kV [(15,[Qe])] [] zm2 ⟨UO,trivial⟩
abbrev Ju:SP:=⟨ZQB,QY,λx=>Vo x⟩
theorem ZAI:KT 34 Ju:=kV [(60,[Y4]),(61,[Z8]),(62,[ZAh]),(63,[ZB8]),(64,[ZDF]),(65,[DP]),(66,[ZFj]),(67,[X2])] [] ⟨[(4,zm0 32),(24,zm0 69),(36,zm0 106),(60,zm0 148)],[(4,⟨ZPI 36,[zm53,ZQG],[],[],[]⟩),(12,⟨ZPI 110,[zm53,⟨(.exit 2),[],[],ZGs,[]⟩],[],[],[]⟩)],[],[],[],[]⟩ ⟨Xk,YH,ZHc,ZIc,ZHd,ZGG,ZLw,Vy,trivial⟩
abbrev Bz:SP:=⟨ZM4,ZM4,λx=>twinF x⟩
theorem ZC0:KT 117 Bz:=kG0 (gv_Twin.of ZLB)
abbrev Xl:SP:=⟨JM,zm3,λx=>Zs x⟩
theorem QV:KT 30 Xl:=kV [] [] zm2 trivial (λx=>SQ (b:=ZCU x) (by kernel_rfl) (ZHG x))
abbrev Bu:SP:=⟨⟨[.ag 5,WQ],[]⟩,⟨[.ag 5,ZM5],[.row]⟩,λx=>Uf x⟩
theorem ZDm:KT 69 Bu:=kV [(117,[Bz]),(30,[Xl])] [] ⟨[],[],[],[(1,[7])],[],[]⟩ ⟨ZC0,QV,trivial⟩
abbrev U8:SP:=⟨⟨[ZJn],[]⟩,zm98,λx=>Qx x⟩
theorem ZCv:KT 70 U8:=kV [] [] zm2 trivial (λx=>SQ (b:=Ug x) (by kernel_rfl) (ZBg x))
abbrev Kz:SP:=⟨⟨[.d ZBY []],[]⟩,⟨[.d ZBY [(0,0,41)]],[.row]⟩,λx=>XL x⟩
theorem G1:KT 71 Kz:=kV [] [] zm2 trivial (λx=>SQ (b:=Kq x) (by kernel_rfl) (GF x))
abbrev XP:SP:=⟨⟨[ZBZ],[]⟩,⟨[.d ZF0 [(0,0,57)]],[.row]⟩,λx=>Zi x⟩
theorem Q5:KT 39 XP:=kV [] [] zm2 trivial (λx=>SQ (b:=Q4 x) (by kernel_rfl) (Un x))
abbrev QH:SP:=⟨ZP9,ZM3,λx=>YE x⟩
theorem VS:KT 14 QH:=kV [] [] zm2 trivial (λx=>SQ (b:=VI x) (by kernel_rfl) (Gr x))
abbrev ZAn:SP:=⟨ZJo,⟨[.d (.sl KX) [(0,0,26)]],[.row]⟩,λx=>VJ x⟩
theorem ZHg:KT 72 ZAn:=kV [] [] zm2 trivial (λx=>SQ (b:=Du x) (by kernel_rfl) (ZF6 x))
abbrev V4:SP:=⟨ZQB,⟨[.ag 19,.d Yu [(2,0,5),(11,1,3),(12,2,41),(13,3,26),(14,4,26),(15,5,57)]],[.row,.row,.row,.row,.row,.row]⟩,λx=>KC x⟩
theorem Us:KT 36 V4:=kV [(69,[Bu]),(70,[U8]),(71,[Kz]),(39,[XP]),(14,[QH]),(30,[Xl]),(72,[ZAn])] [75] ⟨[],[(4,⟨⟨.norm,[28],[(1,0,19)],⟨[zm9,.rr 100,zm4,zm4,zm4,.d zm7 [],.rr 101,.d ZBY [(0,102,41)],ZCW,ZCW,.rr 103,ZQ,ZQ,zm4,ZQ],[]⟩,[(1,some 2),(15,none),(18,none),(21,none)]⟩,[⟨(.exit 0),[],[(1,0,19)],⟨[zm9,.rr 100,zm4,zm4,zm4,.d zm7 [],.rr 101,.d ZBY [(0,102,41)],ZCW,ZCW,.rr 103,ZQ,ZQ,zm4],[]⟩,[(1,some 2),(15,none),(18,none),(21,none)]⟩],[(1,0,19)],[(18,none)],[]⟩),(9,⟨⟨.norm,[47],[(1,0,19)],⟨[zm9,.rr 100,zm4,zm4,zm4,.d zm7 [],.rr 101,.rr 102,ZCW,ZCW,.d ZF0 [(0,103,57)],ZQ,ZQ,zm4,ZQ],[]⟩,[(1,some 2),(15,none),(18,none),(21,none)]⟩,[⟨(.exit 2),[],[(1,0,19)],⟨[zm9,.rr 100,zm4,zm4,zm4,.d zm7 [],.rr 101,.rr 102,ZCW,ZCW,.d ZF0 [(0,103,57)],ZQ,ZQ,zm4],[]⟩,[(1,some 2),(15,none),(18,none),(21,none)]⟩],[(1,0,19)],[(21,none)],[]⟩),(18,⟨⟨.norm,[6,81,83],[(1,0,19),(79,0,1)],⟨[zm9,.rr 100,zm4,zm4,zm4,.d zm7 [],.rr 101,.rr 102,.d (.sl KX) [(0,103,26)],.rr 104,.rr 105,ZQ,ZQ,zm4,.rr 103,.rr 103,.rr 103,ZQ],[]⟩,[(1,some 2),(15,none),(18,none),(65,none),(68,none),(21,none)]⟩,[⟨(.exit 6),[],[(1,0,19),(79,0,1)],⟨[zm9,.rr 100,zm4,zm4,zm4,.d zm7 [],.rr 101,.rr 102,.d (.sl KX) [(0,103,26)],.rr 104,.rr 105,ZQ,ZQ,zm4,.rr 103],[]⟩,[(1,some 2),(15,none),(18,none),(65,none),(68,none),(21,none)]⟩],[(1,0,19),(79,0,1)],[(65,none)],[((6,none),(65,none))]⟩),(18,⟨⟨.norm,[6,81,83],[(1,0,19),(79,0,1)],⟨[zm9,.rr 100,zm4,zm4,zm4,.d zm7 [],.rr 101,.rr 102,.rr 103,.d (.sl KX) [(0,104,26)],.rr 105,ZQ,ZQ,zm4,.rr 104,.rr 104,.rr 104,ZQ],[]⟩,[(1,some 2),(15,none),(18,none),(65,none),(68,none),(21,none)]⟩,[⟨(.exit 6),[],[(1,0,19),(79,0,1)],⟨[zm9,.rr 100,zm4,zm4,zm4,.d zm7 [],.rr 101,.rr 102,.rr 103,.d (.sl KX) [(0,104,26)],.rr 105,ZQ,ZQ,zm4,.rr 104],[]⟩,[(1,some 2),(15,none),(18,none),(65,none),(68,none),(21,none)]⟩],[(1,0,19),(79,0,1)],[(68,none)],[((6,none),(68,none))]⟩)],[(15,3)],[(2,[10]),(6,[12]),(11,[12]),(13,[7])],[],[]⟩ ⟨ZDm,ZCv,G1,Q5,VS,QV,ZHg,trivial⟩
abbrev GO:SP:=⟨⟨[.ag 12,.d Q7 [],.ptr 0 0],[.cells 1 [.rel Yv 1 0,.bor Yv 1 41],.row]⟩,⟨[Vm,.bor Yv 1 41],[.cells 1 [.rel Yv 1 0],.row]⟩,λx=>Qh x.1 x.2.1 x.2.2⟩
theorem ZBr:KT 40 GO:=kV [] [] zm2 trivial
abbrev Xe:SP:=⟨zm59,⟨[ZQ,.bor Q7 0 57,.bor Yv 2 41],[.row,.cells 1 [.rel Yv 2 0],.row]⟩,λx=>Zh x.1 x.2.1 x.2.2⟩
theorem VP:KT 74 Xe:=kV [(40,[GO])] [] ⟨[],[(2,⟨⟨.norm,[8],[(1,0,1)],⟨[.rel Yv 100 0,ZQ,.bor Yv 100 41],[]⟩,[(1,some 0)]⟩,[⟨.ret,[4],[(1,0,1)],⟨[.rel Yv 100 0,ZQ,.bor Yv 100 41],[]⟩,[(1,some 0)]⟩,⟨(.exit 0),[],[(1,0,1)],⟨[.rel Yv 100 0,.bor Yv 100 41],[]⟩,[(1,some 0)]⟩],[(1,0,1)],[(1,some 0)],[]⟩)],[],[],[],[]⟩ ⟨ZBr,trivial⟩
abbrev X1:SP:=⟨zm59,⟨[ZBZ,.bor Yv 2 41],[.row,.cells 1 [.rel Yv 2 0],.row]⟩,λx=>ZL x.1 x.2.1 x.2.2⟩
theorem Vx:KT 38 X1:=kV [(74,[Xe]),(40,[GO])] [38] ⟨[(36117,⟨[⟨.norm,[0,5],[],⟨[.d ZF0 [(0,100,57)],ZQ],[]⟩,[(0,none)]⟩],[],[(0,none)]⟩)],[(5,⟨⟨.norm,[0,5,6],[(1,0,1)],⟨[.rel Yv 100 0,.d ZF0 [(0,101,57)],ZQ,ZQ,.bor Yv 100 41],[]⟩,[(1,some 0),(0,none)]⟩,[⟨(.exit 0),[0,5],[(1,0,1)],⟨[.rel Yv 100 0,.d ZF0 [(0,101,57)],ZQ,.bor Yv 100 41],[]⟩,[(1,some 0),(0,none)]⟩],[(1,0,1)],[(0,none),(1,some 0)],[]⟩)],[],[],[0],[]⟩ ⟨VP,ZBr,trivial⟩
abbrev ZDI:SP:=⟨⟨[.ag 2,zm9,.c (.fn 96)],[]⟩,ZM4,λx=>leftF x⟩
theorem ZHk:KT 95 ZDI:=kG0 (gv_left.of ZLp)
abbrev ZEM:SP:=⟨zm89,zm86,λx=>ZDC x⟩
theorem ZKV:KT 160 ZEM:=kV [(95,[ZDI])] [] zm2 ⟨ZHk,trivial⟩
abbrev ZCK:SP:=⟨⟨[.ag 2,zm9,Vm,.clo 160 0 1,.ptr 0 0],[.cells 2 [zm9]]⟩,zm80,λx=>X6 x.1 x.2.1 x.2.2⟩
theorem ZIo:KT 93 ZCK:=kV [(97,[K6]),(160,[ZEM])] [] zm2 ⟨Wi,ZKV,trivial⟩
abbrev ZIE:SP:=⟨zm84,ZJp,λx=>ZAW x.1 x.2⟩
theorem ZNZ:KT 119 ZIE:=kV [(145,[Jz]),(93,[ZCK])] [] ⟨[(4,⟨[⟨.norm,[6,7],[(2,0,2)],⟨[zm9,.ptr 0 0,ZQ],[.cells 2 [zm9]]⟩,[]⟩],[(2,0,2)],[]⟩)],[],[],[(1,[4])],[],[]⟩ ⟨ZAL,ZIo,trivial⟩ (λx=>SQ (b:=ZDB x.1 x.2) (by kernel_rfl) (ZLf x.1 x.2))
abbrev Z6:SP:=⟨JM,zm3,λx=>Za x⟩
theorem Yw:KT 89 Z6:=kV [] [] zm2 trivial (λx=>SQ (b:=UD x) (by kernel_rfl) (D9 x))
abbrev U9:SP:=⟨JM,⟨[.cl .w8],[]⟩,λx=>YY x⟩
theorem ZCw:KT 191 U9:=kV [] [] zm2 trivial
abbrev Xo:SP:=⟨ZJp,⟨[.clo 141 0 2,.ptr 0 0,.ptr 1 0],[.cells 1 [zm6],.cells 1 [ZQ]]⟩,λx=>Zm x.1 x.2⟩
theorem KA:KT 87 Xo:=kV [] [] zm2 trivial
abbrev B3:SP:=⟨QY,UH,λx=>U1 x⟩
theorem ZDu:KT 155 B3:=kV [] [] zm2 trivial
abbrev Va:SP:=⟨JM,⟨[.clo 226 0 1,.ptr 0 0],[.cells 1 [zm6]]⟩,λx=>Ql x⟩
theorem Be:KT 217 Va:=kV [] [] zm2 trivial
abbrev B4:SP:=⟨⟨[zm6,ZQ,ZQ],[]⟩,ZIX,λx=>Qu x.1 x.2.1 x.2.2⟩
theorem ZC1:KT 190 B4:=kR [(155,[B3]),(217,[Va])] [] ⟨[(12000045,zm0 11),(8000045,zm0 11)],[(10,⟨⟨.norm,[],[(8,0,1)],QY,[]⟩,[],[(8,0,1)],[],[]⟩)],[],[],[],[]⟩ ⟨ZDu,Be,trivial⟩
abbrev By:SP:=⟨JM,ZPE,λx=>Up x⟩
theorem ZDs:KT 192 By:=kV [(190,[B4])] [] zm2 ⟨ZC1,trivial⟩
abbrev KN:SP:=⟨⟨[zm4,ZQ],[]⟩,ZPE,λx=>Y1 x.1 x.2⟩
theorem GG:KT 228 KN:=kV [] [] zm2 trivial
abbrev Wu:SP:=⟨⟨[ZQ,ZQ,.ptr 0 0],[.cells 4 [zm4,zm4,zm4,zm4]]⟩,⟨[],[.cells 4 [zm4,zm4,zm4,zm4]]⟩,λx=>XD x.1 x.2.1 x.2.2.1 x.2.2.2.1 x.2.2.2.2.1 x.2.2.2.2.2⟩
theorem ZAK:KT 227 Wu:=kV [(228,[KN])] [] zm2 ⟨GG,trivial⟩
abbrev JE:SP:=⟨zm71,zm71,λx=>Q0 x.1 x.2.1 x.2.2.1 x.2.2.2⟩
theorem ZCz:KT 218 JE:=kV [(227,[Wu])] [] zm2 ⟨ZAK,trivial⟩
abbrev Vb:SP:=⟨⟨[.ag 4,zm4,zm4,zm4,zm4,ZQ],[]⟩,zm71,λx=>Yt x.1 x.2.1 x.2.2.1 x.2.2.2.1 x.2.2.2.2⟩
theorem Jl:KT 193 Vb:=kV [(218,[JE])] [] ⟨[],[(2,⟨⟨.norm,[6],[(2,0,4)],⟨[zm4,zm4,zm4,zm4,ZQ],[]⟩,[]⟩,[⟨(.exit 0),[],[(2,0,4)],⟨[zm4,zm4,zm4,zm4],[]⟩,[]⟩],[(2,0,4)],[],[]⟩)],[],[],[],[]⟩ ⟨ZCz,trivial⟩
abbrev ZDH:SP:=⟨JM,zm71,λx=>Uq x⟩
theorem ZHj:KT 161 ZDH:=kR [(89,[Z6]),(191,[U9]),(87,[Xo]),(192,[By]),(193,[Vb])] [] zm30 ⟨Yw,ZCw,KA,ZDs,Jl,trivial⟩
abbrev ZBS:SP:=⟨JM,ZPE,λx=>BW x⟩
theorem ZEt:KT 120 ZBS:=kV [(161,[ZDH])] [] zm2 ⟨ZHj,trivial⟩
abbrev UT:SP:=⟨zm60,ZJp,λx=>Vr x.1 x.2⟩
theorem Ba:KT 58 UT:=kV [(60,[Y4]),(61,[Z8]),(119,[ZIE]),(120,[ZBS])] [] ⟨[(4,zm0 15),(24,zm0 35),(28141,⟨[⟨.norm,[6,7],[],ZJp,[]⟩],[],[]⟩)],[],[],[],[],[]⟩ ⟨Xk,YH,ZNZ,ZEt,trivial⟩
abbrev ZAo:SP:=⟨ZGs,⟨[.ag 5,.c (.i 1),.c (.i 3),.c (.i 4),.c (.i 4),.c (.i 4)],[]⟩,λ_=>ZBD⟩
theorem ZFQ:KT 140 ZAo:=kV [] [] zm2 trivial
abbrev ZDG:SP:=⟨JM,⟨[.ag 5,.d zm7 [],ZQ],[]⟩,λx=>D6 x⟩
theorem ZHh:KT 164 ZDG:=kV [(140,[ZAo]),(190,[B4]),(61,[Z8])] [] ⟨[],[],[(6,6)],[],[],[]⟩ ⟨ZFQ,ZC1,YH,trivial⟩
abbrev ZIC:SP:=⟨JM,zm90,λx=>D5 x⟩
theorem ZNX:KT 130 ZIC:=kR [(87,[Xo]),(164,[ZDG])] [] zm35 ⟨KA,ZHh,trivial⟩
abbrev Bw:SP:=⟨zm60,zm90,λx=>Dw x.1 x.2⟩
theorem ZCy:KT 73 Bw:=kV [(60,[Y4]),(61,[Z8]),(58,[UT]),(130,[ZIC])] [] ⟨[(4,zm0 16)],[],[],[],[],[]⟩ ⟨Xk,YH,Ba,ZNX,trivial⟩
abbrev Wr:SP:=⟨⟨[.ag 12,.d Q7 [],.ptr 0 0],[.cells 1 [ZQ]]⟩,ZQC,λx=>Kb x.1 x.2⟩
theorem ZAH:KT 75 Wr:=kV [] [] zm2 trivial
abbrev YL:SP:=⟨⟨[ZBZ,.clo 75 0 1,.ptr 0 0],[.cells 1 [ZQ]]⟩,zm94,λx=>Zz x.1 x.2⟩
theorem XY:KT 74 YL:=kV [(75,[Wr])] [] zm12 ⟨ZAH,trivial⟩
abbrev QI:SP:=⟨zm8,⟨[.clo 141 0 2,.ptr 1 0,.ptr 2 0],[.row,.cells 1 [zm6],.cells 1 [ZQ]]⟩,λx=>Qj x.1 x.2⟩
theorem VT:KT 87 QI:=kV [] [] ⟨[],[],[],[],[0],[]⟩ trivial
abbrev ZCG:SP:=⟨zm3,⟨[.d K9 [(0,1,31)],ZQ],[.row,.row]⟩,λx=>D4 x⟩
theorem ZIk:KT 130 ZCG:=kR [(87,[QI]),(164,[ZDG])] [] zm35 ⟨VT,ZHh,trivial⟩
abbrev GS:SP:=⟨⟨[ZQ,ZQ,ZQ],[]⟩,UH,λx=>XW x.1 x.2.1 x.2.2⟩
theorem ZBw:KT 198 GS:=kV [] [] zm2 trivial
abbrev GR:SP:=⟨ZQA,UH,λx=>WZ x⟩
theorem ZBv:KT 199 GR:=kV [(61,[Z8])] [] zm2 ⟨YH,trivial⟩
abbrev Qw:SP:=⟨⟨[ZIY,.c (.fn 199)],[.row]⟩,zm72,λx=>Xj x⟩
theorem Ut:KT 134 Qw:=kV [(199,[GR])] [] zm18 ⟨ZBv,trivial⟩
abbrev X9:SP:=⟨⟨[ZIY,.c (.fn 199)],[.row]⟩,⟨[Vm,.bor zm7 0 31],[.row]⟩,λx=>Y0 x⟩
theorem Wg:KT 78 X9:=kV [(134,[Qw])] [] zm2 ⟨Ut,trivial⟩
abbrev ZFq:SP:=⟨⟨[.ag 4,.d ZDM [(3,0,31)]],[.row]⟩,zm72,λx=>Gt x⟩
theorem ZL3:KT 166 ZFq:=kV [(198,[GS]),(78,[X9])] [] ⟨[(12,⟨[⟨.norm,[36],[(1,0,4)],⟨[.d ZDM [(3,100,31)],Vm],[]⟩,[(1,some 3)]⟩],[(1,0,4)],[(1,some 3)]⟩)],[],[],[],[],[]⟩ ⟨ZBw,Wg,trivial⟩
end
end Go.Proofs.YtooeopogefefiaaGreatDoor
