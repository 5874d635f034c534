import Derived.Test.YtfpffkecbhkbkaaGreatDoorK2
/- what is proved here: contracts by value. -/
set_option linter.unusedVariables false
namespace Go.Proofs.YtfpffkecbhkbkaaGreatDoor
open Go Go.Ow Go.Pv Go.Proofs
set_option maxRecDepth 20000
noncomputable section
abbrev ZKd:Pv.Sp:=⟨[.d Kv [],.ptr 0 0,.ptr 1 0,.ptr 2 0,.ptr 3 0,.ptr 4 0],[.cells 5 [Wz],.cells 1 [zm4],.cells 5 [.d zm7 []],.cells 1 [ZR],.cells 1 [.d (.sl .i) [(0,5,3)]],.row]⟩
abbrev ZKL:Pv.Sp:=⟨[],[.cells 5 [.d (.st .Store) [(2,6,5)]],.cells 1 [zm4],.cells 5 [.d zm7 []],.cells 1 [ZR],.cells 1 [.d (.sl .i) [(0,7,3)]],.row,.row,.row]⟩
abbrev ZD2:SP:=⟨ZKd,ZKL,λx=>ZCm x.1 x.2.1 x.2.2.1 x.2.2.2.1 x.2.2.2.2.1 x.2.2.2.2.2⟩
theorem ZKa:KT 152 ZD2:=kV [(110,[G0]),(151,[Jq])] [] ⟨[],[],[],[],[],[5]⟩ ⟨ZAq,Dt,trivial⟩
abbrev ZIA:SP:=⟨⟨[.ag 5,Wz,zm4,.d Kv []],[]⟩,⟨[.ag 5,ZNI,.ag 5,.d zm7 [],.d (.sl .i) [(0,1,3)],ZR],[.row,.row]⟩,λx=>D7 x.1 x.2.1 x.2.2⟩
theorem ZNr:KT 112 ZIA:=kR [(51,[Yq]),(94,[UZ]),(61,[BX]),(153,[VY]),(152,[ZD2])] [] ⟨[(4,zm0 20),(12,zm0 28),(52,zm33),(68,zm33)],[(11,⟨⟨.norm,[],[(3,0,5),(4,0,1),(6,0,5),(7,0,5),(8,0,1),(9,0,1),(11,0,1)],⟨[Wz,zm4,.d (.st .Store) [(0,0,26),(1,1,105),(2,2,5)],.d zm7 [],.d (.sl .i) [(0,3,3)],ZR,.d Kv [(0,4,31)]],[.row,.row,.row,.row,.row]⟩,[]⟩,[⟨.ret,[],[(3,0,5),(4,0,1),(6,0,5),(7,0,5),(8,0,1),(9,0,1),(11,0,1)],⟨[ZNI,zm4,.d (.st .Store) [(0,1,26),(1,2,105),(2,3,5)],.d zm7 [],.c (.nils),ZR,.d Kv [(0,4,31)]],[.row,.row,.row,.row,.row]⟩,[]⟩],[(3,0,5),(4,0,1),(6,0,5),(7,0,5),(8,0,1),(9,0,1),(11,0,1)],[],[]⟩)],[],[(13,[3]),(17,[3]),(18,[3])],[],[]⟩ ⟨XV,BN,ZDW,BL,ZKa,trivial⟩ (λx=>SS (b:=ZCk x.1 x.2.1 x.2.2) (by kernel_rfl) (ZLp x.1 x.2.1 x.2.2))
abbrev ZFO:SP:=⟨ZGh,zm95,λ_=>ZAb⟩
theorem ZL3:KT 154 ZFO:=kV [] [] zm2 trivial
abbrev ZEr:SP:=⟨⟨[ZJs,ZJs],[]⟩,zm3,λx=>ZC3 x.1 x.2⟩
theorem ZJS:KT 120 ZEr:=kV [(82,[Y2])] [] ⟨[],[(2,⟨⟨.norm,[4,11],[],⟨[.d KQ [(0,0,5)],.n],[.row]⟩,[]⟩,[⟨(.exit 0),[4],[],zm3,[]⟩],[],[],[]⟩)],[],[],[],[]⟩ ⟨Yz,trivial⟩
abbrev BW:SP:=⟨zm8,⟨[.d KQ [(0,1,5)]],[.row,.row]⟩,λx=>Yt x.1 x.2⟩
theorem ZCO:KT 117 BW:=kV [] [] zm2 trivial
abbrev c_txg_lineBytes:SP:=⟨⟨[.ag 13,.d Yr [],.ag 5,.d zm7 []],[]⟩,zm3,λx=>V8 x.1 x.2⟩
theorem ZEF (q:Ptr→Option (List UInt8×Int))(a:Option (List Int))(b:(List Int)→(List Int)→Option (List UInt8))(c:(List (List UInt8))→Option (List UInt8))(e:(List UInt8)→Int→Option (List UInt8))(x:VH (hyS c_txg_lineBytes.i)):fnV (mkX Tryz.prog TY NT [] [(115,[⟨ZQH,zm8,λx=>q x⟩]),(154,[⟨ZGh,zm95,λ_=>a⟩]),(120,[⟨⟨[ZJs,ZJs],[]⟩,zm3,λx=>b x.1 x.2⟩]),(134,[⟨ZJt,zm3,λx=>c x⟩]),(117,[⟨zm8,⟨[.d KQ [(0,1,5)]],[.row,.row]⟩,λx=>e x.1 x.2⟩])] []) zm85 113 c_txg_lineBytes.i c_txg_lineBytes.o x=QQ q a b c e x.1 x.2:=by kernel_rfl
theorem ZF1:KT 113 c_txg_lineBytes:=kV [(115,[Wv]),(154,[ZFO]),(120,[ZEr]),(134,[YH]),(117,[BW])] [] zm85 ⟨Wi,ZL3,ZJS,YF,ZCO,trivial⟩ (λx=>SS (b:=W6 x.1 x.2) (ZEF Vt ZAb ZC3 Zc Yt x) (ZEQ x.1 x.2))
abbrev ZDi:Pv.Sp:=⟨[zm6,.ptr 0 0,.ptr 1 0,.ptr 2 0],[.cells 1 [.ptr 3 0],.cells 1 [.d (.sl .i) [(0,4,3)]],.cells 1 [.d KQ [(0,5,5)]],.cells 21 [.d zm5 [(11,6,3),(12,7,41),(13,8,26),(14,9,26)]],.row,.row,.row,.row,.row,.row]⟩
abbrev ZDO:Pv.Sp:=⟨[],[.cells 1 [.ptr 3 0],.cells 1 [.d (.sl .i) [(0,10,3)]],.cells 1 [.d KQ [(0,11,5)]],.cells 21 [.d zm5 [(11,6,3),(12,7,41),(13,8,26),(14,9,26)]],.row,.row,.row,.row,.row,.row,.row,.row]⟩
abbrev Jn:SP:=⟨ZDi,ZDO,λx=>KI x.1 x.2.1 x.2.2.1 x.2.2.2⟩
theorem ZDT:KT 114 Jn:=kV [(111,[Qo]),(115,[Wv])] [] zm35 ⟨VJ,Wi,trivial⟩ (λx=>SS (b:=Kz x.1 x.2.1 x.2.2.1 x.2.2.2) (by kernel_rfl) (Ut x.1 x.2.1 x.2.2.1 x.2.2.2))
abbrev Jo:SP:=⟨⟨[.ptr 0 0,zm6],[.cells 21 [.d zm5 [(11,1,3),(12,2,41),(14,3,26)]],.row,.row,.row]⟩,⟨[.ag 5,.d zm7 []],[.cells 21 [.d zm5 [(11,1,3),(12,2,41),(14,3,26)]],.row,.row,.row]⟩,λx=>ZFk x.1 x.2⟩
theorem ZDU:KT 111 Jo:=kV [(151,[Jq])] [] ⟨[],[],[],[(2,[20])],[],[]⟩ ⟨Dt,trivial⟩
abbrev Dz:Pv.Sp:=⟨[zm6,.ptr 0 0,.ptr 1 0,.ptr 2 0],[.cells 1 [.ptr 3 0],.cells 1 [.d (.sl .i) [(0,4,3)]],.cells 1 [.d KQ [(0,5,5)]],.cells 21 [.d zm5 [(11,6,3),(12,7,41),(14,8,26)]],.row,.row,.row,.row,.row]⟩
abbrev Di:Pv.Sp:=⟨[],[.cells 1 [.ptr 3 0],.cells 1 [.d (.sl .i) [(0,9,3)]],.cells 1 [.d KQ [(0,10,5)]],.cells 21 [.d zm5 [(11,6,3),(12,7,41),(14,8,26)]],.row,.row,.row,.row,.row,.row,.row]⟩
abbrev Wr:SP:=⟨Dz,Di,λx=>Xw x.1 x.2.1 x.2.2.1 x.2.2.2⟩
theorem Do:KT 114 Wr:=kV [(111,[Jo]),(115,[Wv])] [] zm35 ⟨ZDU,Wi,trivial⟩ (λx=>SS (b:=WP x.1 x.2.1 x.2.2.1 x.2.2.2) (by kernel_rfl) (DC x.1 x.2.1 x.2.2.1 x.2.2.2))
abbrev B1:SP:=⟨ZJt,zm3,λx=>ZBF x⟩
theorem ZF2:KT 119 B1:=kV [(117,[BW])] [] ⟨[],[(2,⟨⟨.norm,[2,7],[],⟨[.d KQ [(0,0,5)],.n],[.row]⟩,[]⟩,[⟨(.exit 0),[2],[],zm3,[]⟩],[],[],[]⟩)],[],[],[],[]⟩ ⟨ZCO,trivial⟩
abbrev Jr:SP:=⟨zm95,⟨[.bor .i 0 3],[.row]⟩,λx=>ZJ5 x⟩
theorem ZDY:KT 121 Jr:=kG0 ZTB
abbrev Bx:SP:=⟨⟨[.ptr 0 0],[.cells 21 [.d zm5 [(11,1,3),(12,2,41),(13,3,26),(14,4,26)]],.row,.row,.row,.row]⟩,⟨[],[.cells 21 [.d zm5 [(11,5,3),(12,2,41),(14,4,26)]],.row,.row,.row,.row,.row]⟩,λx=>Q5 x⟩
theorem ZFx:KT 75 Bx:=kR [(70,[UY]),(112,[ZIA]),(113,[c_txg_lineBytes]),(117,[BW]),(116,[XY]),(118,[Z7]),(114,[Jn,Wr]),(119,[B1]),(120,[ZEr]),(121,[Jr])] [] ⟨[(60,⟨[⟨.norm,[9],[(0,0,21),(8,0,5)],⟨[ZNI,zm4,.d zm7 [],.rr 100,.rr 101,.rr 102,.rr 103,ZA4,ZR,ZR,zm4,zm4,ZR,.d zm7 [],.d (.sl .i) [(0,1,3)]],[.row,.row]⟩,[(18,none),(53,none),(0,some 13),(0,some 14)]⟩],[(0,0,21),(8,0,5)],[]⟩),(60253,⟨[⟨.norm,[9],[(0,0,21),(8,0,5)],⟨[Wz,zm4,.d zm7 [],.rr 100,.rr 101,.rr 102,.rr 103,ZA4,ZR,ZR,zm4,zm4,ZR,.d zm7 [],ZQK],[.row]⟩,[(18,none),(53,none),(0,some 13),(0,some 14)]⟩],[(0,0,21),(8,0,5)],[]⟩),(100,⟨[zm27],[(0,0,21),(1,0,1),(4,0,1),(10,0,1)],[(18,none),(53,none),(0,some 13),(0,some 14),(4,some 0),(111,none)]⟩),(104,⟨[⟨.norm,[13],[],zm3,[]⟩],[],[]⟩),(108,⟨[zm27],[(0,0,21),(1,0,1),(4,0,1),(10,0,1)],[(18,none),(53,none),(0,some 14),(4,some 0),(10,some 0),(13,none)]⟩)],[(2,⟨⟨.norm,[20],[(0,0,21)],⟨[Wz,zm4,.d zm7 [],.rr 100,.rr 101,.rr 102,.rr 103,ZA4,ZR,ZR,zm4,zm4,ZR,ZR],[]⟩,[(18,none),(0,some 12),(0,some 13),(0,some 14)]⟩,[⟨.ret,[],[(0,0,21)],zm36,[(18,none),(0,some 12),(0,some 13),(0,some 14)]⟩,⟨(.exit 0),[],[(0,0,21)],zm36,[(18,none),(0,some 12),(0,some 13),(0,some 14)]⟩],[(0,0,21)],[],[]⟩),(10,⟨⟨.norm,[5,55],[(0,0,21),(4,0,1)],⟨[Wz,zm4,.d zm7 [],.rr 100,.rr 101,.rr 102,.rr 103,ZA4,ZR,ZR,zm4,zm4,ZR,ZQK,.d KQ [(0,1,5)],ZR],[.row,.row]⟩,[(18,none),(53,none),(0,some 13),(0,some 14)]⟩,[⟨(.exit 2),[5],[(0,0,21),(4,0,1)],⟨[Wz,zm4,.d zm7 [],.rr 100,.rr 101,.rr 102,.rr 103,ZA4,ZR,ZR,zm4,zm4,ZR,ZQK,.d KQ [(0,1,5)]],[.row,.row]⟩,[(18,none),(53,none),(0,some 13),(0,some 14)]⟩],[(0,0,21),(4,0,1)],[],[]⟩),(23,⟨⟨.norm,[],[(0,0,21),(1,0,1),(4,0,1),(10,0,1)],⟨[.d zm5 [(11,100,3),(12,101,41),(13,102,26),(14,103,26)],.ptr 104 0,ZQK,.d KQ [(0,1,5)]],[.row,.row]⟩,[(18,none),(53,none),(0,some 13),(0,some 14),(0,none)]⟩,[],[(0,0,21),(1,0,1),(4,0,1),(10,0,1)],[(18,none),(53,none),(0,some 13),(0,some 14),(4,some 0)],[]⟩)],[],[(5,[17]),(15,[22]),(23,[4]),(25,[6]),(27,[2])],[3],[1]⟩ ⟨BJ,ZNr,ZF1,ZCO,Q4,Ym,ZDT,Do,ZF2,ZJS,ZDY,trivial⟩ (λx=>SS (b:=W3 x) (by kernel_rfl) (ZEP x))
abbrev ZFQ:SP:=⟨ZQI,zm41,λx=>ZAd x⟩
theorem ZL5:KT 41 ZFQ:=kV [(30,[Jp]),(34,[V4]),(64,[Y9]),(73,[Xk]),(72,[U6,Vg]),(75,[Bx])] [] ⟨[(8,zm0 18),(12073,⟨[⟨.norm,[],[(2,0,21)],⟨[.d zm5 [(0,0,26),(1,1,105),(2,2,5),(11,3,3),(12,4,41),(13,5,26),(14,6,26),(15,7,55)]],[.row,.row,.row,.row,.row,.row,.row,.row]⟩,[]⟩],[(2,0,21)],[]⟩),(24,⟨[⟨.norm,[],[(2,0,21)],⟨[.d zm5 [(2,0,5),(11,1,3),(12,2,41),(13,3,26),(14,4,26),(15,5,55)]],[.row,.row,.row,.row,.row,.row]⟩,[]⟩],[(2,0,21)],[]⟩)],[(8,⟨⟨.norm,[45],[(2,0,21)],⟨[.d zm5 [(11,100,3),(12,101,41),(13,102,26),(14,103,26)],ZR],[]⟩,[(2,some 11),(43,none),(2,some 13),(2,some 14)]⟩,[⟨(.exit 0),[],[(2,0,21)],zm82,[(2,some 11),(43,none),(2,some 13),(2,some 14)]⟩],[(2,0,21)],[(2,some 2),(2,some 11),(43,none),(2,some 13),(2,some 14),(2,some 15)],[]⟩)],[],[(6,[9]),(11,[9])],[],[]⟩ ⟨Dr,U0,Qz,Vw,ZCN,DD,ZFx,trivial⟩ (λx=>SS (b:=DM x) (by kernel_rfl) (ZKF x))
abbrev ZBq:SP:=⟨zm86,zm83,λx=>ZMl x⟩
theorem ZIl:KT 123 ZBq:=kV [(124,[ZCu])] [] zm2 ⟨ZHk,trivial⟩
abbrev G1:SP:=⟨⟨[.ag 2,zm9,Vk,.clo 123 0 1,.ptr 0 0],[.cells 2 [zm9]]⟩,zm77,λx=>D3 x.1 x.2.1 x.2.2⟩
theorem ZEd:KT 122 G1:=kV [(92,[Kn]),(123,[ZBq])] [] zm2 ⟨Wj,ZIl,trivial⟩
abbrev ZAO:SP:=⟨ZNH,zm81,λx=>ZEn x⟩
theorem ZFD:KT 76 ZAO:=kV [(122,[G1])] [] zm2 ⟨ZEd,trivial⟩
abbrev ZFa:SP:=⟨⟨[.ag 7,.d (.st .Label) []],[]⟩,UK,λx=>ZJQ x⟩
theorem ZMF:KT 126 ZFa:=kV [(52,[Z9])] [] zm2 ⟨YG,trivial⟩
abbrev ZD0:SP:=⟨ZPS,X8,λx=>ZHX x⟩
theorem ZKY:KT 128 ZD0:=kV [] [] zm2 trivial
abbrev VX:SP:=⟨zm3,⟨[.d KQ [(0,1,5)],.bor .w8 0 5],[.row,.row]⟩,λx=>Qc x⟩
theorem BK:KT 118 VX:=kV [] [] zm2 trivial (λx=>SS (b:=K8 x) (by kernel_rfl) (Gg x))
abbrev Vj:SP:=⟨zm3,⟨[.cl .w8],[.row]⟩,λx=>UG x⟩
theorem DG:KT 170 Vj:=kV [] [] zm2 trivial
abbrev ZBl:SP:=⟨zm3,⟨[.ag 4,zm4,zm4,zm4,zm4,.bor .w8 0 5],[.row]⟩,λx=>ZE7 x⟩
theorem ZIg:KT 141 ZBl:=kR [(118,[VX]),(170,[Vj]),(116,[X6]),(171,[Bb]),(172,[Va])] [32] zm29 ⟨BK,DG,VP,ZDc,Jk,trivial⟩
abbrev ZDz:SP:=⟨zm3,⟨[zm4,.bor .w8 0 5],[.row]⟩,λx=>ZHN x⟩
theorem ZKX:KT 89 ZDz:=kV [(141,[ZBl])] [] zm2 ⟨ZIg,trivial⟩
abbrev ZBn:SP:=⟨⟨[.ag 7,.d (.st .Label) []],[]⟩,zm3,λx=>ZE9 x⟩
theorem ZIi:KT 129 ZBn:=kV [(82,[Y2]),(115,[Wv]),(89,[ZDz])] [] zm2 ⟨Yz,Wi,ZKX,trivial⟩
abbrev ZFb:SP:=⟨⟨[.ag 2,zm9,.ag 7,.d (.st .Label) []],[]⟩,zm81,λx=>ZJR x.1 x.2⟩
theorem ZMG:KT 77 ZFb:=kV [(92,[Kn]),(126,[ZFa]),(128,[ZD0]),(129,[ZBn]),(127,[ZAN])] [] ⟨[],[],[],[(6,[9])],[],[]⟩ ⟨Wj,ZMF,ZKY,ZIi,ZFC,trivial⟩
abbrev Gz:SP:=⟨zm41,⟨[],[.cells 21 [.d zm5 [(11,1,3),(12,2,41),(14,3,26)]],.row,.row,.row]⟩,λx=>DL x⟩
theorem ZEb:KT 42 Gz:=kV [(76,[ZAO]),(77,[ZFb])] [] ⟨[(4025,zm21)],[],[],[(3,[32])],[],[]⟩ ⟨ZFD,ZMG,trivial⟩
abbrev B6:SP:=⟨⟨[zm6,zm6,zm6,ZR],[]⟩,JP,λx=>ZBy x.1 x.2.1 x.2.2.1 x.2.2.2⟩
theorem ZF8:KT 162 B6:=kV [(144,[GT]),(176,[GR])] [61,71,83,104,114,123] ⟨[(12073,ZQJ 9),(24,zm0 32),(28129,ZQJ 3),(76048189,⟨[⟨.norm,[10,11,12],[],⟨[.d KQ [(0,100,5)],ZR,ZR],[]⟩,[(44,none)]⟩],[],[(44,none)]⟩)],[(13,⟨⟨.norm,[10,11,12,49],[],⟨[.d KQ [(0,100,5)],ZR,ZR,ZR],[]⟩,[(44,none)]⟩,[⟨(.exit 0),[10,11,12],[],⟨[.d KQ [(0,100,5)],ZR,ZR],[]⟩,[(44,none)]⟩],[],[(44,none)],[]⟩),(21,⟨⟨.norm,[11,12,89],[],⟨[ZR,.n,.n],[]⟩,[]⟩,[⟨(.exit 2),[11,12],[],ZPT,[]⟩],[],[],[]⟩)],[],[(15,[8]),(28,[7])],[],[]⟩ ⟨ZBX,ZBV,trivial⟩
abbrev JH:SP:=⟨⟨[zm6,zm6,zm6],[]⟩,JP,λx=>G5 x.1 x.2.1 x.2.2⟩
theorem ZCZ:KT 130 JH:=kV [(162,[B6])] [] zm2 ⟨ZF8,trivial⟩
abbrev ZAJ:SP:=⟨JP,ZJu,λx=>ZC8 x⟩
theorem ZHf:KT 78 ZAJ:=kV [(93,[KD]),(130,[JH])] [] zm2 ⟨WE,ZCZ,trivial⟩
abbrev By:SP:=⟨zm41,⟨[],[.cells 21 [.d zm5 [(11,1,3),(12,2,41),(14,3,26),(15,4,55)]],.row,.row,.row,.row]⟩,λx=>ZBE x⟩
theorem ZFy:KT 43 By:=kV [(76,[ZAO]),(78,[ZAJ])] [] ⟨[(4025,zm21),(12117,zm21)],[],[],[],[],[]⟩ ⟨ZFD,ZHf,trivial⟩
abbrev ZCq:SP:=⟨ZQI,⟨[.ag 19,.d Yj [(11,0,3),(12,1,41),(14,2,26),(15,3,55)],ZR],[.row,.row,.row,.row]⟩,λx=>DN x⟩
theorem ZHd:KT 22 ZCq:=kV [(41,[ZFQ]),(42,[Gz]),(43,[By])] [] ⟨[(20,⟨[⟨.norm,[3],[(2,0,19)],⟨[.d Yj [(0,0,26),(1,1,105),(2,2,5),(11,3,3),(12,4,41),(13,5,26),(14,6,26),(15,7,55)],ZR],[.row,.row,.row,.row,.row,.row,.row,.row]⟩,[]⟩],[(2,0,19)],[]⟩)],[],[],[(5,[5])],[],[]⟩ ⟨ZL5,ZEb,ZFy,trivial⟩ (λx=>SS (b:=ZB7 x) (by kernel_rfl) (ZLm x))
abbrev c_wrap_Stretch:SP:=⟨⟨[.d .s [],zm4],[]⟩,zm8,λx=>ZC1 x.1 x.2⟩
theorem ZFl (q:Int→Int→Option (List UInt8×Int))(a:(List UInt8)→Option (List UInt8))(b:(List (List UInt8))→Option (List UInt8))(x:VH (hyS c_wrap_Stretch.i)):fnV (mkX Tryz.prog TY NT [] [(82,[⟨ZIR,zm8,λx=>q x.1 x.2⟩]),(133,[⟨JP,zm3,λx=>a x⟩]),(134,[⟨ZJt,zm3,λx=>b x⟩])] []) zm53 81 c_wrap_Stretch.i c_wrap_Stretch.o x=DK q a b x.1 x.2:=by kernel_rfl
theorem ZHa:KT 81 c_wrap_Stretch:=kV [(82,[Y2]),(133,[ZAz]),(134,[YH])] [] zm53 ⟨Yz,ZAr,YF,trivial⟩ (λx=>ZFl Zz ZAo Zc x)
abbrev ZLr:Pv.Sp:=zm62
abbrev ZFM:SP:=⟨JP,ZLr,λx=>ZEB x⟩
theorem ZL1:KT 84 ZFM:=kV [(118,[Z7]),(133,[ZAz])] [] zm2 ⟨Ym,ZAr,trivial⟩
abbrev ZF9:Pv.Sp:=⟨[.ag 16,Zt,Zt,Zt,Zt,Zt,Zt,Zt,Zt,Zt,Zt,Zt,Zt,Zt,Zt,Zt,Zt,.ag 16,Zt,Zt,Zt,Zt,Zt,Zt,Zt,Zt,Zt,Zt,Zt,Zt,Zt,Zt,Zt,Zt],[]⟩
abbrev ZFr:Pv.Sp:=zm62
abbrev Bv:SP:=⟨ZF9,ZFr,λx=>ZBD x.1 x.2.1 x.2.2.1 x.2.2.2.1 x.2.2.2.2.1 x.2.2.2.2.2.1 x.2.2.2.2.2.2.1 x.2.2.2.2.2.2.2.1 x.2.2.2.2.2.2.2.2.1 x.2.2.2.2.2.2.2.2.2.1 x.2.2.2.2.2.2.2.2.2.2.1 x.2.2.2.2.2.2.2.2.2.2.2.1 x.2.2.2.2.2.2.2.2.2.2.2.2.1 x.2.2.2.2.2.2.2.2.2.2.2.2.2.1 x.2.2.2.2.2.2.2.2.2.2.2.2.2.2.1 x.2.2.2.2.2.2.2.2.2.2.2.2.2.2.2.1 x.2.2.2.2.2.2.2.2.2.2.2.2.2.2.2.2.1 x.2.2.2.2.2.2.2.2.2.2.2.2.2.2.2.2.2.1 x.2.2.2.2.2.2.2.2.2.2.2.2.2.2.2.2.2.2.1 x.2.2.2.2.2.2.2.2.2.2.2.2.2.2.2.2.2.2.2.1 x.2.2.2.2.2.2.2.2.2.2.2.2.2.2.2.2.2.2.2.2.1 x.2.2.2.2.2.2.2.2.2.2.2.2.2.2.2.2.2.2.2.2.2.1 x.2.2.2.2.2.2.2.2.2.2.2.2.2.2.2.2.2.2.2.2.2.2.1 x.2.2.2.2.2.2.2.2.2.2.2.2.2.2.2.2.2.2.2.2.2.2.2.1 x.2.2.2.2.2.2.2.2.2.2.2.2.2.2.2.2.2.2.2.2.2.2.2.2.1 x.2.2.2.2.2.2.2.2.2.2.2.2.2.2.2.2.2.2.2.2.2.2.2.2.2.1 x.2.2.2.2.2.2.2.2.2.2.2.2.2.2.2.2.2.2.2.2.2.2.2.2.2.2.1 x.2.2.2.2.2.2.2.2.2.2.2.2.2.2.2.2.2.2.2.2.2.2.2.2.2.2.2.1 x.2.2.2.2.2.2.2.2.2.2.2.2.2.2.2.2.2.2.2.2.2.2.2.2.2.2.2.2.1 x.2.2.2.2.2.2.2.2.2.2.2.2.2.2.2.2.2.2.2.2.2.2.2.2.2.2.2.2.2.1 x.2.2.2.2.2.2.2.2.2.2.2.2.2.2.2.2.2.2.2.2.2.2.2.2.2.2.2.2.2.2.1 x.2.2.2.2.2.2.2.2.2.2.2.2.2.2.2.2.2.2.2.2.2.2.2.2.2.2.2.2.2.2.2⟩
theorem ZFv:KT 83 Bv:=kV [] [] ⟨[],[],[(2,17)],[(4,[8])],[],[]⟩ trivial
abbrev ZBd:SP:=⟨ZPU,zm3,λx=>ZEx x.1 x.2⟩
theorem ZIY:KT 85 ZBd:=kV [(136,[c_mac_Tag]),(82,[Y2]),(118,[Z7])] [] zm2 ⟨ZJT,Yz,Ym,trivial⟩
abbrev ZFN:SP:=⟨⟨[.d .s [],zm6,zm4],[]⟩,zm8,λx=>ZAa x.1 x.2.1 x.2.2⟩
theorem ZL2:KT 45 ZFN:=kV [(81,[c_wrap_Stretch]),(82,[Y2]),(84,[ZFM]),(83,[Bv]),(85,[ZBd])] [] ⟨[(28,⟨[⟨.norm,[8,12],[],⟨[zm6,.ptr 0 0],[.cells 16 [Zt,Zt,Zt,Zt,Zt,Zt,Zt,Zt,Zt,Zt,Zt,Zt,Zt,Zt,Zt,Zt]]⟩,[]⟩],[],[(17,none)]⟩)],[],[],[],[],[]⟩ ⟨ZHa,Yz,ZL1,ZFv,ZIY,trivial⟩ (λx=>SS (b:=DI x.1 x.2.1 x.2.2) (by kernel_rfl) (ZKE x.1 x.2.1 x.2.2))
abbrev B4:SP:=⟨JP,UK,λx=>ZBa x⟩
theorem ZF4:KT 47 B4:=kV [] [] zm2 trivial
abbrev Vh:SP:=⟨⟨[ZB1,.c (.fn 47)],[]⟩,X8,λx=>UE x⟩
theorem DE:KT 46 Vh:=kV [(47,[B4])] [] zm16 ⟨ZF4,trivial⟩
abbrev ZBw:SP:=⟨⟨[.ag 19,.d Yj [],.d .s [],zm6],[]⟩,⟨[.ag 19,.d Yj [(11,0,3),(12,1,41),(14,2,26),(15,3,55)],ZR,ZR],[.row,.row,.row,.row]⟩,λx=>Wp x.1 x.2.1 x.2.2⟩
theorem ZIr:KT 24 ZBw:=kV [(30,[Jp]),(45,[ZFN]),(46,[Vh]),(34,[V4]),(26,[XW]),(22,[ZCq])] [] ⟨[(36,zm0 50),(48,⟨[⟨.norm,[],[(3,0,19)],⟨[zm9,.rr 100,zm4,zm4,zm4,.d zm7 [],.rr 101,.rr 102,.d (.sl KQ) [(0,103,26)],.d (.sl KQ) [(0,104,26)],.rr 105,ZR,ZR,zm4],[]⟩,[(3,some 2),(3,some 11),(3,some 12),(3,some 13),(3,some 14),(3,some 15)]⟩],[(3,0,19)],[(24,none),(3,some 13),(3,some 14)]⟩)],[],[],[(12,[10])],[],[]⟩ ⟨Dr,ZL2,DE,U0,QJ,ZHd,trivial⟩ (λx=>SS (b:=GI x.1 x.2.1 x.2.2) (by kernel_rfl) (ZG7 x.1 x.2.1 x.2.2))
abbrev ZFZ:SP:=⟨ZGh,⟨[.ag 19,.d Yj [(11,0,3),(12,1,41),(14,2,26),(15,3,55)],Vk],[.row,.row,.row,.row]⟩,λ_=>law20_one⟩
theorem ZME:KT 9 ZFZ:=kV [(23,[ZJl]),(22,[ZCq]),(24,[ZBw])] [] ⟨[(8,⟨[⟨.norm,[4,5,6],[(2,0,19)],⟨[.d Yj [],.ptr 0 0,ZR,ZR],[.cells 19 [.d Yj [(11,1,3),(12,2,41),(14,3,26),(15,4,55)]],.row,.row,.row,.row]⟩,[]⟩],[(2,0,19)],[(2,some 11),(2,some 12),(2,some 14),(2,some 15)]⟩)],[],[],[(2,[2])],[],[]⟩ ⟨ZPr,ZHd,ZIr,trivial⟩ (λx=>SS (b:=law20_one_o) (by kernel_rfl) (ZKH))
abbrev ZBu:SP:=⟨⟨[.ag 13,.d Yr [],.ptr 0 0],[.cells 1 [ZR]]⟩,zm73,λx=>ZAA x.1 x.2⟩
theorem ZIp:KT 32 ZBu:=kV [] [] zm2 trivial
abbrev Xj:SP:=⟨⟨[.d ZCz [],.clo 32 0 1,.ptr 0 0],[.cells 1 [ZR]]⟩,zm92,λx=>YB x.1 x.2⟩
theorem Vv:KT 31 Xj:=kV [(32,[ZBu])] [] zm20 ⟨ZIp,trivial⟩
abbrev Jx:SP:=⟨zm89,zm88,λx=>XE x.1 x.2⟩
theorem Dy:KT 12 Jx:=kV [(30,[Jp]),(31,[Xj])] [] zm2 ⟨Dr,Vv,trivial⟩
abbrev GP:SP:=⟨zm89,zm88,λx=>Wn x.1 x.2⟩
theorem ZBT:KT 14 GP:=kV [(12,[Jx])] [] ⟨[(8,zm0 18),(12073,ZQJ 5)],[],[],[],[],[]⟩ ⟨Dy,trivial⟩
abbrev JE:SP:=⟨⟨[ZJs,ZR],[]⟩,⟨[.clo 60 0 2,.ptr 0 0,.ptr 1 0],[.cells 1 [ZJs],.cells 1 [ZR]]⟩,λx=>Qs x.1 x.2⟩
theorem ZCT:KT 33 JE:=kV [] [] zm2 trivial
abbrev WK:SP:=⟨⟨[ZJs],[]⟩,UK,λx=>Xn x⟩
theorem GE:KT 15 WK:=kR [(33,[JE])] [] ⟨[(12,zm0 19)],[(3,⟨⟨.norm,[],[(2,0,1)],zm80,[]⟩,[⟨.ret,[],[(2,0,1)],zm80,[]⟩],[(2,0,1)],[],[]⟩)],[],[],[],[]⟩ ⟨ZCT,trivial⟩
abbrev Be:SP:=⟨⟨[.ag 12,.d Q1 [],.ag 3,ZPV],[]⟩,X8,λx=>X3 x.1 x.2⟩
theorem ZDd:KT 36 Be:=kV [(67,[XS]),(66,[Bi])] [] zm2 ⟨QU,ZDf,trivial⟩
abbrev Z8:SP:=⟨⟨[ZA4,.ag 3,ZPV,.c (.fn 36)],[]⟩,⟨[ZR,Vk],[]⟩,λx=>Za x.1 x.2⟩
theorem XN:KT 35 Z8:=kV [(36,[Be])] [] zm22 ⟨ZDd,trivial⟩
abbrev GQ:SP:=⟨⟨[.ag 19,.d Yj [],.ag 3,ZPV],[]⟩,⟨[.ag 12,.d Q1 [],Vk],[]⟩,λx=>Wo x.1 x.2⟩
theorem ZBU:KT 25 GQ:=kV [(35,[Z8])] [] zm2 ⟨XN,trivial⟩
abbrev WL:SP:=⟨zm63,zm49,λx=>Kh x.1 x.2.1 x.2.2⟩
theorem GF:KT 27 WL:=kV [(48,[Ba])] [] zm2 ⟨ZDb,trivial⟩
abbrev Jw:SP:=⟨zm63,⟨[.ag 12,.d Q1 [],ZR],[]⟩,λx=>Uh x.1 x.2.1 x.2.2⟩
theorem Dx:KT 16 Jw:=kV [(25,[GQ]),(27,[WL])] [] ⟨[(12085,⟨[⟨.ret,[7],[(6,0,12)],⟨[.d Q1 [(6,0,5)],ZR],[.row]⟩,[]⟩,⟨.norm,[],[(6,0,12)],⟨[.d Q1 []],[]⟩,[]⟩],[(6,0,12)],[]⟩)],[],[],[],[],[]⟩ ⟨ZBU,GF,trivial⟩
end
end Go.Proofs.YtfpffkecbhkbkaaGreatDoor
