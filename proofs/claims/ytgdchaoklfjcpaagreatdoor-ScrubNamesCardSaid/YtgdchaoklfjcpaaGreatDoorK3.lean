import Derived.Test.YtgdchaoklfjcpaaGreatDoorK2
/- Proved: contracts by value. -/
set_option linter.unusedVariables false
namespace Go.Proofs.YtgdchaoklfjcpaaGreatDoor
open Go Go.Ow Go.Pv Go.Proofs
set_option maxRecDepth 20000
noncomputable section
abbrev ZJ4:Pv.Sp:=⟨[.d Ke [],.ptr 0 0,.ptr 1 0,.ptr 2 0,.ptr 3 0,.ptr 4 0],[.cells 5 [V2],.cells 1 [zm4],.cells 5 [.d zm7 []],.cells 1 [ZX],.cells 1 [.d UI [(0,5,3)]],.row]⟩
abbrev ZJn:Pv.Sp:=⟨[],[.cells 5 [.d (.st .Store) [(2,6,5)]],.cells 1 [zm4],.cells 5 [.d zm7 []],.cells 1 [ZX],.cells 1 [.d UI [(0,7,3)]],.row,.row,.row]⟩
abbrev ZDh:SP:=⟨ZJ4,ZJn,λx=>ZCX x.1 x.2.1 x.2.2.1 x.2.2.2.1 x.2.2.2.2.1 x.2.2.2.2.2⟩
theorem ZJ2:KT 201 ZDh:=kV [(152,[Ga]),(200,[JU])] [] ⟨[],[],[],[],[],[5]⟩ ⟨ZAX,De,trivial⟩
abbrev ZHr:SP:=⟨⟨[.ag 5,V2,zm4,.d Ke []],[]⟩,⟨[.ag 5,ZMN,.ag 5,.d zm7 [],.d UI [(0,1,3)],ZX],[.row,.row]⟩,λx=>Dr x.1 x.2.1 x.2.2⟩
theorem ZMm:KT 155 ZHr:=kR [(21,[YA]),(119,[UC]),(108,[BF]),(202,[VE]),(201,[ZDh])] [] ⟨[(4,zm0 20),(12,zm0 28),(52,zm39),(68,zm39)],[(11,⟨⟨.norm,[],[(3,0,5),(4,0,1),(6,0,5),(7,0,5),(8,0,1),(9,0,1),(11,0,1)],⟨[V2,zm4,.d (.st .Store) [(0,0,27),(1,1,127),(2,2,5)],.d zm7 [],.d UI [(0,3,3)],ZX,.d Ke [(0,4,32)]],[.row,.row,.row,.row,.row]⟩,[]⟩,[⟨.ret,[],[(3,0,5),(4,0,1),(6,0,5),(7,0,5),(8,0,1),(9,0,1),(11,0,1)],⟨[ZMN,zm4,.d (.st .Store) [(0,1,27),(1,2,127),(2,3,5)],.d zm7 [],.c (.nils),ZX,.d Ke [(0,4,32)]],[.row,.row,.row,.row,.row]⟩,[]⟩],[(3,0,5),(4,0,1),(6,0,5),(7,0,5),(8,0,1),(9,0,1),(11,0,1)],[],[]⟩)],[],[(13,[3]),(17,[3]),(18,[3])],[],[]⟩ ⟨Yk,G5,ZDD,G1,ZJ2,trivial⟩ λx=>T8 (b:=ZCV x.1 x.2.1 x.2.2) (by kernel_rfl) (ZK9 x.1 x.2.1 x.2.2)
abbrev ZFG:SP:=⟨ZDq,zm74,λ_=>ZAO⟩
theorem ZLK:KT 203 ZFG:=kV [] [] zm2 trivial
abbrev ZEX:SP:=⟨⟨[.d UI [],.d UI []],[]⟩,zm3,λx=>ZCm x.1 x.2⟩
theorem ZI3:KT 161 ZEX:=kV [(104,[Yz])] [] ⟨[],[(2,⟨⟨.norm,[4,11],[],⟨[.d KJ [(0,0,5)],.n],[.row]⟩,[]⟩,[⟨(.exit 0),[4],[],zm3,[]⟩],[],[],[]⟩)],[],[],[],[]⟩ ⟨Yv,trivial⟩
abbrev BD:SP:=⟨zm8,⟨[.d KJ [(0,1,5)]],[.row,.row]⟩,λx=>Yq x.1 x.2⟩
theorem ZB9:KT 159 BD:=kV [] [] zm2 trivial
abbrev c_txg_lineBytes:SP:=⟨⟨[.ag 13,.d Ye [],.ag 5,.d zm7 []],[]⟩,zm3,λx=>Vs x.1 x.2⟩
theorem ZDv (q:Ptr->Option (List UInt8×Int))(a:Option (List Int))(b:(List Int)->(List Int)->Option (List UInt8))(c:(List<|List UInt8)->Option (List UInt8))(e:(List UInt8)->Int->Option (List UInt8))(x:VH (hyS c_txg_lineBytes.i)):fnV (mkX Tryz.prog TY NT [] [(158,[⟨ZOu,zm8,λx=>q x⟩]),(203,[⟨ZDq,zm74,λ_=>a⟩]),(161,[⟨⟨[.d UI [],.d UI []],[]⟩,zm3,λx=>b x.1 x.2⟩]),(171,[⟨ZJO,zm3,λx=>c x⟩]),(159,[⟨zm8,⟨[.d KJ [(0,1,5)]],[.row,.row]⟩,λx=>e x.1 x.2⟩])] []) zm91 156 c_txg_lineBytes.i c_txg_lineBytes.o x=QI q a b c e x.1 x.2:=by kernel_rfl
theorem ZFs:KT 156 c_txg_lineBytes:=kV [(158,[WX]),(203,[ZFG]),(161,[ZEX]),(171,[YH]),(159,[BD])] [] zm91 ⟨WN,ZLK,ZI3,YF,ZB9,trivial⟩ λx=>T8 (b:=Wi x.1 x.2) (ZDv Ve ZAO ZCm Zf Yq x) (ZD7 x.1 x.2)
abbrev ZDQ:Pv.Sp:=⟨[zm6,.ptr 0 0,.ptr 1 0,.ptr 2 0],[.cells 1 [.ptr 3 0],.cells 1 [.d UI [(0,4,3)]],.cells 1 [.d KJ [(0,5,5)]],.cells 21 [.d zm5 [(11,6,3),(12,7,47),(13,8,27),(14,9,27)]],.row,.row,.row,.row,.row,.row]⟩
abbrev ZC5:Pv.Sp:=⟨[],[.cells 1 [.ptr 3 0],.cells 1 [.d UI [(0,10,3)]],.cells 1 [.d KJ [(0,11,5)]],.cells 21 [.d zm5 [(11,6,3),(12,7,47),(13,8,27),(14,9,27)]],.row,.row,.row,.row,.row,.row,.row,.row]⟩
abbrev JR:SP:=⟨ZDQ,ZC5,λx=>KB x.1 x.2.1 x.2.2.1 x.2.2.2⟩
theorem ZDA:KT 157 JR:=kV [(153,[Qf]),(158,[WX])] [] zm41 ⟨Kw,WN,trivial⟩ λx=>T8 (b:=Kj x.1 x.2.1 x.2.2.1 x.2.2.2) (by kernel_rfl) (UZ x.1 x.2.1 x.2.2.1 x.2.2.2)
abbrev JT:SP:=⟨⟨[.ptr 0 0,zm6],[.cells 21 [.d zm5 [(11,1,3),(12,2,47),(14,3,27)]],.row,.row,.row]⟩,⟨[.ag 5,.d zm7 []],[.cells 21 [.d zm5 [(11,1,3),(12,2,47),(14,3,27)]],.row,.row,.row]⟩,λx=>ZFZ x.1 x.2⟩
theorem ZDB:KT 153 JT:=kV [(200,[JU])] [] ⟨[],[],[],[(2,[20])],[],[]⟩ ⟨De,trivial⟩
abbrev Dl:Pv.Sp:=⟨[zm6,.ptr 0 0,.ptr 1 0,.ptr 2 0],[.cells 1 [.ptr 3 0],.cells 1 [.d UI [(0,4,3)]],.cells 1 [.d KJ [(0,5,5)]],.cells 21 [.d zm5 [(11,6,3),(12,7,47),(14,8,27)]],.row,.row,.row,.row,.row]⟩
abbrev DW:Pv.Sp:=⟨[],[.cells 1 [.ptr 3 0],.cells 1 [.d UI [(0,9,3)]],.cells 1 [.d KJ [(0,10,5)]],.cells 21 [.d zm5 [(11,6,3),(12,7,47),(14,8,27)]],.row,.row,.row,.row,.row,.row,.row]⟩
abbrev WU:SP:=⟨Dl,DW,λx=>Xo x.1 x.2.1 x.2.2.1 x.2.2.2⟩
theorem Db:KT 157 WU:=kV [(153,[JT]),(158,[WX])] [] zm41 ⟨ZDB,WN,trivial⟩ λx=>T8 (b:=V3 x.1 x.2.1 x.2.2.1 x.2.2.2) (by kernel_rfl) (Bz x.1 x.2.1 x.2.2.1 x.2.2.2)
abbrev Bm:SP:=⟨ZJO,zm3,λx=>ZAx x⟩
theorem ZFt:KT 160 Bm:=kV [(159,[BD])] [] ⟨[],[(2,⟨⟨.norm,[2,7],[],⟨[.d KJ [(0,0,5)],.n],[.row]⟩,[]⟩,[⟨(.exit 0),[2],[],zm3,[]⟩],[],[],[]⟩)],[],[],[],[]⟩ ⟨ZB9,trivial⟩
abbrev JV:SP:=⟨zm74,⟨[.bor .i 0 3],[.row]⟩,λx=>ZJa x⟩
theorem ZDF:KT 79 JV:=kG0 ZRN
abbrev Bi:SP:=⟨⟨[.ptr 0 0],[.cells 21 [.d zm5 [(11,1,3),(12,2,47),(13,3,27),(14,4,27)]],.row,.row,.row,.row]⟩,⟨[],[.cells 21 [.d zm5 [(11,5,3),(12,2,47),(14,4,27)]],.row,.row,.row,.row,.row]⟩,λx=>Qy x⟩
theorem ZFp:KT 97 Bi:=kR [(154,[UA]),(155,[ZHr]),(156,[c_txg_lineBytes]),(159,[BD]),(74,[XR]),(90,[Z5]),(157,[JR,WU]),(160,[Bm]),(161,[ZEX]),(79,[JV])] [] ⟨[(60,⟨[⟨.norm,[9],[(0,0,21),(8,0,5)],⟨[ZMN,zm4,.d zm7 [],.rr 100,.rr 101,.rr 102,.rr 103,ZAh,ZX,ZX,zm4,zm4,ZX,.d zm7 [],.d UI [(0,1,3)]],[.row,.row]⟩,[(18,none),(53,none),(0,some 13),(0,some 14)]⟩],[(0,0,21),(8,0,5)],[]⟩),(60253,⟨[⟨.norm,[9],[(0,0,21),(8,0,5)],⟨[V2,zm4,.d zm7 [],.rr 100,.rr 101,.rr 102,.rr 103,ZAh,ZX,ZX,zm4,zm4,ZX,.d zm7 [],.d UI [(0,0,3)]],[.row]⟩,[(18,none),(53,none),(0,some 13),(0,some 14)]⟩],[(0,0,21),(8,0,5)],[]⟩),(100,⟨[zm29],[(0,0,21),(1,0,1),(4,0,1),(10,0,1)],[(18,none),(53,none),(0,some 13),(0,some 14),(4,some 0),(111,none)]⟩),(104,⟨[⟨.norm,[13],[],zm3,[]⟩],[],[]⟩),(108,⟨[zm29],[(0,0,21),(1,0,1),(4,0,1),(10,0,1)],[(18,none),(53,none),(0,some 14),(4,some 0),(10,some 0),(13,none)]⟩)],[(2,⟨⟨.norm,[20],[(0,0,21)],⟨[V2,zm4,.d zm7 [],.rr 100,.rr 101,.rr 102,.rr 103,ZAh,ZX,ZX,zm4,zm4,ZX,ZX],[]⟩,[(18,none),(0,some 12),(0,some 13),(0,some 14)]⟩,[⟨.ret,[],[(0,0,21)],zm42,[(18,none),(0,some 12),(0,some 13),(0,some 14)]⟩,⟨(.exit 0),[],[(0,0,21)],zm42,[(18,none),(0,some 12),(0,some 13),(0,some 14)]⟩],[(0,0,21)],[],[]⟩),(10,⟨⟨.norm,[5,55],[(0,0,21),(4,0,1)],⟨[V2,zm4,.d zm7 [],.rr 100,.rr 101,.rr 102,.rr 103,ZAh,ZX,ZX,zm4,zm4,ZX,.d UI [(0,0,3)],.d KJ [(0,1,5)],ZX],[.row,.row]⟩,[(18,none),(53,none),(0,some 13),(0,some 14)]⟩,[⟨(.exit 2),[5],[(0,0,21),(4,0,1)],⟨[V2,zm4,.d zm7 [],.rr 100,.rr 101,.rr 102,.rr 103,ZAh,ZX,ZX,zm4,zm4,ZX,.d UI [(0,0,3)],.d KJ [(0,1,5)]],[.row,.row]⟩,[(18,none),(53,none),(0,some 13),(0,some 14)]⟩],[(0,0,21),(4,0,1)],[],[]⟩),(23,⟨⟨.norm,[],[(0,0,21),(1,0,1),(4,0,1),(10,0,1)],⟨[.d zm5 [(11,100,3),(12,101,47),(13,102,27),(14,103,27)],.ptr 104 0,.d UI [(0,0,3)],.d KJ [(0,1,5)]],[.row,.row]⟩,[(18,none),(53,none),(0,some 13),(0,some 14),(0,none)]⟩,[],[(0,0,21),(1,0,1),(4,0,1),(10,0,1)],[(18,none),(53,none),(0,some 13),(0,some 14),(4,some 0)],[]⟩)],[],[(5,[17]),(15,[22]),(23,[4]),(25,[6]),(27,[2])],[3],[1]⟩ ⟨Gz,ZMm,ZFs,ZB9,Qx,Yh,ZDA,Db,ZFt,ZI3,ZDF,trivial⟩ λx=>T8 (b:=We x) (by kernel_rfl) (ZD6 x)
abbrev D1:SP:=⟨ZKf,zm45,λx=>ZAP x⟩
theorem ZEx:KT 46 D1:=kV [(29,[XK]),(53,[Vp]),(95,[Y5]),(94,[Xd]),(93,[Um,VO]),(97,[Bi])] [] ⟨[(8,zm0 18),(12073,⟨[⟨.norm,[],[(2,0,21)],⟨[.d zm5 [(0,0,27),(1,1,127),(2,2,5),(11,3,3),(12,4,47),(13,5,27),(14,6,27),(15,7,83)]],[.row,.row,.row,.row,.row,.row,.row,.row]⟩,[]⟩],[(2,0,21)],[]⟩),(24,⟨[⟨.norm,[],[(2,0,21)],⟨[.d zm5 [(2,0,5),(11,1,3),(12,2,47),(13,3,27),(14,4,27),(15,5,83)]],[.row,.row,.row,.row,.row,.row]⟩,[]⟩],[(2,0,21)],[]⟩)],[(8,⟨⟨.norm,[45],[(2,0,21)],⟨[.d zm5 [(11,100,3),(12,101,47),(13,102,27),(14,103,27)],ZX],[]⟩,[(2,some 11),(43,none),(2,some 13),(2,some 14)]⟩,[⟨(.exit 0),[],[(2,0,21)],zm88,[(2,some 11),(43,none),(2,some 13),(2,some 14)]⟩],[(2,0,21)],[(2,some 2),(2,some 11),(43,none),(2,some 13),(2,some 14),(2,some 15)],[]⟩)],[],[(6,[9]),(11,[9])],[],[]⟩ ⟨WJ,Uf,Qs,Vi,ZB8,B1,ZFp,trivial⟩ λx=>T8 (b:=DC x) (by kernel_rfl) (ZJi x)
abbrev ZBX:SP:=⟨zm92,zm89,λx=>ZLu x⟩
theorem ZIP:KT 162 ZBX:=kV [(129,[ZCf])] [] zm2 ⟨ZHP,trivial⟩
abbrev Gb:SP:=⟨⟨[.ag 2,zm9,VT,.clo 162 0 1,.ptr 0 0],[.cells 2 [zm9]]⟩,zm85,λx=>Do x.1 x.2.1 x.2.2⟩
theorem ZEJ:KT 25 Gb:=kV [(63,[KZ]),(162,[ZBX])] [] zm2 ⟨WO,ZIP,trivial⟩
abbrev ZAA:SP:=⟨ZOE,ZOF,λx=>ZER x⟩
theorem ZE2:KT 98 ZAA:=kV [(25,[Gb])] [] zm2 ⟨ZEJ,trivial⟩
abbrev ZFQ:SP:=⟨⟨[.ag 7,.d (.st .Label) []],[]⟩,U2,λx=>ZI1 x⟩
theorem ZLU:KT 163 ZFQ:=kV [(22,[Zq])] [] zm2 ⟨Z7,trivial⟩
abbrev ZDe:SP:=⟨ZOC,Qh,λx=>ZHB x⟩
theorem ZJz:KT 165 ZDe:=kV [] [] zm2 trivial
abbrev VD:SP:=⟨zm3,⟨[.d KJ [(0,1,5)],.bor .w8 0 5],[.row,.row]⟩,λx=>QU x⟩
theorem G0:KT 90 VD:=kV [] [] zm2 trivial λx=>T8 (b:=Kl x) (by kernel_rfl) (GK x)
abbrev VS:SP:=⟨zm3,⟨[.cl .w8],[.row]⟩,λx=>Wx x⟩
theorem B5:KT 89 VS:=kV [] [] zm2 trivial
abbrev ZBS:SP:=⟨zm3,⟨[.ag 4,zm4,zm4,zm4,zm4,.bor .w8 0 5],[.row]⟩,λx=>ZEt x⟩
theorem ZIK:KT 45 ZBS:=kR [(90,[VD]),(89,[VS]),(74,[Xz]),(91,[BI]),(92,[VG])] [32] zm31 ⟨G0,B5,K8,ZDI,JM,trivial⟩
abbrev ZDd:SP:=⟨zm3,⟨[zm4,.bor .w8 0 5],[.row]⟩,λx=>ZG0 x⟩
theorem ZJy:KT 14 ZDd:=kV [(45,[ZBS])] [] zm2 ⟨ZIK,trivial⟩
abbrev ZBU:SP:=⟨⟨[.ag 7,.d (.st .Label) []],[]⟩,zm3,λx=>ZEw x⟩
theorem ZIM:KT 166 ZBU:=kV [(104,[Yz]),(158,[WX]),(14,[ZDd])] [] zm2 ⟨Yv,WN,ZJy,trivial⟩
abbrev ZFR:SP:=⟨⟨[.ag 2,zm9,.ag 7,.d (.st .Label) []],[]⟩,ZOF,λx=>ZI2 x.1 x.2⟩
theorem ZLV:KT 99 ZFR:=kV [(63,[KZ]),(163,[ZFQ]),(165,[ZDe]),(166,[ZBU]),(164,[D9])] [] ⟨[],[],[],[(6,[9])],[],[]⟩ ⟨WO,ZLU,ZJz,ZIM,ZE1,trivial⟩
abbrev Vo:SP:=⟨zm45,⟨[],[.cells 21 [.d zm5 [(11,1,3),(12,2,47),(14,3,27)]],.row,.row,.row]⟩,λx=>DA x⟩
theorem GR:KT 47 Vo:=kV [(98,[ZAA]),(99,[ZFR])] [] ⟨[(4025,zm21)],[],[],[(3,[32])],[],[]⟩ ⟨ZE2,ZLV,trivial⟩
abbrev Br:SP:=⟨⟨[zm6,zm6,zm6,ZX],[]⟩,U1,λx=>ZBg x.1 x.2.1 x.2.2.1 x.2.2.2⟩
theorem ZFz:KT 206 Br:=kV [(118,[J1]),(177,[Jz])] [61,71,83,104,114,123] ⟨[(12073,ZOw 9),(24,zm0 32),(28129,ZOw 3),(76048189,⟨[⟨.norm,[10,11,12],[],⟨[.d KJ [(0,100,5)],ZX,ZX],[]⟩,[(44,none)]⟩],[],[(44,none)]⟩)],[(13,⟨⟨.norm,[10,11,12,49],[],⟨[.d KJ [(0,100,5)],ZX,ZX,ZX],[]⟩,[(44,none)]⟩,[⟨(.exit 0),[10,11,12],[],⟨[.d KJ [(0,100,5)],ZX,ZX],[]⟩,[(44,none)]⟩],[],[(44,none)],[]⟩),(21,⟨⟨.norm,[11,12,89],[],⟨[ZX,.n,.n],[]⟩,[]⟩,[⟨(.exit 2),[11,12],[],zm86,[]⟩],[],[],[]⟩)],[],[(15,[8]),(28,[7])],[],[]⟩ ⟨ZBE,ZBC,trivial⟩
abbrev Uv:SP:=⟨⟨[zm6,zm6,zm6],[]⟩,U1,λx=>Gf x.1 x.2.1 x.2.2⟩
theorem ZCK:KT 167 Uv:=kV [(206,[Br])] [] zm2 ⟨ZFz,trivial⟩
abbrev D4:SP:=⟨U1,ZJP,λx=>ZCs x⟩
theorem ZHI:KT 100 D4:=kV [(64,[Q5]),(167,[Uv])] [] zm2 ⟨Vv,ZCK,trivial⟩
abbrev Wo:SP:=⟨zm45,⟨[],[.cells 21 [.d zm5 [(11,1,3),(12,2,47),(14,3,27),(15,4,83)]],.row,.row,.row,.row]⟩,λx=>ZAu x⟩
theorem Bb:KT 48 Wo:=kV [(98,[ZAA]),(100,[D4])] [] ⟨[(4025,zm21),(12117,zm21)],[],[],[],[],[]⟩ ⟨ZE2,ZHI,trivial⟩
abbrev BE:SP:=⟨ZKf,⟨[.ag 19,.d Yi [(11,0,3),(12,1,47),(14,2,27),(15,3,83)],ZX],[.row,.row,.row,.row]⟩,λx=>UN x⟩
theorem ZCA:KT 15 BE:=kV [(46,[D1]),(47,[Vo]),(48,[Wo])] [] zm27 ⟨ZEx,GR,Bb,trivial⟩ λx=>T8 (b:=ZBp x) (by kernel_rfl) (ZEs x)
abbrev c_wrap_Stretch:SP:=⟨⟨[.d .s [],zm4],[]⟩,zm8,λx=>ZCk x.1 x.2⟩
theorem ZFc (q:Int->Int->Option (List UInt8×Int))(a:(List UInt8)->Option (List UInt8))(b:(List<|List UInt8)->Option (List UInt8))(x:VH (hyS c_wrap_Stretch.i)):fnV (mkX Tryz.prog TY NT [] [(104,[⟨ZKe,zm8,λx=>q x.1 x.2⟩]),(170,[⟨U1,zm3,λx=>a x⟩]),(171,[⟨ZJO,zm3,λx=>b x⟩])] []) zm60 103 c_wrap_Stretch.i c_wrap_Stretch.o x=B9 q a b x.1 x.2:=by kernel_rfl
theorem ZHE:KT 103 c_wrap_Stretch:=kV [(104,[Yz]),(170,[ZAb]),(171,[YH])] [] zm60 ⟨Yv,ZAY,YF,trivial⟩ λx=>ZFc Zz ZAV Zf x
abbrev ZLA:Pv.Sp:=zm68
abbrev ZFE:SP:=⟨U1,ZLA,λx=>ZDs x⟩
theorem ZLI:KT 106 ZFE:=kV [(90,[Z5]),(170,[ZAb])] [] zm2 ⟨Yh,ZAY,trivial⟩
abbrev ZF0:Pv.Sp:=⟨[.ag 16,Zv,Zv,Zv,Zv,Zv,Zv,Zv,Zv,Zv,Zv,Zv,Zv,Zv,Zv,Zv,Zv,.ag 16,Zv,Zv,Zv,Zv,Zv,Zv,Zv,Zv,Zv,Zv,Zv,Zv,Zv,Zv,Zv,Zv],[]⟩
abbrev ZFj:Pv.Sp:=zm68
abbrev Bf:SP:=⟨ZF0,ZFj,λx=>ZAt x.1 x.2.1 x.2.2.1 x.2.2.2.1 x.2.2.2.2.1 x.2.2.2.2.2.1 x.2.2.2.2.2.2.1 x.2.2.2.2.2.2.2.1 x.2.2.2.2.2.2.2.2.1 x.2.2.2.2.2.2.2.2.2.1 x.2.2.2.2.2.2.2.2.2.2.1 x.2.2.2.2.2.2.2.2.2.2.2.1 x.2.2.2.2.2.2.2.2.2.2.2.2.1 x.2.2.2.2.2.2.2.2.2.2.2.2.2.1 x.2.2.2.2.2.2.2.2.2.2.2.2.2.2.1 x.2.2.2.2.2.2.2.2.2.2.2.2.2.2.2.1 x.2.2.2.2.2.2.2.2.2.2.2.2.2.2.2.2.1 x.2.2.2.2.2.2.2.2.2.2.2.2.2.2.2.2.2.1 x.2.2.2.2.2.2.2.2.2.2.2.2.2.2.2.2.2.2.1 x.2.2.2.2.2.2.2.2.2.2.2.2.2.2.2.2.2.2.2.1 x.2.2.2.2.2.2.2.2.2.2.2.2.2.2.2.2.2.2.2.2.1 x.2.2.2.2.2.2.2.2.2.2.2.2.2.2.2.2.2.2.2.2.2.1 x.2.2.2.2.2.2.2.2.2.2.2.2.2.2.2.2.2.2.2.2.2.2.1 x.2.2.2.2.2.2.2.2.2.2.2.2.2.2.2.2.2.2.2.2.2.2.2.1 x.2.2.2.2.2.2.2.2.2.2.2.2.2.2.2.2.2.2.2.2.2.2.2.2.1 x.2.2.2.2.2.2.2.2.2.2.2.2.2.2.2.2.2.2.2.2.2.2.2.2.2.1 x.2.2.2.2.2.2.2.2.2.2.2.2.2.2.2.2.2.2.2.2.2.2.2.2.2.2.1 x.2.2.2.2.2.2.2.2.2.2.2.2.2.2.2.2.2.2.2.2.2.2.2.2.2.2.2.1 x.2.2.2.2.2.2.2.2.2.2.2.2.2.2.2.2.2.2.2.2.2.2.2.2.2.2.2.2.1 x.2.2.2.2.2.2.2.2.2.2.2.2.2.2.2.2.2.2.2.2.2.2.2.2.2.2.2.2.2.1 x.2.2.2.2.2.2.2.2.2.2.2.2.2.2.2.2.2.2.2.2.2.2.2.2.2.2.2.2.2.2.1 x.2.2.2.2.2.2.2.2.2.2.2.2.2.2.2.2.2.2.2.2.2.2.2.2.2.2.2.2.2.2.2⟩
theorem ZFn:KT 105 Bf:=kV [] [] ⟨[],[],[(2,17)],[(4,[8])],[],[]⟩ trivial
abbrev ZBK:SP:=⟨ZOD,zm3,λx=>ZEe x.1 x.2⟩
theorem ZIB:KT 107 ZBK:=kV [(172,[c_mac_Tag]),(104,[Yz]),(90,[Z5])] [] zm2 ⟨ZI5,Yv,Yh,trivial⟩
abbrev ZFF:SP:=⟨⟨[.d .s [],zm6,zm4],[]⟩,zm8,λx=>ZAN x.1 x.2.1 x.2.2⟩
theorem ZLJ:KT 50 ZFF:=kV [(103,[c_wrap_Stretch]),(104,[Yz]),(106,[ZFE]),(105,[Bf]),(107,[ZBK])] [] ⟨[(28,⟨[⟨.norm,[8,12],[],⟨[zm6,.ptr 0 0],[.cells 16 [Zv,Zv,Zv,Zv,Zv,Zv,Zv,Zv,Zv,Zv,Zv,Zv,Zv,Zv,Zv,Zv]]⟩,[]⟩],[],[(17,none)]⟩)],[],[],[],[],[]⟩ ⟨ZHE,Yv,ZLI,ZFn,ZIB,trivial⟩ λx=>T8 (b:=B7 x.1 x.2.1 x.2.2) (by kernel_rfl) (ZJh x.1 x.2.1 x.2.2)
abbrev Bo:SP:=⟨U1,U2,λx=>ZBH x⟩
theorem ZFv:KT 52 Bo:=kV [] [] zm2 trivial
abbrev VP:SP:=⟨⟨[ZBk,.c<|.fn 52],[]⟩,Qh,λx=>Wu x⟩
theorem B3:KT 51 VP:=kV [(52,[Bo])] [] zm18 ⟨ZFv,trivial⟩
abbrev ZBe:SP:=⟨⟨[.ag 19,.d Yi [],.d .s [],zm6],[]⟩,zm72,λx=>WT x.1 x.2.1 x.2.2⟩
theorem ZIW:KT 17 ZBe:=kV [(29,[XK]),(50,[ZFF]),(51,[VP]),(53,[Vp]),(42,[QC]),(15,[BE])] [] ⟨[(36,zm0 50),(48,⟨[⟨.norm,[],[(3,0,19)],⟨[zm9,.rr 100,zm4,zm4,zm4,.d zm7 [],.rr 101,.rr 102,.d (.sl KJ) [(0,103,27)],.d (.sl KJ) [(0,104,27)],.rr 105,ZX,ZX,zm4],[]⟩,[(3,some 2),(3,some 11),(3,some 12),(3,some 13),(3,some 14),(3,some 15)]⟩],[(3,0,19)],[(24,none),(3,some 13),(3,some 14)]⟩)],[],[],[(12,[10])],[],[]⟩ ⟨WJ,ZLJ,B3,Uf,Q4,ZCA,trivial⟩ λx=>T8 (b:=Jp x.1 x.2.1 x.2.2) (by kernel_rfl) (ZGo x.1 x.2.1 x.2.2)
abbrev ZBb:SP:=⟨ZSP,ZOv,λx=>ZFA x.1 x.2⟩
theorem ZIT:KT 84 ZBb:=kV [] [] zm2 trivial
abbrev Xc:SP:=⟨⟨[.d ZAg [],.clo 84 0 1,.ptr 0 0],[.cells 1 [ZX]]⟩,zm98,λx=>X3 x.1 x.2⟩
theorem Vh:KT 61 Xc:=kV [(84,[ZBb])] [] zm15 ⟨ZIT,trivial⟩
abbrev ZAC:SP:=⟨zm78,zm94,λx=>ZEU x.1 x.2⟩
theorem ZE4:KT 38 ZAC:=kV [(29,[XK]),(61,[Xc])] [] zm2 ⟨WJ,Vh,trivial⟩
abbrev Jw:SP:=⟨zm78,zm94,λx=>Du x.1 x.2⟩
theorem ZA9:KT 54 Jw:=kV [(38,[ZAC])] [] ⟨[(8,zm0 18),(12073,ZOw 5)],[],[],[],[],[]⟩ ⟨ZE4,trivial⟩
abbrev Ur:SP:=⟨ZOt,⟨[.clo 143 0 2,.ptr 0 0,.ptr 1 0],[.cells 1 [.d UI []],.cells 1 [ZX]]⟩,λx=>GA x.1 x.2⟩
theorem ZCF:KT 85 Ur:=kV [] [] zm2 trivial
abbrev Jx:SP:=⟨⟨[.d UI []],[]⟩,U2,λx=>Dv x⟩
theorem ZBA:KT 39 Jx:=kR [(85,[Ur])] [] ⟨[(12,zm0 19)],[(3,⟨⟨.norm,[],[(2,0,1)],⟨[.c<|.b false],[]⟩,[]⟩,[⟨.ret,[],[(2,0,1)],⟨[.c<|.b false],[]⟩,[]⟩],[(2,0,1)],[],[]⟩)],[],[],[],[]⟩ ⟨ZCF,trivial⟩
abbrev BL:SP:=⟨⟨[.ag 12,.d Qv [],.ag 3,ZOG],[]⟩,Qh,λx=>Uk x.1 x.2⟩
theorem ZDJ:KT 87 BL:=kV [(126,[XO]),(127,[BO])] [] zm2 ⟨QP,ZDL,trivial⟩
abbrev Z8:SP:=⟨⟨[ZAh,.ag 3,ZOG,.c<|.fn 87],[]⟩,⟨[ZX,VT],[]⟩,λx=>YD x.1 x.2⟩
theorem XI:KT 86 Z8:=kV [(87,[BL])] [] zm22 ⟨ZDJ,trivial⟩
abbrev ZBc:SP:=⟨⟨[.ag 19,.d Yi [],.ag 3,ZOG],[]⟩,⟨[.ag 12,.d Qv [],VT],[]⟩,λx=>ZFB x.1 x.2⟩
theorem ZIU:KT 41 ZBc:=kV [(86,[Z8])] [] zm2 ⟨XI,trivial⟩
abbrev Jy:SP:=⟨zm69,ZOx,λx=>Dw x.1 x.2.1 x.2.2⟩
theorem ZBB:KT 43 Jy:=kV [(8,[UB])] [] zm2 ⟨G4,trivial⟩
abbrev ZAB:SP:=⟨zm69,⟨[.ag 12,.d Qv [],ZX],[]⟩,λx=>ZET x.1 x.2.1 x.2.2⟩
theorem ZE3:KT 40 ZAB:=kV [(41,[ZBc]),(43,[Jy])] [] ⟨[(12085,⟨[⟨.ret,[7],[(6,0,12)],⟨[.d Qv [(6,0,5)],ZX],[.row]⟩,[]⟩,⟨.norm,[],[(6,0,12)],⟨[.d Qv []],[]⟩,[]⟩],[(6,0,12)],[]⟩)],[],[],[],[],[]⟩ ⟨ZIU,ZBB,trivial⟩
abbrev ZR:SP:=⟨⟨[.d ZFX [(0,0,83)],.ag 3,ZOG,.c<|.fn 87],[.row]⟩,⟨[ZX,VT,.bor Qv 0 83],[.row]⟩,λx=>ZJ x.1 x.2⟩
theorem ZY:KT 86 ZR:=kV [(87,[BL])] [] zm22 ⟨ZDJ,trivial⟩
end
end Go.Proofs.YtgdchaoklfjcpaaGreatDoor
