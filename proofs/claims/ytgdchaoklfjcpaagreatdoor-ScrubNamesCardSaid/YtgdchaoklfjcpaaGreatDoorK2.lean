import Derived.Test.YtgdchaoklfjcpaaGreatDoorK1
/- Proved: contracts by value. -/
set_option linter.unusedVariables false
namespace Go.Proofs.YtgdchaoklfjcpaaGreatDoor
open Go Go.Ow Go.Pv Go.Proofs
set_option maxRecDepth 20000
noncomputable section
abbrev Yy:SP:=⟨U1,ZOx,λx=>DU x⟩
theorem ZHM:KT 33 Yy:=kV [(32,[ZBR]),(76,[BN]),(77,[ZFO])] [48] ⟨[(20,zm0 34),(32,⟨[⟨.norm,[],[(2,0,4)],⟨[.d ZDr [(3,0,32)]],[.row]⟩,[]⟩],[(2,0,4)],[(24,none)]⟩)],[],[],[(8,[7])],[],[]⟩ ⟨ZIJ,ZCJ,ZLS,trivial⟩ λx=>T8 (b:=ZB0 x) (by kernel_rfl) (ZK7 x)
abbrev Xf:SP:=⟨zm64,ZOx,λx=>ZJd x.1 x.2⟩
theorem ZI4:KT 24 Xf:=kV [(31,[YB]),(33,[Yy])] [] zm2 ⟨Gy,ZHM,trivial⟩
abbrev UB:SP:=⟨⟨[.ag 5,V2,.ag 5,.d zm7 [],ZX],[]⟩,ZOx,λx=>Vc x.1 x.2.1 x.2.2⟩
theorem G4:KT 8 UB:=kV [(21,[YA]),(22,[Zq]),(23,[YU]),(24,[Xf])] [] ⟨[(4,zm0 17),(12,zm0 24)],[],[],[(8,[8])],[],[]⟩ ⟨Yk,Z7,G3,ZI4,trivial⟩
abbrev YR:SP:=⟨⟨[.d ZAg [(0,0,47)],ZX,.c<|.fn 125],[.row]⟩,⟨[ZX,VT,.bor Ye 0 47],[.row]⟩,λx=>YV x.1 x.2⟩
theorem X6:KT 124 YR:=kV [(125,[BC])] [] zm22 ⟨ZDC,trivial⟩
abbrev ZBM:SP:=⟨⟨[.d ZAg [(0,0,47)],ZX],[.row]⟩,⟨[.orel Ye 0,.bor Ye 0 47],[.row]⟩,λx=>ZEg x.1 x.2⟩
theorem ZID:KT 68 ZBM:=kV [(124,[YR])] [] zm2 ⟨X6,trivial⟩
abbrev UA:SP:=⟨ZJP,zm8,λx=>UO x.1 x.2⟩
theorem Gz:KT 154 UA:=kV [(64,[Q5]),(42,[QC])] [] ⟨[(12,zm0 10)],[],[],[],[],[]⟩ ⟨Vv,Q4,trivial⟩
abbrev Wp:SP:=⟨ZMM,zm76,λx=>Vy x⟩
theorem Bc:KT 119 Wp:=kV [(22,[Zq]),(178,[BK])] [] zm87 ⟨Z7,W7,trivial⟩
abbrev JX:SP:=⟨⟨[.c (.nils),ZX],[]⟩,ZMM,λx=>Ys x⟩
theorem ZDH:KT 245 JX:=kG0 ZPw
abbrev KW:SP:=⟨⟨[.d (.sl Ke) [(0,0,40)]],[.row]⟩,zm99,λx=>QD x⟩
theorem GS:KT 238 KW:=kV [(245,[JX])] [] ⟨[],[(3,⟨⟨.norm,[3,11],[],ZKe,[]⟩,[zm81],[],[],[]⟩),(11,⟨⟨.norm,[6,27],[],zm93,[]⟩,[⟨(.exit 2),[6],[],ZMM,[]⟩],[],[(24,none)],[]⟩)],[],[],[],[]⟩ ⟨ZDH,trivial⟩
abbrev XL:SP:=⟨⟨[ZH9,.c<|.fn 178],[.row]⟩,⟨[.bor zm7 0 32],[.row]⟩,λx=>ZMU x⟩
theorem Ky:KT 239 XL:=kG0<|ZPu W7.2 W7.1 _ ZIc ZQG
abbrev Qt:SP:=⟨ZMM,ZSR,λx=>Yb x⟩
theorem U5:KT 111 Qt:=kV [] [] zm2 trivial λx=>T8 (b:=Qq x) (by kernel_rfl) (Ua x)
abbrev ZBY:SP:=⟨⟨[.ag 5,.d zm7 [],.ag 5,.d zm7 []],[]⟩,U2,λx=>Dt x.1 x.2⟩
theorem ZIQ:KT 241 ZBY:=kV [] [] zm2 trivial
abbrev X8:SP:=⟨⟨[ZH9,.c<|.fn 241],[.row]⟩,⟨[.d Ke []],[.row]⟩,λx=>Yr x⟩
theorem Wl:KT 240 X8:=kV [(241,[ZBY])] [31,61] ⟨[(48197,⟨[⟨.norm,[0,5,6],[],⟨[.d Ke [(0,100,32)],ZX,.rv zm7 100],[]⟩,[(0,none)]⟩],[],[(0,none)]⟩)],[(9,⟨⟨.norm,[0,5,6,7],[],⟨[.d Ke [(0,100,32)],ZX,.rv zm7 100,ZX],[]⟩,[(0,none)]⟩,[⟨(.exit 2),[0,5],[],⟨[.d Ke [(0,100,32)],ZX],[]⟩,[(0,none)]⟩],[],[(0,none)],[]⟩),(4,⟨⟨.norm,[0,5],[],⟨[.d Ke [(0,100,32)],ZX],[]⟩,[(0,none)]⟩,[⟨.ret,[4],[],ZOs,[]⟩,⟨(.exit 0),[0],[],⟨[.d Ke [(0,100,32)]],[]⟩,[(0,none)]⟩],[],[(0,none)],[]⟩)],[],[],[0],[]⟩ ⟨ZIQ,trivial⟩
abbrev c_dead_Join:SP:=⟨⟨[.d Ke [],ZH9],[.row]⟩,⟨[.d Ke [(0,1,32)],ZX],[.row,.row]⟩,λx=>ZJE x.1 x.2⟩
theorem ZJZ (q:(List Ptr)->Option Int)(a:(List Ptr)->Option (Int×List Ptr))(b:(List<|List Ptr)->Option (List Ptr×List (List Ptr)))(e:(List Ptr)->Option (List Ptr))(f:(List Ptr)->Option (List Ptr×List Ptr))(g:(List Ptr)->Option (List Ptr))(x:VH (hyS c_dead_Join.i)):fnV (mkX Tryz.prog TY NT [] [(119,[⟨ZMM,zm76,λx=>a x⟩,⟨ZOs,Qh,λx=>q x⟩]),(238,[⟨⟨[.d (.sl Ke) [(0,0,40)]],[.row]⟩,zm99,λx=>b x⟩]),(239,[⟨⟨[ZH9,.c<|.fn 178],[.row]⟩,⟨[.bor zm7 0 32],[.row]⟩,λx=>e x⟩]),(111,[⟨ZMM,ZSR,λx=>f x⟩]),(240,[⟨⟨[ZH9,.c<|.fn 241],[.row]⟩,⟨[.d Ke []],[.row]⟩,λx=>g x⟩])] []) zm57 224 c_dead_Join.i c_dead_Join.o x=ZE8 q a b e f g x.1 x.2:=by kernel_rfl
theorem ZLW:KT 224 c_dead_Join:=kV [(119,[Wp,UC]),(238,[KW]),(239,[XL]),(111,[Qt]),(240,[X8])] [] zm57 ⟨Bc,G5,GS,Ky,U5,Wl,trivial⟩ λx=>ZJZ Ui Vy QD ZMU Yb Yr x
abbrev ZHs:SP:=⟨⟨[.d Ke [],.ag 5,.d zm7 []],[]⟩,zm93,λx=>ZLx x.1 x.2⟩
theorem ZMn:KT 199 ZHs:=kV [(119,[Wp]),(224,[c_dead_Join])] [] zm2 ⟨Bc,ZLW,trivial⟩
abbrev ZF2:Pv.Sp:=⟨[.ptr 0 0,.rel Ye 1 0,.ag 5,.d zm7 []],[.cells 21 [.d zm5 [(11,2,3),(12,1,47),(13,3,27),(14,4,27)]],.row,.row,.row,.row]⟩
abbrev X7:SP:=⟨ZF2,zm77,λx=>Qz x.1 x.2.1 x.2.2⟩
theorem KF:KT 150 X7:=kV [(68,[ZBM]),(154,[UA]),(199,[ZHs])] [] ⟨[(4,zm0 20),(20129,⟨[⟨.norm,[6],[],ZOC,[]⟩],[],[]⟩),(44217,⟨[⟨.norm,[],[(0,0,21)],zm42,[(0,some 11),(1,none),(0,some 13),(0,some 14)]⟩],[(0,0,21)],[(9,none)]⟩),(60285,⟨[⟨.norm,[],[(0,0,21)],⟨[V2,zm4,.d zm7 [],.rr 100,.d ZAg [(0,101,47)],.rr 102,.rr 103,ZAh,ZX,ZX,zm4,zm4,ZX],[]⟩,[(0,some 11),(1,none),(0,some 13),(0,some 14)]⟩],[(0,0,21)],[(1,none),(10,none)]⟩),(48032161,⟨[⟨.norm,[8],[(0,0,21)],⟨[V2,zm4,.d zm7 [],.rr 100,.d ZAg [(0,101,47)],.rr 102,.rr 103,ZAh,ZX,ZX,zm4,zm4,ZX,ZX],[]⟩,[(0,some 11),(1,none),(0,some 13),(0,some 14)]⟩],[(0,0,21)],[(1,none)]⟩),(76000321,zm0 80)],[],[],[(3,[9])],[],[]⟩ ⟨ZID,Gz,ZMn,trivial⟩
abbrev Js:SP:=⟨⟨[.ag 5,V2,zm4,ZX,ZBk],[]⟩,Qh,λx=>DG x.1 x.2.1 x.2.2.1 x.2.2.2⟩
theorem ZA5:KT 235 Js:=kV [(21,[YA])] [] ⟨[(16,zm0 22)],[(7,⟨⟨.norm,[2,25],[],zm86,[]⟩,[⟨.ret,[8],[],⟨[.c<|.i 3],[]⟩,[]⟩,ZOy],[],[],[]⟩)],[],[],[],[]⟩ ⟨Yk,trivial⟩
abbrev Yz:SP:=⟨ZKe,zm8,λx=>Zz x.1 x.2⟩
theorem Yv:KT 104 Yz:=kV [(133,[BM])] [] ⟨[(4,zm0 20)],[(4,⟨⟨.norm,[0,6],[],⟨[ZX,.d KJ [(0,0,5)]],[.row]⟩,[]⟩,[⟨(.exit 0),[6],[],zm3,[]⟩],[],[],[]⟩)],[],[],[],[]⟩ ⟨ZDK,trivial⟩
abbrev Uo:SP:=⟨⟨[.c (.nils),ZX],[]⟩,zm3,λx=>Yg x⟩
theorem ZCC:KT 209 Uo:=kG0 ZPx
abbrev YH:SP:=⟨ZJO,zm3,λx=>Zf x⟩
theorem YF:KT 171 YH:=kV [(209,[Uo])] [] ⟨[],[(3,⟨⟨.norm,[3,11],[],ZKe,[]⟩,[zm81],[],[],[]⟩),(11,⟨⟨.norm,[6,27],[],zm8,[]⟩,[⟨(.exit 2),[6],[],zm3,[]⟩],[],[(24,none)],[]⟩)],[],[],[],[]⟩ ⟨ZCC,trivial⟩
abbrev ZAb:SP:=⟨U1,zm3,λx=>ZAV x⟩
theorem ZAY:KT 170 ZAb:=kV [(45,[ZCe]),(104,[Yz])] [] ⟨[],[],[(3,5)],[],[],[]⟩ ⟨ZHO,Yv,trivial⟩
abbrev Wr:SP:=⟨⟨[zm6,zm4],[]⟩,⟨[.clo 243 0 2,.ptr 0 0,.ptr 1 0],[.cells 1 [zm6],.cells 1 [zm6]]⟩,λx=>ZBI x.1 x.2⟩
theorem ZFx:KT 234 Wr:=kV [(104,[Yz])] [] zm2 ⟨Yv,trivial⟩
abbrev c_cipher_Stream:SP:=⟨⟨[zm6,zm4,ZX],[]⟩,zm8,λx=>ZBJ x.1 x.2.1 x.2.2⟩
theorem ZDw (p:List UInt8->List UInt8->Rn (List UInt8))(x:VH (hyS c_cipher_Stream.i)):fnR (mkX Tryz.prog TY NT [] [(234,[Wr]),(90,[Z5])] []) (lkI<|ITp p) zm50 222 c_cipher_Stream.i c_cipher_Stream.o x=Be p x.1 x.2.1 x.2.2:=by kernel_rfl
theorem ZFy:KT 222 c_cipher_Stream:=kr hn [(234,[Wr]),(90,[Z5])] [] [] IT (PJ ZI8<|PJ ZI7<|PJ ZNk<|PJ ZI6<|PJ (ZMp Yv.2 YF.2 ZAY.2) (OB)) zm50 (by kernel_rfl) ⟨ZFx,Yh,trivial⟩ λx=>ZDw pcR x
abbrev ZBf:SP:=⟨zm95,zm8,λx=>ZFD x.1 x.2.1 x.2.2⟩
theorem ZIX:KT 194 ZBf:=kV [(222,[c_cipher_Stream])] [] ⟨[],[(7,⟨⟨.norm,[8,30],[],⟨[.d KJ [(0,100,5)],ZX],[]⟩,[(26,none)]⟩,[⟨(.exit 1),[8],[],⟨[.d KJ [(0,100,5)]],[]⟩,[(26,none)]⟩],[],[(26,none)],[]⟩)],[],[],[],[]⟩ ⟨ZFy,trivial⟩
abbrev ZBQ:SP:=⟨zm95,zm8,λx=>ZEl x.1 x.2.1 x.2.2⟩
theorem ZIH:KT 144 ZBQ:=kV [(194,[ZBf])] [] ⟨[(4,zm0 15)],[],[],[],[],[]⟩ ⟨ZIX,trivial⟩
abbrev ZFP:SP:=⟨ZJO,zm3,λx=>ZEG x⟩
theorem ZLT:KT 210 ZFP:=kV [(171,[YH]),(170,[ZAb])] [] zm2 ⟨YF,ZAY,trivial⟩
abbrev c_mac_Tag:SP:=⟨ZOD,⟨[zm4,ZX],[]⟩,λx=>ZGB x.1 x.2⟩
theorem ZMQ (q:(List<|List UInt8)->Option (List UInt8))(a:(List<|List UInt8)->Option (List UInt8))(b:(List UInt8)->Option UInt32)(x:VH (hyS c_mac_Tag.i)):fnV (mkX Tryz.prog TY NT [] [(210,[⟨ZJO,zm3,λx=>q x⟩]),(171,[⟨ZJO,zm3,λx=>a x⟩]),(14,[⟨U1,ZOC,λx=>b x⟩])] []) zm2 172 c_mac_Tag.i c_mac_Tag.o x=ZIx q a b x.1 x.2:=by kernel_rfl
theorem ZI5:KT 172 c_mac_Tag:=kV [(210,[ZFP]),(171,[YH]),(14,[ZAa])] [] zm2 ⟨ZLT,YF,ZEI,trivial⟩ λx=>ZMQ ZEG Zf ZC7 x
abbrev c_seal_tagged:SP:=⟨zm95,⟨[zm4,ZX],[]⟩,λx=>ZEm x.1 x.2.1 x.2.2⟩
theorem ZGR (q:Int->Int->Option (List UInt8×Int))(a:(List<|List UInt8)->Option (List UInt8))(b:(List UInt8)->(List UInt8)->Option (UInt32×Int))(x:VH (hyS c_seal_tagged.i)):fnV (mkX Tryz.prog TY NT [] [(104,[⟨ZKe,zm8,λx=>q x.1 x.2⟩]),(171,[⟨ZJO,zm3,λx=>a x⟩]),(172,[⟨ZOD,⟨[zm4,ZX],[]⟩,λx=>b x.1 x.2⟩])] []) zm2 145 c_seal_tagged.i c_seal_tagged.o x=ZA1 q a b x.1 x.2.1 x.2.2:=by kernel_rfl
theorem ZII:KT 145 c_seal_tagged:=kV [(104,[Yz]),(171,[YH]),(172,[c_mac_Tag])] [] zm2 ⟨Yv,YF,ZI5,trivial⟩ λx=>ZGR Zz Zf ZGB x
abbrev ZFM:SP:=⟨zm95,⟨[zm6,zm4,ZX],[]⟩,λx=>ZIm x.1 x.2.1 x.2.2⟩
theorem ZLQ:KT 236 ZFM:=kV [(144,[ZBQ]),(145,[c_seal_tagged])] [] zm2 ⟨ZIH,ZII,trivial⟩
abbrev ZDb:SP:=⟨U1,⟨[.clo 256 0 2,.ptr 0 0,.ptr 1 0],[.cells 1 [.c<|.i (-1)],.cells 1 [zm6]]⟩,λx=>ZGW x⟩
theorem ZJw:KT 247 ZDb:=kV [] [] zm2 trivial
abbrev D3:SP:=⟨⟨[.ptr 0 0,.ptr 1 0],[.cells 1 [ZX],.cells 1 [zm6]]⟩,⟨[ZX],[.cells 1 [ZX],.cells 1 [zm6]]⟩,λx=>ZCr x.1 x.2⟩
theorem ZHH:KT 256 D3:=kV [] [] ⟨[],[(2,⟨⟨.norm,[],[(0,0,1)],Qh,[]⟩,[⟨.ret,[2],[(0,0,1)],ZKe,[]⟩,⟨(.exit 0),[],[(0,0,1)],Qh,[]⟩],[(0,0,1)],[],[]⟩)],[],[],[],[]⟩ trivial
abbrev ZDc:SP:=⟨U1,⟨[.d KJ [(0,0,5)],ZX,ZX],[.row]⟩,λx=>ZGX x⟩
theorem ZJx:KT 244 ZDc:=kV [(64,[Q5]),(247,[ZDb]),(256,[D3]),(42,[QC])] [] zm2 ⟨Vv,ZJw,ZHH,Q4,trivial⟩
abbrev ZBW:SP:=⟨zm92,zm89,λx=>ZE6 x⟩
theorem ZIO:KT 204 ZBW:=kV [] [] zm2 trivial
abbrev Gc:SP:=⟨⟨[.ag 2,zm9,VT,.clo 204 0 1,.ptr 0 0],[.cells 2 [zm9]]⟩,zm85,λx=>VA x.1 x.2.1 x.2.2⟩
theorem ZEK:KT 25 Gc:=kV [(63,[KZ]),(204,[ZBW])] [] zm2 ⟨WO,ZIO,trivial⟩
abbrev KY:SP:=⟨⟨[.d (.sl<|.st .Write) []],[]⟩,⟨[.cl<|.st .Write],[]⟩,λx=>QF x⟩
theorem GU:KT 205 KY:=kV [] [] zm2 trivial
abbrev D9:SP:=⟨⟨[.ag 2,zm9,ZX,zm6],[]⟩,ZOF,λx=>GW x.1 x.2.1 x.2.2⟩
theorem ZE1:KT 164 D9:=kV [(26,[JY]),(25,[Gc]),(205,[KY]),(28,[BJ])] [] ⟨[(4,⟨[⟨.norm,[9],[(3,0,2)],⟨[zm9,ZX],[]⟩,[]⟩],[(3,0,2)],[]⟩)],[],[],[(1,[4]),(8,[12])],[],[]⟩ ⟨Dh,ZEK,GU,ZCI,trivial⟩ λx=>T8 (b:=Dp x.1 x.2.1 x.2.2) (by kernel_rfl) (ZJl x.1 x.2.1 x.2.2)
abbrev D2:SP:=⟨⟨[.ag 5,V2,.ag 5,.d zm7 [],zm6],[]⟩,zm49,λx=>J5 x.1 x.2.1 x.2.2⟩
theorem ZEy:KT 237 D2:=kV [(244,[ZDc]),(164,[D9]),(14,[ZAa])] [] ⟨[(28,⟨[⟨.norm,[],[(6,0,5)],⟨[zm9,.rr 100,zm4,zm4],[]⟩,[(13,none)]⟩],[(6,0,5)],[]⟩)],[],[],[(7,[5]),(9,[2])],[],[]⟩ ⟨ZJx,ZE1,ZEI,trivial⟩ λx=>T8 (b:=DE x.1 x.2.1 x.2.2) (by kernel_rfl) (ZJj x.1 x.2.1 x.2.2)
abbrev ZDa:SP:=⟨⟨[.ag 5,V2,zm4,zm6,zm6],[]⟩,zm49,λx=>ZGU x.1 x.2.1 x.2.2.1 x.2.2.2⟩
theorem ZJv:KT 223 ZDa:=kV [(235,[Js]),(236,[ZFM]),(237,[D2])] [] zm2 ⟨ZA5,ZLQ,ZEy,trivial⟩
abbrev ZF1:Pv.Sp:=⟨[.ptr 0 0,.rel Ye 1 0,.ag 5,.d zm7 [],.ag 12,.d Qv []],[.cells 21 [.d zm5 [(11,2,3),(12,1,47),(13,3,27),(14,4,27)]],.row,.row,.row,.row]⟩
abbrev ZFk:Pv.Sp:=zm65
abbrev Bg:SP:=⟨ZF1,ZFk,λx=>Jh x.1 x.2.1 x.2.2.1 x.2.2.2⟩
theorem ZFo:KT 197 Bg:=kV [(150,[X7]),(223,[ZDa])] [] ⟨[(8,zm0 30)],[],[],[(8,[22])],[],[]⟩ ⟨KF,ZJv,trivial⟩
abbrev Xi:SP:=⟨⟨[.d Ke [],.c<|.fn 136],[]⟩,Qh,λx=>QK x⟩
theorem WL:KT 182 Xi:=kV [(136,[Ju])] [] zm18 ⟨ZA7,trivial⟩
abbrev XN:SP:=⟨⟨[.d Ke [],.c<|.fn 136],[]⟩,U2,λx=>XV x⟩
theorem K6:KT 137 XN:=kV [(182,[Xi])] [] zm2 ⟨WL,trivial⟩
abbrev D7:SP:=⟨⟨[.ag 4,.d ZDr []],[]⟩,Qh,λx=>ZC3 x⟩
theorem ZHN:KT 77 D7:=kV [(135,[Jv]),(137,[XN])] [] ⟨[(12,zm0 36)],[],[],[],[],[]⟩ ⟨ZA8,K6,trivial⟩
abbrev WX:SP:=⟨ZOu,zm8,λx=>Ve x⟩
theorem WN:KT 158 WX:=kV [(22,[Zq]),(132,[D6]),(104,[Yz])] [] ⟨[],[],[(6,6)],[],[],[]⟩ ⟨Z7,ZEz,Yv,trivial⟩
abbrev Ga:SP:=⟨ZOs,ZJP,λx=>ZC1 x⟩
theorem ZAX:KT 152 Ga:=kG0<|ZRO WN.2
abbrev ZFN:SP:=⟨⟨[.ag 4,.d ZDr []],[]⟩,zm8,λx=>ZIu x⟩
theorem ZLR:KT 198 ZFN:=kV [(77,[D7]),(104,[Yz]),(152,[Ga])] [21] ⟨[],[],[],[(6,[9])],[],[]⟩ ⟨ZHN,Yv,ZAX,trivial⟩
abbrev ZFI:SP:=⟨⟨[.ag 5,V2,zm4,zm4,zm4,zm6],[]⟩,zm49,λx=>ZIh x.1 x.2.1 x.2.2.1 x.2.2.2.1 x.2.2.2.2⟩
theorem ZLM:KT 225 ZFI:=kV [(235,[Js]),(237,[D2])] [] zm2 ⟨ZA5,ZEy,trivial⟩
abbrev JU:SP:=⟨⟨[.ag 5,V2,zm4,zm6],[]⟩,zm49,λx=>ZDy x.1 x.2.1 x.2.2⟩
theorem De:KT 200 JU:=kV [(225,[ZFI])] [] zm2 ⟨ZLM,trivial⟩
abbrev ZHX:Pv.Sp:=⟨[.ptr 0 0,zm6],[.cells 21 [.d zm5 [(11,1,3),(12,2,47),(13,3,27),(14,4,27)]],.row,.row,.row,.row]⟩
abbrev ZGq:Pv.Sp:=⟨[.ag 5,.d zm7 []],[.cells 21 [.d zm5 [(11,1,3),(12,2,47),(13,3,27),(14,4,27)]],.row,.row,.row,.row]⟩
abbrev Qf:SP:=⟨ZHX,ZGq,λx=>Kk x.1 x.2⟩
theorem Kw:KT 153 Qf:=kV [(200,[JU])] [] ⟨[],[],[],[(2,[20])],[],[]⟩ ⟨De,trivial⟩
abbrev ZDP:Pv.Sp:=⟨[.ptr 0 0,.rel Ye 1 0,.ag 5,.d zm7 [],.ag 5,.d zm7 [],.cl Qv],[.cells 21 [.d zm5 [(11,2,3),(12,1,47),(13,3,27),(14,4,27)]],.row,.row,.row,.row]⟩
abbrev ZC4:Pv.Sp:=zm65
abbrev VC:SP:=⟨ZDP,ZC4,λx=>KA x.1 x.2.1 x.2.2.1 x.2.2.2.1 x.2.2.2.2⟩
theorem JK:KT 149 VC:=kV [(8,[UB]),(197,[Bg]),(150,[X7]),(198,[ZFN]),(153,[Qf])] [] ⟨[(12089,⟨[⟨.norm,[],[(0,0,21),(11,0,4)],⟨[V2,zm4,.d zm7 [],.rr 100,.rr 101,.rr 102,.rr 103,ZAh,ZX,ZX,zm4,zm4,ZX,.d ZDr [(3,0,32)]],[.row]⟩,[(0,some 11),(1,none),(0,some 13),(0,some 14)]⟩],[(0,0,21),(11,0,4)],[(18,none)]⟩)],[(5,⟨⟨.norm,[1,42],[(0,0,21),(10,0,5),(11,0,4)],⟨[.d zm5 [(11,100,3),(12,101,47),(13,102,27),(14,103,27)],.d zm7 [],.d ZDr [(3,104,32)],.rel Ye 101 0,ZX],[]⟩,[(0,some 11),(1,none),(0,some 13),(0,some 14),(11,some 3)]⟩,[⟨.ret,[],[(0,0,21),(10,0,5),(11,0,4)],⟨[.d zm5 [(11,100,3),(12,101,47),(13,102,27),(14,103,27)],.d zm7 [],.d ZDr [(3,104,32)]],[]⟩,[(0,some 11),(1,none),(0,some 13),(0,some 14),(11,some 3)]⟩,⟨(.exit 0),[1],[(0,0,21),(10,0,5),(11,0,4)],⟨[.d zm5 [(11,100,3),(12,101,47),(13,102,27),(14,103,27)],.d zm7 [],.d ZDr [(3,104,32)],.rel Ye 101 0],[]⟩,[(0,some 11),(1,none),(0,some 13),(0,some 14),(11,some 3)]⟩],[(0,0,21),(10,0,5),(11,0,4)],[(1,none),(0,some 11),(0,some 13),(0,some 14),(11,some 3)],[]⟩),(16,⟨⟨.norm,[1,90],[(0,0,21)],⟨[.d zm5 [(11,100,3),(12,101,47),(13,102,27),(14,103,27)],.rel Ye 101 0,ZX],[]⟩,[(0,some 11),(1,none),(0,some 13),(0,some 14)]⟩,[⟨(.exit 2),[],[(0,0,21)],zm88,[(0,some 11),(1,none),(0,some 13),(0,some 14)]⟩],[(0,0,21)],[(1,none),(0,some 11),(0,some 13),(0,some 14)],[]⟩)],[],[(3,[15]),(10,[7]),(11,[13])],[],[]⟩ ⟨G4,ZFo,KF,ZLR,Kw,trivial⟩ λx=>T8 (b:=Kh x.1 x.2.1 x.2.2.1 x.2.2.2.1 x.2.2.2.2) (by kernel_rfl) (ZBy x.1 x.2.1 x.2.2.1 x.2.2.2.1 x.2.2.2.2)
abbrev WV:SP:=⟨ZOu,U2,λx=>UJ x⟩
theorem Dc:KT 151 WV:=kV [] [] zm2 trivial
abbrev Xh:SP:=⟨⟨[.d Ke [],.c<|.fn 151],[]⟩,Qh,λx=>QJ x⟩
theorem WK:KT 182 Xh:=kV [(151,[WV])] [] zm18 ⟨Dc,trivial⟩
abbrev YO:SP:=⟨⟨[.d Ke [],.c<|.fn 151],[]⟩,U2,λx=>XU x⟩
theorem XH:KT 137 YO:=kV [(182,[Xh])] [] zm2 ⟨WK,trivial⟩
abbrev ZCO:Pv.Sp:=⟨[.ptr 0 0,.rel Ye 1 0,ZAh],[.cells 21 [.d zm5 [(2,2,5),(11,3,3),(12,1,47),(13,4,27),(14,5,27)]],.row,.row,.row,.row,.row]⟩
abbrev Um:SP:=⟨ZCO,⟨[],[.cells 21 [.d zm5 [(11,3,3),(12,1,47),(13,4,27),(14,5,27)]],.row,.row,.row,.row,.row]⟩,λx=>VU x.1 x.2.1 x.2.2⟩
theorem ZB8:KT 93 Um:=kV [(23,[YU]),(147,[YN]),(149,[VC]),(150,[X7]),(137,[YO]),(152,[Ga]),(153,[Qf])] [] ⟨[(0,zm0 21),(16,zm0 50),(32237,ZOw 9),(36,zm43)],[(4,⟨zm36,[zm71],[(0,0,21)],[(1,none),(0,some 11),(0,some 13),(0,some 14),(33,none)],[]⟩)],[],[(1,[9]),(9,[16])],[2],[]⟩ ⟨G3,XG,JK,KF,XH,ZAX,Kw,trivial⟩ λx=>T8 (b:=KL x.1 x.2.1 x.2.2) (by kernel_rfl) (Wz x.1 x.2.1 x.2.2)
abbrev B6:Pv.Sp:=⟨[.ptr 0 0,.rel Ye 1 0,ZAh],[.cells 21 [.d zm5 [(11,2,3),(12,1,47),(13,3,27),(14,4,27)]],.row,.row,.row,.row]⟩
abbrev VO:SP:=⟨B6,zm77,λx=>Z4 x.1 x.2.1 x.2.2⟩
theorem B1:KT 93 VO:=kV [(23,[YU]),(147,[YN]),(149,[VC]),(150,[X7]),(137,[YO]),(152,[Ga]),(153,[Qf])] [] ⟨[(0,zm0 21),(16,zm0 50),(32237,ZOw 9),(36,zm43)],[(4,⟨zm36,[zm71],[(0,0,21)],[(1,none),(0,some 11),(0,some 13),(0,some 14),(33,none)],[]⟩)],[],[(9,[16])],[],[]⟩ ⟨G3,XG,JK,KF,XH,ZAX,Kw,trivial⟩ λx=>T8 (b:=VM x.1 x.2.1 x.2.2) (by kernel_rfl) (Gv x.1 x.2.1 x.2.2)
abbrev VE:SP:=⟨⟨[.d Ke [],ZX],[]⟩,⟨[.clo 226 0 2,.ptr 0 0,.ptr 1 0],[.cells 1 [.d Ke []],.cells 1 [ZX]]⟩,λx=>WF x.1 x.2⟩
theorem G1:KT 202 VE:=kV [] [] zm2 trivial
end
end Go.Proofs.YtgdchaoklfjcpaaGreatDoor
