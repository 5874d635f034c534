import Derived.Test.YtooeopogefefiaaGreatDoorK1
/- what is proved here: contracts by value. -/
set_option linter.unusedVariables false
namespace Go.Proofs.YtooeopogefefiaaGreatDoor
open Go Go.Ow Go.Pv Go.Proofs
set_option maxRecDepth 20000
noncomputable section
abbrev ZID:SP:=⟨JM,zm50,λx=>Gs x⟩
theorem ZNY:KT 159 ZID:=kV [(130,[ZCG]),(190,[B4]),(166,[ZFq])] [48] ⟨[(20,zm0 34),(32,⟨[⟨.norm,[],[(2,0,4)],⟨[.d ZDM [(3,0,31)]],[.row]⟩,[]⟩],[(2,0,4)],[(24,none)]⟩)],[],[],[(8,[7])],[],[]⟩ ⟨ZIk,ZC1,ZL3,trivial⟩ (λx=>SQ (b:=ZCk x) (by kernel_rfl) (ZLe x))
abbrev ZJg:SP:=⟨zm60,zm50,λx=>ZGY x.1 x.2⟩
theorem ZPi:KT 118 ZJg:=kV [(58,[UT]),(159,[ZID])] [] zm2 ⟨Ba,ZNY,trivial⟩
abbrev Bx:SP:=⟨⟨[.ag 5,WQ,.ag 5,.d zm7 [],ZQ],[]⟩,zm50,λx=>Uh x.1 x.2.1 x.2.2⟩
theorem ZDr:KT 57 Bx:=kV [(60,[Y4]),(61,[Z8]),(73,[Bw]),(118,[ZJg])] [] ⟨[(4,zm0 17),(12,zm0 24)],[],[],[(8,[8])],[],[]⟩ ⟨Xk,YH,ZCy,ZPi,trivial⟩
abbrev YP:SP:=⟨⟨[.d ZBY [(0,0,41)],ZQ,.c (.fn 129)],[.row]⟩,⟨[ZQ,Vm,.bor Yv 0 41],[.row]⟩,λx=>Zw x.1 x.2⟩
theorem QN:KT 128 YP:=kV [(129,[Bs])] [] zm22 ⟨ZDl,trivial⟩
abbrev ZB9:SP:=⟨⟨[.d ZBY [(0,0,41)],ZQ],[.row]⟩,⟨[.orel Yv 0,.bor Yv 0 41],[.row]⟩,λx=>JQ x.1 x.2⟩
theorem ZId:KT 64 ZB9:=kV [(128,[YP])] [] zm2 ⟨QN,trivial⟩
abbrev UU:SP:=⟨ZJp,zm8,λx=>Ke x.1 x.2⟩
theorem Bb:KT 82 UU:=kV [(102,[KM]),(30,[Xl])] [] ⟨[(12,zm0 10)],[],[],[],[],[]⟩ ⟨WH,QV,trivial⟩
abbrev W8:SP:=⟨ZM3,zm72,λx=>QX x⟩
theorem DI:KT 123 W8:=kV [(61,[Z8]),(163,[B0])] [] zm82 ⟨YH,UP,trivial⟩
abbrev Jy:SP:=⟨⟨[.c (.nils),ZQ],[]⟩,ZM3,λx=>YC x⟩
theorem ZDq:KT 221 Jy:=kG0 ZRT
abbrev Ky:SP:=⟨⟨[.d (.sl K9) [(0,0,39)]],[.row]⟩,zm95,λx=>YS x⟩
theorem G0:KT 200 Ky:=kV [(221,[Jy])] [] ⟨[],[(3,⟨⟨.norm,[3,11],[],ZIX,[]⟩,[zm75],[],[],[]⟩),(11,⟨⟨.norm,[6,27],[],zm90,[]⟩,[⟨(.exit 2),[6],[],ZM3,[]⟩],[],[(24,none)],[]⟩)],[],[],[],[]⟩ ⟨ZDq,trivial⟩
abbrev Xd:SP:=⟨⟨[ZIY,.c (.fn 163)],[.row]⟩,⟨[.bor zm7 0 31],[.row]⟩,λx=>ZJy x⟩
theorem VN:KT 201 Xd:=kG0 (ZRS UP.2 UP.1 _ ZI1 ZMe)
abbrev Q6:SP:=⟨ZM3,zm96,λx=>YD x⟩
theorem JP:KT 14 Q6:=kV [] [] zm2 trivial (λx=>SQ (b:=Q3 x) (by kernel_rfl) (Um x))
abbrev ZCN:SP:=⟨⟨[.ag 5,.d zm7 [],.ag 5,.d zm7 []],[]⟩,UH,λx=>Wn x.1 x.2⟩
theorem ZIr:KT 203 ZCN:=kV [] [] zm2 trivial
abbrev QP:SP:=⟨⟨[ZIY,.c (.fn 203)],[.row]⟩,⟨[.d K9 []],[.row]⟩,λx=>Zy x⟩
theorem W3:KT 202 QP:=kV [(203,[ZCN])] [31,61] ⟨[(48197,⟨[⟨.norm,[0,5,6],[],⟨[.d K9 [(0,100,31)],ZQ,.rv zm7 100],[]⟩,[(0,none)]⟩],[],[(0,none)]⟩)],[(9,⟨⟨.norm,[0,5,6,7],[],⟨[.d K9 [(0,100,31)],ZQ,.rv zm7 100,ZQ],[]⟩,[(0,none)]⟩,[⟨(.exit 2),[0,5],[],⟨[.d K9 [(0,100,31)],ZQ],[]⟩,[(0,none)]⟩],[],[(0,none)],[]⟩),(4,⟨⟨.norm,[0,5],[],⟨[.d K9 [(0,100,31)],ZQ],[]⟩,[(0,none)]⟩,[⟨.ret,[4],[],ZP9,[]⟩,⟨(.exit 0),[0],[],⟨[.d K9 [(0,100,31)]],[]⟩,[(0,none)]⟩],[],[(0,none)],[]⟩)],[],[],[0],[]⟩ ⟨ZIr,trivial⟩
abbrev c_dead_Join:SP:=⟨⟨[.d K9 [],ZIY],[.row]⟩,⟨[.d K9 [(0,1,31)],ZQ],[.row,.row]⟩,λx=>ZE2 x.1 x.2⟩
theorem ZJx (q:(List Ptr)->Option Int)(a:(List Ptr)->Option (Int×List Ptr))(b:(List (List Ptr))->Option (List Ptr×List (List Ptr)))(e:(List Ptr)->Option (List Ptr))(f:(List Ptr)->Option (List Ptr×List Ptr))(g:(List Ptr)->Option (List Ptr))(x:VH (hyS c_dead_Join.i)):fnV (mkX Tryz.prog TY NT [] [(123,[⟨ZM3,zm72,λx=>a x⟩,⟨ZP9,QY,λx=>q x⟩]),(200,[⟨⟨[.d (.sl K9) [(0,0,39)]],[.row]⟩,zm95,λx=>b x⟩]),(201,[⟨⟨[ZIY,.c (.fn 163)],[.row]⟩,⟨[.bor zm7 0 31],[.row]⟩,λx=>e x⟩]),(14,[⟨ZM3,zm96,λx=>f x⟩]),(202,[⟨⟨[ZIY,.c (.fn 203)],[.row]⟩,⟨[.d K9 []],[.row]⟩,λx=>g x⟩])] []) zm55 167 c_dead_Join.i c_dead_Join.o x=ZAY q a b e f g x.1 x.2:=by kernel_rfl
theorem ZL8:KT 167 c_dead_Join:=kV [(123,[W8,UV]),(200,[Ky]),(201,[Xd]),(14,[Q6]),(202,[QP])] [] zm55 ⟨DI,Bf,G0,VN,JP,W3,trivial⟩ (λx=>ZJx Kj QX YS ZJy YD Zy x)
abbrev ZIG:SP:=⟨⟨[.d K9 [],.ag 5,.d zm7 []],[]⟩,zm90,λx=>ZD9 x.1 x.2⟩
theorem ZNb:KT 133 ZIG:=kV [(123,[W8]),(167,[c_dead_Join])] [] zm2 ⟨DI,ZL8,trivial⟩
abbrev ZGR:Pv.Sp:=⟨[.ptr 0 0,.rel Yv 1 0,.ag 5,.d zm7 []],[.cells 21 [.d zm5 [(11,2,3),(12,1,41),(13,3,26),(14,4,26)]],.row,.row,.row,.row]⟩
abbrev QO:SP:=⟨ZGR,zm73,λx=>Xi x.1 x.2.1 x.2.2⟩
theorem KW:KT 77 QO:=kV [(64,[ZB9]),(82,[UU]),(133,[ZIG])] [] ⟨[(4,zm0 20),(20129,⟨[⟨.norm,[6],[],ZPE,[]⟩],[],[]⟩),(44217,⟨[⟨.norm,[],[(0,0,21)],zm37,[(0,some 11),(1,none),(0,some 13),(0,some 14)]⟩],[(0,0,21)],[(9,none)]⟩),(60285,⟨[⟨.norm,[],[(0,0,21)],⟨[WQ,zm4,.d zm7 [],.rr 100,.d ZBY [(0,101,41)],.rr 102,.rr 103,ZBZ,ZQ,ZQ,zm4,zm4,ZQ],[]⟩,[(0,some 11),(1,none),(0,some 13),(0,some 14)]⟩],[(0,0,21)],[(1,none),(10,none)]⟩),(48032161,⟨[⟨.norm,[8],[(0,0,21)],⟨[WQ,zm4,.d zm7 [],.rr 100,.d ZBY [(0,101,41)],.rr 102,.rr 103,ZBZ,ZQ,ZQ,zm4,zm4,ZQ,ZQ],[]⟩,[(0,some 11),(1,none),(0,some 13),(0,some 14)]⟩],[(0,0,21)],[(1,none)]⟩),(76000321,zm0 80)],[],[],[(3,[9])],[],[]⟩ ⟨ZId,Bb,ZNb,trivial⟩
abbrev GP:SP:=⟨⟨[.ag 5,WQ,zm4,ZQ,ZCW],[]⟩,QY,λx=>WV x.1 x.2.1 x.2.2.1 x.2.2.2⟩
theorem ZBs:KT 195 GP:=kV [(60,[Y4])] [] ⟨[(16,zm0 22)],[(7,⟨⟨.norm,[2,25],[],ZPF,[]⟩,[⟨.ret,[8],[],⟨[.c (.i 3)],[]⟩,[]⟩,ZQG],[],[],[]⟩)],[],[],[],[]⟩ ⟨Xk,trivial⟩
abbrev XI:SP:=⟨ZIX,zm8,λx=>Zk x.1 x.2⟩
theorem XF:KT 107 XI:=kV [(155,[B3])] [] ⟨[(4,zm0 20)],[(4,⟨⟨.norm,[0,6],[],⟨[ZQ,.d KX [(0,0,5)]],[.row]⟩,[]⟩,[⟨(.exit 0),[6],[],zm3,[]⟩],[],[],[]⟩)],[],[],[],[]⟩ ⟨ZDu,trivial⟩
abbrev U7:SP:=⟨⟨[.c (.nils),ZQ],[]⟩,zm3,λx=>Z5 x⟩
theorem ZCu:KT 170 U7:=kG0 ZRU
abbrev YI:SP:=⟨ZJo,zm3,λx=>ZR x⟩
theorem YG:KT 139 YI:=kV [(170,[U7])] [] ⟨[],[(3,⟨⟨.norm,[3,11],[],ZIX,[]⟩,[zm75],[],[],[]⟩),(11,⟨⟨.norm,[6,27],[],zm8,[]⟩,[⟨(.exit 2),[6],[],zm3,[]⟩],[],[(24,none)],[]⟩)],[],[],[],[]⟩ ⟨ZCu,trivial⟩
abbrev ZBT:SP:=⟨JM,zm3,λx=>Jh x⟩
theorem ZBM:KT 154 ZBT:=kV [(161,[ZDH]),(107,[XI])] [] ⟨[],[],[(3,5)],[],[],[]⟩ ⟨ZHj,XF,trivial⟩
abbrev UA:SP:=⟨⟨[zm6,zm4],[]⟩,⟨[.clo 229 0 2,.ptr 0 0,.ptr 1 0],[.cells 1 [zm6],.cells 1 [zm6]]⟩,λx=>GN x.1 x.2⟩
theorem ZGM:KT 219 UA:=kV [(107,[XI])] [] zm2 ⟨XF,trivial⟩
abbrev c_cipher_Stream:SP:=⟨⟨[zm6,zm4,ZQ],[]⟩,zm8,λx=>WK x.1 x.2.1 x.2.2⟩
theorem ZEZ (p:List UInt8->List UInt8->Rn (List UInt8))(x:VH (hyS c_cipher_Stream.i)):fnR (mkX Tryz.prog TY NT [] [(219,[UA]),(89,[Z6])] []) (lkI (ITp p)) zm48 194 c_cipher_Stream.i c_cipher_Stream.o x=W6 p x.1 x.2.1 x.2.2:=by kernel_rfl
theorem ZGN:KT 194 c_cipher_Stream:=kr hn [(219,[UA]),(89,[Z6])] [] [] IT (PD ZJO (PD ZJP (PD ZJN (PD ZOh (PD (ZNd XF.2 YG.2 ZBM.2) (P4)))))) zm48 (by kernel_rfl) ⟨ZGM,Yw,trivial⟩ (λx=>ZEZ pcR x)
abbrev ZCT:SP:=⟨zm92,zm8,λx=>Jr x.1 x.2.1 x.2.2⟩
theorem ZIx:KT 162 ZCT:=kV [(194,[c_cipher_Stream])] [] ⟨[],[(7,⟨⟨.norm,[8,30],[],⟨[.d KX [(0,100,5)],ZQ],[]⟩,[(26,none)]⟩,[⟨(.exit 1),[8],[],⟨[.d KX [(0,100,5)]],[]⟩,[(26,none)]⟩],[],[(26,none)],[]⟩)],[],[],[],[]⟩ ⟨ZGN,trivial⟩
abbrev GQ:SP:=⟨zm92,zm8,λx=>WX x.1 x.2.1 x.2.2⟩
theorem ZBt:KT 121 GQ:=kV [(162,[ZCT])] [] ⟨[(4,zm0 15)],[],[],[],[],[]⟩ ⟨ZIx,trivial⟩
abbrev ZFr:SP:=⟨ZJo,zm3,λx=>ZBG x⟩
theorem ZL4:KT 188 ZFr:=kV [(139,[YI]),(154,[ZBT])] [] zm2 ⟨YG,ZBM,trivial⟩
abbrev c_mac_Tag:SP:=⟨ZPG,⟨[zm4,ZQ],[]⟩,λx=>ZDg x.1 x.2⟩
theorem ZM8 (q:(List (List UInt8))->Option (List UInt8))(a:(List (List UInt8))->Option (List UInt8))(b:(List UInt8)->Option UInt32)(x:VH (hyS c_mac_Tag.i)):fnV (mkX Tryz.prog TY NT [] [(188,[⟨ZJo,zm3,λx=>q x⟩]),(139,[⟨ZJo,zm3,λx=>a x⟩]),(120,[⟨JM,ZPE,λx=>b x⟩])] []) zm2 156 c_mac_Tag.i c_mac_Tag.o x=ZEq q a b x.1 x.2:=by kernel_rfl
theorem ZJM:KT 156 c_mac_Tag:=kV [(188,[ZFr]),(139,[YI]),(120,[ZBS])] [] zm2 ⟨ZL4,YG,ZEt,trivial⟩ (λx=>ZM8 ZBG ZR BW x)
abbrev c_seal_tagged:SP:=⟨zm92,⟨[zm4,ZQ],[]⟩,λx=>JY x.1 x.2.1 x.2.2⟩
theorem ZGy (q:Int->Int->Option (List UInt8×Int))(a:(List (List UInt8))->Option (List UInt8))(b:(List UInt8)->(List UInt8)->Option (UInt32×Int))(x:VH (hyS c_seal_tagged.i)):fnV (mkX Tryz.prog TY NT [] [(107,[⟨ZIX,zm8,λx=>q x.1 x.2⟩]),(139,[⟨ZJo,zm3,λx=>a x⟩]),(156,[⟨ZPG,⟨[zm4,ZQ],[]⟩,λx=>b x.1 x.2⟩])] []) zm2 122 c_seal_tagged.i c_seal_tagged.o x=GD q a b x.1 x.2.1 x.2.2:=by kernel_rfl
theorem ZBu:KT 122 c_seal_tagged:=kV [(107,[XI]),(139,[YI]),(156,[c_mac_Tag])] [] zm2 ⟨XF,YG,ZJM,trivial⟩ (λx=>ZGy Zk ZR ZDg x)
abbrev ZFn:SP:=⟨zm92,⟨[zm6,zm4,ZQ],[]⟩,λx=>ZA9 x.1 x.2.1 x.2.2⟩
theorem ZL0:KT 196 ZFn:=kV [(121,[GQ]),(122,[c_seal_tagged])] [] zm2 ⟨ZBt,ZBu,trivial⟩
abbrev ZEI:SP:=⟨JM,⟨[.clo 239 0 2,.ptr 0 0,.ptr 1 0],[.cells 1 [.c (.i (-1))],.cells 1 [zm6]]⟩,λx=>ZCc x⟩
theorem ZKR:KT 230 ZEI:=kV [] [] zm2 trivial
abbrev ZAk:SP:=⟨⟨[.ptr 0 0,.ptr 1 0],[.cells 1 [ZQ],.cells 1 [zm6]]⟩,⟨[ZQ],[.cells 1 [ZQ],.cells 1 [zm6]]⟩,λx=>BM x.1 x.2⟩
theorem ZHe:KT 239 ZAk:=kV [] [] ⟨[],[(2,⟨⟨.norm,[],[(0,0,1)],QY,[]⟩,[⟨.ret,[2],[(0,0,1)],ZIX,[]⟩,⟨(.exit 0),[],[(0,0,1)],QY,[]⟩],[(0,0,1)],[],[]⟩)],[],[],[],[]⟩ trivial
abbrev ZEJ:SP:=⟨JM,⟨[.d KX [(0,0,5)],ZQ,ZQ],[.row]⟩,λx=>BN x⟩
theorem ZKS:KT 220 ZEJ:=kV [(102,[KM]),(230,[ZEI]),(239,[ZAk]),(30,[Xl])] [] zm2 ⟨WH,ZKR,ZHe,QV,trivial⟩
abbrev ZCL:SP:=⟨zm89,zm86,λx=>ZFa x⟩
theorem ZIp:KT 146 ZCL:=kV [] [] zm2 trivial
abbrev BD:SP:=⟨⟨[.ag 2,zm9,Vm,.clo 146 0 1,.ptr 0 0],[.cells 2 [zm9]]⟩,zm80,λx=>Xy x.1 x.2.1 x.2.2⟩
theorem ZEv:KT 93 BD:=kV [(97,[K6]),(146,[ZCL])] [] zm2 ⟨Wi,ZIp,trivial⟩
abbrev K5:SP:=⟨⟨[.d (.sl (.st .Write)) []],[]⟩,⟨[.cl (.st .Write)],[]⟩,λx=>YT x⟩
theorem G2:KT 147 K5:=kV [] [] zm2 trivial
abbrev ZAq:SP:=⟨⟨[.ag 2,zm9,ZQ,zm6],[]⟩,zm84,λx=>V0 x.1 x.2.1 x.2.2⟩
theorem ZFR:KT 99 ZAq:=kV [(145,[Jz]),(93,[BD]),(147,[K5]),(117,[Bz])] [] ⟨[(4,⟨[⟨.norm,[9],[(3,0,2)],⟨[zm9,ZQ],[]⟩,[]⟩],[(3,0,2)],[]⟩)],[],[],[(1,[4]),(8,[12])],[],[]⟩ ⟨ZAL,ZEv,G2,ZC0,trivial⟩ (λx=>SQ (b:=ZAU x.1 x.2.1 x.2.2) (by kernel_rfl) (ZKG x.1 x.2.1 x.2.2))
abbrev ZAj:SP:=⟨⟨[.ag 5,WQ,.ag 5,.d zm7 [],zm6],[]⟩,zm46,λx=>Vp x.1 x.2.1 x.2.2⟩
theorem ZFO:KT 197 ZAj:=kV [(220,[ZEJ]),(99,[ZAq]),(120,[ZBS])] [] ⟨[(28,⟨[⟨.norm,[],[(6,0,5)],⟨[zm9,.rr 100,zm4,zm4],[]⟩,[(13,none)]⟩],[(6,0,5)],[]⟩)],[],[],[(7,[5]),(9,[2])],[],[]⟩ ⟨ZKS,ZFR,ZEt,trivial⟩ (λx=>SQ (b:=Dn x.1 x.2.1 x.2.2) (by kernel_rfl) (ZKE x.1 x.2.1 x.2.2))
abbrev ZEG:SP:=⟨⟨[.ag 5,WQ,zm4,zm6,zm6],[]⟩,zm46,λx=>BL x.1 x.2.1 x.2.2.1 x.2.2.2⟩
theorem ZKP:KT 165 ZEG:=kV [(195,[GP]),(196,[ZFn]),(197,[ZAj])] [] zm2 ⟨ZBs,ZL0,ZFO,trivial⟩
abbrev ZGQ:Pv.Sp:=⟨[.ptr 0 0,.rel Yv 1 0,.ag 5,.d zm7 [],.ag 12,.d Q7 []],[.cells 21 [.d zm5 [(11,2,3),(12,1,41),(13,3,26),(14,4,26)]],.row,.row,.row,.row]⟩
abbrev ZF9:Pv.Sp:=zm61
abbrev DL:SP:=⟨ZGQ,ZF9,λx=>KB x.1 x.2.1 x.2.2.1 x.2.2.2⟩
theorem ZGD:KT 131 DL:=kV [(77,[QO]),(165,[ZEG])] [] ⟨[(8,zm0 30)],[],[],[(8,[22])],[],[]⟩ ⟨KW,ZKP,trivial⟩
abbrev X8:SP:=⟨⟨[.d K9 [],.c (.fn 199)],[]⟩,QY,λx=>Yz x⟩
theorem We:KT 134 X8:=kV [(199,[GR])] [] zm18 ⟨ZBv,trivial⟩
abbrev Xf:SP:=⟨⟨[.d K9 [],.c (.fn 199)],[]⟩,UH,λx=>YX x⟩
theorem VQ:KT 78 Xf:=kV [(134,[X8])] [] zm2 ⟨We,trivial⟩
abbrev ZAp:SP:=⟨⟨[.ag 4,.d ZDM []],[]⟩,QY,λx=>UL x⟩
theorem ZHi:KT 166 ZAp:=kV [(198,[GS]),(78,[Xf])] [] ⟨[(12,zm0 36)],[],[],[],[],[]⟩ ⟨ZBw,VQ,trivial⟩
abbrev Ws:SP:=⟨ZQA,zm8,λx=>Qy x⟩
theorem Wh:KT 86 Ws:=kV [(61,[Z8]),(140,[ZAo]),(107,[XI])] [] ⟨[],[],[(6,6)],[],[],[]⟩ ⟨YH,ZFQ,XF,trivial⟩
abbrev BB:SP:=⟨ZP9,ZJp,λx=>Gn x⟩
theorem ZBL:KT 80 BB:=kG0 (ZS0 Wh.2)
abbrev ZFp:SP:=⟨⟨[.ag 4,.d ZDM []],[]⟩,zm8,λx=>ZBE x⟩
theorem ZL2:KT 132 ZFp:=kV [(166,[ZAp]),(107,[XI]),(80,[BB])] [21] ⟨[],[],[],[(6,[9])],[],[]⟩ ⟨ZHi,XF,ZBL,trivial⟩
abbrev ZFk:SP:=⟨⟨[.ag 5,WQ,zm4,zm4,zm4,zm6],[]⟩,zm46,λx=>ZEb x.1 x.2.1 x.2.2.1 x.2.2.2.1 x.2.2.2.2⟩
theorem ZLx:KT 168 ZFk:=kV [(195,[GP]),(197,[ZAj])] [] zm2 ⟨ZBs,ZFO,trivial⟩
abbrev Jv:SP:=⟨⟨[.ag 5,WQ,zm4,zm6],[]⟩,zm46,λx=>Ge x.1 x.2.1 x.2.2⟩
theorem ZAJ:KT 135 Jv:=kV [(168,[ZFk])] [] zm2 ⟨ZLx,trivial⟩
abbrev ZHt:Pv.Sp:=⟨[.ptr 0 0,zm6],[.cells 21 [.d zm5 [(11,1,3),(12,2,41),(13,3,26),(14,4,26)]],.row,.row,.row,.row]⟩
abbrev ZHH:Pv.Sp:=⟨[.ag 5,.d zm7 []],[.cells 21 [.d zm5 [(11,1,3),(12,2,41),(13,3,26),(14,4,26)]],.row,.row,.row,.row]⟩
abbrev Qv:SP:=⟨ZHt,ZHH,λx=>QC x.1 x.2⟩
theorem VM:KT 81 Qv:=kV [(135,[Jv])] [] ⟨[],[],[],[(2,[20])],[],[]⟩ ⟨ZAJ,trivial⟩
abbrev ZDx:Pv.Sp:=⟨[.ptr 0 0,.rel Yv 1 0,.ag 5,.d zm7 [],.ag 5,.d zm7 [],.cl Q7],[.cells 21 [.d zm5 [(11,2,3),(12,1,41),(13,3,26),(14,4,26)]],.row,.row,.row,.row]⟩
abbrev ZDd:Pv.Sp:=zm61
abbrev VX:SP:=⟨ZDx,ZDd,λx=>XR x.1 x.2.1 x.2.2.1 x.2.2.2.1 x.2.2.2.2⟩
theorem Jk:KT 76 VX:=kV [(57,[Bx]),(131,[DL]),(77,[QO]),(132,[ZFp]),(81,[Qv])] [] ⟨[(12089,⟨[⟨.norm,[],[(0,0,21),(11,0,4)],⟨[WQ,zm4,.d zm7 [],.rr 100,.rr 101,.rr 102,.rr 103,ZBZ,ZQ,ZQ,zm4,zm4,ZQ,.d ZDM [(3,0,31)]],[.row]⟩,[(0,some 11),(1,none),(0,some 13),(0,some 14)]⟩],[(0,0,21),(11,0,4)],[(18,none)]⟩)],[(5,⟨⟨.norm,[1,42],[(0,0,21),(10,0,5),(11,0,4)],⟨[.d zm5 [(11,100,3),(12,101,41),(13,102,26),(14,103,26)],.d zm7 [],.d ZDM [(3,104,31)],.rel Yv 101 0,ZQ],[]⟩,[(0,some 11),(1,none),(0,some 13),(0,some 14),(11,some 3)]⟩,[⟨.ret,[],[(0,0,21),(10,0,5),(11,0,4)],⟨[.d zm5 [(11,100,3),(12,101,41),(13,102,26),(14,103,26)],.d zm7 [],.d ZDM [(3,104,31)]],[]⟩,[(0,some 11),(1,none),(0,some 13),(0,some 14),(11,some 3)]⟩,⟨(.exit 0),[1],[(0,0,21),(10,0,5),(11,0,4)],⟨[.d zm5 [(11,100,3),(12,101,41),(13,102,26),(14,103,26)],.d zm7 [],.d ZDM [(3,104,31)],.rel Yv 101 0],[]⟩,[(0,some 11),(1,none),(0,some 13),(0,some 14),(11,some 3)]⟩],[(0,0,21),(10,0,5),(11,0,4)],[(1,none),(0,some 11),(0,some 13),(0,some 14),(11,some 3)],[]⟩),(16,⟨⟨.norm,[1,90],[(0,0,21)],⟨[.d zm5 [(11,100,3),(12,101,41),(13,102,26),(14,103,26)],.rel Yv 101 0,ZQ],[]⟩,[(0,some 11),(1,none),(0,some 13),(0,some 14)]⟩,[⟨(.exit 2),[],[(0,0,21)],zm85,[(0,some 11),(1,none),(0,some 13),(0,some 14)]⟩],[(0,0,21)],[(1,none),(0,some 11),(0,some 13),(0,some 14)],[]⟩)],[],[(3,[15]),(10,[7]),(11,[13])],[],[]⟩ ⟨ZDr,ZGD,KW,ZL2,VM,trivial⟩ (λx=>SQ (b:=VA x.1 x.2.1 x.2.2.1 x.2.2.2.1 x.2.2.2.2) (by kernel_rfl) (ZCi x.1 x.2.1 x.2.2.1 x.2.2.2.1 x.2.2.2.2))
abbrev Wq:SP:=⟨ZQA,UH,λx=>KZ x⟩
theorem ZAG:KT 79 Wq:=kV [] [] zm2 trivial
abbrev X7:SP:=⟨⟨[.d K9 [],.c (.fn 79)],[]⟩,QY,λx=>Yy x⟩
theorem Wc:KT 134 X7:=kV [(79,[Wq])] [] zm18 ⟨ZAG,trivial⟩
abbrev YM:SP:=⟨⟨[.d K9 [],.c (.fn 79)],[]⟩,UH,λx=>Z1 x⟩
theorem XZ:KT 78 YM:=kV [(134,[X7])] [] zm2 ⟨Wc,trivial⟩
abbrev ZC5:Pv.Sp:=⟨[.ptr 0 0,.rel Yv 1 0,ZBZ],[.cells 21 [.d zm5 [(2,2,5),(11,3,3),(12,1,41),(13,4,26),(14,5,26)]],.row,.row,.row,.row,.row]⟩
abbrev U4:SP:=⟨ZC5,⟨[],[.cells 21 [.d zm5 [(11,3,3),(12,1,41),(13,4,26),(14,5,26)]],.row,.row,.row,.row,.row]⟩,λx=>Vn x.1 x.2.1 x.2.2⟩
theorem ZCr:KT 37 U4:=kV [(73,[Bw]),(74,[YL]),(76,[VX]),(77,[QO]),(78,[YM]),(80,[BB]),(81,[Qv])] [] ⟨[(0,zm0 21),(16,zm0 50),(32237,ZQE 9),(36,zm40)],[(4,⟨zm32,[zm68],[(0,0,21)],[(1,none),(0,some 11),(0,some 13),(0,some 14),(33,none)],[]⟩)],[],[(1,[9]),(9,[16])],[2],[]⟩ ⟨ZCy,XY,Jk,KW,XZ,ZBL,VM,trivial⟩ (λx=>SQ (b:=KY x.1 x.2.1 x.2.2) (by kernel_rfl) (UF x.1 x.2.1 x.2.2))
abbrev De:Pv.Sp:=⟨[.ptr 0 0,.rel Yv 1 0,ZBZ],[.cells 21 [.d zm5 [(11,2,3),(12,1,41),(13,3,26),(14,4,26)]],.row,.row,.row,.row]⟩
abbrev Vi:SP:=⟨De,zm73,λx=>Zg x.1 x.2.1 x.2.2⟩
theorem Da:KT 37 Vi:=kV [(73,[Bw]),(74,[YL]),(76,[VX]),(77,[QO]),(78,[YM]),(80,[BB]),(81,[Qv])] [] ⟨[(0,zm0 21),(16,zm0 50),(32237,ZQE 9),(36,zm40)],[(4,⟨zm32,[zm68],[(0,0,21)],[(1,none),(0,some 11),(0,some 13),(0,some 14),(33,none)],[]⟩)],[],[(9,[16])],[],[]⟩ ⟨ZCy,XY,Jk,KW,XZ,ZBL,VM,trivial⟩ (λx=>SQ (b:=Ve x.1 x.2.1 x.2.2) (by kernel_rfl) (BT x.1 x.2.1 x.2.2))
abbrev VZ:SP:=⟨⟨[.d K9 [],ZQ],[]⟩,⟨[.clo 169 0 2,.ptr 0 0,.ptr 1 0],[.cells 1 [.d K9 []],.cells 1 [ZQ]]⟩,λx=>Qk x.1 x.2⟩
theorem Bd:KT 137 VZ:=kV [] [] zm2 trivial
end
end Go.Proofs.YtooeopogefefiaaGreatDoor
