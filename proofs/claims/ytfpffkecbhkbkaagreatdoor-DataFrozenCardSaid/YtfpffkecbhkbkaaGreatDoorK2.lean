import Derived.Test.YtfpffkecbhkbkaaGreatDoorK1
/- what is proved here: contracts by value. -/
set_option linter.unusedVariables false
namespace Go.Proofs.YtfpffkecbhkbkaaGreatDoor
open Go Go.Ow Go.Pv Go.Proofs
set_option maxRecDepth 20000
noncomputable section
abbrev ZH8:SP:=⟨JP,zm49,λx=>Gi x⟩
theorem ZNp:KT 138 ZH8:=kV [(137,[ZBk]),(168,[Bg]),(169,[ZFX])] [48] ⟨[(20,zm0 34),(32,⟨[⟨.norm,[],[(2,0,4)],⟨[.d ZC0 [(3,0,31)]],[.row]⟩,[]⟩],[(2,0,4)],[(24,none)]⟩)],[],[],[(8,[7])],[],[]⟩ ⟨ZIf,ZCY,ZMC,trivial⟩ (λx=>SS (b:=ZCG x) (by kernel_rfl) (ZLn x))
abbrev ZJm:SP:=⟨zm56,zm49,λx=>ZGI x.1 x.2⟩
theorem ZPs:KT 87 ZJm:=kV [(49,[UX]),(138,[ZH8])] [] zm2 ⟨BI,ZNp,trivial⟩
abbrev Ba:SP:=⟨⟨[.ag 5,Wz,.ag 5,.d zm7 [],ZR],[]⟩,zm49,λx=>Un x.1 x.2.1 x.2.2⟩
theorem ZDb:KT 48 Ba:=kV [(51,[Yq]),(52,[Z9]),(86,[BZ]),(87,[ZJm])] [] ⟨[(4,zm0 17),(12,zm0 24)],[],[],[(8,[8])],[],[]⟩ ⟨XV,YG,ZCU,ZPs,trivial⟩
abbrev YP:SP:=⟨⟨[.d ZCz [(0,0,41)],ZR,.c (.fn 100)],[.row]⟩,⟨[ZR,Vk,.bor Yr 0 41],[.row]⟩,λx=>YU x.1 x.2⟩
theorem QB:KT 99 YP:=kV [(100,[BV])] [] zm22 ⟨ZDV,trivial⟩
abbrev ZBf:SP:=⟨⟨[.d ZCz [(0,0,41)],ZR],[.row]⟩,⟨[.orel Yr 0,.bor Yr 0 41],[.row]⟩,λx=>ZEz x.1 x.2⟩
theorem ZIa:KT 55 ZBf:=kV [(99,[YP])] [] zm2 ⟨QB,trivial⟩
abbrev UY:SP:=⟨ZJu,zm8,λx=>KS x.1 x.2⟩
theorem BJ:KT 70 UY:=kV [(93,[KD]),(26,[XW])] [] ⟨[(12,zm0 10)],[],[],[],[],[]⟩ ⟨WE,QJ,trivial⟩
abbrev UA:SP:=⟨ZNG,zm68,λx=>WH x⟩
theorem Bs:KT 94 UA:=kV [(52,[Z9]),(145,[Bd])] [] zm79 ⟨YG,UR,trivial⟩
abbrev Jt:SP:=⟨⟨[.c (.nils),ZR],[]⟩,ZNG,λx=>Yw x⟩
theorem ZDa:KT 225 Jt:=kG0 ZRX
abbrev Kk:SP:=⟨⟨[.d (.sl Kv) [(0,0,39)]],[.row]⟩,zm93,λx=>QM x⟩
theorem Gq:KT 208 Kk:=kV [(225,[Jt])] [] ⟨[],[(3,⟨⟨.norm,[3,11],[],ZIR,[]⟩,[zm71],[],[],[]⟩),(11,⟨⟨.norm,[6,27],[],zm87,[]⟩,[⟨(.exit 2),[6],[],ZNG,[]⟩],[],[(24,none)],[]⟩)],[],[],[],[]⟩ ⟨ZDa,trivial⟩
abbrev XP:SP:=⟨⟨[ZIS,.c (.fn 145)],[.row]⟩,⟨[.bor zm7 0 31],[.row]⟩,λx=>ZNQ x⟩
theorem VK:KT 209 XP:=kG0 (ZRW UR.2 UR.1 _ ZIw ZRt)
abbrev Q0:SP:=⟨ZNG,zm94,λx=>Ye x⟩
theorem JR:KT 13 Q0:=kV [] [] zm2 trivial (λx=>SS (b:=Qx x) (by kernel_rfl) (Uu x))
abbrev ZBr:SP:=⟨⟨[.ag 5,.d zm7 [],.ag 5,.d zm7 []],[]⟩,UK,λx=>D8 x.1 x.2⟩
theorem ZIm:KT 211 ZBr:=kV [] [] zm2 trivial
abbrev QE:SP:=⟨⟨[ZIS,.c (.fn 211)],[.row]⟩,⟨[.d Kv []],[.row]⟩,λx=>Yv x⟩
theorem W7:KT 210 QE:=kV [(211,[ZBr])] [31,61] ⟨[(48197,⟨[⟨.norm,[0,5,6],[],⟨[.d Kv [(0,100,31)],ZR,.rv zm7 100],[]⟩,[(0,none)]⟩],[],[(0,none)]⟩)],[(9,⟨⟨.norm,[0,5,6,7],[],⟨[.d Kv [(0,100,31)],ZR,.rv zm7 100,ZR],[]⟩,[(0,none)]⟩,[⟨(.exit 2),[0,5],[],⟨[.d Kv [(0,100,31)],ZR],[]⟩,[(0,none)]⟩],[],[(0,none)],[]⟩),(4,⟨⟨.norm,[0,5],[],⟨[.d Kv [(0,100,31)],ZR],[]⟩,[(0,none)]⟩,[⟨.ret,[4],[],ZQG,[]⟩,⟨(.exit 0),[0],[],⟨[.d Kv [(0,100,31)]],[]⟩,[(0,none)]⟩],[],[(0,none)],[]⟩)],[],[],[0],[]⟩ ⟨ZIm,trivial⟩
abbrev c_dead_Join:SP:=⟨⟨[.d Kv [],ZIS],[.row]⟩,⟨[.d Kv [(0,1,31)],ZR],[.row,.row]⟩,λx=>ZJe x.1 x.2⟩
theorem ZJ3 (q:(List Ptr)→Option Int)(a:(List Ptr)→Option (Int×List Ptr))(b:(List (List Ptr))→Option (List Ptr×List (List Ptr)))(e:(List Ptr)→Option (List Ptr))(f:(List Ptr)→Option (List Ptr×List Ptr))(g:(List Ptr)→Option (List Ptr))(x:VH (hyS c_dead_Join.i)):fnV (mkX Tryz.prog TY NT [] [(94,[⟨ZNG,zm68,λx=>a x⟩,⟨ZQG,X8,λx=>q x⟩]),(208,[⟨⟨[.d (.sl Kv) [(0,0,39)]],[.row]⟩,zm93,λx=>b x⟩]),(209,[⟨⟨[ZIS,.c (.fn 145)],[.row]⟩,⟨[.bor zm7 0 31],[.row]⟩,λx=>e x⟩]),(13,[⟨ZNG,zm94,λx=>f x⟩]),(210,[⟨⟨[ZIS,.c (.fn 211)],[.row]⟩,⟨[.d Kv []],[.row]⟩,λx=>g x⟩])] []) zm52 178 c_dead_Join.i c_dead_Join.o x=ZFK q a b e f g x.1 x.2:=by kernel_rfl
theorem ZMH:KT 178 c_dead_Join:=kV [(94,[UA,UZ]),(208,[Kk]),(209,[XP]),(13,[Q0]),(210,[QE])] [] zm52 ⟨Bs,BN,Gq,VK,JR,W7,trivial⟩ (λx=>ZJ3 KW WH QM ZNQ Ye Yv x)
abbrev ZIB:SP:=⟨⟨[.d Kv [],.ag 5,.d zm7 []],[]⟩,zm87,λx=>ZMp x.1 x.2⟩
theorem ZNs:KT 149 ZIB:=kV [(94,[UA]),(178,[c_dead_Join])] [] zm2 ⟨Bs,ZMH,trivial⟩
abbrev ZGB:Pv.Sp:=⟨[.ptr 0 0,.rel Yr 1 0,.ag 5,.d zm7 []],[.cells 21 [.d zm5 [(11,2,3),(12,1,41),(13,3,26),(14,4,26)]],.row,.row,.row,.row]⟩
abbrev QD:SP:=⟨ZGB,zm69,λx=>Q6 x.1 x.2.1 x.2.2⟩
theorem KP:KT 107 QD:=kV [(55,[ZBf]),(70,[UY]),(149,[ZIB])] [] ⟨[(4,zm0 20),(20129,⟨[⟨.norm,[6],[],ZPS,[]⟩],[],[]⟩),(44217,⟨[⟨.norm,[],[(0,0,21)],zm36,[(0,some 11),(1,none),(0,some 13),(0,some 14)]⟩],[(0,0,21)],[(9,none)]⟩),(60285,⟨[⟨.norm,[],[(0,0,21)],⟨[Wz,zm4,.d zm7 [],.rr 100,.d ZCz [(0,101,41)],.rr 102,.rr 103,ZA4,ZR,ZR,zm4,zm4,ZR],[]⟩,[(0,some 11),(1,none),(0,some 13),(0,some 14)]⟩],[(0,0,21)],[(1,none),(10,none)]⟩),(48032161,⟨[⟨.norm,[8],[(0,0,21)],⟨[Wz,zm4,.d zm7 [],.rr 100,.d ZCz [(0,101,41)],.rr 102,.rr 103,ZA4,ZR,ZR,zm4,zm4,ZR,ZR],[]⟩,[(0,some 11),(1,none),(0,some 13),(0,some 14)]⟩],[(0,0,21)],[(1,none)]⟩),(76000321,zm0 80)],[],[],[(3,[9])],[],[]⟩ ⟨ZIa,BJ,ZNs,trivial⟩
abbrev GL:SP:=⟨⟨[.ag 5,Wz,zm4,ZR,ZB1],[]⟩,X8,λx=>DS x.1 x.2.1 x.2.2.1 x.2.2.2⟩
theorem ZBO:KT 205 GL:=kV [(51,[Yq])] [] ⟨[(16,zm0 22)],[(7,⟨⟨.norm,[2,25],[],ZPT,[]⟩,[⟨.ret,[8],[],⟨[.c (.i 3)],[]⟩,[]⟩,ZQL],[],[],[]⟩)],[],[],[],[]⟩ ⟨XV,trivial⟩
abbrev Y2:SP:=⟨ZIR,zm8,λx=>Zz x.1 x.2⟩
theorem Yz:KT 82 Y2:=kV [(135,[Bf])] [] ⟨[(4,zm0 20)],[(4,⟨⟨.norm,[0,6],[],⟨[ZR,.d KQ [(0,0,5)]],[.row]⟩,[]⟩,[⟨(.exit 0),[6],[],zm3,[]⟩],[],[],[]⟩)],[],[],[],[]⟩ ⟨ZDe,trivial⟩
abbrev U8:SP:=⟨⟨[.c (.nils),ZR],[]⟩,zm3,λx=>Yk x⟩
theorem ZCQ:KT 165 U8:=kG0 ZRY
abbrev YH:SP:=⟨ZJt,zm3,λx=>Zc x⟩
theorem YF:KT 134 YH:=kV [(165,[U8])] [] ⟨[],[(3,⟨⟨.norm,[3,11],[],ZIR,[]⟩,[zm71],[],[],[]⟩),(11,⟨⟨.norm,[6,27],[],zm8,[]⟩,[⟨(.exit 2),[6],[],zm3,[]⟩],[],[(24,none)],[]⟩)],[],[],[],[]⟩ ⟨ZCQ,trivial⟩
abbrev ZAz:SP:=⟨JP,zm3,λx=>ZAo x⟩
theorem ZAr:KT 133 ZAz:=kV [(141,[ZCs]),(82,[Y2])] [] ⟨[],[],[(3,5)],[],[],[]⟩ ⟨ZHj,Yz,trivial⟩
abbrev UC:SP:=⟨⟨[zm6,zm4],[]⟩,⟨[.clo 221 0 2,.ptr 0 0,.ptr 1 0],[.cells 1 [zm6],.cells 1 [zm6]]⟩,λx=>ZBb x.1 x.2⟩
theorem ZF6:KT 199 UC:=kV [(82,[Y2])] [] zm2 ⟨Yz,trivial⟩
abbrev c_cipher_Stream:SP:=⟨⟨[zm6,zm4,ZR],[]⟩,zm8,λx=>ZBc x.1 x.2.1 x.2.2⟩
theorem ZEG (p:List UInt8→List UInt8→Rn (List UInt8))(x:VH (hyS c_cipher_Stream.i)):fnR (mkX Tryz.prog TY NT [] [(199,[UC]),(118,[Z7])] []) (lkI (ITp p)) zm47 173 c_cipher_Stream.i c_cipher_Stream.o x=Bu p x.1 x.2.1 x.2.2:=by kernel_rfl
theorem ZF7:KT 173 c_cipher_Stream:=kr hn [(199,[UC]),(118,[Z7])] [] [] IT (PG ZJV (PG ZJW (PG ZJU (PG ZOx (PG (ZNt Yz.2 YF.2 ZAr.2) (P3)))))) zm47 (by kernel_rfl) ⟨ZF6,Ym,trivial⟩ (λx=>ZEG pcR x)
abbrev ZBx:SP:=⟨zm90,zm8,λx=>ZFL x.1 x.2.1 x.2.2⟩
theorem ZIs:KT 142 ZBx:=kV [(173,[c_cipher_Stream])] [] ⟨[],[(7,⟨⟨.norm,[8,30],[],⟨[.d KQ [(0,100,5)],ZR],[]⟩,[(26,none)]⟩,[⟨(.exit 1),[8],[],⟨[.d KQ [(0,100,5)]],[]⟩,[(26,none)]⟩],[],[(26,none)],[]⟩)],[],[],[],[]⟩ ⟨ZF7,trivial⟩
abbrev GM:SP:=⟨zm90,zm8,λx=>Da x.1 x.2.1 x.2.2⟩
theorem ZBP:KT 90 GM:=kV [(142,[ZBx])] [] ⟨[(4,zm0 15)],[],[],[],[],[]⟩ ⟨ZIs,trivial⟩
abbrev ZFY:SP:=⟨ZJt,zm3,λx=>ZEZ x⟩
theorem ZMD:KT 166 ZFY:=kV [(134,[YH]),(133,[ZAz])] [] zm2 ⟨YF,ZAr,trivial⟩
abbrev c_mac_Tag:SP:=⟨ZPU,⟨[zm4,ZR],[]⟩,λx=>ZGQ x.1 x.2⟩
theorem ZNM (q:(List (List UInt8))→Option (List UInt8))(a:(List (List UInt8))→Option (List UInt8))(b:(List UInt8)→Option UInt32)(x:VH (hyS c_mac_Tag.i)):fnV (mkX Tryz.prog TY NT [] [(166,[⟨ZJt,zm3,λx=>q x⟩]),(134,[⟨ZJt,zm3,λx=>a x⟩]),(89,[⟨JP,ZPS,λx=>b x⟩])] []) zm2 136 c_mac_Tag.i c_mac_Tag.o x=ZJN q a b x.1 x.2:=by kernel_rfl
theorem ZJT:KT 136 c_mac_Tag:=kV [(166,[ZFY]),(134,[YH]),(89,[ZAy])] [] zm2 ⟨ZMD,YF,ZEc,trivial⟩ (λx=>ZNM ZEZ Zc UO x)
abbrev c_seal_tagged:SP:=⟨zm90,⟨[zm4,ZR],[]⟩,λx=>Db x.1 x.2.1 x.2.2⟩
theorem ZGn (q:Int→Int→Option (List UInt8×Int))(a:(List (List UInt8))→Option (List UInt8))(b:(List UInt8)→(List UInt8)→Option (UInt32×Int))(x:VH (hyS c_seal_tagged.i)):fnV (mkX Tryz.prog TY NT [] [(82,[⟨ZIR,zm8,λx=>q x.1 x.2⟩]),(134,[⟨ZJt,zm3,λx=>a x⟩]),(136,[⟨ZPU,⟨[zm4,ZR],[]⟩,λx=>b x.1 x.2⟩])] []) zm2 91 c_seal_tagged.i c_seal_tagged.o x=ZBJ q a b x.1 x.2.1 x.2.2:=by kernel_rfl
theorem ZBQ:KT 91 c_seal_tagged:=kV [(82,[Y2]),(134,[YH]),(136,[c_mac_Tag])] [] zm2 ⟨Yz,YF,ZJT,trivial⟩ (λx=>ZGn Zz Zc ZGQ x)
abbrev ZFU:SP:=⟨zm90,⟨[zm6,zm4,ZR],[]⟩,λx=>ZI4 x.1 x.2.1 x.2.2⟩
theorem ZL9:KT 206 ZFU:=kV [(90,[GM]),(91,[c_seal_tagged])] [] zm2 ⟨ZBP,ZBQ,trivial⟩
abbrev ZDx:SP:=⟨JP,⟨[.clo 237 0 2,.ptr 0 0,.ptr 1 0],[.cells 1 [.c (.i (-1))],.cells 1 [zm6]]⟩,λx=>ZGt x⟩
theorem ZKV:KT 228 ZDx:=kV [] [] zm2 trivial
abbrev ZAI:SP:=⟨⟨[.ptr 0 0,.ptr 1 0],[.cells 1 [ZR],.cells 1 [zm6]]⟩,⟨[ZR],[.cells 1 [ZR],.cells 1 [zm6]]⟩,λx=>ZC7 x.1 x.2⟩
theorem ZHe:KT 237 ZAI:=kV [] [] ⟨[],[(2,⟨⟨.norm,[],[(0,0,1)],X8,[]⟩,[⟨.ret,[2],[(0,0,1)],ZIR,[]⟩,⟨(.exit 0),[],[(0,0,1)],X8,[]⟩],[(0,0,1)],[],[]⟩)],[],[],[],[]⟩ trivial
abbrev ZDy:SP:=⟨JP,⟨[.d KQ [(0,0,5)],ZR,ZR],[.row]⟩,λx=>ZGu x⟩
theorem ZKW:KT 224 ZDy:=kV [(93,[KD]),(228,[ZDx]),(237,[ZAI]),(26,[XW])] [] zm2 ⟨WE,ZKV,ZHe,QJ,trivial⟩
abbrev ZBp:SP:=⟨zm86,zm83,λx=>ZFI x⟩
theorem ZIk:KT 160 ZBp:=kV [] [] zm2 trivial
abbrev G2:SP:=⟨⟨[.ag 2,zm9,Vk,.clo 160 0 1,.ptr 0 0],[.cells 2 [zm9]]⟩,zm77,λx=>VS x.1 x.2.1 x.2.2⟩
theorem ZEe:KT 122 G2:=kV [(92,[Kn]),(160,[ZBp])] [] zm2 ⟨Wj,ZIk,trivial⟩
abbrev Km:SP:=⟨⟨[.d (.sl (.st .Write)) []],[]⟩,⟨[.cl (.st .Write)],[]⟩,λx=>QN x⟩
theorem Gs:KT 161 Km:=kV [] [] zm2 trivial
abbrev ZAN:SP:=⟨⟨[.ag 2,zm9,ZR,zm6],[]⟩,zm81,λx=>Gu x.1 x.2.1 x.2.2⟩
theorem ZFC:KT 127 ZAN:=kV [(139,[Ju]),(122,[G2]),(161,[Km]),(71,[Bc])] [] ⟨[(4,⟨[⟨.norm,[9],[(3,0,2)],⟨[zm9,ZR],[]⟩,[]⟩],[(3,0,2)],[]⟩)],[],[],[(1,[4]),(8,[12])],[],[]⟩ ⟨Dv,ZEe,Gs,ZCX,trivial⟩ (λx=>SS (b:=D4 x.1 x.2.1 x.2.2) (by kernel_rfl) (ZKI x.1 x.2.1 x.2.2))
abbrev ZAH:SP:=⟨⟨[.ag 5,Wz,.ag 5,.d zm7 [],zm6],[]⟩,zm45,λx=>GX x.1 x.2.1 x.2.2⟩
theorem ZFA:KT 207 ZAH:=kV [(224,[ZDy]),(127,[ZAN]),(89,[ZAy])] [] ⟨[(28,⟨[⟨.norm,[],[(6,0,5)],⟨[zm9,.rr 100,zm4,zm4],[]⟩,[(13,none)]⟩],[(6,0,5)],[]⟩)],[],[],[(7,[5]),(9,[2])],[],[]⟩ ⟨ZKW,ZFC,ZEc,trivial⟩ (λx=>SS (b:=DP x.1 x.2.1 x.2.2) (by kernel_rfl) (ZKG x.1 x.2.1 x.2.2))
abbrev ZDv:SP:=⟨⟨[.ag 5,Wz,zm4,zm6,zm6],[]⟩,zm45,λx=>ZGq x.1 x.2.1 x.2.2.1 x.2.2.2⟩
theorem ZKT:KT 177 ZDv:=kV [(205,[GL]),(206,[ZFU]),(207,[ZAH])] [] zm2 ⟨ZBO,ZL9,ZFA,trivial⟩
abbrev ZGA:Pv.Sp:=⟨[.ptr 0 0,.rel Yr 1 0,.ag 5,.d zm7 [],.ag 12,.d Q1 []],[.cells 21 [.d zm5 [(11,2,3),(12,1,41),(13,3,26),(14,4,26)]],.row,.row,.row,.row]⟩
abbrev ZFs:Pv.Sp:=zm57
abbrev Bw:SP:=⟨ZGA,ZFs,λx=>J8 x.1 x.2.1 x.2.2.1 x.2.2.2⟩
theorem ZFw:KT 147 Bw:=kV [(107,[QD]),(177,[ZDv])] [] ⟨[(8,zm0 30)],[],[],[(8,[22])],[],[]⟩ ⟨KP,ZKT,trivial⟩
abbrev Xp:SP:=⟨⟨[.d Kv [],.c (.fn 197)],[]⟩,X8,λx=>QS x⟩
theorem Wg:KT 150 Xp:=kV [(197,[GN])] [] zm16 ⟨ZBR,trivial⟩
abbrev XR:SP:=⟨⟨[.d Kv [],.c (.fn 197)],[]⟩,UK,λx=>Xd x⟩
theorem VN:KT 108 XR:=kV [(150,[Xp])] [] zm2 ⟨Wg,trivial⟩
abbrev ZAM:SP:=⟨⟨[.ag 4,.d ZC0 []],[]⟩,X8,λx=>ZDM x⟩
theorem ZHi:KT 169 ZAM:=kV [(196,[GO]),(108,[XR])] [] ⟨[(12,zm0 36)],[],[],[],[],[]⟩ ⟨ZBS,VN,trivial⟩
abbrev Wv:SP:=⟨ZQH,zm8,λx=>Vt x⟩
theorem Wi:KT 115 Wv:=kV [(52,[Z9]),(155,[ZAL]),(82,[Y2])] [] ⟨[],[],[(6,6)],[],[],[]⟩ ⟨YG,ZFB,Yz,trivial⟩
abbrev G0:SP:=⟨ZQG,ZJu,λx=>ZDI x⟩
theorem ZAq:KT 110 G0:=kG0 (ZTC Wi.2)
abbrev ZFW:SP:=⟨⟨[.ag 4,.d ZC0 []],[]⟩,zm8,λx=>ZJJ x⟩
theorem ZMB:KT 148 ZFW:=kV [(169,[ZAM]),(82,[Y2]),(110,[G0])] [21] ⟨[],[],[],[(6,[9])],[],[]⟩ ⟨ZHi,Yz,ZAq,trivial⟩
abbrev ZFR:SP:=⟨⟨[.ag 5,Wz,zm4,zm4,zm4,zm6],[]⟩,zm45,λx=>ZI1 x.1 x.2.1 x.2.2.1 x.2.2.2.1 x.2.2.2.2⟩
theorem ZL6:KT 179 ZFR:=kV [(205,[GL]),(207,[ZAH])] [] zm2 ⟨ZBO,ZFA,trivial⟩
abbrev Jq:SP:=⟨⟨[.ag 5,Wz,zm4,zm6],[]⟩,zm45,λx=>ZEI x.1 x.2.1 x.2.2⟩
theorem Dt:KT 151 Jq:=kV [(179,[ZFR])] [] zm2 ⟨ZL6,trivial⟩
abbrev ZHs:Pv.Sp:=⟨[.ptr 0 0,zm6],[.cells 21 [.d zm5 [(11,1,3),(12,2,41),(13,3,26),(14,4,26)]],.row,.row,.row,.row]⟩
abbrev ZG9:Pv.Sp:=⟨[.ag 5,.d zm7 []],[.cells 21 [.d zm5 [(11,1,3),(12,2,41),(13,3,26),(14,4,26)]],.row,.row,.row,.row]⟩
abbrev Qo:SP:=⟨ZHs,ZG9,λx=>K5 x.1 x.2⟩
theorem VJ:KT 111 Qo:=kV [(151,[Jq])] [] ⟨[],[],[],[(2,[20])],[],[]⟩ ⟨Dt,trivial⟩
abbrev ZDh:Pv.Sp:=⟨[.ptr 0 0,.rel Yr 1 0,.ag 5,.d zm7 [],.ag 5,.d zm7 [],.cl Q1],[.cells 21 [.d zm5 [(11,2,3),(12,1,41),(13,3,26),(14,4,26)]],.row,.row,.row,.row]⟩
abbrev ZDN:Pv.Sp:=zm57
abbrev VW:SP:=⟨ZDh,ZDN,λx=>KH x.1 x.2.1 x.2.2.1 x.2.2.2.1 x.2.2.2.2⟩
theorem Jj:KT 106 VW:=kV [(48,[Ba]),(147,[Bw]),(107,[QD]),(148,[ZFW]),(111,[Qo])] [] ⟨[(12089,⟨[⟨.norm,[],[(0,0,21),(11,0,4)],⟨[Wz,zm4,.d zm7 [],.rr 100,.rr 101,.rr 102,.rr 103,ZA4,ZR,ZR,zm4,zm4,ZR,.d ZC0 [(3,0,31)]],[.row]⟩,[(0,some 11),(1,none),(0,some 13),(0,some 14)]⟩],[(0,0,21),(11,0,4)],[(18,none)]⟩)],[(5,⟨⟨.norm,[1,42],[(0,0,21),(10,0,5),(11,0,4)],⟨[.d zm5 [(11,100,3),(12,101,41),(13,102,26),(14,103,26)],.d zm7 [],.d ZC0 [(3,104,31)],.rel Yr 101 0,ZR],[]⟩,[(0,some 11),(1,none),(0,some 13),(0,some 14),(11,some 3)]⟩,[⟨.ret,[],[(0,0,21),(10,0,5),(11,0,4)],⟨[.d zm5 [(11,100,3),(12,101,41),(13,102,26),(14,103,26)],.d zm7 [],.d ZC0 [(3,104,31)]],[]⟩,[(0,some 11),(1,none),(0,some 13),(0,some 14),(11,some 3)]⟩,⟨(.exit 0),[1],[(0,0,21),(10,0,5),(11,0,4)],⟨[.d zm5 [(11,100,3),(12,101,41),(13,102,26),(14,103,26)],.d zm7 [],.d ZC0 [(3,104,31)],.rel Yr 101 0],[]⟩,[(0,some 11),(1,none),(0,some 13),(0,some 14),(11,some 3)]⟩],[(0,0,21),(10,0,5),(11,0,4)],[(1,none),(0,some 11),(0,some 13),(0,some 14),(11,some 3)],[]⟩),(16,⟨⟨.norm,[1,90],[(0,0,21)],⟨[.d zm5 [(11,100,3),(12,101,41),(13,102,26),(14,103,26)],.rel Yr 101 0,ZR],[]⟩,[(0,some 11),(1,none),(0,some 13),(0,some 14)]⟩,[⟨(.exit 2),[],[(0,0,21)],zm82,[(0,some 11),(1,none),(0,some 13),(0,some 14)]⟩],[(0,0,21)],[(1,none),(0,some 11),(0,some 13),(0,some 14)],[]⟩)],[],[(3,[15]),(10,[7]),(11,[13])],[],[]⟩ ⟨ZDb,ZFw,KP,ZMB,VJ,trivial⟩ (λx=>SS (b:=Kw x.1 x.2.1 x.2.2.1 x.2.2.2.1 x.2.2.2.2) (by kernel_rfl) (ZCE x.1 x.2.1 x.2.2.1 x.2.2.2.1 x.2.2.2.2))
abbrev Ws:SP:=⟨ZQH,UK,λx=>Ui x⟩
theorem Dp:KT 109 Ws:=kV [] [] zm2 trivial
abbrev Xo:SP:=⟨⟨[.d Kv [],.c (.fn 109)],[]⟩,X8,λx=>QR x⟩
theorem We:KT 150 Xo:=kV [(109,[Ws])] [] zm16 ⟨Dp,trivial⟩
abbrev YN:SP:=⟨⟨[.d Kv [],.c (.fn 109)],[]⟩,UK,λx=>Xc x⟩
theorem XM:KT 108 YN:=kV [(150,[Xo])] [] zm2 ⟨We,trivial⟩
abbrev ZCc:Pv.Sp:=⟨[.ptr 0 0,.rel Yr 1 0,ZA4],[.cells 21 [.d zm5 [(2,2,5),(11,3,3),(12,1,41),(13,4,26),(14,5,26)]],.row,.row,.row,.row,.row]⟩
abbrev U6:SP:=⟨ZCc,⟨[],[.cells 21 [.d zm5 [(11,3,3),(12,1,41),(13,4,26),(14,5,26)]],.row,.row,.row,.row,.row]⟩,λx=>Vl x.1 x.2.1 x.2.2⟩
theorem ZCN:KT 72 U6:=kV [(86,[BZ]),(104,[YM]),(106,[VW]),(107,[QD]),(108,[YN]),(110,[G0]),(111,[Qo])] [] ⟨[(0,zm0 21),(16,zm0 50),(32237,ZQJ 9),(36,zm39)],[(4,⟨zm31,[zm65],[(0,0,21)],[(1,none),(0,some 11),(0,some 13),(0,some 14),(33,none)],[]⟩)],[],[(1,[9]),(9,[16])],[2],[]⟩ ⟨ZCU,XL,Jj,KP,XM,ZAq,VJ,trivial⟩ (λx=>SS (b:=KR x.1 x.2.1 x.2.2) (by kernel_rfl) (UH x.1 x.2.1 x.2.2))
abbrev DH:Pv.Sp:=⟨[.ptr 0 0,.rel Yr 1 0,ZA4],[.cells 21 [.d zm5 [(11,2,3),(12,1,41),(13,3,26),(14,4,26)]],.row,.row,.row,.row]⟩
abbrev Vg:SP:=⟨DH,zm69,λx=>Z4 x.1 x.2.1 x.2.2⟩
theorem DD:KT 72 Vg:=kV [(86,[BZ]),(104,[YM]),(106,[VW]),(107,[QD]),(108,[YN]),(110,[G0]),(111,[Qo])] [] ⟨[(0,zm0 21),(16,zm0 50),(32237,ZQJ 9),(36,zm39)],[(4,⟨zm31,[zm65],[(0,0,21)],[(1,none),(0,some 11),(0,some 13),(0,some 14),(33,none)],[]⟩)],[],[(9,[16])],[],[]⟩ ⟨ZCU,XL,Jj,KP,XM,ZAq,VJ,trivial⟩ (λx=>SS (b:=Ve x.1 x.2.1 x.2.2) (by kernel_rfl) (BE x.1 x.2.1 x.2.2))
abbrev VY:SP:=⟨⟨[.d Kv [],ZR],[]⟩,⟨[.clo 180 0 2,.ptr 0 0,.ptr 1 0],[.cells 1 [.d Kv []],.cells 1 [ZR]]⟩,λx=>WX x.1 x.2⟩
theorem BL:KT 153 VY:=kV [] [] zm2 trivial
end
end Go.Proofs.YtfpffkecbhkbkaaGreatDoor
