import Derived.Test.YtooeopogefefiaaGreatDoorK2
/- what is proved here: contracts by value. -/
set_option linter.unusedVariables false
namespace Go.Proofs.YtooeopogefefiaaGreatDoor
open Go Go.Ow Go.Pv Go.Proofs
set_option maxRecDepth 20000
noncomputable section
abbrev ZKY:Pv.Sp:=⟨[.d K9 [],.ptr 0 0,.ptr 1 0,.ptr 2 0,.ptr 3 0,.ptr 4 0],[.cells 5 [WQ],.cells 1 [zm4],.cells 5 [.d zm7 []],.cells 1 [ZQ],.cells 1 [.d (.sl .i) [(0,5,3)]],.row]⟩
abbrev ZKI:Pv.Sp:=⟨[],[.cells 5 [.d (.st .Store) [(2,6,5)]],.cells 1 [zm4],.cells 5 [.d zm7 []],.cells 1 [ZQ],.cells 1 [.d (.sl .i) [(0,7,3)]],.row,.row,.row]⟩
abbrev ZEN:SP:=⟨ZKY,ZKI,λx=>Uv x.1 x.2.1 x.2.2.1 x.2.2.2.1 x.2.2.2.2.1 x.2.2.2.2.2⟩
theorem ZKW:KT 136 ZEN:=kV [(80,[BB]),(135,[Jv])] [] ⟨[],[],[],[],[],[5]⟩ ⟨ZBL,ZAJ,trivial⟩
abbrev ZIF:SP:=⟨⟨[.ag 5,WQ,zm4,.d K9 []],[]⟩,⟨[.ag 5,ZM5,.ag 5,.d zm7 [],.d (.sl .i) [(0,1,3)],ZQ],[.row,.row]⟩,λx=>Uw x.1 x.2.1 x.2.2⟩
theorem ZNa:KT 83 ZIF:=kR [(60,[Y4]),(123,[UV]),(69,[Bu]),(137,[VZ]),(136,[ZEN])] [] ⟨[(4,zm0 20),(12,zm0 28),(52,zm34),(68,zm34)],[(11,⟨⟨.norm,[],[(3,0,5),(4,0,1),(6,0,5),(7,0,5),(8,0,1),(9,0,1),(11,0,1)],⟨[WQ,zm4,.d (.st .Store) [(0,0,26),(1,1,117),(2,2,5)],.d zm7 [],.d (.sl .i) [(0,3,3)],ZQ,.d K9 [(0,4,31)]],[.row,.row,.row,.row,.row]⟩,[]⟩,[⟨.ret,[],[(3,0,5),(4,0,1),(6,0,5),(7,0,5),(8,0,1),(9,0,1),(11,0,1)],⟨[ZM5,zm4,.d (.st .Store) [(0,1,26),(1,2,117),(2,3,5)],.d zm7 [],.c (.nils),ZQ,.d K9 [(0,4,31)]],[.row,.row,.row,.row,.row]⟩,[]⟩],[(3,0,5),(4,0,1),(6,0,5),(7,0,5),(8,0,1),(9,0,1),(11,0,1)],[],[]⟩)],[],[(13,[3]),(17,[3]),(18,[3])],[],[]⟩ ⟨Xk,Bf,ZDm,Bd,ZKW,trivial⟩ (λx=>SQ (b:=ZDD x.1 x.2.1 x.2.2) (by kernel_rfl) (ZLg x.1 x.2.1 x.2.2))
abbrev ZFi:SP:=⟨ZGs,zm98,λ_=>Gb⟩
theorem ZLv:KT 138 ZFi:=kV [] [] zm2 trivial
abbrev ZE4:SP:=⟨⟨[ZJn,ZJn],[]⟩,zm3,λx=>BK x.1 x.2⟩
theorem ZJL:KT 91 ZE4:=kV [(107,[XI])] [] ⟨[],[(2,⟨⟨.norm,[4,11],[],⟨[.d KX [(0,0,5)],.n],[.row]⟩,[]⟩,[⟨(.exit 0),[4],[],zm3,[]⟩],[],[],[]⟩)],[],[],[],[]⟩ ⟨XF,trivial⟩
abbrev Bt:SP:=⟨zm8,⟨[.d KX [(0,1,5)]],[.row,.row]⟩,λx=>Yg x.1 x.2⟩
theorem ZCs:KT 88 Bt:=kV [] [] zm2 trivial
abbrev c_txg_lineBytes:SP:=⟨⟨[.ag 13,.d Yv [],.ag 5,.d zm7 []],[]⟩,zm3,λx=>QS x.1 x.2⟩
theorem ZEY (q:Ptr->Option (List UInt8×Int))(a:Option (List Int))(b:(List Int)->(List Int)->Option (List UInt8))(c:(List (List UInt8))->Option (List UInt8))(e:(List UInt8)->Int->Option (List UInt8))(x:VH (hyS c_txg_lineBytes.i)):fnV (mkX Tryz.prog TY NT [] [(86,[⟨ZQA,zm8,λx=>q x⟩]),(138,[⟨ZGs,zm98,λ_=>a⟩]),(91,[⟨⟨[ZJn,ZJn],[]⟩,zm3,λx=>b x.1 x.2⟩]),(139,[⟨ZJo,zm3,λx=>c x⟩]),(88,[⟨zm8,⟨[.d KX [(0,1,5)]],[.row,.row]⟩,λx=>e x.1 x.2⟩])] []) zm88 84 c_txg_lineBytes.i c_txg_lineBytes.o x=Qa q a b c e x.1 x.2:=by kernel_rfl
theorem ZGH:KT 84 c_txg_lineBytes:=kV [(86,[Ws]),(138,[ZFi]),(91,[ZE4]),(139,[YI]),(88,[Bt])] [] zm88 ⟨Wh,ZLv,ZJL,YG,ZCs,trivial⟩ (λx=>SQ (b:=W0 x.1 x.2) (ZEY Qy Gb BK ZR Yg x) (ZEh x.1 x.2))
abbrev ZDy:Pv.Sp:=⟨[zm6,.ptr 0 0,.ptr 1 0,.ptr 2 0],[.cells 1 [.ptr 3 0],.cells 1 [.d (.sl .i) [(0,4,3)]],.cells 1 [.d KX [(0,5,5)]],.cells 21 [.d zm5 [(11,6,3),(12,7,41),(13,8,26),(14,9,26)]],.row,.row,.row,.row,.row,.row]⟩
abbrev ZDe:Pv.Sp:=⟨[],[.cells 1 [.ptr 3 0],.cells 1 [.d (.sl .i) [(0,10,3)]],.cells 1 [.d KX [(0,11,5)]],.cells 21 [.d zm5 [(11,6,3),(12,7,41),(13,8,26),(14,9,26)]],.row,.row,.row,.row,.row,.row,.row,.row]⟩
abbrev Js:SP:=⟨ZDy,ZDe,λx=>YN x.1 x.2.1 x.2.2.1 x.2.2.2⟩
theorem ZDj:KT 85 Js:=kV [(81,[Qv]),(86,[Ws])] [] zm36 ⟨VM,Wh,trivial⟩ (λx=>SQ (b:=VB x.1 x.2.1 x.2.2.1 x.2.2.2) (by kernel_rfl) (Ul x.1 x.2.1 x.2.2.1 x.2.2.2))
abbrev Jt:SP:=⟨⟨[.ptr 0 0,zm6],[.cells 21 [.d zm5 [(11,1,3),(12,2,41),(14,3,26)]],.row,.row,.row]⟩,⟨[.ag 5,.d zm7 []],[.cells 21 [.d zm5 [(11,1,3),(12,2,41),(14,3,26)]],.row,.row,.row]⟩,λx=>ZF2 x.1 x.2⟩
theorem ZDk:KT 81 Jt:=kV [(135,[Jv])] [] ⟨[],[],[],[(2,[20])],[],[]⟩ ⟨ZAJ,trivial⟩
abbrev ZAP:Pv.Sp:=⟨[zm6,.ptr 0 0,.ptr 1 0,.ptr 2 0],[.cells 1 [.ptr 3 0],.cells 1 [.d (.sl .i) [(0,4,3)]],.cells 1 [.d KX [(0,5,5)]],.cells 21 [.d zm5 [(11,6,3),(12,7,41),(14,8,26)]],.row,.row,.row,.row,.row]⟩
abbrev ZAA:Pv.Sp:=⟨[],[.cells 1 [.ptr 3 0],.cells 1 [.d (.sl .i) [(0,9,3)]],.cells 1 [.d KX [(0,10,5)]],.cells 21 [.d zm5 [(11,6,3),(12,7,41),(14,8,26)]],.row,.row,.row,.row,.row,.row,.row]⟩
abbrev Wp:SP:=⟨ZAP,ZAA,λx=>QB x.1 x.2.1 x.2.2.1 x.2.2.2⟩
theorem ZAF:KT 85 Wp:=kV [(81,[Jt]),(86,[Ws])] [] zm36 ⟨ZDk,Wh,trivial⟩ (λx=>SQ (b:=WR x.1 x.2.1 x.2.2.1 x.2.2.2) (by kernel_rfl) (DZ x.1 x.2.1 x.2.2.1 x.2.2.2))
abbrev DQ:SP:=⟨ZJo,zm3,λx=>WE x⟩
theorem ZGI:KT 90 DQ:=kV [(88,[Bt])] [] ⟨[],[(2,⟨⟨.norm,[2,7],[],⟨[.d KX [(0,0,5)],.n],[.row]⟩,[]⟩,[⟨(.exit 0),[2],[],zm3,[]⟩],[],[],[]⟩)],[],[],[],[]⟩ ⟨ZCs,trivial⟩
abbrev Jw:SP:=⟨zm98,⟨[.bor .i 0 3],[.row]⟩,λx=>ZG2 x⟩
theorem ZDo:KT 92 Jw:=kG0 ZSz
abbrev DM:SP:=⟨⟨[.ptr 0 0],[.cells 21 [.d zm5 [(11,1,3),(12,2,41),(13,3,26),(14,4,26)]],.row,.row,.row,.row]⟩,⟨[],[.cells 21 [.d zm5 [(11,5,3),(12,2,41),(14,4,26)]],.row,.row,.row,.row,.row]⟩,λx=>Xh x⟩
theorem ZGE:KT 41 DM:=kR [(82,[UU]),(83,[ZIF]),(84,[c_txg_lineBytes]),(88,[Bt]),(87,[Xo]),(89,[Z6]),(85,[Js,Wp]),(90,[DQ]),(91,[ZE4]),(92,[Jw])] [] ⟨[(60,⟨[⟨.norm,[9],[(0,0,21),(8,0,5)],⟨[ZM5,zm4,.d zm7 [],.rr 100,.rr 101,.rr 102,.rr 103,ZBZ,ZQ,ZQ,zm4,zm4,ZQ,.d zm7 [],.d (.sl .i) [(0,1,3)]],[.row,.row]⟩,[(18,none),(53,none),(0,some 13),(0,some 14)]⟩],[(0,0,21),(8,0,5)],[]⟩),(60253,⟨[⟨.norm,[9],[(0,0,21),(8,0,5)],⟨[WQ,zm4,.d zm7 [],.rr 100,.rr 101,.rr 102,.rr 103,ZBZ,ZQ,ZQ,zm4,zm4,ZQ,.d zm7 [],ZQF],[.row]⟩,[(18,none),(53,none),(0,some 13),(0,some 14)]⟩],[(0,0,21),(8,0,5)],[]⟩),(100,⟨[zm28],[(0,0,21),(1,0,1),(4,0,1),(10,0,1)],[(18,none),(53,none),(0,some 13),(0,some 14),(4,some 0),(111,none)]⟩),(104,⟨[⟨.norm,[13],[],zm3,[]⟩],[],[]⟩),(108,⟨[zm28],[(0,0,21),(1,0,1),(4,0,1),(10,0,1)],[(18,none),(53,none),(0,some 14),(4,some 0),(10,some 0),(13,none)]⟩)],[(2,⟨⟨.norm,[20],[(0,0,21)],⟨[WQ,zm4,.d zm7 [],.rr 100,.rr 101,.rr 102,.rr 103,ZBZ,ZQ,ZQ,zm4,zm4,ZQ,ZQ],[]⟩,[(18,none),(0,some 12),(0,some 13),(0,some 14)]⟩,[⟨.ret,[],[(0,0,21)],zm37,[(18,none),(0,some 12),(0,some 13),(0,some 14)]⟩,⟨(.exit 0),[],[(0,0,21)],zm37,[(18,none),(0,some 12),(0,some 13),(0,some 14)]⟩],[(0,0,21)],[],[]⟩),(10,⟨⟨.norm,[5,55],[(0,0,21),(4,0,1)],⟨[WQ,zm4,.d zm7 [],.rr 100,.rr 101,.rr 102,.rr 103,ZBZ,ZQ,ZQ,zm4,zm4,ZQ,ZQF,.d KX [(0,1,5)],ZQ],[.row,.row]⟩,[(18,none),(53,none),(0,some 13),(0,some 14)]⟩,[⟨(.exit 2),[5],[(0,0,21),(4,0,1)],⟨[WQ,zm4,.d zm7 [],.rr 100,.rr 101,.rr 102,.rr 103,ZBZ,ZQ,ZQ,zm4,zm4,ZQ,ZQF,.d KX [(0,1,5)]],[.row,.row]⟩,[(18,none),(53,none),(0,some 13),(0,some 14)]⟩],[(0,0,21),(4,0,1)],[],[]⟩),(23,⟨⟨.norm,[],[(0,0,21),(1,0,1),(4,0,1),(10,0,1)],⟨[.d zm5 [(11,100,3),(12,101,41),(13,102,26),(14,103,26)],.ptr 104 0,ZQF,.d KX [(0,1,5)]],[.row,.row]⟩,[(18,none),(53,none),(0,some 13),(0,some 14),(0,none)]⟩,[],[(0,0,21),(1,0,1),(4,0,1),(10,0,1)],[(18,none),(53,none),(0,some 13),(0,some 14),(4,some 0)],[]⟩)],[],[(5,[17]),(15,[22]),(23,[4]),(25,[6]),(27,[2])],[3],[1]⟩ ⟨Bb,ZNa,ZGH,ZCs,KA,Yw,ZDj,ZAF,ZGI,ZJL,ZDo,trivial⟩ (λx=>SQ (b:=Wz x) (by kernel_rfl) (ZEg x))
abbrev ZAi:SP:=⟨ZQB,zm42,λx=>UW x⟩
theorem ZFN:KT 17 ZAi:=kV [(34,[Ju]),(36,[V4]),(39,[XP]),(38,[X1]),(37,[U4,Vi]),(41,[DM])] [] ⟨[(8,zm0 18),(12073,⟨[⟨.norm,[],[(2,0,21)],⟨[.d zm5 [(0,0,26),(1,1,117),(2,2,5),(11,3,3),(12,4,41),(13,5,26),(14,6,26),(15,7,57)]],[.row,.row,.row,.row,.row,.row,.row,.row]⟩,[]⟩],[(2,0,21)],[]⟩),(24,⟨[⟨.norm,[],[(2,0,21)],⟨[.d zm5 [(2,0,5),(11,1,3),(12,2,41),(13,3,26),(14,4,26),(15,5,57)]],[.row,.row,.row,.row,.row,.row]⟩,[]⟩],[(2,0,21)],[]⟩)],[(8,⟨⟨.norm,[45],[(2,0,21)],⟨[.d zm5 [(11,100,3),(12,101,41),(13,102,26),(14,103,26)],ZQ],[]⟩,[(2,some 11),(43,none),(2,some 13),(2,some 14)]⟩,[⟨(.exit 0),[],[(2,0,21)],zm85,[(2,some 11),(43,none),(2,some 13),(2,some 14)]⟩],[(2,0,21)],[(2,some 2),(2,some 11),(43,none),(2,some 13),(2,some 14),(2,some 15)],[]⟩)],[],[(6,[9]),(11,[9])],[],[]⟩ ⟨ZAI,Us,Q5,Vx,ZCr,Da,ZGE,trivial⟩ (λx=>SQ (b:=Dj x) (by kernel_rfl) (ZKD x))
abbrev ZCM:SP:=⟨zm89,zm86,λx=>ZMU x⟩
theorem ZIq:KT 94 ZCM:=kV [(95,[ZDI])] [] zm2 ⟨ZHk,trivial⟩
abbrev BC:SP:=⟨⟨[.ag 2,zm9,Vm,.clo 94 0 1,.ptr 0 0],[.cells 2 [zm9]]⟩,zm80,λx=>ZAT x.1 x.2.1 x.2.2⟩
theorem ZEu:KT 93 BC:=kV [(97,[K6]),(94,[ZCM])] [] zm2 ⟨Wi,ZIq,trivial⟩
abbrev ZAr:SP:=⟨ZM4,zm84,λx=>G4 x⟩
theorem ZFS:KT 42 ZAr:=kV [(93,[BC])] [] zm2 ⟨ZEu,trivial⟩
abbrev ZFt:SP:=⟨⟨[.ag 7,.d (.st .Label) []],[]⟩,UH,λx=>ZBI x⟩
theorem ZL6:KT 98 ZFt:=kV [(61,[Z8])] [] zm2 ⟨YH,trivial⟩
abbrev ZEL:SP:=⟨ZPE,QY,λx=>ZCq x⟩
theorem ZKU:KT 100 ZEL:=kV [] [] zm2 trivial
abbrev VY:SP:=⟨zm3,⟨[.d KX [(0,1,5)],.bor .w8 0 5],[.row,.row]⟩,λx=>XV x⟩
theorem Bc:KT 89 VY:=kV [] [] zm2 trivial (λx=>SQ (b:=VG x) (by kernel_rfl) (Gq x))
abbrev Vl:SP:=⟨zm3,⟨[.cl .w8],[.row]⟩,λx=>UE x⟩
theorem Dd:KT 191 Vl:=kV [] [] zm2 trivial
abbrev ZCH:SP:=⟨zm3,⟨[.ag 4,zm4,zm4,zm4,zm4,.bor .w8 0 5],[.row]⟩,λx=>Jg x⟩
theorem ZIl:KT 161 ZCH:=kR [(89,[VY]),(191,[Vl]),(87,[QI]),(192,[By]),(193,[Vb])] [32] zm30 ⟨Bc,Dd,VT,ZDs,Jl,trivial⟩
abbrev ZEK:SP:=⟨zm3,⟨[zm4,.bor .w8 0 5],[.row]⟩,λx=>ZCo x⟩
theorem ZKT:KT 120 ZEK:=kV [(161,[ZCH])] [] zm2 ⟨ZIl,trivial⟩
abbrev ZCJ:SP:=⟨⟨[.ag 7,.d (.st .Label) []],[]⟩,zm3,λx=>Ji x⟩
theorem ZIn:KT 101 ZCJ:=kV [(107,[XI]),(86,[Ws]),(120,[ZEK])] [] zm2 ⟨XF,Wh,ZKT,trivial⟩
abbrev ZFu:SP:=⟨⟨[.ag 2,zm9,.ag 7,.d (.st .Label) []],[]⟩,zm84,λx=>ZBJ x.1 x.2⟩
theorem ZL7:KT 43 ZFu:=kV [(97,[K6]),(98,[ZFt]),(100,[ZEL]),(101,[ZCJ]),(99,[ZAq])] [] ⟨[],[],[],[(6,[9])],[],[]⟩ ⟨Wi,ZL6,ZKU,ZIn,ZFR,trivial⟩
abbrev V3:SP:=⟨zm42,⟨[],[.cells 21 [.d zm5 [(11,1,3),(12,2,41),(14,3,26)]],.row,.row,.row]⟩,λx=>VC x⟩
theorem Gz:KT 18 V3:=kV [(42,[ZAr]),(43,[ZFu])] [] ⟨[(4025,zm21)],[],[],[(3,[32])],[],[]⟩ ⟨ZFS,ZL7,trivial⟩
abbrev DV:SP:=⟨⟨[zm6,zm6,zm6,ZQ],[]⟩,JM,λx=>GY x.1 x.2.1 x.2.2.1 x.2.2.2⟩
theorem ZGO:KT 150 DV:=kV [(149,[GX]),(184,[GV])] [61,71,83,104,114,123] ⟨[(12073,ZQE 9),(24,zm0 32),(28129,ZQE 3),(76048189,⟨[⟨.norm,[10,11,12],[],⟨[.d KX [(0,100,5)],ZQ,ZQ],[]⟩,[(44,none)]⟩],[],[(44,none)]⟩)],[(13,⟨⟨.norm,[10,11,12,49],[],⟨[.d KX [(0,100,5)],ZQ,ZQ,ZQ],[]⟩,[(44,none)]⟩,[⟨(.exit 0),[10,11,12],[],⟨[.d KX [(0,100,5)],ZQ,ZQ],[]⟩,[(44,none)]⟩],[],[(44,none)],[]⟩),(21,⟨⟨.norm,[11,12,89],[],⟨[ZQ,.n,.n],[]⟩,[]⟩,[⟨(.exit 2),[11,12],[],ZPF,[]⟩],[],[],[]⟩)],[],[(15,[8]),(28,[7])],[],[]⟩ ⟨ZB1,ZBz,trivial⟩
abbrev JG:SP:=⟨⟨[zm6,zm6,zm6],[]⟩,JM,λx=>V6 x.1 x.2.1 x.2.2⟩
theorem ZC2:KT 103 JG:=kV [(150,[DV])] [] zm2 ⟨ZGO,trivial⟩
abbrev ZAl:SP:=⟨JM,ZJp,λx=>UK x⟩
theorem ZHf:KT 44 ZAl:=kV [(102,[KM]),(103,[JG])] [] zm2 ⟨WH,ZC2,trivial⟩
abbrev W7:SP:=⟨zm42,⟨[],[.cells 21 [.d zm5 [(11,1,3),(12,2,41),(14,3,26),(15,4,57)]],.row,.row,.row,.row]⟩,λx=>V8 x⟩
theorem DH:KT 19 W7:=kV [(42,[ZAr]),(44,[ZAl])] [] ⟨[(4025,zm21),(12117,zm21)],[],[],[],[],[]⟩ ⟨ZFS,ZHf,trivial⟩
abbrev U5:SP:=⟨ZQB,⟨[.ag 19,.d Yu [(11,0,3),(12,1,41),(14,2,26),(15,3,57)],ZQ],[.row,.row,.row,.row]⟩,λx=>KD x⟩
theorem BZ:KT 8 U5:=kV [(17,[ZAi]),(18,[V3]),(19,[W7])] [] zm27 ⟨ZFN,Gz,DH,trivial⟩ (λx=>SQ (b:=ZCb x) (by kernel_rfl) (ZFJ x))
abbrev c_wrap_Stretch:SP:=⟨⟨[.d .s [],zm4],[]⟩,zm8,λx=>ZDO x.1 x.2⟩
theorem ZF3 (q:Int->Int->Option (List UInt8×Int))(a:(List UInt8)->Option (List UInt8))(b:(List (List UInt8))->Option (List UInt8))(x:VH (hyS c_wrap_Stretch.i)):fnV (mkX Tryz.prog TY NT [] [(107,[⟨ZIX,zm8,λx=>q x.1 x.2⟩]),(154,[⟨JM,zm3,λx=>a x⟩]),(139,[⟨ZJo,zm3,λx=>b x⟩])] []) zm56 106 c_wrap_Stretch.i c_wrap_Stretch.o x=Di q a b x.1 x.2:=by kernel_rfl
theorem ZHb:KT 106 c_wrap_Stretch:=kV [(107,[XI]),(154,[ZBT]),(139,[YI])] [] zm56 ⟨XF,ZBM,YG,trivial⟩ (λx=>ZF3 Zk Jh ZR x)
abbrev ZLi:Pv.Sp:=zm65
abbrev ZFg:SP:=⟨JM,ZLi,λx=>ZEW x⟩
theorem ZLt:KT 109 ZFg:=kV [(89,[Z6]),(154,[ZBT])] [] zm2 ⟨Yw,ZBM,trivial⟩
abbrev ZGP:Pv.Sp:=⟨[.ag 16,Zv,Zv,Zv,Zv,Zv,Zv,Zv,Zv,Zv,Zv,Zv,Zv,Zv,Zv,Zv,Zv,.ag 16,Zv,Zv,Zv,Zv,Zv,Zv,Zv,Zv,Zv,Zv,Zv,Zv,Zv,Zv,Zv,Zv],[]⟩
abbrev ZF8:Pv.Sp:=zm65
abbrev DK:SP:=⟨ZGP,ZF8,λx=>ZBk x.1 x.2.1 x.2.2.1 x.2.2.2.1 x.2.2.2.2.1 x.2.2.2.2.2.1 x.2.2.2.2.2.2.1 x.2.2.2.2.2.2.2.1 x.2.2.2.2.2.2.2.2.1 x.2.2.2.2.2.2.2.2.2.1 x.2.2.2.2.2.2.2.2.2.2.1 x.2.2.2.2.2.2.2.2.2.2.2.1 x.2.2.2.2.2.2.2.2.2.2.2.2.1 x.2.2.2.2.2.2.2.2.2.2.2.2.2.1 x.2.2.2.2.2.2.2.2.2.2.2.2.2.2.1 x.2.2.2.2.2.2.2.2.2.2.2.2.2.2.2.1 x.2.2.2.2.2.2.2.2.2.2.2.2.2.2.2.2.1 x.2.2.2.2.2.2.2.2.2.2.2.2.2.2.2.2.2.1 x.2.2.2.2.2.2.2.2.2.2.2.2.2.2.2.2.2.2.1 x.2.2.2.2.2.2.2.2.2.2.2.2.2.2.2.2.2.2.2.1 x.2.2.2.2.2.2.2.2.2.2.2.2.2.2.2.2.2.2.2.2.1 x.2.2.2.2.2.2.2.2.2.2.2.2.2.2.2.2.2.2.2.2.2.1 x.2.2.2.2.2.2.2.2.2.2.2.2.2.2.2.2.2.2.2.2.2.2.1 x.2.2.2.2.2.2.2.2.2.2.2.2.2.2.2.2.2.2.2.2.2.2.2.1 x.2.2.2.2.2.2.2.2.2.2.2.2.2.2.2.2.2.2.2.2.2.2.2.2.1 x.2.2.2.2.2.2.2.2.2.2.2.2.2.2.2.2.2.2.2.2.2.2.2.2.2.1 x.2.2.2.2.2.2.2.2.2.2.2.2.2.2.2.2.2.2.2.2.2.2.2.2.2.2.1 x.2.2.2.2.2.2.2.2.2.2.2.2.2.2.2.2.2.2.2.2.2.2.2.2.2.2.2.1 x.2.2.2.2.2.2.2.2.2.2.2.2.2.2.2.2.2.2.2.2.2.2.2.2.2.2.2.2.1 x.2.2.2.2.2.2.2.2.2.2.2.2.2.2.2.2.2.2.2.2.2.2.2.2.2.2.2.2.2.1 x.2.2.2.2.2.2.2.2.2.2.2.2.2.2.2.2.2.2.2.2.2.2.2.2.2.2.2.2.2.2.1 x.2.2.2.2.2.2.2.2.2.2.2.2.2.2.2.2.2.2.2.2.2.2.2.2.2.2.2.2.2.2.2⟩
theorem ZGC:KT 108 DK:=kV [] [] ⟨[],[],[(2,17)],[(4,[8])],[],[]⟩ trivial
abbrev ZB7:SP:=⟨ZPG,zm3,λx=>ZFA x.1 x.2⟩
theorem ZIb:KT 110 ZB7:=kV [(156,[c_mac_Tag]),(107,[XI]),(89,[Z6])] [] zm2 ⟨ZJM,XF,Yw,trivial⟩
abbrev ZFh:SP:=⟨⟨[.d .s [],zm6,zm4],[]⟩,zm8,λx=>ZA4 x.1 x.2.1 x.2.2⟩
theorem ZLu:KT 46 ZFh:=kV [(106,[c_wrap_Stretch]),(107,[XI]),(109,[ZFg]),(108,[DK]),(110,[ZB7])] [] ⟨[(28,⟨[⟨.norm,[8,12],[],⟨[zm6,.ptr 0 0],[.cells 16 [Zv,Zv,Zv,Zv,Zv,Zv,Zv,Zv,Zv,Zv,Zv,Zv,Zv,Zv,Zv,Zv]]⟩,[]⟩],[],[(17,none)]⟩)],[],[],[],[],[]⟩ ⟨ZHb,XF,ZLt,ZGC,ZIb,trivial⟩ (λx=>SQ (b:=Dg x.1 x.2.1 x.2.2) (by kernel_rfl) (ZKC x.1 x.2.1 x.2.2))
abbrev DT:SP:=⟨JM,UH,λx=>ZB5 x⟩
theorem ZGK:KT 48 DT:=kV [] [] zm2 trivial
abbrev Vj:SP:=⟨⟨[ZCW,.c (.fn 48)],[]⟩,QY,λx=>UB x⟩
theorem Db:KT 47 Vj:=kV [(48,[DT])] [] zm18 ⟨ZGK,trivial⟩
abbrev ZCS:SP:=⟨⟨[.ag 19,.d Yu [],.d .s [],zm6],[]⟩,zm69,λx=>Jq x.1 x.2.1 x.2.2⟩
theorem ZIw:KT 21 ZCS:=kV [(34,[Ju]),(46,[ZFh]),(47,[Vj]),(36,[V4]),(30,[Xl]),(8,[U5])] [] ⟨[(36,zm0 50),(48,⟨[⟨.norm,[],[(3,0,19)],⟨[zm9,.rr 100,zm4,zm4,zm4,.d zm7 [],.rr 101,.rr 102,.d (.sl KX) [(0,103,26)],.d (.sl KX) [(0,104,26)],.rr 105,ZQ,ZQ,zm4],[]⟩,[(3,some 2),(3,some 11),(3,some 12),(3,some 13),(3,some 14),(3,some 15)]⟩],[(3,0,19)],[(24,none),(3,some 13),(3,some 14)]⟩)],[],[],[(12,[10])],[],[]⟩ ⟨ZAI,ZLu,Db,Us,QV,BZ,trivial⟩ (λx=>SQ (b:=GL x.1 x.2.1 x.2.2) (by kernel_rfl) (ZHF x.1 x.2.1 x.2.2))
abbrev ZCQ:SP:=⟨zm99,ZQC,λx=>ZAb x.1 x.2⟩
theorem ZIu:KT 35 ZCQ:=kV [] [] zm2 trivial
abbrev X0:SP:=⟨⟨[.d ZBY [],.clo 35 0 1,.ptr 0 0],[.cells 1 [ZQ]]⟩,zm94,λx=>Yr x.1 x.2⟩
theorem Vw:KT 15 X0:=kV [(35,[ZCQ])] [] zm12 ⟨ZIu,trivial⟩
abbrev J3:SP:=⟨ZQD,zm91,λx=>G7 x.1 x.2⟩
theorem ZAO:KT 13 J3:=kV [(34,[Ju]),(15,[X0])] [] zm2 ⟨ZAI,Vw,trivial⟩
abbrev GT:SP:=⟨ZQD,zm91,λx=>ZAZ x.1 x.2⟩
theorem ZBx:KT 23 GT:=kV [(13,[J3])] [] ⟨[(8,zm0 18),(12073,ZQE 5)],[],[],[],[],[]⟩ ⟨ZAO,trivial⟩
abbrev JD:SP:=⟨⟨[ZJn,ZQ],[]⟩,⟨[.clo 112 0 2,.ptr 0 0,.ptr 1 0],[.cells 1 [ZJn],.cells 1 [ZQ]]⟩,λx=>Gg x.1 x.2⟩
theorem ZCx:KT 51 JD:=kV [] [] zm2 trivial
abbrev WM:SP:=⟨⟨[ZJn],[]⟩,UH,λx=>Jo x⟩
theorem GH:KT 24 WM:=kR [(51,[JD])] [] ⟨[(12,zm0 19)],[(3,⟨⟨.norm,[],[(2,0,1)],zm83,[]⟩,[⟨.ret,[],[(2,0,1)],zm83,[]⟩],[(2,0,1)],[],[]⟩)],[],[],[],[]⟩ ⟨ZCx,trivial⟩
abbrev B1:SP:=⟨⟨[.ag 12,.d Q7 [],.ag 3,ZPH],[]⟩,QY,λx=>Uy x.1 x.2⟩
theorem ZDt:KT 53 B1:=kV [(114,[Xg]),(113,[B5])] [] zm2 ⟨Qd,ZDv,trivial⟩
abbrev Z7:SP:=⟨⟨[ZBZ,.ag 3,ZPH,.c (.fn 53)],[]⟩,⟨[ZQ,Vm],[]⟩,λx=>YB x.1 x.2⟩
theorem Xa:KT 52 Z7:=kV [(53,[B1])] [] zm22 ⟨ZDt,trivial⟩
abbrev GU:SP:=⟨⟨[.ag 19,.d Yu [],.ag 3,ZPH],[]⟩,⟨[.ag 12,.d Q7 [],Vm],[]⟩,λx=>ZAc x.1 x.2⟩
theorem ZBy:KT 29 GU:=kV [(52,[Z7])] [] zm2 ⟨Xa,trivial⟩
abbrev WN:SP:=⟨zm66,zm50,λx=>Jp x.1 x.2.1 x.2.2⟩
theorem GI:KT 31 WN:=kV [(57,[Bx])] [] zm2 ⟨ZDr,trivial⟩
abbrev J1:SP:=⟨zm66,⟨[.ag 12,.d Q7 [],ZQ],[]⟩,λx=>ZBQ x.1 x.2.1 x.2.2⟩
theorem ZAN:KT 25 J1:=kV [(29,[GU]),(31,[WN])] [] ⟨[(12085,⟨[⟨.ret,[7],[(6,0,12)],⟨[.d Q7 [(6,0,5)],ZQ],[.row]⟩,[]⟩,⟨.norm,[],[(6,0,12)],⟨[.d Q7 []],[]⟩,[]⟩],[(6,0,12)],[]⟩)],[],[],[],[],[]⟩ ⟨ZBy,GI,trivial⟩
abbrev ZK:SP:=⟨⟨[.d ZF0 [(0,0,57)],.ag 3,ZPH,.c (.fn 53)],[.row]⟩,⟨[ZQ,Vm,.bor Q7 0 57],[.row]⟩,λx=>ZF x.1 x.2⟩
theorem ZS:KT 52 ZK:=kV [(53,[B1])] [] zm22 ⟨ZDt,trivial⟩
end
end Go.Proofs.YtooeopogefefiaaGreatDoor
