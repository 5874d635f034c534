import Derived.Test.YtgdchaoklfjcpaaGreatDoorK0
/- Proved: contracts by value. -/
set_option linter.unusedVariables false
namespace Go.Proofs.YtgdchaoklfjcpaaGreatDoor
open Go Go.Ow Go.Pv Go.Proofs
set_option maxRecDepth 20000
noncomputable section
abbrev ZJL:SP:=⟨ZDq,ZOE,λ_=>UY⟩
theorem ZOV:KT 101 ZJL:=kG0 ZS6
abbrev ZAF:SP:=⟨ZJP,zm3,λx=>X5 x.1 x.2⟩
theorem ZHS:KT 169 ZAF:=kG0 ZMx
abbrev ZFK:SP:=⟨ZDq,zm3,λ_=>ZIi⟩
theorem ZLO:KT 102 ZFK:=kV [(169,[ZAF])] [] zm2 ⟨ZHS,trivial⟩
abbrev ZFJ:SP:=⟨ZDq,⟨[.ag 5,ZMN],[.row]⟩,λ_=>VW⟩
theorem ZLN:KT 49 ZFJ:=kV [(101,[ZJL]),(102,[ZFK])] [] zm2 ⟨ZOV,ZLO,trivial⟩
abbrev ZJK:SP:=⟨ZDq,⟨[.ag 19,.d Yi [(2,0,5),(13,1,27),(14,2,27)]],[.row,.row,.row]⟩,λ_=>ZCp⟩
theorem ZOU:KT 16 ZJK:=kV [(49,[ZFJ])] [] ⟨[],[],[],[(1,[4])],[],[]⟩ ⟨ZLN,trivial⟩ λx=>T8 (b:=ZDu) (by kernel_rfl) (ZMc)
abbrev JY:SP:=⟨Qh,U2,λx=>Y8 x⟩
theorem Dh:KT 26 JY:=kV [] [] zm2 trivial
abbrev KZ:SP:=⟨ZOE,Qh,λx=>Vl x⟩
theorem WO:KT 63 KZ:=kV [(26,[JY])] [] ⟨[(4,zm0 3)],[(3,⟨⟨.norm,[3,21],[],⟨[VT,.n],[]⟩,[]⟩,[⟨(.exit 0),[3],[],U2,[]⟩],[],[],[]⟩),(8,⟨⟨.norm,[3,35],[],⟨[VT,.n],[]⟩,[]⟩,[⟨(.exit 2),[3],[],U2,[]⟩],[],[],[]⟩)],[],[],[],[]⟩ ⟨Dh,trivial⟩ λx=>T8 (b:=WS x) (by kernel_rfl) (ZJ8 x)
abbrev JW:SP:=⟨U1,⟨[Zv],[]⟩,λx=>BY x⟩
theorem ZDG:KT 117 JW:=kV [] [] ⟨[],[(5,⟨⟨.norm,[3,4],[],⟨[Zv,.n],[]⟩,[]⟩,[⟨(.exit 0),[3],[],⟨[Zv],[]⟩,[]⟩],[],[],[]⟩)],[],[],[],[]⟩ trivial
abbrev Ja:SP:=⟨⟨[zm6,Zv],[]⟩,Qh,λx=>Bs x.1 x.2⟩
theorem ZDM:KT 213 Ja:=kV [] [] zm2 trivial
abbrev J0:SP:=⟨ZOD,U2,λx=>ZAH x.1 x.2⟩
theorem ZBD:KT 122 J0:=kV [] [] zm2 trivial
abbrev Jz:SP:=⟨ZOD,Qh,λx=>ZAG x.1 x.2⟩
theorem ZBC:KT 177 Jz:=kV [(213,[Ja]),(122,[J0])] [] zm2 ⟨ZDM,ZBD,trivial⟩
abbrev J1:SP:=⟨ZOD,Qh,λx=>ZAI x.1 x.2⟩
theorem ZBE:KT 118 J1:=kV [(177,[Jz])] [] ⟨[],[(6,⟨⟨.norm,[0,5],[],ZJP,[]⟩,[⟨.ret,[4],[],Qh,[]⟩],[],[],[]⟩)],[],[],[],[]⟩ ⟨ZBC,trivial⟩
abbrev Q5:SP:=⟨U1,Qh,λx=>V8 x⟩
theorem Vv:KT 64 Q5:=kV [(117,[JW]),(118,[J1])] [] ⟨[(4,zm0 17)],[],[],[],[],[]⟩ ⟨ZDG,ZBE,trivial⟩
abbrev YA:SP:=⟨⟨[.ag 5,V2],[]⟩,Qh,λx=>XB x⟩
theorem Yk:KT 21 YA:=kV [(63,[KZ]),(64,[Q5])] [] ⟨[(4,zm0 27)],[],[],[],[],[]⟩ ⟨WO,Vv,trivial⟩
abbrev Zq:SP:=⟨ZOu,Qh,λx=>YP x⟩
theorem Z7:KT 22 Zq:=kV [] [] ⟨[(12,zm0 23)],[],[],[],[],[]⟩ trivial
abbrev Bq:SP:=⟨Qh,U2,λx=>V0 x⟩
theorem ZFw:KT 179 Bq:=kV [] [] zm2 trivial
abbrev XO:SP:=⟨ZKe,Qh,λx=>Zs x.1 x.2⟩
theorem QP:KT 126 XO:=kV [(179,[Bq])] [] zm2 ⟨ZFw,trivial⟩
abbrev BK:SP:=⟨⟨[.ag 5,.d zm7 [],.ag 5,.d zm7 []],[]⟩,Qh,λx=>Uh x.1 x.2⟩
theorem W7:KT 178 BK:=kV [(126,[XO])] [] zm2 ⟨QP,trivial⟩
abbrev UC:SP:=⟨ZOs,Qh,λx=>Ui x⟩
theorem G5:KT 119 UC:=kV [(22,[Zq]),(178,[BK])] [] zm87 ⟨Z7,W7,trivial⟩
abbrev BC:SP:=⟨zm94,Qh,λx=>UL x.1 x.2⟩
theorem ZDC:KT 125 BC:=kV [(126,[XO])] [] zm2 ⟨QP,trivial⟩
abbrev Ya:SP:=⟨⟨[.d ZAg [],ZX,.c<|.fn 125],[]⟩,⟨[ZX,VT],[]⟩,λx=>Yf x.1 x.2⟩
theorem Qd:KT 124 Ya:=kV [(125,[BC])] [] zm22 ⟨ZDC,trivial⟩
abbrev ZCc:SP:=⟨⟨[.d ZAg [],ZX],[]⟩,⟨[.oel Ye],[]⟩,λx=>ZCo x.1 x.2⟩
theorem ZHG:KT 68 ZCc:=kV [(124,[Ya])] [] zm2 ⟨Qd,trivial⟩
abbrev ZJJ:SP:=⟨⟨[.d ZAg [],.ag 13,.d Ye []],[]⟩,U2,λx=>ZNN x.1 x.2⟩
theorem ZOT:KT 120 ZJJ:=kV [(68,[ZCc])] [] ⟨[(8,zm0 15),(24,zm0 41)],[],[],[],[],[]⟩ ⟨ZHG,trivial⟩
abbrev D0:SP:=⟨⟨[.d ZAg []],[]⟩,U2,λx=>ZCn x⟩
theorem ZHF:KT 66 D0:=kV [(22,[Zq]),(119,[UC]),(120,[ZJJ])] [] ⟨[(24,zm0 49),(48,zm0 87)],[(4,⟨ZOH 12,[zm58 2,ZOy],[],[],[]⟩),(10,⟨ZOH 53,[zm58 2,zm97],[],[],[]⟩)],[],[],[],[]⟩ ⟨Z7,G5,ZOT,trivial⟩
abbrev Bj:SP:=⟨⟨[zm6,.ptr 0 0],[.cells 1 [ZX]]⟩,ZOv,λx=>ZAv x.1 x.2⟩
theorem ZFq:KT 121 Bj:=kV [(122,[J0])] [] zm2 ⟨ZBD,trivial⟩
abbrev Un:SP:=⟨ZSQ,zm98,λx=>J9 x.1 x.2⟩
theorem ZCB:KT 51 Un:=kV [(121,[Bj])] [] zm15 ⟨ZFq,trivial⟩
abbrev VQ:SP:=⟨ZSQ,ZOv,λx=>Wv x.1 x.2⟩
theorem B4:KT 123 VQ:=kV [(51,[Un])] [] zm2 ⟨ZCB,trivial⟩
abbrev ZBL:SP:=⟨⟨[ZBk,ZX],[]⟩,U2,λx=>DB x.1 x.2⟩
theorem ZIC:KT 67 ZBL:=kV [(123,[VQ])] [] zm2 ⟨B4,trivial⟩
abbrev Bl:SP:=⟨⟨[.ag 12,.d Qv []],[]⟩,U2,λx=>ZAw x⟩
theorem ZFr:KT 69 Bl:=kV [(22,[Zq])] [] ⟨[(8,zm0 4),(12,zm0 23),(24,zm0 5),(28,zm0 2)],[],[],[],[],[]⟩ ⟨Z7,trivial⟩
abbrev BO:SP:=⟨⟨[.d UI []],[]⟩,Qh,λx=>ZCZ x⟩
theorem ZDL:KT 127 BO:=kV [] [] ⟨[],[(3,⟨ZOH 8,[⟨.ret,[2],[],Qh,[]⟩,ZOy],[],[],[]⟩)],[],[],[],[]⟩ trivial
abbrev ZFH:SP:=⟨⟨[.ag 12,.d Qv [],.ag 12,.d Qv []],[]⟩,Qh,λx=>ZIf x.1 x.2⟩
theorem ZLL:KT 70 ZFH:=kV [(126,[XO]),(127,[BO])] [] zm2 ⟨QP,ZDL,trivial⟩
abbrev ZBO:SP:=⟨⟨[.ag 13,.d Ye [],.ptr 0 0],[.cells 19 [.d Yi []]]⟩,⟨[VT],[.cells 19 [.d Yi []]]⟩,λx=>ZEh x.1 x.2⟩
theorem ZIF:KT 72 ZBO:=kV [] [] zm2 trivial
abbrev QQ:SP:=⟨zm90,⟨[ZX],[.cells 19 [.d Yi []]]⟩,λx=>Qp x.1 x.2⟩
theorem W6:KT 61 QQ:=kV [(72,[ZBO])] [] ⟨[],[(2,⟨⟨.norm,[8],[(1,0,19)],⟨[.d Yi [],ZX],[]⟩,[]⟩,[⟨.ret,[4],[(1,0,19)],⟨[.d Yi [],ZX],[]⟩,[]⟩,⟨(.exit 0),[],[(1,0,19)],⟨[.d Yi []],[]⟩,[]⟩],[(1,0,19)],[],[]⟩)],[],[],[],[]⟩ ⟨ZIF,trivial⟩
abbrev Xe:SP:=⟨zm90,⟨[VT],[.cells 19 [.d Yi []]]⟩,λx=>X4 x.1 x.2⟩
theorem Vj:KT 71 Xe:=kV [(61,[QQ])] [] zm2 ⟨W6,trivial⟩
abbrev XK:SP:=⟨ZKf,Qh,λx=>VV x⟩
theorem WJ:KT 29 XK:=kV [(21,[YA]),(22,[Zq]),(66,[D0]),(67,[ZBL]),(68,[ZCc]),(69,[Bl]),(70,[ZFH]),(71,[Xe])] [] ⟨[(4,zm0 32),(24,zm0 69),(36,zm0 106),(60,zm0 148)],[(4,⟨ZOH 36,[zm54,ZOy],[],[],[]⟩),(12,⟨ZOH 110,[zm54,zm97],[],[],[]⟩)],[],[],[],[]⟩ ⟨Yk,Z7,ZHF,ZIC,ZHG,ZFr,ZLL,Vj,trivial⟩
abbrev BJ:SP:=⟨ZOE,ZOE,λx=>twinF x⟩
theorem ZCI:KT 28 BJ:=kG0<|gv_Twin.of ZPF
abbrev QC:SP:=⟨U1,zm3,λx=>YI x⟩
theorem Q4:KT 42 QC:=kV [] [] zm2 trivial λx=>T8 (b:=ZBh x) (by kernel_rfl) (ZGp x)
abbrev BF:SP:=⟨⟨[.ag 5,V2],[]⟩,⟨[.ag 5,ZMN],[.row]⟩,λx=>ZBq x⟩
theorem ZDD:KT 108 BF:=kV [(28,[BJ]),(42,[QC])] [] ⟨[],[],[],[(1,[7])],[],[]⟩ ⟨ZCI,Q4,trivial⟩
abbrev Up:SP:=⟨⟨[.d UI []],[]⟩,zm74,λx=>Va x⟩
theorem ZCD:KT 109 Up:=kV [] [] zm2 trivial λx=>T8 (b:=UP x) (by kernel_rfl) (ZAq x)
abbrev KX:SP:=⟨⟨[.d ZAg []],[]⟩,⟨[.d ZAg [(0,0,47)]],[.row]⟩,λx=>QE x⟩
theorem GT:KT 110 KX:=kV [] [] zm2 trivial λx=>T8 (b:=KS x) (by kernel_rfl) (Jl x)
abbrev Y5:SP:=⟨⟨[ZAh],[]⟩,⟨[.d ZFX [(0,0,83)]],[.row]⟩,λx=>YE x⟩
theorem Qs:KT 95 Y5:=kV [] [] zm2 trivial λx=>T8 (b:=Qr x) (by kernel_rfl) (Ub x)
abbrev Xy:SP:=⟨ZOs,ZMM,λx=>XC x⟩
theorem K7:KT 111 Xy:=kV [] [] zm2 trivial λx=>T8 (b:=Km x) (by kernel_rfl) (GL x)
abbrev D5:SP:=⟨ZJO,⟨[.d (.sl KJ) [(0,0,27)]],[.row]⟩,λx=>W4 x⟩
theorem ZHJ:KT 112 D5:=kV [] [] zm2 trivial λx=>T8 (b:=DL x) (by kernel_rfl) (ZFh x)
abbrev Vp:SP:=⟨ZKf,⟨[.ag 19,.d Yi [(2,0,5),(11,1,3),(12,2,47),(13,3,27),(14,4,27),(15,5,83)]],[.row,.row,.row,.row,.row,.row]⟩,λx=>V6 x⟩
theorem Uf:KT 53 Vp:=kV [(108,[BF]),(109,[Up]),(110,[KX]),(95,[Y5]),(111,[Xy]),(42,[QC]),(112,[D5])] [75] ⟨[],[(4,⟨⟨.norm,[28],[(1,0,19)],⟨[zm9,.rr 100,zm4,zm4,zm4,.d zm7 [],.rr 101,.d ZAg [(0,102,47)],ZBk,ZBk,.rr 103,ZX,ZX,zm4,ZX],[]⟩,[(1,some 2),(15,none),(18,none),(21,none)]⟩,[⟨(.exit 0),[],[(1,0,19)],⟨[zm9,.rr 100,zm4,zm4,zm4,.d zm7 [],.rr 101,.d ZAg [(0,102,47)],ZBk,ZBk,.rr 103,ZX,ZX,zm4],[]⟩,[(1,some 2),(15,none),(18,none),(21,none)]⟩],[(1,0,19)],[(18,none)],[]⟩),(9,⟨⟨.norm,[47],[(1,0,19)],⟨[zm9,.rr 100,zm4,zm4,zm4,.d zm7 [],.rr 101,.rr 102,ZBk,ZBk,.d ZFX [(0,103,83)],ZX,ZX,zm4,ZX],[]⟩,[(1,some 2),(15,none),(18,none),(21,none)]⟩,[⟨(.exit 2),[],[(1,0,19)],⟨[zm9,.rr 100,zm4,zm4,zm4,.d zm7 [],.rr 101,.rr 102,ZBk,ZBk,.d ZFX [(0,103,83)],ZX,ZX,zm4],[]⟩,[(1,some 2),(15,none),(18,none),(21,none)]⟩],[(1,0,19)],[(21,none)],[]⟩),(18,⟨⟨.norm,[6,81,83],[(1,0,19),(79,0,1)],⟨[zm9,.rr 100,zm4,zm4,zm4,.d zm7 [],.rr 101,.rr 102,.d (.sl KJ) [(0,103,27)],.rr 104,.rr 105,ZX,ZX,zm4,.rr 103,.rr 103,.rr 103,ZX],[]⟩,[(1,some 2),(15,none),(18,none),(65,none),(68,none),(21,none)]⟩,[⟨(.exit 6),[],[(1,0,19),(79,0,1)],⟨[zm9,.rr 100,zm4,zm4,zm4,.d zm7 [],.rr 101,.rr 102,.d (.sl KJ) [(0,103,27)],.rr 104,.rr 105,ZX,ZX,zm4,.rr 103],[]⟩,[(1,some 2),(15,none),(18,none),(65,none),(68,none),(21,none)]⟩],[(1,0,19),(79,0,1)],[(65,none)],[((6,none),(65,none))]⟩),(18,⟨⟨.norm,[6,81,83],[(1,0,19),(79,0,1)],⟨[zm9,.rr 100,zm4,zm4,zm4,.d zm7 [],.rr 101,.rr 102,.rr 103,.d (.sl KJ) [(0,104,27)],.rr 105,ZX,ZX,zm4,.rr 104,.rr 104,.rr 104,ZX],[]⟩,[(1,some 2),(15,none),(18,none),(65,none),(68,none),(21,none)]⟩,[⟨(.exit 6),[],[(1,0,19),(79,0,1)],⟨[zm9,.rr 100,zm4,zm4,zm4,.d zm7 [],.rr 101,.rr 102,.rr 103,.d (.sl KJ) [(0,104,27)],.rr 105,ZX,ZX,zm4,.rr 104],[]⟩,[(1,some 2),(15,none),(18,none),(65,none),(68,none),(21,none)]⟩],[(1,0,19),(79,0,1)],[(68,none)],[((6,none),(68,none))]⟩)],[(15,3)],[(2,[10]),(6,[12]),(11,[12]),(13,[7])],[],[]⟩ ⟨ZDD,ZCD,GT,Qs,K7,Q4,ZHJ,trivial⟩
abbrev Jr:SP:=⟨⟨[.ag 12,.d Qv [],.ptr 0 0],[.cells 1 [.rel Ye 1 0,.bor Ye 1 47],.row]⟩,⟨[VT,.bor Ye 1 47],[.cells 1 [.rel Ye 1 0],.row]⟩,λx=>V5 x.1 x.2.1 x.2.2⟩
theorem ZA4:KT 96 Jr:=kV [] [] zm2 trivial
abbrev XM:SP:=⟨zm63,⟨[ZX,.bor Qv 0 83,.bor Ye 2 47],[.row,.cells 1 [.rel Ye 2 0],.row]⟩,λx=>Z1 x.1 x.2.1 x.2.2⟩
theorem K5:KT 147 XM:=kV [(96,[Jr])] [] ⟨[],[(2,⟨⟨.norm,[8],[(1,0,1)],⟨[.rel Ye 100 0,ZX,.bor Ye 100 47],[]⟩,[(1,some 0)]⟩,[⟨.ret,[4],[(1,0,1)],⟨[.rel Ye 100 0,ZX,.bor Ye 100 47],[]⟩,[(1,some 0)]⟩,⟨(.exit 0),[],[(1,0,1)],⟨[.rel Ye 100 0,.bor Ye 100 47],[]⟩,[(1,some 0)]⟩],[(1,0,1)],[(1,some 0)],[]⟩)],[],[],[],[]⟩ ⟨ZA4,trivial⟩
abbrev Xd:SP:=⟨zm63,⟨[ZAh,.bor Ye 2 47],[.row,.cells 1 [.rel Ye 2 0],.row]⟩,λx=>Za x.1 x.2.1 x.2.2⟩
theorem Vi:KT 94 Xd:=kV [(147,[XM]),(96,[Jr])] [38] ⟨[(36117,⟨[⟨.norm,[0,5],[],⟨[.d ZFX [(0,100,83)],ZX],[]⟩,[(0,none)]⟩],[],[(0,none)]⟩)],[(5,⟨⟨.norm,[0,5,6],[(1,0,1)],⟨[.rel Ye 100 0,.d ZFX [(0,101,83)],ZX,ZX,.bor Ye 100 47],[]⟩,[(1,some 0),(0,none)]⟩,[⟨(.exit 0),[0,5],[(1,0,1)],⟨[.rel Ye 100 0,.d ZFX [(0,101,83)],ZX,.bor Ye 100 47],[]⟩,[(1,some 0),(0,none)]⟩],[(1,0,1)],[(0,none),(1,some 0)],[]⟩)],[],[],[0],[]⟩ ⟨K5,ZA4,trivial⟩
abbrev ZCf:SP:=⟨⟨[.ag 2,zm9,.c<|.fn 130],[]⟩,ZOE,λx=>leftF x⟩
theorem ZHP:KT 129 ZCf:=kG0<|gv_left.of ZPh
abbrev ZDg:SP:=⟨zm92,zm89,λx=>ZHg x⟩
theorem ZJ1:KT 128 ZDg:=kV [(129,[ZCf])] [] zm2 ⟨ZHP,trivial⟩
abbrev ZBV:SP:=⟨⟨[.ag 2,zm9,VT,.clo 128 0 1,.ptr 0 0],[.cells 2 [zm9]]⟩,zm85,λx=>WR x.1 x.2.1 x.2.2⟩
theorem ZIN:KT 25 ZBV:=kV [(63,[KZ]),(128,[ZDg])] [] zm2 ⟨WO,ZJ1,trivial⟩
abbrev ZHq:SP:=⟨ZOF,ZJP,λx=>ZDW x.1 x.2⟩
theorem ZMl:KT 73 ZHq:=kV [(26,[JY]),(25,[ZBV])] [] ⟨[(4,⟨[⟨.norm,[6,7],[(2,0,2)],⟨[zm9,.ptr 0 0,ZX],[.cells 2 [zm9]]⟩,[]⟩],[(2,0,2)],[]⟩)],[],[],[(1,[4])],[],[]⟩ ⟨Dh,ZIN,trivial⟩ λx=>T8 (b:=ZCU x.1 x.2) (by kernel_rfl) (ZK8 x.1 x.2)
abbrev Z5:SP:=⟨U1,zm3,λx=>Z6 x⟩
theorem Yh:KT 90 Z5:=kV [] [] zm2 trivial λx=>T8 (b:=Ww x) (by kernel_rfl) (DT x)
abbrev Uq:SP:=⟨U1,⟨[.cl .w8],[]⟩,λx=>Vb x⟩
theorem ZCE:KT 89 Uq:=kV [] [] zm2 trivial
abbrev XR:SP:=⟨ZJP,⟨[.clo 131 0 2,.ptr 0 0,.ptr 1 0],[.cells 1 [zm6],.cells 1 [ZX]]⟩,λx=>QM x.1 x.2⟩
theorem Qx:KT 74 XR:=kV [] [] zm2 trivial
abbrev BM:SP:=⟨Qh,U2,λx=>ZCY x⟩
theorem ZDK:KT 133 BM:=kV [] [] zm2 trivial
abbrev VF:SP:=⟨U1,⟨[.clo 181 0 1,.ptr 0 0],[.cells 1 [zm6]]⟩,λx=>WG x⟩
theorem G2:KT 134 VF:=kV [] [] zm2 trivial
abbrev BN:SP:=⟨⟨[zm6,ZX,ZX],[]⟩,ZKe,λx=>VB x.1 x.2.1 x.2.2⟩
theorem ZCJ:KT 76 BN:=kR [(133,[BM]),(134,[VF])] [] ⟨[(12000045,zm0 11),(8000045,zm0 11)],[(10,⟨⟨.norm,[],[(8,0,1)],Qh,[]⟩,[],[(8,0,1)],[],[]⟩)],[],[],[],[]⟩ ⟨ZDK,G2,trivial⟩
abbrev BI:SP:=⟨U1,ZOC,λx=>ZB5 x⟩
theorem ZDI:KT 91 BI:=kV [(76,[BN])] [] zm2 ⟨ZCJ,trivial⟩
abbrev Q6:SP:=⟨⟨[zm4,ZX],[]⟩,ZOC,λx=>Xv x.1 x.2⟩
theorem Jm:KT 196 Q6:=kV [] [] zm2 trivial
abbrev WY:SP:=⟨⟨[ZX,ZX,.ptr 0 0],[.cells 4 [zm4,zm4,zm4,zm4]]⟩,⟨[],[.cells 4 [zm4,zm4,zm4,zm4]]⟩,λx=>KO x.1 x.2.1 x.2.2.1 x.2.2.2.1 x.2.2.2.2.1 x.2.2.2.2.2⟩
theorem Dg:KT 195 WY:=kV [(196,[Q6])] [] zm2 ⟨Jm,trivial⟩
abbrev Ut:SP:=⟨zm75,zm75,λx=>GO x.1 x.2.1 x.2.2.1 x.2.2.2⟩
theorem ZCG:KT 146 Ut:=kV [(195,[WY])] [] zm2 ⟨Dg,trivial⟩
abbrev VG:SP:=⟨⟨[.ag 4,zm4,zm4,zm4,zm4,ZX],[]⟩,zm75,λx=>KE x.1 x.2.1 x.2.2.1 x.2.2.2.1 x.2.2.2.2⟩
theorem JM:KT 92 VG:=kV [(146,[Ut])] [] ⟨[],[(2,⟨⟨.norm,[6],[(2,0,4)],⟨[zm4,zm4,zm4,zm4,ZX],[]⟩,[]⟩,[⟨(.exit 0),[],[(2,0,4)],⟨[zm4,zm4,zm4,zm4],[]⟩,[]⟩],[(2,0,4)],[],[]⟩)],[],[],[],[]⟩ ⟨ZCG,trivial⟩
abbrev ZCe:SP:=⟨U1,zm75,λx=>ZGz x⟩
theorem ZHO:KT 45 ZCe:=kR [(90,[Z5]),(89,[Uq]),(74,[XR]),(91,[BI]),(92,[VG])] [] zm31 ⟨Yh,ZCE,Qx,ZDI,JM,trivial⟩
abbrev ZAa:SP:=⟨U1,ZOC,λx=>ZC7 x⟩
theorem ZEI:KT 14 ZAa:=kV [(45,[ZCe])] [] zm2 ⟨ZHO,trivial⟩
abbrev YB:SP:=⟨zm64,ZJP,λx=>Gl x.1 x.2⟩
theorem Gy:KT 31 YB:=kV [(21,[YA]),(22,[Zq]),(73,[ZHq]),(14,[ZAa])] [] ⟨[(4,zm0 15),(24,zm0 35),(28141,⟨[⟨.norm,[6,7],[],ZJP,[]⟩],[],[]⟩)],[],[],[],[],[]⟩ ⟨Yk,Z7,ZMl,ZEI,trivial⟩
abbrev D6:SP:=⟨ZDq,⟨[.ag 5,.c<|.i 1,.c<|.i 3,.c<|.i 4,.c<|.i 4,.c<|.i 4],[]⟩,λ_=>ZD3⟩
theorem ZEz:KT 132 D6:=kV [] [] zm2 trivial
abbrev ZCd:SP:=⟨U1,⟨[.ag 5,.d zm7 [],ZX],[]⟩,λx=>ZGi x⟩
theorem ZHL:KT 75 ZCd:=kV [(132,[D6]),(76,[BN]),(22,[Zq])] [] ⟨[],[],[(6,6)],[],[],[]⟩ ⟨ZEz,ZCJ,Z7,trivial⟩
abbrev Yx:SP:=⟨U1,zm93,λx=>ZGh x⟩
theorem ZHK:KT 32 Yx:=kR [(74,[XR]),(75,[ZCd])] [] zm40 ⟨Qx,ZHL,trivial⟩
abbrev YU:SP:=⟨zm64,zm93,λx=>ZCv x.1 x.2⟩
theorem G3:KT 23 YU:=kV [(21,[YA]),(22,[Zq]),(31,[YB]),(32,[Yx])] [] ⟨[(4,zm0 16)],[],[],[],[],[]⟩ ⟨Yk,Z7,Gy,ZHK,trivial⟩
abbrev WW:SP:=⟨⟨[.ag 12,.d Qv [],.ptr 0 0],[.cells 1 [ZX]]⟩,ZOv,λx=>UK x.1 x.2⟩
theorem Dd:KT 148 WW:=kV [] [] zm2 trivial
abbrev YN:SP:=⟨⟨[ZAh,.clo 148 0 1,.ptr 0 0],[.cells 1 [ZX]]⟩,zm98,λx=>XT x.1 x.2⟩
theorem XG:KT 147 YN:=kV [(148,[WW])] [] zm15 ⟨Dd,trivial⟩
abbrev Xz:SP:=⟨zm8,⟨[.clo 131 0 2,.ptr 1 0,.ptr 2 0],[.row,.cells 1 [zm6],.cells 1 [ZX]]⟩,λx=>QV x.1 x.2⟩
theorem K8:KT 74 Xz:=kV [] [] ⟨[],[],[],[],[0],[]⟩ trivial
abbrev ZBR:SP:=⟨zm3,⟨[.d Ke [(0,1,32)],ZX],[.row,.row]⟩,λx=>DN x⟩
theorem ZIJ:KT 32 ZBR:=kR [(74,[Xz]),(75,[ZCd])] [] zm40 ⟨K8,ZHL,trivial⟩
abbrev Jv:SP:=⟨⟨[ZX,ZX,ZX],[]⟩,U2,λx=>Qc x.1 x.2.1 x.2.2⟩
theorem ZA8:KT 135 Jv:=kV [] [] zm2 trivial
abbrev Ju:SP:=⟨ZOu,U2,λx=>DV x⟩
theorem ZA7:KT 136 Ju:=kV [(22,[Zq])] [] zm2 ⟨Z7,trivial⟩
abbrev Qg:SP:=⟨⟨[ZH9,.c<|.fn 136],[.row]⟩,zm76,λx=>Q1 x⟩
theorem Ug:KT 182 Qg:=kV [(136,[Ju])] [] zm18 ⟨ZA7,trivial⟩
abbrev Xj:SP:=⟨⟨[ZH9,.c<|.fn 136],[.row]⟩,⟨[VT,.bor zm7 0 32],[.row]⟩,λx=>QL x⟩
theorem WM:KT 137 Xj:=kV [(182,[Qg])] [] zm2 ⟨Ug,trivial⟩
abbrev ZFO:SP:=⟨⟨[.ag 4,.d ZDr [(3,0,32)]],[.row]⟩,zm76,λx=>ZEA x⟩
theorem ZLS:KT 77 ZFO:=kV [(135,[Jv]),(137,[Xj])] [] ⟨[(12,⟨[⟨.norm,[36],[(1,0,4)],⟨[.d ZDr [(3,100,32)],VT],[]⟩,[(1,some 3)]⟩],[(1,0,4)],[(1,some 3)]⟩)],[],[],[],[],[]⟩ ⟨ZA8,WM,trivial⟩
end
end Go.Proofs.YtgdchaoklfjcpaaGreatDoor
