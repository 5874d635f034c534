import Derived.Test.YtfpffkecbhkbkaaGreatDoorOwMf
import Derived.Test.YtfpffkecbhkbkaaGreatDoorOwMg
import Derived.Test.YtfpffkecbhkbkaaGreatDoorGv
import Derived.Test.YtfpffkecbhkbkaaGreatDoorGi
import Derived.Test.YtfpffkecbhkbkaaGreatDoorGw
import Derived.Test.YtfpffkecbhkbkaaGreatDoorGx
import Derived.Test.YtfpffkecbhkbkaaGreatDoorGr
/- what is proved here: the ground of the contracts. -/
set_option linter.unusedVariables false
namespace Go.Proofs.YtfpffkecbhkbkaaGreatDoor
open Go Go.Ow Go.Pv Go.Proofs
set_option maxRecDepth 20000
abbrev TY:List (Nat×Ty):=[(25,.st .Disk),(29,.st .Store),(31,.st .Ptr),(36,.st .Pool),(41,.st .Line),(55,.st .Change),(75,.st .Object),(105,.st .Write),(135,.st .Label)]
abbrev NT:List (Nat×NK):=[(175,.count),(222,.index)]
theorem hn:NtL Tryz.prog NT:=NtL.cons (⟨_,Tryz.func175,by kernel_rfl,by kernel_rfl,by kernel_rfl,by kernel_rfl⟩) (NtL.cons (⟨_,Tryz.func222,by kernel_rfl,by kernel_rfl,by kernel_rfl,by kernel_rfl⟩) (NtL.nil))
noncomputable abbrev ITp (p:List UInt8→List UInt8→Rn (List UInt8)):List (Nat×List ItSpec):=[(60,[⟨⟨[.ptr 0 0,.ptr 1 0],[.cells 1 [.d (.sl .i) []],.cells 1 [.d .i []]]⟩,1,[.d (.sl .i) []],λx _ _ b s=>Zp x.1 x.2 b s⟩]),(156,[⟨⟨[.ptr 0 0,.ptr 1 0],[.cells 1 [.d (.sl .w8) []],.cells 1 [.d .i []]]⟩,1,[.d (.sl .w8) []],λx _ _ b s=>Zp x.1 x.2 b s⟩]),(180,[⟨⟨[.ptr 0 0,.ptr 1 0],[.cells 1 [.d (.sl (.st .Ptr)) []],.cells 1 [.d .i []]]⟩,1,[.d (.sl (.st .Ptr)) []],λx _ _ b s=>Zp x.1 x.2 b s⟩]),(218,[⟨⟨[.ptr 0 0],[.cells 1 [.d (.sl .w8) []]]⟩,2,[.d .i [],.d .w8 []],λx _ _ b s=>backR x b s⟩]),(221,[⟨⟨[.ptr 0 0,.ptr 1 0],[.cells 1 [.d (.sl .w8) []],.cells 1 [.d (.sl .w8) []]]⟩,1,[.d (.sl .w8) []],λx=>p x.1 x.2⟩])]
noncomputable abbrev IT:List (Nat×List ItSpec):=ITp pcR
noncomputable abbrev IT0:List (Nat×List ItSpec):=[(60,[⟨⟨[.ptr 0 0,.ptr 1 0],[.cells 1 [.d (.sl .i) []],.cells 1 [.d .i []]]⟩,1,[.d (.sl .i) []],λx _ _ b s=>Zp x.1 x.2 b s⟩]),(156,[⟨⟨[.ptr 0 0,.ptr 1 0],[.cells 1 [.d (.sl .w8) []],.cells 1 [.d .i []]]⟩,1,[.d (.sl .w8) []],λx _ _ b s=>Zp x.1 x.2 b s⟩]),(180,[⟨⟨[.ptr 0 0,.ptr 1 0],[.cells 1 [.d (.sl (.st .Ptr)) []],.cells 1 [.d .i []]]⟩,1,[.d (.sl (.st .Ptr)) []],λx _ _ b s=>Zp x.1 x.2 b s⟩]),(218,[⟨⟨[.ptr 0 0],[.cells 1 [.d (.sl .w8) []]]⟩,2,[.d .i [],.d .w8 []],λx _ _ b s=>backR x b s⟩])]
theorem hI:∀f,∀S∈lkI IT0 f,ItOk Tryz.prog f S:=PG ZJV (PG ZJW (PG ZJU (PG ZOx (P3))))
section
variable{f:Nat}{i o:Pv.Sp}{φ:VH (hyS i)→Option (VH (hyS o))}
theorem kV (t:Tb)(hb:List Nat)(Z:Hints)(ht:Kt (Kf Tryz.prog) t)(h:∀x,fnV (mkX Tryz.prog TY NT hb t []) Z f i o x=φ x:=by intro x;kernel_rfl)(a:entQ Tryz.prog f=true:=by kernel_rfl):Kf Tryz.prog f ⟨i,o,φ⟩:=kv hn t [] hb Z a ht h trivial
theorem kWd (t:Tb)(hb:List Nat)(Z:Hints)(ht:Kt (Kf Tryz.prog) t)(h:∀x,fnV (mkX Tryz.prog TY NT hb t []) Z f i o x=φ x:=by intro x;kernel_rfl)(a:entQ Tryz.prog f=true:=by kernel_rfl):Kd Tryz.prog f ⟨i,o,φ⟩:=kw hn t [] hb Z a ht h trivial
theorem kR (t:Tb)(hb:List Nat)(Z:Hints)(ht:Kt (Kf Tryz.prog) t)(h:∀x,fnR (mkX Tryz.prog TY NT hb t []) (lkI IT0) Z f i o x=φ x:=by intro x;kernel_rfl)(a:entQ Tryz.prog f=true:=by kernel_rfl):Kf Tryz.prog f ⟨i,o,φ⟩:=kr hn t [] hb IT0 hI Z a ht h trivial
theorem kDf (t d:Tb)(hb:List Nat)(Z:Hints)(ht:Kt (Kf Tryz.prog) t)(a:Kt (Kd Tryz.prog) d)(h:∀x,fnD (mkX Tryz.prog TY NT hb t d) Z f i o x=φ x:=by intro x;kernel_rfl)(b:entQ Tryz.prog f=true:=by kernel_rfl):Kf Tryz.prog f ⟨i,o,φ⟩:=kD hn t d hb Z b ht h a
end
theorem kG0{f:Nat}{i o:Pv.Sp}{φ:VH (hyS i)→Option (VH (hyS o))}(h:FnOk Tryz.prog f i o φ)(a:entQ Tryz.prog f=true:=by kernel_rfl):Kf Tryz.prog f ⟨i,o,φ⟩:=kG a h
abbrev KT:=Kf Tryz.prog
abbrev SP:=Pv.Spec
abbrev zm0 (n:Nat):HCut:=⟨[⟨.norm,[n],[],⟨[.d .b []],[]⟩,[]⟩],[],[]⟩
abbrev ZR:Pt:=.d .i []
abbrev zm2:Hints:=⟨[],[],[],[],[],[]⟩
abbrev zm3:Pv.Sp:=⟨[.d (.sl .w8) [(0,0,5)]],[.row]⟩
abbrev zm4:Pt:=.d .w32 []
abbrev zm5:Ty:=(.pr (.st .Pool) (.pr .w32 .i))
abbrev zm6:Pt:=.d (.sl .w8) []
abbrev zm7:Ty:=(.st .Ptr)
abbrev zm8:Pv.Sp:=⟨[.d (.sl .w8) [(0,0,5)],ZR],[.row]⟩
abbrev zm9:Pt:=.d (.st .Disk) []
abbrev Q1:Ty:=(.st .Change)
abbrev Yr:Ty:=(.st .Line)
abbrev X8:Pv.Sp:=⟨[ZR],[]⟩
abbrev Zt:Pt:=.d .w8 []
abbrev Yj:Ty:=(.st .Pool)
abbrev Wz:Pt:=.d (.st .Store) []
abbrev zm16:Hints:=⟨[],[(2,⟨⟨.norm,[8],[],⟨[.n],[]⟩,[]⟩,[⟨.ret,[4],[],⟨[.n],[]⟩,[]⟩,⟨(.exit 0),[],[],⟨[],[]⟩,[]⟩],[],[],[]⟩)],[],[],[],[]⟩
abbrev ZB1:Pt:=.d (.sl (.sl .w8)) []
abbrev ZIS:Pt:=.d (.sl zm7) [(0,0,31)]
abbrev UK:Pv.Sp:=⟨[.d .b []],[]⟩
abbrev zm20:Hints:=⟨[],[(2,⟨⟨.norm,[8],[(1,0,1)],⟨[ZR,ZR],[]⟩,[]⟩,[⟨.ret,[4],[(1,0,1)],⟨[ZR,ZR],[]⟩,[]⟩,⟨(.exit 0),[],[(1,0,1)],X8,[]⟩],[(1,0,1)],[],[]⟩)],[],[],[],[]⟩
abbrev zm21:HCut:=⟨[⟨.norm,[],[(0,0,21)],⟨[Wz,zm4,.d zm7 [],.rr 100,.rr 101,ZB1,.rr 102,.d (.sl Q1) [],ZR,ZR,zm4,zm4,ZR],[]⟩,[(0,some 11),(0,some 12),(0,some 14)]⟩],[(0,0,21)],[]⟩
abbrev zm22:Hints:=⟨[],[(3,⟨⟨.norm,[9,10],[],⟨[ZR,ZR],[]⟩,[]⟩,[⟨(.exit 0),[9],[],X8,[]⟩],[],[],[]⟩)],[],[],[],[]⟩
abbrev zm23:Pv.Sp:=⟨[.d zm5 [(11,100,3),(12,101,41),(13,102,26),(14,103,26)],.rel Yr 101 0,.d (.sl zm7) [(0,104,31)]],[]⟩
abbrev ZA4:Pt:=.d (.sl Q1) []
abbrev JP:Pv.Sp:=⟨[zm6],[]⟩
abbrev Kv:Ty:=(.sl zm7)
abbrev zm27:HK:=⟨.norm,[],[(0,0,21),(1,0,1),(4,0,1),(10,0,1)],⟨[.d zm5 [(11,100,3),(12,101,41),(14,102,26)],.ptr 103 0,.d (.sl .i) [(0,0,3)],.d (.sl .w8) [(0,1,5)]],[.row,.row]⟩,[(18,none),(53,none),(0,some 14),(0,none)]⟩
abbrev zm28:Pv.Sp:=⟨[.ag 19,.d Yj [(11,0,3),(12,1,41),(13,2,26),(14,3,26),(15,4,55)],ZR],[.row,.row,.row,.row,.row]⟩
abbrev zm29:Hints:=⟨[],[(3,⟨⟨.norm,[4],[],zm3,[]⟩,[⟨(.exit 0),[4],[],zm3,[]⟩],[],[(11,none)],[]⟩),(7,⟨⟨.norm,[],[(3,0,4)],⟨[zm4,zm4,zm4,zm4],[]⟩,[]⟩,[],[(3,0,4)],[],[]⟩)],[],[(7,[7]),(8,[7])],[],[]⟩
abbrev ZNI:Pt:=.d (.st .Store) [(2,0,5)]
abbrev zm31:HK:=⟨.norm,[1,2,6],[(0,0,21)],⟨[.d zm5 [(11,100,3),(12,101,41),(13,102,26),(14,103,26)],.rel Yr 101 0,ZA4,.d Kv [(0,104,31)]],[]⟩,[(0,some 11),(1,none),(0,some 13),(0,some 14),(33,none)]⟩
abbrev KQ:Ty:=(.sl .w8)
abbrev zm33:HCut:=⟨[⟨.norm,[],[(6,0,5),(7,0,5),(8,0,1),(9,0,1)],⟨[.d (.st .Store) [(0,0,26),(1,1,105),(2,2,5)],.d zm7 [],.c (.nils),ZR],[.row,.row,.row]⟩,[]⟩],[(6,0,5),(7,0,5),(8,0,1),(9,0,1)],[]⟩
abbrev zm34:Hints:=⟨[],[(5,⟨⟨.norm,[],[(2,0,1),(3,0,1)],⟨[ZIS,.c (.i 0)],[.row]⟩,[]⟩,[⟨.ret,[],[(2,0,1),(3,0,1)],⟨[.c (.nils),ZR],[]⟩,[]⟩],[(2,0,1),(3,0,1)],[],[]⟩)],[],[],[],[]⟩
abbrev zm35:Hints:=⟨[(8,⟨[⟨.norm,[],[(2,0,1),(3,0,1)],⟨[.d (.sl .i) [(0,0,3)],.d KQ [(0,1,5)]],[.row,.row]⟩,[]⟩],[(2,0,1),(3,0,1)],[(2,some 0),(3,some 0)]⟩)],[],[],[(2,[4])],[],[]⟩
abbrev zm36:Pv.Sp:=⟨[Wz,zm4,.d zm7 [],.rr 100,.rr 101,.rr 102,.rr 103,ZA4,ZR,ZR,zm4,zm4,ZR],[]⟩
abbrev ZQL:HK:=⟨(.exit 0),[],[],⟨[],[]⟩,[]⟩
abbrev ZPW (n:Nat):HK:=⟨.norm,[n],[],⟨[.n],[]⟩,[]⟩
abbrev zm39:HCut:=⟨[⟨.norm,[1,6],[(0,0,21)],zm23,[(0,some 11),(1,none),(0,some 13),(0,some 14),(33,none)]⟩],[(0,0,21)],[(1,none),(0,some 11),(0,some 13),(0,some 14),(33,none)]⟩
abbrev ZC0:Ty:=(.st .Object)
abbrev zm41:Pv.Sp:=⟨[.ptr 0 0],[.cells 21 [.d zm5 [(11,1,3),(12,2,41),(14,3,26)]],.row,.row,.row]⟩
abbrev Vk:Pt:=.d .b []
abbrev ZIR:Pv.Sp:=⟨[ZR,ZR],[]⟩
abbrev ZQK:Pt:=.d (.sl .i) [(0,0,3)]
abbrev zm45:Pv.Sp:=⟨[.ag 5,ZNI,.ag 5,.d zm7 [],ZR],[.row]⟩
abbrev ZQJ (n:Nat):HCut:=⟨[⟨.norm,[n],[],X8,[]⟩],[],[]⟩
abbrev zm47:Hints:=⟨[(4,zm0 20)],[(6,⟨⟨.norm,[],[(8,0,1)],zm3,[]⟩,[⟨(.exit 0),[],[(8,0,1)],zm3,[]⟩],[(8,0,1)],[],[]⟩)],[],[],[],[]⟩
abbrev ZJu:Pv.Sp:=⟨[zm6,ZR],[]⟩
abbrev zm49:Pv.Sp:=⟨[.ag 4,.d ZC0 [(3,0,31)],ZR],[.row]⟩
abbrev ZPV:Pt:=.d (.pr .i (.pr .i .i)) []
abbrev zm51:HK:=⟨.ret,[2],[],⟨[.c (.i 8)],[]⟩,[]⟩
abbrev zm52:Hints:=⟨[(4,⟨[⟨.norm,[1,14],[],⟨[.d Kv [(0,100,31)],Vk],[]⟩,[(1,none)]⟩],[],[(1,none)]⟩)],[],[],[],[],[]⟩
abbrev zm53:Hints:=⟨[],[(6,⟨⟨.norm,[8,24],[],zm8,[]⟩,[⟨(.exit 0),[8],[],zm3,[]⟩],[],[(23,none)],[]⟩)],[],[],[],[]⟩
abbrev ZNH:Pv.Sp:=⟨[.ag 2,zm9],[]⟩
abbrev zm55:Pv.Sp:=⟨[.d (.sl Q1) [(0,0,55)],.clo 74 0 1,.ptr 1 0],[.row,.cells 1 [.rel Yr 2 0,.bor Yr 2 41],.row]⟩
abbrev zm56:Pv.Sp:=⟨[.ag 5,Wz,.ag 5,.d zm7 []],[]⟩
abbrev zm57:Pv.Sp:=⟨[.ag 5,.d zm7 []],[.cells 21 [.d zm5 [(11,2,3),(12,1,41),(13,3,26),(14,4,26)]],.row,.row,.row,.row]⟩
abbrev ZQI:Pv.Sp:=⟨[.ag 19,.d Yj []],[]⟩
abbrev ZCz:Ty:=(.sl Yr)
abbrev ZNG:Pv.Sp:=⟨[ZIS],[.row]⟩
abbrev ZJt:Pv.Sp:=⟨[ZB1],[]⟩
abbrev zm62:Pv.Sp:=⟨[.ag 16,Zt,Zt,Zt,Zt,Zt,Zt,Zt,Zt,Zt,Zt,Zt,Zt,Zt,Zt,Zt,Zt],[]⟩
abbrev zm63:Pv.Sp:=⟨[.ag 19,.d Yj [],.ag 13,.d Yr [],ZR],[]⟩
abbrev ZQH:Pv.Sp:=⟨[.ag 5,.d zm7 []],[]⟩
abbrev zm65:HK:=⟨(.exit 0),[1,6],[(0,0,21)],zm23,[(0,some 11),(1,none),(0,some 13),(0,some 14),(33,none)]⟩
abbrev ZJs:Pt:=.d (.sl .i) []
abbrev zm67:Pv.Sp:=⟨[.ag 4,zm4,zm4,zm4,zm4],[]⟩
abbrev zm68:Pv.Sp:=⟨[ZR,.bor zm7 0 31],[.row]⟩
abbrev zm69:Pv.Sp:=⟨[],[.cells 21 [.d zm5 [(11,2,3),(12,1,41),(13,3,26),(14,4,26)]],.row,.row,.row,.row]⟩
abbrev zm70:Pv.Sp:=⟨[.d Yj [(11,100,3),(12,101,41),(13,102,26),(14,103,26),(15,0,55)],ZR],[.row]⟩
abbrev zm71:HK:=⟨(.exit 0),[3],[],X8,[]⟩
abbrev ZGh:Pv.Sp:=⟨[],[]⟩
abbrev zm73:Pv.Sp:=⟨[Vk],[.cells 1 [ZR]]⟩
abbrev ZFi:Ty:=(.sl Q1)
abbrev ZPU:Pv.Sp:=⟨[zm6,zm6],[]⟩
abbrev ZQG:Pv.Sp:=⟨[.d Kv []],[]⟩
abbrev zm77:Pv.Sp:=⟨[.ag 2,zm9,ZR],[.cells 2 [zm9]]⟩
abbrev ZPT:Pv.Sp:=⟨[ZR,.n],[]⟩
abbrev zm79:Hints:=⟨[(24,zm0 36)],[(4,⟨ZPW 10,[zm51,ZQL],[],[],[]⟩)],[],[],[],[]⟩
abbrev zm80:Pv.Sp:=⟨[.c (.b false)],[]⟩
abbrev zm81:Pv.Sp:=⟨[.ag 2,zm9,ZR],[]⟩
abbrev zm82:Pv.Sp:=⟨[.d zm5 [(11,100,3),(12,101,41),(13,102,26),(14,103,26)]],[]⟩
abbrev zm83:Pv.Sp:=⟨[.ag 2,zm9],[.cells 2 [zm9]]⟩
abbrev zm84:Pv.Sp:=⟨[.d ZCz [],.clo 59 0 1,.ptr 0 0],[.cells 19 [.d Yj []]]⟩
abbrev zm85:Hints:=⟨[(12,⟨[⟨.norm,[9],[],zm3,[]⟩],[],[]⟩)],[],[],[],[],[]⟩
abbrev zm86:Pv.Sp:=⟨[.ptr 0 0],[.cells 2 [zm9]]⟩
abbrev zm87:Pv.Sp:=⟨[ZIS,ZR],[.row]⟩
abbrev zm88:Pv.Sp:=⟨[.ag 13,.d Yr [],ZR],[]⟩
abbrev zm89:Pv.Sp:=⟨[.ag 19,.d Yj [],ZR],[]⟩
abbrev zm90:Pv.Sp:=⟨[zm6,zm4,zm6],[]⟩
abbrev ZPS:Pv.Sp:=⟨[zm4],[]⟩
abbrev zm92:Pv.Sp:=⟨[ZR],[.cells 1 [ZR]]⟩
abbrev zm93:Pv.Sp:=⟨[.d Kv [(0,1,31)],.bor Kv 0 39],[.row,.row]⟩
abbrev zm94:Pv.Sp:=⟨[.d Kv [(0,1,31)],.bor zm7 0 31],[.row,.row]⟩
abbrev zm95:Pv.Sp:=⟨[ZQK],[.row]⟩
end Go.Proofs.YtfpffkecbhkbkaaGreatDoor
