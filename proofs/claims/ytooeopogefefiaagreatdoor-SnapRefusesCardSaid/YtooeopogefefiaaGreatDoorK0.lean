import Derived.Test.YtooeopogefefiaaGreatDoorOwMf
import Derived.Test.YtooeopogefefiaaGreatDoorOwMg
import Derived.Test.YtooeopogefefiaaGreatDoorGv
import Derived.Test.YtooeopogefefiaaGreatDoorGi
import Derived.Test.YtooeopogefefiaaGreatDoorGw
import Derived.Test.YtooeopogefefiaaGreatDoorGx
import Derived.Test.YtooeopogefefiaaGreatDoorGr
/- what is proved here: the ground of the contracts. -/
set_option linter.unusedVariables false
namespace Go.Proofs.YtooeopogefefiaaGreatDoor
open Go Go.Ow Go.Pv Go.Proofs
set_option maxRecDepth 20000
abbrev TY:List (Nat×Ty):=[(25,.st .Disk),(29,.st .Store),(31,.st .Ptr),(36,.st .Pool),(41,.st .Line),(57,.st .Change),(82,.st .Object),(97,.st .Label),(117,.st .Write)]
abbrev NT:List (Nat×NK):=[(183,.count),(224,.index)]
theorem hn:NtL Tryz.prog NT:=NtL.cons (⟨_,Tryz.func183,by kernel_rfl,by kernel_rfl,by kernel_rfl,by kernel_rfl⟩) (NtL.cons (⟨_,Tryz.func224,by kernel_rfl,by kernel_rfl,by kernel_rfl,by kernel_rfl⟩) (NtL.nil))
noncomputable abbrev ITp (p:List UInt8->List UInt8->Rn (List UInt8)):List (Nat×List ItSpec):=[(112,[⟨⟨[.ptr 0 0,.ptr 1 0],[.cells 1 [.d (.sl .i) []],.cells 1 [.d .i []]]⟩,1,[.d (.sl .i) []],λx _ _ b s=>chunkR x.1 x.2 b s⟩]),(141,[⟨⟨[.ptr 0 0,.ptr 1 0],[.cells 1 [.d (.sl .w8) []],.cells 1 [.d .i []]]⟩,1,[.d (.sl .w8) []],λx _ _ b s=>chunkR x.1 x.2 b s⟩]),(169,[⟨⟨[.ptr 0 0,.ptr 1 0],[.cells 1 [.d (.sl (.st .Ptr)) []],.cells 1 [.d .i []]]⟩,1,[.d (.sl (.st .Ptr)) []],λx _ _ b s=>chunkR x.1 x.2 b s⟩]),(226,[⟨⟨[.ptr 0 0],[.cells 1 [.d (.sl .w8) []]]⟩,2,[.d .i [],.d .w8 []],λx _ _ b s=>backR x b s⟩]),(229,[⟨⟨[.ptr 0 0,.ptr 1 0],[.cells 1 [.d (.sl .w8) []],.cells 1 [.d (.sl .w8) []]]⟩,1,[.d (.sl .w8) []],λx=>p x.1 x.2⟩])]
noncomputable abbrev IT:List (Nat×List ItSpec):=ITp pcR
noncomputable abbrev IT0:List (Nat×List ItSpec):=[(112,[⟨⟨[.ptr 0 0,.ptr 1 0],[.cells 1 [.d (.sl .i) []],.cells 1 [.d .i []]]⟩,1,[.d (.sl .i) []],λx _ _ b s=>chunkR x.1 x.2 b s⟩]),(141,[⟨⟨[.ptr 0 0,.ptr 1 0],[.cells 1 [.d (.sl .w8) []],.cells 1 [.d .i []]]⟩,1,[.d (.sl .w8) []],λx _ _ b s=>chunkR x.1 x.2 b s⟩]),(169,[⟨⟨[.ptr 0 0,.ptr 1 0],[.cells 1 [.d (.sl (.st .Ptr)) []],.cells 1 [.d .i []]]⟩,1,[.d (.sl (.st .Ptr)) []],λx _ _ b s=>chunkR x.1 x.2 b s⟩]),(226,[⟨⟨[.ptr 0 0],[.cells 1 [.d (.sl .w8) []]]⟩,2,[.d .i [],.d .w8 []],λx _ _ b s=>backR x b s⟩])]
theorem hI:∀f,∀S∈lkI IT0 f,ItOk Tryz.prog f S:=PD ZJO (PD ZJP (PD ZJN (PD ZOh (P4))))
section
variable{f:Nat}{i o:Pv.Sp}{φ:VH (hyS i)->Option (VH (hyS o))}
theorem kV (t:Tb)(hb:List Nat)(Z:Hints)(ht:Kt (Kf Tryz.prog) t)(h:∀x,fnV (mkX Tryz.prog TY NT hb t []) Z f i o x=φ x:=by intro x;kernel_rfl)(a:entQ Tryz.prog f=true:=by kernel_rfl):Kf Tryz.prog f ⟨i,o,φ⟩:=kv hn t [] hb Z a ht h trivial
theorem kWd (t:Tb)(hb:List Nat)(Z:Hints)(ht:Kt (Kf Tryz.prog) t)(h:∀x,fnV (mkX Tryz.prog TY NT hb t []) Z f i o x=φ x:=by intro x;kernel_rfl)(a:entQ Tryz.prog f=true:=by kernel_rfl):Kd Tryz.prog f ⟨i,o,φ⟩:=kw hn t [] hb Z a ht h trivial
theorem kR (t:Tb)(hb:List Nat)(Z:Hints)(ht:Kt (Kf Tryz.prog) t)(h:∀x,fnR (mkX Tryz.prog TY NT hb t []) (lkI IT0) Z f i o x=φ x:=by intro x;kernel_rfl)(a:entQ Tryz.prog f=true:=by kernel_rfl):Kf Tryz.prog f ⟨i,o,φ⟩:=kr hn t [] hb IT0 hI Z a ht h trivial
theorem kDf (t d:Tb)(hb:List Nat)(Z:Hints)(ht:Kt (Kf Tryz.prog) t)(a:Kt (Kd Tryz.prog) d)(h:∀x,fnD (mkX Tryz.prog TY NT hb t d) Z f i o x=φ x:=by intro x;kernel_rfl)(b:entQ Tryz.prog f=true:=by kernel_rfl):Kf Tryz.prog f ⟨i,o,φ⟩:=kD hn t d hb Z b ht h a
end
theorem kG0{f:Nat}{i o:Pv.Sp}{φ:VH (hyS i)->Option (VH (hyS o))}(h:FnOk Tryz.prog f i o φ)(a:entQ Tryz.prog f=true:=by kernel_rfl):Kf Tryz.prog f ⟨i,o,φ⟩:=kG a h
abbrev KT:=Kf Tryz.prog
abbrev SP:=Pv.Spec
abbrev zm0 (n:Nat):HCut:=⟨[⟨.norm,[n],[],⟨[.d .b []],[]⟩,[]⟩],[],[]⟩
abbrev ZQ:Pt:=.d .i []
abbrev zm2:Hints:=⟨[],[],[],[],[],[]⟩
abbrev zm3:Pv.Sp:=⟨[.d (.sl .w8) [(0,0,5)]],[.row]⟩
abbrev zm4:Pt:=.d .w32 []
abbrev zm5:Ty:=(.pr (.st .Pool) (.pr .w32 .i))
abbrev zm6:Pt:=.d (.sl .w8) []
abbrev zm7:Ty:=(.st .Ptr)
abbrev zm8:Pv.Sp:=⟨[.d (.sl .w8) [(0,0,5)],ZQ],[.row]⟩
abbrev zm9:Pt:=.d (.st .Disk) []
abbrev Q7:Ty:=(.st .Change)
abbrev Yv:Ty:=(.st .Line)
abbrev zm12:Hints:=⟨[],[(2,⟨⟨.norm,[8],[(1,0,1)],⟨[ZQ,ZQ],[]⟩,[]⟩,[⟨.ret,[4],[(1,0,1)],⟨[ZQ,ZQ],[]⟩,[]⟩,⟨(.exit 0),[],[(1,0,1)],⟨[ZQ],[]⟩,[]⟩],[(1,0,1)],[],[]⟩)],[],[],[],[]⟩
abbrev Zv:Pt:=.d .w8 []
abbrev Yu:Ty:=(.st .Pool)
abbrev QY:Pv.Sp:=⟨[ZQ],[]⟩
abbrev WQ:Pt:=.d (.st .Store) []
abbrev ZCW:Pt:=.d (.sl (.sl .w8)) []
abbrev zm18:Hints:=⟨[],[(2,⟨⟨.norm,[8],[],⟨[.n],[]⟩,[]⟩,[⟨.ret,[4],[],⟨[.n],[]⟩,[]⟩,⟨(.exit 0),[],[],⟨[],[]⟩,[]⟩],[],[],[]⟩)],[],[],[],[]⟩
abbrev ZIY:Pt:=.d (.sl zm7) [(0,0,31)]
abbrev UH:Pv.Sp:=⟨[.d .b []],[]⟩
abbrev zm21:HCut:=⟨[⟨.norm,[],[(0,0,21)],⟨[WQ,zm4,.d zm7 [],.rr 100,.rr 101,ZCW,.rr 102,.d (.sl Q7) [],ZQ,ZQ,zm4,zm4,ZQ],[]⟩,[(0,some 11),(0,some 12),(0,some 14)]⟩],[(0,0,21)],[]⟩
abbrev zm22:Hints:=⟨[],[(3,⟨⟨.norm,[9,10],[],⟨[ZQ,ZQ],[]⟩,[]⟩,[⟨(.exit 0),[9],[],QY,[]⟩],[],[],[]⟩)],[],[],[],[]⟩
abbrev zm23:Pv.Sp:=⟨[.d zm5 [(11,100,3),(12,101,41),(13,102,26),(14,103,26)],.rel Yv 101 0,.d (.sl zm7) [(0,104,31)]],[]⟩
abbrev ZBZ:Pt:=.d (.sl Q7) []
abbrev JM:Pv.Sp:=⟨[zm6],[]⟩
abbrev K9:Ty:=(.sl zm7)
abbrev zm27:Hints:=⟨[(20,⟨[⟨.norm,[3],[(2,0,19)],⟨[.d Yu [(0,0,26),(1,1,117),(2,2,5),(11,3,3),(12,4,41),(13,5,26),(14,6,26),(15,7,57)],ZQ],[.row,.row,.row,.row,.row,.row,.row,.row]⟩,[]⟩],[(2,0,19)],[]⟩)],[],[],[(5,[5])],[],[]⟩
abbrev zm28:HK:=⟨.norm,[],[(0,0,21),(1,0,1),(4,0,1),(10,0,1)],⟨[.d zm5 [(11,100,3),(12,101,41),(14,102,26)],.ptr 103 0,.d (.sl .i) [(0,0,3)],.d (.sl .w8) [(0,1,5)]],[.row,.row]⟩,[(18,none),(53,none),(0,some 14),(0,none)]⟩
abbrev zm29:Pv.Sp:=⟨[.ag 19,.d Yu [(11,0,3),(12,1,41),(13,2,26),(14,3,26),(15,4,57)],ZQ],[.row,.row,.row,.row,.row]⟩
abbrev zm30:Hints:=⟨[],[(3,⟨⟨.norm,[4],[],zm3,[]⟩,[⟨(.exit 0),[4],[],zm3,[]⟩],[],[(11,none)],[]⟩),(7,⟨⟨.norm,[],[(3,0,4)],⟨[zm4,zm4,zm4,zm4],[]⟩,[]⟩,[],[(3,0,4)],[],[]⟩)],[],[(7,[7]),(8,[7])],[],[]⟩
abbrev ZM5:Pt:=.d (.st .Store) [(2,0,5)]
abbrev zm32:HK:=⟨.norm,[1,2,6],[(0,0,21)],⟨[.d zm5 [(11,100,3),(12,101,41),(13,102,26),(14,103,26)],.rel Yv 101 0,ZBZ,.d K9 [(0,104,31)]],[]⟩,[(0,some 11),(1,none),(0,some 13),(0,some 14),(33,none)]⟩
abbrev KX:Ty:=(.sl .w8)
abbrev zm34:HCut:=⟨[⟨.norm,[],[(6,0,5),(7,0,5),(8,0,1),(9,0,1)],⟨[.d (.st .Store) [(0,0,26),(1,1,117),(2,2,5)],.d zm7 [],.c (.nils),ZQ],[.row,.row,.row]⟩,[]⟩],[(6,0,5),(7,0,5),(8,0,1),(9,0,1)],[]⟩
abbrev zm35:Hints:=⟨[],[(5,⟨⟨.norm,[],[(2,0,1),(3,0,1)],⟨[ZIY,.c (.i 0)],[.row]⟩,[]⟩,[⟨.ret,[],[(2,0,1),(3,0,1)],⟨[.c (.nils),ZQ],[]⟩,[]⟩],[(2,0,1),(3,0,1)],[],[]⟩)],[],[],[],[]⟩
abbrev zm36:Hints:=⟨[(8,⟨[⟨.norm,[],[(2,0,1),(3,0,1)],⟨[.d (.sl .i) [(0,0,3)],.d KX [(0,1,5)]],[.row,.row]⟩,[]⟩],[(2,0,1),(3,0,1)],[(2,some 0),(3,some 0)]⟩)],[],[],[(2,[4])],[],[]⟩
abbrev zm37:Pv.Sp:=⟨[WQ,zm4,.d zm7 [],.rr 100,.rr 101,.rr 102,.rr 103,ZBZ,ZQ,ZQ,zm4,zm4,ZQ],[]⟩
abbrev ZQG:HK:=⟨(.exit 0),[],[],⟨[],[]⟩,[]⟩
abbrev ZPI (n:Nat):HK:=⟨.norm,[n],[],⟨[.n],[]⟩,[]⟩
abbrev zm40:HCut:=⟨[⟨.norm,[1,6],[(0,0,21)],zm23,[(0,some 11),(1,none),(0,some 13),(0,some 14),(33,none)]⟩],[(0,0,21)],[(1,none),(0,some 11),(0,some 13),(0,some 14),(33,none)]⟩
abbrev ZDM:Ty:=(.st .Object)
abbrev zm42:Pv.Sp:=⟨[.ptr 0 0],[.cells 21 [.d zm5 [(11,1,3),(12,2,41),(14,3,26)]],.row,.row,.row]⟩
abbrev Vm:Pt:=.d .b []
abbrev ZIX:Pv.Sp:=⟨[ZQ,ZQ],[]⟩
abbrev ZQF:Pt:=.d (.sl .i) [(0,0,3)]
abbrev zm46:Pv.Sp:=⟨[.ag 5,ZM5,.ag 5,.d zm7 [],ZQ],[.row]⟩
abbrev ZQE (n:Nat):HCut:=⟨[⟨.norm,[n],[],QY,[]⟩],[],[]⟩
abbrev zm48:Hints:=⟨[(4,zm0 20)],[(6,⟨⟨.norm,[],[(8,0,1)],zm3,[]⟩,[⟨(.exit 0),[],[(8,0,1)],zm3,[]⟩],[(8,0,1)],[],[]⟩)],[],[],[],[]⟩
abbrev ZJp:Pv.Sp:=⟨[zm6,ZQ],[]⟩
abbrev zm50:Pv.Sp:=⟨[.ag 4,.d ZDM [(3,0,31)],ZQ],[.row]⟩
abbrev ZQD:Pv.Sp:=⟨[.ag 19,.d Yu [],ZQ],[]⟩
abbrev ZPH:Pt:=.d (.pr .i (.pr .i .i)) []
abbrev zm53:HK:=⟨.ret,[2],[],⟨[.c (.i 8)],[]⟩,[]⟩
abbrev ZBY:Ty:=(.sl Yv)
abbrev zm55:Hints:=⟨[(4,⟨[⟨.norm,[1,14],[],⟨[.d K9 [(0,100,31)],Vm],[]⟩,[(1,none)]⟩],[],[(1,none)]⟩)],[],[],[],[],[]⟩
abbrev zm56:Hints:=⟨[],[(6,⟨⟨.norm,[8,24],[],zm8,[]⟩,[⟨(.exit 0),[8],[],zm3,[]⟩],[],[(23,none)],[]⟩)],[],[],[],[]⟩
abbrev ZQC:Pv.Sp:=⟨[Vm],[.cells 1 [ZQ]]⟩
abbrev ZM4:Pv.Sp:=⟨[.ag 2,zm9],[]⟩
abbrev zm59:Pv.Sp:=⟨[.d (.sl Q7) [(0,0,57)],.clo 40 0 1,.ptr 1 0],[.row,.cells 1 [.rel Yv 2 0,.bor Yv 2 41],.row]⟩
abbrev zm60:Pv.Sp:=⟨[.ag 5,WQ,.ag 5,.d zm7 []],[]⟩
abbrev zm61:Pv.Sp:=⟨[.ag 5,.d zm7 []],[.cells 21 [.d zm5 [(11,2,3),(12,1,41),(13,3,26),(14,4,26)]],.row,.row,.row,.row]⟩
abbrev ZQB:Pv.Sp:=⟨[.ag 19,.d Yu []],[]⟩
abbrev ZM3:Pv.Sp:=⟨[ZIY],[.row]⟩
abbrev ZJo:Pv.Sp:=⟨[ZCW],[]⟩
abbrev zm65:Pv.Sp:=⟨[.ag 16,Zv,Zv,Zv,Zv,Zv,Zv,Zv,Zv,Zv,Zv,Zv,Zv,Zv,Zv,Zv,Zv],[]⟩
abbrev zm66:Pv.Sp:=⟨[.ag 19,.d Yu [],.ag 13,.d Yv [],ZQ],[]⟩
abbrev ZQA:Pv.Sp:=⟨[.ag 5,.d zm7 []],[]⟩
abbrev zm68:HK:=⟨(.exit 0),[1,6],[(0,0,21)],zm23,[(0,some 11),(1,none),(0,some 13),(0,some 14),(33,none)]⟩
abbrev zm69:Pv.Sp:=⟨[.ag 19,.d Yu [(11,0,3),(12,1,41),(14,2,26),(15,3,57)],ZQ,ZQ],[.row,.row,.row,.row]⟩
abbrev ZJn:Pt:=.d (.sl .i) []
abbrev zm71:Pv.Sp:=⟨[.ag 4,zm4,zm4,zm4,zm4],[]⟩
abbrev zm72:Pv.Sp:=⟨[ZQ,.bor zm7 0 31],[.row]⟩
abbrev zm73:Pv.Sp:=⟨[],[.cells 21 [.d zm5 [(11,2,3),(12,1,41),(13,3,26),(14,4,26)]],.row,.row,.row,.row]⟩
abbrev zm74:Pv.Sp:=⟨[.d Yu [(11,100,3),(12,101,41),(13,102,26),(14,103,26),(15,0,57)],ZQ],[.row]⟩
abbrev zm75:HK:=⟨(.exit 0),[3],[],QY,[]⟩
abbrev ZGs:Pv.Sp:=⟨[],[]⟩
abbrev ZF0:Ty:=(.sl Q7)
abbrev ZPG:Pv.Sp:=⟨[zm6,zm6],[]⟩
abbrev ZP9:Pv.Sp:=⟨[.d K9 []],[]⟩
abbrev zm80:Pv.Sp:=⟨[.ag 2,zm9,ZQ],[.cells 2 [zm9]]⟩
abbrev ZPF:Pv.Sp:=⟨[ZQ,.n],[]⟩
abbrev zm82:Hints:=⟨[(24,zm0 36)],[(4,⟨ZPI 10,[zm53,ZQG],[],[],[]⟩)],[],[],[],[]⟩
abbrev zm83:Pv.Sp:=⟨[.c (.b false)],[]⟩
abbrev zm84:Pv.Sp:=⟨[.ag 2,zm9,ZQ],[]⟩
abbrev zm85:Pv.Sp:=⟨[.d zm5 [(11,100,3),(12,101,41),(13,102,26),(14,103,26)]],[]⟩
abbrev zm86:Pv.Sp:=⟨[.ag 2,zm9],[.cells 2 [zm9]]⟩
abbrev zm87:Pv.Sp:=⟨[.d ZBY [],.clo 68 0 1,.ptr 0 0],[.cells 19 [.d Yu []]]⟩
abbrev zm88:Hints:=⟨[(12,⟨[⟨.norm,[9],[],zm3,[]⟩],[],[]⟩)],[],[],[],[],[]⟩
abbrev zm89:Pv.Sp:=⟨[.ptr 0 0],[.cells 2 [zm9]]⟩
abbrev zm90:Pv.Sp:=⟨[ZIY,ZQ],[.row]⟩
abbrev zm91:Pv.Sp:=⟨[.ag 13,.d Yv [],ZQ],[]⟩
abbrev zm92:Pv.Sp:=⟨[zm6,zm4,zm6],[]⟩
abbrev ZPE:Pv.Sp:=⟨[zm4],[]⟩
abbrev zm94:Pv.Sp:=⟨[ZQ],[.cells 1 [ZQ]]⟩
abbrev zm95:Pv.Sp:=⟨[.d K9 [(0,1,31)],.bor K9 0 39],[.row,.row]⟩
abbrev zm96:Pv.Sp:=⟨[.d K9 [(0,1,31)],.bor zm7 0 31],[.row,.row]⟩
abbrev zm97:Pv.Sp:=⟨[ZCW,.clo 125 0 1,.ptr 0 0],[.cells 1 [ZQ]]⟩
abbrev zm98:Pv.Sp:=⟨[ZQF],[.row]⟩
abbrev zm99:Pv.Sp:=⟨[.ag 13,.d Yv [],.ptr 0 0],[.cells 1 [ZQ]]⟩
end Go.Proofs.YtooeopogefefiaaGreatDoor
