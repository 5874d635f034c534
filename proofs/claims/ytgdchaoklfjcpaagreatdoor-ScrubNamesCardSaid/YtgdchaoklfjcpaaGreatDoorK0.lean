import Derived.Test.YtgdchaoklfjcpaaGreatDoorOwMf
import Derived.Test.YtgdchaoklfjcpaaGreatDoorOwMg
import Derived.Test.YtgdchaoklfjcpaaGreatDoorGv
import Derived.Test.YtgdchaoklfjcpaaGreatDoorGi
import Derived.Test.YtgdchaoklfjcpaaGreatDoorGw
import Derived.Test.YtgdchaoklfjcpaaGreatDoorGx
import Derived.Test.YtgdchaoklfjcpaaGreatDoorGr
import Derived.Test.YtgdchaoklfjcpaaGreatDoorSg
/- Proved: the ground of the contracts. -/
set_option linter.unusedVariables false
namespace Go.Proofs.YtgdchaoklfjcpaaGreatDoor
open Go Go.Ow Go.Pv Go.Proofs
set_option maxRecDepth 20000
abbrev TY:List (Nat×Ty):=[(26,.st .Disk),(30,.st .Store),(32,.st .Ptr),(37,.st .Pool),(42,.st .Object),(47,.st .Line),(83,.st .Change),(127,.st .Write),(166,.st .Label)]
abbrev NT:List (Nat×NK):=[(176,.count),(231,.index)]
theorem hn:NtL Tryz.prog NT:=NtL.cons (⟨_,Tryz.func176,by kernel_rfl,by kernel_rfl,by kernel_rfl,by kernel_rfl⟩)<|NtL.cons (⟨_,Tryz.func231,by kernel_rfl,by kernel_rfl,by kernel_rfl,by kernel_rfl⟩) (NtL.nil)
noncomputable abbrev ITp (p:List UInt8->List UInt8->Rn (List UInt8)):List (Nat×List ItSpec):=[(131,[⟨⟨[.ptr 0 0,.ptr 1 0],[.cells 1 [.d (.sl .w8) []],.cells 1 [.d .i []]]⟩,1,[.d (.sl .w8) []],λx _ _ b s=>Y4 x.1 x.2 b s⟩]),(143,[⟨⟨[.ptr 0 0,.ptr 1 0],[.cells 1 [.d (.sl .i) []],.cells 1 [.d .i []]]⟩,1,[.d (.sl .i) []],λx _ _ b s=>Y4 x.1 x.2 b s⟩]),(181,[⟨⟨[.ptr 0 0],[.cells 1 [.d (.sl .w8) []]]⟩,2,[.d .i [],.d .w8 []],λx _ _ b s=>backR x b s⟩]),(226,[⟨⟨[.ptr 0 0,.ptr 1 0],[.cells 1 [.d (.sl<|.st .Ptr) []],.cells 1 [.d .i []]]⟩,1,[.d (.sl<|.st .Ptr) []],λx _ _ b s=>Y4 x.1 x.2 b s⟩]),(243,[⟨⟨[.ptr 0 0,.ptr 1 0],[.cells 1 [.d (.sl .w8) []],.cells 1 [.d (.sl .w8) []]]⟩,1,[.d (.sl .w8) []],λx=>p x.1 x.2⟩])]
noncomputable abbrev IT:List (Nat×List ItSpec):=ITp pcR
noncomputable abbrev IT0:List (Nat×List ItSpec):=[(131,[⟨⟨[.ptr 0 0,.ptr 1 0],[.cells 1 [.d (.sl .w8) []],.cells 1 [.d .i []]]⟩,1,[.d (.sl .w8) []],λx _ _ b s=>Y4 x.1 x.2 b s⟩]),(143,[⟨⟨[.ptr 0 0,.ptr 1 0],[.cells 1 [.d (.sl .i) []],.cells 1 [.d .i []]]⟩,1,[.d (.sl .i) []],λx _ _ b s=>Y4 x.1 x.2 b s⟩]),(181,[⟨⟨[.ptr 0 0],[.cells 1 [.d (.sl .w8) []]]⟩,2,[.d .i [],.d .w8 []],λx _ _ b s=>backR x b s⟩]),(226,[⟨⟨[.ptr 0 0,.ptr 1 0],[.cells 1 [.d (.sl<|.st .Ptr) []],.cells 1 [.d .i []]]⟩,1,[.d (.sl<|.st .Ptr) []],λx _ _ b s=>Y4 x.1 x.2 b s⟩])]
theorem hI:∀f,∀S∈lkI IT0 f,ItOk Tryz.prog f S:=PJ ZI8<|PJ ZI7<|PJ ZNk<|PJ ZI6 (OB)
section
variable{f:Nat}{i o:Pv.Sp}{φ:VH (hyS i)->Option (VH<|hyS o)}
theorem kV (t:Tb)(hb:List Nat)(Z:Hints)(ht:Kt (Kf Tryz.prog) t)(h:∀x,fnV (mkX Tryz.prog TY NT hb t []) Z f i o x=φ x:=by intro x;kernel_rfl)(a:entQ Tryz.prog f=true:=by kernel_rfl):Kf Tryz.prog f ⟨i,o,φ⟩:=kv hn t [] hb Z a ht h trivial
theorem kWd (t:Tb)(hb:List Nat)(Z:Hints)(ht:Kt (Kf Tryz.prog) t)(h:∀x,fnV (mkX Tryz.prog TY NT hb t []) Z f i o x=φ x:=by intro x;kernel_rfl)(a:entQ Tryz.prog f=true:=by kernel_rfl):Kd Tryz.prog f ⟨i,o,φ⟩:=kw hn t [] hb Z a ht h trivial
theorem kR (t:Tb)(hb:List Nat)(Z:Hints)(ht:Kt (Kf Tryz.prog) t)(h:∀x,fnR (mkX Tryz.prog TY NT hb t []) (lkI IT0) Z f i o x=φ x:=by intro x;kernel_rfl)(a:entQ Tryz.prog f=true:=by kernel_rfl):Kf Tryz.prog f ⟨i,o,φ⟩:=kr hn t [] hb IT0 hI Z a ht h trivial
theorem kDf (t d:Tb)(hb:List Nat)(Z:Hints)(ht:Kt (Kf Tryz.prog) t)(a:Kt (Kd Tryz.prog) d)(h:∀x,fnD (mkX Tryz.prog TY NT hb t d) Z f i o x=φ x:=by intro x;kernel_rfl)(b:entQ Tryz.prog f=true:=by kernel_rfl):Kf Tryz.prog f ⟨i,o,φ⟩:=kD hn t d hb Z b ht h a
end
theorem kG0{f:Nat}{i o:Pv.Sp}{φ:VH (hyS i)->Option (VH<|hyS o)}(h:FnOk Tryz.prog f i o φ)(a:entQ Tryz.prog f=true:=by kernel_rfl):Kf Tryz.prog f ⟨i,o,φ⟩:=kG a h
abbrev KT:=Kf Tryz.prog
abbrev SP:=Pv.Spec
abbrev zm0 (n:Nat):HCut:=⟨[⟨.norm,[n],[],⟨[.d .b []],[]⟩,[]⟩],[],[]⟩
abbrev ZX:Pt:=.d .i []
abbrev zm2:Hints:=⟨[],[],[],[],[],[]⟩
abbrev zm3:Pv.Sp:=⟨[.d (.sl .w8) [(0,0,5)]],[.row]⟩
abbrev zm4:Pt:=.d .w32 []
abbrev zm5:Ty:=(.pr (.st .Pool)<|.pr .w32 .i)
abbrev zm6:Pt:=.d (.sl .w8) []
abbrev zm7:Ty:=(.st .Ptr)
abbrev zm8:Pv.Sp:=⟨[.d (.sl .w8) [(0,0,5)],ZX],[.row]⟩
abbrev zm9:Pt:=.d (.st .Disk) []
abbrev Qv:Ty:=(.st .Change)
abbrev Ye:Ty:=(.st .Line)
abbrev Qh:Pv.Sp:=⟨[ZX],[]⟩
abbrev Yi:Ty:=(.st .Pool)
abbrev Zv:Pt:=.d .w8 []
abbrev zm15:Hints:=⟨[],[(2,⟨⟨.norm,[8],[(1,0,1)],⟨[ZX,ZX],[]⟩,[]⟩,[⟨.ret,[4],[(1,0,1)],⟨[ZX,ZX],[]⟩,[]⟩,⟨(.exit 0),[],[(1,0,1)],Qh,[]⟩],[(1,0,1)],[],[]⟩)],[],[],[],[]⟩
abbrev V2:Pt:=.d (.st .Store) []
abbrev ZBk:Pt:=.d (.sl<|.sl .w8) []
abbrev zm18:Hints:=⟨[],[(2,⟨⟨.norm,[8],[],⟨[.n],[]⟩,[]⟩,[⟨.ret,[4],[],⟨[.n],[]⟩,[]⟩,⟨(.exit 0),[],[],⟨[],[]⟩,[]⟩],[],[],[]⟩)],[],[],[],[]⟩
abbrev U2:Pv.Sp:=⟨[.d .b []],[]⟩
abbrev ZH9:Pt:=.d (.sl zm7) [(0,0,32)]
abbrev zm21:HCut:=⟨[⟨.norm,[],[(0,0,21)],⟨[V2,zm4,.d zm7 [],.rr 100,.rr 101,ZBk,.rr 102,.d (.sl Qv) [],ZX,ZX,zm4,zm4,ZX],[]⟩,[(0,some 11),(0,some 12),(0,some 14)]⟩],[(0,0,21)],[]⟩
abbrev zm22:Hints:=⟨[],[(3,⟨⟨.norm,[9,10],[],⟨[ZX,ZX],[]⟩,[]⟩,[⟨(.exit 0),[9],[],Qh,[]⟩],[],[],[]⟩)],[],[],[],[]⟩
abbrev zm23:Pv.Sp:=⟨[.d zm5 [(11,100,3),(12,101,47),(13,102,27),(14,103,27)],.rel Ye 101 0,.d (.sl zm7) [(0,104,32)]],[]⟩
abbrev ZAh:Pt:=.d (.sl Qv) []
abbrev U1:Pv.Sp:=⟨[zm6],[]⟩
abbrev Ke:Ty:=(.sl zm7)
abbrev zm27:Hints:=⟨[(20,⟨[⟨.norm,[3],[(2,0,19)],⟨[.d Yi [(0,0,27),(1,1,127),(2,2,5),(11,3,3),(12,4,47),(13,5,27),(14,6,27),(15,7,83)],ZX],[.row,.row,.row,.row,.row,.row,.row,.row]⟩,[]⟩],[(2,0,19)],[]⟩)],[],[],[(5,[5])],[],[]⟩
abbrev zm28:Hints:=⟨[(16,⟨[⟨.norm,[3,4],[],⟨[.ptr 0 0,ZX],[.cells 4 [.d (.st .Object) [(3,1,32)]],.row]⟩,[]⟩],[],[]⟩),(20,zm0 35),(28,⟨[⟨.norm,[5,6],[],⟨[.ptr 0 0,ZX],[.cells 2 [zm9]]⟩,[]⟩],[],[]⟩)],[],[],[],[],[]⟩
abbrev zm29:HK:=⟨.norm,[],[(0,0,21),(1,0,1),(4,0,1),(10,0,1)],⟨[.d zm5 [(11,100,3),(12,101,47),(14,102,27)],.ptr 103 0,.d (.sl .i) [(0,0,3)],.d (.sl .w8) [(0,1,5)]],[.row,.row]⟩,[(18,none),(53,none),(0,some 14),(0,none)]⟩
abbrev zm30:Pv.Sp:=⟨[.ag 19,.d Yi [(11,0,3),(12,1,47),(13,2,27),(14,3,27),(15,4,83)],ZX],[.row,.row,.row,.row,.row]⟩
abbrev zm31:Hints:=⟨[],[(3,⟨⟨.norm,[4],[],zm3,[]⟩,[⟨(.exit 0),[4],[],zm3,[]⟩],[],[(11,none)],[]⟩),(7,⟨⟨.norm,[],[(3,0,4)],⟨[zm4,zm4,zm4,zm4],[]⟩,[]⟩,[],[(3,0,4)],[],[]⟩)],[],[(7,[7]),(8,[7])],[],[]⟩
abbrev ZKf:Pv.Sp:=⟨[.ag 19,.d Yi []],[]⟩
abbrev ZMN:Pt:=.d (.st .Store) [(2,0,5)]
abbrev ZOy:HK:=⟨(.exit 0),[],[],⟨[],[]⟩,[]⟩
abbrev ZOx:Pv.Sp:=⟨[.ag 4,.d (.st .Object) [(3,0,32)],ZX],[.row]⟩
abbrev zm36:HK:=⟨.norm,[1,2,6],[(0,0,21)],⟨[.d zm5 [(11,100,3),(12,101,47),(13,102,27),(14,103,27)],.rel Ye 101 0,ZAh,.d Ke [(0,104,32)]],[]⟩,[(0,some 11),(1,none),(0,some 13),(0,some 14),(33,none)]⟩
abbrev ZOH (n:Nat):HK:=⟨.norm,[n],[],⟨[.n],[]⟩,[]⟩
abbrev KJ:Ty:=(.sl .w8)
abbrev zm39:HCut:=⟨[⟨.norm,[],[(6,0,5),(7,0,5),(8,0,1),(9,0,1)],⟨[.d (.st .Store) [(0,0,27),(1,1,127),(2,2,5)],.d zm7 [],.c (.nils),ZX],[.row,.row,.row]⟩,[]⟩],[(6,0,5),(7,0,5),(8,0,1),(9,0,1)],[]⟩
abbrev zm40:Hints:=⟨[],[(5,⟨⟨.norm,[],[(2,0,1),(3,0,1)],⟨[ZH9,.c<|.i 0],[.row]⟩,[]⟩,[⟨.ret,[],[(2,0,1),(3,0,1)],⟨[.c (.nils),ZX],[]⟩,[]⟩],[(2,0,1),(3,0,1)],[],[]⟩)],[],[],[],[]⟩
abbrev zm41:Hints:=⟨[(8,⟨[⟨.norm,[],[(2,0,1),(3,0,1)],⟨[.d (.sl .i) [(0,0,3)],.d KJ [(0,1,5)]],[.row,.row]⟩,[]⟩],[(2,0,1),(3,0,1)],[(2,some 0),(3,some 0)]⟩)],[],[],[(2,[4])],[],[]⟩
abbrev zm42:Pv.Sp:=⟨[V2,zm4,.d zm7 [],.rr 100,.rr 101,.rr 102,.rr 103,ZAh,ZX,ZX,zm4,zm4,ZX],[]⟩
abbrev zm43:HCut:=⟨[⟨.norm,[1,6],[(0,0,21)],zm23,[(0,some 11),(1,none),(0,some 13),(0,some 14),(33,none)]⟩],[(0,0,21)],[(1,none),(0,some 11),(0,some 13),(0,some 14),(33,none)]⟩
abbrev VT:Pt:=.d .b []
abbrev zm45:Pv.Sp:=⟨[.ptr 0 0],[.cells 21 [.d zm5 [(11,1,3),(12,2,47),(14,3,27)]],.row,.row,.row]⟩
abbrev ZOw (n:Nat):HCut:=⟨[⟨.norm,[n],[],Qh,[]⟩],[],[]⟩
abbrev UI:Ty:=(.sl .i)
abbrev ZKe:Pv.Sp:=⟨[ZX,ZX],[]⟩
abbrev zm49:Pv.Sp:=⟨[.ag 5,ZMN,.ag 5,.d zm7 [],ZX],[.row]⟩
abbrev zm50:Hints:=⟨[(4,zm0 20)],[(6,⟨⟨.norm,[],[(8,0,1)],zm3,[]⟩,[⟨(.exit 0),[],[(8,0,1)],zm3,[]⟩],[(8,0,1)],[],[]⟩)],[],[],[],[]⟩
abbrev ZJP:Pv.Sp:=⟨[zm6,ZX],[]⟩
abbrev ZDr:Ty:=(.st .Object)
abbrev ZOG:Pt:=.d (.pr .i<|.pr .i .i) []
abbrev zm54:HK:=⟨.ret,[2],[],⟨[.c<|.i 8],[]⟩,[]⟩
abbrev ZDq:Pv.Sp:=⟨[],[]⟩
abbrev ZAg:Ty:=(.sl Ye)
abbrev zm57:Hints:=⟨[(4,⟨[⟨.norm,[1,14],[],⟨[.d Ke [(0,100,32)],VT],[]⟩,[(1,none)]⟩],[],[(1,none)]⟩)],[],[],[],[],[]⟩
abbrev zm58 (n:Nat):HK:=⟨.ret,[n],[],⟨[.c<|.b false],[]⟩,[]⟩
abbrev ZOF:Pv.Sp:=⟨[.ag 2,zm9,ZX],[]⟩
abbrev zm60:Hints:=⟨[],[(6,⟨⟨.norm,[8,24],[],zm8,[]⟩,[⟨(.exit 0),[8],[],zm3,[]⟩],[],[(23,none)],[]⟩)],[],[],[],[]⟩
abbrev ZOv:Pv.Sp:=⟨[VT],[.cells 1 [ZX]]⟩
abbrev ZOE:Pv.Sp:=⟨[.ag 2,zm9],[]⟩
abbrev zm63:Pv.Sp:=⟨[.d (.sl Qv) [(0,0,83)],.clo 96 0 1,.ptr 1 0],[.row,.cells 1 [.rel Ye 2 0,.bor Ye 2 47],.row]⟩
abbrev zm64:Pv.Sp:=⟨[.ag 5,V2,.ag 5,.d zm7 []],[]⟩
abbrev zm65:Pv.Sp:=⟨[.ag 5,.d zm7 []],[.cells 21 [.d zm5 [(11,2,3),(12,1,47),(13,3,27),(14,4,27)]],.row,.row,.row,.row]⟩
abbrev ZMM:Pv.Sp:=⟨[ZH9],[.row]⟩
abbrev ZJO:Pv.Sp:=⟨[ZBk],[]⟩
abbrev zm68:Pv.Sp:=⟨[.ag 16,Zv,Zv,Zv,Zv,Zv,Zv,Zv,Zv,Zv,Zv,Zv,Zv,Zv,Zv,Zv,Zv],[]⟩
abbrev zm69:Pv.Sp:=⟨[.ag 19,.d Yi [],.ag 13,.d Ye [],ZX],[]⟩
abbrev ZOu:Pv.Sp:=⟨[.ag 5,.d zm7 []],[]⟩
abbrev zm71:HK:=⟨(.exit 0),[1,6],[(0,0,21)],zm23,[(0,some 11),(1,none),(0,some 13),(0,some 14),(33,none)]⟩
abbrev zm72:Pv.Sp:=⟨[.ag 19,.d Yi [(11,0,3),(12,1,47),(14,2,27),(15,3,83)],ZX,ZX],[.row,.row,.row,.row]⟩
abbrev ZOt:Pv.Sp:=⟨[.d UI [],ZX],[]⟩
abbrev zm74:Pv.Sp:=⟨[.d UI [(0,0,3)]],[.row]⟩
abbrev zm75:Pv.Sp:=⟨[.ag 4,zm4,zm4,zm4,zm4],[]⟩
abbrev zm76:Pv.Sp:=⟨[ZX,.bor zm7 0 32],[.row]⟩
abbrev zm77:Pv.Sp:=⟨[],[.cells 21 [.d zm5 [(11,2,3),(12,1,47),(13,3,27),(14,4,27)]],.row,.row,.row,.row]⟩
abbrev zm78:Pv.Sp:=⟨[.ag 19,.d Yi [],ZX],[]⟩
abbrev zm79:Pv.Sp:=⟨[.ag 19,.d Yi [(11,0,3),(12,1,47),(14,2,27),(15,3,83)],VT],[.row,.row,.row,.row]⟩
abbrev zm80:Pv.Sp:=⟨[.d Yi [(11,100,3),(12,101,47),(13,102,27),(14,103,27),(15,0,83)],ZX],[.row]⟩
abbrev zm81:HK:=⟨(.exit 0),[3],[],Qh,[]⟩
abbrev ZFX:Ty:=(.sl Qv)
abbrev ZOD:Pv.Sp:=⟨[zm6,zm6],[]⟩
abbrev ZOs:Pv.Sp:=⟨[.d Ke []],[]⟩
abbrev zm85:Pv.Sp:=⟨[.ag 2,zm9,ZX],[.cells 2 [zm9]]⟩
abbrev zm86:Pv.Sp:=⟨[ZX,.n],[]⟩
abbrev zm87:Hints:=⟨[(24,zm0 36)],[(4,⟨ZOH 10,[zm54,ZOy],[],[],[]⟩)],[],[],[],[]⟩
abbrev zm88:Pv.Sp:=⟨[.d zm5 [(11,100,3),(12,101,47),(13,102,27),(14,103,27)]],[]⟩
abbrev zm89:Pv.Sp:=⟨[.ag 2,zm9],[.cells 2 [zm9]]⟩
abbrev zm90:Pv.Sp:=⟨[.d ZAg [],.clo 72 0 1,.ptr 0 0],[.cells 19 [.d Yi []]]⟩
abbrev zm91:Hints:=⟨[(12,⟨[⟨.norm,[9],[],zm3,[]⟩],[],[]⟩)],[],[],[],[],[]⟩
abbrev zm92:Pv.Sp:=⟨[.ptr 0 0],[.cells 2 [zm9]]⟩
abbrev zm93:Pv.Sp:=⟨[ZH9,ZX],[.row]⟩
abbrev zm94:Pv.Sp:=⟨[.ag 13,.d Ye [],ZX],[]⟩
abbrev zm95:Pv.Sp:=⟨[zm6,zm4,zm6],[]⟩
abbrev ZOC:Pv.Sp:=⟨[zm4],[]⟩
abbrev zm97:HK:=⟨(.exit 2),[],[],ZDq,[]⟩
abbrev zm98:Pv.Sp:=⟨[ZX],[.cells 1 [ZX]]⟩
abbrev zm99:Pv.Sp:=⟨[.d Ke [(0,1,32)],.bor Ke 0 40],[.row,.row]⟩
abbrev ZSR:Pv.Sp:=⟨[.d Ke [(0,1,32)],.bor zm7 0 32],[.row,.row]⟩
abbrev ZSQ:Pv.Sp:=⟨[ZBk,.clo 121 0 1,.ptr 0 0],[.cells 1 [ZX]]⟩
abbrev ZSP:Pv.Sp:=⟨[.ag 13,.d Ye [],.ptr 0 0],[.cells 1 [ZX]]⟩
end Go.Proofs.YtgdchaoklfjcpaaGreatDoor
