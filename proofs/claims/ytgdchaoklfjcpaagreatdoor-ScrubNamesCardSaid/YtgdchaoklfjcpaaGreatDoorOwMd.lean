import Derived.Test.YtgdchaoklfjcpaaGreatDoorOwMc
import Derived.Test.YtgdchaoklfjcpaaGreatDoorOwMb
import Derived.KernelRfl
import Derived.Test.YtgdchaoklfjcpaaGreatDoorOwMa
import Derived.RecoverIn
import Derived.WideLaws
/- rules, proved -/
set_option linter.constructorNameAsVariable false
set_option linter.unusedSimpArgs false
set_option linter.unusedVariables false
namespace Go.Ow
open Go.RowKit
class MonoC {α:Type} (R:Rep α):Prop where
  h:R.Mono
instance:MonoC RU8:=⟨RU8.mono⟩
instance:MonoC RU32:=⟨RU32.mono⟩
instance:MonoC RU64:=⟨RU64.mono⟩
instance:MonoC RInt:=⟨RInt.mono⟩
instance:MonoC RBool:=⟨RBool.mono⟩
instance:MonoC RStr:=⟨RStr.mono⟩
instance{α:Type}{R:Rep α}{n:Nat} [h:MonoC R]:MonoC (RSl R n):=⟨RSl.mono h.h⟩
instance:MonoC R_Call:=⟨R_Call.mono⟩
instance:MonoC R_Change:=⟨R_Change.mono⟩
instance:MonoC R_Deed:=⟨R_Deed.mono⟩
instance:MonoC R_Disk:=⟨R_Disk.mono⟩
instance:MonoC R_Entry:=⟨R_Entry.mono⟩
instance:MonoC R_Info:=⟨R_Info.mono⟩
instance:MonoC R_Label:=⟨R_Label.mono⟩
instance:MonoC R_Line:=⟨R_Line.mono⟩
instance:MonoC R_Object:=⟨R_Object.mono⟩
instance:MonoC R_Pair:=⟨R_Pair.mono⟩
instance:MonoC R_Part:=⟨R_Part.mono⟩
instance:MonoC R_Pool:=⟨R_Pool.mono⟩
instance:MonoC R_Ptr:=⟨R_Ptr.mono⟩
instance:MonoC R_Reply:=⟨R_Reply.mono⟩
instance:MonoC R_Signer:=⟨R_Signer.mono⟩
instance:MonoC R_Store:=⟨R_Store.mono⟩
instance:MonoC R_Stream:=⟨R_Stream.mono⟩
instance:MonoC R_Write:=⟨R_Write.mono⟩
instance:MonoC R_WriteO:=⟨R_WriteO.mono⟩
inductive Sp:Type 1 where
  |i (n:Int)
  |b (x:Bool)
  |w8 (x:UInt8)
  |w32 (x:UInt32)
  |w64 (x:UInt64)
  |s (l:List UInt8)
  |st (c:Nat)
  |fv (f:Nat)
  |cx {α:Type} (N:Bool) (R:Rep α) (hR:MonoC R) (n:Nat) (m:List α)
  |sx {α:Type} (N:Bool) (R:Rep α) (hR:MonoC R) (n:Nat) (m:List α)
  |rx {α:Type} (N:Bool) (R:Rep α) (hR:MonoC R) (E n:Nat) (m:List α)
@[reducible] def Sp.sl {α:Type} (N:Bool) (R:Rep α) [h:MonoC R] (n:Nat) (m:List α):Sp:=.sx N R h n m
@[reducible] def Sp.cl {α:Type} (N:Bool) (R:Rep α) [h:MonoC R] (n:Nat) (m:List α):Sp:=.cx N R h n m
@[reducible] def Sp.row {α:Type} (N:Bool) (R:Rep α) [h:MonoC R] (E n:Nat) (m:List α):Sp:=.rx N R h E n m
def ZQw (N:Bool)(x:Disk):List Sp:=[.st 2,.sl N (RSl RU8 1) 1 x.Blocks,.sl N R_Write 2 x.Waits]
def Ji (N:Bool)(x:Ptr):List Sp:=[.st 5,.i x.At,.w32 x.Birth,.w32 x.Iv,.w32 x.Tag,.w32 x.Sum]
def ZIj (N:Bool)(x:Object):List Sp:=[.st 4,.w8 x.Kind,.i x.Links,.i x.Size,.sl N R_Ptr 5 x.Data]
def Q0 (N:Bool)(x:Store):List Sp:=[.st 5,.sl N (RSl RU8 1) 1 x.Disk.Blocks,.sl N R_Write 2 x.Disk.Waits,.sl N RU8 1 x.Space,.w32 x.Epoch,.w32 x.Count]
def ZNO (N:Bool)(x:Pool):List Sp:=[.st 19,.sl N (RSl RU8 1) 1 x.Store.Disk.Blocks,.sl N R_Write 2 x.Store.Disk.Waits,.sl N RU8 1 x.Store.Space,.w32 x.Store.Epoch,.w32 x.Store.Count,.w32 x.Gen,.i x.Root.At,.w32 x.Root.Birth,.w32 x.Root.Iv,.w32 x.Root.Tag,.w32 x.Root.Sum,.sl N RInt 1 x.MetaL,.sl N R_Line 13 x.Lines,.sl N (RSl RU8 1) 1 x.Keys,.sl N (RSl RU8 1) 1 x.Loaded,.sl N R_Change 12 x.Changes,.i x.Logged,.i x.NextId,.w32 x.NextGuid]
def takeK:Nat->List Value->(List Value->List Value->Prop)->Prop
 |0,vs,k=>k [] vs
 |c+1,v::vs,k=>takeK c vs (λa b=>k (v::a) b)
 |_+1,[],k=>k [] []
theorem ZGS:∀(c:Nat) (vs:List Value) (k:List Value->List Value->Prop),takeK c vs k->k (vs.take c) (vs.drop c)
 |0,vs,k,h=>h
 |c+1,[],k,h=>h
 |c+1,v::vs,k,h=>ZGS c vs (λa b=>k (v::a) b) h
def fl:List Sp->List Value->List Value
 |[],_=> []
 | .st c::as,.agg cs::vs=>.agg ((fl as (cs.toList++vs)).take c).toArray::(fl as (cs.toList++vs)).drop c
 | .st _::_,_=> []
 | .sx .. ::as,v::vs=>v::fl as vs
 | .cx .. ::as,v::vs=>v::fl as vs
 | .fv f::as,_::vs=>.func (.func f) #[] #[]::fl as vs
 | .rx .. ::as,v::vs=>v::fl as vs
 | .i n::as,_::vs=>.int .i64 n::fl as vs
 | .b x::as,_::vs=>.bool x::fl as vs
 | .w8 x::as,_::vs=>.int .u8 (x.toNat:Int)::fl as vs
 | .w32 x::as,_::vs=>.int .u32 (x.toNat:Int)::fl as vs
 | .w64 x::as,_::vs=>.int .u64 (x.toNat:Int)::fl as vs
 | .s x::as,_::vs=>.string (Ow.bs x)::fl as vs
 |_::_,[]=> []
theorem ZSY{c:Nat}{as:List Sp}{cs:Array Value}{vs:List Value}(h:fl (.st c::as) (.agg cs::vs)=.agg cs::vs):
 fl as (cs.toList++vs)=cs.toList++vs/\(cs.toList++vs).take c=cs.toList/\(cs.toList++vs).drop c=vs:=by
 simp only[fl]at h;obtain⟨h1,h2⟩:=Tv h;have h3:=congrArg Array.toList<|Value.agg.inj h1;rw[Tf]at h3;have a:fl as (cs.toList++vs)=cs.toList++vs:=by
  conv=>lhs;rw[<-RO c (fl as (cs.toList++vs)),h3,h2]
 exact⟨a,by rw[<-a];exact h3,by rw[<-a];exact h2⟩
def Ent (H:Heaplet):List Sp->(List Value->Prop)->Prop
 |[],k=>k []
 | .st c::as,k=>Ent H as (λvs=>takeK c vs λa b=>k (.agg a.toArray::b))
 | .sx _ R h n m::as,k=>∀(ao:Option Addr) (l cap:Nat),IsSlice H R n (.slice ao l cap) m->Ent H as (λvs=>k (.slice ao l cap::vs))
 | .rx .. ::as,k=>True
 | .cx .. ::as,k=>True
 | .fv f::as,k=>Ent H as (λvs=>k (.func (.func f) #[] #[]::vs))
 | .i n::as,k=>Ent H as (λvs=>k (.int .i64 n::vs))
 | .b x::as,k=>Ent H as (λvs=>k (.bool x::vs))
 | .w8 x::as,k=>Ent H as (λvs=>k (.int .u8 (x.toNat:Int)::vs))
 | .w32 x::as,k=>Ent H as (λvs=>k (.int .u32 (x.toNat:Int)::vs))
 | .w64 x::as,k=>Ent H as (λvs=>k (.int .u64 (x.toNat:Int)::vs))
 | .s x::as,k=>Ent H as λvs=>k (.string (Ow.bs x)::vs)
def Fit (H:Heaplet):List Sp->List Value->Prop
 |[],_=>True
 | .st _::as,.agg cs::vs=>Fit H as (cs.toList++vs)
 | .st _::_,_=>False
 | .sx _ R h n m::as,v::vs=>IsSlice H R n v m/\Fit H as vs
 | .rx .. ::_,_=>False
 | .cx .. ::_,_=>False
 | .fv _::as,_::vs=>Fit H as vs
 | .i _::as,_::vs=>Fit H as vs
 | .b _::as,_::vs=>Fit H as vs
 | .w8 _::as,_::vs=>Fit H as vs
 | .w32 _::as,_::vs=>Fit H as vs
 | .w64 _::as,_::vs=>Fit H as vs
 | .s _::as,_::vs=>Fit H as vs
 |_::_,[]=>False
theorem Vw{H:Heaplet}:∀{as:List Sp} {vs:List Value} {k:List Value->Prop},Ent H as k->fl as vs=vs->Fit H as vs->k vs
  |[],vs,k,h,e,_=>by simp only[fl]at e;rw[<-e];exact h
  | .st c::as,[],k,h,e,f=>f.elim
  | .st c::as,v::vs,k,h,e,f=>by
    cases v<;>first|exact f.elim|skip
    rename_i cs;obtain⟨e1,e2,e3⟩:=ZSY e;have:=ZGS _ _ _<|Vw (as:=as) (k:=λvs=>takeK c vs λa b=>k (.agg a.toArray::b)) h e1 f;rw[e2,e3]at this;simpa using this
  | .rx .. ::as,[],k,h,e,f=>f.elim
  | .rx .. ::as,_::_,k,h,e,f=>f.elim
  | .cx .. ::as,[],k,h,e,f=>f.elim
  | .cx .. ::as,_::_,k,h,e,f=>f.elim
  | .fv _::as,[],k,h,e,f=>f.elim
  | .fv _::as,_::vs,k,h,e,f=>by obtain⟨e1,e2⟩:=Tv e;subst e1;exact Vw (k:=λvs=>k (_::vs)) h e2 f
  | .sx _ R d n m::as,[],k,h,e,f=>f.elim
  | .sx _ R d n m::as,v::vs,k,h,e,f=>by
    obtain⟨ao,cap,rfl⟩:=IsSlice.val f.1;exact Vw (as:=as) (k:=λvs=>k (_::vs)) (h ao m.length cap f.1) (Tv e).2 f.2
  | .i _::as,[],k,h,e,f=>f.elim
  | .i _::as,_::vs,k,h,e,f=>by obtain⟨e1,e2⟩:=Tv e;subst e1;exact Vw (k:=λvs=>k (_::vs)) h e2 f
  | .b _::as,[],k,h,e,f=>f.elim
  | .b _::as,_::vs,k,h,e,f=>by obtain⟨e1,e2⟩:=Tv e;subst e1;exact Vw (k:=λvs=>k (_::vs)) h e2 f
  | .w8 _::as,[],k,h,e,f=>f.elim
  | .w8 _::as,_::vs,k,h,e,f=>by obtain⟨e1,e2⟩:=Tv e;subst e1;exact Vw (k:=λvs=>k (_::vs)) h e2 f
  | .w32 _::as,[],k,h,e,f=>f.elim
  | .w32 _::as,_::vs,k,h,e,f=>by obtain⟨e1,e2⟩:=Tv e;subst e1;exact Vw (k:=λvs=>k (_::vs)) h e2 f
  | .w64 _::as,[],k,h,e,f=>f.elim
  | .w64 _::as,_::vs,k,h,e,f=>by obtain⟨e1,e2⟩:=Tv e;subst e1;exact Vw (k:=λvs=>k (_::vs)) h e2 f
  | .s _::as,[],k,h,e,f=>f.elim
  | .s _::as,_::vs,k,h,e,f=>by obtain⟨e1,e2⟩:=Tv e;subst e1;exact Vw (k:=λvs=>k (_::vs)) h e2 f
def HN:Bool->Heaplet->Heaplet->Heaplet
 |true,H0,H=>New H0 H
 |false,_,H=>H
def Out (H0 H:Heaplet):List Sp->List Value->List Own->Prop
 |[],_,Ks=>Ks= []
 | .st _::bs,.agg cs::vs,Ks=>Out H0 H bs (cs.toList++vs) Ks
 | .st _::_,_,_=>False
 | .sx N R h n m::bs,v::vs,Ks=>IsSlice (HN N H0 H) R n v m/\Out H0 H bs vs Ks
 | .rx N R h E n m::bs,v::vs,K::Ks=>(∃B,RowOf (HN N H0 H) R B E n v m K)/\Out H0 H bs vs Ks
 | .rx .. ::_,_::_,[]=>False
 | .cx N R h n m::bs,v::vs,Ks=>((∃ao l,v=.slice ao l l)/\IsSlice (HN N H0 H) R n v m)/\Out H0 H bs vs Ks
 | .fv _::_,_,_=>False
 | .i _::bs,_::vs,Ks=>Out H0 H bs vs Ks
 | .b _::bs,_::vs,Ks=>Out H0 H bs vs Ks
 | .w8 _::bs,_::vs,Ks=>Out H0 H bs vs Ks
 | .w32 _::bs,_::vs,Ks=>Out H0 H bs vs Ks
 | .w64 _::bs,_::vs,Ks=>Out H0 H bs vs Ks
 | .s _::bs,_::vs,Ks=>Out H0 H bs vs Ks
 |_::_,[],_=>False
def Bnd (H0 H:Heaplet)(B:Nat)(own:List Own):List Sp->(List Value->List Own->Prop)->Prop
 |[],k=>k [] own
 | .st c::bs,k=>Bnd H0 H B own bs (λvs o=>takeK c vs λa b=>k (.agg a.toArray::b) o)
 | .sx true R h n m::bs,k=>∀(ao:Option Addr) (l cap:Nat),IsSlice (New H0 H) R n (.slice ao l cap) m->Bnd H0 H B own bs (λvs o=>k (.slice ao l cap::vs) o)
 | .sx false R h n m::bs,k=>∀(ao:Option Addr) (l cap:Nat),IsSlice H R n (.slice ao l cap) m->Bnd H0 H B own bs (λvs o=>k (.slice ao l cap::vs) o)
 | .rx true R h E n m::bs,k=>∀(ao:Option Addr) (l cap:Nat) (K:Own),RowOf (New H0 H) R B E n (.slice ao l cap) m K->Bnd H0 H B own bs (λvs o=>k (.slice ao l cap::vs) (K::o))
 | .rx false R h E n m::bs,k=>∀(ao:Option Addr) (l cap:Nat) (K:Own),RowOf H R B E n (.slice ao l cap) m K->Bnd H0 H B own bs (λvs o=>k (.slice ao l cap::vs) (K::o))
 | .cx true R h n m::bs,k=>∀(ao:Option Addr) (l:Nat),IsSlice (New H0 H) R n (.slice ao l l) m->Bnd H0 H B own bs (λvs o=>k (.slice ao l l::vs) o)
 | .cx false R h n m::bs,k=>∀(ao:Option Addr) (l:Nat),IsSlice H R n (.slice ao l l) m->Bnd H0 H B own bs (λvs o=>k (.slice ao l l::vs) o)
 | .fv _::bs,k=>True
 | .i n::bs,k=>Bnd H0 H B own bs (λvs o=>k (.int .i64 n::vs) o)
 | .b x::bs,k=>Bnd H0 H B own bs (λvs o=>k (.bool x::vs) o)
 | .w8 x::bs,k=>Bnd H0 H B own bs (λvs o=>k (.int .u8 (x.toNat:Int)::vs) o)
 | .w32 x::bs,k=>Bnd H0 H B own bs (λvs o=>k (.int .u32 (x.toNat:Int)::vs) o)
 | .w64 x::bs,k=>Bnd H0 H B own bs (λvs o=>k (.int .u64 (x.toNat:Int)::vs) o)
 | .s x::bs,k=>Bnd H0 H B own bs λvs o=>k (.string (Ow.bs x)::vs) o
theorem X0{H0 H1 H:Heaplet}{B:Nat}{own:List Own}(g:Hle H0 H1):∀{bs:List Sp} {vs:List Value} {Ks:List Own} {k:List Value->List Own->Prop},
    Bnd H0 H B own bs k->fl bs vs=vs->Out H1 H bs vs Ks->(∀p∈Ks.flatten,B<=p.1)->k vs (Ks++own)
  |[],vs,Ks,k,h,e,f,d=>by simp only[fl]at e;rw[<-e,show Ks= []from f];exact h
  | .st c::bs,[],Ks,k,h,e,f,d=>f.elim
  | .st c::bs,v::vs,Ks,k,h,e,f,d=>by
    cases v<;>first|exact f.elim|skip
    rename_i cs;obtain⟨e1,e2,e3⟩:=ZSY e;have:=ZGS _ _ _<|X0 g (k:=λvs o=>takeK c vs λa b=>k (.agg a.toArray::b) o) h e1 f d;rw[e2,e3]at this;simpa using this
  | .sx N R j n m::bs,[],Ks,k,h,e,f,d=>f.elim
  | .sx true R j n m::bs,v::vs,Ks,k,h,e,f,d=>by
    obtain⟨ao,cap,rfl⟩:=IsSlice.val f.1;exact X0 g (k:=λvs o=>k (_::vs) o) (h ao m.length cap<|IsSlice.mono j.h (New.call g) f.1) (Tv e).2 f.2 d
  | .sx false R j n m::bs,v::vs,Ks,k,h,e,f,d=>by
    obtain⟨ao,cap,rfl⟩:=IsSlice.val f.1;exact X0 g (k:=λvs o=>k (_::vs) o) (h ao m.length cap f.1) (Tv e).2 f.2 d
  | .rx N R j E n m::bs,[],Ks,k,h,e,f,d=>f.elim
  | .rx N R j E n m::bs,v::vs,[],k,h,e,f,d=>f.elim
  | .rx true R j E n m::bs,v::vs,K::Ks,k,h,e,f,d=>by
    obtain⟨⟨w,l⟩,q⟩:=f;obtain⟨ao,cap,rfl⟩:=RowOf.val l;have t:=RowOf.base (RowOf.mono j.h (New.call g) l) (λp r=>d p<|by simp[r]);exact X0 g (k:=λvs o=>k (_::vs) (K::o)) (h ao m.length cap K t) (Tv e).2 q (λp r=>d p (by rw[TP];exact Ri _ r))
  | .rx false R j E n m::bs,v::vs,K::Ks,k,h,e,f,d=>by
    obtain⟨⟨w,l⟩,q⟩:=f;obtain⟨ao,cap,rfl⟩:=RowOf.val l;have t:=RowOf.base l (λp r=>d p<|by simp[r]);exact X0 g (k:=λvs o=>k (_::vs) (K::o)) (h ao m.length cap K t) (Tv e).2 q (λp r=>d p (by rw[TP];exact Ri _ r))
  | .fv _::bs,[],Ks,k,h,e,f,d=>f.elim
  | .fv _::bs,_::_,Ks,k,h,e,f,d=>f.elim
  | .cx N R j n m::bs,[],Ks,k,h,e,f,d=>f.elim
  | .cx true R j n m::bs,v::vs,Ks,k,h,e,f,d=>by
    obtain⟨⟨⟨ao,u,rfl⟩,l⟩,q⟩:=f;exact X0 g (k:=λvs o=>k (_::vs) o) (h ao u<|IsSlice.mono j.h (New.call g) l) (Tv e).2 q d
  | .cx false R j n m::bs,v::vs,Ks,k,h,e,f,d=>by
    obtain⟨⟨⟨ao,u,rfl⟩,l⟩,q⟩:=f;exact X0 g (k:=λvs o=>k (_::vs) o) (h ao u l) (Tv e).2 q d
  | .i _::bs,[],Ks,k,h,e,f,d=>f.elim
  | .i _::bs,_::vs,Ks,k,h,e,f,d=>by obtain⟨e1,e2⟩:=Tv e;subst e1;exact X0 g (k:=λvs o=>k (_::vs) o) h e2 f d
  | .b _::bs,[],Ks,k,h,e,f,d=>f.elim
  | .b _::bs,_::vs,Ks,k,h,e,f,d=>by obtain⟨e1,e2⟩:=Tv e;subst e1;exact X0 g (k:=λvs o=>k (_::vs) o) h e2 f d
  | .w8 _::bs,[],Ks,k,h,e,f,d=>f.elim
  | .w8 _::bs,_::vs,Ks,k,h,e,f,d=>by obtain⟨e1,e2⟩:=Tv e;subst e1;exact X0 g (k:=λvs o=>k (_::vs) o) h e2 f d
  | .w32 _::bs,[],Ks,k,h,e,f,d=>f.elim
  | .w32 _::bs,_::vs,Ks,k,h,e,f,d=>by obtain⟨e1,e2⟩:=Tv e;subst e1;exact X0 g (k:=λvs o=>k (_::vs) o) h e2 f d
  | .w64 _::bs,[],Ks,k,h,e,f,d=>f.elim
  | .w64 _::bs,_::vs,Ks,k,h,e,f,d=>by obtain⟨e1,e2⟩:=Tv e;subst e1;exact X0 g (k:=λvs o=>k (_::vs) o) h e2 f d
  | .s _::bs,[],Ks,k,h,e,f,d=>f.elim
  | .s _::bs,_::vs,Ks,k,h,e,f,d=>by obtain⟨e1,e2⟩:=Tv e;subst e1;exact X0 g (k:=λvs o=>k (_::vs) o) h e2 f d
def PostC{ρ:Type}(q:Bool)(H:Heaplet)(B:ρ->List Sp)(r:ρ)(u:Value)(K:List Own)(a:Heaplet):Prop:=∃vs,u=pack vs/\fl (B r) vs=vs/\Out H a (B r) vs K/\(q=true->a=H)
def Con{ρ:Type}(P:Program)(f:FuncId)(q:Bool)(As:List Sp)(o:Option ρ)(B:ρ->List Sp):Prop:=
 ∀H,Ent H As λvs=>∀r,o=some r->Does P f vs.toArray [] H (PostC q H B r)
theorem Con.does{ρ:Type}{P:Program}{f:FuncId}{q:Bool}{As:List Sp}{o:Option ρ}{B:ρ->List Sp}{H:Heaplet}{vs:List Value}{r:ρ}
 (C:Con P f q As o B)(e:fl As vs=vs)(h:Fit H As vs)(a:o=some r):Does P f vs.toArray [] H (PostC q H B r):=Vw (C H) e h r a
section rules
variable{x:Cx}{ops:Array Oper}{Q:Exit->Act->World->Prop}{rest:List Oper}{l:Slots}{own:List Own}{H:Heaplet}{ty:TypeId}{d:Nat}{pos:String}{aft:Array Edge}
def prep (l:Slots)(c:Operand)(as:List Operand)(d N:Nat):Option (Nat×List Value):=match evo l c with
  | some (.func (.func f) ⟨[]⟩ ⟨[]⟩)=>match evs l as with
    |some vs=>bif Nat.blt d N then some (f,vs)else none
    |none=>none
  |_=>none
theorem ZNX{l:Slots}{c:Operand}{as:List Operand}{d N f:Nat}{vs:List Value}(h:prep l c as d N=some (f,vs)):
 evo l c=some (.func (.func f) #[] #[])/\as.mapM (evo l)=some vs/\Nat.blt d N=true:=by
 unfold prep at h;split at h
 . rename_i h1;split at h
   . rename_i h2;cases hb:Nat.blt d N with
     |true=>rw[hb]at h;cases h;exact⟨h1,ZJ9 h2,rfl⟩
     |false=>rw[hb]at h;cases h
   . cases h
 . cases h
variable{ρ β:Type}{o:Option ρ}{k:ρ->Option β}{c:Operand}{as:Array Operand}{ts:Array TypeId}{f:FuncId}{vs:List Value}{As:List Sp}{B:ρ->List Sp}
theorem ZSH{y:ρ}(j:o=some y)(m:Enters x.P f)(p:prep l c as.toList d x.n=some (f,vs))(C:Con x.P f false As o B)(e:fl As vs=vs)(q:Fit H As vs)
 (h:∀b,Hle H b->Bnd x.H0 b x.w0.heap.size own (B y) λus o'=>JL x ops Q rest ((d,pack us)::l) o' b):
 JL x ops Q (⟨some d,.call ⟨.value c,as,ts⟩,ty,pos,aft,none⟩::rest) l own H:=λa w i=>by
 obtain⟨h1,h2,h3⟩:=ZNX p;refine ZN9 m h1 h2 (C.does e q j) h3 (λv K' b r g s=> ?_) a w i;obtain⟨us,rfl,e2,t,-⟩:=r;exact X0 i.mem.le (k:=λus o'=>JL x ops Q rest ((d,pack us)::l) o' b) (h b g) e2 t s
theorem J3{r:β}(g:Option.bind o k=some r)(i:Enters x.P f)(j:prep l c as.toList d x.n=some (f,vs))(C:Con x.P f false As o B)(e:fl As vs=vs)(m:Fit H As vs)
 (h:∀y,o=some y->k y=some r->∀a,Hle H a->Bnd x.H0 a x.w0.heap.size own (B y) λus o'=>JL x ops Q rest ((d,pack us)::l) o' a):
 JL x ops Q (⟨some d,.call ⟨.value c,as,ts⟩,ty,pos,aft,none⟩::rest) l own H:=by
 obtain⟨y,b,p⟩:=ZT g;exact ZSH b i j C e m<|h y b p
theorem ZQf{y:ρ}(g:o=some y)(i:Enters x.P f)(j:prep l c as.toList d x.n=some (f,vs))(C:Con x.P f true As o B)(e:fl As vs=vs)(m:Fit H As vs)
 (h:Bnd x.H0 H x.w0.heap.size own (B y) λus o'=>JL x ops Q rest ((d,pack us)::l) o' H):
 JL x ops Q (⟨some d,.call ⟨.value c,as,ts⟩,ty,pos,aft,none⟩::rest) l own H:=λa w b=>by
 obtain⟨h1,h2,h3⟩:=ZNX j;refine ZN9 i h1 h2 (C.does e m g) h3 (λv K' u p q r=> ?_) a w b;obtain⟨us,rfl,e2,s,t⟩:=p;have:=t rfl;subst this;exact X0 b.mem.le (k:=λus o'=>JL x ops Q rest ((d,pack us)::l) o' _) h e2 s r
theorem Je{r:β}(b:Option.bind o k=some r)(g:Enters x.P f)(i:prep l c as.toList d x.n=some (f,vs))(C:Con x.P f true As o B)(e:fl As vs=vs)(j:Fit H As vs)
 (h:∀y,o=some y->k y=some r->Bnd x.H0 H x.w0.heap.size own (B y) λus o'=>JL x ops Q rest ((d,pack us)::l) o' H):
 JL x ops Q (⟨some d,.call ⟨.value c,as,ts⟩,ty,pos,aft,none⟩::rest) l own H:=by
 obtain⟨y,a,m⟩:=ZT b;exact ZQf a g i C e j<|h y a m
def rets (l:Slots):List ResultVar->Option (List Value)
  |[]=>some []
  | .tmp t::r=>match lk l t with
    | some v=>match rets l r with
      |some vs=>some (v::vs)
      |none=>none
    |none=>none
  | .cell .. ::_=>none
theorem ZJe{P:Program}{l:Slots}{own:List Own}:∀{a:List ResultVar} {vs:List Value},rets l a=some vs->Res P l own a vs
  |[],vs,h=>by simp[rets]at h;rw[h];exact rfl
  | .tmp t::r,vs,h=>by
    simp only[rets]at h;split at h
    . rename_i h1;split at h
      . rename_i h2;cases h;exact ZW h1<|ZJe h2
      . cases h
    . cases h
  | .cell .. ::_,_,h=>by cases h
def pickL:List Nat->List Own->Option (List Own×List Own)
  |[],own=>some ([],own)
  | i ::is,own=>match own[i]? with
    | some s=>match pickL is (own.eraseIdx i)with
      |some (K,r)=>some (s::K,r)
      |none=>none
    |none=>none
theorem ZGj:∀{is:List Nat} {own K r:List Own},pickL is own=some (K,r)->own.flatten.Perm (K.flatten++r.flatten)
  |[],own,K,r,h=>by cases h;exact ZP
  | i ::is,own,K,r,h=>by
    simp only[pickL]at h;split at h
    . rename_i h1;split at h
      . rename_i h2;cases h;exact ZD i h1<|ZGj h2
      . cases h
    . cases h
def outp (l:Slots)(own:List Own)(r:List ResultVar)(e:Exit)(ds:List Deferred)(is:List Nat):Option (List Value×List Own):=match ds with
  | []=>match e with
    | .ret=>match rets l r,pickL is own with
      |some vs,some (K,_)=>some (vs,K)
      |_,_=>none
    | .normal=>match rets l r,pickL is own with
      |some vs,some (K,_)=>some (vs,K)
      |_,_=>none
    |_=>none
  |_=>none
theorem ZQ7{P:Program}{l:Slots}{own:List Own}{a:List ResultVar}{e:Exit}{ds:List Deferred}{is:List Nat}{vs:List Value}{K:List Own}(h:outp l own a e ds is=some (vs,K)):
 ds= []/\(e=.ret\/e=.normal)/\Res P l own a vs/\∃r:List Own,own.flatten.Perm (K.flatten++r.flatten):=by
 unfold outp at h;split at h
 . split at h
   . split at h
     . rename_i h1 h2;cases h;exact⟨rfl,.inl rfl,ZJe h1,_,ZGj h2⟩
     . cases h
   . split at h
     . rename_i h1 h2;cases h;exact⟨rfl,.inr rfl,ZJe h1,_,ZGj h2⟩
     . cases h
   . cases h
 . cases h
variable{fn:Func}{ex:Exit}{z r:ρ}{Ks:List Own}
theorem ZAe (is:List Nat)(a:outp l own fn.results.toList ex x.ds is=some (vs,Ks))(b:some z=some r)(hs:fl (B z) vs=vs)(c:Out x.H0 x.H0 (B z) vs Ks):
 JN x (Ret x fn (PostC true x.H0 B r) ex) l own x.H0:=by
 obtain⟨h1,h2,h3,q,d⟩:=ZQ7 (P:=x.P) a;obtain rfl:=TB b;exact ZU h2 (by simp) h1 h3 d ⟨vs,rfl,hs,c,λh=>rfl⟩
end rules
def numK:List Nat->List Value->(Slots->Prop)->Prop
 |n::a,v::vs,k=>numK a vs (λl=>k ((n,v)::l))
 |_,_,k=>k []
theorem ZNc:∀(a:List Nat) (vs:List Value) (k:Slots->Prop),numK a vs k->k (a.zip vs)
 |[],vs,k,h=>by simpa[numK]using h
 |n::a,[],k,h=>h
 |n::a,v::vs,k,h=>ZNc a vs (λl=>k ((n,v)::l)) h
theorem ZPf:∀(vs:List Value) (k n i:Nat) (v:Value),lk ((List.range' k n).zip vs) i=some v->k<=i/\vs[i-k]? =some v
  |[],k,n,i,v,h=>by simp[lk]at h
  |u::vs,k,0,i,v,h=>by simp[lk]at h
  | u ::vs,k,n+1,i,v,h=>by
    simp only[S1,RQ,lk]at h;cases hb:Nat.beq k i with
    | true=>
      have e:k=i:=TA hb;subst e;rw[hb]at h;simp at h;subst h;simp
    | false=>
      have a:k≠i:=(by intro e;subst e;simp at hb);rw[hb]at h;obtain⟨h1,h2⟩:=ZPf vs (k+1) n i v h;refine⟨by omega,?_⟩;rw[show i-k=(i-(k+1))+1 by omega];simpa using h2
theorem ZLm{vs:List Value}{N i:Nat}{v:Value}(hn:vs.length<=N)(e:lk ((List.range' 0 24).zip vs) i=some v):((vs.toArray++Array.replicate (N-vs.toArray.size) undef)[i]?).getD undef=v:=by
 obtain⟨_,h2⟩:=ZPf vs 0 24 i v e;have hi:i<vs.length:=by
  rcases SZ i vs.length with h|h
  . exact h
  . simp[Tz h]at h2
 have h3:vs[i]=v:=by simpa[TL hi]using h2
 have:i<(vs.toArray++Array.replicate (N-vs.toArray.size) undef).size:=by simp;omega
 simp only[T9 this,Rb];rw[S8<|by simpa using hi];simpa using h3
theorem PU{P:Program}{f:FuncId}{fn:Func}{c:Code}{vs:List Value}{H:Heaplet}{R:Value->List Own->Heaplet->Prop}
 (a:P.funcs[f]? =some fn)(hb:fn.body=some c)(hn:Nat.ble vs.length fn.ntmps=true)
 (h:numK [0,1,2,3,4,5,6,7,8,9,10,11,12,13,14,15,16,17,18,19,20,21,22,23] vs (λl=>∀w,
  JC {P:=P,r:=none,n:=fn.ntmps,w0:=w,H0:=H,S:=[],ds:=[]} c (Ret {P:=P,r:=none,n:=fn.ntmps,w0:=w,H0:=H,S:=[],ds:=[]} fn R) l [] H)):Does P f vs.toArray [] H R:=λw b d=>by
 have hn:=TI hn;have h:=ZNc _ _ _ h;refine callsIn_of_wp a hb trivial ?_;refine h w _ w ⟨?_,rfl,λi v e=>ZLm hn e,⟨b,d,PO _ _,λp g=>.inl<|Sb g,Rz _,λ_ _ _=>rfl,PF⟩⟩;simp;omega
section ways
variable{α:Type}{A B:Option α}{r:α}{x:Cx}{ops:Array Oper}{Q:Exit->Act->World->Prop}{K:Act->World->Prop}{rest:List Oper}{l:Slots}{own:List Own}{H sH:Heaplet}{b:Bool}
theorem Zi{c:Tmp}{d e:Code}(a:_root_.cond b A B=some r)(f:lk l c=some (.bool b))(ht:b=true->A=some r->JC x d Q ((c,.bool true)::l) own H)(g:b=false->B=some r->JC x e Q ((c,.bool false)::l) own H):
 JC x (.cond (.tmp c) d e) Q l own H:=Gi f (λh=>ht h<|ZM9 h a) λh=>g h<|ZNA h a
theorem ZBj (t:Nat)(a:_root_.cond b A B=some r)(hb:lk l t=some (.bool b))(ht:b=true->A=some r->JL x ops Q rest ((t,.bool true)::l) own H)
 (c:b=false->B=some r->JL x ops Q rest ((t,.bool false)::l) own H):JL x ops Q rest l own H:=ZEd hb (λh=>ht h<|ZM9 h a) λh=>c h<|ZNA h a
theorem JB.gX{so:Segs}{f:Nat}{a:Array Bool}{KK:Act->World->Prop}(t:Nat)(c:_root_.cond b A B=some r)(hb:lk l t=some (.bool b))(ht:b=true->A=some r->JB x ops KK so sH f a ((t,.bool true)::l) own H)
 (d:b=false->B=some r->JB x ops KK so sH f a ((t,.bool false)::l) own H):JB x ops KK so sH f a l own H:=Ps hb (λh=>ht h<|ZM9 h c) λh=>d h<|ZNA h c
end ways
section many
variable{x:Cx}{ops:Array Oper}{K:Act->World->Prop}{l l':Slots}{own:List Own}{H sH:Heaplet}{so:Segs}
def ZJp (l:Array Bool):List Nat->Array Bool
 |[]=>l
 |i::is=>ZJp (l.setIfInBounds i true) is
def okAll (ops:Array Oper)(l:Array Bool):List Nat->Bool
 |[]=>true
 |i::is=>(Region.free .any ops l i&&(Region.ready .any ops l).contains i)&&okAll ops (l.setIfInBounds i true) is
def gate (ops:List Oper)(l:Slots):Option (Nat×Bool)->Option Bool
  |none=>some true
  | some (j,b)=>match ops[j]? with
    | some o=>match o.dst with
      | some t=>match lk l t with
        |some (.bool true)=>some b
        |some (.bool false)=>bif b then some false else some true
        |some (.tuple ⟨[]⟩)=>some false
        |_=>none
      |none=>none
    |none=>none
def ZBo (tb:Tab)(N:Nat)(ops:List Oper)(own:List Own):List Nat->Slots->List Nat->List Nat->List Nat->Option (Slots×List Nat×List Nat×List Nat)
  |[],l,hs,e1,e2=>some (l,hs,e1,e2)
  | i ::is,l,hs,e1,e2=>match ops[i]? with
    | some ⟨some d,op,ty,pos,aft,g⟩=>bif Nat.blt d N then match gate ops l g with
        | some true=>match vop tb own l hs op with
          |some (v,h,f,a)=>ZBo tb N ops own is ((d,v)::l) h (f++e1) (a++e2)
          |none=>none
        |some false=>ZBo tb N ops own is ((d,undef)::l) hs e1 e2
        |none=>none
      else none
    |_=>none
theorem ZBn {tb:Tab}{N:Nat}{os:List Oper}{own:List Own}:∀{is:List Nat} {l l':Slots} {hs c e1 e2 f e:List Nat},ZBo tb N os own is l hs e1 e2=some (l',c,f,e)->∃a b,a.length=b.length/\f=a++e1/\e=b++e2
  |[],_,_,_,_,_,_,_,_,h=>by cases h;exact⟨[],[],rfl,rfl,rfl⟩
  | i ::is,l,l',hs,c,e1,e2,f,e,h=>by
    simp only[ZBo]at h;split at h
    . rename_i d op ty pos aft g _;cases hb:Nat.blt d N with
      |false=>rw[hb]at h;cases h
      | true=>
        rw[hb,RG]at h;split at h
        . split at h
          . rename_i v j k m n;obtain⟨a,b,h1,h2,h3⟩:=ZBn h;have o:=ZJU n;exact⟨a++k,b++m,by rw[TG,TG,h1,o],by rw[h2,TE],by rw[h3,TE]⟩
          . cases h
        . exact ZBn h
        . cases h
    . cases h
theorem ZPz{l:Slots}{g:Option (Nat×Bool)}(h:gate ops.toList l g=some true):WP ops l g:=by
  cases g with
  |none=>trivial
  | some g=>
    obtain⟨j,b⟩:=g;simp only[gate]at h;split at h
    . rename_i h1;split at h
      . rename_i h2;split at h
        . rename_i h3;cases h;exact⟨_,_,by simpa using h1,h2,h3⟩
        . rename_i h3;cases b with
          |true=>cases h
          |false=>exact⟨_,_,by simpa using h1,h2,h3⟩
        . cases h
        . cases h
      . cases h
    . cases h
theorem Pl {tb:Tab}(ht:tb.Ok x.P):∀{is:List Nat} {f:Array Bool} {l l':Slots} {hs r e1 e2 v w:List Nat} {o:Nat},okAll ops f is=true->is.all (ZB2 so)=true->
    ZBo tb x.n ops.toList (Qw [] so) is l hs e1 e2=some (l',r,v,w)->v=w->e1.length=e2.length->JB x ops K so sH o (ZJp f is) l' own H->JB x ops K so sH (o+is.length) f l own H
  |[],_,_,_,_,_,_,_,_,_,_,_,_,h,_,_,g=>by cases h;exact g
  | i ::is,f,l,l',hs,r,e1,e2,v,w,o,c,k,h,s,t,u=>by
    simp only[ZBo]at h;simp only[okAll,TD]at c;simp only[RY,TD]at k;split at h
    . rename_i d op ty pos aft g A;have p:ops[i]? =some ⟨some d,op,ty,pos,aft,g⟩:=(by simpa using A);cases hb:Nat.blt d x.n with
      |false=>rw[hb]at h;cases h
      | true=>
        rw[hb,RG]at h;split at h
        . rename_i m;split at h
          . rename_i G B C D z;have q:=ZJU z;obtain⟨a,b,h1,h2,h3⟩:=ZBn h;have e:a++(C++e1)=b++(D++e2):=(by rw[<-h2,<-h3,s]);have E:=(List.append_inj e h1).2;obtain⟨y,_⟩:=List.append_inj E q;exact JB.val [] p (ZPD ht z y) (Pl ht c.2 k.2 h s (by simp[q,t]) u) ⟨c.1.2,c.1.1,rfl⟩ (ZPz m) rfl k.1 hb
          . cases h
        . rename_i m;cases g with
          |none=>cases m
          | some g=>
            obtain⟨j,F⟩:=g;simp only[gate]at m;split at m
            . rename_i h1;split at m
              . rename_i h2;split at m
                . rename_i h3;cases m;exact JB.no p (by simpa using h1) h2 h3 rfl (Pl ht c.2 k.2 h s t u) ⟨c.1.2,c.1.1,rfl⟩ k.1 hb
                . rename_i h3;cases F with
                  |true=>exact JB.no p (by simpa using h1) h2 h3 rfl (Pl ht c.2 k.2 h s t u) ⟨c.1.2,c.1.1,rfl⟩ k.1 hb
                  |false=>cases m
                . rename_i h3;exact ON p (by simpa using h1) h2 h3 (Pl ht c.2 k.2 h s t u) ⟨c.1.2,c.1.1,rfl⟩ k.1 hb
                . cases m
              . cases m
            . cases m
        . cases h
    . cases h
theorem JB.run{tb:Tab}{F:Nat}{a:Array Bool}{E:List Nat}(n:Nat)(is hs:List Nat)(ht:tb.Ok x.P)(d:ZBo tb x.n ops.toList (Qw [] so) is l hs [] []=some (l',[],E,E))
 (h:JB x ops K so sH (F-n) (ZJp a is) l' own H)(b:okAll ops a is=true:=by kernel_rfl)(c:is.all (ZB2 so)=true:=by rfl)(hn:(Nat.beq is.length n&&Nat.ble n F)=true:=by rfl):
 JB x ops K so sH F a l own H:=by
 rw[TD]at hn;have h1:=TA hn.1;have h2:=TI hn.2;have:=Pl ht b c d rfl rfl h;rw[h1,Nat.sub_add_cancel h2]at this;exact this
end many
section cells
variable{x:Cx}{l:Slots}{own:List Own}{H:Heaplet}{vs:List Value}{ρ:Type}{B:ρ->List Sp}{fn:Func}{ex:Exit}{z r:ρ}{Ks:List Own}
variable{tb:Tab}{E:List Nat}
end cells
section cuts
variable{x:Cx}{Q:Exit->Act->World->Prop}{l l0 l':Slots}{own o0 o':List Own}{H g':Heaplet}{c:Code}{τ β:Type}{o:Option τ}{k:τ->Option β}{r:β}
def selL (l:Slots):List Nat->Option Slots
  |[]=>some []
  | i ::is=>match lk l i with
    | some v=>match selL l is with
      |some q=>some ((i,v)::q)
      |none=>none
    |none=>none
def selO (own:List Own):List Nat->Option (List Own)
  |[]=>some []
  | i ::is=>match own[i]? with
    | some s=>match selO own is with
      |some q=>some (s::q)
      |none=>none
    |none=>none
def ZHC:Slots->List Nat
 |[]=> []
 |(k,_)::r=>k::ZHC r
theorem ZGa{l:Slots}:∀{l':Slots},selL l (ZHC l')=some l'->Sub l' l
  |[],_=>trivial
  | (k,v)::q,h=>by
    simp only[ZHC,selL]at h;split at h
    . rename_i h1;split at h
      . rename_i h2;have h3:=TB h;obtain⟨a,b⟩:=Tv h3;simp only[Si,Rj]at a;subst a;subst b;exact⟨h1,ZGa h2⟩
      . cases h
    . cases h
theorem YC (a:Option.bind o k=some r)(ks js:List Nat)(hs:selL l ks=some l0)(b:selO own js=some o0)(I:τ->Slots->List Own->Slots->List Own->Heaplet->Prop)
 (h2:∀t,o=some t->k t=some r->∀l o g,I t l0 o0 l o g->JN x (Q .normal) l o g)
 (h1:∀t,k t=some r->o=some t->JC x c (Exit.then (HoldsI x<|I t l0 o0) Q) l own H):JC x c Q l own H:=by
 obtain⟨t,ht,h⟩:=ZT a;exact JC.cut (I t l0 o0) (h2 t ht h)<|h1 t h ht
theorem ZN{I:Slots->List Own->Heaplet->Prop}(hI:I l' o' g')(h:selL l (ZHC l')=some l')(a:o'=own)(b:g'=H):
 JN x (Exit.then (HoldsI x I) Q .normal) l own H:=JN.cut hI (ZGa h) a b
theorem YJ{a:Type}{body:a->Option (a ⊕ τ)}{s0:a}{t:τ}{b:Slots}(ks js:List Nat)(hs:selL l ks=some l0)(i:selO own js=some o0)(I:Slots->List Own->a->Slots->List Own->Heaplet->Prop)
 (d:Go.Ow.loop body s0=some t)(h0:I l0 o0 s0 b own H)(e:selL l (ZHC b)=some b)
 (round:∀n s l o g,I l0 o0 s l o g->∀q,body s=some q->Stp body n t q->JC x c (Exit.then (HoldsI x λl o g=>∃s,I l0 o0 s l o g/\run body n s=some t) Q) l o g):JC x (.loop c) Q l own H:=by
 refine ZH6 (λn l o g=>∃s,I l0 o0 s l o g/\run body n s=some t) FUEL ?_ ⟨s0,h0,d⟩ (ZGa e) ?_
 . rintro l o g ⟨s,_,h⟩;exact ZKs h
 . rintro n l o g ⟨s,hI,f⟩;obtain⟨q,h1,h2⟩:=ZCw f;exact round n s l o g hI q h1 h2
end cuts
end Go.Ow
namespace Go.Ow
variable{α β:Type}
def appN (N:Nat)(l m:List α)(k:List α->Option β):Option β:=if l.length+m.length<=N then k (l++m)else none
theorem ZOi{N:Nat}{l m:List α}{k:List α->Option β}{r:β}(h:appN N l m k=some r):∃q,q=l++m/\l.length+m.length<=N/\k q=some r:=by
 unfold appN at h;split at h
 . exact⟨_,rfl,by assumption,h⟩
 . cases h
def extO (N:Nat)(l:List UInt8)(b:Int)(k:List UInt8->Option β):Option β:=if(l.length:Int)<=b/\b<=N then k (l++List.replicate (b.toNat-l.length) 0)else none
theorem ZOd{N:Nat}{l:List UInt8}{b:Int}{k:List UInt8->Option β}{r:β}(h:extO N l b k=some r):∃q,q=l++List.replicate (b.toNat-l.length) 0/\((l.length:Int)<=b/\b<=N)/\k q=some r:=by
 unfold extO at h;split at h
 . exact⟨_,rfl,by assumption,h⟩
 . cases h
structure data_place where
  set:Int
  obj:Int
  index:Int
instance:Inhabited data_place:=⟨⟨default,default,default⟩⟩
open Go.RowKit
def R_data_place:Rep data_place:=λH cs x=>cs= [.int .i64 x.set,.int .i64 x.obj,.int .i64 x.index]
theorem R_data_place.mono:R_data_place.Mono:=λ_ _ _ _ _ h=>h
instance:MonoC R_data_place:=⟨R_data_place.mono⟩
theorem ElemAt.one{v:Value}{n:Nat}{i:Int}{b o d o':Nat}(h:ElemAt v n i b o)(g:ElemAt v n i d o'):b=d/\o=o':=by
 obtain⟨_,o0,len,cap,e,e2,_⟩:=h;obtain⟨_,j,l,f,a,c,_⟩:=g;rw[e]at a;simp only[Value.slice.injEq,SE,Addr.mk.injEq]at a;obtain⟨⟨rfl,rfl,-⟩,-,-⟩:=a;exact⟨rfl,by rw[e2,c]⟩
section rules
variable{x:Cx}{l:Slots}{own:List Own}{H:Heaplet}{ty t u:TypeId}{p q:Operand}{v:Value}{e:Option Int}{n:Nat}{vs:Value}
theorem ZIq{P:Program}{w:World}{t E:TypeId}{a:Option Addr}(h:P.underlying t=some (.pointer E)):(Op.equal t (.pointer a)<|.pointer none).run P w=.ok a.isNone w:=by
 have b:∀k,(Op.equalIn (k+1) t (.pointer a)<|.pointer none).run P w=.ok a.isNone w:=λk=>by
  unfold Op.equalIn;rw[Sem.run_bind,run_underlying h];cases a<;>rfl
 exact b 9999
def spn{α:Type}:List α->Option (List α)
  |[]=>some []
  | a::r=>match spn r with
    |some q=>some (a::q)
    |none=>none
theorem ZPL{α:Type}:∀{l q:List α},spn l=some q->q=l
  |[],q,h=>by cases h;rfl
  | a::r,q,h=>by
    simp only[spn]at h;split at h
    . rename_i h1;cases h;rw[ZPL h1]
    . cases h
theorem Ws{T b o n:Nat}{cs:List Value}(k:Nat){vs:List Value}(hs:ZE x.P T=some (true,n))(h1:evo l p=some (.pointer<|some ⟨b,o+k,none⟩))(h:∀j u,cs[j]? =some u->H b (o+j)=some u)
 (a:spn ((cs.drop k).take n)=some vs)(hn:vs.length=n):Runs x (.load T p) ty l own H (.agg vs.toArray):=ZTa k hs h1 h (ZPL a) hn
variable{ops:Array Oper}{Q:Exit->Act->World->Prop}{rest:List Oper}{HF:Heaplet}{d:Nat}{pos:String}{aft:Array Edge}
end rules
end Go.Ow
namespace Go.Pv
open Go Go.Ow Go.RowKit
section
variable{β:Type}{r:β}{x:Cx}{X:Env}{s:PS}{I:In}{seg:Nat->Own}{l:Slots}{own:List Own}{H:Heaplet}
variable{p q:Operand}{t u:TypeId}{ty:TypeId}{k:CV->Option β}{M:List Own->Heaplet->Prop}
abbrev AtM (own:List Own)(H:Heaplet):List Own->Heaplet->Prop:=λo h=>o=own/\h=H
theorem ZBG{op:BinOp}{e:Bool}(h1:∀own H,M own H->Runs x (.binOp .eql t p q u) ty l own H (.bool e))(h2:∀own H,M own H->Runs x (.binOp .neq t p q u) ty l own H (.bool (!e)))(h:fb op e k=some r):Yl x I (.binOp op t p q u) ty l M k r:=by
 cases op with
 |eql=>exact Yl.of h1 (by simp only[VR]) h
 |neq=>exact Yl.of h2 (by simp only[VR]) h
 |_=>cases h
theorem R_eqP{x:Cx}{l:Slots}{own:List Own}{H:Heaplet}{p q:Operand}{t u ty E:TypeId}{a:Option Addr}(b:x.P.underlying t=some (.pointer E))(h1:evo l p=some (.pointer a))(h2:evo l q=some (.pointer none)):Runs x (.binOp .eql t p q u) ty l own H (.bool a.isNone):=
 λρ w _ _ _ _ h c=>by
  have:=ZIq (P:=x.P) (w:=w) (a:=a) b;simp[execOp,h _ _ h1,h _ _ h2,eqGuard,binOp,go_sem,this]
theorem R_neP{x:Cx}{l:Slots}{own:List Own}{H:Heaplet}{p q:Operand}{t u ty E:TypeId}{a:Option Addr}(b:x.P.underlying t=some (.pointer E))(h1:evo l p=some (.pointer a))(h2:evo l q=some (.pointer none)):Runs x (.binOp .neq t p q u) ty l own H (.bool (!a.isNone)):=
 λρ w _ _ _ _ h c=>by
  have:=ZIq (P:=x.P) (w:=w) (a:=a) b;simp[execOp,h _ _ h1,h _ _ h2,eqGuard,binOp,go_sem,this]
theorem ZSr (i:x.P=X.P){op:BinOp}{a:CV}{v:Value}(ht:isPtr X.P t=true)(h1:evo l p=some v)(d:VR I a v)(h2:evo l q=some (.pointer none))(h:pnl op a k=some r):Yl x I (.binOp op t p q u) ty l M k r:=by
 unfold isPtr at ht;split at ht
 . rename_i E f;rw[<-i]at f;have c:∀(a:Option Addr) (e:Bool),a.isNone=e->v=.pointer a->fb op e k=some r->Yl x I (.binOp op t p q u) ty l M k r:=λa e g j h=>by
    subst j;exact ZBG (λ_ _ _=>g▸R_eqP f h1 h2) (λ_ _ _=>g▸R_neP f h1 h2) h
   unfold pnl at h;split at h
   . simp only[VR]at d;exact c none true rfl d h
   . simp only[VR]at d;exact c _ false rfl d.2 h
   . simp only[VR]at d;obtain⟨b,q,cs,e,_⟩:=d;exact c _ false rfl e h
   . simp only[VR]at d;obtain⟨_,b,q,_,e⟩:=d;exact c _ false rfl e h
   . simp only[VR]at d;rcases d with⟨rfl,e⟩|⟨y,rfl,b,q,cs,e,_⟩
     . exact c none true rfl e h
     . exact c _ false rfl e h
   . simp only[VR]at d;rcases d with⟨rfl,e⟩|⟨y,rfl,_,b,q,_,e⟩
     . exact c none true rfl e h
     . exact c _ false rfl e h
   . cases h
 . cases ht
theorem WH{c:CV}{v:Value}{k:Int->Option β}(a:VR I c v)(h:oIx c k=some r):∃n b,v=.int b n/\k n=some r:=by
 unfold oIx at h;split at h
 . simp only[VR]at a;exact⟨_,_,a,h⟩
 . simp only[VR]at a;exact⟨_,_,a.2.2,h⟩
 . simp only[VR]at a;exact⟨_,_,a.2,h⟩
 . simp only[VR]at a;exact⟨_,_,a,h⟩
 . simp only[VR]at a;exact⟨_,_,a,h⟩
 . simp only[VR]at a;exact⟨_,_,a,h⟩
 . cases h
theorem ZSl{op:BinOp}{a:CV}{v:Value}{n:Int}{c:IntKind}(h1:evo l p=some v)(b:VR I a v)(h2:evo l q=some (.int c n))(h:shW op a n k=some r):Yl x I (.binOp op t p q u) ty l M k r:=by
 unfold shW at h;split at h
 . simp only[VR]at b;subst b;exact Yl.of (λ_ _ _=>ZNv h1 h2 (ZI h).1) (by simp only[VR]) (ZI h).2
 . simp only[VR]at b;subst b;exact Yl.of (λ_ _ _=>ZNu h1 h2 (ZI h).1) (by simp only[VR]) (ZI h).2
 . simp only[VR]at b;subst b;exact Yl.of (λ_ _ _=>ZTM h1 h2 (ZI h).1) (by simp only[VR]) (ZI h).2
 . simp only[VR]at b;subst b;exact Yl.of (λ_ _ _=>ZTL h1 h2 (ZI h).1) (by simp only[VR]) (ZI h).2
 . simp only[VR]at b;subst b;exact Yl.of (λ_ _ _=>ZRs h1 h2 (ZI h).1) (by simp only[VR]) (ZI h).2
 . simp only[VR]at b;subst b;exact Yl.of (λ_ _ _=>ZRq h1 h2 (ZI h).1) (by simp only[VR]) (ZI h).2
 . simp only[VR]at b;subst b;exact Yl.of (λ_ _ _=>ZRr h1 h2 (ZI h).1) (by simp only[VR]) (ZI h).2
 . simp only[VR]at b;subst b;exact Yl.of (λ_ _ _=>ZAc h1 h2 (ZI h).1) (by simp only[VR]) (ZI h).2
 . cases h
theorem BQ{a b:Option β}{r:β}(h:agree a b=some r):a=some r/\b=some r:=by
 unfold agree at h;split at h
 . rename_i e;exact⟨h,e▸h⟩
 . cases h
theorem ZCM{P:Program}{T:Nat}(h:isSlT P T=true):∃e,P.underlying T=some (.slice e):=by
 unfold isSlT at h;split at h
 . exact⟨_,by assumption⟩
 . cases h
theorem ZAU{α:Type}{m:List α}{a b:Option β}{r:β}(h:nilq m a b=some r):(m= []/\a=some r/\b=some r)\/b=some r:=by
 unfold nilq at h;split at h
 . exact .inl ⟨rfl,BQ h⟩
 . exact .inr h
theorem ZHy{P:Program}{T n:Nat}(h:arrOk P T n=true):∃m e,P.underlying T=some (.array m e)/\m=n/\P.underlying e=some (.int .u8)/\ZE P e=some (false,1)/\P.cellsOf e=1/\P.eqGuardType P.depth T=false:=by
 unfold arrOk at h;split at h
 . rename_i m e a;simp only[TD]at h;obtain⟨h1,h2,h3,b,c⟩:=h;refine⟨m,e,a,TA h1,?_,?_,TA b,by simpa using c⟩
   . split at h2
     . assumption
     . cases h2
   . split at h3
     . assumption
     . cases h3
 . cases h
theorem ZGv{I:In}:∀{cs:List CV} {vs:List Value} {k:List UInt8->Option β},VRs I cs vs->o8l cs k=some r->∃as,vs=bvs as/\as.length=cs.length/\k as=some r
  |[],vs,k,b,h=>by cases b.un0;exact⟨[],rfl,rfl,h⟩
  | c ::cs,vs,k,b,h=>by
    obtain⟨v,us,rfl,h1,h2⟩:=b.un;have h:o8 c (λa=>o8l cs λr=>k (a::r))=some r:=h;cases c with
    | w8 a=>
      obtain⟨as,e1,e2,h⟩:=ZGv h2<|show o8l cs (λr=>k (a::r))=some r from h
      simp only[VR]at h1;exact⟨a::as,by rw[h1,e1];rfl,by simp[e2],h⟩
    |_=>cases h
theorem ZRd (i:x.P=X.P)(hs:RS x s I seg l own H){op:BinOp}{a b:CV}{v w:Value}(h1:evo l p=some v)(f:VR I a v)(h2:evo l q=some w)(hb:VR I b w)(h:bop0 X s op t a b k=some r):Yl x I (.binOp op t p q u) ty l M k r:=by
  unfold bop0 at h;split at h
  . simp only[VR]at hb;subst hb;exact ZKI h1 f h2 h
  . simp only[VR]at hb;obtain⟨_,_,rfl⟩:=hb;exact ZKI h1 f h2 h
  . simp only[VR]at hb;obtain⟨z,rfl⟩:=hb;split at h
    . simp only[VR]at f;obtain⟨T,U,rfl⟩:=f;exact Yl.of (λ_ _ _=>ZKP h1 h2) (by simp only[VR];exact⟨T,U,z,trivial⟩) h
    . exact ZKI h1 f h2 h
  . simp only[VR]at hb;subst hb;split at h
    . simp only[VR]at f;subst f;exact b8_ok h1 h2 h
    . cases h
  . simp only[VR]at hb;subst hb;split at h
    . simp only[VR]at f;subst f;exact ZTI h1 h2 h
    . cases h
  . simp only[VR]at hb;subst hb;split at h
    . simp only[VR]at f;subst f;exact ZTH h1 h2 h
    . cases h
  . simp only[VR]at hb;subst hb;split at h
    . rename_i g;simp only[VR]at f;subst f;exact ZBG (λ_ _ _=>ZOm (by rw[i];exact g) h1 h2) (λ_ _ _=>ZOl (by rw[i];exact g) h1 h2) h
    . cases h
  . simp only[VR]at hb;subst hb;split at h
    . simp only[VR]at f;subst f;exact ZBG (λ_ _ _=>ZQW h1 h2) (λ_ _ _=>ZQS h1 h2) h
    . cases h
  . simp only[VR]at hb;subst hb;obtain⟨ht,h⟩:=ZC h;exact ZSr i ht h1 f h2 h
  . simp only[VR]at hb;subst hb;split at h
    . rename_i y m;obtain⟨ht,h⟩:=ZC h;obtain⟨e,g⟩:=ZCM ht;rw[<-i]at g;simp only[VR]at f;obtain⟨ao,cap,rfl⟩:=IsSlice.val f;cases ao with
      | none=>
        have z:=f.none_nil;have o:fb op true k=some r:=by
          rcases ZAU h with⟨_,h,_⟩|h
          . exact h
          . subst z;exact(BQ<|show agree _ _=some r from by assumption).1
        exact ZBG (λ_ _ _=>Uy g h1 h2) (λ_ _ _=>ZAK g h1 h2) o
      | some a=>
        have o:fb op false k=some r:=by
          rcases ZAU h with⟨_,_,h⟩|h<;>exact h
        exact ZBG (λ_ _ _=>Uy g h1 h2) (λ_ _ _=>ZAK g h1 h2) o
    . obtain⟨ht,h⟩:=ZC h;obtain⟨e,g⟩:=ZCM ht;rw[<-i]at g;simp only[VR]at f;subst f;exact ZBG (λ_ _ _=>Uy g h1 h2) (λ_ _ _=>ZAK g h1 h2) h
    . split at h
      . rename_i j _ _ _ m V;obtain⟨ht,h⟩:=ZC h;obtain⟨e,g⟩:=ZCM ht;rw[<-i]at g;obtain⟨Z,W⟩:=(hs.rw _ _ V).resolve_left (by simp);have f:j<I.n/\v=(I.ν j).2/\∃a n c,v=.slice a n c:=(by simpa only[VR]using f);obtain⟨_,e1,ao,n,cap,rfl⟩:=f;obtain⟨cells,⟨c0,B⟩,_⟩:=W;rw[<-e1]at B;cases ao with
        | none=>
          have z:m= []:=by
            rcases B with⟨_,R,_⟩|⟨_,_,_,D,_⟩
            . exact TT.1 R
            . simp at D
          have o:fb op true k=some r:=by
            rcases ZAU h with⟨_,h,_⟩|h
            . exact h
            . subst z;exact(BQ<|show agree _ _=some r from by assumption).1
          exact ZBG (λ_ _ _=>Uy g h1 h2) (λ_ _ _=>ZAK g h1 h2) o
        | some a=>
          have o:fb op false k=some r:=by
            rcases ZAU h with⟨_,_,h⟩|h<;>exact h
          exact ZBG (λ_ _ _=>Uy g h1 h2) (λ_ _ _=>ZAK g h1 h2) o
      . cases h
    . cases h
  . simp only[VR]at hb;obtain⟨us,rfl,hb⟩:=hb;split at h
    . simp only[VR]at f;obtain⟨vs,rfl,f⟩:=f;cases A:isArr X.P t with
      | true=>
        rw[A]at h;obtain⟨E,h⟩:=ZC<|show bb (Bool.and _ _) _ none=some r from h
        simp only[TD]at E;obtain⟨n,e,C,a2,F,G,J,K⟩:=ZHy E.1;obtain⟨n',e',S,b2,_⟩:=ZHy E.2;obtain⟨as,B,c2,h⟩:=ZGv f h;obtain⟨bs,D,R,h⟩:=ZGv hb h;rw[C]at S;cases S;rw[<-i]at C F G J K;subst B D;exact ZBG (λ_ _ _=>ZQX as bs C F G J K h1 h2 rfl rfl (by omega)<|by omega) (λ_ _ _=>ZQT as bs C F G J K h1 h2 rfl rfl (by omega)<|by omega) h
      |false=>
      rw[A]at h;obtain⟨Y,e,L,h⟩:=ZP3 (d:=9999) (by omega) f hb h;obtain⟨N,O,Q⟩:=ZJD Y;rw[<-i]at N O Q L;exact ZBG (λ_ _ _=>ZMD N O Q rfl h1 h2 L) (λ_ _ _=>ZMB N O Q rfl h1 h2 L) h
    . cases h
  . cases h
theorem ZTG (e:x.P=X.P)(hs:RS x s I seg l own H){op:BinOp}{a b:CV}{v w:Value}(h1:evo l p=some v)(c:VR I a v)(h2:evo l q=some w)(hb:VR I b w)(h:bop X s op t a b k=some r):Yl x I (.binOp op t p q u) ty l M k r:=by
  cases d:isSh op with
  | true=>
    rw[show bop X s op t a b k=(oIx b λn=>shW op a n k)from by unfold bop;rw[d]]at h;obtain⟨n,f,rfl,h⟩:=WH hb h;exact ZSl h1 c h2 h
  | false=>
    rw[show bop X s op t a b k=bop0 X s op t a b k from by unfold bop;rw[d]]at h;exact ZRd e hs h1 c h2 hb h
theorem ZM8{S T:TypeId}{ds:TypeDesc}{a:IntKind}{m:Int}(hs:x.P.underlying S=some ds)(ht:x.P.underlying T=some (.int a))(h1:evo l p=some (.int .i64 m))(h:cvI m a k=some r):Yl x I (.convert S T p) ty l M k r:=by
 cases a with
 |i64=>exact Yl.of (λ_ _ _=>ZKY hs ht h1) (by simp only[VR]) h
 |u8=>exact Yl.of (λ_ _ _=>ZMJ hs ht h1) (by simp only[VR]) h
 |u32=>exact Yl.of (λ_ _ _=>ZKX hs ht h1) (by simp only[VR]) h
 |u64=>exact Yl.of (λ_ _ _=>Qn hs ht h1) (by simp only[VR]) h
 |_=>cases h
theorem ZTD{S T:TypeId}{ds:TypeDesc}{a:IntKind}{m:UInt8}(hs:x.P.underlying S=some ds)(ht:x.P.underlying T=some (.int a))(h1:evo l p=some (.int .u8 (m.toNat:Int)))(h:cv8 m a k=some r):Yl x I (.convert S T p) ty l M k r:=by
 cases a with
 |i64=>exact Yl.of (λ_ _ _=>ZMG hs ht h1) (by simp only[VR]) h
 |u8=>exact Yl.of (λ_ _ _=>ZNF hs ht h1) (by simp only[VR]) h
 |u32=>exact Yl.of (λ_ _ _=>ZMF hs ht h1) (by simp only[VR]) h
 |u64=>exact Yl.of (λ_ _ _=>ZME hs ht h1) (by simp only[VR]) h
 |_=>cases h
theorem ZRT{S T:TypeId}{ds:TypeDesc}{a:IntKind}{m:UInt32}(hs:x.P.underlying S=some ds)(ht:x.P.underlying T=some (.int a))(h1:evo l p=some (.int .u32 (m.toNat:Int)))(h:cv32 m a k=some r):Yl x I (.convert S T p) ty l M k r:=by
 cases a with
 |i64=>exact Yl.of (λ_ _ _=>ZKW hs ht h1) (by simp only[VR]) h
 |u8=>exact Yl.of (λ_ _ _=>ZMI hs ht h1) (by simp only[VR]) h
 |u32=>exact Yl.of (λ_ _ _=>ZKV hs ht h1) (by simp only[VR]) h
 |u64=>exact Yl.of (λ_ _ _=>ZKU hs ht h1) (by simp only[VR]) h
 |_=>cases h
theorem ZRS{S T:TypeId}{ds:TypeDesc}{a:IntKind}{m:UInt64}(hs:x.P.underlying S=some ds)(ht:x.P.underlying T=some (.int a))(h1:evo l p=some (.int .u64 (m.toNat:Int)))(h:cv64 m a k=some r):Yl x I (.convert S T p) ty l M k r:=by
 cases a with
 |i64=>exact Yl.of (λ_ _ _=>BS hs ht h1) (by simp only[VR]) h
 |u8=>exact Yl.of (λ_ _ _=>ZMH hs ht h1) (by simp only[VR]) h
 |u32=>exact Yl.of (λ_ _ _=>ZKT hs ht h1) (by simp only[VR]) h
 |u64=>exact Yl.of (λ_ _ _=>ZKS hs ht h1) (by simp only[VR]) h
 |_=>cases h
theorem ZOW{P:Program}{T:Nat}(h:isU8 P T=true):∃e,P.underlying T=some (.slice e)/\P.underlying e=some (.int .u8):=by
 unfold isU8 at h;split at h
 . rename_i e h1;split at h
   . rename_i h2;exact⟨e,h1,h2⟩
   . cases h
 . cases h
theorem ZTC (j:x.P=X.P)(g:I.H=H){S T:TypeId}(i:x.P.underlying T=some .string->∀o' c,M o' c->o'=own/\c=H){a:CV}{v:Value}(h1:evo l p=some v)(b:VR I a v)(h:cvO X S T a k=some r):Yl x I (.convert S T p) ty l M k r:=by
 unfold cvO at h;rw[<-j]at h;split at h
 . rename_i n ht;split at h
   . rename_i hs;simp only[VR]at b;subst b;exact ZM8 hs ht h1 h
   . rename_i hs;simp only[VR]at b;obtain⟨_,_,rfl⟩:=b;exact ZM8 hs ht h1 h
   . rename_i hs;simp only[VR]at b;obtain⟨_,rfl⟩:=b;exact ZM8 hs ht h1 h
   . rename_i hs;simp only[VR]at b;subst b;exact ZTD hs ht h1 h
   . rename_i hs;simp only[VR]at b;subst b;exact ZRT hs ht h1 h
   . rename_i hs;simp only[VR]at b;subst b;exact ZRS hs ht h1 h
   . cases h
 . rename_i ht;obtain⟨m,h⟩:=ZC h;obtain⟨e,hs,d⟩:=ZOW m;unfold cvT at h;split at h
   . obtain⟨e,h⟩:=Zp h;cases e;simp only[VR]at b;rw[g]at b;exact Yl.of (λo' c f=>by rw[(i ht o' c f).2];exact ZKN hs d ht h1 b) (by simp only[VR]) h
   . obtain⟨e,h⟩:=Zp h;cases e;simp only[VR]at b;rw[g]at b;exact Yl.of (λo' c f=>by rw[(i ht o' c f).2];exact ZKN hs d ht h1 b.1) (by simp only[VR]) h
   . simp only[VR]at b;subst b;exact Yl.of (λ_ _ _=>ZKN hs d ht h1<|IsSlice.nil _ _ _) (by simp only[VR]) h
   . cases h
 . cases h
theorem YY (hs:RS x s I seg l own H){a:Nat}(h:a<s.n):own[a]? =some (seg a):=by
 rw[hs.own];simp[h]
theorem ZC9 (hs:RS x s I seg l own H){a:Nat}:∀{n o:Nat} {k:List CV->Option β},ldN s a n o k=some r->∃m,k m=some r/\m.length=n/\(n=0\/(a<s.n/\∃cur T,seg a= [((I.ν a).1,.cells cur T (0,0))]/\VRs I m ((cur.toList.drop o).take n)/\((cur.toList.drop o).take n).length=n))
  |0,o,k,h=>⟨[],h,rfl,.inl rfl⟩
  | n +1,o,k,h=>by
    obtain⟨c,e,h⟩:=Zb<|show oB (lkO s.o a o) (λc=>kn c λc=>ldN s a n (o+1) λr=>k (c::r))=some r from h
    obtain⟨h0,h⟩:=ZAW h;obtain⟨i,cur,T,v,e1,e2,e3⟩:=(hs.ce _ _ _ e).resolve_left h0;obtain⟨m,h,d,j⟩:=ZC9 hs h;have p:cur.toList.drop o=v::cur.toList.drop (o+1):=by
      have b:=(TC.1 e2).1;rw[Ss b,(TC.1 e2).2]
    refine⟨c::m,h,by simp[d],.inr ⟨i,cur,T,e1,?_⟩⟩;rw[p,List.take_succ_cons];rcases j with rfl|⟨_,f,u,g,q,t⟩
    . cases m with
      |nil=>exact⟨VRs.cons e3 (by simpa using VRs.nil),by simp⟩
      |cons=>cases d
    . rw[e1]at g;cases g;exact⟨VRs.cons e3 q,by simp[t]⟩
theorem ZS1 (q:x.P=X.P)(g:∀o' d,M o' d->o'=own/\d=H)(hs:RS x s I seg l own H){T a o:Nat}(h1:evo l p=some (.pointer<|some ⟨(I.ν a).1,o,none⟩))(h:ldO X.P s T a o k=some r):Yl x I (.load T p) ty l M k r:=by
 unfold ldO at h;split at h
 . rename_i n b;rw[<-q]at b;obtain⟨c,e,h⟩:=Zb h;obtain⟨h0,h⟩:=ZAW h;obtain⟨i,cur,t,v,e1,e2,e3⟩:=(hs.ce _ _ _ e).resolve_left h0;exact Yl.of (λo' d f=>by rw[(g o' d f).1,(g o' d f).2];exact Jc a b h1 (by rw[YY hs i,e1]) e2) e3 h
 . rename_i n b;rw[<-q]at b;obtain⟨m,h,w,f⟩:=ZC9 hs h;rcases f with rfl|⟨i,cur,t,e1,e2,e3⟩
   . cases m with
     |nil=>exact Yl.of (λ_ _ _=>ZN2 (vs:=[]) b h1 (λj u e=>by simp at e) rfl) (by simp only[VR];exact⟨[],rfl,VRs.nil⟩) h
     |cons=>cases w
   . exact Yl.of (λo' d f=>by rw[(g o' d f).1,(g o' d f).2];exact ZKR a b h1 (by rw[YY hs i,e1]) rfl e3) (by simp only[VR];exact⟨_,rfl,e2⟩) h
 . cases h
theorem ZS2 (s:x.P=X.P)(i:∀o' d,M o' d->o'=own/\d=H)(t:I.H=H){T o b q:Nat}{y:Ty}{z:den y}{cs:List Value}(h1:evo l p=some (.pointer<|some ⟨b,q+o,none⟩))(B:RT y I.H cs z)(w:∀j u,cs[j]? =some u->I.H b (q+j)=some u)(h:ldE X.P T (spC y z) o k=some r):Yl x I (.load T p) ty l M k r:=by
 have A:=(RT.cells y z cs).1 B;unfold ldE at h;split at h
 . rename_i n a;rw[<-s]at a;obtain⟨c,e,h⟩:=Zb h;have C:(spC y z)[o]? =some c:=(by rw[List.head?_drop]at e;exact e);obtain⟨v,D,E⟩:=A.get C;exact Yl.of (λo' d f=>by rw[(i o' d f).1,(i o' d f).2];exact Qu a h1 (by rw[<-t];exact w _ _ D)) E h
 . rename_i n a;rw[<-s]at a;obtain⟨hn,h⟩:=ZC h;have hn:=TA hn;have g:=VRs.take n<|VRs.drop o A;have m:∀j u,((cs.drop o).take n)[j]? =some u->H b (q+o+j)=some u:=λj u e=>by
    rw[<-t,Su];refine w _ _ ?_;rw[TX]at e;split at e
    . rw[SF]at e;exact e
    . cases e
   exact Yl.of (λo' d f=>by rw[(i o' d f).1,(i o' d f).2];exact ZTZ (vs:=(cs.drop o).take n) a h1 m (g.length.symm.trans hn)) (by simp only[VR];exact⟨_,rfl,g⟩) h
 . cases h
theorem ZDU{c:CV}{v:Value}{k:CV->Option β}(a:VR I c v)(h:drf c k=some r):∃b,VR I b v/\k b=some r:=by
 unfold drf at h;split at h
 . obtain⟨y,e,h⟩:=ZT h;simp only[VR]at a;rcases a with⟨e2,_⟩|⟨z,e2,a⟩
   . rw[e]at e2;cases e2
   . rw[e]at e2;cases e2;exact⟨_,by simp only[VR];exact a,h⟩
 . obtain⟨y,e,h⟩:=ZT h;simp only[VR]at a;rcases a with⟨e2,_⟩|⟨z,e2,a⟩
   . rw[e]at e2;cases e2
   . rw[e]at e2;cases e2;exact⟨_,by simp only[VR];exact a,h⟩
 . exact⟨_,a,h⟩
theorem ZS0 (K:x.P=X.P)(A:∀o' d,M o' d->o'=own/\d=H)(hs:RS x s I seg l own H){T j o:Nat}{y:Ty}{g:Int}{v:Value}(h1:evo l p=some v)(B:RelR I y j g o v)(h:ldR X.P s T y j g o k=some r):Yl x I (.load T p) ty l M k r:=by
 unfold ldR at h;split at h
 . rename_i u E m e;obtain⟨O,h⟩:=ZC h;cases Vk O;obtain⟨z,Q,h⟩:=Zh h;obtain⟨R,C⟩:=(hs.rw _ _ e).resolve_left (by simp);have C:RowOf I.H (RT y) 0 E (szY y) (I.ν j).2 m (seg j):=C;obtain⟨_,b,q,S,rfl⟩:=B;obtain⟨b',q',cs,cur,U,D,V,hl,L⟩:=RowOf.elem C Q;obtain⟨rfl,rfl⟩:=S.one D;have B:=(RT.cells y z cs).1 V;have f:own[j]? =some [(b,.cells cur E (0,0))]:=(by rw[YY hs R,U]);unfold ldE at h;split at h
   . rename_i n a;rw[<-K]at a;obtain⟨c,e,h⟩:=Zb h;have W:(spC y z)[o]? =some c:=(by rw[List.head?_drop]at e;exact e);obtain⟨w,Y,Z⟩:=B.get W;exact Yl.of (λo' d i=>by rw[(A o' d i).1,(A o' d i).2];exact Jc j a h1 f<|L _ _ Y) Z h
   . rename_i n a;rw[<-K]at a;obtain⟨hn,h⟩:=ZC h;have hn:=TA hn;have t:=VRs.take n<|VRs.drop o B;have F:((cs.drop o).take n).length=n:=t.length.symm.trans hn;have G:(cs.drop o).take n=(cur.toList.drop (q+o)).take n:=by
      apply Tl;intro j;by_cases N:j<n
      . have:j<((cs.drop o).take n).length:=(by omega);obtain⟨u,J⟩:∃u,((cs.drop o).take n)[j]? =some u:=⟨_,TL this⟩;rw[J];rw[TX,TJ N,SF]at J|-;rw[Su];exact(L _ _ J).symm
      . rw[Tz (by omega),TX,TK N]
     exact Yl.of (λo' d i=>by rw[(A o' d i).1,(A o' d i).2];exact ZKR j a h1 f G F) (by simp only[VR];exact⟨_,rfl,t⟩) h
   . cases h
 . cases h
theorem QB{P:Program}{T:Nat}{y:Ty}(h:elOk P T y=true):∃e g,P.underlying T=some (.slice e)/\ZE P e=some (g,szY y):=by
 unfold elOk at h;split at h
 . rename_i e h1;split at h
   . rename_i g n h2;rw[TA h]at h2;exact⟨e,g,h1,h2⟩
   . cases h
 . cases h
theorem GZ{c:CV}{v:Value}(d:VR I c v)(h:allB oneC (Yw c)=true\/∃m,c=.ag m):VRs I (Yw c) v.cells.toList:=by
  cases c with
  | ag m=>
    simp only[VR]at d;obtain⟨vs,rfl,d⟩:=d;simpa[Yw,Value.cells]using d
  |tu m=>rcases h with h|⟨m,h⟩<;>cases h
  |und=>rcases h with h|⟨m,h⟩<;>cases h
  |any=>rcases h with h|⟨m,h⟩<;>cases h
  |unk=>rcases h with h|⟨m,h⟩<;>cases h
  | sl t m=>
    simp only[VR]at d;obtain⟨ao,cap,rfl⟩:=d.val;exact VRs.cons (by simp only[VR];exact d) VRs.nil
  |cl t m=>have h0:=d;simp only[VR]at d;obtain⟨_,ao,rfl⟩:=d;exact VRs.cons h0 VRs.nil
  |rv t j g=>have h0:=d;simp only[VR]at d;obtain⟨_,n,⟨⟨ao,cap,rfl⟩,_⟩,_⟩:=d;exact VRs.cons h0 VRs.nil
  |sv j n=>have h0:=d;simp only[VR]at d;obtain⟨_,rfl⟩:=d;exact VRs.cons h0 VRs.nil
  |n c j=>simp only[VR]at d;obtain⟨h1,h2,rfl⟩:=d;exact VRs.cons (by simp only[VR];exact⟨h1,h2,trivial⟩) VRs.nil
  |row j=>have h0:=d;simp only[VR]at d;obtain⟨h1,h2,a,n,c,rfl⟩:=d;exact VRs.cons h0 VRs.nil
  |rel t j i o=>have h0:=d;simp only[VR]at d;obtain⟨h1,b,q,h2,rfl⟩:=d;exact VRs.cons h0 VRs.nil
  |oel t y=>have h0:=d;simp only[VR]at d;rcases d with⟨_,rfl⟩|⟨z,_,b,q,cs,rfl,_⟩<;>exact VRs.cons h0 VRs.nil
  |orel t j y=>have h0:=d;simp only[VR]at d;rcases d with⟨_,rfl⟩|⟨z,_,_,b,q,_,rfl⟩<;>exact VRs.cons h0 VRs.nil
  |clo f l m=>have h0:=d;simp only[VR]at d;obtain⟨us,ws,rfl,_,_⟩:=d;exact VRs.cons h0 VRs.nil
  |ln j=>simp only[VR]at d;obtain⟨h1,rfl⟩:=d;exact VRs.cons (by simp only[VR];exact⟨h1,trivial⟩) VRs.nil
  |bc c m j=>simp only[VR]at d;obtain⟨h1,h2,h3,rfl⟩:=d;exact VRs.cons (by simp only[VR];exact⟨h1,h2,h3,trivial⟩) VRs.nil
  |ptr a o=>simp only[VR]at d;obtain⟨h1,rfl⟩:=d;exact VRs.cons (by simp only[VR];exact⟨h1,trivial⟩) VRs.nil
  |el t y o=>simp only[VR]at d;obtain⟨b,q,cs,rfl,h2⟩:=d;exact VRs.cons (by simp only[VR];exact⟨b,q,cs,rfl,h2⟩) VRs.nil
  |_=>simp only[VR]at d;subst d;exact VRs.cons (by simp only[VR]) VRs.nil
theorem ZJM{d:List (Nat×Nat)}:∀{m:List (Nat×CV)} {us:List (Nat×Value)} {z:List CV} {f:List Value} {k:List CV->Option β},m.map (·.1)=us.map (·.1)->VRs I (m.map (·.2)) (us.map (·.2))->VRs I z f->allB (λp=>Bool.or (allB oneC<|Yw p.2)<|match p.2 with| .ag _=>true|_=>false) m=true->bldL d z m k=some r->
    us.all (fitsP d f.length)=true/\∃cs,VRs I cs (setP d f us)/\k cs=some r
  | [],us,z,f,k,e,t,l,x,h=>by
    cases us with
    |cons=>cases e
    |nil=>exact⟨rfl,z,by simpa[setP]using l,by rw[show bldL d z [] k=Xq z k from rfl,Y7]at h;exact h⟩
  | (i,c) ::m,us,z,f,k,e,t,l,x,h=>by
    cases us with
    |nil=>cases e
    | cons w us=>
      obtain⟨J,v⟩:=w;simp only[Tp,SS]at e;obtain⟨rfl,e⟩:=e;obtain⟨v',C,D,E,t⟩:=t.un;obtain⟨rfl,rfl⟩:=Tv D;have q:=Zd.1 x;have y:VRs I (Yw c) v.cells.toList:=by
        refine GZ E ?_;have:=q (i,c) (by simp);simp only[Bool.or_eq_true]at this;rcases this with h|h
        . exact .inl h
        . right;cases c<;>first|(cases h;done)|exact⟨_,rfl⟩
      have h:bb (fits d z.length i<|Yw c) (match d[i]? with|some (o,_)=>bldL d (layL z o<|Yw c) m k|none=>none) none=some r:=h;obtain⟨g,h⟩:=ZC h;have A:=l.length;have s:=y.length;unfold fits at g;split at g
      . rename_i o n j;rw[j]at h;simp only[TD]at g;have u:VRs I (layL z o<|Yw c) (putP f o v.cells.toList):=by
          unfold layL putP;rw[s];exact VRs.append (VRs.append (VRs.take _ l) y)<|VRs.drop _ l
        have b:o+v.cells.toList.length<=f.length:=by
          have:=TI g.2;have h2:=TA g.1;omega
        obtain⟨B,cs,F,G⟩:=ZJM e t u (Zd.2 λa H=>q a<|Sl _ H) h;rw[ZEp b]at B;refine⟨?_,cs,by simpa[setP,j]using F,G⟩;simp only[RY,TD];refine⟨?_,B⟩;simp only[fitsP,j,TD];have h2:=TA g.1;exact⟨by rw[<-h2,s];simp,by simpa using b⟩
      . cases g
theorem R_bldA{x:Cx}{l:Slots}{own:List Own}{H:Heaplet}{ty T n:Nat}{c:Array (Nat×Operand)}{vs:List (Nat×Value)}{z:Value}{a:List (Nat×Nat)}{cs:List Value}(A:YK x.P T=some z)(h:ZJf x.P T n=some a)
    (B:c.toList.mapM (λp=>(evo l p.2).map λu=>(p.1,u))=some vs)(y:vs.all (fitsP a z.cells.toList.length)=true)(C:setP a z.cells.toList vs=cs):Runs x (.build T c) ty l own H (.agg cs.toArray):=by
  subst C;refine λρ w _ _ _ _ k I=> ?_;simp only[execOp];have m:∀(ps:List (Nat×Operand)) (us:List (Nat×Value)),ps.mapM (λp=>(evo l p.2).map λu=>(p.1,u))=some us->ps.map (λp=>(p.1,ρ p.2))=us:=by
    intro ps;induction ps with
    |nil=>intro us e;simp at e;simp[e]
    | cons p ps D=>
      intro us e;simp only[SM,RZ,T5,Option.map_eq_some_iff]at e;obtain⟨b,⟨u,o,rfl⟩,cs,r,e⟩:=e;simp at e;subst e;simp[D cs r,k _ _ o]
  have E:=m _ _ B;refine YQ ?_;have e:c.map (λp=>(p.1,ρ p.2))=vs.toArray:=by rw[<-Sr];simpa using E
  have d:=ZEQ a vs z.cells (by simpa using y);unfold ZJf at h;split at h
  . rename_i J F o;cases f:ZE x.P F with
    |none=>simp[f]at h
    | some s=>
      simp[f]at h;have t:Instr.fill (λi=>some (i*s.2,s.2)) z.cells vs=some (setP a z.cells.toList vs).toArray:=by
        rw[<-d];refine ZHa λp v=> ?_;have:=Ti.1 y p v;unfold fitsP at this;split at this
        . rename_i q G;have j:p.1<n:=by
            have:=(TC.1 G).1;rw[<-h]at this;simpa using this
          rw[<-h];simp[j]
        . cases this
      have:(Instr.build T vs.toArray).run x.P w=.ok (.agg (setP a z.cells.toList vs).toArray) w:=by
        unfold Instr.build;simp only[Sem.run_bind,QA A,Result.andThen,run_underlying o,Go.Ow.run_sizeOf (g:=s.1) (n:=s.2) f,t,Sem.run_pure]
      first
        |exact(by simpa[e]using this)
        |(rw[show(Array.map _ c)=vs.toArray from e];exact this)
  . cases h
theorem UH{P:Program}{ts:Array TypeId}(h:isSl P ts=true):∃t e,ts= #[t]/\P.underlying t=some (.slice e):=by
 unfold isSl at h;split at h
 . split at h
   . rename_i e;exact⟨_,_,rfl,e⟩
   . cases h
 . cases h
theorem ZMr{P:Program}{ts:Array TypeId}(h:isStr P ts=true):∃t,ts= #[t]/\P.underlying t=some .string:=by
 unfold isStr at h;split at h
 . split at h
   . rename_i e;exact⟨_,rfl,e⟩
   . cases h
 . cases h
theorem ZRG (g:x.P=X.P)(i:I.H=H){ts:Array TypeId}{a:CV}{v:Value}(h1:evo l p=some v)(b:VR I a v)(h:lenC X.P ts a k=some r):Yl x I (.call ⟨.builtin .len,#[p],ts⟩) ty l M k r:=by
 unfold lenC at h;rw[<-g]at h;split at h
 . obtain⟨c,d⟩:=ZC h;obtain⟨t,e,rfl,f⟩:=UH c;simp only[VR]at b;exact Yl.of (λ_ _ _=>Zt f h1 b.long) (by simp only[VR];exact⟨b.len_le,trivial⟩) d
 . obtain⟨c,d⟩:=ZC h;obtain⟨t,e,rfl,f⟩:=UH c;simp only[VR]at b;exact Yl.of (λ_ _ _=>Zt f h1 b.1.long) (by simp only[VR];exact⟨b.1.len_le,trivial⟩) d
 . obtain⟨c,d⟩:=ZC h;obtain⟨t,e,rfl,f⟩:=UH c;simp only[VR]at b;obtain⟨_,rfl⟩:=b;exact Yl.of (λ_ _ _=>R.len f h1) (by simp only[VR]) d
 . obtain⟨c,d⟩:=ZC h;obtain⟨t,e,rfl,f⟩:=UH c;simp only[VR]at b;subst b;exact Yl.of (λ_ _ _=>R.len f h1) (by simp only[VR];rfl) d
 . obtain⟨c,d⟩:=ZC h;obtain⟨t,rfl,f⟩:=ZMr c;simp only[VR]at b;subst b;exact Yl.of (λ_ _ _=>ZQU f h1) (by simp only[VR]) d
 . cases h
theorem GY{b:Bool}{y z:Option β}(h:cond b y z=some r):(b=true/\y=some r)\/(b=false/\z=some r):=by
 cases b with
 |true=>exact .inl ⟨rfl,h⟩
 |false=>exact .inr ⟨rfl,h⟩
theorem ZNL{P:Program}{T:Nat}{k:List CV->Option β}(h:zC P T k=some r):∃z m,YK P T=some z/\VRs I m z.cells.toList/\k m=some r:=by
 unfold zC at h;split at h
 . rename_i z e;obtain⟨m,h1,h2⟩:=ZCl h;exact⟨z,m,e,h1,h2⟩
 . cases h
theorem ZC6 (hs:RS x s I seg l own H){o:Option Operand}{n:Int}{k:Int->Option β}(h:oLo s o n k=some r):∃a,(match o with|none=>a=n|some o=>∃b,evo l o=some (.int b a))/\k a=some r:=by
 unfold oLo at h;split at h
 . exact⟨_,rfl,h⟩
 . obtain⟨c,v,e1,e2,h⟩:=ZZ hs h;obtain⟨n,b,rfl,h⟩:=WH e2 h;exact⟨n,⟨b,e1⟩,h⟩
theorem ZGd{a b:Operand}(h:sameP a b=true):a=b:=by
  unfold sameP at h;split at h
  . rw[TA h]
  . rename_i m n;cases m with
    | ofNat m=>cases n with
      |ofNat n=>rw[TA<|show Nat.beq m n=true from h]
      |negSucc n=>cases h
    |negSucc m=>cases h
  . cases h
theorem ZBv{a b:Option Operand}(h:sameO a b=true):∃t,a=some t/\b=some t:=by
 unfold sameO at h;split at h
 . exact⟨_,rfl,by rw[ZGd h]⟩
 . cases h
def Z0 (l:Slots)(o:Option Operand):Prop:=match o with|none=>True|some o=>∃k,evo l o=some (.int k 0)
theorem ZHT{o:Option Operand}(h:isZ o=true):Z0 l o:=by
 unfold isZ at h;split at h
 . trivial
 . rename_i k n;refine⟨k,?_⟩;cases n with
   |ofNat y=>rw[TA<|show Nat.beq y 0=true from h];rfl
   |negSucc y=>cases h
 . cases h
theorem ZNR (L:x.P=X.P)(hs:RS x s I seg l own H){T:Nat}{t:Ty}{m:List (den t)}{v:Value}{lo hi mx:Option Operand}(h1:evo l p=some v)(G:IsSlice I.H (RT t) (szY t) v m)(h:slcL X s T t m lo hi mx k=some r):Yl x I (.slice T p lo hi mx) ty l M k r:=by
  . obtain⟨j,h⟩:=ZC h;simp only[TD]at j;obtain⟨e,g,q,i⟩:=QB j.1;rw[<-L]at q i;obtain⟨a,J,h⟩:=ZC6 hs h;obtain⟨b,hb,h⟩:=ZC6 hs h;cases mx with
    | none=>
      obtain⟨m',u,d,w⟩:=GE<|show Ow.slc m a b (λy=>k<|.sl t y)=some r from h
      clear h;obtain⟨v',cap,⟨ao,n,N,_⟩,O,z,A⟩:=PY G u d;exact Yl.of (λ_ _ _=>R.slc (cap:=cap) (a:=a) (b:=b) (c:=(cap:Int)) (m:=m) (R:=RT t) q i h1 J hb ⟨ao,n,N,rfl⟩ ⟨d.1,d.2.1,O⟩ z (.inl rfl)) (by simp only[VR];exact A) w
    | some o=>
      have B:hi≠none:=(by rintro rfl;exact absurd j.2<|by simp);have K:(∃C,evo l o=some (.int C b))/\Ow.slc m a b (λy=>k<|.cl t y)=some r:=by
        have f:=show(Bool.rec (ev s o λc=>oIx c λc=>chk (b=c) (Ow.slc m a b λy=>k (.cl t y))) (Ow.slc m a b λy=>k (.cl t y)) (sameO hi (some o)):Option β)=some r from h;clear h;cases D:sameO hi (some o)with
        | true=>
          rw[D]at f;obtain⟨S,rfl,e2⟩:=ZBv D;cases e2;exact⟨hb,f⟩
        | false=>
          rw[D]at f;obtain⟨c,U,e1,e2,f⟩:=ZZ hs<|show ev s o _=some r from f
          obtain⟨n,C,rfl,f⟩:=WH e2 f;obtain⟨e3,E⟩:=ZI f;subst e3;exact⟨⟨C,e1⟩,E⟩
      obtain⟨m',u,d,w⟩:=GE K.2;obtain⟨v',cap,F,z,Q,A⟩:=PZ G u d;exact Yl.of (λ_ _ _=>R.slc (cap:=cap) (a:=a) (b:=b) (c:=b) (m:=m) (R:=RT t) q i h1 J hb K.1 ⟨d.1,d.2.1,SA _⟩ z (.inr B)) (by simp only[VR];exact⟨A,F,Q⟩) w
def LoQ (l:Slots)(lo:Option Operand)(q:Nat):Prop:=match lo with|none=>q=0|some op=>∃k,evo l op=some (.int k (q:Int))
theorem ZPe{lo:Option Operand}{k:Nat->Option β}(h:loN lo k=some r):∃q:Nat,LoQ l lo q/\k q=some r:=by
 unfold loN at h;split at h
 . exact⟨0,rfl,h⟩
 . rename_i a n;cases n with
   |ofNat j=>exact⟨j,⟨a,rfl⟩,h⟩
   |negSucc j=>cases h
 . cases h
theorem ZI9{o:Option Operand}(h:isZ0 o=true):∃q,o=some q/\∃k,evo l q=some (.int k 0):=by
 unfold isZ0 at h;split at h
 . rename_i k n;cases n with
   |ofNat y=>rw[TA<|show Nat.beq y 0=true from h];exact⟨_,rfl,k,rfl⟩
   |negSucc y=>cases h
 . cases h
theorem ZPN{ty:TypeId}{M:List Own->Heaplet->Prop}(A:x.P=X.P)(hs:RS x s I seg l own H){p:Operand}{T:Nat}{a:CV}{v:Value}{lo:Option Operand}{k:CV->Option β}(h1:evo l p=some v)(i:VR I a v)(h:rvS X s T a lo k=some r):Yl x I (.slice T p lo none none) ty l M k r:=by
 unfold rvS at h;split at h
 . rename_i j;split at h
   . rename_i t E m e;obtain⟨B,h⟩:=ZC h;obtain⟨K,g,w,d⟩:=QB B;rw[<-A]at w d;obtain⟨y,o,h⟩:=ZC6 hs h;obtain⟨hn,h⟩:=ZI h;obtain⟨L,f⟩:=(hs.rw _ _ e).resolve_left (by simp);have f:RowOf I.H (RT t) 0 E (szY t) (I.ν j).2 m (seg j):=f;have i:j<I.n/\v=(I.ν j).2/\∃a n c,v=.slice a n c:=(by simpa only[VR]using i);obtain⟨q,rfl,_⟩:=i;obtain⟨v',cap,C,D,F,z,N⟩:=X1 f (a:=y) (b:=(m.length:Int)) ⟨hn.1,hn.2,SA _⟩;obtain⟨G,J,u,_⟩:=f.len;exact Yl.of (λ_ _ _=>R.slc (cap:=cap) (a:=y) (b:=(m.length:Int)) (c:=(cap:Int)) (m:=m) (R:=RT t) w d h1 o rfl C ⟨hn.1,hn.2,D⟩ F (.inl rfl)) (by simp only[VR];exact⟨q,m.length,by rw[T4]at z;exact z,⟨G,J,u⟩,hn.1,by omega⟩) h
   . cases h
 . cases h
theorem ZQy (w:x.P=X.P)(hs:RS x s I seg l own H){T:Nat}{c:CV}{v:Value}{lo hi mx:Option Operand}(h1:evo l p=some v)(f:VR I c v)(h:slcC X s T c lo hi mx k=some r):Yl x I (.slice T p lo hi mx) ty l M k r:=by
 unfold slcC at h;split at h
 . simp only[VR]at f;exact ZNR w hs h1 f h
 . simp only[VR]at f;exact ZNR w hs h1 f.1 h
 . rename_i a o;simp only[VR]at f;obtain⟨e4,rfl⟩:=f;unfold svP at h;split at h
   . rename_i N e u;split at h
     . rename_i g d;rw[<-w]at u d;obtain⟨q,A,h⟩:=ZPe (l:=l) h;obtain⟨K,h⟩:=ZC h;exact Yl.of (λ_ _ _=>R.slA u d h1 A<|by simpa using K) (by simp only[VR];exact⟨e4,trivial⟩) h
     . cases h
   . cases h
 . rename_i j;split at h
   . exact ZPN w hs h1 f h
   . obtain⟨B,h3⟩:=ZC h;clear h;unfold zz at B;simp only[TD]at B;split at h3
     . rename_i t E m e;obtain⟨z,C⟩:=ZC h3;clear h3;obtain⟨e',g,u,d⟩:=QB z;rw[<-w]at u d;obtain⟨O,Q,S⟩:=B;obtain⟨K,D⟩:=(hs.rw _ _ e).resolve_left (by simp);have D:RowOf I.H (RT t) 0 E (szY t) (I.ν j).2 m (seg j):=D;have U:j<I.n/\v=(I.ν j).2/\∃a n c,v=.slice a n c:=(by simpa only[VR]using f);obtain⟨_,e1,_⟩:=U;have hb:=ZI9 (l:=l) Q;have F:=ZI9 (l:=l) S;have V:=ZHT (l:=l) O;obtain⟨ao,cap,ev,W⟩:∃ao cap,v=.slice ao m.length cap/\∀a,ao=some a->a.spot=none:=by
        obtain⟨cells,⟨_,Y⟩,_⟩:=D;rcases Y with⟨G,L,_⟩|⟨gg,cap,cur,G,L,_⟩
        . exact⟨none,0,by rw[e1,G,L],λa e=>by cases e⟩
        . exact⟨_,cap,by rw[e1,G],λa e=>by cases e;rfl⟩
       obtain⟨oh,rfl,hb⟩:=hb;obtain⟨om,rfl,F⟩:=F;refine Yl.of (λ_ _ _=>R.slc (cap:=cap) (a:=0) (b:=0) (c:=0) (m:=m) (R:=RT t) (v':=.slice ao 0 0) u d h1 ?_ hb F ⟨by omega,by omega,by omega⟩ ⟨ao,ev,by omega,by simp[sliced]⟩ (.inr<|by simp)) ?_ C
       . cases lo with
         |none=>rfl
         |some o=>exact V
       . simp only[VR];exact⟨⟨ao,0,rfl,TF _,by simp[maxLen],λa e=>.inl rfl,λ_=>rfl,λi y e=>by simp at e⟩,ao,rfl⟩
     . cases h3
 . obtain⟨z,h⟩:=ZC h;simp only[TD]at z;obtain⟨h2,h3,C,J⟩:=z;unfold slOk at h2;split at h2
   . rename_i e u;split at h2
     . rename_i Z d;obtain⟨g,sz⟩:=Z;rw[<-w]at u d;have e3:=f;simp only[VR]at e3;subst e3;have J:mx=none:=by cases mx with|none=>rfl|some _=>cases J
       exact Yl.of (λ_ _ _=>ZNC u d h1 (ZHT h3) (ZHT C) J) f h
     . cases h2
   . cases h2
 . cases h
theorem ZSw{c d:CV}{v w:Value}{p q:Operand}{ts:Array TypeId}(h1:evo l p=some v)(a:VR I c v)(h2:evo l q=some w)(b:VR I d w)(h:mnC c d k=some r):Yl x I (.call ⟨.builtin .min,#[p,q],ts⟩) ty l M k r:=by
 obtain⟨m,e,h⟩:=Zy<|show oI c _=some r from h
 obtain⟨n,hn,h⟩:=Zy h;have e1:=e.le _ _ a;have e2:=hn.le _ _ b;simp only[VR]at e1 e2;subst e1 e2;exact Yl.of (λ_ _ _=>ZH1 h1 h2) (by simp only[VR]) h
theorem ZSv{c d:CV}{v w:Value}{p q:Operand}{ts:Array TypeId}(h1:evo l p=some v)(a:VR I c v)(h2:evo l q=some w)(b:VR I d w)(h:mxC c d k=some r):Yl x I (.call ⟨.builtin .max,#[p,q],ts⟩) ty l M k r:=by
 unfold mxC at h;split at h
 . split at h
   . simp only[VR]at a b;subst a b;exact Yl.of (λ_ _ _=>ZR2 h1 h2) (by simp only[VR]) h
   . cases h
 . obtain⟨m,e,h⟩:=Zy h;obtain⟨n,hn,h⟩:=Zy h;have e1:=e.le _ _ a;have e2:=hn.le _ _ b;simp only[VR]at e1 e2;subst e1 e2;exact Yl.of (λ_ _ _=>ZTW h1 h2) (by simp only[VR]) h
theorem ZRF (f:x.P=X.P)(hs:RS x s I seg l own H){ts:Array TypeId}{a:CV}{v:Value}{p:Operand}(h1:evo l p=some v)(c:VR I a v)(h:lenR X s ts a k=some r):Yl x I (.call ⟨.builtin .len,#[p],ts⟩) ty l M k r:=by
 unfold lenR at h;split at h
 . split at h
   . rename_i t E m e;obtain⟨d,i⟩:=ZC h;rw[<-f]at d;obtain⟨w,y,rfl,o⟩:=UH d;obtain⟨_,b⟩:=(hs.rw _ _ e).resolve_left (by simp);have b:RowOf I.H (RT t) 0 E (szY t) _ m _:=b;simp only[VR]at c;obtain⟨_,rfl,_⟩:=c;have:=b.lenI;exact Yl.of (λ_ _ _=>Zt o h1 b.long) (by simp only[VR,MAX];exact⟨by omega,trivial⟩) i
   . cases h
 . rename_i t j g;split at h
   . rename_i u E m e;obtain⟨d,i⟩:=ZC h;simp only[TD]at d;have q:=d.2;rw[<-f]at q;obtain⟨w,y,rfl,o⟩:=UH q;obtain⟨_,b⟩:=(hs.rw _ _ e).resolve_left (by simp);have b:RowOf I.H (RT u) 0 E (szY u) _ m _:=b;simp only[VR]at c;obtain⟨_,n,⟨⟨ao,cap,rfl⟩,_⟩,⟨z,A,e1⟩,B,C⟩:=c;obtain⟨D,F,e2,_⟩:=b.len;have hn:n=m.length:=(by rw[e2]at e1;simp only[Value.slice.injEq]at e1;exact e1.2.1.symm);subst hn;exact Yl.of (λ_ _ _=>R.len o h1) (by simp only[VR];congr 1;omega) i
   . cases h
 . exact ZRG f hs.H h1 c h
theorem ZRe (e:x.P=X.P)(hs:RS x s I seg l own H){b:Builtin}{as:Array Operand}{ts:Array TypeId}(h:bltC X s b as.toList ts k=some r):Yl x I (.call ⟨.builtin b,as,ts⟩) ty l M k r:=by
 obtain⟨as⟩:=as;have h:bltC X s b as ts k=some r:=h;unfold bltC at h;split at h
 . split at h
   . obtain⟨c,v,e1,e2,h⟩:=ZZ hs h;exact ZRF e hs e1 e2 h
   . cases h
 . split at h
   . obtain⟨c,v,e1,e2,h⟩:=ZZ hs h;obtain⟨d,w,f,a,h⟩:=ZZ hs h;exact ZSw e1 e2 f a h
   . obtain⟨c,v,e1,e2,h⟩:=ZZ hs h;obtain⟨d,w,f,a,h⟩:=ZZ hs h;exact ZSv e1 e2 f a h
   . cases h
 . cases h
theorem ZL6{β:Type}{r:β}{t:Ty}{m:List (den t)}:∀{n:Nat} {i:Int} {k:den (arT t n)->Option β},arV t m n i k=some r->∃z,k z=some r/\0<=i/\i.toNat+n+1<=m.length/\∀{H:Heaplet} {ao:Option Addr} {cap:Nat},IsSlice H (RT t) (szY t) (.slice ao m.length cap) m->
    ∃b o cs,ao=some ⟨b,o,none⟩/\cs.length=szY (arT t n)/\RT (arT t n) H cs z/\∀j u,cs[j]? =some u->H b (o+i.toNat*szY t+j)=some u
  | 0,i,k,h=>by
    obtain⟨y,a,h⟩:=Zh<|show idx m i k=some r from h
    have v:=(TC.1 a.2).1;refine⟨y,h,a.1,by omega,λ{H ao cap} hs=> ?_⟩;obtain⟨l,d,e,_,_,_,_,p⟩:=hs;simp only[Value.slice.injEq]at e;obtain⟨rfl,_,rfl⟩:=e;obtain⟨b,o,cs,rfl,f,q,s⟩:=p _ _ a.2;exact⟨b,o,cs,rfl,f,q,s⟩
  | n +1,i,k,h=>by
    obtain⟨y,a,h⟩:=Zh<|show idx m i (λy=>arV t m n (i+1) λz=>k (y,z))=some r from h
    obtain⟨z,h,h1,h2,h3⟩:=ZL6 h;have e1:(i+1).toNat=i.toNat+1:=(by have:=a.1;omega);rw[e1]at h2 h3;refine⟨(y,z),h,a.1,by omega,λ{H ao cap} hs=> ?_⟩;obtain⟨b,o,cs,rfl,w,x,A⟩:=h3 hs;obtain⟨l,d,e,_,_,_,_,p⟩:=hs;simp only[Value.slice.injEq]at e;obtain⟨e0,_,rfl⟩:=e;obtain⟨B,o',c,e2,f,q,s⟩:=p _ _ a.2;rw[e2]at e0;cases e0;refine⟨b,o,c++cs,rfl,by rw[TG,f,w];rfl,⟨c,cs,rfl,f,q,x⟩,λj u g=> ?_⟩;rw[List.getElem?_append]at g;split at g
    . exact s j u g
    . have:=A _ u g;rw[show o+(i.toNat+1)*szY t+(j-c.length)=o+i.toNat*szY t+j by rw[TU];omega]at this;exact this
theorem ZNT (d:x.P=X.P){T:Nat}{t:Ty}{m:List (den t)}{v:Value}(h1:evo l p=some v)(a:IsSlice I.H (RT t) (szY t) v m)(h:s2aC X.P T t m k=some r):Yl x I (.sliceToArrayPointer T p) ty l M k r:=by
 unfold s2aC at h;split at h
 . rename_i N e c;split at h
   . rename_i n g y f;obtain⟨hb,h⟩:=ZC h;obtain⟨z,h,_,h2,h3⟩:=ZL6 h;obtain⟨ao,cap,rfl⟩:=a.val;obtain⟨b,o,cs,rfl,i,q,s⟩:=h3 a;rw[<-d]at c;exact Yl.of (λ_ _ _=>ZTO c h1 (by have:(0:Int).toNat=0:=rfl;omega) rfl) (by simp only[VR];exact⟨b,o,cs,rfl,i,q,λj u w=>by have:=s j u w;simpa using this⟩) h
   . cases h
 . cases h
theorem ZD2 (B:x.P=X.P)(hs:RS x s I seg l own H){o:Op}(Q:isMem X.P o=true->∀o' h',M o' h'->o'=own/\h'=H)(h:pvl X s o k=some r):Yl x I o ty l M k r:=by
  unfold pvl at h;split at h
  . obtain⟨c,v,e1,e2,h⟩:=ZZ hs h;exact Yl.of (λ_ _ _=>Yd e1) e2 h
  . obtain⟨c,v,e1,e2,h⟩:=ZZ hs h;exact Yl.of (λ_ _ _=>Uz e1) e2 h
  . obtain⟨c,v,e1,e2,h⟩:=ZZ hs h;obtain⟨c,e2,h⟩:=ZDU e2 h;split at h
    . have e3:=e2;simp only[VR]at e3;obtain⟨_,rfl⟩:=e3;exact Yl.of (λ_ _ _=>Ux e1) e2 h
    . have e3:=e2;simp only[VR]at e3;obtain⟨b,q,cs,rfl,_⟩:=e3;exact Yl.of (λ_ _ _=>Ux e1) e2 h
    . have e3:=e2;simp only[VR]at e3;obtain⟨_,b,q,_,rfl⟩:=e3;exact Yl.of (λ_ _ _=>Ux e1) e2 h
    . cases h
  . obtain⟨c,v,e1,e2,h⟩:=ZZ hs h;obtain⟨b,hb,h⟩:=GM h;have e3:=hb.le _ _ e2;simp only[VR]at e3;subst e3;rcases GY h with⟨rfl,h⟩|⟨rfl,h⟩
    . obtain⟨c,v,C,A,h⟩:=ZZ hs h;exact Yl.of (λ_ _ _=>ZKO e1 C) A h
    . obtain⟨c,v,C,A,h⟩:=ZZ hs h;exact Yl.of (λ_ _ _=>ZNx e1 C) A h
  . obtain⟨c,v,e1,e2,h⟩:=ZZ hs h;obtain⟨d,w,C,A,h⟩:=ZZ hs h;exact ZTG B hs e1 e2 C A h
  . obtain⟨c,v,e1,e2,h⟩:=ZZ hs h;split at h
    . simp only[VR]at e2;subst e2;exact Yl.of (λ_ _ _=>ZQR e1) (by simp only[VR]) h
    . simp only[VR]at e2;obtain⟨_,_,_,rfl⟩:=e2;exact Yl.of (λ_ _ _=>ZQR e1) (by simp only[VR]) h
    . simp only[VR]at e2;subst e2;exact Yl.of (λ_ _ _=>ZR0 e1) (by simp only[VR]) h
    . cases h
  . obtain⟨c,v,e1,e2,h⟩:=ZZ hs h;exact ZTC B hs.H (λq=>Q (by rw[B]at q;simp only[isMem,q])) e1 e2 h
  . obtain⟨c,v,e1,e2,h⟩:=ZZ hs h;split at h
    . obtain⟨c,e3,h⟩:=Zb h;simp only[VR]at e2;obtain⟨vs,rfl,e2⟩:=e2;obtain⟨w,C,A⟩:=e2.get e3;exact Yl.of (λ_ _ _=>R.extract e1<|by simpa using C) A h
    . cases h
  . obtain ⟨c,v,e1,e2,h⟩:=ZZ hs h;obtain⟨d,w,e3,e4,S⟩:=ZZ hs h;clear h;split at S
    . rename_i ll n;have h:=S;clear S;split at h
      . rename_i m e p;split at h
        . rename_i f;simp only[VR]at e2 e4;obtain⟨vs,rfl,e2⟩:=e2;subst e4;cases n with
          |negSucc j=>cases h
          | ofNat j=>
            obtain⟨D,h⟩:=ZC<|show bb (Nat.blt j m) _ none=some r from h
            obtain⟨c,F,h⟩:=Zb h;rw[ZJC]at h;obtain⟨w,C,A⟩:=e2.get F;rw[<-B]at p f;exact Yl.of (λ_ _ _=>ZR5 j p f rfl e1 e3 D<|by simpa using C) A h
        . cases h
      . cases h
    . cases S
  . obtain⟨c,v,e1,e2,h⟩:=ZZ hs h;obtain⟨c,e2,h⟩:=ZDU e2 h;obtain⟨n,U,h⟩:=Zb h;rw[<-B]at U;split at h
    . simp only[VR]at e2;obtain⟨ha,rfl⟩:=e2;exact Yl.of (λ_ _ _=>ZMC U e1) (by simp only[VR];exact⟨ha,trivial⟩) h
    . simp only[VR]at e2;obtain⟨b,q,cs,rfl,e3⟩:=e2;exact Yl.of (λ_ _ _=>ZMC U e1) (by simp only[VR];exact⟨b,q,cs,by rw[Su],e3⟩) h
    . simp only[VR]at e2;obtain⟨e3,b,q,e4,rfl⟩:=e2;exact Yl.of (λ_ _ _=>ZMC U e1) (by simp only[VR];exact⟨e3,b,q,e4,by rw[Su]⟩) h
    . cases h
  . obtain⟨c,v,e1,e2,h⟩:=ZZ hs h;obtain⟨c,e2,h⟩:=ZDU e2 h;split at h
    . simp only[VR]at e2;obtain⟨ha,rfl⟩:=e2;exact ZS1 B (Q rfl) hs e1 h
    . simp only[VR]at e2;obtain⟨b,q,cs,rfl,_,e3,e4⟩:=e2;exact ZS2 B (Q rfl) hs.H e1 e3 e4 h
    . simp only[VR]at e2;exact ZS0 B (Q rfl) hs e1 e2 h
    . cases h
  . obtain⟨c1,v1,e1,e2,h⟩:=ZDR hs h;obtain⟨c2,v2,C,A,h⟩:=ZDR hs h;obtain⟨_,h⟩:=ZC h;exact Yl.of (λ_ _ _=>ZNE e1 C) (by simp only[VR];exact⟨_,_,rfl,e2,A⟩) h
  . obtain ⟨c,v,e1,e2,h⟩:=ZZ hs h;obtain⟨d,w,C,A,h⟩:=ZZ hs h;split at h
    . obtain⟨G,h⟩:=ZC h;obtain⟨e,g,p,f⟩:=QB G;rw[<-B]at p f;obtain⟨n,W,rfl,h⟩:=WH A h;obtain⟨y,Y,h⟩:=Zh h;simp only[VR]at e2;obtain⟨b,q,cs,J,Z,hl,hc⟩:=IsSlice.elem e2 Y;exact Yl.of (λ_ _ _=>QS p f e1 C J) (by simp only[VR];exact⟨b,q,cs,rfl,hl,Z,hc⟩) h
    . obtain⟨G,h⟩:=ZC h;obtain⟨e,g,p,f⟩:=QB G;rw[<-B]at p f;obtain⟨n,W,rfl,h⟩:=WH A h;obtain⟨y,Y,h⟩:=Zh h;simp only[VR]at e2;obtain⟨b,q,cs,J,Z,hl,hc⟩:=IsSlice.elem e2.1 Y;exact Yl.of (λ_ _ _=>QS p f e1 C J) (by simp only[VR];exact⟨b,q,cs,rfl,hl,Z,hc⟩) h
    . rename_i t j g0 _;split at h
      . rename_i u E m e;obtain⟨G,h⟩:=ZC h;simp only[TD]at G;have:=Vk G.1;subst this;obtain⟨e',g,p,f⟩:=QB G.2;rw[<-B]at p f;obtain⟨n,W,rfl,h⟩:=WH A h;obtain⟨hn,h⟩:=ZI h;obtain⟨D,F⟩:=(hs.rw _ _ e).resolve_left (by simp);have F:RowOf I.H (RT t) 0 E (szY t) _ m _:=F;simp only[VR]at e2;obtain⟨e4,nn,L,⟨a1,c1,K⟩,hg0,hg1⟩:=e2;obtain⟨a2,c2,ev2,_⟩:=F.len;have hnn:nn=m.length:=(by rw[ev2]at K;simp only[Value.slice.injEq]at K;exact K.2.1.symm);subst hnn;have O:(g0+n).toNat<m.length:=(by omega);obtain⟨b,q,_,_,_,J,_⟩:=RowOf.elem F (i:=g0+n) (y:=m[(g0+n).toNat]'O) ⟨by omega,TL O⟩;exact Yl.of (λ_ _ _=>QS p f e1 C<|ElemAt.sub L J (by omega) ⟨hn.1,by omega⟩) (by simp only[VR];exact⟨e4,b,q,J,rfl⟩) h
      . cases h
    . rename_i j o0 n h0;clear h0;simp only[VR]at e2;obtain⟨e4,rfl⟩:=e2;split at h
      . rename_i i;simp only[VR]at A;subst A;split at h
        . rename_i e p;split at h
          . rename_i g f;cases i with
            |negSucc q=>cases h
            | ofNat q=>
              obtain⟨D,h⟩:=ZC<|show bb (Nat.blt q n) (k<|.ptr j (o0+q)) none=some r from h
              rw[<-B]at p f;exact Yl.of (λ_ _ _=>QS (b:=(I.ν j).1) (o:=o0+q) p f e1 C ⟨Int.natCast_nonneg _,o0,n,n,rfl,by simp,by simpa using D⟩) (by simp only[VR];exact⟨e4,trivial⟩) h
          . cases h
        . cases h
      . rename_i cc i;simp only[VR]at A;obtain⟨_,_,rfl⟩:=A;split at h
        . rename_i e p;split at h
          . rename_i g f;obtain⟨D,h⟩:=ZC h;rw[<-B]at p f;exact Yl.of (λ_ _ _=>QS (b:=(I.ν j).1) (o:=o0+i) p f e1 C ⟨Int.natCast_nonneg _,o0,n,n,rfl,by simp,by simpa using D⟩) (by simp only[VR];exact⟨e4,trivial⟩) h
          . cases h
        . cases h
      . cases h
    . split at h
      . rename_i t E m e;obtain⟨G,h⟩:=ZC h;obtain⟨e',g,p,f⟩:=QB G;rw[<-B]at p f;obtain⟨n,W,rfl,h⟩:=WH A h;obtain⟨hn,h⟩:=ZI h;obtain⟨D,F⟩:=(hs.rw _ _ e).resolve_left (by simp);have F:RowOf I.H (RT t) 0 E (szY t) _ m _:=F;simp only[VR]at e2;obtain⟨e4,rfl,_⟩:=e2;obtain⟨ao,cap,ev,h0,_⟩:=F.len;obtain⟨b,q,_,_,_,J,_⟩:=RowOf.elem F (i:=n) (y:=m[n.toNat]'hn.2) ⟨hn.1,TL hn.2⟩;exact Yl.of (λ_ _ _=>QS p f e1 C J) (by simp only[VR];exact⟨e4,b,q,J,rfl⟩) h
      . cases h
    . split at h
      . rename_i a o n;simp only[VR]at e2 A;obtain⟨e4,rfl⟩:=e2;subst A;unfold ixA at h;split at h
        . rename_i m e p;split at h
          . rename_i g sz f;rw[<-B]at p f;cases n with
            |negSucc j=>cases h
            | ofNat j=>
              obtain⟨D,h⟩:=ZC<|show bb (Nat.blt j m) _ none=some r from h
              exact Yl.of (λ_ _ _=>R.ixA j p f e1 C D) (by simp only[VR];exact⟨e4,trivial⟩) h
          . cases h
        . cases h
      . cases h
    . cases h
  . rename_i T ps;obtain⟨cs,vs,e1,e2,e3,h⟩:=ZHc hs h;obtain⟨z,m,hz,hm,h⟩:=ZNL (I:=I) h;obtain⟨pl,V,h⟩:=Zb h;obtain⟨G,h⟩:=ZC h;obtain⟨D,ws,F,h⟩:=ZJM e2 e3 hm G h;rw[<-B]at hz V;split at V
    . exact Yl.of (λ_ _ _=>R_bldA hz V e1 D rfl) (by simp only[VR];exact⟨_,rfl,F⟩) h
    . exact Yl.of (λ_ _ _=>ZKa hz V e1 D rfl) (by simp only[VR];exact⟨_,rfl,F⟩) h
  . exact ZRe B hs h
  . obtain⟨c,v,e1,e2,h⟩:=ZZ hs h;exact ZQy B hs e1 e2 h
  . obtain⟨c,v,e1,e2,h⟩:=ZZ hs h;split at h
    . simp only[VR]at e2;exact ZNT B e1 e2 h
    . simp only[VR]at e2;exact ZNT B e1 e2.1 h
    . rename_i a o n;simp only[VR]at e2;obtain⟨e4,rfl⟩:=e2;split at h
      . rename_i N e p;obtain⟨D,h⟩:=ZC h;rw[<-B]at p;exact Yl.of (λ_ _ _=>ZTN p e1 D) (by simp only[VR];exact⟨e4,trivial⟩) h
      . cases h
    . cases h
  . cases h
end
def entA (a:Nat):List CV->Nat->List ((Nat×Nat)×CV)->List ((Nat×Nat)×CV)
 |[],_,m=>m
 |c::l,o,m=>entA a l (o+1) (((a,o),c)::m)
theorem BR{β:Type}(a:Nat):∀(l:List CV) (o:Nat) (m:List ((Nat×Nat)×CV)) (k:List ((Nat×Nat)×CV)->Option β),ZH0 a l o m k=k (entA a l o m)
 |[],o,m,k=>rfl
 |c::l,o,m,k=>BR a l (o+1) (((a,o),c)::m) k
theorem WQ (a:Nat):∀(l:List CV) (o:Nat) (m:List ((Nat×Nat)×CV)),∃n,entA a l o m=n++m
  |[],o,m=>⟨[],rfl⟩
  | c::l,o,m=>by
    obtain⟨n,e⟩:=WQ a l (o+1) (((a,o),c)::m);exact⟨n++ [((a,o),c)],by rw[entA,e];simp⟩
theorem JO (a:Nat):∀(l:List CV) (o:Nat) (m:List ((Nat×Nat)×CV)) (b j:Nat),lkO (entA a l o m) b j=if b=a/\o<=j/\j<o+l.length then l[j-o]? else lkO m b j
  |[],o,m,b,j=>by rw[entA,TK (by rintro⟨_,h1,h2⟩;simp at h2;omega)]
  | c ::l,o,m,b,j=>by
    rw[entA,JO a l (o+1) _ b j];by_cases h:b=a/\o+1<=j/\j<o+1+l.length
    . rw[TJ h,TJ ⟨h.1,by omega,by simp;omega⟩,show j-o=(j-(o+1))+1 by omega];simp
    . rw[TK h,DZ];by_cases h2:b=a/\j=o
      . obtain⟨rfl,rfl⟩:=h2;rw[TJ rfl,TJ ⟨rfl,by omega,by simp⟩];simp
      . rw[TK (by simp only[Si];intro e;exact h2 ⟨e.1.symm,e.2.symm⟩),TK];rintro⟨rfl,e1,e2⟩;simp only[Ts]at e2;by_cases q:j=o
        . exact h2 ⟨rfl,q⟩
        . exact h ⟨rfl,by omega,by omega⟩
section
variable{x:Cx}{ops:Array Oper}{Q:Exit->Act->World->Prop}{rest:List Oper}{l:Slots}{own own':List Own}{H:Heaplet}
theorem hperm{a:Act}{w:World}(h:Holds x l own H a w)(b:own.flatten.Perm own'.flatten):Holds x l own' H a w:=⟨h.size,h.ds,h.slots,h.mem.perm b⟩
theorem hsubl{a:Act}{w:World}(h:Holds x l own H a w)(b:own'.flatten.Sublist own.flatten):Holds x l own' H a w:=⟨h.size,h.ds,h.slots,h.mem.sub b⟩
theorem VJ{K:Own}(h:JL x ops Q rest l (own++ [K]) H):JL x ops Q rest l (K::own) H:=λa w b=>
 h a w (hperm b<|by simpa using Tc)
end
section
variable{β:Type}{r:β}{x:Cx}{X:Env}{s:PS}{I:In}{seg:Nat->Own}{l:Slots}{own:List Own}{H:Heaplet}
variable{ops:Array Oper}{Q:Exit->Act->World->Prop}{rest:List Oper}
def Sg (s s':PS)(seg seg':Nat->Own):Prop:=∀a,a<s.n->(∀p∈newL s'.o s.o,p.1.1≠a)->(∀p∈newL s'.r s.r,p.1≠a)->seg' a=seg a
theorem YM{α:Type}(m l:List α):newL (m++l) l=m:=by unfold newL;rw[TG,Nat.add_sub_cancel,T6]
theorem OI (s:PS)(seg:Nat->Own):Sg s s seg seg:=λ_ _ _ _=>rfl
theorem Sg.trans{s t u:PS}{g e f:Nat->Own}(e1:Ext s t)(e2:Ext t u)(h:Sg s t g e)(k:Sg t u e f):Sg s u g f:=λa i c d=>by
 obtain⟨q,j⟩:=e1.o;obtain⟨v,l⟩:=e2.o;obtain⟨x,w⟩:=e1.r;obtain⟨y,m⟩:=e2.r;have z:newL u.o s.o=v++q:=by rw[l,j,<-TE];exact YM _ _
 have A:newL u.r s.r=y++x:=by rw[m,w,<-TE];exact YM _ _
 rw[z]at c;rw[A]at d;rw[k a (Tj i e1.n) (λp b=>c p (by rw[l,YM]at b;simp[b])) λp b=>d p (by rw[m,YM]at b;simp[b])];exact h a i (λp b=>c p (by rw[j,YM]at b;simp[b])) λp b=>d p (by rw[w,YM]at b;simp[b])
theorem Sg.of{s s':PS}{seg seg':Nat->Own}(h:∀a,a<s.n->seg' a=seg a):Sg s s' seg seg':=λa b _ _=>h a b
theorem In.Le.trans{I J K:In}(h:I.Le J)(k:J.Le K):I.Le K:=⟨h.H.trans k.H,TS h.n k.n,λa b=>by rw[k.ν a<|Tj b h.n,h.ν a b],TS h.q k.q,λa b=>by rw[k.κ a<|Tj b h.q,h.κ a b]⟩
def lput (d:Option Nat)(v:Value)(l:Slots):Slots:=match d with|some d=>(d,v)::l|none=>l
structure Go (s:PS) (I:In) (seg:Nat->Own) (H:Heaplet) (s':PS) (I':In) (seg':Nat->Own) (H':Heaplet):Prop where
  e:Ext s s'
  g:Sg s s' seg seg'
  H:Hle H H'
  I:I.Le I'
theorem Go.refl (s:PS)(I:In)(seg:Nat->Own)(H:Heaplet):Go s I seg H s I seg H:=⟨Pf _,OI _ _,Rz _,In.Le.refl _⟩
theorem Go.trans{s1 s2 s:PS}{a b I3:In}{c d f:Nat->Own}{H1 H2 i:Heaplet}(h:Go s1 a c H1 s2 b d H2)(k:Go s2 b d H2 s I3 f i):Go s1 a c H1 s I3 f i:=
 ⟨h.e.trans k.e,Sg.trans h.e k.e h.g k.g,h.H.trans k.H,h.I.trans k.I⟩
theorem Go.st (s:PS)(I:In)(seg:Nat->Own)(H:Heaplet)(d:Nat)(c:CV):Go s I seg H (s.st d c) I seg H:=⟨Ext.st _ _ _,OI _ _,Rz _,In.Le.refl _⟩
def Knt (x:Cx)(ops:Array Oper)(Q:Exit->Act->World->Prop)(rest:List Oper)(s:PS)(I:In)(seg:Nat->Own)(l:Slots)(H:Heaplet)(d:Option Nat)(k:PS->Option β)(r:β):Prop:=
 ∀s' b seg' v own' a,Go s I seg H s' b seg' a->k s'=some r->RS x s' b seg' (lput d v l) own' a->JL x ops Q rest (lput d v l) own' a
theorem Knt.go{s':PS}{a:In}{seg':Nat->Own}{b:Heaplet}{d:Option Nat}{k:PS->Option β}(h:Knt x ops Q rest s I seg l H d k r)(g:Go s I seg H s' a seg' b):Knt x ops Q rest s' a seg' l b d k r:=
 λt J sg v o h2 c e hs=>h t J sg v o h2 (g.trans c) e hs
theorem ZJR{d:Nat}{op:Op}{ty:TypeId}{pos:String}{aft:Array Edge}{k:PS->Option β}(hs:RS x s I seg l own H)(hn:noDefer op=true)(h:Yl x I op ty l (AtM own H) (λc=>s.put d c k) r)(a:Knt x ops Q rest s I seg l H (some d) k r):
 JL x ops Q (⟨some d,op,ty,pos,aft,none⟩::rest) l own H:=by
 obtain⟨c,v,h1,h2,h3⟩:=h;obtain⟨b,e⟩:=YZ h3;exact ZA (by rw[<-hs.N];exact b) hn (h1 _ _ ⟨rfl,rfl⟩)<|a _ _ _ _ _ _ (Go.st _ _ _ _ _ _) e<|hs.put h2
theorem RS.le (hs:RS x s I seg l own H){d:Heaplet}(h:Hle H d):RS x s {I with H:=d} seg l own d:=by
 have b:I.Le {I with H:=d}:=⟨by rw[hs.H];exact h,TF _,λ_ _=>rfl,TF _,λ_ _=>rfl⟩;refine⟨hs.N,rfl,hs.n,hs.q,hs.own,λt c e=> ?_,hs.ze,λa o c e=> ?_,hs.fx,λk c e=> ?_,hs.rz,hs.ro⟩
 . exact(hs.sl t c e).imp id fun⟨v,h1,h2⟩=>⟨v,h1,h2.mono b⟩
 . exact(hs.ce a o c e).imp id fun⟨h1,cur,T,v,h2,h3,f⟩=>⟨h1,cur,T,v,h2,h3,f.mono b⟩
 . exact(hs.rw k c e).imp id fun⟨h1,h2⟩=>⟨h1,h2.mono (by rw[hs.H];exact h)⟩
def upN{α:Type}(f:Nat->α)(i:Nat)(y:α):Nat->α:=λj=>if j=i then y else f j
theorem Zl{α:Type}(f:Nat->α)(i:Nat)(y:α):upN f i y i=y:=TJ rfl
theorem Zg{α:Type}{f:Nat->α}{i j:Nat}{y:α}(h:j≠i):upN f i y j=f j:=TK h
theorem RS.new (hs:RS x s I seg l own H){m:List CV}{cs:Array Value}{T b:Nat}(u:VRs I m cs.toList):
 RS x ⟨s.N,s.l,entA s.n m 0 s.o,(s.n,m.length)::s.z,s.n+1,s.f,s.c,s.r⟩ {I with ν:=upN I.ν s.n (b,.nilIface),n:=s.n+1} (upN seg s.n [(b,.cells cs T (0,0))]) l (own++ [[(b,.cells cs T (0,0))]]) H:=by
 have i:I.Le {I with ν:=upN I.ν s.n (b,.nilIface),n:=s.n+1}:=⟨Rz _,by show I.n<=s.n+1;rw[hs.n];omega,λk w=>Zg (by rw[hs.n]at w;omega),TF _,λ_ _=>rfl⟩;refine⟨hs.N,hs.H,rfl,hs.q,?_,λt c e=> ?_,λa k e=> ?_,λa o c e=> ?_,hs.fx,λk c e=> ?_,λk c e=> ?_,λk c j d e e2=> ?_⟩
 . rw[hs.own,List.range_succ,SJ];congr 1
   . refine St λj y=>(Zg ?_).symm;have:=Tx.1 y;omega
   . simp[Zl]
 . exact(hs.sl t c e).imp id fun⟨v,h1,h2⟩=>⟨v,h1,h2.mono i⟩
 . change ZK ((s.n,m.length)::s.z) a=some k at e;rw[ZH]at e;by_cases q:s.n=a
   . subst q;rw[TJ rfl]at e;cases e;exact⟨SD _,cs,T,by rw[Zl];show _= [((upN I.ν s.n (b,.nilIface) s.n).1,_)];rw[Zl],by rw[<-TM,<-u.length]⟩
   . rw[TK q]at e;obtain⟨h1,cur,p,h2,h3⟩:=hs.ze a k e;exact⟨SV h1,cur,p,by rw[Zg<|Ne.symm q];show _= [((upN I.ν s.n (b,.nilIface) a).1,_)];rw[Zg<|Ne.symm q];exact h2,h3⟩
 . change lkO (entA s.n m 0 s.o) a o=some c at e;rw[JO]at e;split at e
   . rename_i A;obtain⟨rfl,-,h2⟩:=A;obtain⟨v,B,C⟩:=u.get (by simpa using e);exact .inr ⟨SD _,cs,T,v,by rw[Zl];show _= [((upN I.ν s.n (b,.nilIface) s.n).1,_)];rw[Zl],B,C.mono i⟩
   . rcases hs.ce a o c e with h|⟨h1,cur,p,v,h2,h3,D⟩
     . exact .inl h
     . have g:a≠s.n:=(by omega);exact .inr ⟨SV h1,cur,p,v,by rw[Zg g];show _= [((upN I.ν s.n (b,.nilIface) a).1,_)];rw[Zg g];exact h2,h3,D.mono i⟩
 . rcases hs.rw k c e with h|⟨h1,h2⟩
   . exact .inl h
   have g:k≠s.n:=(by omega);exact .inr ⟨SV h1,by show RwOk I.H (upN I.ν s.n (b,.nilIface) k).2 (upN seg s.n _ k) c;rw[Zg g,Zg g];exact h2⟩
 . rcases hs.rw k c e with h|⟨h1,_⟩
   . exact .inl h
   have g:s.n≠k:=(by omega);show c=.dead\/ZK ((s.n,m.length)::s.z) k=none;rw[ZH,TK g];exact hs.rz k c e
 . rcases hs.rw k c e with h|⟨h1,_⟩
   . exact .inl h
   change lkO (entA s.n m 0 s.o) k j=some d at e2;rw[JO,TK<|by omega]at e2;exact hs.ro k c j d e e2
theorem Ext.new (s:PS)(m:List CV)(d:Nat):Ext s (PS.st ⟨s.N,s.l,entA s.n m 0 s.o,(s.n,m.length)::s.z,s.n+1,s.f,s.c,s.r⟩ d<|.ptr s.n 0):=
 ⟨rfl,⟨[(d,.ptr s.n 0)],rfl⟩,WQ _ _ _ _,⟨[(s.n,m.length)],rfl,by simp⟩,RJ _,⟨[],rfl⟩,TF _,⟨[],rfl⟩⟩
theorem ZLC{d:Nat}{m:List CV}{k:PS->Option β}(h:s.new d m k=some r):Nat.blt d s.N=true/\k (PS.st ⟨s.N,s.l,entA s.n m 0 s.o,(s.n,m.length)::s.z,s.n+1,s.f,s.c,s.r⟩ d<|.ptr s.n 0)=some r:=by
 have h:ZH0 s.n m 0 s.o (λo=>PS.put ⟨s.N,s.l,o,(s.n,m.length)::s.z,Nat.succ s.n,s.f,s.c,s.r⟩ d (.ptr s.n 0) k)=some r:=h;rw[BR]at h;exact YZ h
theorem RS.sto (hs:RS x s I seg l own H){a o m:Nat}{c:List CV}{cs:List Value}{cur:Array Value}{T:TypeId}(B:ZK s.z a=some m)(F:VRs I c cs)(O:o+c.length<=m)(p:seg a= [((I.ν a).1,.cells cur T (0,0))])(u:cur.size=m):
    RS x ⟨s.N,s.l,entA a c o s.o,s.z,s.n,s.f,s.c,s.r⟩ I (upN seg a [((I.ν a).1,.cells (cur.toList.take o++cs++cur.toList.drop (o+cs.length)).toArray T (0,0))]) l (own.set a [((I.ν a).1,.cells (cur.toList.take o++cs++cur.toList.drop (o+cs.length)).toArray T (0,0))]) H:=by
  have P:=F.length;have y:(cur.toList.take o++cs++cur.toList.drop (o+cs.length)).length=m:=by simp;omega
  have C:=(hs.ze a m B).1;refine⟨hs.N,hs.H,hs.n,hs.q,?_,hs.sl,λb k e=> ?_,λb j v e=> ?_,hs.fx,λk c e=> ?_,hs.rz,λk Q j d e e2=> ?_⟩
  . rw [hs.own];apply Tl;intro j;rw[T3];by_cases q:a=j
    . subst q;simp[C,Zl]
    . rw [TK q];simp only[SN];cases A:(List.range s.n)[j]? with
      |none=>rfl
      | some i=>
        have:i=j:=by
          have:=TC.1 A;obtain⟨h1,h2⟩:=this;simpa using h2.symm
        subst this;simp[Zg<|Ne.symm q]
  . obtain⟨h1,g,D,h2,h3⟩:=hs.ze b k e;by_cases q:b=a
    . subst q;rw[p]at h2;cases h2;exact⟨h1,_,T,Zl _ _ _,by rw[Tm,y,<-u,h3]⟩
    . exact⟨h1,g,D,by rw[Zg q];exact h2,h3⟩
  . change lkO (entA a c o s.o) b j=some v at e;rw[JO]at e;split at e
    . rename_i E;obtain⟨rfl,h1,h2⟩:=E;obtain⟨w,J,K⟩:=F.get e;refine .inr ⟨C,_,T,w,Zl _ _ _,?_,K⟩;rw[Tf,TE,Sc (by simp;omega),SH (by simp;omega)];rw[show j-(cur.toList.take o).length=j-o by simp;omega];exact J
    . rename_i E;rcases hs.ce b j v e with h|⟨h1,g,D,w,h2,h3,G⟩
      . exact .inl h
      . right;by_cases q:b=a
        . subst q;rw[p]at h2;cases h2;refine⟨C,_,T,w,Zl _ _ _,?_,G⟩;rw[Tf];have A:=(TC.1 h3).1;by_cases L:j<o
          . rw[TE,SH (by simp at A|-;omega),TX,TJ L];exact h3
          . have R:o+cs.length<=j:=by
              by_cases M:j<o+c.length
              . exact absurd ⟨rfl,by omega,M⟩ E
              . omega
            rw[Sc (by simp;omega),SF];simp only[TG,TH];rw[show o+cs.length+(j-(min o cur.toList.length+cs.length))=j by simp at A;simp;omega];exact h3
        . exact⟨h1,g,D,w,by rw[Zg q];exact h2,h3,G⟩
  . rcases hs.rw k c e with h|⟨h1,h2⟩
    . exact .inl h
    rcases hs.rz k c e with h|h3
    . exact .inl h
    have t:k≠a:=λq=>(by subst q;rw[B]at h3;cases h3);exact .inr ⟨h1,by rw[Zg t];exact h2⟩
  . rcases hs.rz k _ e with h|h3
    . exact .inl h
    have t:k≠a:=λq=>(by subst q;rw[B]at h3;cases h3);rw[show lkO (entA a c o s.o) k j=lkO s.o k j by rw[JO,TK λq=>t q.1]]at e2;exact hs.ro k _ j d e e2
theorem ZMe (hs:RS x s I seg l own H)(v:Value):I.Le {I with ν:=upN I.ν s.n (0,v),n:=s.n+1}:=⟨Rz _,by show I.n<=s.n+1;rw[hs.n];omega,λk h=>Zg (by rw[hs.n]at h;omega),TF _,λ_ _=>rfl⟩
theorem RS.newRC (hs:RS x s I seg l own H){rc:RC}{v:Value}{K:Own}(i:RwOk H v K rc):
 RS x ⟨s.N,s.l,s.o,s.z,s.n+1,s.f,s.c,(s.n,rc)::s.r⟩ {I with ν:=upN I.ν s.n (0,v),n:=s.n+1} (upN seg s.n K) l (own++ [K]) H:=by
 have g:=ZMe hs v;refine⟨hs.N,hs.H,rfl,hs.q,?_,λt c e=> ?_,λa k e=> ?_,λa o c e=> ?_,hs.fx,λk c e=> ?_,λk c e=> ?_,λk c j d e e2=> ?_⟩
 . rw[hs.own,List.range_succ,SJ];congr 1
   . refine St λj m=>(Zg ?_).symm;have:=Tx.1 m;omega
   . simp[Zl]
 . exact(hs.sl t c e).imp id fun⟨v,h1,h2⟩=>⟨v,h1,h2.mono g⟩
 . obtain⟨h1,cur,T,h2,h3⟩:=hs.ze a k e;have b:a≠s.n:=(by omega);exact⟨SV h1,cur,T,by rw[Zg b];show _= [((upN I.ν s.n (0,v) a).1,_)];rw[Zg b];exact h2,h3⟩
 . rcases hs.ce a o c e with h|⟨h1,cur,T,u,h2,h3,p⟩
   . exact .inl h
   . have b:a≠s.n:=(by omega);exact .inr ⟨SV h1,cur,T,u,by rw[Zg b];show _= [((upN I.ν s.n (0,v) a).1,_)];rw[Zg b];exact h2,h3,p.mono g⟩
 . change ZK ((s.n,rc)::s.r) k=some c at e;rw[ZH]at e;by_cases q:s.n=k
   . subst q;rw[TJ rfl]at e;cases e;refine .inr ⟨SD _,?_⟩;show RwOk I.H (upN I.ν s.n (0,v) s.n).2 (upN seg s.n K s.n) _;rw[Zl,Zl,hs.H];exact i
   . rw[TK q]at e;rcases hs.rw k c e with h|⟨h1,h2⟩
     . exact .inl h
     . refine .inr ⟨SV h1,?_⟩;show RwOk I.H (upN I.ν s.n (0,v) k).2 (upN seg s.n K k) c;rw[Zg<|Ne.symm q,Zg<|Ne.symm q];exact h2
 . change ZK ((s.n,rc)::s.r) k=some c at e;rw[ZH]at e;by_cases q:s.n=k
   . subst q
     right;show ZK s.z s.n=none;cases w:ZK s.z s.n with
     |none=>rfl
     |some a=>have:=(hs.ze _ _ w).1;omega
   . rw[TK q]at e;exact hs.rz k c e
 . change ZK ((s.n,rc)::s.r) k=some c at e;rw[ZH]at e;by_cases q:s.n=k
   . subst q;rcases hs.ce _ _ _ e2 with h|⟨h1,_⟩
     . exact .inr h
     . exact absurd h1<|Nat.lt_irrefl _
   . rw[TK q]at e;exact hs.ro k c j d e e2
theorem RS.newRow (hs:RS x s I seg l own H){t:Ty}{E:Nat}{m:List (den t)}{v:Value}{K:Own}(h:RowOf H (RT t) 0 E (szY t) v m K):
 RS x ⟨s.N,s.l,s.o,s.z,s.n+1,s.f,s.c,(s.n,.own t E m)::s.r⟩ {I with ν:=upN I.ν s.n (0,v),n:=s.n+1} (upN seg s.n K) l (own++ [K]) H:=hs.newRC (rc:=.own t E m) h
theorem RS.setRow (hs:RS x s I seg l own H){k:Nat}{c0 c:RC}(g:ZK s.r k=some c0)(h0:c0≠.dead){K:Own}(w:RwOk I.H (I.ν k).2 K c):
    RS x ⟨s.N,s.l,s.o,s.z,s.n,s.f,s.c,(k,c)::s.r⟩ I (upN seg k K) l (own.set k K) H:=by
  have t:ZK s.z k=none:=(hs.rz k c0 g).resolve_left h0;have b:k<s.n:=((hs.rw k c0 g).resolve_left h0).1;refine⟨hs.N,hs.H,hs.n,hs.q,?_,hs.sl,λa m e=> ?_,λa o v e=> ?_,hs.fx,λj d e=> ?_,λj d e=> ?_,λj d o f e e2=> ?_⟩
  . rw [hs.own];apply Tl;intro j;rw[T3];by_cases q:k=j
    . subst q;simp[b,Zl]
    . rw [TK q];simp only[SN];cases y:(List.range s.n)[j]? with
      |none=>rfl
      | some i=>
        have:i=j:=by
          obtain⟨h1,h2⟩:=TC.1 y;simpa using h2.symm
        subst this;simp[Zg<|Ne.symm q]
  . have p:a≠k:=λq=>(by subst q;rw[t]at e;cases e);obtain⟨h1,cur,T,h2,h3⟩:=hs.ze a m e;exact⟨h1,cur,T,by rw[Zg p];exact h2,h3⟩
  . rcases hs.ce a o v e with h|⟨h1,cur,T,u,h2,h3,A⟩
    . exact .inl h
    . by_cases q:a=k
      . subst q;exact .inl<|(hs.ro _ _ _ _ g e).resolve_left h0
      . exact .inr ⟨h1,cur,T,u,by rw[Zg q];exact h2,h3,A⟩
  . change ZK ((k,c)::s.r) j=some d at e;rw[ZH]at e;by_cases q:k=j
    . subst q;rw[TJ rfl]at e;cases e;exact .inr ⟨b,by rw[Zl];exact w⟩
    . rw[TK q]at e;exact(hs.rw j d e).imp id fun⟨h1,h2⟩=>⟨h1,by rw[Zg<|Ne.symm q];exact h2⟩
  . change ZK ((k,c)::s.r) j=some d at e;rw[ZH]at e;by_cases q:k=j
    . subst q;exact .inr t
    . rw[TK q]at e;exact hs.rz j d e
  . change ZK ((k,c)::s.r) j=some d at e;rw[ZH]at e;by_cases q:k=j
    . subst q;exact .inr<|(hs.ro _ _ _ _ g e2).resolve_left h0
    . rw[TK q]at e;exact hs.ro j d o f e e2
end
noncomputable def pubS:List Nat->PS->PS
 |[],s=>s
 |j::js,s=>match ZK s.r j with|some (.own t _ m)=>pubS js ⟨s.N,s.l,s.o,s.z,s.n,s.f,s.c,(j,.pub t m)::s.r⟩|some (.mrk _ m)=>pubS js ⟨s.N,s.l,s.o,s.z,s.n,s.f,s.c,(j,.pub .w8 m)::s.r⟩|_=>pubS js s
theorem Vu{β:Type}:∀(js:List Nat) (s:PS) (k:PS->Option β),U4 js s k=k (pubS js s)
  |[],s,k=>rfl
  | j::js,s,k=>by
    show(match ZK s.r j with|some (.own t _ m)=>U4 js ⟨s.N,s.l,s.o,s.z,s.n,s.f,s.c,(j,.pub t m)::s.r⟩ k|some (.mrk _ m)=>U4 js ⟨s.N,s.l,s.o,s.z,s.n,s.f,s.c,(j,.pub .w8 m)::s.r⟩ k|_=>U4 js s k)=_;rw[pubS];split
    . exact Vu js _ k
    . exact Vu js _ k
    . exact Vu js s k
structure SameB (s t:PS):Prop where
  N:t.N=s.N
  l:t.l=s.l
  o:t.o=s.o
  z:t.z=s.z
  n:t.n=s.n
  f:t.f=s.f
  c:t.c=s.c
theorem Yo:∀(js:List Nat) (s:PS),SameB s (pubS js s)
  |[],s=>⟨rfl,rfl,rfl,rfl,rfl,rfl,rfl⟩
  | j ::js,s=>by
    rw[pubS];split
    . rename_i t E m e;have h:=Yo js ⟨s.N,s.l,s.o,s.z,s.n,s.f,s.c,(j,.pub t m)::s.r⟩;exact⟨h.N,h.l,h.o,h.z,h.n,h.f,h.c⟩
    . rename_i E m e;have h:=Yo js ⟨s.N,s.l,s.o,s.z,s.n,s.f,s.c,(j,.pub .w8 m)::s.r⟩;exact⟨h.N,h.l,h.o,h.z,h.n,h.f,h.c⟩
    . exact Yo js s
theorem GI:∀{js:List Nat} {s:PS} {k:Nat},k∉js->ZK (pubS js s).r k=ZK s.r k
  |[],s,k,h=>rfl
  | j::js,s,k,h=>by
    have h1:j≠k:=λe=>h (by simp[e]);have h2:k∉js:=λe=>h (by simp[e]);rw[pubS];split
    . rw[GI h2];exact(ZH _ _ _).trans<|TK h1
    . rw[GI h2];exact(ZH _ _ _).trans<|TK h1
    . exact GI h2
theorem GH:∀{js:List Nat} {s:PS} {k:Nat} {t:Ty} {m:List (den t)},ZK s.r k=some (.pub t m)->ZK (pubS js s).r k=some (.pub t m)
  |[],s,k,t,m,h=>h
  | j ::js,s,k,t,m,h=>by
    rw[pubS];split
    . rename_i u E m' e;refine GH ?_;show ZK ((j,.pub _ _)::s.r) k=_;rw[ZH];by_cases q:j=k
      . subst q;rw[h]at e;cases e
      . rw[TK q];exact h
    . rename_i E m' e;refine GH ?_;show ZK ((j,.pub _ _)::s.r) k=_;rw[ZH];by_cases q:j=k
      . subst q;rw[h]at e;cases e
      . rw[TK q];exact h
    . exact GH h
theorem ZCz:∀{js:List Nat} {s:PS} {k:Nat} {t:Ty} {E:Nat} {m:List (den t)},k∈js->ZK s.r k=some (.own t E m)->ZK (pubS js s).r k=some (.pub t m)
  | j ::js,s,k,t,E,m,a,h=>by
    rw[pubS];by_cases q:j=k
    . subst q;rw[h];exact GH<|(ZH _ _ _).trans<|TJ rfl
    . have a:k∈js:=(Ta.1 a).resolve_left λe=>q e.symm;split
      . exact ZCz a<|(ZH _ _ _).trans (by rw[TK q];exact h)
      . exact ZCz a<|(ZH _ _ _).trans (by rw[TK q];exact h)
      . exact ZCz a h
theorem ZC0:∀{js:List Nat} {s:PS} {k E:Nat} {m:List UInt8},k∈js->ZK s.r k=some (.mrk E m)->ZK (pubS js s).r k=some (.pub .w8 m)
  | j ::js,s,k,E,m,a,h=>by
    rw[pubS];by_cases q:j=k
    . subst q;rw[h];exact GH (t:=.w8) ((ZH _ _ _).trans<|TJ rfl)
    . have a:k∈js:=(Ta.1 a).resolve_left λe=>q e.symm;split
      . exact ZC0 a<|(ZH _ _ _).trans (by rw[TK q];exact h)
      . exact ZC0 a<|(ZH _ _ _).trans (by rw[TK q];exact h)
      . exact ZC0 a h
section
variable{x:Cx}{l:Slots}
theorem ZSW{s:PS}{I:In}{seg:Nat->Own}{own:List Own}{H:Heaplet}(hs:RS x s I seg l own H){a:Heaplet}(h:Hle H a):I.Le {I with H:=a}:=⟨by rw[hs.H];exact h,TF _,λ_ _=>rfl,TF _,λ_ _=>rfl⟩
theorem Ext.row (s:PS)(k:Nat)(c:RC):Ext s ⟨s.N,s.l,s.o,s.z,s.n,s.f,s.c,(k,c)::s.r⟩:=⟨rfl,⟨[],rfl⟩,⟨[],rfl⟩,⟨[],rfl,by simp⟩,TF _,⟨[],rfl⟩,TF _,⟨[(k,c)],rfl⟩⟩
theorem Sg.setRow{s:PS}{k:Nat}{c:RC}{seg:Nat->Own}{K:Own}:Sg s ⟨s.N,s.l,s.o,s.z,s.n,s.f,s.c,(k,c)::s.r⟩ seg (upN seg k K):=λa _ _ h=>by
 refine Zg λe=>h (k,c) ?_ e.symm;show(k,c)∈newL ((k,c)::s.r) s.r;rw[show(k,c)::s.r= [(k,c)]++s.r from rfl,YM];simp
theorem UR{K:Act->World->Prop}{F:List Own}:∀{js:List Nat} {s:PS} {I:In} {seg:Nat->Own} {own:List Own} {H:Heaplet},RS x s I seg l own H->
    (∀seg' own' a,Go s I seg H (pubS js s) {I with H:=a} seg' a->RS x (pubS js s) {I with H:=a} seg' l own' a->JN x K l (own'++F) a)->JN x K l (own++F) H
  | [],s,I,seg,own,H,hs,b=>by
    have e:{I with H:=H}=I:=(by have:=hs.H;subst this;rfl);refine b seg own H ?_ ?_
    . rw[e];exact Go.refl _ _ _ _
    . rw[e];exact hs
  | j ::js,s,I,seg,own,H,hs,b=>by
    rw[pubS]at b;split at b
    . rename_i t E m e;obtain⟨h1,h2⟩:=(hs.rw _ _ e).resolve_left (by simp);have h2:RowOf I.H (RT t) 0 E (szY t) (I.ν j).2 m (seg j):=h2;rw[hs.H]at h2;have g:j<own.length:=(by rw[hs.own];simpa using h1);refine JN.pub0 j (RT.mono t) (by rw[SH g];exact YY hs h1) h2 λa h hsl=> ?_;rw[List.set_append_left _ _ g];refine UR ((hs.le h).setRow (c:=.pub t m) e (by simp) (K:=[]) hsl) λseg' own' d g' f=>b seg' own' d ?_ f;exact Go.trans ⟨Ext.row _ _ _,Sg.setRow,h,ZSW hs h⟩ g'
    . rename_i E m e;obtain⟨h1,h2⟩:=(hs.rw _ _ e).resolve_left (by simp);have h2:RowOfM I.H RU8 0 E 1 (I.ν j).2 m (seg j):=h2;rw[hs.H]at h2;have g:j<own.length:=(by rw[hs.own];simpa using h1);refine JN.pubM j RU8.mono (by rw[SH g];exact YY hs h1) h2 λa h hsl=> ?_;rw[List.set_append_left _ _ g];refine UR ((hs.le h).setRow (c:=.pub .w8 m) e (by simp) (K:=[]) hsl) λseg' own' d g' f=>b seg' own' d ?_ f;exact Go.trans ⟨Ext.row _ _ _,Sg.setRow,h,ZSW hs h⟩ g'
    . exact UR hs b
theorem Gs{K:Act->World->Prop}{js:List Nat}{s:PS}{I:In}{seg:Nat->Own}{own:List Own}{H:Heaplet}(hs:RS x s I seg l own H)
 (h:∀seg' own' a,Go s I seg H (pubS js s) {I with H:=a} seg' a->RS x (pubS js s) {I with H:=a} seg' l own' a->JN x K l own' a):JN x K l own H:=by
 have:=UR (F:=[]) hs (λseg' own' a g b=>by rw[Th];exact h seg' own' a g b);rwa[Th]at this
end
def VUs (I:In):List CV->List Value->Prop
 |[],vs=>vs= []
 |c::r,vs=>∃v us,vs=v::us/\(c=.unk\/VR I c v)/\VUs I r us
theorem VRs.vu{I:In}:∀{l:List CV} {vs:List Value},VRs I l vs->VUs I l vs
 |[],vs,h=>h.un0
 |c::r,vs,h=>by obtain⟨v,us,e,h1,h2⟩:=h.un;exact⟨v,us,e,.inr h1,h2.vu⟩
theorem VUs.length{I:In}:∀{l:List CV} {vs:List Value},VUs I l vs->l.length=vs.length
 |[],vs,h=>by cases h;rfl
 |c::r,vs,h=>by obtain⟨v,us,rfl,_,h2⟩:=h;simp[VUs.length h2]
theorem VUs.get{I:In}:∀{i:Nat} {l:List CV} {vs:List Value} {v:Value},VUs I l vs->vs[i]? =some v->∃c,l[i]? =some c/\(c=.unk\/VR I c v)
 |i,[],vs,v,h,e=>by cases h;simp at e
 |0,a::r,vs,v,h,e=>by obtain⟨w,us,rfl,h1,h2⟩:=h;simp at e;subst e;exact⟨a,rfl,h1⟩
 |i+1,a::r,vs,v,h,e=>by obtain⟨w,us,rfl,h1,h2⟩:=h;simpa using VUs.get h2 (by simpa using e)
theorem VUs.append{I:In}:∀{l m:List CV} {vs us:List Value},VUs I l vs->VUs I m us->VUs I (l++m) (vs++us)
 |[],m,vs,us,h,k=>by cases h;exact k
 |c::r,m,vs,us,h,k=>by obtain⟨v,ws,rfl,h1,h2⟩:=h;exact⟨v,ws++us,rfl,h1,VUs.append h2 k⟩
theorem VUs.split{I:In}:∀{l m:List CV} {vs:List Value},VUs I (l++m) vs->∃us ws,vs=us++ws/\us.length=l.length/\VUs I l us/\VUs I m ws
  |[],m,vs,h=>⟨[],vs,rfl,rfl,rfl,h⟩
  | c::r,m,vs,h=>by
    obtain⟨v,ws,rfl,h1,h2⟩:=(show∃v us,vs=v::us/\(c=.unk\/VR I c v)/\VUs I (r++m) us from h)
    obtain⟨us,ws,rfl,e,h3,a⟩:=VUs.split h2;exact⟨v::us,ws,rfl,by simp[e],⟨v,us,rfl,h1,h3⟩,a⟩
theorem P6{I:In}:∀{l:List CV} {vs:List Value},l.length=vs.length->(∀(i:Nat) (c:CV) (v:Value),l[i]? =some c->vs[i]? =some v->VR I c v)->VRs I l vs
 |[],[],h,k=>VRs.nil
 |c::l,v::vs,h,k=>VRs.cons (k 0 c v rfl rfl) (P6 (by simpa using h) λi a v' e1 e2=>k (i+1) a v' (by simpa using e1)<|by simpa using e2)
 |[],v::vs,h,k=>by cases h
 |c::l,[],h,k=>by cases h
def dcB (c:CV):Bool:=match c with| .i _=>true| .w8 _=>true| .w32 _=>true| .w64 _=>true| .b _=>true| .s _=>true| .sl _ _=>true|_=>false
theorem VR.dc{I J:In}(h:I.H=J.H){c:CV}{v:Value}(b:dcB c=true)(a:VR I c v):VR J c v:=by
 cases c<;>first|exact a|(cases b;done)|(simp only[VR]at a|-;rw[<-h];exact a)
theorem ZQx:∀(t:Ty) (y:den t),allB dcB (spC t y)=true:=λt=>by
  induction t with
  |st k=>intro y;cases k<;>rfl
  | pr a b i d=>
    intro y;refine Zd.2 λc e=> ?_;rcases TR.1 (show c∈spC a y.1++spC b y.2 from e)with h|h
    . exact Zd.1 (i _) c h
    . exact Zd.1 (d _) c h
  |_=>intro y;rfl
theorem ZSj (t:Ty)(y:den t):∀c∈spC t y,dcB c=true:=Zd.1<|ZQx t y
def InstW (g:Nat->Nat):List (Nat×Nat×Nat)->List CV->List CV->List (Nat×RC)->Prop
 |[],l,z,a=>z=l/\a= []
 |p::w,l,z,a=>∃t m r,l[p.1]? =some (.sl t m)/\InstW g w (setC l p.1<|.row<|g p.2.1) z r/\a=(g p.2.1,.own t p.2.2 m)::r
inductive InstL (g:Nat->Nat):List Pt->List HV->Nat->List CV->List HV->Nat->List (Nat×RC)->Prop
  |nil {hs c}:InstL g [] hs c [] hs c []
  |d {y w x l rs ps hs c cs hs' c' rs'}:InstW g w (spC y x) l rs->InstL g ps hs c cs hs' c' rs'->InstL g (.d y w::ps) (.d y x::hs) c (l++cs) hs' c' (rs++rs')
  |n {j ps hs c cs hs' c' rs}:InstL g ps hs (c+1) cs hs' c' rs->InstL g (.n::ps) (.n j::hs) c (.n c j::cs) hs' c' rs
  |rr {i ps hs c cs hs' c' rs}:InstL g ps hs c cs hs' c' rs->InstL g (.rr i::ps) hs c (.row (g i)::cs) hs' c' rs
  |ptr {i o ps hs c cs hs' c' rs}:InstL g ps hs c cs hs' c' rs->InstL g (.ptr i o::ps) hs c (.ptr (g i) o::cs) hs' c' rs
  |el {y o x ps hs c cs hs' c' rs}:InstL g ps hs c cs hs' c' rs->InstL g (.el y o::ps) (.d y x::hs) c (.el y x o::cs) hs' c' rs
  |oel {y x ps hs c cs hs' c' rs}:InstL g ps hs c cs hs' c' rs->InstL g (.oel y::ps) (.o y x::hs) c (.oel y x::cs) hs' c' rs
  |rel {y i o} {x:Int} {ps hs c cs hs' c' rs}:InstL g ps hs c cs hs' c' rs->InstL g (.rel y i o::ps) (.d .i x::hs) c (.rel y (g i) x o::cs) hs' c' rs
  |orel {y i} {x:Option Int} {ps hs c cs hs' c' rs}:InstL g ps hs c cs hs' c' rs->InstL g (.orel y i::ps) (.o .i x::hs) c (.orel y (g i) x::cs) hs' c' rs
  |cl {y} {x:List (den y)} {ps hs c cs hs' c' rs}:InstL g ps hs c cs hs' c' rs->InstL g (.cl y::ps) (.d (.sl y) x::hs) c (.cl y x::cs) hs' c' rs
  |rv {y i} {x:Int} {ps hs c cs hs' c' rs}:InstL g ps hs c cs hs' c' rs->InstL g (.rv y i::ps) (.d .i x::hs) c (.rv y (g i) x::cs) hs' c' rs
  |ag {n ps hs c cs hs' c' rs}:InstL g ps hs c cs hs' c' rs->n<=cs.length->InstL g (.ag n::ps) hs c (.ag (cs.take n)::cs.drop n) hs' c' rs
  |tu {n ps hs c cs hs' c' rs}:InstL g ps hs c cs hs' c' rs->n<=cs.length->InstL g (.tu n::ps) hs c (.tu (cs.take n)::cs.drop n) hs' c' rs
  |clo {f n m ps hs c cs hs' c' rs}:InstL g ps hs c cs hs' c' rs->n+m<=cs.length->InstL g (.clo f n m::ps) hs c (.clo f (cs.take n) ((cs.drop n).take m)::cs.drop (n+m)) hs' c' rs
  |c {v ps hs c cs hs' c' rs}:InstL g ps hs c cs hs' c' rs->InstL g (.c v::ps) hs c (v::cs) hs' c' rs
  |x {ps hs c cs hs' c' rs}:InstL g ps hs c cs hs' c' rs->InstL g (.x::ps) hs c (.any::cs) hs' c' rs
  |bor {y i E} {x:List (den y)} {ps hs c cs hs' c' rs}:InstL g ps hs c cs hs' c' rs->InstL g (.bor y i E::ps) (.d (.sl y) x::hs) c cs hs' c' ((g i,.own y E x)::rs)
inductive InstB (g:Nat->Nat):List Bp->Nat->List HV->Nat->List (Nat×List CV)->Nat->List (Nat×RC)->Prop
  |nil {i hs c}:InstB g [] i hs c [] c []
  |row {bs i hs c bl c' rs}:InstB g bs (i+1) hs c bl c' rs->InstB g (.row::bs) i hs c bl c' rs
  |cells {n ps bs i hs c cs hs1 c1 rs bl c' rs'}:InstL g ps hs c cs hs1 c1 rs->cs.length=n->InstB g bs (i+1) hs1 c1 bl c' rs'->InstB g (.cells n ps::bs) i hs c ((g i,cs)::bl) c' (rs++rs')
section
variable{β:Type}{r:β}
theorem ZL5{ρ:Rho}{b:Nat}:∀{w:List (Nat×Nat×Nat)} {l:List CV} {k:List CV->List (Nat×RC)->Option β},buW ρ b w l k=some r->∃z a,InstW (sg ρ b) w l z a/\k z a=some r
  |[],l,k,h=>⟨l,[],⟨rfl,rfl⟩,h⟩
  | p ::w,l,k,h=>by
    have h:(match l[p.1]? with|some (.sl t m)=>buW ρ b w (setC l p.1<|.row<|sg ρ b p.2.1) λl a=>k l ((sg ρ b p.2.1,.own t p.2.2 m)::a)|_=>none)=some r:=h;split at h
    . rename_i t m e;obtain⟨z,a,h1,h2⟩:=ZL5 h;exact⟨z,_,⟨t,m,a,e,h1,rfl⟩,h2⟩
    . cases h
theorem YT{ρ:Rho}{b:Nat}:∀{ps:List Pt} {hs:List HV} {c:Nat} {k:Bk β},buL ρ b ps hs c k=some r->∃cs a g i,InstL (sg ρ b) ps hs c cs a g i/\k cs a g i=some r
  |[],hs,c,k,h=>⟨[],hs,c,[],.nil,h⟩
  | p ::ps,hs,c,k,h=>by
    have h:buP ρ b p hs c (buL ρ b ps) k=some r:=h;unfold buP at h;split at h
    . split at h
      . obtain⟨e,h⟩:=Zp h;cases e;rw[Y7]at h;obtain⟨z,i,h1,h⟩:=ZL5 h;obtain⟨cs,a,g,f,h2,h⟩:=YT h;exact⟨_,_,_,_,.d h1 h2,h⟩
      . cases h
    . split at h
      . obtain⟨cs,a,g,f,h2,h⟩:=YT h;exact⟨_,_,_,_,.n h2,h⟩
      . cases h
    . obtain⟨cs,a,g,f,h2,h⟩:=YT h;exact⟨_,_,_,_,.rr h2,h⟩
    . obtain⟨cs,a,g,f,h2,h⟩:=YT h;exact⟨_,_,_,_,.ptr h2,h⟩
    . split at h
      . obtain⟨e,h⟩:=Zp h;cases e;obtain⟨cs,a,g,f,h2,h⟩:=YT h;exact⟨_,_,_,_,.el h2,h⟩
      . cases h
    . split at h
      . obtain⟨e,h⟩:=BB h;cases e;obtain⟨cs,a,g,f,h2,h⟩:=YT h;exact⟨_,_,_,_,.oel h2,h⟩
      . cases h
    . split at h
      . obtain⟨e,h⟩:=Zp h;cases e;obtain⟨cs,a,g,f,h2,h⟩:=YT h;exact⟨_,_,_,_,.rel h2,h⟩
      . cases h
    . split at h
      . obtain⟨e,h⟩:=BB h;cases e;obtain⟨cs,a,g,f,h2,h⟩:=YT h;exact⟨_,_,_,_,.orel h2,h⟩
      . cases h
    . split at h
      . obtain⟨e,h⟩:=Zp h;cases e;obtain⟨cs,a,g,f,h2,h⟩:=YT h;exact⟨_,_,_,_,.cl h2,h⟩
      . cases h
    . split at h
      . obtain⟨e,h⟩:=Zp h;cases e;obtain⟨cs,a,g,f,h2,h⟩:=YT h;exact⟨_,_,_,_,.rv h2,h⟩
      . cases h
    . obtain⟨cs,a,g,f,h2,h⟩:=YT h;obtain⟨hn,h⟩:=ZC h;exact⟨_,_,_,_,.ag h2<|TI hn,h⟩
    . obtain⟨cs,a,g,f,h2,h⟩:=YT h;obtain⟨hn,h⟩:=ZC h;exact⟨_,_,_,_,.tu h2<|TI hn,h⟩
    . obtain⟨cs,a,g,f,h2,h⟩:=YT h;obtain⟨hn,h⟩:=ZC h;exact⟨_,_,_,_,.clo h2<|TI hn,h⟩
    . obtain⟨cs,a,g,f,h2,h⟩:=YT h;exact⟨_,_,_,_,.c h2,h⟩
    . obtain⟨cs,a,g,f,h2,h⟩:=YT h;exact⟨_,_,_,_,.x h2,h⟩
    . split at h
      . obtain⟨e,h⟩:=Zp h;cases e;obtain⟨cs,a,g,f,h2,h⟩:=YT h;exact⟨_,_,_,_,.bor h2,h⟩
      . cases h
theorem ZHx{ρ:Rho}{b:Nat}:∀{bs:List Bp} {i:Nat} {hs:List HV} {c:Nat} {k:List (Nat×List CV)->Nat->List (Nat×RC)->Option β},buB ρ b bs i hs c k=some r->∃d e a,InstB (sg ρ b) bs i hs c d e a/\k d e a=some r
  |[],i,hs,c,k,h=>⟨[],c,[],.nil,h⟩
  | .row::bs,i,hs,c,k,h=>by
    obtain⟨d,e,a,h1,h2⟩:=ZHx<|show buB ρ b bs (i+1) hs c k=some r from h
    exact⟨d,e,a,.row h1,h2⟩
  | .cells n ps::bs,i,hs,c,k,h=>by
    have h:buL ρ b ps hs c (λcs hs c a=>bb (Nat.beq cs.length n) (Xq cs λcs=>buB ρ b bs (i+1) hs c λl c f=>k ((sg ρ b i,cs)::l) c (a++f)) none)=some r:=h;obtain⟨cs,g,e,a,h1,h⟩:=YT h;obtain⟨hn,h⟩:=ZC h;rw[Y7]at h;obtain⟨d,m,j,h2,h3⟩:=ZHx h;exact⟨_,_,_,.cells h1 (TA hn) h2,h3⟩
end
def SubR (ρ b:Rho):Prop:=∀i a,ZK ρ i=some a->ZK b i=some a
theorem Pc (ρ:Rho):SubR ρ ρ:=λ_ _ h=>h
theorem SubR.trans{a b c:Rho}(h:SubR a b)(k:SubR b c):SubR a c:=λi x e=>k i x<|h i x e
def InjR (ρ:Rho):Prop:=∀i j a,ZK ρ i=some (some a)->ZK ρ j=some (some a)->i=j
theorem W5{α:Type}:∀{l:List (Nat×α)} {i:Nat} {v:α},ZK l i=some v->(i,v)∈l
  |[],i,v,h=>by cases h
  | p::l,i,v,h=>by
    rw[ZH]at h;by_cases q:p.1=i
    . rw[TJ q]at h;cases h;subst q;simp
    . rw[TK q]at h;exact Sl _<|W5 h
theorem ZOe{a b:Option Nat}(h:eqON a b=true):a=b:=by
 unfold eqON at h;split at h
 . rw[TA h]
 . rfl
 . cases h
theorem ZCQ{ρ:Rho}{j:Nat}(h:freeR ρ (some j)=true):∀i,ZK ρ i≠some (some j):=λi e=>by
 have h1:=Zd.1 (show allB (λp:Nat×Option Nat=>match p.2 with|some k=> !(Nat.beq j k)|none=>true) ρ=true from h) _<|W5 e;simp at h1
section
variable{β:Type}{r:β}
theorem KR{ρ:Rho}{i:Nat}{a:Option Nat}{k:Rho->Option β}(h:Uw ρ i a k=some r)(hi:InjR ρ):∃d,k d=some r/\SubR ρ d/\InjR d/\ZK d i=some a:=by
 unfold Uw at h;split at h
 . rename_i b e;obtain⟨h1,h⟩:=ZC h;exact⟨ρ,h,Pc _,hi,by rw[ZOe h1];exact e⟩
 . rename_i e;obtain⟨h1,h⟩:=ZC h;refine⟨_,h,λj b q=> ?_,?_,(ZH _ _ _).trans<|TJ rfl⟩
   . rw[ZH];by_cases g:i=j
     . subst g;rw[e]at q;cases q
     . rw[TK g];exact q
   . intro j l b q f;rw[ZH]at q f;by_cases g:i=j
     . rw[TJ g]at q;by_cases c:i=l
       . rw[<-g,<-c]
       . rw[TK c]at f;cases q;exact absurd f<|ZCQ h1 _
     . rw[TK g]at q;by_cases c:i=l
       . rw[TJ c]at f;cases f;exact absurd q<|ZCQ h1 _
       . rw[TK c]at f;exact hi _ _ _ q f
def cnt:List HV->List Nat
 |[]=> []
 | .n j::hs=>j::cnt hs
 | .d _ _::hs=>cnt hs
 | .o _ _::hs=>cnt hs
theorem KQ:∀(a b:List HV),cnt (a++b)=cnt a++cnt b
 |[],b=>rfl
 | .n j::hs,b=>by simp[cnt,KQ hs b]
 | .d _ _::hs,b=>by simp[cnt,KQ hs b]
 | .o _ _::hs,b=>by simp[cnt,KQ hs b]
abbrev Wt:=Nat->Option ((Nat×Value)×Own)
def nuO (I:In)(a:Option Nat):Nat×Value:=match a with|some a=>I.ν a|none=>(0,.slice none 0 0)
def sgO (seg:Nat->Own)(a:Option Nat):Own:=match a with|some a=>seg a|none=> []
noncomputable def Wf (ρ:Rho) (I:In) (seg:Nat->Own):Wt:=λi=>(ZK ρ i).map λa=>(nuO I a,sgO seg a)
structure Cp (J:In) (H:Heaplet) (g:Nat->Nat) (W:Wt):Prop where
  H:J.H=H
  b:∀i w,W i=some w->g i<J.n/\J.ν (g i)=w.1
def Cnt (J:In)(c:Nat)(l:List Nat):Prop:=∀(m j:Nat),l[m]? =some j->c+m<J.q/\J.κ (c+m)=j
def RowsOk (H:Heaplet)(g:Nat->Nat)(W:Wt)(r:List (Nat×RC)):Prop:=∀p∈r,∃i w,W i=some w/\p.1=g i/\RwOk H w.1.2 w.2 p.2/\∃t E m,p.2=.own t E m
theorem RowsOk.app{H:Heaplet}{g:Nat->Nat}{W:Wt}{a b:List (Nat×RC)}(h:RowsOk H g W a)(k:RowsOk H g W b):RowsOk H g W (a++b):=λp c=>(TR.1 c).elim (h p) (k p)
def Tells (H:Heaplet)(W:Wt)(ps:List Pt)(hs:List HV)(vs:List Value):Prop:=
  ∀ (g:Nat->Nat) (J:In) (c:Nat) (t:List HV) (cs:List CV) (h:List HV) (a:Nat) (r:List (Nat×RC)),Cp J H g W->Cnt J c (cnt hs)->InstL g ps (hs++t) c cs h a r->
    h=t/\a=c+(cnt hs).length/\VRs J cs vs/\RowsOk H g W r
structure Rw (s:PS) (JS:List Nat) (I:In) (seg:Nat->Own):Prop where
  own:∀j t E m,ZK s.r j=some (.own t E m)->j∉JS->RwOk I.H (I.ν j).2 (seg j) (.own t E m)
  pub:∀j t m,(ZK s.r j=some (.pub t m)\/(j∈JS/\∃E,ZK s.r j=some (.own t E m)))->IsSlice I.H (RT t) (szY t) (I.ν j).2 m
  mr:∀j E m,ZK s.r j=some (.mrk E m)->j∈JS->IsSlice I.H RU8 1 (I.ν j).2 m
  ce:∀a m,ZK s.z a=some m->a<I.n/\∃cur T,seg a= [((I.ν a).1,.cells cur T (0,0))]/\cur.size=m/\∀o c,lkO s.o a o=some c->c=.unk\/∃v,cur.toList[o]? =some v/\VR I c v
theorem Rw.of{x:Cx}{s:PS}{JS:List Nat}{I:In}{seg:Nat->Own}{l:Slots}{own:List Own}{H:Heaplet}(h:RS x (pubS JS s) I seg l own H):Rw s JS I seg:=by
 constructor
 . intro j t E m e b;exact((h.rw j (.own t E m) (by rw[GI b];exact e)).resolve_left<|by simp).2
 . intro j t m e;have e2:ZK (pubS JS s).r j=some (.pub t m):=by
    rcases e with e|⟨b,E,e⟩
    . exact GH e
    . exact ZCz b e
   exact((h.rw j (.pub t m) e2).resolve_left<|by simp).2
 . intro j E m e b;exact((h.rw j (.pub .w8 m)<|ZC0 b e).resolve_left<|by simp).2
 . intro a m e;have hb:=Yo JS s;obtain⟨h1,cur,T,h2,h3⟩:=h.ze a m (by rw[hb.z];exact e);refine⟨by rw[h.n];exact h1,cur,T,h2,h3,λo c e2=> ?_⟩;refine(h.ce a o c (by rw[hb.o];exact e2)).imp id fun⟨_,d,k,v,f,g,i⟩=> ?_;rw[h2]at f;simp only[SS,Si,Obj.cells.injEq,and_true,Rj]at f;obtain⟨rfl,_⟩:=f;exact⟨v,g,i⟩
def Mt (s:PS)(ps:List Pt)(cs:List CV)(c:Rho)(hs:List HV)(js:List Nat):Prop:=
 ∀(JS:List Nat) (I:In) (seg:Nat->Own) (b:Rho) (vs:List Value),Rw s JS I seg->(∀j∈js,j∈JS)->SubR c b->(∀i a,ZK b i=some (some a)->a∉JS)->VUs I cs vs->Tells I.H (Wf b I seg) ps hs vs
def OwR (s:PS)(ρ:Rho)(w:List (Nat×Nat×Nat))(o:Nat)(c d:CV):Prop:=
 (d=c/\∀p∈w,p.1≠o)\/∃p∈w,p.1=o/\((∃j t m,c=.row j/\ZK s.r j=some (.own t p.2.2 m)/\d=.sl t m/\ZK ρ p.2.1=some (some j))\/(c=.nils/\d=.nils/\ZK ρ p.2.1=some none))
theorem UQ{l:List CV}{o:Nat}{c:CV}(h:o<l.length)(k:Nat):(setC l o c)[k]? =if k=o then some c else l[k]?:=by
 unfold setC;by_cases q:k<o
 . rw[SH (by simp;omega),TX,TJ q,TK<|by omega]
 . rw[Sc (by simp;omega)];simp only[TH];by_cases a:k=o
   . rw[TJ a,show k-min o l.length=0 by omega];rfl
   . rw[TK a,show k-min o l.length=(k-o-1)+1 by omega,Ro,SF];congr 1;omega
theorem ZKr{l:List CV}{o:Nat}{c:CV}(h:o<l.length):(setC l o c).length=l.length:=by
 unfold setC;simp;omega
theorem ZD4{s:PS}:∀{w:List (Nat×Nat×Nat)} {l:List CV} {ρ:Rho} {k:List CV->Rho->Option β},ZPV s w l ρ k=some r->InjR ρ->
    ∃q b,k q b=some r/\SubR ρ b/\InjR b/\q.length=l.length/\∀(o:Nat) (c:CV),l[o]? =some c->∃d,q[o]? =some d/\OwR s b w o c d
  |[],l,ρ,k,h,hi=>⟨l,ρ,h,Pc _,hi,rfl,λo c e=>⟨c,e,.inl ⟨rfl,by simp⟩⟩⟩
  | p ::w,l,ρ,k,h,hi=>by
    have h:(match l[p.1]? with
      |some (.row j)=>(match ZK s.r j with|some (.own t E m)=>bb (Nat.beq E p.2.2) (Uw ρ p.2.1 (some j) λρ=>ZPV s w (setC l p.1<|.sl t m) ρ k) none|_=>none)
      |some .nils=>Uw ρ p.2.1 none λρ=>ZPV s w l ρ k
      |_=>none)=some r:=h
    split at h
    . rename_i j e;split at h
      . rename_i t E m e2;obtain⟨z,G⟩:=ZC h;clear h;have z:=TA z;subst z;obtain⟨A,H,s1,B,C⟩:=KR G hi;obtain⟨q,f,h,s2,D,F,y⟩:=ZD4 H B;have g:=(TC.1 e).1;refine⟨q,f,h,s1.trans s2,D,by rw[F,ZKr g],λo c i=> ?_⟩;by_cases u:o=p.1
        . subst u;rw[e]at i;cases i;obtain⟨d,x,v⟩:=y p.1 (.sl t m) (by rw[UQ g,TJ rfl]);refine⟨d,x,.inr ⟨p,by simp,rfl,.inl ⟨j,t,m,rfl,e2,?_,s2 _ _ C⟩⟩⟩;rcases v with⟨rfl,_⟩|⟨a,_,_,⟨I,J,m',e3,_⟩|⟨e3,_⟩⟩
          . rfl
          . cases e3
          . cases e3
        . obtain⟨d,x,v⟩:=y o c (by rw[UQ g,TK u];exact i);refine⟨d,x,?_⟩;rcases v with⟨e3,e4⟩|⟨a,e3,e4⟩
          . exact .inl ⟨e3,λa n=>(Ta.1 n).elim (λe5=>by subst e5;exact λq=>u q.symm) (e4 a)⟩
          . exact .inr ⟨a,by simp[e3],e4⟩
      . cases h
    . rename_i e;obtain⟨A,h,s1,B,C⟩:=KR h hi;obtain⟨q,f,h,s2,D,F,y⟩:=ZD4 h B;refine⟨q,f,h,s1.trans s2,D,F,λo c i=> ?_⟩;obtain⟨d,x,v⟩:=y o c i;refine⟨d,x,?_⟩;by_cases u:o=p.1
      . subst u;rw[e]at i;cases i;rcases v with⟨e3,e4⟩|⟨a,e3,e4⟩
        . exact .inr ⟨p,by simp,rfl,.inr ⟨rfl,e3,s2 _ _ C⟩⟩
        . exact .inr ⟨a,by simp[e3],e4⟩
      . rcases v with⟨e3,e4⟩|⟨a,e3,e4⟩
        . exact .inl ⟨e3,λa n=>(Ta.1 n).elim (λe5=>by subst e5;exact λq=>u q.symm) (e4 a)⟩
        . exact .inr ⟨a,by simp[e3],e4⟩
    . cases h
def DaR (s:PS)(js:List Nat)(c d:CV):Prop:=(∃j t m,c=.row j/\(ZK s.r j=some (.pub t m)\/(j∈js/\∃E,ZK s.r j=some (.own t E m)))/\d=.sl t m)\/(∃j E m,c=.row j/\j∈js/\ZK s.r j=some (.mrk E m)/\d=.sl .w8 m)\/(∃t m,c=.cl t m/\d=.sl t m)\/(d=c/\c≠.unk/\∀j,c≠.row j)
theorem ZJI{s:PS}:∀{l:List CV} {k:List CV->List Nat->Option β},ZKE s l k=some r->
    ∃q js,k q js=some r/\q.length=l.length/\∀(o:Nat) (c:CV),l[o]? =some c->∃d,q[o]? =some d/\DaR s js c d
  |[],k,h=>⟨[],[],h,rfl,λo c e=>by simp at e⟩
  | c ::l,k,h=>by
    have step:∀{d:CV} {js0:List Nat} {n:List CV->List Nat->Option β},ZKE s l n=some r->(∀q js,n q js=k (d::q) (js0++js))->(∀js,DaR s (js0++js) c d)->
        ∃q js,k q js=some r/\q.length=(c::l).length/\∀(o:Nat) (g:CV),(c::l)[o]? =some g->∃d,q[o]? =some d/\DaR s js g d:=by
      intro d js0 n h w x;obtain⟨q,js,h,y,z⟩:=ZJI h;refine⟨d::q,js0++js,by rw[<-w];exact h,by simp[y],λo g e=> ?_⟩;cases o with
      |zero=>simp at e;subst e;exact⟨d,rfl,x js⟩
      | succ o=>
        obtain⟨A,h1,h2⟩:=z o g (by simpa using e);refine⟨A,by simpa using h1,?_⟩;rcases h2 with⟨j,t,m,p,u,v⟩|⟨j,E,m,p,u,v⟩|f
        . exact .inl ⟨j,t,m,p,u.imp id fun⟨a,b⟩=>⟨by simp[a],b⟩,v⟩
        . exact .inr<|.inl ⟨j,E,m,p,by simp[u],v⟩
        . exact .inr<|.inr f
    have i:(∀j,c≠.row j)->c≠.unk->ZKE s l (λr js=>k (c::r) js)=some r->∃q js,k q js=some r/\q.length=(c::l).length/\∀(o:Nat) (g:CV),(c::l)[o]? =some g->∃d,q[o]? =some d/\DaR s js g d:=
      λh1 h2 h=>step (d:=c) (js0:=[]) h (λ_ _=>rfl) λjs=>.inr<|.inr<|.inr ⟨rfl,h2,h1⟩
    cases c with
    | row j=>
      have h:(match ZK s.r j with|some (.pub t m)=>ZKE s l λr js=>k (.sl t m::r) js|some (.own t _ m)=>ZKE s l λr js=>k (.sl t m::r) (j::js)|some (.mrk _ m)=>ZKE s l λr js=>k (.sl .w8 m::r) (j::js)|_=>none)=some r:=h;split at h
      . rename_i t m e;exact step (d:=.sl t m) (js0:=[]) h (λ_ _=>rfl) λjs=>.inl ⟨j,t,m,rfl,.inl e,rfl⟩
      . rename_i t E m e;exact step (d:=.sl t m) (js0:=[j]) h (λ_ _=>rfl) λjs=>.inl ⟨j,t,m,rfl,.inr ⟨by simp,E,e⟩,rfl⟩
      . rename_i E m e;exact step (d:=.sl .w8 m) (js0:=[j]) h (λ_ _=>rfl) λjs=>.inr<|.inl ⟨j,E,m,rfl,by simp,e,rfl⟩
      . cases h
    |cl t m=>exact step (d:=.sl t m) (js0:=[]) (show ZKE s l (λr js=>k (.sl t m::r) js)=some r from h) (λ_ _=>rfl) (λjs=>.inr<|.inr<|.inl ⟨t,m,rfl,rfl⟩)
    |unk=>cases h
    |_=>exact i (by simp) (by simp) h
theorem InstW_some{g:Nat->Nat}:∀{w:List (Nat×Nat×Nat)} {l z:List CV} {s:List (Nat×RC)},InstW g w l z s->
    z.length=l.length/\(∀(o:Nat) (c:CV),l[o]? =some c->∃e,z[o]? =some e/\((e=c/\∀p∈w,p.1≠o)\/∃p∈w,p.1=o/\(∀a∈w,a.1=o->a=p)/\∃t m,c=.sl t m/\e=.row (g p.2.1)))/\
      (∀e∈s,∃p∈w,(∀a∈w,a.1=p.1->a=p)/\∃t m,l[p.1]? =some (.sl t m)/\e=(g p.2.1,.own t p.2.2 m))/\(∀p∈w,∃t m,l[p.1]? =some (.sl t m))
  | [],l,z,s,h=>by
    obtain⟨rfl,rfl⟩:=h;exact⟨rfl,λo c e=>⟨c,e,.inl ⟨rfl,by simp⟩⟩,λe F=>by simp at F,by simp⟩
  | p ::w,l,z,s,h=>by
    obtain⟨t,m,G,e,h,rfl⟩:=h;have f:=(TC.1 e).1;obtain⟨h1,h2,h3,E⟩:=InstW_some h;have v:∀a∈w,a.1≠p.1:=λa b q=>by
      obtain⟨x,m',j⟩:=E a b;rw[q,UQ f,TJ rfl]at j;cases j
    have u:∀a∈p::w,a.1=p.1->a=p:=λa b q=>(Ta.1 b).elim id λk=>absurd q<|v a k;refine⟨by rw[h1,ZKr f],λo c A=> ?_,λq n=> ?_,λa b=> ?_⟩
    . by_cases y:o=p.1
      . subst y;rw[e]at A;cases A;obtain⟨d,B,C⟩:=h2 p.1 (.row<|g p.2.1) (by rw[UQ f,TJ rfl]);refine⟨d,B,.inr ⟨p,by simp,rfl,u,t,m,rfl,?_⟩⟩;rcases C with⟨rfl,_⟩|⟨a,b,e3,_⟩
        . rfl
        . exact absurd e3<|v a b
      . obtain⟨d,B,C⟩:=h2 o c (by rw[UQ f,TK y];exact A);refine⟨d,B,?_⟩;rcases C with⟨e3,e4⟩|⟨a,e3,e4,e5,e6⟩
        . exact .inl ⟨e3,λa b=>(Ta.1 b).elim (λe5=>by subst e5;exact λq=>y q.symm) (e4 a)⟩
        . exact .inr ⟨a,by simp[e3],e4,λq n i=>(Ta.1 n).elim (λe7=>by subst e7;exact absurd i.symm y) λk=>e5 q k i,e6⟩
    . rcases Ta.1 n with rfl|n
      . exact⟨p,by simp,u,t,m,e,rfl⟩
      . obtain⟨a,e3,e5,x,m',e4,rfl⟩:=h3 q n;have r:a.1≠p.1:=v a e3;rw[UQ f,TK r]at e4;exact⟨a,by simp[e3],λH D i=>(Ta.1 D).elim (λe7=>by subst e7;exact absurd i.symm r) λk=>e5 H k i,x,m',e4,rfl⟩
    . rcases Ta.1 b with rfl|b
      . exact⟨t,m,e⟩
      . obtain⟨x,m',j⟩:=E a b;rw[UQ f,TK<|v a b]at j;exact⟨x,m',j⟩
theorem ZRQ{c d:CV}{I J:In}{v:Value}(h:eqCV c d=true)(a:VR I c v):VR J d v:=by
 unfold eqCV at h;split at h
 . rw[<-TO h];simp only[VR]at a|-;exact a
 . rw[<-eq_of_beq h];simp only[VR]at a|-;exact a
 . rw[<-TO h];simp only[VR]at a|-;exact a
 . rw[<-TO h];simp only[VR]at a|-;exact a
 . rw[<-TO h];simp only[VR]at a|-;exact a
 . simp only[VR]at a|-;exact a
 . simp only[VR]at a|-;exact a
 . simp only[VR]at a|-;exact a
 . rw[<-TA h];simp only[VR]at a|-;exact a
 . cases h
end
section
variable{β:Type}{r:β}{s:PS}
theorem Wf_of{ρ:Rho}{I:In}{seg:Nat->Own}{i:Nat}{a:Option Nat}(h:ZK ρ i=some a):Wf ρ I seg i=some (nuO I a,sgO seg a):=by unfold Wf;rw[h];rfl
theorem VR_row{I:In}{j:Nat}{v:Value}(h:VR I (.row j) v):j<I.n/\v=(I.ν j).2/\∃a n c,v=.slice a n c:=by simpa only[VR]using h
theorem dHead{y:Ty}{w:List (Nat×Nat×Nat)}{l q T:List CV}{x:den y}{C:Rho}{js:List Nat}(U:q.length=l.length)(hq:∀(o:Nat) (c:CV),l[o]? =some c->∃d,q[o]? =some d/\OwR s C w o c d)
 (V:T.length=q.length)(W:∀(o:Nat) (c:CV),q[o]? =some c->∃d,T[o]? =some d/\DaR s js c d)(hx:CRs T (spC y x))
 {JS:List Nat}{I:In}{seg:Nat->Own}{n:Rho}{vs:List Value}(X:Rw s JS I seg)(N:∀j∈js,j∈JS)(hs:SubR C n)(hd:∀i a,ZK n i=some (some a)->a∉JS)(hv:VUs I l vs)
 {g:Nat->Nat}{J:In}(Y:Cp J I.H g (Wf n I seg)){z:List CV}{rs:List (Nat×RC)}(hi:InstW g w (spC y x) z rs):VRs J z vs/\RowsOk I.H g (Wf n I seg) rs:=by
 obtain⟨h1,h2,h3,h4⟩:=InstW_some hi;have A:(spC y x).length=l.length:=by rw[<-hx.length,V,U]
 -- what a cell is
 have O:∀(o:Nat) (d:CV),(spC y x)[o]? =some d->∃c D F,l[o]? =some c/\OwR s C w o c D/\DaR s js D F/\CR F d:=λo d e=>by
  have h:=(TC.1 e).1;rw[A]at h;obtain⟨D,e1,r1⟩:=hq o _<|TL h;obtain⟨F,e2,r2⟩:=W o D e1;obtain⟨d',e3,r3⟩:=hx.get e2;rw[e]at e3;cases e3;exact⟨_,D,F,TL h,r1,r2,r3⟩
 refine⟨P6 (by rw[h1,A];exact hv.length) λo c' v ez ev=> ?_,λp P=> ?_⟩
 . have h :o<(spC y x).length:=(by rw[<-h1];exact(TC.1 ez).1);obtain⟨c,D,F,f1,Z,Q,R⟩:=O o _<|TL h;obtain⟨e,e1,e2⟩:=h2 o _<|TL h;rw[ez]at e1;cases e1;obtain⟨c0,g1,L⟩:=hv.get ev;rw[f1]at g1;cases g1;rcases Z with⟨rfl,G⟩|⟨p,P,r,G⟩
   . rcases e2 with⟨rfl,_⟩|⟨S,u,B,_⟩
     . have hvd:VR I F v:=by
        rcases Q with⟨j,t,m,rfl,M,rfl⟩|⟨j,E,m,rfl,M,f,rfl⟩|⟨t,m,rfl,rfl⟩|⟨rfl,f,_⟩
        . rcases L with k|k
          . cases k
          . simp only[VR];rw[(VR_row k).2.1];exact X.pub j t m<|M.imp id fun⟨a,b⟩=>⟨N _ a,b⟩
        . rcases L with k|k
          . cases k
          . simp only[VR];rw[(VR_row k).2.1];exact X.mr j E m f<|N _ M
        . have k:=L.resolve_left (by simp);simp only[VR]at k|-;exact k.1
        . exact L.resolve_left f
       exact VR.dc Y.H.symm (ZSj y x _<|Ry h)<|R.le _ _ hvd
     . exact absurd B<|G S u
   . rcases e2 with⟨_,e3⟩|⟨S,u,B,K,t',m',e3,rfl⟩
     . exact absurd r<|e3 p P
     . have hpp:=K p P r;subst hpp;rcases G with⟨j,t,m,rfl,M,rfl,f⟩|⟨rfl,rfl,f⟩
       . have k:=VR_row (L.resolve_left<|by simp);have hb:=Y.b _ _<|Wf_of<|hs _ _ f;simp only[VR];exact⟨hb.1,by rw[hb.2];exact k.2.1,k.2.2⟩
       . have k:=L.resolve_left (by simp);simp only[VR]at k;subst k;have hb:=Y.b _ _<|Wf_of<|hs _ _ f;simp only[VR];exact⟨hb.1,by rw[hb.2];rfl,_,_,_,rfl⟩
 . obtain⟨S,u,K,t,m,e1,rfl⟩:=h3 p P;obtain⟨c,D,F,f1,Z,Q,R⟩:=O _ _ e1;rcases Z with⟨_,G⟩|⟨p2,hp2,r,G⟩
   . exact absurd rfl<|G S u
   . cases K p2 hp2 r;rcases G with⟨j,t',m',rfl,M,rfl,f⟩|⟨rfl,rfl,f⟩
     . rcases Q with⟨j',_,_,e,_⟩|⟨j',_,_,e,_⟩|⟨_,_,e,_⟩|⟨rfl,_,_⟩
       . cases e
       . cases e
       . cases e
       . have:=R.sl t' m' rfl;cases this;refine⟨_,_,Wf_of<|hs _ _ f,rfl,?_,_,_,_,rfl⟩;exact X.own j _ _ _ M<|hd _ _<|hs _ _ f
     . rcases Q with⟨j',_,_,e,_⟩|⟨j',_,_,e,_⟩|⟨_,_,e,_⟩|⟨rfl,_,_⟩
       . cases e
       . cases e
       . cases e
       . obtain⟨t2,e2⟩:=R.nil rfl;cases e2;exact⟨_,_,Wf_of<|hs _ _ f,rfl,RowOf.nil _ _ _ _ _,_,_,_,rfl⟩
theorem VUs.cons_inv{I:In}{c:CV}{cs:List CV}{vs:List Value}(h:VUs I (c::cs) vs):∃v us,vs=v::us/\(c=.unk\/VR I c v)/\VUs I cs us:=h
theorem Cnt.tail{J:In}{c:Nat}{j:Nat}{l:List Nat}(h:Cnt J c (j::l)):Cnt J (c+1) l:=λm i e=>by
 have:=h (m+1) i (by simpa using e);rwa[show c+(m+1)=c+1+m by omega]at this
theorem Cnt.app{J:In}{c:Nat}{a b:List Nat}(h:Cnt J c (a++b)):Cnt J c a/\Cnt J (c+a.length) b:=⟨λm i e=>h m i (by rw[SH (TC.1 e).1];exact e),λm i e=>by
 have:=h (a.length+m) i (by rw[Sc<|by omega];simpa using e);rwa[<-Su]at this⟩
abbrev MtE (s:PS)(ps:List Pt)(cs:List CV)(ρ:Rho)(k:Mk β)(r:β):Prop:=∃hs a js,k hs a js=some r/\SubR ρ a/\InjR a/\Mt s ps cs a hs js
theorem Xs:∀{ps:List Pt} {cs:List CV} {ρ:Rho} {k:Mk β},mtL s ps cs ρ k=some r->InjR ρ->MtE s ps cs ρ k r
  | [],cs,ρ,k,h,hi=>by
    cases cs with
    |cons=>cases h
    | nil=>
      refine⟨[],ρ,[],h,Pc _,hi,λJS I seg A vs M D hs N B g J c t cs C c' rs K hn u=> ?_⟩;cases B;cases u;exact⟨rfl,rfl,VRs.nil,λp hp=>by cases hp⟩
  | p ::ps,cs,ρ,k,h,hi=>by
    by_cases hb:∃y i E,p=.bor y i E
    . obtain ⟨y,i,E,rfl⟩:=hb;have h:mtR s y i E ρ (λm=>mtL s ps cs ρ λhs ρ js=>k (.d (.sl y) m::hs) ρ js)=some r:=h;unfold mtR at h;split at h
      . rename_i a ea;split at h
        . rename_i t E' m er;obtain⟨hE,h3⟩:=ZC h;clear h;have hE:=TA hE;subst hE;obtain⟨e,h4⟩:=Zp h3;clear h3;cases e;obtain⟨hs,P,Q,h,s2,R,T⟩:=Xs h4 hi;refine⟨_,_,_,h,s2,R,λJS I seg A vs M D C N B g J c0 t S G c' rs K F u=> ?_⟩;cases u with
          | bor u=>
            obtain⟨U,V,O,W⟩:=T JS I seg A vs M D C N B g J _ t _ _ _ _ K F u;refine⟨U,V,O,λp hp=> ?_⟩;rcases Ta.1 hp with rfl|hp
            . have k2:=C _ _<|s2 _ _ ea;exact⟨_,_,Wf_of k2,rfl,M.own a _ _ _ er<|N _ _ k2,_,_,_,rfl⟩
            . exact W p hp
        . cases h
      . cases h
    replace h:(List.rec none (λc cs _=>mtP s p c cs ρ (mtL s ps) k) cs:Option β)=some r:=by
      cases p<;>first|exact h|exact absurd ⟨_,_,_,rfl⟩ hb
    clear hb;cases cs with
    |nil=>cases h
    | cons c cs=>
      change mtP s p c cs ρ (mtL s ps) k=some r at h;unfold mtP at h;split at h
      . -- data
        rename_i y w;replace h:=show bb (Nat.ble (szY y) (c::cs).length) (ZPV s w ((c::cs).take<|szY y) ρ λq ρ=>ZKE s q λq js=>oT y q λx=>mtL s ps ((c::cs).drop<|szY y) ρ λhs ρ js'=>k (.d y x::hs) ρ (js++js')) none=some r from h;obtain⟨hn,h⟩:=ZC h;have hn:=TI hn;obtain⟨q,ρ1,h,s1,i1,hl1,hq⟩:=ZD4 h hi;obtain⟨q2,js,h,hl2,hq2⟩:=ZJI h;obtain⟨x,h,hx⟩:=JG h;obtain⟨hs,P,Q,h,s2,R,T⟩:=Xs h i1;refine⟨_,_,_,h,s1.trans s2,R,λJS I seg A vs M D C N B g J c0 t S G c' rs K F u=> ?_⟩;rw[<-RO (szY y) (c::cs)]at B;obtain⟨us,ws,rfl,_,Y,X⟩:=B.split;cases u with
        | d hw u=>
          obtain⟨U,V,O,W⟩:=T JS I seg A ws M (λj hj=>D j<|by simp[hj]) C N X g J c0 t _ _ _ _ K F u;obtain⟨b1,b2⟩:=dHead hl1 hq hl2 hq2 hx M (λj hj=>D j<|by simp[hj]) (s2.trans C) N Y K hw;exact⟨U,V,VRs.append b1 O,b2.app W⟩
      . -- counter
        have hc0:c≠.unk:=λe=>(by subst e;cases h);have Z:∀j,mtL s ps cs ρ (λhs ρ js=>k (.n j::hs) ρ js)=some r->(∀(I:In) v,VR I c v->v=.int .i64 (j:Int))->MtE s (.n::ps) (c::cs) ρ k r:=λj h hj=>by
          obtain⟨hs,P,Q,h,s2,R,T⟩:=Xs h hi;refine⟨_,_,_,h,s2,R,λJS I seg A vs M D C N B g J c0 t S G c' rs K F u=> ?_⟩;obtain⟨v,us,rfl,Y,X⟩:=B.cons_inv;cases u with
          | n u=>
            have hn2:Cnt J c0 (j::cnt hs):=F;obtain⟨U,V,O,W⟩:=T JS I seg A us M D C N X g J _ t _ _ _ _ K hn2.tail u;refine⟨U,by rw[V];show c0+1+_=c0+((cnt hs).length+1);omega,VRs.cons ?_ O,W⟩;have:=hn2 0 j rfl;simp only[VR];exact⟨this.1,this.2,hj I v<|Y.resolve_left hc0⟩
        unfold oNat at h;split at h
        . exact Z _ h λI v B=>by simp only[VR]at B;exact B.2.2
        . rename_i n;cases n with
          |ofNat j=>exact Z j h (λI v B=>by simp only[VR]at B;exact B)
          |negSucc j=>cases h
        . cases h
      . -- a row that is told elsewhere
        rename_i i;have Z:∀a,Uw ρ i a (λρ=>mtL s ps cs ρ k)=some r->(∀(I:In) v,VR I c v->v=(nuO I a).2/\∃a n c,v=.slice a n c)->c≠.unk->MtE s (.rr i::ps) (c::cs) ρ k r:=λa h hj hc0=>by
          obtain⟨ρ1,h,s1,i1,b1⟩:=KR h hi;obtain⟨hs,P,Q,h,s2,R,T⟩:=Xs h i1;refine⟨_,_,_,h,s1.trans s2,R,λJS I seg A vs M D C N B g J c0 t S G c' rs K F u=> ?_⟩;obtain⟨v,us,rfl,Y,X⟩:=B.cons_inv;cases u with
          | rr u=>
            obtain⟨U,V,O,W⟩:=T JS I seg A us M D C N X g J _ t _ _ _ _ K F u;refine⟨U,V,VRs.cons ?_ O,W⟩;have hb:=K.b _ _<|Wf_of<|C _ _<|s2 _ _ b1;have B:=hj I v<|Y.resolve_left hc0;simp only[VR];exact⟨hb.1,by rw[hb.2];exact B.1,B.2⟩
        split at h
        . exact Z _ h (λI v B=>(VR_row B).2)<|by simp
        . exact Z _ h (λI v B=>by simp only[VR]at B;subst B;exact⟨rfl,_,_,_,rfl⟩)<|by simp
        . cases h
      . -- a pointer
        rename_i i o;split at h
        . rename_i a o';obtain⟨L,h⟩:=ZC h;have L:=TA L;obtain⟨ρ1,h,s1,i1,b1⟩:=KR h hi;obtain⟨hs,P,Q,h,s2,R,T⟩:=Xs h i1;refine⟨_,_,_,h,s1.trans s2,R,λJS I seg A vs M D C N B g J c0 t S G c' rs K F u=> ?_⟩;obtain⟨v,us,rfl,Y,X⟩:=B.cons_inv;cases u with
          | ptr u=>
            obtain⟨U,V,O,W⟩:=T JS I seg A us M D C N X g J _ t _ _ _ _ K F u;refine⟨U,V,VRs.cons ?_ O,W⟩;have hb:=K.b _ _<|Wf_of<|C _ _<|s2 _ _ b1;have B:=Y.resolve_left (by simp);simp only[VR]at B|-;exact⟨hb.1,by rw[hb.2,L];exact B.2⟩
        . cases h
      . -- a pointer to a datum
        rename_i y o;split at h
        . rename_i z x o';obtain⟨L,h6⟩:=ZC h;clear h;have L:=TA L;obtain⟨e,h7⟩:=Zp h6;subst e;obtain⟨hs,P,Q,h,s2,R,T⟩:=Xs h7 hi;refine⟨_,_,_,h,s2,R,λJS I seg A vs M D C N B g J c0 t S G c' rs K F u=> ?_⟩;obtain⟨v,us,rfl,Y,X⟩:=B.cons_inv;cases u with
          | el u=>
            obtain⟨U,V,O,W⟩:=T JS I seg A us M D C N X g J _ t _ _ _ _ K F u;refine⟨U,V,VRs.cons ?_ O,W⟩;have B:=Y.resolve_left (by simp);simp only[VR]at B|-;obtain⟨b,q,cs,e1,e2,e3,e4⟩:=B;exact⟨b,q,cs,by rw[L];exact e1,e2,by rw[K.H];exact e3,by rw[K.H];exact e4⟩
        . cases h
      . -- a pointer to a datum,or none
        rename_i y;have Z:∀x,mtL s ps cs ρ (λhs ρ js=>k (.o y x::hs) ρ js)=some r->c≠.unk->(∀(I:In) v,VR I c v->VR I (.oel y x) v)->MtE s (.oel y::ps) (c::cs) ρ k r:=λx h hc0 hj=>by
          obtain⟨hs,P,Q,h,s2,R,T⟩:=Xs h hi;refine⟨_,_,_,h,s2,R,λJS I seg A vs M D C N B g J c0 t S G c' rs K F u=> ?_⟩;obtain⟨v,us,rfl,Y,X⟩:=B.cons_inv;cases u with
          | oel u=>
            obtain⟨U,V,O,W⟩:=T JS I seg A us M D C N X g J _ t _ _ _ _ K F u;refine⟨U,V,VRs.cons ?_ O,W⟩;have B:=hj I v<|Y.resolve_left hc0;simp only[VR]at B|-;refine B.imp id fun⟨z,e,b,q,cs,e1,e2,e3,e4⟩=>⟨z,e,b,q,cs,e1,e2,by rw[K.H];exact e3,by rw[K.H];exact e4⟩
        split at h
        . rename_i z x o';obtain⟨L,h6⟩:=ZC h;clear h;have L:=TA L;obtain⟨e,h7⟩:=Zp h6;subst e;subst L;exact Z _ h7 (by simp) λI v B=>by simp only[VR]at B|-;exact .inr ⟨_,rfl,B⟩
        . exact Z _ h (by simp) λI v B=>by simp only[VR]at B;simp only[VR,B,Rj];exact .inl trivial
        . obtain⟨e,h7⟩:=BB h;subst e;exact Z _ h7 (by simp) λI v B=>B
        . cases h
      . -- a pointer into a row
        rename_i y i o;split at h
        . rename_i z a gg o';obtain⟨L,h⟩:=ZC h;simp only[TD]at L;have ho1:=Vk L.1;have ho2:=TA L.2;obtain⟨ρ1,h,s1,i1,b1⟩:=KR h hi;obtain⟨hs,P,Q,h,s2,R,T⟩:=Xs h i1;refine⟨_,_,_,h,s1.trans s2,R,λJS I seg A vs M D C N B g J c0 t S G c' rs K F u=> ?_⟩;obtain⟨v,us,rfl,Y,X⟩:=B.cons_inv;cases u with
          | rel u=>
            obtain⟨U,V,O,W⟩:=T JS I seg A us M D C N X g J _ t _ _ _ _ K F u;refine⟨U,V,VRs.cons ?_ O,W⟩;have hb:=K.b _ _<|Wf_of<|C _ _<|s2 _ _ b1;have B:=Y.resolve_left (by simp);simp only[VR]at B|-;obtain⟨_,b,q,e1,e2⟩:=B;exact⟨hb.1,b,q,by rw[hb.2,<-ho1];exact e1,by rw[ho2];exact e2⟩
        . cases h
      . -- a pointer into a row,or none
        rename_i y i;have Z:∀a x,Uw ρ i (some a) (λρ=>mtL s ps cs ρ λhs ρ js=>k (.o .i x::hs) ρ js)=some r->c≠.unk->(∀(I:In) v,VR I c v->VR I (.orel y a x) v)->MtE s (.orel y i::ps) (c::cs) ρ k r:=λa x h hc0 hj=>by
          obtain⟨ρ1,h,s1,i1,b1⟩:=KR h hi;obtain⟨hs,P,Q,h,s2,R,T⟩:=Xs h i1;refine⟨_,_,_,h,s1.trans s2,R,λJS I seg A vs M D C N B g J c0 t S G c' rs K F u=> ?_⟩;obtain⟨v,us,rfl,Y,X⟩:=B.cons_inv;cases u with
          | orel u=>
            obtain⟨U,V,O,W⟩:=T JS I seg A us M D C N X g J _ t _ _ _ _ K F u;refine⟨U,V,VRs.cons ?_ O,W⟩;have hb:=K.b _ _<|Wf_of<|C _ _<|s2 _ _ b1;have B:=hj I v<|Y.resolve_left hc0;simp only[VR]at B|-;refine B.imp id fun⟨z,e,_,b,q,e1,e2⟩=>⟨z,e,hb.1,b,q,by rw[hb.2];exact e1,e2⟩
        split at h
        . rename_i z a gg o';obtain⟨L,h7⟩:=ZC h;clear h;simp only[TD]at L;have ho1:=Vk L.1;have ho2:=TA L.2;subst ho1;exact Z a _ h7 (by simp) λI v B=>by simp only[VR]at B|-;rw[ho2]at B;exact .inr ⟨_,rfl,B⟩
        . obtain⟨hs,P,Q,h,s2,R,T⟩:=Xs h hi;refine⟨_,_,_,h,s2,R,λJS I seg A vs M D C N B g J c0 t S G c' rs K F u=> ?_⟩;obtain⟨v,us,rfl,Y,X⟩:=B.cons_inv;cases u with
          | orel u=>
            obtain⟨U,V,O,W⟩:=T JS I seg A us M D C N X g J _ t _ _ _ _ K F u;refine⟨U,V,VRs.cons ?_ O,W⟩;have B:=Y.resolve_left (by simp);simp only[VR]at B;simp only[VR,B,Rj];exact .inl trivial
        . rename_i z a gg;obtain⟨L,h7⟩:=ZC h;clear h;have ho1:=Vk L;subst ho1;exact Z a _ h7 (by simp) λI v B=>B
        . cases h
      . -- a clipped list
        rename_i y;split at h
        . rename_i z x;obtain⟨e,h7⟩:=Zp h;cases e;obtain⟨hs,P,Q,h,s2,R,T⟩:=Xs h7 hi;refine⟨_,_,_,h,s2,R,λJS I seg A vs M D C N B g J c0 t S G c' rs K F u=> ?_⟩;obtain⟨v,us,rfl,Y,X⟩:=B.cons_inv;cases u with
          | cl u=>
            obtain⟨U,V,O,W⟩:=T JS I seg A us M D C N X g J _ t _ _ _ _ K F u;refine⟨U,V,VRs.cons ?_ O,W⟩;have B:=Y.resolve_left (by simp);simp only[VR]at B|-;exact⟨by rw[K.H];exact B.1,B.2⟩
        . cases h
      . -- a part of a row
        rename_i y i;split at h
        . rename_i z a gg;obtain⟨L,h⟩:=ZC h;have ho1:=Vk L;obtain⟨ρ1,h,s1,i1,b1⟩:=KR h hi;obtain⟨hs,P,Q,h,s2,R,T⟩:=Xs h i1;refine⟨_,_,_,h,s1.trans s2,R,λJS I seg A vs M D C N B g J c0 t S G c' rs K F u=> ?_⟩;obtain⟨v,us,rfl,Y,X⟩:=B.cons_inv;cases u with
          | rv u=>
            obtain⟨U,V,O,W⟩:=T JS I seg A us M D C N X g J _ t _ _ _ _ K F u;refine⟨U,V,VRs.cons ?_ O,W⟩;have hb:=K.b _ _<|Wf_of<|C _ _<|s2 _ _ b1;have B:=Y.resolve_left (by simp);simp only[VR]at B|-;obtain⟨_,n,e1,e2⟩:=B;exact⟨hb.1,n,by rw[hb.2,<-ho1];exact e1,by rw[hb.2];exact e2⟩
        . cases h
      . -- an aggregate
        rename_i n;split at h
        . rename_i l;obtain⟨L,h⟩:=ZC h;have L:=TA L;obtain⟨hs,P,Q,h,s2,R,T⟩:=Xs h hi;refine⟨_,_,_,h,s2,R,λJS I seg A vs M D C N B g J c0 t S G c' rs K F u=> ?_⟩;obtain⟨v,us,rfl,Y,X⟩:=B.cons_inv;have hv2:=Y.resolve_left (by simp);simp only[VR]at hv2;clear B;obtain⟨ws,e9,B⟩:=hv2;subst e9;cases u with
          | ag u hle=>
            obtain⟨U,V,O,W⟩:=T JS I seg A (ws++us) M D C N (VUs.append B.vu X) g J _ t _ _ _ _ K F u;have hw:ws.length=n:=(by rw[<-B.length,L]);refine⟨U,V,VRs.cons ?_ (by have:=VRs.drop n O;rwa[<-hw,RP,hw]at this),W⟩;simp only[VR];exact⟨ws,rfl,by have:=VRs.take n O;rwa[<-hw,T6,hw]at this⟩
        . cases h
      . -- a tuple
        rename_i n;split at h
        . rename_i l;obtain⟨L,h⟩:=ZC h;have L:=TA L;obtain⟨hs,P,Q,h,s2,R,T⟩:=Xs h hi;refine⟨_,_,_,h,s2,R,λJS I seg A vs M D C N B g J c0 t S G c' rs K F u=> ?_⟩;obtain⟨v,us,rfl,Y,X⟩:=B.cons_inv;have hv2:=Y.resolve_left (by simp);simp only[VR]at hv2;clear B;obtain⟨ws,e9,B⟩:=hv2;subst e9;cases u with
          | tu u hle=>
            obtain⟨U,V,O,W⟩:=T JS I seg A (ws++us) M D C N (VUs.append B.vu X) g J _ t _ _ _ _ K F u;have hw:ws.length=n:=(by rw[<-B.length,L]);refine⟨U,V,VRs.cons ?_ (by have:=VRs.drop n O;rwa[<-hw,RP,hw]at this),W⟩;simp only[VR];exact⟨ws,rfl,by have:=VRs.take n O;rwa[<-hw,T6,hw]at this⟩
        . cases h
      . -- a closure
        rename_i f n m;split at h
        . rename_i f' l l';obtain⟨L,h⟩:=ZC h;simp only[TD]at L;have ho1:=TA L.1;have ho2:=TA L.2.1;have ho3:=TA L.2.2;obtain⟨hs,P,Q,h,s2,R,T⟩:=Xs h hi;refine⟨_,_,_,h,s2,R,λJS I seg A vs M D C N B g J c0 t S G c' rs K F u=> ?_⟩;obtain⟨v,us,rfl,Y,X⟩:=B.cons_inv;have hv2:=Y.resolve_left (by simp);simp only[VR]at hv2;clear B;obtain⟨w1,w2,e9,k1,k2⟩:=hv2;subst e9;cases u with
          | clo u hle=>
            obtain⟨U,V,O,W⟩:=T JS I seg A (w1++(w2++us)) M D C N (VUs.append k1.vu<|VUs.append k2.vu X) g J _ t _ _ _ _ K F u;have hw1:w1.length=n:=(by rw[<-k1.length,ho2]);have hw2:w2.length=m:=(by rw[<-k2.length,ho3]);have d0:=VRs.take n O;have d1:=VRs.drop n O;have e1:(w1++(w2++us)).drop n=w2++us:=(by rw[<-hw1];exact RP);have e0:(w1++(w2++us)).take n=w1:=(by rw[<-hw1];exact T6);rw[e1]at d1;rw[e0]at d0;have d2:=VRs.drop m d1;have d3:=VRs.take m d1;have e2:(w2++us).drop m=us:=(by rw[<-hw2];exact RP);have e3:(w2++us).take m=w2:=(by rw[<-hw2];exact T6);rw[e2,S2]at d2;rw[e3]at d3;refine⟨U,V,VRs.cons ?_ d2,W⟩;simp only[VR];exact⟨w1,w2,by rw[ho1],d0,d3⟩
        . cases h
      . -- a constant
        rename_i w;obtain⟨L,h⟩:=ZC h;obtain⟨hs,P,Q,h,s2,R,T⟩:=Xs h hi;refine⟨_,_,_,h,s2,R,λJS I seg A vs M D C N B g J c0 t S G c' rs K F u=> ?_⟩;obtain⟨v,us,rfl,Y,X⟩:=B.cons_inv;cases u with
        | c u=>
          obtain⟨U,V,O,W⟩:=T JS I seg A us M D C N X g J _ t _ _ _ _ K F u;refine⟨U,V,VRs.cons ?_ O,W⟩;have hc0:c≠.unk:=λe=>by subst e;cases w<;>cases L
          exact ZRQ L<|Y.resolve_left hc0
      . -- whatever
        obtain⟨hs,P,Q,h,s2,R,T⟩:=Xs h hi;refine⟨_,_,_,h,s2,R,λJS I seg A vs M D C N B g J c0 t S G c' rs K F u=> ?_⟩;obtain⟨v,us,rfl,Y,X⟩:=B.cons_inv;cases u with
        | x u=>
          obtain⟨U,V,O,W⟩:=T JS I seg A us M D C N X g J _ t _ _ _ _ K F u;exact⟨U,V,VRs.cons (by simp only[VR]) O,W⟩
      . cases h
def BlOk (J:In)(g:Nat->Nat)(W:Wt)(b:List (Nat×List CV)):Prop:=∀p∈b,∃i w cur T,W i=some w/\p.1=g i/\w.2= [(w.1.1,.cells cur T (0,0))]/\VRs J p.2 cur.toList
def TellsB (H:Heaplet)(W:Wt)(bs:List Bp)(i:Nat)(hs:List HV):Prop:=
  ∀ (g:Nat->Nat) (J:In) (c:Nat) (t:List HV) (b:List (Nat×List CV)) (a:Nat) (r:List (Nat×RC)),Cp J H g W->Cnt J c (cnt hs)->InstB g bs i (hs++t) c b a r->
    a=c+(cnt hs).length/\BlOk J g W b/\RowsOk H g W r
def MtB (s:PS)(bs:List Bp)(i:Nat)(c:Rho)(hs:List HV)(js:List Nat):Prop:=
 ∀(JS:List Nat) (I:In) (seg:Nat->Own) (b:Rho),Rw s JS I seg->(∀j∈js,j∈JS)->SubR c b->(∀i a,ZK b i=some (some a)->a∉JS)->TellsB I.H (Wf b I seg) bs i hs
theorem ZG6{a:Nat}:∀{n o:Nat} {k:List CV->Option β},ldU s a n o k=some r->∃l,k l=some r/\l.length=n/\∀(j:Nat) (c:CV),l[j]? =some c->lkO s.o a (o+j)=some c
  |0,o,k,h=>⟨[],h,rfl,λj c e=>by simp at e⟩
  | n+1,o,k,h=>by
    obtain⟨c,e,h⟩:=Zb<|show oB (lkO s.o a o) (λc=>ldU s a n (o+1) λr=>k (c::r))=some r from h
    obtain⟨l,h,b,f⟩:=ZG6 h;refine⟨c::l,h,by simp[b],λj d q=> ?_⟩;cases j with
    |zero=>simp at q;subst q;exact e
    |succ j=>have:=f j d (by simpa using q);rwa[show o+1+j=o+(j+1) by omega]at this
theorem Pp{I:In}:∀{l:List CV} {vs:List Value},l.length=vs.length->(∀(i:Nat) (c:CV),l[i]? =some c->c=.unk\/∃v,vs[i]? =some v/\VR I c v)->VUs I l vs
 |[],[],h,k=>rfl
 |c::l,v::vs,h,k=>⟨v,vs,rfl,(k 0 c rfl).imp id fun⟨w,e,a⟩=>by simp at e;subst e;exact a,Pp (by simpa using h) λi b e=>(k (i+1) b<|by simpa using e).imp id fun⟨w,e,a⟩=>⟨w,by simpa using e,a⟩⟩
 |[],v::vs,h,k=>by cases h
 |c::l,[],h,k=>by cases h
theorem ZMd:∀{bs:List Bp} {i:Nat} {ρ:Rho} {k:Mk β},mtB s bs i ρ k=some r->InjR ρ->∃hs q js,k hs q js=some r/\SubR ρ q/\InjR q/\MtB s bs i q hs js
  |[],i,ρ,k,h,hi=>⟨[],ρ,[],h,Pc _,hi,λJS I seg f w u hs x g J c t G H K y hn b=>by
      cases b;exact⟨rfl,(by intro p v;simp at v),(by intro p v;simp at v)⟩⟩
  | .row::bs,i,ρ,k,h,hi=>by
    obtain⟨hs,q,js,h,s1,C,T⟩:=ZMd (show mtB s bs (i+1) ρ k=some r from h) hi
    refine⟨hs,q,js,h,s1,C,λJS I seg f w u o x g J c t G H K y hn b=> ?_⟩;cases b with
    |row b=>exact T JS I seg f w u o x g J c t _ _ _ y hn b
  | .cells n ps::bs,i,ρ,k,h,hi=>by
    replace h:=show(match ZK ρ i with
      |some (some a)=>oB (ZK s.z a) λm=>bb (Bool.and (Nat.ble 1 n)<|Nat.beq m n) (ldU s a n 0 λl=>mtL s ps l ρ λhs ρ js=>mtB s bs (i+1) ρ λo ρ D=>k (hs++o) ρ (js++D)) none
      |_=>none)=some r from h
    split at h
    . rename_i a L;obtain⟨m,M,h⟩:=Zb h;obtain⟨B,h⟩:=ZC h;simp only[TD]at B;have B:=TA B.2;obtain⟨l,h,N,E⟩:=ZG6 h;obtain⟨O,P,Q,h,s1,C,R⟩:=Xs h hi;obtain⟨S,U,V,h,s2,W,X⟩:=ZMd h C;refine⟨_,_,_,h,s1.trans s2,W,λJS I seg f w u o x g J c t G H K y hn b=> ?_⟩;rw[KQ]at hn;obtain⟨Y,Z⟩:=hn.app;rw[TE]at b;obtain⟨ha,cur,T,g1,g2,g3⟩:=w.ce a m M;cases b with
      | cells b hcl A=>
        have hv:VUs I l cur.toList:=Pp (by rw[N,TM,g2,B]) λj d e=>g3 _ _ (by have:=E j d e;rwa[Te]at this);obtain⟨a1,a2,a3,a4⟩:=R JS I seg f _ w (λj F=>u j<|by simp[F]) (s2.trans o) x hv g J c _ _ _ _ _ y Y b;subst a1 a2;obtain⟨b2,b3,b4⟩:=X JS I seg f w (λj F=>u j<|by simp[F]) o x g J _ t _ _ _ y Z A;refine⟨by rw[b2,KQ,TG];omega,λp v=> ?_,a4.app b4⟩;rcases Ta.1 v with rfl|v
        . exact⟨i,_,cur,T,Wf_of<|o _ _<|s2 _ _<|s1 _ _ L,rfl,g1,a3⟩
        . exact b3 p v
    . cases h
def TellsS (H:Heaplet)(W:Wt)(S:Sp)(hs:List HV)(vs:List Value):Prop:=
  ∀ (g:Nat->Nat) (J:In) (c:Nat) (cs:List CV) (h:List HV) (a:Nat) (b:List (Nat×RC)) (d:List (Nat×List CV)) (e:Nat) (r:List (Nat×RC)),Cp J H g W->Cnt J c (cnt hs)->InstL g S.vs hs c cs h a b->InstB g S.bs 0 h a d e r->
    e=c+(cnt hs).length/\VRs J cs vs/\BlOk J g W d/\RowsOk H g W (b++r)
theorem ZB3{S:Sp}{cs:List CV}{ρ:Rho}{k:Mk β}(h:mtS s S cs ρ k=some r)(hi:InjR ρ):∃hs b js,k hs b js=some r/\SubR ρ b/\InjR b/\(∀i a,ZK b i=some (some a)->a∉js/\a<s.n)/\
 ∀(I:In) (seg:Nat->Own) (vs:List Value),Rw s js I seg->VUs I cs vs->TellsS I.H (Wf b I seg) S hs vs:=by
 obtain⟨y,z,l,h,s1,A,T⟩:=Xs (show mtL s S.vs cs ρ (λhs ρ js=>mtB s S.bs 0 ρ λf ρ m=>(λjs=>bb (Bool.and (allB (λp=>match p.2 with|some a=>Nat.blt a s.n|none=>true) ρ)<|allB (λj=>freeR ρ<|some j) js) (k (hs++f) ρ js) none) (js++m))=some r from h) hi
 obtain⟨B,d,o,h,s2,C,D⟩:=ZMd h A;obtain⟨q,h⟩:=ZC h;simp only[TD]at q;have t:∀i a,ZK d i=some (some a)->a∉l++o:=λi a e E=>ZCQ (Zd.1 q.2 a E) i e;have u:∀i a,ZK d i=some (some a)->a<s.n:=λi a e=>by
  have:=Zd.1 q.1 _<|W5 e;simpa using this
 refine⟨_,_,_,h,s1.trans s2,C,λi a e=>⟨t i a e,u i a e⟩,λI seg vs w F g J c G f Y Z bl c2 K x hn L M=> ?_⟩;rw[KQ]at hn;obtain⟨N,O⟩:=hn.app;obtain⟨P,Q,R,U⟩:=T _ I seg d vs w (λj v=>by simp[v]) s2 t F g J c _ _ _ _ _ x N L;subst P Q;obtain⟨V,W,X⟩:=D _ I seg d w (λj v=>by simp[v]) (Pc _) t g J _ [] _ _ _ x O (by rw[Th];exact M);exact⟨by rw[V,KQ,TG];omega,R,W,U.app X⟩
end
theorem ZK1{α:Type} [DecidableEq α]:∀{L K:List α},L.Nodup->(∀a∈L,a∈K)->∃R,K.Perm (L++R)
  |[],K,_,_=>⟨K,Sk _⟩
  | a::L,K,hn,hs=>by
    have h:=hs a (by simp);have hn:=SR.1 hn;obtain⟨R,c⟩:=ZK1 (L:=L) (K:=K.erase a) hn.2 (λb hb=>(List.mem_erase_of_ne λe=>hn.1 (by rw[<-e];exact hb)).2<|hs b<|by simp[hb]);exact⟨R,(List.perm_cons_erase h).trans<|c.cons a⟩
theorem ZAQ{g:Nat->Own}{K:List Nat}{N:Nat}{seg:Nat->Own}(τ:Nat->Option Nat)(c:∀a b i,a<N->b<N->τ a=some i->τ b=some i->a=b)(d:∀a i,a<N->τ a=some i->i∈K)
    (f:∀a,a<N->seg a=(match τ a with|some i=>g i|none=> [])):∃R,K.Perm ((List.range N).filterMap τ++R)/\(K.map g).flatten.Perm ((((List.range N).map seg).flatten)++(R.map g).flatten):=by
  have hn :((List.range N).filterMap τ).Nodup:=by
    have m:∀(l:List Nat),l.Nodup->(∀a∈l,a<N)->(l.filterMap τ).Nodup:=λl=>by
      induction l with
      |nil=>intro _ _;simp
      | cons a l j=>
        intro h1 h2;have h1:=SR.1 h1;rw[List.filterMap_cons];split
        . exact j h1.2 λb hb=>h2 b<|by simp[hb]
        . rename_i i e;refine SR.2 ⟨λp=> ?_,j h1.2 λb hb=>h2 b<|by simp[hb]⟩;obtain⟨b,hb,n⟩:=List.mem_filterMap.1 p;exact h1.1<|c a b i (h2 a<|by simp) (h2 b<|by simp[hb]) e n▸hb
    exact m _ List.nodup_range λa k=>Tx.1 k
  obtain⟨R,o⟩:=ZK1 (K:=K) hn (λi hi=>by
    obtain⟨a,k,e⟩:=List.mem_filterMap.1 hi;exact d a i (Tx.1 k) e)
  refine⟨R,o,?_⟩;have h1:=(o.map g).flatten;rw[SJ,TW]at h1;have h2:∀(l:List Nat),(∀a∈l,a<N)->((l.filterMap τ).map g).flatten=(l.map seg).flatten:=λl=>by
    induction l with
    |nil=>intro _;rfl
    | cons a l j=>
      intro h;have h3:=f a (h a<|by simp);rw[List.filterMap_cons,Tp,TP,h3];split
      . rename_i e;simp only[e,Sy];exact j λb hb=>h b<|by simp[hb]
      . rename_i i e;simp only[e,Tp,TP];rw[j λb hb=>h b<|by simp[hb]]
  rw[h2 _ λa k=>Tx.1 k]at h1;exact h1
section
variable{x:Cx}{l:Slots}{H:Heaplet}{own own':List Own}
theorem ZJA{a:Act}{w:World}{R:Own}(h:Holds x l own H a w)(b:own.flatten.Perm (own'.flatten++R)):Holds x l own' H a w:=by
 have h1:Holds x l (own'++ [R]) H a w:=hperm h (by rw[TW];simpa using b);exact hsubl h1 (by rw[TW];exact Sv _ _)
end
noncomputable def entB:List (Nat×List CV)->List ((Nat×Nat)×CV)->List ((Nat×Nat)×CV)
 |[],o=>o
 |p::b,o=>entB b<|entA p.1 p.2 0 o
def zB (N:Nat):List (Nat×List CV)->List (Nat×Nat)->List (Nat×Nat)
 |[],z=>z
 |p::b,z=>zB N b (match Nat.ble N p.1 with|true=>(p.1,p.2.length)::z|false=>z)
theorem ZKM{β:Type}(N:Nat):∀(b:List (Nat×List CV)) (o:List ((Nat×Nat)×CV)) (z:List (Nat×Nat)) (k:List ((Nat×Nat)×CV)->List (Nat×Nat)->Option β),ZQO N b o z k=k (entB b o) (zB N b z)
  |[],o,z,k=>rfl
  | p::b,o,z,k=>by
    show ZH0 p.1 p.2 0 o (λo=>Bool.rec (ZQO N b o z k) (ZQO N b o ((p.1,p.2.length)::z) k) (Nat.ble N p.1))=_;rw[BR];cases h:Nat.ble N p.1 with
    |true=>simp only[entB,zB,h];exact ZKM N b _ _ k
    |false=>simp only[entB,zB,h];exact ZKM N b _ _ k
theorem ZHe:∀(b:List (Nat×List CV)) (o:List ((Nat×Nat)×CV)),∃m,entB b o=m++o
  |[],o=>⟨[],rfl⟩
  | p::b,o=>by
    obtain⟨m,e⟩:=ZHe b<|entA p.1 p.2 0 o;obtain⟨n,e2⟩:=WQ p.1 p.2 0 o;exact⟨m++n,by rw[entB,e,e2];simp⟩
theorem ZGI:∀{b:List (Nat×List CV)} {o:List ((Nat×Nat)×CV)} {a j:Nat} {c:CV},lkO (entB b o) a j=some c->(∃p∈b,p.1=a/\p.2[j]? =some c)\/((∀p∈b,p.1=a->p.2.length<=j)/\lkO o a j=some c)
  |[],o,a,j,c,h=>.inr ⟨by simp,h⟩
  | p ::b,o,a,j,c,h=>by
    rcases ZGI (show lkO (entB b<|entA p.1 p.2 0 o) a j=some c from h)with⟨q,d,h1⟩|⟨h1,h2⟩
    . exact .inl ⟨q,by simp[d],h1⟩
    . rw [JO]at h2;split at h2
      . rename_i f;exact .inl ⟨p,by simp,f.1.symm,by simpa using h2⟩
      . rename_i f;refine .inr ⟨λq d e=> ?_,h2⟩;rcases Ta.1 d with rfl|d
        . by_cases g:q.2.length<=j
          . exact g
          . exact absurd ⟨e.symm,TQ _,by omega⟩ f
        . exact h1 q d e
theorem ZLo (a:Nat):∀(l:List CV) (k:Nat) (m:List ((Nat×Nat)×CV)),∃n,entA a l k m=n++m/\(∀q∈n,q.1.1=a)/\n.length=l.length
  |[],k,m=>⟨[],rfl,by simp,rfl⟩
  | c::l,k,m=>by
    obtain⟨n,e,hn,b⟩:=ZLo a l (k+1) (((a,k),c)::m);refine⟨n++ [((a,k),c)],by rw[entA,e];simp,λq h=> ?_,by simp[b]⟩;rcases TR.1 h with h|h
    . exact hn q h
    . cases Sz.1 h;rfl
theorem ZCT{a:Nat}{l:List CV}{k:Nat}{m:List ((Nat×Nat)×CV)}(h:l≠[]):∃q∈newL (entA a l k m) m,q.1.1=a:=by
  obtain⟨n,e,hn,b⟩:=ZLo a l k m;rw[e,YM];cases n with
  | nil=>cases l with
    |nil=>exact absurd rfl h
    |cons=>cases b
  |cons q n=>exact⟨q,by simp,hn q<|by simp⟩
theorem ZHd:∀{b:List (Nat×List CV)} {o:List ((Nat×Nat)×CV)} {p:Nat×List CV},p∈b->p.2≠[]->∃q∈newL (entB b o) o,q.1.1=p.1
  | q ::b,o,p,d,h=>by
    obtain⟨m,e⟩:=ZHe b<|entA q.1 q.2 0 o;obtain⟨n,e2⟩:=WQ q.1 q.2 0 o;have f:newL (entB (q::b) o) o=m++n:=(by rw[entB,e,e2,<-TE];exact YM _ _);rw[f];rcases Ta.1 d with rfl|d
    . obtain⟨w,c,e3⟩:=ZCT (a:=p.1) (k:=0) (m:=o) h;rw[e2,YM]at c;exact⟨w,by simp[c],e3⟩
    . obtain⟨w,c,e3⟩:=ZHd (o:=entA q.1 q.2 0 o) d h;rw[e,YM]at c;exact⟨w,by simp[c],e3⟩
theorem ZOz{N:Nat}:∀{b:List (Nat×List CV)} {z:List (Nat×Nat)} {a m:Nat},ZK (zB N b z) a=some m->(∃p∈b,N<=p.1/\p.1=a/\p.2.length=m)\/ZK z a=some m
  |[],z,a,m,h=>.inr h
  | p ::b,z,a,m,h=>by
    rcases ZOz (show ZK (zB N b (match Nat.ble N p.1 with|true=>(p.1,p.2.length)::z|false=>z)) a=some m from h)with⟨q,hq,h1⟩|h1
    . exact .inl ⟨q,by simp[hq],h1⟩
    . split at h1
      . rename_i hb;rw[ZH]at h1;by_cases q:p.1=a
        . rw[TJ q]at h1;cases h1;exact .inl ⟨p,by simp,TI hb,q,rfl⟩
        . rw[TK q]at h1;exact .inr h1
      . exact .inr h1
theorem ZO0{N:Nat}:∀(b:List (Nat×List CV)) (z:List (Nat×Nat)),∃m,zB N b z=m++z/\∀p∈m,N<=p.1
  |[],z=>⟨[],rfl,by simp⟩
  | p ::b,z=>by
    obtain⟨m,e,a⟩:=ZO0 (N:=N) b (match Nat.ble N p.1 with|true=>(p.1,p.2.length)::z|false=>z);cases hb:Nat.ble N p.1 with
    | true=>
      rw[hb]at e;refine⟨m++ [(p.1,p.2.length)],by rw[zB,hb,e];simp,λq h=> ?_⟩;rcases TR.1 h with h|h
      . exact a q h
      . cases Sz.1 h;exact TI hb
    | false=>
      rw[hb]at e;exact⟨m,by rw[zB,hb];exact e,a⟩
noncomputable def buS (s:PS) (S:Sp) (b:List (Nat×List CV)) (c:Nat) (a:List (Nat×RC)):PS:=⟨s.N,s.l,entB b s.o,zB s.n b s.z,s.n+S.bs.length,s.f,c,a++s.r⟩
theorem Ext.bu{s:PS}{S:Sp}{b:List (Nat×List CV)}{c:Nat}{r:List (Nat×RC)}(h:s.c<=c):Ext s (buS s S b c r):=⟨rfl,⟨[],rfl⟩,ZHe _ _,ZO0 _ _,Rc _ _,⟨[],rfl⟩,h,⟨r,rfl⟩⟩
section
variable{β:Type}{r:β}
theorem Jb{s:PS}{ρ:Rho}{S:Sp}{hs:List HV}{k:List CV->PS->Option β}(h:s.bu ρ S hs k=some r):okSp S=true/\∃cs b g d e i a,InstL (sg ρ s.n) S.vs hs s.c cs b g d/\InstB (sg ρ s.n) S.bs 0 b g e i a/\k cs (buS s S e i (d++a))=some r:=by
 obtain⟨h0,h⟩:=ZC<|show bb (okSp S) (buL ρ s.n S.vs hs s.c λcs hs c d=>Xq cs λcs=>buB ρ s.n S.bs 0 hs c λe c a=>ZQO s.n e s.o s.z λo z=>k cs ⟨s.N,s.l,o,z,s.n+S.bs.length,s.f,c,d++(a++s.r)⟩) none=some r from h
 obtain⟨cs,b,g,d,h1,h⟩:=YT h;rw[Y7]at h;obtain⟨e,i,a,h2,h⟩:=ZHx h;rw[ZKM]at h;exact⟨h0,cs,b,g,d,e,i,a,h1,h2,by unfold buS;rw[TE];exact h⟩
theorem InstW_ix{g:Nat->Nat}:∀{w:List (Nat×Nat×Nat)} {l z:List CV} {r:List (Nat×RC)},InstW g w l z r->∀p∈r,∃q∈w,p.1=g q.2.1
  |[],l,z,r,h,p,a=>by obtain⟨_,rfl⟩:=h;cases a
  | q::w,l,z,r,h,p,a=>by
    obtain⟨t,m,b,e,h,rfl⟩:=h;rcases Ta.1 a with rfl|a
    . exact⟨q,by simp,rfl⟩
    . obtain⟨c,h1,h2⟩:=InstW_ix h p a;exact⟨c,by simp[h1],h2⟩
theorem ZQ3 (y:Ty)(w:List (Nat×Nat×Nat))(ps:List Pt):rowIx (.d y w::ps)=w.map (λq=>q.2.1)++rowIx ps:=by
 show(List.rec (rowIx ps) (λq _ i=>q.2.1::i) w:List Nat)=_;induction w with
 |nil=>rfl
 |cons q w i=>show q.2.1::_=_;rw[i];rfl
theorem InstL_ix{g:Nat->Nat}{ps:List Pt}{hs f:List HV}{c l:Nat}{cs:List CV}{r:List (Nat×RC)}(h:InstL g ps hs c cs f l r):∀p∈r,∃k∈rowIx ps,p.1=g k:=by
  induction h with
  |nil=>intro p b;cases b
  | d m _ a=>
    intro p b;rw[ZQ3];rcases TR.1 b with b|b
    . obtain⟨q,o,e⟩:=InstW_ix m p b;exact⟨q.2.1,by simp only[TR,T7];exact .inl ⟨q,o,rfl⟩,e⟩
    . obtain⟨k,j,e⟩:=a p b;exact⟨k,by simp[j],e⟩
  |n _ a=>exact a
  |rr _ a=>exact a
  |ptr _ a=>exact a
  |el _ a=>exact a
  |oel _ a=>exact a
  |rel _ a=>exact a
  |cl _ a=>exact a
  |rv _ a=>exact a
  |orel _ a=>exact a
  |ag _ _ a=>exact a
  |tu _ _ a=>exact a
  |clo _ _ a=>exact a
  |c _ a=>exact a
  |x _ a=>exact a
  | bor _ a=>
    intro p b;rename_i i _ _ ps _ _ _ _ _ _ _;show∃k∈i::rowIx ps,p.1=_;rcases Ta.1 b with rfl|b
    . exact⟨i,by simp,rfl⟩
    . obtain⟨k,j,e⟩:=a p b;exact⟨k,by simp[j],e⟩
theorem InstB_ix{g:Nat->Nat}{bs:List Bp}{i:Nat}{hs:List HV}{c q:Nat}{f:List (Nat×List CV)}{r:List (Nat×RC)}(h:InstB g bs i hs c f q r):
    (∀p∈r,∃k∈rowIB bs,p.1=g k)/\(∀p∈f,∃j n ps,bs[j]? =some (.cells n ps)/\p.1=g (i+j)/\p.2.length=n)/\(∀j n ps,bs[j]? =some (.cells n ps)->∃cs,(g (i+j),cs)∈f/\cs.length=n):=by
  induction h with
  |nil=>exact⟨(by intro p a;simp at a),(by intro p a;simp at a),(by intro j n ps e;simp at e)⟩
  | row _ b=>
    refine⟨b.1,λp a=> ?_,λj n ps e=> ?_⟩
    . obtain⟨j,n,ps,e,h1,h2⟩:=b.2.1 p a;exact⟨j+1,n,ps,by simpa using e,by rw[h1];congr 1;omega,h2⟩
    . cases j with
      |zero=>simp at e
      |succ j=>obtain⟨cs,h1,h2⟩:=b.2.2 j n ps (by simpa using e);exact⟨cs,by rw[show∀i,i+(j+1)=i+1+j by intro i;omega];exact h1,h2⟩
  | cells s d _ b=>
    rename_i n ps bs i hs c cs t w r f q u _;refine⟨λp a=> ?_,λp a=> ?_,λj v l e=> ?_⟩
    . show∃k∈rowIx ps++rowIB bs,p.1=g k;rcases TR.1 a with a|a
      . obtain⟨k,m,e⟩:=InstL_ix s p a;exact⟨k,by simp[m],e⟩
      . obtain⟨k,m,e⟩:=b.1 p a;exact⟨k,by simp[m],e⟩
    . rcases Ta.1 a with rfl|a
      . exact⟨0,n,ps,rfl,rfl,d⟩
      . obtain⟨j,n,ps,e,h1,h2⟩:=b.2.1 p a;exact⟨j+1,n,ps,by simpa using e,by rw[h1];congr 1;omega,h2⟩
    . cases j with
      |zero=>simp at e;exact⟨cs,by simp,by rw[d];exact e.1⟩
      |succ j=>obtain⟨o,h1,h2⟩:=b.2.2 j v l (by simpa using e);exact⟨o,by rw[show i+(j+1)=i+1+j by omega];simp[h1],h2⟩
end
theorem ZCu{ρ:Rho}{b i a:Nat}(h:ZK ρ i=some (some a)):sg ρ b i=a:=by unfold sg;rw[h]
theorem ZST{ρ:Rho}{b i:Nat}(c:∀i a,ZK ρ i=some (some a)->a<b)(h:b<=sg ρ b i):sg ρ b i=b+i:=by
 unfold sg at h|-;split at h
 . rename_i a e;exact absurd (c i a e)<|by omega
 . rfl
section
variable{x:Cx}{s:PS}{I J:In}{seg seg2:Nat->Own}{l:Slots}{own:List Own}{H:Heaplet}
theorem BlOk.cur{g:Nat->Nat}{W:Wt}{b:List (Nat×List CV)}(h:BlOk J g W b)(a:∀i w,W i=some w->g i<J.n/\J.ν (g i)=w.1/\seg2 (g i)=w.2){p:Nat×List CV}(c:p∈b):
 p.1<J.n/\∃cur T,seg2 p.1= [((J.ν p.1).1,.cells cur T (0,0))]/\VRs J p.2 cur.toList/\cur.size=p.2.length:=by
 obtain⟨i,w,cur,T,e1,e2,e3,e4⟩:=h p c;obtain⟨h1,h2,h3⟩:=a i w e1;rw[e2];exact⟨h1,cur,T,by rw[h3,h2];exact e3,e4,by rw[e4.length,TM]⟩
def Kp (s:PS)(b:List (Nat×List CV))(seg seg2:Nat->Own):Prop:=∀a,a<s.n->seg2 a=seg a\/((∀c,ZK s.r a=some c->c=.dead)/\((ZK s.z a=none/\∀j d,lkO s.o a j=some d->d=.unk)\/∃cs,(a,cs)∈b/\ZK s.z a=some cs.length))
theorem RS.bu{S:Sp}{W:Wt}{hv:List HV}{vs:List Value}{ρ:Rho}{cs:List CV}{K:List HV}{c1:Nat}{B:List (Nat×RC)}{A:List (Nat×List CV)}{L:Nat}{u:List (Nat×RC)}(hs:RS x s I seg l own H)(hT:TellsS H W S hv vs)(hok:okSp S=true)
    (hL:InstL (sg ρ s.n) S.vs hv s.c cs K c1 B)(hB:InstB (sg ρ s.n) S.bs 0 K c1 A L u)(M:∀i a,ZK ρ i=some (some a)->a<s.n)(hinj:InjR ρ)
    (O:J.H=H)(jn:J.n=s.n+S.bs.length)(jq:J.q=s.c+(cnt hv).length)(C:∀a,a<s.n->J.ν a=I.ν a)(P:∀c,c<s.c->J.κ c=I.κ c)(jC:Cnt J s.c (cnt hv))
    (G:∀i w,W i=some w->sg ρ s.n i<J.n/\J.ν (sg ρ s.n i)=w.1/\seg2 (sg ρ s.n i)=w.2)
    (hK:Kp s A seg seg2)(hz:∀p∈B++u,p.1<s.n->ZK s.z p.1=none/\∀j d,lkO s.o p.1 j=some d->d=.unk)(Q:∀p∈A,p.1<s.n->∃m,ZK s.z p.1=some m):
    VRs J cs vs/\RS x (buS s S A L (B++u)) J seg2 l ((List.range J.n).map seg2) H:=by
  obtain⟨t1,t2,t3,t4⟩:=hT _ J s.c _ _ _ _ _ _ _ ⟨O,λi w e=>⟨(G i w e).1,(G i w e).2.1⟩⟩ jC hL hB;obtain⟨i1,i2,i3⟩:=InstB_ix hB;have R:I.Le J:=⟨by rw[hs.H,O];exact Rz _,by rw[hs.n,jn];omega,λa ha=>C a (by rw[<-hs.n];exact ha),by rw[hs.q,jq];omega,λc hc=>P c (by rw[<-hs.q];exact hc)⟩
  -- rows are no cells
  have apart:∀p∈B++u,∀q∈A,q.1≠p.1:=λp b q D e=>by
    by_cases f:p.1<s.n
    . obtain⟨m,hm⟩:=Q q D (by rw[e];exact f);rw[e,(hz p b f).1]at hm;cases hm
    . obtain⟨k,g,U⟩:∃k∈rowIx S.vs++rowIB S.bs,p.1=sg ρ s.n k:=by
        rcases TR.1 b with b|b
        . obtain⟨k,g,e⟩:=InstL_ix hL p b;exact⟨k,by simp[g],e⟩
        . obtain⟨k,g,e⟩:=i1 p b;exact⟨k,by simp[g],e⟩
      obtain⟨j,n,ps,e1,e2,e3⟩:=i2 q D;have V:=ZST M (by rw[<-U];omega);have X:=ZST (i:=0+j) M (by rw[<-e2,e];omega);rw[U,V]at e;rw[e2,X]at e;have hkj:k=j:=(by omega);subst hkj;have:=Zd.1 (show allB (λk=>match S.bs[k]? with|some (.cells _ _)=>false|_=>true) (rowIx S.vs++rowIB S.bs)=true from hok) k g;rw[e1]at this;cases this
  have Y:∀p∈B++u,p.1<J.n/\RwOk H (J.ν p.1).2 (seg2 p.1) p.2:=λp b=>by
    obtain⟨i,w,e1,e2,e3,_⟩:=t4 p b;obtain⟨h1,h2,h3⟩:=G i w e1;rw[e2];exact⟨h1,by rw[h2,h3];exact e3⟩
  have E:∀{k:Nat} {c:RC},ZK ((B++u)++s.r) k=some c->(∃p∈B++u,p.1=k/\p.2=c)\/ZK s.r k=some c:=λ{k c} e=>by
    have key:∀(m:List (Nat×RC)),ZK (m++s.r) k=some c->(∃p∈m,p.1=k/\p.2=c)\/ZK s.r k=some c:=λm=>by
      induction m with
      |nil=>intro h;exact .inr h
      | cons p m ih=>
        intro h;rw[RB,ZH]at h;by_cases q:p.1=k
        . rw[TJ q]at h;cases h;exact .inl ⟨p,by simp,q,rfl⟩
        . rw[TK q]at h;exact(ih h).imp (fun⟨p',h1,h2⟩=>⟨p',by simp[h1],h2⟩) id
    exact key _ e
  refine⟨t2,hs.N,O,jn,by rw[jq];exact t1.symm,?_,λt c e=> ?_,λa m e=> ?_,λa o c e=> ?_,λc hc=> ?_,λk c e=> ?_,λk c e=> ?_,λk c j d e e2=> ?_⟩
  . rw[jn];rfl
  . exact(hs.sl t c e).imp id fun⟨v,h1,h2⟩=>⟨v,h1,h2.mono R⟩
  . rcases ZOz e with⟨p,b,hn,rfl,rfl⟩|e
    . obtain⟨h1,cur,T,h2,_,h3⟩:=t3.cur G b;exact⟨by rw[jn]at h1;exact h1,cur,T,h2,h3⟩
    . obtain⟨h1,cur,T,h2,h3⟩:=hs.ze a m e;have hb:a<(buS s S A L (B++u)).n:=Tj h1<|Rc _ _;rcases hK a h1 with g|⟨_,⟨g,_⟩|⟨cs,g,y⟩⟩
      . exact⟨hb,cur,T,by rw[g,C a h1];exact h2,h3⟩
      . rw[g]at e;cases e
      . obtain⟨_,cur,T,V,_,X⟩:=t3.cur G g;rw[y]at e;cases e;exact⟨hb,cur,T,V,X⟩
  . rcases ZGI e with⟨p,b,rfl,hpc⟩|⟨hno,e⟩
    . obtain⟨h1,cur,T,h2,h3,_⟩:=t3.cur G b;obtain⟨v,Z,f2⟩:=h3.get hpc;exact .inr ⟨by rw[jn]at h1;exact h1,cur,T,v,h2,Z,f2⟩
    . rcases hs.ce a o c e with h|⟨h1,cur,T,v,h2,h3,h4⟩
      . exact .inl h
      . have hb:a<(buS s S A L (B++u)).n:=Tj h1<|Rc _ _;rcases hK a h1 with g|⟨_,⟨g,y⟩|⟨cs,g,y⟩⟩
        . exact .inr ⟨hb,cur,T,v,by rw[g,C a h1];exact h2,h3,h4.mono R⟩
        . exact .inl<|y _ _ e
        . exfalso;obtain⟨_,cur',T',Z,f2⟩:=hs.ze a _ y;rw[h2]at Z;simp only[SS,Si,Obj.cells.injEq,and_true,Rj]at Z;obtain⟨rfl,_⟩:=Z;have V:=hno _ g rfl;have X:=(TC.1 h3).1;rw[TM,f2]at X;simp only at V;omega
  . obtain⟨h1,h2⟩:=hs.fx c hc;exact⟨by show c<L;rw[t1];omega,by rw[P c h1];exact h2⟩
  . rcases E e with⟨p,b,rfl,rfl⟩|e
    . obtain⟨h1,h2⟩:=Y p b;exact .inr ⟨by rw[jn]at h1;exact h1,by rw[O];exact h2⟩
    . rcases hs.rw k c e with h|⟨h1,h2⟩
      . exact .inl h
      . rcases hK k h1 with g|⟨g,_⟩
        . exact .inr ⟨Tj h1<|Rc _ _,by rw[O,g,C k h1,<-hs.H];exact h2⟩
        . exact .inl<|g c e
  . have nz:∀k,(∀q∈A,s.n<=q.1->q.1≠k)->ZK s.z k=none->ZK (zB s.n A s.z) k=none:=λk h1 h2=>by
      cases F:ZK (zB s.n A s.z) k with
      |none=>rfl
      | some m=>
        rcases ZOz F with⟨p,b,hn,e1,_⟩|e1
        . exact absurd e1<|h1 p b hn
        . rw[h2]at e1;cases e1
    rcases E e with⟨p,b,rfl,rfl⟩|e
    . refine .inr<|nz _ (λq D _=>apart p b q D) ?_;by_cases f:p.1<s.n
      . exact(hz p b f).1
      . cases F:ZK s.z p.1 with
        |none=>rfl
        |some m=>exact absurd (hs.ze _ _ F).1 f
    . rcases hs.rw k c e with h|⟨h1,_⟩
      . exact .inl h
      . rcases hs.rz k c e with h|h
        . exact .inl h
        . exact .inr<|nz _ (λq _ D e2=>by omega) h
  . rcases E e with⟨p,b,rfl,rfl⟩|e
    . rcases ZGI e2 with⟨q,D,h1,_⟩|⟨_,e2⟩
      . exact absurd h1<|apart p b q D
      . by_cases f:p.1<s.n
        . exact .inr<|(hz p b f).2 _ _ e2
        . rcases hs.ce _ _ _ e2 with h|⟨h1,_⟩
          . exact .inr h
          . exact absurd h1 f
    . rcases ZGI e2 with⟨q,D,h1,_⟩|⟨_,e2⟩
      . rcases hs.rw k c e with h|⟨f,_⟩
        . exact .inl h
        . obtain⟨m,hm⟩:=Q q D (by rw[h1];exact f);rcases hs.rz k c e with h|h
          . exact .inl h
          . rw[<-h1,hm]at h;cases h
      . exact hs.ro k c j d e e2
end
end Go.Pv
namespace Go.Ow
open Go.RowKit
section
variable{x:Cx}{ops:Array Oper}{Q:Exit->Act->World->Prop}{rest:List Oper}{l:Slots}{own:List Own}{H:Heaplet}{ty:TypeId}{d:Nat}{pos:String}{aft:Array Edge}
variable{fn:Func}{R:Value->List Own->Heaplet->Prop}{E:Value->Prop}{ex:Exit}{v:Value}
variable{ρ β:Type}{c:Operand}{as:Array Operand}{ts:Array TypeId}{f:FuncId}{vs:List Value}{As:List Sp}{B:ρ->List Sp}{T:TypeId}
end
def RetD (x:Cx)(fn:Func)(R:Value->List Own->Heaplet->Prop):Exit->Act->World->Prop:=
 bodyPostDIn Fence.wide 0 x.P fn λe w=>∃v K' H,e=.returned v/\R v K' H/\Mem x.w0 x.H0 x.S K'.flatten H w
section
variable{x:Cx}{ops:Array Oper}{Q:Exit->Act->World->Prop}{rest:List Oper}{l:Slots}{own:List Own}{H:Heaplet}{ty:TypeId}{d:Nat}{pos:String}{aft:Array Edge}
variable{fn:Func}{R:Value->List Own->Heaplet->Prop}{ex:Exit}{v:Value}
theorem ZQZ (c:ex=.ret\/ex=.normal)(h:JN x (Ret x fn R ex) l own H):JN x (RetD x fn R ex) l own H:=λa w d=>by
 have h:=h a w d;have k:∀(h:bodyPost x.P fn (λe f=>∃v K' b,e=.returned v/\R v K' b/\Mem x.w0 x.H0 x.S K'.flatten b f) .ret a w),RetD x fn R .ret a w:=λh=>by
  obtain⟨h1,v,h2,h3⟩:=h;show LeavesIn _ _ _ _ a.tmps _ a.defers .returning w;rw[h1];exact⟨v,h2,h3⟩
 rcases c with rfl|rfl
 . exact k h
 . exact k h
theorem ZQc{p:Operand}{g:FuncId}{cap:Array Value}(d:x.r=none)(e:evo l p=some (.func (.func g) #[] cap))(h:JL {x with ds:={target:=.fn (.func g) cap,args:=#[]}::x.ds} ops Q rest l own H):
 JL x ops Q (⟨none,.defer ⟨.value p,#[],#[]⟩,ty,pos,aft,none⟩::rest) l own H:=λa w b=>by
 simp only[wpLs,ZO,if_true];refine⟨λ_ _=>trivial,?_⟩;have c:(execOp a.eval ⟨none,.defer ⟨.value p,#[],#[]⟩,ty,pos,aft,none⟩).run x.P w=.ok (.defer {target:=.fn (.func g) cap,args:=#[]}) w:=by
  have e1:=ZM b e;generalize a.eval=ρ at e1|-;simp[execOp,resolve,e1,Deferred.ofValue,go_sem]
 rw[show(Fw x.r).round=none from d,Oper.semAt_none,c];exact h _ w ⟨b.size,by show _::a.defers=_::x.ds;rw[b.ds],b.slots,b.mem⟩
end
section
variable{x:Cx}{l:Slots}{own:List Own}{H:Heaplet}{ty t u:TypeId}{p q:Operand}{v:Value}
end
end Go.Ow
