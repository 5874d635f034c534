import Derived.Test.YtnahhdmkiffgnaaGreatDoorOwMb
import Derived.KernelRfl
import Derived.RecoverIn
import Derived.WideLaws
/-
  What is proved here: contracts said by lists of places: what is handed in, what comes back; rules for entering, leaving and calling that read these lists.
-/
set_option linter.unusedSimpArgs false
set_option linter.unusedVariables false
namespace Go.Ow
open Go.RowKit
class MonoC {α:Type} (R:Rep α):Prop where
  h:R.Mono
instance:MonoC RU8:=⟨RU8.mono⟩
instance:MonoC RU32:=⟨RU32.mono⟩
instance:MonoC RU64:=⟨RU64.mono⟩
instance:MonoC RInt:=⟨RInt.mono⟩
instance:MonoC RBool:=⟨RBool.mono⟩
instance:MonoC RStr:=⟨RStr.mono⟩
instance{α:Type}{R:Rep α}{n:Nat} [h:MonoC R]:MonoC (RSl R n):=⟨RSl.mono h.h⟩
instance:MonoC R_Call:=⟨R_Call.mono⟩
instance:MonoC R_Change:=⟨R_Change.mono⟩
instance:MonoC R_Deed:=⟨R_Deed.mono⟩
instance:MonoC R_Disk:=⟨R_Disk.mono⟩
instance:MonoC R_Entry:=⟨R_Entry.mono⟩
instance:MonoC R_Info:=⟨R_Info.mono⟩
instance:MonoC R_Label:=⟨R_Label.mono⟩
instance:MonoC R_Line:=⟨R_Line.mono⟩
instance:MonoC R_Object:=⟨R_Object.mono⟩
instance:MonoC R_Pair:=⟨R_Pair.mono⟩
instance:MonoC R_Part:=⟨R_Part.mono⟩
instance:MonoC R_Pool:=⟨R_Pool.mono⟩
instance:MonoC R_Ptr:=⟨R_Ptr.mono⟩
instance:MonoC R_Reply:=⟨R_Reply.mono⟩
instance:MonoC R_Signer:=⟨R_Signer.mono⟩
instance:MonoC R_Store:=⟨R_Store.mono⟩
instance:MonoC R_Stream:=⟨R_Stream.mono⟩
instance:MonoC R_Write:=⟨R_Write.mono⟩
instance:MonoC R_WriteO:=⟨R_WriteO.mono⟩
inductive Sp:Type 1 where
  |i (n:Int)
  |b (x:Bool)
  |w8 (x:UInt8)
  |w32 (x:UInt32)
  |w64 (x:UInt64)
  |s (l:List UInt8)
  |st (c:Nat)
  |fv (f:Nat)
  |cx {α:Type} (N:Bool) (R:Rep α) (hR:MonoC R) (n:Nat) (m:List α)
  |sx {α:Type} (N:Bool) (R:Rep α) (hR:MonoC R) (n:Nat) (m:List α)
  |rx {α:Type} (N:Bool) (R:Rep α) (hR:MonoC R) (E n:Nat) (m:List α)
@[reducible] def Sp.sl {α:Type} (N:Bool) (R:Rep α) [h:MonoC R] (n:Nat) (m:List α):Sp:=.sx N R h n m
@[reducible] def Sp.cl {α:Type} (N:Bool) (R:Rep α) [h:MonoC R] (n:Nat) (m:List α):Sp:=.cx N R h n m
@[reducible] def Sp.row {α:Type} (N:Bool) (R:Rep α) [h:MonoC R] (E n:Nat) (m:List α):Sp:=.rx N R h E n m
def sp_Part (N:Bool)(x:Part):List Sp:=[.st 5,.i x.Obj,.i x.Index,.w32 x.Iv,.w32 x.Tag,.sl N RU8 1 x.Data]
def sp_Stream (N:Bool)(x:Stream):List Sp:=[.st 5,.w32 x.Guid,.w32 x.Base,.sl N RU8 1 x.Key,.sl N R_Part 5 x.Parts,.sl N RU8 1 x.Sign]
def takeK:Nat→List Value→(List Value→List Value→Prop)→Prop
 |0,vs,k=>k [] vs
 |c+1,v::vs,k=>takeK c vs (λa b=>k (v::a) b)
 |_+1,[],k=>k [] []
theorem takeK_eq:∀(c:Nat) (vs:List Value) (k:List Value→List Value→Prop),takeK c vs k→k (vs.take c) (vs.drop c)
 |0,vs,k,h=>h
 |c+1,[],k,h=>h
 |c+1,v::vs,k,h=>takeK_eq c vs (λa b=>k (v::a) b) h
def fl:List Sp→List Value→List Value
 |[],_=> []
 | .st c::as,.agg cs::vs=>.agg ((fl as (cs.toList++vs)).take c).toArray::(fl as (cs.toList++vs)).drop c
 | .st _::_,_=> []
 | .sx .. ::as,v::vs=>v::fl as vs
 | .cx .. ::as,v::vs=>v::fl as vs
 | .fv f::as,_::vs=>.func (.func f) #[] #[]::fl as vs
 | .rx .. ::as,v::vs=>v::fl as vs
 | .i n::as,_::vs=>.int .i64 n::fl as vs
 | .b x::as,_::vs=>.bool x::fl as vs
 | .w8 x::as,_::vs=>.int .u8 (x.toNat:Int)::fl as vs
 | .w32 x::as,_::vs=>.int .u32 (x.toNat:Int)::fl as vs
 | .w64 x::as,_::vs=>.int .u64 (x.toNat:Int)::fl as vs
 | .s x::as,_::vs=>.string (Ow.bs x)::fl as vs
 |_::_,[]=> []
theorem fl_st{c:Nat}{as:List Sp}{cs:Array Value}{vs:List Value}(h:fl (.st c::as) (.agg cs::vs)=.agg cs::vs):
 fl as (cs.toList++vs)=cs.toList++vs∧(cs.toList++vs).take c=cs.toList∧(cs.toList++vs).drop c=vs:=by
 simp only[fl]at h
 obtain⟨h1,h2⟩:=List.cons.inj h
 have h3:=congrArg Array.toList (Value.agg.inj h1)
 rw[List.toList_toArray]at h3
 have h4:fl as (cs.toList++vs)=cs.toList++vs:=by
  conv=>lhs;rw[←List.take_append_drop c (fl as (cs.toList++vs)),h3,h2]
 exact⟨h4,by rw[←h4];exact h3,by rw[←h4];exact h2⟩
def Ent (H:Heaplet):List Sp→(List Value→Prop)→Prop
 |[],k=>k []
 | .st c::as,k=>Ent H as (λvs=>takeK c vs (λa b=>k (.agg a.toArray::b)))
 | .sx _ R hR n m::as,k=>∀(ao:Option Addr) (ln cap:Nat),IsSlice H R n (.slice ao ln cap) m→Ent H as (λvs=>k (.slice ao ln cap::vs))
 | .rx .. ::as,k=>True
 | .cx .. ::as,k=>True
 | .fv f::as,k=>Ent H as (λvs=>k (.func (.func f) #[] #[]::vs))
 | .i n::as,k=>Ent H as (λvs=>k (.int .i64 n::vs))
 | .b x::as,k=>Ent H as (λvs=>k (.bool x::vs))
 | .w8 x::as,k=>Ent H as (λvs=>k (.int .u8 (x.toNat:Int)::vs))
 | .w32 x::as,k=>Ent H as (λvs=>k (.int .u32 (x.toNat:Int)::vs))
 | .w64 x::as,k=>Ent H as (λvs=>k (.int .u64 (x.toNat:Int)::vs))
 | .s x::as,k=>Ent H as (λvs=>k (.string (Ow.bs x)::vs))
def Fit (H:Heaplet):List Sp→List Value→Prop
 |[],_=>True
 | .st _::as,.agg cs::vs=>Fit H as (cs.toList++vs)
 | .st _::_,_=>False
 | .sx _ R hR n m::as,v::vs=>IsSlice H R n v m∧Fit H as vs
 | .rx .. ::_,_=>False
 | .cx .. ::_,_=>False
 | .fv _::as,_::vs=>Fit H as vs
 | .i _::as,_::vs=>Fit H as vs
 | .b _::as,_::vs=>Fit H as vs
 | .w8 _::as,_::vs=>Fit H as vs
 | .w32 _::as,_::vs=>Fit H as vs
 | .w64 _::as,_::vs=>Fit H as vs
 | .s _::as,_::vs=>Fit H as vs
 |_::_,[]=>False
theorem ent_fit{H:Heaplet}:∀{as:List Sp} {vs:List Value} {k:List Value→Prop},Ent H as k→fl as vs=vs→Fit H as vs→k vs
  |[],vs,k,h,e,_=>by simp only[fl]at e;rw[←e];exact h
  | .st c::as,[],k,h,e,f=>f.elim
  | .st c::as,v::vs,k,h,e,f=>by
    cases v<;>first|exact f.elim|skip
    rename_i cs
    obtain⟨e1,e2,e3⟩:=fl_st e
    have:=takeK_eq _ _ _ (ent_fit (as:=as) (k:=λvs=>takeK c vs (λa b=>k (.agg a.toArray::b))) h e1 f)
    rw[e2,e3]at this
    simpa using this
  | .rx .. ::as,[],k,h,e,f=>f.elim
  | .rx .. ::as,_::_,k,h,e,f=>f.elim
  | .cx .. ::as,[],k,h,e,f=>f.elim
  | .cx .. ::as,_::_,k,h,e,f=>f.elim
  | .fv _::as,[],k,h,e,f=>f.elim
  | .fv _::as,_::vs,k,h,e,f=>by obtain⟨e1,e2⟩:=List.cons.inj e;subst e1;exact ent_fit (k:=λvs=>k (_::vs)) h e2 f
  | .sx _ R hR n m::as,[],k,h,e,f=>f.elim
  | .sx _ R hR n m::as,v::vs,k,h,e,f=>by
    obtain⟨ao,cap,rfl⟩:=IsSlice.val f.1
    exact ent_fit (as:=as) (k:=λvs=>k (_::vs)) (h ao m.length cap f.1) (List.cons.inj e).2 f.2
  | .i _::as,[],k,h,e,f=>f.elim
  | .i _::as,_::vs,k,h,e,f=>by obtain⟨e1,e2⟩:=List.cons.inj e;subst e1;exact ent_fit (k:=λvs=>k (_::vs)) h e2 f
  | .b _::as,[],k,h,e,f=>f.elim
  | .b _::as,_::vs,k,h,e,f=>by obtain⟨e1,e2⟩:=List.cons.inj e;subst e1;exact ent_fit (k:=λvs=>k (_::vs)) h e2 f
  | .w8 _::as,[],k,h,e,f=>f.elim
  | .w8 _::as,_::vs,k,h,e,f=>by obtain⟨e1,e2⟩:=List.cons.inj e;subst e1;exact ent_fit (k:=λvs=>k (_::vs)) h e2 f
  | .w32 _::as,[],k,h,e,f=>f.elim
  | .w32 _::as,_::vs,k,h,e,f=>by obtain⟨e1,e2⟩:=List.cons.inj e;subst e1;exact ent_fit (k:=λvs=>k (_::vs)) h e2 f
  | .w64 _::as,[],k,h,e,f=>f.elim
  | .w64 _::as,_::vs,k,h,e,f=>by obtain⟨e1,e2⟩:=List.cons.inj e;subst e1;exact ent_fit (k:=λvs=>k (_::vs)) h e2 f
  | .s _::as,[],k,h,e,f=>f.elim
  | .s _::as,_::vs,k,h,e,f=>by obtain⟨e1,e2⟩:=List.cons.inj e;subst e1;exact ent_fit (k:=λvs=>k (_::vs)) h e2 f
def HN:Bool→Heaplet→Heaplet→Heaplet
 |true,H0,H=>New H0 H
 |false,_,H=>H
def Out (H0 H:Heaplet):List Sp→List Value→List Own→Prop
 |[],_,Ks=>Ks= []
 | .st _::bs,.agg cs::vs,Ks=>Out H0 H bs (cs.toList++vs) Ks
 | .st _::_,_,_=>False
 | .sx N R hR n m::bs,v::vs,Ks=>IsSlice (HN N H0 H) R n v m∧Out H0 H bs vs Ks
 | .rx N R hR E n m::bs,v::vs,K::Ks=>(∃B,RowOf (HN N H0 H) R B E n v m K)∧Out H0 H bs vs Ks
 | .rx .. ::_,_::_,[]=>False
 | .cx N R hR n m::bs,v::vs,Ks=>((∃ao ln,v=.slice ao ln ln)∧IsSlice (HN N H0 H) R n v m)∧Out H0 H bs vs Ks
 | .fv _::_,_,_=>False
 | .i _::bs,_::vs,Ks=>Out H0 H bs vs Ks
 | .b _::bs,_::vs,Ks=>Out H0 H bs vs Ks
 | .w8 _::bs,_::vs,Ks=>Out H0 H bs vs Ks
 | .w32 _::bs,_::vs,Ks=>Out H0 H bs vs Ks
 | .w64 _::bs,_::vs,Ks=>Out H0 H bs vs Ks
 | .s _::bs,_::vs,Ks=>Out H0 H bs vs Ks
 |_::_,[],_=>False
def Bnd (H0 H:Heaplet)(B:Nat)(own:List Own):List Sp→(List Value→List Own→Prop)→Prop
 |[],k=>k [] own
 | .st c::bs,k=>Bnd H0 H B own bs (λvs o=>takeK c vs (λa b=>k (.agg a.toArray::b) o))
 | .sx true R hR n m::bs,k=>∀(ao:Option Addr) (ln cap:Nat),IsSlice (New H0 H) R n (.slice ao ln cap) m→Bnd H0 H B own bs (λvs o=>k (.slice ao ln cap::vs) o)
 | .sx false R hR n m::bs,k=>∀(ao:Option Addr) (ln cap:Nat),IsSlice H R n (.slice ao ln cap) m→Bnd H0 H B own bs (λvs o=>k (.slice ao ln cap::vs) o)
 | .rx true R hR E n m::bs,k=>∀(ao:Option Addr) (ln cap:Nat) (K:Own),RowOf (New H0 H) R B E n (.slice ao ln cap) m K→Bnd H0 H B own bs (λvs o=>k (.slice ao ln cap::vs) (K::o))
 | .rx false R hR E n m::bs,k=>∀(ao:Option Addr) (ln cap:Nat) (K:Own),RowOf H R B E n (.slice ao ln cap) m K→Bnd H0 H B own bs (λvs o=>k (.slice ao ln cap::vs) (K::o))
 | .cx true R hR n m::bs,k=>∀(ao:Option Addr) (ln:Nat),IsSlice (New H0 H) R n (.slice ao ln ln) m→Bnd H0 H B own bs (λvs o=>k (.slice ao ln ln::vs) o)
 | .cx false R hR n m::bs,k=>∀(ao:Option Addr) (ln:Nat),IsSlice H R n (.slice ao ln ln) m→Bnd H0 H B own bs (λvs o=>k (.slice ao ln ln::vs) o)
 | .fv _::bs,k=>True
 | .i n::bs,k=>Bnd H0 H B own bs (λvs o=>k (.int .i64 n::vs) o)
 | .b x::bs,k=>Bnd H0 H B own bs (λvs o=>k (.bool x::vs) o)
 | .w8 x::bs,k=>Bnd H0 H B own bs (λvs o=>k (.int .u8 (x.toNat:Int)::vs) o)
 | .w32 x::bs,k=>Bnd H0 H B own bs (λvs o=>k (.int .u32 (x.toNat:Int)::vs) o)
 | .w64 x::bs,k=>Bnd H0 H B own bs (λvs o=>k (.int .u64 (x.toNat:Int)::vs) o)
 | .s x::bs,k=>Bnd H0 H B own bs (λvs o=>k (.string (Ow.bs x)::vs) o)
theorem bnd_out{H0 H1 H:Heaplet}{B:Nat}{own:List Own}(hle:Hle H0 H1):∀{bs:List Sp} {vs:List Value} {Ks:List Own} {k:List Value→List Own→Prop},
    Bnd H0 H B own bs k→fl bs vs=vs→Out H1 H bs vs Ks→(∀p∈Ks.flatten,B≤p.1)→k vs (Ks++own)
  |[],vs,Ks,k,h,e,f,hB=>by simp only[fl]at e;rw[←e,show Ks= []from f];exact h
  | .st c::bs,[],Ks,k,h,e,f,hB=>f.elim
  | .st c::bs,v::vs,Ks,k,h,e,f,hB=>by
    cases v<;>first|exact f.elim|skip
    rename_i cs
    obtain⟨e1,e2,e3⟩:=fl_st e
    have:=takeK_eq _ _ _ (bnd_out hle (k:=λvs o=>takeK c vs (λa b=>k (.agg a.toArray::b) o)) h e1 f hB)
    rw[e2,e3]at this
    simpa using this
  | .sx N R hR n m::bs,[],Ks,k,h,e,f,hB=>f.elim
  | .sx true R hR n m::bs,v::vs,Ks,k,h,e,f,hB=>by
    obtain⟨ao,cap,rfl⟩:=IsSlice.val f.1
    exact bnd_out hle (k:=λvs o=>k (_::vs) o) (h ao m.length cap (IsSlice.mono hR.h (New.call hle) f.1)) (List.cons.inj e).2 f.2 hB
  | .sx false R hR n m::bs,v::vs,Ks,k,h,e,f,hB=>by
    obtain⟨ao,cap,rfl⟩:=IsSlice.val f.1
    exact bnd_out hle (k:=λvs o=>k (_::vs) o) (h ao m.length cap f.1) (List.cons.inj e).2 f.2 hB
  | .rx N R hR E n m::bs,[],Ks,k,h,e,f,hB=>f.elim
  | .rx N R hR E n m::bs,v::vs,[],k,h,e,f,hB=>f.elim
  | .rx true R hR E n m::bs,v::vs,K::Ks,k,h,e,f,hB=>by
    obtain⟨⟨B',f1⟩,f2⟩:=f
    obtain⟨ao,cap,rfl⟩:=RowOf.val f1
    have f3:=RowOf.base (RowOf.mono hR.h (New.call hle) f1) (λp hp=>hB p (by simp[hp]))
    exact bnd_out hle (k:=λvs o=>k (_::vs) (K::o)) (h ao m.length cap K f3) (List.cons.inj e).2 f2 (λp hp=>hB p (by rw[List.flatten_cons];exact List.mem_append_right _ hp))
  | .rx false R hR E n m::bs,v::vs,K::Ks,k,h,e,f,hB=>by
    obtain⟨⟨B',f1⟩,f2⟩:=f
    obtain⟨ao,cap,rfl⟩:=RowOf.val f1
    have f3:=RowOf.base f1 (λp hp=>hB p (by simp[hp]))
    exact bnd_out hle (k:=λvs o=>k (_::vs) (K::o)) (h ao m.length cap K f3) (List.cons.inj e).2 f2 (λp hp=>hB p (by rw[List.flatten_cons];exact List.mem_append_right _ hp))
  | .fv _::bs,[],Ks,k,h,e,f,hB=>f.elim
  | .fv _::bs,_::_,Ks,k,h,e,f,hB=>f.elim
  | .cx N R hR n m::bs,[],Ks,k,h,e,f,hB=>f.elim
  | .cx true R hR n m::bs,v::vs,Ks,k,h,e,f,hB=>by
    obtain⟨⟨⟨ao,ln,rfl⟩,f1⟩,f2⟩:=f
    exact bnd_out hle (k:=λvs o=>k (_::vs) o) (h ao ln (IsSlice.mono hR.h (New.call hle) f1)) (List.cons.inj e).2 f2 hB
  | .cx false R hR n m::bs,v::vs,Ks,k,h,e,f,hB=>by
    obtain⟨⟨⟨ao,ln,rfl⟩,f1⟩,f2⟩:=f
    exact bnd_out hle (k:=λvs o=>k (_::vs) o) (h ao ln f1) (List.cons.inj e).2 f2 hB
  | .i _::bs,[],Ks,k,h,e,f,hB=>f.elim
  | .i _::bs,_::vs,Ks,k,h,e,f,hB=>by obtain⟨e1,e2⟩:=List.cons.inj e;subst e1;exact bnd_out hle (k:=λvs o=>k (_::vs) o) h e2 f hB
  | .b _::bs,[],Ks,k,h,e,f,hB=>f.elim
  | .b _::bs,_::vs,Ks,k,h,e,f,hB=>by obtain⟨e1,e2⟩:=List.cons.inj e;subst e1;exact bnd_out hle (k:=λvs o=>k (_::vs) o) h e2 f hB
  | .w8 _::bs,[],Ks,k,h,e,f,hB=>f.elim
  | .w8 _::bs,_::vs,Ks,k,h,e,f,hB=>by obtain⟨e1,e2⟩:=List.cons.inj e;subst e1;exact bnd_out hle (k:=λvs o=>k (_::vs) o) h e2 f hB
  | .w32 _::bs,[],Ks,k,h,e,f,hB=>f.elim
  | .w32 _::bs,_::vs,Ks,k,h,e,f,hB=>by obtain⟨e1,e2⟩:=List.cons.inj e;subst e1;exact bnd_out hle (k:=λvs o=>k (_::vs) o) h e2 f hB
  | .w64 _::bs,[],Ks,k,h,e,f,hB=>f.elim
  | .w64 _::bs,_::vs,Ks,k,h,e,f,hB=>by obtain⟨e1,e2⟩:=List.cons.inj e;subst e1;exact bnd_out hle (k:=λvs o=>k (_::vs) o) h e2 f hB
  | .s _::bs,[],Ks,k,h,e,f,hB=>f.elim
  | .s _::bs,_::vs,Ks,k,h,e,f,hB=>by obtain⟨e1,e2⟩:=List.cons.inj e;subst e1;exact bnd_out hle (k:=λvs o=>k (_::vs) o) h e2 f hB
def PostC{ρ:Type}(q:Bool)(H:Heaplet)(B:ρ→List Sp)(r:ρ)(u:Value)(K:List Own)(H':Heaplet):Prop:=∃vs,u=pack vs∧fl (B r) vs=vs∧Out H H' (B r) vs K∧(q=true→H'=H)
def Con{ρ:Type}(P:Program)(f:FuncId)(q:Bool)(As:List Sp)(o:Option ρ)(B:ρ→List Sp):Prop:=
 ∀H,Ent H As (λvs=>∀r,o=some r→Does P f vs.toArray [] H (PostC q H B r))
theorem Con.does{ρ:Type}{P:Program}{f:FuncId}{q:Bool}{As:List Sp}{o:Option ρ}{B:ρ→List Sp}{H:Heaplet}{vs:List Value}{r:ρ}
 (C:Con P f q As o B)(e:fl As vs=vs)(h:Fit H As vs)(hr:o=some r):Does P f vs.toArray [] H (PostC q H B r):=ent_fit (C H) e h r hr
section rules
variable{x:Cx}{ops:Array Oper}{Q:Exit→Act→World→Prop}{rest:List Oper}{l:Slots}{own:List Own}{H:Heaplet}{ty:TypeId}{d:Nat}{pos:String}{aft:Array Edge}
def prep (l:Slots)(c:Operand)(as:List Operand)(d N:Nat):Option (Nat×List Value):=match evo l c with
  | some (.func (.func f) ⟨[]⟩ ⟨[]⟩)=>match evs l as with
    |some vs=>bif Nat.blt d N then some (f,vs)else none
    |none=>none
  |_=>none
theorem prep_ok{l:Slots}{c:Operand}{as:List Operand}{d N f:Nat}{vs:List Value}(h:prep l c as d N=some (f,vs)):
 evo l c=some (.func (.func f) #[] #[])∧as.mapM (evo l)=some vs∧Nat.blt d N=true:=by
 unfold prep at h
 split at h
 · rename_i h1
   split at h
   · rename_i h2
     cases hb:Nat.blt d N with
     |true=>rw[hb]at h;cases h;exact⟨h1,evs_ok h2,rfl⟩
     |false=>rw[hb]at h;cases h
   · cases h
 · cases h
variable{ρ β:Type}{o:Option ρ}{k:ρ→Option β}{c:Operand}{as:Array Operand}{ts:Array TypeId}{f:FuncId}{vs:List Value}{As:List Sp}{B:ρ→List Sp}
theorem JL.con'{y:ρ}(hy:o=some y)(he:Enters x.P f)(hp:prep l c as.toList d x.n=some (f,vs))(C:Con x.P f false As o B)(e:fl As vs=vs)(hA:Fit H As vs)
 (h:∀H',Hle H H'→Bnd x.H0 H' x.w0.heap.size own (B y) (λus o'=>JL x ops Q rest ((d,pack us)::l) o' H')):
 JL x ops Q (⟨some d,.call ⟨.value c,as,ts⟩,ty,pos,aft,none⟩::rest) l own H:=λa w hh=>by
 obtain⟨h1,h2,h3⟩:=prep_ok hp
 refine JL.call he h1 h2 (C.does e hA hy) h3 (λv K' H' hR hle hf=> ?_) a w hh
 obtain⟨us,rfl,e2,ho,-⟩:=hR
 exact bnd_out hh.mem.le (k:=λus o'=>JL x ops Q rest ((d,pack us)::l) o' H') (h H' hle) e2 ho hf
theorem JL.con{r':β}(hx:Option.bind o k=some r')(he:Enters x.P f)(hp:prep l c as.toList d x.n=some (f,vs))(C:Con x.P f false As o B)(e:fl As vs=vs)(hA:Fit H As vs)
 (h:∀y,o=some y→k y=some r'→∀H',Hle H H'→Bnd x.H0 H' x.w0.heap.size own (B y) (λus o'=>JL x ops Q rest ((d,pack us)::l) o' H')):
 JL x ops Q (⟨some d,.call ⟨.value c,as,ts⟩,ty,pos,aft,none⟩::rest) l own H:=by
 obtain⟨y,hy,hk⟩:=bnd_some hx
 exact JL.con' hy he hp C e hA (h y hy hk)
theorem JL.conQ'{y:ρ}(hy:o=some y)(he:Enters x.P f)(hp:prep l c as.toList d x.n=some (f,vs))(C:Con x.P f true As o B)(e:fl As vs=vs)(hA:Fit H As vs)
 (h:Bnd x.H0 H x.w0.heap.size own (B y) (λus o'=>JL x ops Q rest ((d,pack us)::l) o' H)):
 JL x ops Q (⟨some d,.call ⟨.value c,as,ts⟩,ty,pos,aft,none⟩::rest) l own H:=λa w hh=>by
 obtain⟨h1,h2,h3⟩:=prep_ok hp
 refine JL.call he h1 h2 (C.does e hA hy) h3 (λv K' H' hR hle hf=> ?_) a w hh
 obtain⟨us,rfl,e2,ho,hq⟩:=hR
 have:=hq rfl
 subst this
 exact bnd_out hh.mem.le (k:=λus o'=>JL x ops Q rest ((d,pack us)::l) o' _) h e2 ho hf
theorem JL.conQ{r':β}(hx:Option.bind o k=some r')(he:Enters x.P f)(hp:prep l c as.toList d x.n=some (f,vs))(C:Con x.P f true As o B)(e:fl As vs=vs)(hA:Fit H As vs)
 (h:∀y,o=some y→k y=some r'→Bnd x.H0 H x.w0.heap.size own (B y) (λus o'=>JL x ops Q rest ((d,pack us)::l) o' H)):
 JL x ops Q (⟨some d,.call ⟨.value c,as,ts⟩,ty,pos,aft,none⟩::rest) l own H:=by
 obtain⟨y,hy,hk⟩:=bnd_some hx
 exact JL.conQ' hy he hp C e hA (h y hy hk)
def Cst:List Sp→Prop
 |[]=>True
 | .sx .. ::_=>False
 | .cx .. ::_=>False
 | .rx _ R _ _ _ _::bs=>R.Const∧Cst bs
 |_::bs=>Cst bs
theorem cst_out{H0 H H2 H3:Heaplet}:∀{bs:List Sp} {vs:List Value} {Ks:List Own},Cst bs→Out H0 H bs vs Ks→Out H2 H3 bs vs Ks
 |[],_,_,_,f=>f
 | .st _::bs,[],_,_,f=>f.elim
 | .st _::bs,v::vs,_,hc,f=>by cases v<;>first|exact f.elim|exact cst_out (bs:=bs) hc f
 | .sx .. ::_,_,_,hc,_=>hc.elim
 | .cx .. ::_,_,_,hc,_=>hc.elim
 | .fv _::_,[],_,_,f=>f.elim
 | .fv _::_,_::_,_,_,f=>f.elim
 | .rx .. ::_,[],_,_,f=>f.elim
 | .rx .. ::_,_::_,[],_,f=>f.elim
 | .rx .. ::bs,_::_,_::_,hc,f=>⟨⟨f.1.choose,RowOf.const hc.1 f.1.choose_spec⟩,cst_out (bs:=bs) hc.2 f.2⟩
 | .i _::_,[],_,_,f=>f.elim
 | .i _::bs,_::_,_,hc,f=>cst_out (bs:=bs) hc f
 | .b _::_,[],_,_,f=>f.elim
 | .b _::bs,_::_,_,hc,f=>cst_out (bs:=bs) hc f
 | .w8 _::_,[],_,_,f=>f.elim
 | .w8 _::bs,_::_,_,hc,f=>cst_out (bs:=bs) hc f
 | .w32 _::_,[],_,_,f=>f.elim
 | .w32 _::bs,_::_,_,hc,f=>cst_out (bs:=bs) hc f
 | .w64 _::_,[],_,_,f=>f.elim
 | .w64 _::bs,_::_,_,hc,f=>cst_out (bs:=bs) hc f
 | .s _::_,[],_,_,f=>f.elim
 | .s _::bs,_::_,_,hc,f=>cst_out (bs:=bs) hc f
theorem JL.conL'{q:Bool}{y:ρ}(hy:o=some y)(he:Enters x.P f)(hp:prep l c as.toList d x.n=some (f,vs))(C:Con x.P f q As o B)(e:fl As vs=vs)(hA:∀H2,Hle H H2→Lent own H2→Fit H2 As vs)(hc:Cst (B y))
 (h:Bnd x.H0 H x.w0.heap.size own (B y) (λus o'=>JL x ops Q rest ((d,pack us)::l) o' H)):
 JL x ops Q (⟨some d,.call ⟨.value c,as,ts⟩,ty,pos,aft,none⟩::rest) l own H:=λa w hh=>by
 obtain⟨h1,h2,h3⟩:=prep_ok hp
 refine JL.callL3 (R:=λH2=>PostC q H2 B y) he h1 h2 (λH2 h4 h5=>C.does e (hA H2 h4 h5) hy) h3 (λH2 v K' H' hR hf=> ?_) a w hh
 obtain⟨us,rfl,e2,ho,-⟩:=hR
 exact bnd_out (Hle.refl _) (k:=λus o'=>JL x ops Q rest ((d,pack us)::l) o' H) h e2 (cst_out hc ho) hf
theorem JL.conL{q:Bool}{r':β}(hx:Option.bind o k=some r')(he:Enters x.P f)(hp:prep l c as.toList d x.n=some (f,vs))(C:Con x.P f q As o B)(e:fl As vs=vs)(hA:∀H2,Hle H H2→Lent own H2→Fit H2 As vs)(hc:∀y,Cst (B y))
 (h:∀y,o=some y→k y=some r'→Bnd x.H0 H x.w0.heap.size own (B y) (λus o'=>JL x ops Q rest ((d,pack us)::l) o' H)):
 JL x ops Q (⟨some d,.call ⟨.value c,as,ts⟩,ty,pos,aft,none⟩::rest) l own H:=by
 obtain⟨y,hy,hk⟩:=bnd_some hx
 exact JL.conL' hy he hp C e hA (hc y) (h y hy hk)
def rets (l:Slots):List ResultVar→Option (List Value)
  |[]=>some []
  | .tmp t::r=>match lk l t with
    | some v=>match rets l r with
      |some vs=>some (v::vs)
      |none=>none
    |none=>none
  | .cell .. ::_=>none
theorem rets_ok{P:Program}{l:Slots}{own:List Own}:∀{rs:List ResultVar} {vs:List Value},rets l rs=some vs→Res P l own rs vs
  |[],vs,h=>by simp[rets]at h;rw[h];exact rfl
  | .tmp t::r,vs,h=>by
    simp only[rets]at h
    split at h
    · rename_i h1
      split at h
      · rename_i h2;cases h;exact Res.tmp h1 (rets_ok h2)
      · cases h
    · cases h
  | .cell .. ::_,_,h=>by cases h
def pickL:List Nat→List Own→Option (List Own×List Own)
  |[],own=>some ([],own)
  | i ::is,own=>match own[i]? with
    | some s=>match pickL is (own.eraseIdx i)with
      |some (K,r)=>some (s::K,r)
      |none=>none
    |none=>none
theorem pickL_ok:∀{is:List Nat} {own K r:List Own},pickL is own=some (K,r)→own.flatten.Perm (K.flatten++r.flatten)
  |[],own,K,r,h=>by cases h;exact picks0
  | i ::is,own,K,r,h=>by
    simp only[pickL]at h
    split at h
    · rename_i h1
      split at h
      · rename_i h2;cases h;exact picks i h1 (pickL_ok h2)
      · cases h
    · cases h
def outp (l:Slots)(own:List Own)(rs:List ResultVar)(e:Exit)(ds:List Deferred)(is:List Nat):Option (List Value×List Own):=match ds with
  | []=>match e with
    | .ret=>match rets l rs,pickL is own with
      |some vs,some (K,_)=>some (vs,K)
      |_,_=>none
    | .normal=>match rets l rs,pickL is own with
      |some vs,some (K,_)=>some (vs,K)
      |_,_=>none
    |_=>none
  |_=>none
theorem outp_ok{P:Program}{l:Slots}{own:List Own}{rs:List ResultVar}{e:Exit}{ds:List Deferred}{is:List Nat}{vs:List Value}{K:List Own}(h:outp l own rs e ds is=some (vs,K)):
 ds= []∧(e=.ret∨e=.normal)∧Res P l own rs vs∧∃r:List Own,own.flatten.Perm (K.flatten++r.flatten):=by
 unfold outp at h
 split at h
 · split at h
   · split at h
     · rename_i h1 h2;cases h;exact⟨rfl,.inl rfl,rets_ok h1,_,pickL_ok h2⟩
     · cases h
   · split at h
     · rename_i h1 h2;cases h;exact⟨rfl,.inr rfl,rets_ok h1,_,pickL_ok h2⟩
     · cases h
   · cases h
 · cases h
variable{fn:Func}{ex:Exit}{z r:ρ}{Ks:List Own}
theorem JN.con (is:List Nat)(ho:outp l own fn.results.toList ex x.ds is=some (vs,Ks))(hx:some z=some r)(hs:fl (B z) vs=vs)(hf:Out x.H0 H (B z) vs Ks):
 JN x (Ret x fn (PostC false x.H0 B r) ex) l own H:=by
 obtain⟨h1,h2,h3,q,h4⟩:=outp_ok (P:=x.P) ho
 obtain rfl:=Option.some.inj hx
 exact JN.outP h2 (by simp) h1 h3 h4 ⟨vs,rfl,hs,hf,λh=>by cases h⟩
theorem JN.conQ (is:List Nat)(ho:outp l own fn.results.toList ex x.ds is=some (vs,Ks))(hx:some z=some r)(hs:fl (B z) vs=vs)(hf:Out x.H0 x.H0 (B z) vs Ks):
 JN x (Ret x fn (PostC true x.H0 B r) ex) l own x.H0:=by
 obtain⟨h1,h2,h3,q,h4⟩:=outp_ok (P:=x.P) ho
 obtain rfl:=Option.some.inj hx
 exact JN.outP h2 (by simp) h1 h3 h4 ⟨vs,rfl,hs,hf,λh=>rfl⟩
end rules
def Exo (H0 H:Heaplet):List Sp→(List Value→List Own→Prop)→Prop
 |[],k=>k [] []
 | .st c::bs,k=>Exo H0 H bs (λvs o=>takeK c vs (λa b=>k (.agg a.toArray::b) o))
 | .sx true R hR n m::bs,k=>∃(ao:Option Addr) (ln cap:Nat),IsSlice (New H0 H) R n (.slice ao ln cap) m∧Exo H0 H bs (λvs o=>k (.slice ao ln cap::vs) o)
 | .sx false R hR n m::bs,k=>∃(ao:Option Addr) (ln cap:Nat),IsSlice H R n (.slice ao ln cap) m∧Exo H0 H bs (λvs o=>k (.slice ao ln cap::vs) o)
 | .rx true R hR E n m::bs,k=>∃(ao:Option Addr) (ln cap:Nat) (K:Own),RowOf (New H0 H) R 0 E n (.slice ao ln cap) m K∧Exo H0 H bs (λvs o=>k (.slice ao ln cap::vs) (K::o))
 | .rx false R hR E n m::bs,k=>∃(ao:Option Addr) (ln cap:Nat) (K:Own),RowOf H R 0 E n (.slice ao ln cap) m K∧Exo H0 H bs (λvs o=>k (.slice ao ln cap::vs) (K::o))
 | .cx true R hR n m::bs,k=>∃(ao:Option Addr) (ln:Nat),IsSlice (New H0 H) R n (.slice ao ln ln) m∧Exo H0 H bs (λvs o=>k (.slice ao ln ln::vs) o)
 | .cx false R hR n m::bs,k=>∃(ao:Option Addr) (ln:Nat),IsSlice H R n (.slice ao ln ln) m∧Exo H0 H bs (λvs o=>k (.slice ao ln ln::vs) o)
 | .fv _::_,_=>False
 | .i n::bs,k=>Exo H0 H bs (λvs o=>k (.int .i64 n::vs) o)
 | .b x::bs,k=>Exo H0 H bs (λvs o=>k (.bool x::vs) o)
 | .w8 x::bs,k=>Exo H0 H bs (λvs o=>k (.int .u8 (x.toNat:Int)::vs) o)
 | .w32 x::bs,k=>Exo H0 H bs (λvs o=>k (.int .u32 (x.toNat:Int)::vs) o)
 | .w64 x::bs,k=>Exo H0 H bs (λvs o=>k (.int .u64 (x.toNat:Int)::vs) o)
 | .s x::bs,k=>Exo H0 H bs (λvs o=>k (.string (Ow.bs x)::vs) o)
theorem takeK_of{c:Nat}:∀{vs:List Value} {k:List Value→List Value→Prop},k (vs.take c) (vs.drop c)→takeK c vs k:=by
  induction c with
  |zero=>intro vs k h;exact h
  | succ c ih=>
    intro vs k h
    cases vs with
    |nil=>exact h
    |cons v vs=>exact ih (k:=λa b=>k (v::a) b) h
theorem exo_out{H0 H:Heaplet}:∀{bs:List Sp} {vs:List Value} {Ks:List Own} {k:List Value→List Own→Prop},fl bs vs=vs→Out H0 H bs vs Ks→k vs Ks→Exo H0 H bs k
  |[],vs,Ks,k,e,f,h=>by simp only[fl]at e;rw[←e,show Ks= []from f]at h;exact h
  | .st c::bs,[],Ks,k,e,f,h=>f.elim
  | .st c::bs,v::vs,Ks,k,e,f,h=>by
    cases v<;>first|exact f.elim|skip
    rename_i cs
    obtain⟨e1,e2,e3⟩:=fl_st e
    refine exo_out (bs:=bs) (k:=λvs o=>takeK c vs (λa b=>k (.agg a.toArray::b) o)) e1 f (takeK_of ?_)
    rw[e2,e3];simpa using h
  | .sx N R hR n m::bs,[],Ks,k,e,f,h=>f.elim
  | .sx true R hR n m::bs,v::vs,Ks,k,e,f,h=>by
    obtain⟨ao,cap,rfl⟩:=IsSlice.val f.1
    exact⟨ao,_,cap,f.1,exo_out (bs:=bs) (k:=λvs o=>k (_::vs) o) (List.cons.inj e).2 f.2 h⟩
  | .sx false R hR n m::bs,v::vs,Ks,k,e,f,h=>by
    obtain⟨ao,cap,rfl⟩:=IsSlice.val f.1
    exact⟨ao,_,cap,f.1,exo_out (bs:=bs) (k:=λvs o=>k (_::vs) o) (List.cons.inj e).2 f.2 h⟩
  | .rx N R hR E n m::bs,[],Ks,k,e,f,h=>f.elim
  | .rx N R hR E n m::bs,v::vs,[],k,e,f,h=>f.elim
  | .rx true R hR E n m::bs,v::vs,K::Ks,k,e,f,h=>by
    obtain⟨⟨B',f1⟩,f2⟩:=f
    obtain⟨ao,cap,rfl⟩:=RowOf.val f1
    exact⟨ao,_,cap,K,RowOf.weak (Nat.zero_le _) f1,exo_out (bs:=bs) (k:=λvs o=>k (_::vs) (K::o)) (List.cons.inj e).2 f2 h⟩
  | .rx false R hR E n m::bs,v::vs,K::Ks,k,e,f,h=>by
    obtain⟨⟨B',f1⟩,f2⟩:=f
    obtain⟨ao,cap,rfl⟩:=RowOf.val f1
    exact⟨ao,_,cap,K,RowOf.weak (Nat.zero_le _) f1,exo_out (bs:=bs) (k:=λvs o=>k (_::vs) (K::o)) (List.cons.inj e).2 f2 h⟩
  | .fv _::bs,[],Ks,k,e,f,h=>f.elim
  | .fv _::bs,_::_,Ks,k,e,f,h=>f.elim
  | .cx N R hR n m::bs,[],Ks,k,e,f,h=>f.elim
  | .cx true R hR n m::bs,v::vs,Ks,k,e,f,h=>by
    obtain⟨⟨⟨ao,ln,rfl⟩,f1⟩,f2⟩:=f
    exact⟨ao,ln,f1,exo_out (bs:=bs) (k:=λvs o=>k (_::vs) o) (List.cons.inj e).2 f2 h⟩
  | .cx false R hR n m::bs,v::vs,Ks,k,e,f,h=>by
    obtain⟨⟨⟨ao,ln,rfl⟩,f1⟩,f2⟩:=f
    exact⟨ao,ln,f1,exo_out (bs:=bs) (k:=λvs o=>k (_::vs) o) (List.cons.inj e).2 f2 h⟩
  | .i _::bs,[],Ks,k,e,f,h=>f.elim
  | .i _::bs,_::vs,Ks,k,e,f,h=>by obtain⟨e1,e2⟩:=List.cons.inj e;subst e1;exact exo_out (bs:=bs) (k:=λvs o=>k (_::vs) o) e2 f h
  | .b _::bs,[],Ks,k,e,f,h=>f.elim
  | .b _::bs,_::vs,Ks,k,e,f,h=>by obtain⟨e1,e2⟩:=List.cons.inj e;subst e1;exact exo_out (bs:=bs) (k:=λvs o=>k (_::vs) o) e2 f h
  | .w8 _::bs,[],Ks,k,e,f,h=>f.elim
  | .w8 _::bs,_::vs,Ks,k,e,f,h=>by obtain⟨e1,e2⟩:=List.cons.inj e;subst e1;exact exo_out (bs:=bs) (k:=λvs o=>k (_::vs) o) e2 f h
  | .w32 _::bs,[],Ks,k,e,f,h=>f.elim
  | .w32 _::bs,_::vs,Ks,k,e,f,h=>by obtain⟨e1,e2⟩:=List.cons.inj e;subst e1;exact exo_out (bs:=bs) (k:=λvs o=>k (_::vs) o) e2 f h
  | .w64 _::bs,[],Ks,k,e,f,h=>f.elim
  | .w64 _::bs,_::vs,Ks,k,e,f,h=>by obtain⟨e1,e2⟩:=List.cons.inj e;subst e1;exact exo_out (bs:=bs) (k:=λvs o=>k (_::vs) o) e2 f h
  | .s _::bs,[],Ks,k,e,f,h=>f.elim
  | .s _::bs,_::vs,Ks,k,e,f,h=>by obtain⟨e1,e2⟩:=List.cons.inj e;subst e1;exact exo_out (bs:=bs) (k:=λvs o=>k (_::vs) o) e2 f h
def QQ:Bool→Heaplet→Heaplet→Prop
 |true,H,H'=>H=H'
 |false,_,_=>True
theorem Con.doesX{ρ:Type}{P:Program}{f:FuncId}{q:Bool}{As:List Sp}{o:Option ρ}{B:ρ→List Sp}{H:Heaplet}{vs:List Value}{r:ρ}
 (C:Con P f q As o B)(e:fl As vs=vs)(h:Fit H As vs)(hr:o=some r):Does P f vs.toArray [] H (λu K' H'=>Exo H H' (B r) (λus Ks=>u=pack us∧K'=Ks∧QQ q H H')):=
 (C.does e h hr).mono λv K' H' ⟨us,e1,e2,e3,e4⟩=>exo_out e2 e3 ⟨e1,rfl,by cases q with|true=>exact(e4 rfl).symm|false=>trivial⟩
def numK:List Nat→List Value→(Slots→Prop)→Prop
 |n::ns,v::vs,k=>numK ns vs (λl=>k ((n,v)::l))
 |_,_,k=>k []
theorem numK_eq:∀(ns:List Nat) (vs:List Value) (k:Slots→Prop),numK ns vs k→k (ns.zip vs)
 |[],vs,k,h=>by simpa[numK]using h
 |n::ns,[],k,h=>h
 |n::ns,v::vs,k,h=>numK_eq ns vs (λl=>k ((n,v)::l)) h
theorem lk_zip:∀(vs:List Value) (k n i:Nat) (v:Value),lk ((List.range' k n).zip vs) i=some v→k≤i∧vs[i-k]? =some v
  |[],k,n,i,v,h=>by simp[lk]at h
  |u::vs,k,0,i,v,h=>by simp[lk]at h
  | u ::vs,k,n+1,i,v,h=>by
    simp only[List.range'_succ,List.zip_cons_cons,lk]at h
    cases hb:Nat.beq k i with
    | true=>
      have e:k=i:=Nat.eq_of_beq_eq_true hb
      subst e;rw[hb]at h;simp at h;subst h;simp
    | false=>
      have ne:k≠i:=by intro e;subst e;simp at hb
      rw[hb]at h
      obtain⟨h1,h2⟩:=lk_zip vs (k+1) n i v h
      refine⟨by omega,?_⟩
      rw[show i-k=(i-(k+1))+1 by omega];simpa using h2
theorem enter_slots{vs:List Value}{N i:Nat}{v:Value}(hn:vs.length≤N)(e:lk ((List.range' 0 24).zip vs) i=some v):((vs.toArray++Array.replicate (N-vs.toArray.size) undef)[i]?).getD undef=v:=by
 obtain⟨_,h2⟩:=lk_zip vs 0 24 i v e
 have hi:i<vs.length:=by
  rcases Nat.lt_or_ge i vs.length with h'|h'
  · exact h'
  · simp[List.getElem?_eq_none h']at h2
 have h3:vs[i]=v:=by simpa[List.getElem?_eq_getElem hi]using h2
 have:i<(vs.toArray++Array.replicate (N-vs.toArray.size) undef).size:=by simp;omega
 simp only[Array.getElem?_eq_getElem this,Option.getD_some]
 rw[Array.getElem_append_left (by simpa using hi)]
 simpa using h3
theorem Does.enterC{P:Program}{f:FuncId}{fn:Func}{c:Code}{vs:List Value}{H:Heaplet}{R:Value→List Own→Heaplet→Prop}
 (hf:P.funcs[f]? =some fn)(hb:fn.body=some c)(hn:Nat.ble vs.length fn.ntmps=true)
 (h:numK [0,1,2,3,4,5,6,7,8,9,10,11,12,13,14,15,16,17,18,19,20,21,22,23] vs (λl=>∀w,
  JC {P:=P,r:=none,n:=fn.ntmps,w0:=w,H0:=H,S:=[],ds:=[]} c (Ret {P:=P,r:=none,n:=fn.ntmps,w0:=w,H0:=H,S:=[],ds:=[]} fn R) l [] H)):Does P f vs.toArray [] H R:=λw ha hk=>by
 have hn:=Nat.le_of_ble_eq_true hn
 have h:=numK_eq _ _ _ h
 refine callsIn_of_wp hf hb trivial ?_
 refine h w _ w ⟨?_,rfl,λi v e=>enter_slots hn e,⟨ha,hk,Kept.refl _ _,λp hp=>.inl (List.mem_map_of_mem hp),Hle.refl _,λ_ _ _=>rfl,Mem.soft0⟩⟩
 simp;omega
section ways
variable{α:Type}{A B:Option α}{r:α}{x:Cx}{ops:Array Oper}{Q:Exit→Act→World→Prop}{K:Act→World→Prop}{rest:List Oper}{l:Slots}{own:List Own}{H sH:Heaplet}{b:Bool}
theorem JC.ifx{c:Tmp}{d e:Code}(hx:_root_.cond b A B=some r)(hc:lk l c=some (.bool b))(ht:b=true→A=some r→JC x d Q ((c,.bool true)::l) own H)(hf:b=false→B=some r→JC x e Q ((c,.bool false)::l) own H):
 JC x (.cond (.tmp c) d e) Q l own H:=JC.condB hc (λh=>ht h (cond_t h hx)) (λh=>hf h (cond_f h hx))
theorem JL.gX (t:Nat)(hx:_root_.cond b A B=some r)(hb:lk l t=some (.bool b))(ht:b=true→A=some r→JL x ops Q rest ((t,.bool true)::l) own H)
 (hf:b=false→B=some r→JL x ops Q rest ((t,.bool false)::l) own H):JL x ops Q rest l own H:=JL.gSplit hb (λh=>ht h (cond_t h hx)) (λh=>hf h (cond_f h hx))
theorem JB.gX{so:Segs}{fuel:Nat}{listed:Array Bool}{KK:Act→World→Prop}(t:Nat)(hx:_root_.cond b A B=some r)(hb:lk l t=some (.bool b))(ht:b=true→A=some r→JB x ops KK so sH fuel listed ((t,.bool true)::l) own H)
 (hf:b=false→B=some r→JB x ops KK so sH fuel listed ((t,.bool false)::l) own H):JB x ops KK so sH fuel listed l own H:=JB.gSplit hb (λh=>ht h (cond_t h hx)) (λh=>hf h (cond_f h hx))
end ways
section many
variable{x:Cx}{ops:Array Oper}{K:Act→World→Prop}{l l':Slots}{own:List Own}{H sH:Heaplet}{so:Segs}
def markAll (listed:Array Bool):List Nat→Array Bool
 |[]=>listed
 |i::is=>markAll (listed.setIfInBounds i true) is
def okAll (ops:Array Oper)(listed:Array Bool):List Nat→Bool
 |[]=>true
 |i::is=>(Region.free .any ops listed i&&(Region.ready .any ops listed).contains i)&&okAll ops (listed.setIfInBounds i true) is
def gate (ops:List Oper)(l:Slots):Option (Nat×Bool)→Option Bool
  |none=>some true
  | some (j,b)=>match ops[j]? with
    | some oj=>match oj.dst with
      | some t=>match lk l t with
        |some (.bool true)=>some b
        |some (.bool false)=>bif b then some false else some true
        |some (.tuple ⟨[]⟩)=>some false
        |_=>none
      |none=>none
    |none=>none
def valAll (tb:Tab)(N:Nat)(ops:List Oper)(own:List Own):List Nat→Slots→List Nat→List Nat→List Nat→Option (Slots×List Nat×List Nat×List Nat)
  |[],l,hs,e1,e2=>some (l,hs,e1,e2)
  | i ::is,l,hs,e1,e2=>match ops[i]? with
    | some ⟨some d,op,ty,pos,aft,g⟩=>bif Nat.blt d N then match gate ops l g with
        | some true=>match vop tb own l hs op with
          |some (v,hs',f1,f2)=>valAll tb N ops own is ((d,v)::l) hs' (f1++e1) (f2++e2)
          |none=>none
        |some false=>valAll tb N ops own is ((d,undef)::l) hs e1 e2
        |none=>none
      else none
    |_=>none
theorem valAll_len{tb:Tab}{N:Nat}{os:List Oper}{own:List Own}:∀{is:List Nat} {l l':Slots} {hs hs' e1 e2 f1 f2:List Nat},valAll tb N os own is l hs e1 e2=some (l',hs',f1,f2)→∃a b,a.length=b.length∧f1=a++e1∧f2=b++e2
  |[],_,_,_,_,_,_,_,_,h=>by cases h;exact⟨[],[],rfl,rfl,rfl⟩
  | i ::is,l,l',hs,hs',e1,e2,f1,f2,h=>by
    simp only[valAll]at h
    split at h
    · rename_i d op ty pos aft g _
      cases hb:Nat.blt d N with
      |false=>rw[hb]at h;cases h
      | true=>
        rw[hb,cond_true]at h
        split at h
        · split at h
          · rename_i v1 hs1 g1 g2 hv
            obtain⟨a,b,h1,h2,h3⟩:=valAll_len h
            have h4:=vop_len hv
            exact⟨a++g1,b++g2,by rw[List.length_append,List.length_append,h1,h4],by rw[h2,List.append_assoc],by rw[h3,List.append_assoc]⟩
          · cases h
        · exact valAll_len h
        · cases h
    · cases h
theorem gate_yes{l:Slots}{g:Option (Nat×Bool)}(h:gate ops.toList l g=some true):guardYes ops l g:=by
  cases g with
  |none=>trivial
  | some g=>
    obtain⟨j,b⟩:=g
    simp only[gate]at h
    split at h
    · rename_i h1
      split at h
      · rename_i h2
        split at h
        · rename_i h3;cases h;exact⟨_,_,by simpa using h1,h2,h3⟩
        · rename_i h3
          cases b with
          |true=>cases h
          |false=>exact⟨_,_,by simpa using h1,h2,h3⟩
        · cases h
        · cases h
      · cases h
    · cases h
theorem JB.run' {tb:Tab}(ht:tb.Ok x.P):∀{is:List Nat} {listed:Array Bool} {l l':Slots} {hs hs' e1 e2 f1 f2:List Nat} {fuel:Nat},okAll ops listed is=true→is.all (noTurn so)=true→
    valAll tb x.n ops.toList (segsOf [] so) is l hs e1 e2=some (l',hs',f1,f2)→f1=f2→e1.length=e2.length→JB x ops K so sH fuel (markAll listed is) l' own H→JB x ops K so sH (fuel+is.length) listed l own H
  |[],_,_,_,_,_,_,_,_,_,_,_,_,h,_,_,g=>by cases h;exact g
  | i ::is,listed,l,l',hs,hs',e1,e2,f1,f2,fuel,hok,hnt,h,he,hl,gg=>by
    simp only[valAll]at h
    simp only[okAll,Bool.and_eq_true]at hok
    simp only[List.all_cons,Bool.and_eq_true]at hnt
    split at h
    · rename_i d op ty pos aft g ho
      have ho':ops[i]? =some ⟨some d,op,ty,pos,aft,g⟩:=by simpa using ho
      cases hb:Nat.blt d x.n with
      |false=>rw[hb]at h;cases h
      | true=>
        rw[hb,cond_true]at h
        split at h
        · rename_i hg
          split at h
          · rename_i v1 hs1 g1 g2 hv
            have hlen:=vop_len hv
            obtain⟨a,b,h1,h2,h3⟩:=valAll_len h
            have e:a++(g1++e1)=b++(g2++e2):=by rw[←h2,←h3,he]
            have e':=(List.append_inj e h1).2
            obtain⟨e'',_⟩:=List.append_inj e' hlen
            exact JB.val [] ho' (vop_ok ht hv e'') (JB.run' ht hok.2 hnt.2 h he (by simp[hlen,hl]) gg) ⟨hok.1.2,hok.1.1,rfl⟩ (gate_yes hg) rfl hnt.1 hb
          · cases h
        · rename_i hg
          cases g with
          |none=>cases hg
          | some g=>
            obtain⟨j,bq⟩:=g
            simp only[gate]at hg
            split at hg
            · rename_i h1
              split at hg
              · rename_i h2
                split at hg
                · rename_i h3;cases hg
                  exact JB.no ho' (by simpa using h1) h2 h3 rfl (JB.run' ht hok.2 hnt.2 h he hl gg) ⟨hok.1.2,hok.1.1,rfl⟩ hnt.1 hb
                · rename_i h3
                  cases bq with
                  |true=>exact JB.no ho' (by simpa using h1) h2 h3 rfl (JB.run' ht hok.2 hnt.2 h he hl gg) ⟨hok.1.2,hok.1.1,rfl⟩ hnt.1 hb
                  |false=>cases hg
                · rename_i h3
                  exact JB.noU ho' (by simpa using h1) h2 h3 (JB.run' ht hok.2 hnt.2 h he hl gg) ⟨hok.1.2,hok.1.1,rfl⟩ hnt.1 hb
                · cases hg
              · cases hg
            · cases hg
        · cases h
    · cases h
theorem JB.run{tb:Tab}{F:Nat}{listed:Array Bool}{E:List Nat}(n:Nat)(is hs:List Nat)(ht:tb.Ok x.P)(hv:valAll tb x.n ops.toList (segsOf [] so) is l hs [] []=some (l',[],E,E))
 (h:JB x ops K so sH (F-n) (markAll listed is) l' own H)(hok:okAll ops listed is=true:=by kernel_rfl)(hnt:is.all (noTurn so)=true:=by rfl)(hn:(Nat.beq is.length n&&Nat.ble n F)=true:=by rfl):
 JB x ops K so sH F listed l own H:=by
 rw[Bool.and_eq_true]at hn
 have h1:=Nat.eq_of_beq_eq_true hn.1
 have h2:=Nat.le_of_ble_eq_true hn.2
 have:=JB.run' ht hok hnt hv rfl rfl h
 rw[h1,Nat.sub_add_cancel h2]at this
 exact this
end many
section cells
variable{x:Cx}{l:Slots}{own:List Own}{H:Heaplet}{vs:List Value}{ρ:Type}{B:ρ→List Sp}{fn:Func}{ex:Exit}{z r:ρ}{Ks:List Own}
def retC (tb:Tab)(l:Slots)(own:List Own):List ResultVar→List Nat→Option (List Value×List Nat×List Nat)
  |[],_=>some ([],[],[])
  | .tmp t::r,hs=>match lk l t with
    | some v=>match retC tb l own r hs with
      |some (vs,e1,e2)=>some (v::vs,e1,e2)
      |none=>none
    |none=>none
  | .cell t T::r,i::hs=>match lk l t with
    | some (.pointer (some ⟨b,0,none⟩))=>match own[i]? with
      | some [(b',.cells cur tt fr)]=>match tl T tb.shp with
        | some (true,n)=>bif Nat.beq n cur.toList.length then match retC tb l own r hs with
            |some (vs,e1,e2)=>some (.agg cur::vs,b::e1,b'::e2)
            |none=>none
          else none
        | some (false,_)=>match cur.toList[0]? with
          | some v=>match retC tb l own r hs with
            |some (vs,e1,e2)=>some (v::vs,b::e1,b'::e2)
            |none=>none
          |none=>none
        |none=>none
      |_=>none
    |_=>none
  | .cell .. ::_,[]=>none
theorem retC_ok{P:Program}{tb:Tab}(ht:tb.Ok P):∀{rs:List ResultVar} {hs:List Nat} {vs:List Value} {e1 e2:List Nat},retC tb l own rs hs=some (vs,e1,e2)→e1=e2→Res P l own rs vs
  |[],_,_,_,_,h,_=>by cases h;exact rfl
  | .tmp t::r,hs,vs,e1,e2,h,he=>by
    simp only[retC]at h
    split at h
    · rename_i h1
      split at h
      · rename_i h2;cases h;exact Res.tmp h1 (retC_ok ht h2 he)
      · cases h
    · cases h
  | .cell t T::r,[],vs,e1,e2,h,he=>by cases h
  | .cell t T ::r,i::hs,vs,e1,e2,h,he=>by
    simp only[retC]at h
    split at h
    · rename_i h1
      split at h
      · rename_i h2
        split at h
        · rename_i n h3
          rename_i b _ _ cur _ _ _
          cases hb:Nat.beq n (Array.toList cur).length with
          | true=>
            rw[hb,cond_true]at h
            split at h
            · rename_i h4
              cases h
              obtain⟨c1,c2⟩:=List.cons.inj he
              subst c1
              have:=Nat.eq_of_beq_eq_true hb
              exact Res.cellN i h1 h2 (by rw[←this];exact tl_ok (p:=λa b=>shapeOf P a=some b) ht.shp h3) (retC_ok ht h4 c2)
            · cases h
          |false=>rw[hb]at h;cases h
        · rename_i n h3
          split at h
          · rename_i h5
            split at h
            · rename_i h4
              cases h
              obtain⟨c1,c2⟩:=List.cons.inj he
              subst c1
              exact Res.cell1 i h1 h2 (tl_ok (p:=λa b=>shapeOf P a=some b) ht.shp h3) h5 (retC_ok ht h4 c2)
            · cases h
          · cases h
        · cases h
      · cases h
    · cases h
def outc (tb:Tab)(l:Slots)(own:List Own)(rs:List ResultVar)(e:Exit)(ds:List Deferred)(hs is:List Nat):Option (List Value×List Own×List Nat×List Nat):=match ds with
  | []=>match e with
    | .ret=>match retC tb l own rs hs,pickL is own with
      |some (vs,e1,e2),some (K,_)=>some (vs,K,e1,e2)
      |_,_=>none
    | .normal=>match retC tb l own rs hs,pickL is own with
      |some (vs,e1,e2),some (K,_)=>some (vs,K,e1,e2)
      |_,_=>none
    |_=>none
  |_=>none
theorem outc_ok{P:Program}{tb:Tab}(ht:tb.Ok P){rs:List ResultVar}{e:Exit}{ds:List Deferred}{hs is:List Nat}{K:List Own}{E:List Nat}(h:outc tb l own rs e ds hs is=some (vs,K,E,E)):
 ds= []∧(e=.ret∨e=.normal)∧Res P l own rs vs∧∃r:List Own,own.flatten.Perm (K.flatten++r.flatten):=by
 unfold outc at h
 split at h
 · split at h
   · split at h
     · rename_i h1 h2;cases h;exact⟨rfl,.inl rfl,retC_ok ht h1 rfl,_,pickL_ok h2⟩
     · cases h
   · split at h
     · rename_i h1 h2;cases h;exact⟨rfl,.inr rfl,retC_ok ht h1 rfl,_,pickL_ok h2⟩
     · cases h
   · cases h
 · cases h
variable{tb:Tab}{E:List Nat}
theorem JN.conC (hs is:List Nat)(ht:tb.Ok x.P)(ho:outc tb l own fn.results.toList ex x.ds hs is=some (vs,Ks,E,E))(hx:some z=some r)(hv:fl (B z) vs=vs)(hf:Out x.H0 H (B z) vs Ks):
 JN x (Ret x fn (PostC false x.H0 B r) ex) l own H:=by
 obtain⟨h1,h2,h3,q,h4⟩:=outc_ok ht ho
 obtain rfl:=Option.some.inj hx
 exact JN.outP h2 (by simp) h1 h3 h4 ⟨vs,rfl,hv,hf,λh=>by cases h⟩
theorem JN.conCQ (hs is:List Nat)(ht:tb.Ok x.P)(ho:outc tb l own fn.results.toList ex x.ds hs is=some (vs,Ks,E,E))(hx:some z=some r)(hv:fl (B z) vs=vs)(hf:Out x.H0 x.H0 (B z) vs Ks):
 JN x (Ret x fn (PostC true x.H0 B r) ex) l own x.H0:=by
 obtain⟨h1,h2,h3,q,h4⟩:=outc_ok ht ho
 obtain rfl:=Option.some.inj hx
 exact JN.outP h2 (by simp) h1 h3 h4 ⟨vs,rfl,hv,hf,λh=>rfl⟩
end cells
section cuts
variable{x:Cx}{Q:Exit→Act→World→Prop}{l l0 l':Slots}{own o0 o':List Own}{H g':Heaplet}{c:Code}{τ β:Type}{o:Option τ}{k:τ→Option β}{r:β}
def selL (l:Slots):List Nat→Option Slots
  |[]=>some []
  | i ::is=>match lk l i with
    | some v=>match selL l is with
      |some q=>some ((i,v)::q)
      |none=>none
    |none=>none
def selO (own:List Own):List Nat→Option (List Own)
  |[]=>some []
  | i ::is=>match own[i]? with
    | some s=>match selO own is with
      |some q=>some (s::q)
      |none=>none
    |none=>none
def keysOf:Slots→List Nat
 |[]=> []
 |(k,_)::r=>k::keysOf r
theorem selL_sub{l:Slots}:∀{l':Slots},selL l (keysOf l')=some l'→Sub l' l
  |[],_=>trivial
  | (k,v)::q,h=>by
    simp only[keysOf,selL]at h
    split at h
    · rename_i h1
      split at h
      · rename_i h2
        have h3:=Option.some.inj h
        obtain⟨h4,h5⟩:=List.cons.inj h3
        simp only[Prod.mk.injEq,true_and]at h4
        subst h4;subst h5
        exact⟨h1,selL_sub h2⟩
      · cases h
    · cases h
theorem JC.cutX (hx:Option.bind o k=some r)(ks js:List Nat)(hs:selL l ks=some l0)(ho:selO own js=some o0)(I:τ→Slots→List Own→Slots→List Own→Heaplet→Prop)
 (h2:∀t,o=some t→k t=some r→∀l o g,I t l0 o0 l o g→JN x (Q .normal) l o g)
 (h1:∀t,k t=some r→o=some t→JC x c (Exit.then (HoldsI x (I t l0 o0)) Q) l own H):JC x c Q l own H:=by
 obtain⟨t,ht,hk⟩:=bnd_some hx
 exact JC.cut (I t l0 o0) (h2 t ht hk) (h1 t hk ht)
theorem JN.cutR{I:Slots→List Own→Heaplet→Prop}(hI:I l' o' g')(hl:selL l (keysOf l')=some l')(ho:o'=own)(hg:g'=H):
 JN x (Exit.then (HoldsI x I) Q .normal) l own H:=JN.cut hI (selL_sub hl) ho hg
theorem JC.loopX{σ:Type}{body:σ→Option (σ ⊕ τ)}{s0:σ}{t:τ}{lh:Slots}(ks js:List Nat)(hs:selL l ks=some l0)(ho:selO own js=some o0)(I:Slots→List Own→σ→Slots→List Own→Heaplet→Prop)
 (hx:Go.Ow.loop body s0=some t)(h0:I l0 o0 s0 lh own H)(hl:selL l (keysOf lh)=some lh)
 (round:∀n s l o g,I l0 o0 s l o g→∀q,body s=some q→Stp body n t q→JC x c (Exit.then (HoldsI x (λl o g=>∃s,I l0 o0 s l o g∧run body n s=some t)) Q) l o g):JC x (.loop c) Q l own H:=by
 refine JC.loopI (λn l o g=>∃s,I l0 o0 s l o g∧run body n s=some t) FUEL ?_ ⟨s0,h0,hx⟩ (selL_sub hl) ?_
 · rintro l o g ⟨s,_,h⟩;exact run_zero h
 · rintro n l o g ⟨s,hI,hr⟩
   obtain⟨q,h1,h2⟩:=run_some hr
   exact round n s l o g hI q h1 h2
end cuts
end Go.Ow
namespace Go.Ow
variable{α β:Type}
end Go.Ow
namespace Go.Ow
structure data_place where
  set:Int
  obj:Int
  index:Int
instance:Inhabited data_place:=⟨⟨default,default,default⟩⟩
end Go.Ow
namespace Go.Ow
open Go.RowKit
def R_data_place:Rep data_place:=λH cs x=>cs= [.int .i64 x.set,.int .i64 x.obj,.int .i64 x.index]
theorem R_data_place.mono:R_data_place.Mono:=λ_ _ _ _ _ h=>h
instance:MonoC R_data_place:=⟨R_data_place.mono⟩
section rules
variable{x:Cx}{l:Slots}{own:List Own}{H:Heaplet}{ty t u:TypeId}{p q:Operand}{v:Value}{e:Option Int}{n:Nat}{vs:Value}
theorem run_eqNil{P:Program}{w:World}{t E:TypeId}{a:Option Addr}(hu:P.underlying t=some (.pointer E)):(Op.equal t (.pointer a) (.pointer none)).run P w=.ok a.isNone w:=by
 have key:∀k,(Op.equalIn (k+1) t (.pointer a) (.pointer none)).run P w=.ok a.isNone w:=λk=>by
  unfold Op.equalIn
  rw[Sem.run_bind,run_underlying hu]
  cases a<;>rfl
 exact key 9999
def spn{α:Type}:List α→Option (List α)
  |[]=>some []
  | a::r=>match spn r with
    |some q=>some (a::q)
    |none=>none
theorem spn_eq{α:Type}:∀{l q:List α},spn l=some q→q=l
  |[],q,h=>by cases h;rfl
  | a::r,q,h=>by
    simp only[spn]at h
    split at h
    · rename_i h1;cases h;rw[spn_eq h1]
    · cases h
theorem R.ldHF{T b o n:Nat}{cs:List Value}(k:Nat){vs:List Value}(hs:shapeOf x.P T=some (true,n))(h1:evo l p=some (.pointer (some ⟨b,o+k,none⟩)))(ha:∀j u,cs[j]? =some u→H b (o+j)=some u)
 (hv:spn ((cs.drop k).take n)=some vs)(hn:vs.length=n):Runs x (.load T p) ty l own H (.agg vs.toArray):=R.ldHE k hs h1 ha (spn_eq hv) hn
variable{ops:Array Oper}{Q:Exit→Act→World→Prop}{rest:List Oper}{HF:Heaplet}{d:Nat}{pos:String}{aft:Array Edge}
end rules
end Go.Ow
namespace Go.Ow
open Go.RowKit
section
variable{x:Cx}{ops:Array Oper}{Q:Exit→Act→World→Prop}{rest:List Oper}{l:Slots}{own:List Own}{H:Heaplet}{ty:TypeId}{d:Nat}{pos:String}{aft:Array Edge}
variable{fn:Func}{R:Value→List Own→Heaplet→Prop}{E:Value→Prop}{ex:Exit}{v:Value}
def refV (T:TypeId)(e:Int):Value:=.iface T (.agg #[.int .i64 e])
variable{ρ β:Type}{c:Operand}{as:Array Operand}{ts:Array TypeId}{f:FuncId}{vs:List Value}{As:List Sp}{B:ρ→List Sp}{T:TypeId}
end
end Go.Ow
namespace Go.Ow
open Go.RowKit
def valOf (T:TypeId):Option Int→Value
 |none=>.nilIface
 |some e=>refV T e
section
variable{x:Cx}{ops:Array Oper}{Q:Exit→Act→World→Prop}{rest:List Oper}{l:Slots}{own:List Own}{H:Heaplet}{ty:TypeId}{d:Nat}{pos:String}{aft:Array Edge}
variable{fn:Func}{R:Value→List Own→Heaplet→Prop}{ex:Exit}{v:Value}
end
section
variable{x:Cx}{l:Slots}{own:List Own}{H:Heaplet}{ty t u:TypeId}{p q:Operand}{v:Value}
end
end Go.Ow
