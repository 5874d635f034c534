import Derived.Test.YtgiefadcpnegcaaGreatOwMb
import Derived.KernelRfl
import Derived.RecoverIn
import Derived.WideLaws
import Derived.Test.YtgiefadcpnegcaaGreatOwMa
/-
  What is proved here: contracts said by lists of places: what is handed in, what comes back; rules for entering, leaving and calling that read these lists.
-/
set_option linter.unusedSimpArgs false
set_option linter.unusedVariables false
namespace Go.Ow
open Go.RowKit
class MonoC {α:Type} (R:Rep α):Prop where
  h:R.Mono
instance:MonoC RU8:=⟨RU8.mono⟩
instance:MonoC RU32:=⟨RU32.mono⟩
instance:MonoC RU64:=⟨RU64.mono⟩
instance:MonoC RInt:=⟨RInt.mono⟩
instance:MonoC RBool:=⟨RBool.mono⟩
instance:MonoC RStr:=⟨RStr.mono⟩
instance{α:Type}{R:Rep α}{n:Nat} [h:MonoC R]:MonoC (RSl R n):=⟨RSl.mono h.h⟩
instance:MonoC R_Call:=⟨R_Call.mono⟩
instance:MonoC R_Change:=⟨R_Change.mono⟩
instance:MonoC R_Deed:=⟨R_Deed.mono⟩
instance:MonoC R_Disk:=⟨R_Disk.mono⟩
instance:MonoC R_Entry:=⟨R_Entry.mono⟩
instance:MonoC R_Info:=⟨R_Info.mono⟩
instance:MonoC R_Label:=⟨R_Label.mono⟩
instance:MonoC R_Line:=⟨R_Line.mono⟩
instance:MonoC R_Object:=⟨R_Object.mono⟩
instance:MonoC R_Pair:=⟨R_Pair.mono⟩
instance:MonoC R_Part:=⟨R_Part.mono⟩
instance:MonoC R_Pool:=⟨R_Pool.mono⟩
instance:MonoC R_Ptr:=⟨R_Ptr.mono⟩
instance:MonoC R_Reply:=⟨R_Reply.mono⟩
instance:MonoC R_Signer:=⟨R_Signer.mono⟩
instance:MonoC R_Store:=⟨R_Store.mono⟩
instance:MonoC R_Stream:=⟨R_Stream.mono⟩
instance:MonoC R_Write:=⟨R_Write.mono⟩
instance:MonoC R_WriteO:=⟨R_WriteO.mono⟩
inductive Sp:Type 1 where
  |i (n:Int)
  |b (x:Bool)
  |w8 (x:UInt8)
  |w32 (x:UInt32)
  |w64 (x:UInt64)
  |s (l:List UInt8)
  |st (c:Nat)
  |fv (f:Nat)
  |cx {α:Type} (N:Bool) (R:Rep α) (hR:MonoC R) (n:Nat) (m:List α)
  |sx {α:Type} (N:Bool) (R:Rep α) (hR:MonoC R) (n:Nat) (m:List α)
  |rx {α:Type} (N:Bool) (R:Rep α) (hR:MonoC R) (E n:Nat) (m:List α)
@[reducible] def Sp.sl {α:Type} (N:Bool) (R:Rep α) [h:MonoC R] (n:Nat) (m:List α):Sp:=.sx N R h n m
@[reducible] def Sp.cl {α:Type} (N:Bool) (R:Rep α) [h:MonoC R] (n:Nat) (m:List α):Sp:=.cx N R h n m
@[reducible] def Sp.row {α:Type} (N:Bool) (R:Rep α) [h:MonoC R] (E n:Nat) (m:List α):Sp:=.rx N R h E n m
def sp_Disk (N:Bool)(x:Disk):List Sp:=[.st 2,.sl N (RSl RU8 1) 1 x.Blocks,.sl N R_Write 2 x.Waits]
def sp_Ptr (N:Bool)(x:Ptr):List Sp:=[.st 5,.i x.At,.w32 x.Birth,.w32 x.Iv,.w32 x.Tag,.w32 x.Sum]
def sp_Store (N:Bool)(x:Store):List Sp:=[.st 5,.sl N (RSl RU8 1) 1 x.Disk.Blocks,.sl N R_Write 2 x.Disk.Waits,.sl N RU8 1 x.Space,.w32 x.Epoch,.w32 x.Count]
def takeK:Nat→List Value→(List Value→List Value→Prop)→Prop
 |0,vs,k=>k [] vs
 |c+1,v::vs,k=>takeK c vs (λa b=>k (v::a) b)
 |_+1,[],k=>k [] []
theorem takeK_eq:∀(c:Nat) (vs:List Value) (k:List Value→List Value→Prop),takeK c vs k→k (vs.take c) (vs.drop c)
 |0,vs,k,h=>h
 |c+1,[],k,h=>h
 |c+1,v::vs,k,h=>takeK_eq c vs (λa b=>k (v::a) b) h
def fl:List Sp→List Value→List Value
 |[],_=> []
 | .st c::as,.agg cs::vs=>.agg ((fl as (cs.toList++vs)).take c).toArray::(fl as (cs.toList++vs)).drop c
 | .st _::_,_=> []
 | .sx .. ::as,v::vs=>v::fl as vs
 | .cx .. ::as,v::vs=>v::fl as vs
 | .fv f::as,_::vs=>.func (.func f) #[] #[]::fl as vs
 | .rx .. ::as,v::vs=>v::fl as vs
 | .i n::as,_::vs=>.int .i64 n::fl as vs
 | .b x::as,_::vs=>.bool x::fl as vs
 | .w8 x::as,_::vs=>.int .u8 (x.toNat:Int)::fl as vs
 | .w32 x::as,_::vs=>.int .u32 (x.toNat:Int)::fl as vs
 | .w64 x::as,_::vs=>.int .u64 (x.toNat:Int)::fl as vs
 | .s x::as,_::vs=>.string (Ow.bs x)::fl as vs
 |_::_,[]=> []
theorem fl_st{c:Nat}{as:List Sp}{cs:Array Value}{vs:List Value}(h:fl (.st c::as) (.agg cs::vs)=.agg cs::vs):
 fl as (cs.toList++vs)=cs.toList++vs∧(cs.toList++vs).take c=cs.toList∧(cs.toList++vs).drop c=vs:=by
 simp only[fl]at h
 obtain⟨h1,h2⟩:=List.cons.inj h
 have h3:=congrArg Array.toList (Value.agg.inj h1)
 rw[List.toList_toArray]at h3
 have h4:fl as (cs.toList++vs)=cs.toList++vs:=by
  conv=>lhs;rw[←List.take_append_drop c (fl as (cs.toList++vs)),h3,h2]
 exact⟨h4,by rw[←h4];exact h3,by rw[←h4];exact h2⟩
def Ent (H:Heaplet):List Sp→(List Value→Prop)→Prop
 |[],k=>k []
 | .st c::as,k=>Ent H as (λvs=>takeK c vs (λa b=>k (.agg a.toArray::b)))
 | .sx _ R hR n m::as,k=>∀(ao:Option Addr) (ln cap:Nat),IsSlice H R n (.slice ao ln cap) m→Ent H as (λvs=>k (.slice ao ln cap::vs))
 | .rx .. ::as,k=>True
 | .cx .. ::as,k=>True
 | .fv f::as,k=>Ent H as (λvs=>k (.func (.func f) #[] #[]::vs))
 | .i n::as,k=>Ent H as (λvs=>k (.int .i64 n::vs))
 | .b x::as,k=>Ent H as (λvs=>k (.bool x::vs))
 | .w8 x::as,k=>Ent H as (λvs=>k (.int .u8 (x.toNat:Int)::vs))
 | .w32 x::as,k=>Ent H as (λvs=>k (.int .u32 (x.toNat:Int)::vs))
 | .w64 x::as,k=>Ent H as (λvs=>k (.int .u64 (x.toNat:Int)::vs))
 | .s x::as,k=>Ent H as (λvs=>k (.string (Ow.bs x)::vs))
def Fit (H:Heaplet):List Sp→List Value→Prop
 |[],_=>True
 | .st _::as,.agg cs::vs=>Fit H as (cs.toList++vs)
 | .st _::_,_=>False
 | .sx _ R hR n m::as,v::vs=>IsSlice H R n v m∧Fit H as vs
 | .rx .. ::_,_=>False
 | .cx .. ::_,_=>False
 | .fv _::as,_::vs=>Fit H as vs
 | .i _::as,_::vs=>Fit H as vs
 | .b _::as,_::vs=>Fit H as vs
 | .w8 _::as,_::vs=>Fit H as vs
 | .w32 _::as,_::vs=>Fit H as vs
 | .w64 _::as,_::vs=>Fit H as vs
 | .s _::as,_::vs=>Fit H as vs
 |_::_,[]=>False
theorem ent_fit{H:Heaplet}:∀{as:List Sp} {vs:List Value} {k:List Value→Prop},Ent H as k→fl as vs=vs→Fit H as vs→k vs
  |[],vs,k,h,e,_=>by simp only[fl]at e;rw[←e];exact h
  | .st c::as,[],k,h,e,f=>f.elim
  | .st c::as,v::vs,k,h,e,f=>by
    cases v<;>first|exact f.elim|skip
    rename_i cs
    obtain⟨e1,e2,e3⟩:=fl_st e
    have:=takeK_eq _ _ _ (ent_fit (as:=as) (k:=λvs=>takeK c vs (λa b=>k (.agg a.toArray::b))) h e1 f)
    rw[e2,e3]at this
    simpa using this
  | .rx .. ::as,[],k,h,e,f=>f.elim
  | .rx .. ::as,_::_,k,h,e,f=>f.elim
  | .cx .. ::as,[],k,h,e,f=>f.elim
  | .cx .. ::as,_::_,k,h,e,f=>f.elim
  | .fv _::as,[],k,h,e,f=>f.elim
  | .fv _::as,_::vs,k,h,e,f=>by obtain⟨e1,e2⟩:=List.cons.inj e;subst e1;exact ent_fit (k:=λvs=>k (_::vs)) h e2 f
  | .sx _ R hR n m::as,[],k,h,e,f=>f.elim
  | .sx _ R hR n m::as,v::vs,k,h,e,f=>by
    obtain⟨ao,cap,rfl⟩:=IsSlice.val f.1
    exact ent_fit (as:=as) (k:=λvs=>k (_::vs)) (h ao m.length cap f.1) (List.cons.inj e).2 f.2
  | .i _::as,[],k,h,e,f=>f.elim
  | .i _::as,_::vs,k,h,e,f=>by obtain⟨e1,e2⟩:=List.cons.inj e;subst e1;exact ent_fit (k:=λvs=>k (_::vs)) h e2 f
  | .b _::as,[],k,h,e,f=>f.elim
  | .b _::as,_::vs,k,h,e,f=>by obtain⟨e1,e2⟩:=List.cons.inj e;subst e1;exact ent_fit (k:=λvs=>k (_::vs)) h e2 f
  | .w8 _::as,[],k,h,e,f=>f.elim
  | .w8 _::as,_::vs,k,h,e,f=>by obtain⟨e1,e2⟩:=List.cons.inj e;subst e1;exact ent_fit (k:=λvs=>k (_::vs)) h e2 f
  | .w32 _::as,[],k,h,e,f=>f.elim
  | .w32 _::as,_::vs,k,h,e,f=>by obtain⟨e1,e2⟩:=List.cons.inj e;subst e1;exact ent_fit (k:=λvs=>k (_::vs)) h e2 f
  | .w64 _::as,[],k,h,e,f=>f.elim
  | .w64 _::as,_::vs,k,h,e,f=>by obtain⟨e1,e2⟩:=List.cons.inj e;subst e1;exact ent_fit (k:=λvs=>k (_::vs)) h e2 f
  | .s _::as,[],k,h,e,f=>f.elim
  | .s _::as,_::vs,k,h,e,f=>by obtain⟨e1,e2⟩:=List.cons.inj e;subst e1;exact ent_fit (k:=λvs=>k (_::vs)) h e2 f
def HN:Bool→Heaplet→Heaplet→Heaplet
 |true,H0,H=>New H0 H
 |false,_,H=>H
def Out (H0 H:Heaplet):List Sp→List Value→List Own→Prop
 |[],_,Ks=>Ks= []
 | .st _::bs,.agg cs::vs,Ks=>Out H0 H bs (cs.toList++vs) Ks
 | .st _::_,_,_=>False
 | .sx N R hR n m::bs,v::vs,Ks=>IsSlice (HN N H0 H) R n v m∧Out H0 H bs vs Ks
 | .rx N R hR E n m::bs,v::vs,K::Ks=>(∃B,RowOf (HN N H0 H) R B E n v m K)∧Out H0 H bs vs Ks
 | .rx .. ::_,_::_,[]=>False
 | .cx N R hR n m::bs,v::vs,Ks=>((∃ao ln,v=.slice ao ln ln)∧IsSlice (HN N H0 H) R n v m)∧Out H0 H bs vs Ks
 | .fv _::_,_,_=>False
 | .i _::bs,_::vs,Ks=>Out H0 H bs vs Ks
 | .b _::bs,_::vs,Ks=>Out H0 H bs vs Ks
 | .w8 _::bs,_::vs,Ks=>Out H0 H bs vs Ks
 | .w32 _::bs,_::vs,Ks=>Out H0 H bs vs Ks
 | .w64 _::bs,_::vs,Ks=>Out H0 H bs vs Ks
 | .s _::bs,_::vs,Ks=>Out H0 H bs vs Ks
 |_::_,[],_=>False
def Bnd (H0 H:Heaplet)(B:Nat)(own:List Own):List Sp→(List Value→List Own→Prop)→Prop
 |[],k=>k [] own
 | .st c::bs,k=>Bnd H0 H B own bs (λvs o=>takeK c vs (λa b=>k (.agg a.toArray::b) o))
 | .sx true R hR n m::bs,k=>∀(ao:Option Addr) (ln cap:Nat),IsSlice (New H0 H) R n (.slice ao ln cap) m→Bnd H0 H B own bs (λvs o=>k (.slice ao ln cap::vs) o)
 | .sx false R hR n m::bs,k=>∀(ao:Option Addr) (ln cap:Nat),IsSlice H R n (.slice ao ln cap) m→Bnd H0 H B own bs (λvs o=>k (.slice ao ln cap::vs) o)
 | .rx true R hR E n m::bs,k=>∀(ao:Option Addr) (ln cap:Nat) (K:Own),RowOf (New H0 H) R B E n (.slice ao ln cap) m K→Bnd H0 H B own bs (λvs o=>k (.slice ao ln cap::vs) (K::o))
 | .rx false R hR E n m::bs,k=>∀(ao:Option Addr) (ln cap:Nat) (K:Own),RowOf H R B E n (.slice ao ln cap) m K→Bnd H0 H B own bs (λvs o=>k (.slice ao ln cap::vs) (K::o))
 | .cx true R hR n m::bs,k=>∀(ao:Option Addr) (ln:Nat),IsSlice (New H0 H) R n (.slice ao ln ln) m→Bnd H0 H B own bs (λvs o=>k (.slice ao ln ln::vs) o)
 | .cx false R hR n m::bs,k=>∀(ao:Option Addr) (ln:Nat),IsSlice H R n (.slice ao ln ln) m→Bnd H0 H B own bs (λvs o=>k (.slice ao ln ln::vs) o)
 | .fv _::bs,k=>True
 | .i n::bs,k=>Bnd H0 H B own bs (λvs o=>k (.int .i64 n::vs) o)
 | .b x::bs,k=>Bnd H0 H B own bs (λvs o=>k (.bool x::vs) o)
 | .w8 x::bs,k=>Bnd H0 H B own bs (λvs o=>k (.int .u8 (x.toNat:Int)::vs) o)
 | .w32 x::bs,k=>Bnd H0 H B own bs (λvs o=>k (.int .u32 (x.toNat:Int)::vs) o)
 | .w64 x::bs,k=>Bnd H0 H B own bs (λvs o=>k (.int .u64 (x.toNat:Int)::vs) o)
 | .s x::bs,k=>Bnd H0 H B own bs (λvs o=>k (.string (Ow.bs x)::vs) o)
theorem bnd_out{H0 H1 H:Heaplet}{B:Nat}{own:List Own}(hle:Hle H0 H1):∀{bs:List Sp} {vs:List Value} {Ks:List Own} {k:List Value→List Own→Prop},
    Bnd H0 H B own bs k→fl bs vs=vs→Out H1 H bs vs Ks→(∀p∈Ks.flatten,B≤p.1)→k vs (Ks++own)
  |[],vs,Ks,k,h,e,f,hB=>by simp only[fl]at e;rw[←e,show Ks= []from f];exact h
  | .st c::bs,[],Ks,k,h,e,f,hB=>f.elim
  | .st c::bs,v::vs,Ks,k,h,e,f,hB=>by
    cases v<;>first|exact f.elim|skip
    rename_i cs
    obtain⟨e1,e2,e3⟩:=fl_st e
    have:=takeK_eq _ _ _ (bnd_out hle (k:=λvs o=>takeK c vs (λa b=>k (.agg a.toArray::b) o)) h e1 f hB)
    rw[e2,e3]at this
    simpa using this
  | .sx N R hR n m::bs,[],Ks,k,h,e,f,hB=>f.elim
  | .sx true R hR n m::bs,v::vs,Ks,k,h,e,f,hB=>by
    obtain⟨ao,cap,rfl⟩:=IsSlice.val f.1
    exact bnd_out hle (k:=λvs o=>k (_::vs) o) (h ao m.length cap (IsSlice.mono hR.h (New.call hle) f.1)) (List.cons.inj e).2 f.2 hB
  | .sx false R hR n m::bs,v::vs,Ks,k,h,e,f,hB=>by
    obtain⟨ao,cap,rfl⟩:=IsSlice.val f.1
    exact bnd_out hle (k:=λvs o=>k (_::vs) o) (h ao m.length cap f.1) (List.cons.inj e).2 f.2 hB
  | .rx N R hR E n m::bs,[],Ks,k,h,e,f,hB=>f.elim
  | .rx N R hR E n m::bs,v::vs,[],k,h,e,f,hB=>f.elim
  | .rx true R hR E n m::bs,v::vs,K::Ks,k,h,e,f,hB=>by
    obtain⟨⟨B',f1⟩,f2⟩:=f
    obtain⟨ao,cap,rfl⟩:=RowOf.val f1
    have f3:=RowOf.base (RowOf.mono hR.h (New.call hle) f1) (λp hp=>hB p (by simp[hp]))
    exact bnd_out hle (k:=λvs o=>k (_::vs) (K::o)) (h ao m.length cap K f3) (List.cons.inj e).2 f2 (λp hp=>hB p (by rw[List.flatten_cons];exact List.mem_append_right _ hp))
  | .rx false R hR E n m::bs,v::vs,K::Ks,k,h,e,f,hB=>by
    obtain⟨⟨B',f1⟩,f2⟩:=f
    obtain⟨ao,cap,rfl⟩:=RowOf.val f1
    have f3:=RowOf.base f1 (λp hp=>hB p (by simp[hp]))
    exact bnd_out hle (k:=λvs o=>k (_::vs) (K::o)) (h ao m.length cap K f3) (List.cons.inj e).2 f2 (λp hp=>hB p (by rw[List.flatten_cons];exact List.mem_append_right _ hp))
  | .fv _::bs,[],Ks,k,h,e,f,hB=>f.elim
  | .fv _::bs,_::_,Ks,k,h,e,f,hB=>f.elim
  | .cx N R hR n m::bs,[],Ks,k,h,e,f,hB=>f.elim
  | .cx true R hR n m::bs,v::vs,Ks,k,h,e,f,hB=>by
    obtain⟨⟨⟨ao,ln,rfl⟩,f1⟩,f2⟩:=f
    exact bnd_out hle (k:=λvs o=>k (_::vs) o) (h ao ln (IsSlice.mono hR.h (New.call hle) f1)) (List.cons.inj e).2 f2 hB
  | .cx false R hR n m::bs,v::vs,Ks,k,h,e,f,hB=>by
    obtain⟨⟨⟨ao,ln,rfl⟩,f1⟩,f2⟩:=f
    exact bnd_out hle (k:=λvs o=>k (_::vs) o) (h ao ln f1) (List.cons.inj e).2 f2 hB
  | .i _::bs,[],Ks,k,h,e,f,hB=>f.elim
  | .i _::bs,_::vs,Ks,k,h,e,f,hB=>by obtain⟨e1,e2⟩:=List.cons.inj e;subst e1;exact bnd_out hle (k:=λvs o=>k (_::vs) o) h e2 f hB
  | .b _::bs,[],Ks,k,h,e,f,hB=>f.elim
  | .b _::bs,_::vs,Ks,k,h,e,f,hB=>by obtain⟨e1,e2⟩:=List.cons.inj e;subst e1;exact bnd_out hle (k:=λvs o=>k (_::vs) o) h e2 f hB
  | .w8 _::bs,[],Ks,k,h,e,f,hB=>f.elim
  | .w8 _::bs,_::vs,Ks,k,h,e,f,hB=>by obtain⟨e1,e2⟩:=List.cons.inj e;subst e1;exact bnd_out hle (k:=λvs o=>k (_::vs) o) h e2 f hB
  | .w32 _::bs,[],Ks,k,h,e,f,hB=>f.elim
  | .w32 _::bs,_::vs,Ks,k,h,e,f,hB=>by obtain⟨e1,e2⟩:=List.cons.inj e;subst e1;exact bnd_out hle (k:=λvs o=>k (_::vs) o) h e2 f hB
  | .w64 _::bs,[],Ks,k,h,e,f,hB=>f.elim
  | .w64 _::bs,_::vs,Ks,k,h,e,f,hB=>by obtain⟨e1,e2⟩:=List.cons.inj e;subst e1;exact bnd_out hle (k:=λvs o=>k (_::vs) o) h e2 f hB
  | .s _::bs,[],Ks,k,h,e,f,hB=>f.elim
  | .s _::bs,_::vs,Ks,k,h,e,f,hB=>by obtain⟨e1,e2⟩:=List.cons.inj e;subst e1;exact bnd_out hle (k:=λvs o=>k (_::vs) o) h e2 f hB
def PostC{ρ:Type}(q:Bool)(H:Heaplet)(B:ρ→List Sp)(r:ρ)(u:Value)(K:List Own)(H':Heaplet):Prop:=∃vs,u=pack vs∧fl (B r) vs=vs∧Out H H' (B r) vs K∧(q=true→H'=H)
def Con{ρ:Type}(P:Program)(f:FuncId)(q:Bool)(As:List Sp)(o:Option ρ)(B:ρ→List Sp):Prop:=
 ∀H,Ent H As (λvs=>∀r,o=some r→Does P f vs.toArray [] H (PostC q H B r))
theorem Con.does{ρ:Type}{P:Program}{f:FuncId}{q:Bool}{As:List Sp}{o:Option ρ}{B:ρ→List Sp}{H:Heaplet}{vs:List Value}{r:ρ}
 (C:Con P f q As o B)(e:fl As vs=vs)(h:Fit H As vs)(hr:o=some r):Does P f vs.toArray [] H (PostC q H B r):=ent_fit (C H) e h r hr
section rules
variable{x:Cx}{ops:Array Oper}{Q:Exit→Act→World→Prop}{rest:List Oper}{l:Slots}{own:List Own}{H:Heaplet}{ty:TypeId}{d:Nat}{pos:String}{aft:Array Edge}
def prep (l:Slots)(c:Operand)(as:List Operand)(d N:Nat):Option (Nat×List Value):=match evo l c with
  | some (.func (.func f) ⟨[]⟩ ⟨[]⟩)=>match evs l as with
    |some vs=>bif Nat.blt d N then some (f,vs)else none
    |none=>none
  |_=>none
theorem prep_ok{l:Slots}{c:Operand}{as:List Operand}{d N f:Nat}{vs:List Value}(h:prep l c as d N=some (f,vs)):
 evo l c=some (.func (.func f) #[] #[])∧as.mapM (evo l)=some vs∧Nat.blt d N=true:=by
 unfold prep at h
 split at h
 · rename_i h1
   split at h
   · rename_i h2
     cases hb:Nat.blt d N with
     |true=>rw[hb]at h;cases h;exact⟨h1,evs_ok h2,rfl⟩
     |false=>rw[hb]at h;cases h
   · cases h
 · cases h
variable{ρ β:Type}{o:Option ρ}{k:ρ→Option β}{c:Operand}{as:Array Operand}{ts:Array TypeId}{f:FuncId}{vs:List Value}{As:List Sp}{B:ρ→List Sp}
theorem JL.con'{y:ρ}(hy:o=some y)(he:Enters x.P f)(hp:prep l c as.toList d x.n=some (f,vs))(C:Con x.P f false As o B)(e:fl As vs=vs)(hA:Fit H As vs)
 (h:∀H',Hle H H'→Bnd x.H0 H' x.w0.heap.size own (B y) (λus o'=>JL x ops Q rest ((d,pack us)::l) o' H')):
 JL x ops Q (⟨some d,.call ⟨.value c,as,ts⟩,ty,pos,aft,none⟩::rest) l own H:=λa w hh=>by
 obtain⟨h1,h2,h3⟩:=prep_ok hp
 refine JL.call he h1 h2 (C.does e hA hy) h3 (λv K' H' hR hle hf=> ?_) a w hh
 obtain⟨us,rfl,e2,ho,-⟩:=hR
 exact bnd_out hh.mem.le (k:=λus o'=>JL x ops Q rest ((d,pack us)::l) o' H') (h H' hle) e2 ho hf
theorem JL.con{r':β}(hx:Option.bind o k=some r')(he:Enters x.P f)(hp:prep l c as.toList d x.n=some (f,vs))(C:Con x.P f false As o B)(e:fl As vs=vs)(hA:Fit H As vs)
 (h:∀y,o=some y→k y=some r'→∀H',Hle H H'→Bnd x.H0 H' x.w0.heap.size own (B y) (λus o'=>JL x ops Q rest ((d,pack us)::l) o' H')):
 JL x ops Q (⟨some d,.call ⟨.value c,as,ts⟩,ty,pos,aft,none⟩::rest) l own H:=by
 obtain⟨y,hy,hk⟩:=ZT hx
 exact JL.con' hy he hp C e hA (h y hy hk)
theorem JL.conQ'{y:ρ}(hy:o=some y)(he:Enters x.P f)(hp:prep l c as.toList d x.n=some (f,vs))(C:Con x.P f true As o B)(e:fl As vs=vs)(hA:Fit H As vs)
 (h:Bnd x.H0 H x.w0.heap.size own (B y) (λus o'=>JL x ops Q rest ((d,pack us)::l) o' H)):
 JL x ops Q (⟨some d,.call ⟨.value c,as,ts⟩,ty,pos,aft,none⟩::rest) l own H:=λa w hh=>by
 obtain⟨h1,h2,h3⟩:=prep_ok hp
 refine JL.call he h1 h2 (C.does e hA hy) h3 (λv K' H' hR hle hf=> ?_) a w hh
 obtain⟨us,rfl,e2,ho,hq⟩:=hR
 have:=hq rfl
 subst this
 exact bnd_out hh.mem.le (k:=λus o'=>JL x ops Q rest ((d,pack us)::l) o' _) h e2 ho hf
theorem ZK{r':β}(hx:Option.bind o k=some r')(he:Enters x.P f)(hp:prep l c as.toList d x.n=some (f,vs))(C:Con x.P f true As o B)(e:fl As vs=vs)(hA:Fit H As vs)
 (h:∀y,o=some y→k y=some r'→Bnd x.H0 H x.w0.heap.size own (B y) (λus o'=>JL x ops Q rest ((d,pack us)::l) o' H)):
 JL x ops Q (⟨some d,.call ⟨.value c,as,ts⟩,ty,pos,aft,none⟩::rest) l own H:=by
 obtain⟨y,hy,hk⟩:=ZT hx
 exact JL.conQ' hy he hp C e hA (h y hy hk)
def Cst:List Sp→Prop
 |[]=>True
 | .sx .. ::_=>False
 | .cx .. ::_=>False
 | .rx _ R _ _ _ _::bs=>R.Const∧Cst bs
 |_::bs=>Cst bs
theorem cst_out{H0 H H2 H3:Heaplet}:∀{bs:List Sp} {vs:List Value} {Ks:List Own},Cst bs→Out H0 H bs vs Ks→Out H2 H3 bs vs Ks
 |[],_,_,_,f=>f
 | .st _::bs,[],_,_,f=>f.elim
 | .st _::bs,v::vs,_,hc,f=>by cases v<;>first|exact f.elim|exact cst_out (bs:=bs) hc f
 | .sx .. ::_,_,_,hc,_=>hc.elim
 | .cx .. ::_,_,_,hc,_=>hc.elim
 | .fv _::_,[],_,_,f=>f.elim
 | .fv _::_,_::_,_,_,f=>f.elim
 | .rx .. ::_,[],_,_,f=>f.elim
 | .rx .. ::_,_::_,[],_,f=>f.elim
 | .rx .. ::bs,_::_,_::_,hc,f=>⟨⟨f.1.choose,Zh hc.1 f.1.choose_spec⟩,cst_out (bs:=bs) hc.2 f.2⟩
 | .i _::_,[],_,_,f=>f.elim
 | .i _::bs,_::_,_,hc,f=>cst_out (bs:=bs) hc f
 | .b _::_,[],_,_,f=>f.elim
 | .b _::bs,_::_,_,hc,f=>cst_out (bs:=bs) hc f
 | .w8 _::_,[],_,_,f=>f.elim
 | .w8 _::bs,_::_,_,hc,f=>cst_out (bs:=bs) hc f
 | .w32 _::_,[],_,_,f=>f.elim
 | .w32 _::bs,_::_,_,hc,f=>cst_out (bs:=bs) hc f
 | .w64 _::_,[],_,_,f=>f.elim
 | .w64 _::bs,_::_,_,hc,f=>cst_out (bs:=bs) hc f
 | .s _::_,[],_,_,f=>f.elim
 | .s _::bs,_::_,_,hc,f=>cst_out (bs:=bs) hc f
theorem JL.conL'{q:Bool}{y:ρ}(hy:o=some y)(he:Enters x.P f)(hp:prep l c as.toList d x.n=some (f,vs))(C:Con x.P f q As o B)(e:fl As vs=vs)(hA:∀H2,Hle H H2→Lent own H2→Fit H2 As vs)(hc:Cst (B y))
 (h:Bnd x.H0 H x.w0.heap.size own (B y) (λus o'=>JL x ops Q rest ((d,pack us)::l) o' H)):
 JL x ops Q (⟨some d,.call ⟨.value c,as,ts⟩,ty,pos,aft,none⟩::rest) l own H:=λa w hh=>by
 obtain⟨h1,h2,h3⟩:=prep_ok hp
 refine JL.callL3 (R:=λH2=>PostC q H2 B y) he h1 h2 (λH2 h4 h5=>C.does e (hA H2 h4 h5) hy) h3 (λH2 v K' H' hR hf=> ?_) a w hh
 obtain⟨us,rfl,e2,ho,-⟩:=hR
 exact bnd_out (Hle.refl _) (k:=λus o'=>JL x ops Q rest ((d,pack us)::l) o' H) h e2 (cst_out hc ho) hf
theorem JL.conL{q:Bool}{r':β}(hx:Option.bind o k=some r')(he:Enters x.P f)(hp:prep l c as.toList d x.n=some (f,vs))(C:Con x.P f q As o B)(e:fl As vs=vs)(hA:∀H2,Hle H H2→Lent own H2→Fit H2 As vs)(hc:∀y,Cst (B y))
 (h:∀y,o=some y→k y=some r'→Bnd x.H0 H x.w0.heap.size own (B y) (λus o'=>JL x ops Q rest ((d,pack us)::l) o' H)):
 JL x ops Q (⟨some d,.call ⟨.value c,as,ts⟩,ty,pos,aft,none⟩::rest) l own H:=by
 obtain⟨y,hy,hk⟩:=ZT hx
 exact JL.conL' hy he hp C e hA (hc y) (h y hy hk)
def rets (l:Slots):List ResultVar→Option (List Value)
  |[]=>some []
  | .tmp t::r=>match lk l t with
    | some v=>match rets l r with
      |some vs=>some (v::vs)
      |none=>none
    |none=>none
  | .cell .. ::_=>none
theorem rets_ok{P:Program}{l:Slots}{own:List Own}:∀{rs:List ResultVar} {vs:List Value},rets l rs=some vs→Res P l own rs vs
  |[],vs,h=>by simp[rets]at h;rw[h];exact rfl
  | .tmp t::r,vs,h=>by
    simp only[rets]at h
    split at h
    · rename_i h1
      split at h
      · rename_i h2;cases h;exact Res.tmp h1 (rets_ok h2)
      · cases h
    · cases h
  | .cell .. ::_,_,h=>by cases h
def pickL:List Nat→List Own→Option (List Own×List Own)
  |[],own=>some ([],own)
  | i ::is,own=>match own[i]? with
    | some s=>match pickL is (own.eraseIdx i)with
      |some (K,r)=>some (s::K,r)
      |none=>none
    |none=>none
theorem pickL_ok:∀{is:List Nat} {own K r:List Own},pickL is own=some (K,r)→own.flatten.Perm (K.flatten++r.flatten)
  |[],own,K,r,h=>by cases h;exact ZM
  | i ::is,own,K,r,h=>by
    simp only[pickL]at h
    split at h
    · rename_i h1
      split at h
      · rename_i h2;cases h;exact ZO i h1 (pickL_ok h2)
      · cases h
    · cases h
def outp (l:Slots)(own:List Own)(rs:List ResultVar)(e:Exit)(ds:List Deferred)(is:List Nat):Option (List Value×List Own):=match ds with
  | []=>match e with
    | .ret=>match rets l rs,pickL is own with
      |some vs,some (K,_)=>some (vs,K)
      |_,_=>none
    | .normal=>match rets l rs,pickL is own with
      |some vs,some (K,_)=>some (vs,K)
      |_,_=>none
    |_=>none
  |_=>none
theorem outp_ok{P:Program}{l:Slots}{own:List Own}{rs:List ResultVar}{e:Exit}{ds:List Deferred}{is:List Nat}{vs:List Value}{K:List Own}(h:outp l own rs e ds is=some (vs,K)):
 ds= []∧(e=.ret∨e=.normal)∧Res P l own rs vs∧∃r:List Own,own.flatten.Perm (K.flatten++r.flatten):=by
 unfold outp at h
 split at h
 · split at h
   · split at h
     · rename_i h1 h2;cases h;exact⟨rfl,.inl rfl,rets_ok h1,_,pickL_ok h2⟩
     · cases h
   · split at h
     · rename_i h1 h2;cases h;exact⟨rfl,.inr rfl,rets_ok h1,_,pickL_ok h2⟩
     · cases h
   · cases h
 · cases h
variable{fn:Func}{ex:Exit}{z r:ρ}{Ks:List Own}
theorem JN.con (is:List Nat)(ho:outp l own fn.results.toList ex x.ds is=some (vs,Ks))(hx:some z=some r)(hs:fl (B z) vs=vs)(hf:Out x.H0 H (B z) vs Ks):
 JN x (Ret x fn (PostC false x.H0 B r) ex) l own H:=by
 obtain⟨h1,h2,h3,q,h4⟩:=outp_ok (P:=x.P) ho
 obtain rfl:=Option.some.inj hx
 exact Zj h2 (by simp) h1 h3 h4 ⟨vs,rfl,hs,hf,λh=>by cases h⟩
theorem ZI (is:List Nat)(ho:outp l own fn.results.toList ex x.ds is=some (vs,Ks))(hx:some z=some r)(hs:fl (B z) vs=vs)(hf:Out x.H0 x.H0 (B z) vs Ks):
 JN x (Ret x fn (PostC true x.H0 B r) ex) l own x.H0:=by
 obtain⟨h1,h2,h3,q,h4⟩:=outp_ok (P:=x.P) ho
 obtain rfl:=Option.some.inj hx
 exact Zj h2 (by simp) h1 h3 h4 ⟨vs,rfl,hs,hf,λh=>rfl⟩
theorem JN.conM{x0:Cx}{own2:List Own}(Ds is:List Nat)(hp:own.flatten.Perm ((marked Ds).flatten++own2.flatten))(h4:x.P=x0.P∧x.w0=x0.w0∧x.H0=x0.H0∧x.S=x0.S)(hd:x.ds=Ds.map mark)
 (ho:outp l own2 fn.results.toList ex [] is=some (vs,Ks))(hx:some z=some r)(hs:fl (B z) vs=vs)(hf:Out x0.H0 H (B z) vs Ks):
 JN x (RetM x0 fn (PostC false x0.H0 B r) ex) l own H:=by
 obtain⟨h1,h2,h3,q,h5⟩:=outp_ok (P:=x.P) ho
 obtain rfl:=Option.some.inj hx
 exact JN.outMP Ds h2 h4 hd (by simp) hp h3 h5 ⟨vs,rfl,hs,hf,λh=>by cases h⟩
end rules
def Exo (H0 H:Heaplet):List Sp→(List Value→List Own→Prop)→Prop
 |[],k=>k [] []
 | .st c::bs,k=>Exo H0 H bs (λvs o=>takeK c vs (λa b=>k (.agg a.toArray::b) o))
 | .sx true R hR n m::bs,k=>∃(ao:Option Addr) (ln cap:Nat),IsSlice (New H0 H) R n (.slice ao ln cap) m∧Exo H0 H bs (λvs o=>k (.slice ao ln cap::vs) o)
 | .sx false R hR n m::bs,k=>∃(ao:Option Addr) (ln cap:Nat),IsSlice H R n (.slice ao ln cap) m∧Exo H0 H bs (λvs o=>k (.slice ao ln cap::vs) o)
 | .rx true R hR E n m::bs,k=>∃(ao:Option Addr) (ln cap:Nat) (K:Own),RowOf (New H0 H) R 0 E n (.slice ao ln cap) m K∧Exo H0 H bs (λvs o=>k (.slice ao ln cap::vs) (K::o))
 | .rx false R hR E n m::bs,k=>∃(ao:Option Addr) (ln cap:Nat) (K:Own),RowOf H R 0 E n (.slice ao ln cap) m K∧Exo H0 H bs (λvs o=>k (.slice ao ln cap::vs) (K::o))
 | .cx true R hR n m::bs,k=>∃(ao:Option Addr) (ln:Nat),IsSlice (New H0 H) R n (.slice ao ln ln) m∧Exo H0 H bs (λvs o=>k (.slice ao ln ln::vs) o)
 | .cx false R hR n m::bs,k=>∃(ao:Option Addr) (ln:Nat),IsSlice H R n (.slice ao ln ln) m∧Exo H0 H bs (λvs o=>k (.slice ao ln ln::vs) o)
 | .fv _::_,_=>False
 | .i n::bs,k=>Exo H0 H bs (λvs o=>k (.int .i64 n::vs) o)
 | .b x::bs,k=>Exo H0 H bs (λvs o=>k (.bool x::vs) o)
 | .w8 x::bs,k=>Exo H0 H bs (λvs o=>k (.int .u8 (x.toNat:Int)::vs) o)
 | .w32 x::bs,k=>Exo H0 H bs (λvs o=>k (.int .u32 (x.toNat:Int)::vs) o)
 | .w64 x::bs,k=>Exo H0 H bs (λvs o=>k (.int .u64 (x.toNat:Int)::vs) o)
 | .s x::bs,k=>Exo H0 H bs (λvs o=>k (.string (Ow.bs x)::vs) o)
theorem takeK_of{c:Nat}:∀{vs:List Value} {k:List Value→List Value→Prop},k (vs.take c) (vs.drop c)→takeK c vs k:=by
  induction c with
  |zero=>intro vs k h;exact h
  | succ c ih=>
    intro vs k h
    cases vs with
    |nil=>exact h
    |cons v vs=>exact ih (k:=λa b=>k (v::a) b) h
theorem exo_out{H0 H:Heaplet}:∀{bs:List Sp} {vs:List Value} {Ks:List Own} {k:List Value→List Own→Prop},fl bs vs=vs→Out H0 H bs vs Ks→k vs Ks→Exo H0 H bs k
  |[],vs,Ks,k,e,f,h=>by simp only[fl]at e;rw[←e,show Ks= []from f]at h;exact h
  | .st c::bs,[],Ks,k,e,f,h=>f.elim
  | .st c::bs,v::vs,Ks,k,e,f,h=>by
    cases v<;>first|exact f.elim|skip
    rename_i cs
    obtain⟨e1,e2,e3⟩:=fl_st e
    refine exo_out (bs:=bs) (k:=λvs o=>takeK c vs (λa b=>k (.agg a.toArray::b) o)) e1 f (takeK_of ?_)
    rw[e2,e3];simpa using h
  | .sx N R hR n m::bs,[],Ks,k,e,f,h=>f.elim
  | .sx true R hR n m::bs,v::vs,Ks,k,e,f,h=>by
    obtain⟨ao,cap,rfl⟩:=IsSlice.val f.1
    exact⟨ao,_,cap,f.1,exo_out (bs:=bs) (k:=λvs o=>k (_::vs) o) (List.cons.inj e).2 f.2 h⟩
  | .sx false R hR n m::bs,v::vs,Ks,k,e,f,h=>by
    obtain⟨ao,cap,rfl⟩:=IsSlice.val f.1
    exact⟨ao,_,cap,f.1,exo_out (bs:=bs) (k:=λvs o=>k (_::vs) o) (List.cons.inj e).2 f.2 h⟩
  | .rx N R hR E n m::bs,[],Ks,k,e,f,h=>f.elim
  | .rx N R hR E n m::bs,v::vs,[],k,e,f,h=>f.elim
  | .rx true R hR E n m::bs,v::vs,K::Ks,k,e,f,h=>by
    obtain⟨⟨B',f1⟩,f2⟩:=f
    obtain⟨ao,cap,rfl⟩:=RowOf.val f1
    exact⟨ao,_,cap,K,Zo (Nat.zero_le _) f1,exo_out (bs:=bs) (k:=λvs o=>k (_::vs) (K::o)) (List.cons.inj e).2 f2 h⟩
  | .rx false R hR E n m::bs,v::vs,K::Ks,k,e,f,h=>by
    obtain⟨⟨B',f1⟩,f2⟩:=f
    obtain⟨ao,cap,rfl⟩:=RowOf.val f1
    exact⟨ao,_,cap,K,Zo (Nat.zero_le _) f1,exo_out (bs:=bs) (k:=λvs o=>k (_::vs) (K::o)) (List.cons.inj e).2 f2 h⟩
  | .fv _::bs,[],Ks,k,e,f,h=>f.elim
  | .fv _::bs,_::_,Ks,k,e,f,h=>f.elim
  | .cx N R hR n m::bs,[],Ks,k,e,f,h=>f.elim
  | .cx true R hR n m::bs,v::vs,Ks,k,e,f,h=>by
    obtain⟨⟨⟨ao,ln,rfl⟩,f1⟩,f2⟩:=f
    exact⟨ao,ln,f1,exo_out (bs:=bs) (k:=λvs o=>k (_::vs) o) (List.cons.inj e).2 f2 h⟩
  | .cx false R hR n m::bs,v::vs,Ks,k,e,f,h=>by
    obtain⟨⟨⟨ao,ln,rfl⟩,f1⟩,f2⟩:=f
    exact⟨ao,ln,f1,exo_out (bs:=bs) (k:=λvs o=>k (_::vs) o) (List.cons.inj e).2 f2 h⟩
  | .i _::bs,[],Ks,k,e,f,h=>f.elim
  | .i _::bs,_::vs,Ks,k,e,f,h=>by obtain⟨e1,e2⟩:=List.cons.inj e;subst e1;exact exo_out (bs:=bs) (k:=λvs o=>k (_::vs) o) e2 f h
  | .b _::bs,[],Ks,k,e,f,h=>f.elim
  | .b _::bs,_::vs,Ks,k,e,f,h=>by obtain⟨e1,e2⟩:=List.cons.inj e;subst e1;exact exo_out (bs:=bs) (k:=λvs o=>k (_::vs) o) e2 f h
  | .w8 _::bs,[],Ks,k,e,f,h=>f.elim
  | .w8 _::bs,_::vs,Ks,k,e,f,h=>by obtain⟨e1,e2⟩:=List.cons.inj e;subst e1;exact exo_out (bs:=bs) (k:=λvs o=>k (_::vs) o) e2 f h
  | .w32 _::bs,[],Ks,k,e,f,h=>f.elim
  | .w32 _::bs,_::vs,Ks,k,e,f,h=>by obtain⟨e1,e2⟩:=List.cons.inj e;subst e1;exact exo_out (bs:=bs) (k:=λvs o=>k (_::vs) o) e2 f h
  | .w64 _::bs,[],Ks,k,e,f,h=>f.elim
  | .w64 _::bs,_::vs,Ks,k,e,f,h=>by obtain⟨e1,e2⟩:=List.cons.inj e;subst e1;exact exo_out (bs:=bs) (k:=λvs o=>k (_::vs) o) e2 f h
  | .s _::bs,[],Ks,k,e,f,h=>f.elim
  | .s _::bs,_::vs,Ks,k,e,f,h=>by obtain⟨e1,e2⟩:=List.cons.inj e;subst e1;exact exo_out (bs:=bs) (k:=λvs o=>k (_::vs) o) e2 f h
def QQ:Bool→Heaplet→Heaplet→Prop
 |true,H,H'=>H=H'
 |false,_,_=>True
theorem Con.doesX{ρ:Type}{P:Program}{f:FuncId}{q:Bool}{As:List Sp}{o:Option ρ}{B:ρ→List Sp}{H:Heaplet}{vs:List Value}{r:ρ}
 (C:Con P f q As o B)(e:fl As vs=vs)(h:Fit H As vs)(hr:o=some r):Does P f vs.toArray [] H (λu K' H'=>Exo H H' (B r) (λus Ks=>u=pack us∧K'=Ks∧QQ q H H')):=
 (C.does e h hr).mono λv K' H' ⟨us,e1,e2,e3,e4⟩=>exo_out e2 e3 ⟨e1,rfl,by cases q with|true=>exact(e4 rfl).symm|false=>trivial⟩
def numK:List Nat→List Value→(Slots→Prop)→Prop
 |n::ns,v::vs,k=>numK ns vs (λl=>k ((n,v)::l))
 |_,_,k=>k []
theorem numK_eq:∀(ns:List Nat) (vs:List Value) (k:Slots→Prop),numK ns vs k→k (ns.zip vs)
 |[],vs,k,h=>by simpa[numK]using h
 |n::ns,[],k,h=>h
 |n::ns,v::vs,k,h=>numK_eq ns vs (λl=>k ((n,v)::l)) h
theorem lk_zip:∀(vs:List Value) (k n i:Nat) (v:Value),lk ((List.range' k n).zip vs) i=some v→k≤i∧vs[i-k]? =some v
  |[],k,n,i,v,h=>by simp[lk]at h
  |u::vs,k,0,i,v,h=>by simp[lk]at h
  | u ::vs,k,n+1,i,v,h=>by
    simp only[List.range'_succ,List.zip_cons_cons,lk]at h
    cases hb:Nat.beq k i with
    | true=>
      have e:k=i:=Nat.eq_of_beq_eq_true hb
      subst e;rw[hb]at h;simp at h;subst h;simp
    | false=>
      have ne:k≠i:=by intro e;subst e;simp at hb
      rw[hb]at h
      obtain⟨h1,h2⟩:=lk_zip vs (k+1) n i v h
      refine⟨by omega,?_⟩
      rw[show i-k=(i-(k+1))+1 by omega];simpa using h2
theorem enter_slots{vs:List Value}{N i:Nat}{v:Value}(hn:vs.length≤N)(e:lk ((List.range' 0 24).zip vs) i=some v):((vs.toArray++Array.replicate (N-vs.toArray.size) undef)[i]?).getD undef=v:=by
 obtain⟨_,h2⟩:=lk_zip vs 0 24 i v e
 have hi:i<vs.length:=by
  rcases Nat.lt_or_ge i vs.length with h'|h'
  · exact h'
  · simp[List.getElem?_eq_none h']at h2
 have h3:vs[i]=v:=by simpa[List.getElem?_eq_getElem hi]using h2
 have:i<(vs.toArray++Array.replicate (N-vs.toArray.size) undef).size:=by simp;omega
 simp only[Array.getElem?_eq_getElem this,Option.getD_some]
 rw[Array.getElem_append_left (by simpa using hi)]
 simpa using h3
theorem Does.enterC{P:Program}{f:FuncId}{fn:Func}{c:Code}{vs:List Value}{H:Heaplet}{R:Value→List Own→Heaplet→Prop}
 (hf:P.funcs[f]? =some fn)(hb:fn.body=some c)(hn:Nat.ble vs.length fn.ntmps=true)
 (h:numK [0,1,2,3,4,5,6,7,8,9,10,11,12,13,14,15,16,17,18,19,20,21,22,23] vs (λl=>∀w,
  JC {P:=P,r:=none,n:=fn.ntmps,w0:=w,H0:=H,S:=[],ds:=[]} c (Ret {P:=P,r:=none,n:=fn.ntmps,w0:=w,H0:=H,S:=[],ds:=[]} fn R) l [] H)):Does P f vs.toArray [] H R:=λw ha hk=>by
 have hn:=Nat.le_of_ble_eq_true hn
 have h:=numK_eq _ _ _ h
 refine callsIn_of_wp hf hb trivial ?_
 refine h w _ w ⟨?_,rfl,λi v e=>enter_slots hn e,⟨ha,hk,Kept.refl _ _,λp hp=>.inl (List.mem_map_of_mem hp),Hle.refl _,λ_ _ _=>rfl,Mem.soft0⟩⟩
 simp;omega
theorem Does.enterMC{P:Program}{f:FuncId}{fn:Func}{c:Code}{vs:List Value}{H:Heaplet}{R:Value→List Own→Heaplet→Prop}
 (hf:P.funcs[f]? =some fn)(hb:fn.body=some c)(hn:Nat.ble vs.length fn.ntmps=true)
 (h:numK [0,1,2,3,4,5,6,7,8,9,10,11,12,13,14,15,16,17,18,19,20,21,22,23] vs (λl=>∀w,
  JC {P:=P,r:=none,n:=fn.ntmps,w0:=w,H0:=H,S:=[],ds:=[]} c (RetM {P:=P,r:=none,n:=fn.ntmps,w0:=w,H0:=H,S:=[],ds:=[]} fn R) l [] H)):Does P f vs.toArray [] H R:=λw ha hk=>by
 have hn:=Nat.le_of_ble_eq_true hn
 have h:=numK_eq _ _ _ h
 refine callsIn_of_wp_marks hf hb trivial ?_
 refine h w _ w ⟨?_,rfl,λi v e=>enter_slots hn e,⟨ha,hk,Kept.refl _ _,λp hp=>.inl (List.mem_map_of_mem hp),Hle.refl _,λ_ _ _=>rfl,Mem.soft0⟩⟩
 simp;omega
section ways
variable{α:Type}{A B:Option α}{r:α}{x:Cx}{ops:Array Oper}{Q:Exit→Act→World→Prop}{K:Act→World→Prop}{rest:List Oper}{l:Slots}{own:List Own}{H sH:Heaplet}{b:Bool}
theorem ZJ{c:Tmp}{d e:Code}(hx:_root_.cond b A B=some r)(hc:lk l c=some (.bool b))(ht:b=true→A=some r→JC x d Q ((c,.bool true)::l) own H)(hf:b=false→B=some r→JC x e Q ((c,.bool false)::l) own H):
 JC x (.cond (.tmp c) d e) Q l own H:=JC.condB hc (λh=>ht h (cond_t h hx)) (λh=>hf h (cond_f h hx))
theorem Zi (t:Nat)(hx:_root_.cond b A B=some r)(hb:lk l t=some (.bool b))(ht:b=true→A=some r→JL x ops Q rest ((t,.bool true)::l) own H)
 (hf:b=false→B=some r→JL x ops Q rest ((t,.bool false)::l) own H):JL x ops Q rest l own H:=JL.gSplit hb (λh=>ht h (cond_t h hx)) (λh=>hf h (cond_f h hx))
theorem JB.gX{so:Segs}{fuel:Nat}{listed:Array Bool}{KK:Act→World→Prop}(t:Nat)(hx:_root_.cond b A B=some r)(hb:lk l t=some (.bool b))(ht:b=true→A=some r→JB x ops KK so sH fuel listed ((t,.bool true)::l) own H)
 (hf:b=false→B=some r→JB x ops KK so sH fuel listed ((t,.bool false)::l) own H):JB x ops KK so sH fuel listed l own H:=JB.gSplit hb (λh=>ht h (cond_t h hx)) (λh=>hf h (cond_f h hx))
end ways
section many
variable{x:Cx}{ops:Array Oper}{K:Act→World→Prop}{l l':Slots}{own:List Own}{H sH:Heaplet}{so:Segs}
def markAll (listed:Array Bool):List Nat→Array Bool
 |[]=>listed
 |i::is=>markAll (listed.setIfInBounds i true) is
def okAll (ops:Array Oper)(listed:Array Bool):List Nat→Bool
 |[]=>true
 |i::is=>(Region.free .any ops listed i&&(Region.ready .any ops listed).contains i)&&okAll ops (listed.setIfInBounds i true) is
def gate (ops:List Oper)(l:Slots):Option (Nat×Bool)→Option Bool
  |none=>some true
  | some (j,b)=>match ops[j]? with
    | some oj=>match oj.dst with
      | some t=>match lk l t with
        |some (.bool true)=>some b
        |some (.bool false)=>bif b then some false else some true
        |some (.tuple ⟨[]⟩)=>some false
        |_=>none
      |none=>none
    |none=>none
def valAll (tb:Tab)(N:Nat)(ops:List Oper)(own:List Own):List Nat→Slots→List Nat→List Nat→List Nat→Option (Slots×List Nat×List Nat×List Nat)
  |[],l,hs,e1,e2=>some (l,hs,e1,e2)
  | i ::is,l,hs,e1,e2=>match ops[i]? with
    | some ⟨some d,op,ty,pos,aft,g⟩=>bif Nat.blt d N then match gate ops l g with
        | some true=>match vop tb own l hs op with
          |some (v,hs',f1,f2)=>valAll tb N ops own is ((d,v)::l) hs' (f1++e1) (f2++e2)
          |none=>none
        |some false=>valAll tb N ops own is ((d,undef)::l) hs e1 e2
        |none=>none
      else none
    |_=>none
theorem valAll_len{tb:Tab}{N:Nat}{os:List Oper}{own:List Own}:∀{is:List Nat} {l l':Slots} {hs hs' e1 e2 f1 f2:List Nat},valAll tb N os own is l hs e1 e2=some (l',hs',f1,f2)→∃a b,a.length=b.length∧f1=a++e1∧f2=b++e2
  |[],_,_,_,_,_,_,_,_,h=>by cases h;exact⟨[],[],rfl,rfl,rfl⟩
  | i ::is,l,l',hs,hs',e1,e2,f1,f2,h=>by
    simp only[valAll]at h
    split at h
    · rename_i d op ty pos aft g _
      cases hb:Nat.blt d N with
      |false=>rw[hb]at h;cases h
      | true=>
        rw[hb,cond_true]at h
        split at h
        · split at h
          · rename_i v1 hs1 g1 g2 hv
            obtain⟨a,b,h1,h2,h3⟩:=valAll_len h
            have h4:=vop_len hv
            exact⟨a++g1,b++g2,by rw[List.length_append,List.length_append,h1,h4],by rw[h2,List.append_assoc],by rw[h3,List.append_assoc]⟩
          · cases h
        · exact valAll_len h
        · cases h
    · cases h
theorem gate_yes{l:Slots}{g:Option (Nat×Bool)}(h:gate ops.toList l g=some true):guardYes ops l g:=by
  cases g with
  |none=>trivial
  | some g=>
    obtain⟨j,b⟩:=g
    simp only[gate]at h
    split at h
    · rename_i h1
      split at h
      · rename_i h2
        split at h
        · rename_i h3;cases h;exact⟨_,_,by simpa using h1,h2,h3⟩
        · rename_i h3
          cases b with
          |true=>cases h
          |false=>exact⟨_,_,by simpa using h1,h2,h3⟩
        · cases h
        · cases h
      · cases h
    · cases h
theorem JB.run' {tb:Tab}(ht:tb.Ok x.P):∀{is:List Nat} {listed:Array Bool} {l l':Slots} {hs hs' e1 e2 f1 f2:List Nat} {fuel:Nat},okAll ops listed is=true→is.all (noTurn so)=true→
    valAll tb x.n ops.toList (segsOf [] so) is l hs e1 e2=some (l',hs',f1,f2)→f1=f2→e1.length=e2.length→JB x ops K so sH fuel (markAll listed is) l' own H→JB x ops K so sH (fuel+is.length) listed l own H
  |[],_,_,_,_,_,_,_,_,_,_,_,_,h,_,_,g=>by cases h;exact g
  | i ::is,listed,l,l',hs,hs',e1,e2,f1,f2,fuel,hok,hnt,h,he,hl,gg=>by
    simp only[valAll]at h
    simp only[okAll,Bool.and_eq_true]at hok
    simp only[List.all_cons,Bool.and_eq_true]at hnt
    split at h
    · rename_i d op ty pos aft g ho
      have ho':ops[i]? =some ⟨some d,op,ty,pos,aft,g⟩:=by simpa using ho
      cases hb:Nat.blt d x.n with
      |false=>rw[hb]at h;cases h
      | true=>
        rw[hb,cond_true]at h
        split at h
        · rename_i hg
          split at h
          · rename_i v1 hs1 g1 g2 hv
            have hlen:=vop_len hv
            obtain⟨a,b,h1,h2,h3⟩:=valAll_len h
            have e:a++(g1++e1)=b++(g2++e2):=by rw[←h2,←h3,he]
            have e':=(List.append_inj e h1).2
            obtain⟨e'',_⟩:=List.append_inj e' hlen
            exact JB.val [] ho' (vop_ok ht hv e'') (JB.run' ht hok.2 hnt.2 h he (by simp[hlen,hl]) gg) ⟨hok.1.2,hok.1.1,rfl⟩ (gate_yes hg) rfl hnt.1 hb
          · cases h
        · rename_i hg
          cases g with
          |none=>cases hg
          | some g=>
            obtain⟨j,bq⟩:=g
            simp only[gate]at hg
            split at hg
            · rename_i h1
              split at hg
              · rename_i h2
                split at hg
                · rename_i h3;cases hg
                  exact JB.no ho' (by simpa using h1) h2 h3 rfl (JB.run' ht hok.2 hnt.2 h he hl gg) ⟨hok.1.2,hok.1.1,rfl⟩ hnt.1 hb
                · rename_i h3
                  cases bq with
                  |true=>exact JB.no ho' (by simpa using h1) h2 h3 rfl (JB.run' ht hok.2 hnt.2 h he hl gg) ⟨hok.1.2,hok.1.1,rfl⟩ hnt.1 hb
                  |false=>cases hg
                · rename_i h3
                  exact JB.noU ho' (by simpa using h1) h2 h3 (JB.run' ht hok.2 hnt.2 h he hl gg) ⟨hok.1.2,hok.1.1,rfl⟩ hnt.1 hb
                · cases hg
              · cases hg
            · cases hg
        · cases h
    · cases h
theorem JB.run{tb:Tab}{F:Nat}{listed:Array Bool}{E:List Nat}(n:Nat)(is hs:List Nat)(ht:tb.Ok x.P)(hv:valAll tb x.n ops.toList (segsOf [] so) is l hs [] []=some (l',[],E,E))
 (h:JB x ops K so sH (F-n) (markAll listed is) l' own H)(hok:okAll ops listed is=true:=by kernel_rfl)(hnt:is.all (noTurn so)=true:=by rfl)(hn:(Nat.beq is.length n&&Nat.ble n F)=true:=by rfl):
 JB x ops K so sH F listed l own H:=by
 rw[Bool.and_eq_true]at hn
 have h1:=Nat.eq_of_beq_eq_true hn.1
 have h2:=Nat.le_of_ble_eq_true hn.2
 have:=JB.run' ht hok hnt hv rfl rfl h
 rw[h1,Nat.sub_add_cancel h2]at this
 exact this
end many
section cells
variable{x:Cx}{l:Slots}{own:List Own}{H:Heaplet}{vs:List Value}{ρ:Type}{B:ρ→List Sp}{fn:Func}{ex:Exit}{z r:ρ}{Ks:List Own}
def retC (tb:Tab)(l:Slots)(own:List Own):List ResultVar→List Nat→Option (List Value×List Nat×List Nat)
  |[],_=>some ([],[],[])
  | .tmp t::r,hs=>match lk l t with
    | some v=>match retC tb l own r hs with
      |some (vs,e1,e2)=>some (v::vs,e1,e2)
      |none=>none
    |none=>none
  | .cell t T::r,i::hs=>match lk l t with
    | some (.pointer (some ⟨b,0,none⟩))=>match own[i]? with
      | some [(b',.cells cur tt fr)]=>match tl T tb.shp with
        | some (true,n)=>bif Nat.beq n cur.toList.length then match retC tb l own r hs with
            |some (vs,e1,e2)=>some (.agg cur::vs,b::e1,b'::e2)
            |none=>none
          else none
        | some (false,_)=>match cur.toList[0]? with
          | some v=>match retC tb l own r hs with
            |some (vs,e1,e2)=>some (v::vs,b::e1,b'::e2)
            |none=>none
          |none=>none
        |none=>none
      |_=>none
    |_=>none
  | .cell .. ::_,[]=>none
theorem retC_ok{P:Program}{tb:Tab}(ht:tb.Ok P):∀{rs:List ResultVar} {hs:List Nat} {vs:List Value} {e1 e2:List Nat},retC tb l own rs hs=some (vs,e1,e2)→e1=e2→Res P l own rs vs
  |[],_,_,_,_,h,_=>by cases h;exact rfl
  | .tmp t::r,hs,vs,e1,e2,h,he=>by
    simp only[retC]at h
    split at h
    · rename_i h1
      split at h
      · rename_i h2;cases h;exact Res.tmp h1 (retC_ok ht h2 he)
      · cases h
    · cases h
  | .cell t T::r,[],vs,e1,e2,h,he=>by cases h
  | .cell t T ::r,i::hs,vs,e1,e2,h,he=>by
    simp only[retC]at h
    split at h
    · rename_i h1
      split at h
      · rename_i h2
        split at h
        · rename_i n h3
          rename_i b _ _ cur _ _ _
          cases hb:Nat.beq n (Array.toList cur).length with
          | true=>
            rw[hb,cond_true]at h
            split at h
            · rename_i h4
              cases h
              obtain⟨c1,c2⟩:=List.cons.inj he
              subst c1
              have:=Nat.eq_of_beq_eq_true hb
              exact Res.cellN i h1 h2 (by rw[←this];exact tl_ok (p:=λa b=>shapeOf P a=some b) ht.shp h3) (retC_ok ht h4 c2)
            · cases h
          |false=>rw[hb]at h;cases h
        · rename_i n h3
          split at h
          · rename_i h5
            split at h
            · rename_i h4
              cases h
              obtain⟨c1,c2⟩:=List.cons.inj he
              subst c1
              exact Res.cell1 i h1 h2 (tl_ok (p:=λa b=>shapeOf P a=some b) ht.shp h3) h5 (retC_ok ht h4 c2)
            · cases h
          · cases h
        · cases h
      · cases h
    · cases h
def outc (tb:Tab)(l:Slots)(own:List Own)(rs:List ResultVar)(e:Exit)(ds:List Deferred)(hs is:List Nat):Option (List Value×List Own×List Nat×List Nat):=match ds with
  | []=>match e with
    | .ret=>match retC tb l own rs hs,pickL is own with
      |some (vs,e1,e2),some (K,_)=>some (vs,K,e1,e2)
      |_,_=>none
    | .normal=>match retC tb l own rs hs,pickL is own with
      |some (vs,e1,e2),some (K,_)=>some (vs,K,e1,e2)
      |_,_=>none
    |_=>none
  |_=>none
theorem outc_ok{P:Program}{tb:Tab}(ht:tb.Ok P){rs:List ResultVar}{e:Exit}{ds:List Deferred}{hs is:List Nat}{K:List Own}{E:List Nat}(h:outc tb l own rs e ds hs is=some (vs,K,E,E)):
 ds= []∧(e=.ret∨e=.normal)∧Res P l own rs vs∧∃r:List Own,own.flatten.Perm (K.flatten++r.flatten):=by
 unfold outc at h
 split at h
 · split at h
   · split at h
     · rename_i h1 h2;cases h;exact⟨rfl,.inl rfl,retC_ok ht h1 rfl,_,pickL_ok h2⟩
     · cases h
   · split at h
     · rename_i h1 h2;cases h;exact⟨rfl,.inr rfl,retC_ok ht h1 rfl,_,pickL_ok h2⟩
     · cases h
   · cases h
 · cases h
variable{tb:Tab}{E:List Nat}
theorem Zm (hs is:List Nat)(ht:tb.Ok x.P)(ho:outc tb l own fn.results.toList ex x.ds hs is=some (vs,Ks,E,E))(hx:some z=some r)(hv:fl (B z) vs=vs)(hf:Out x.H0 H (B z) vs Ks):
 JN x (Ret x fn (PostC false x.H0 B r) ex) l own H:=by
 obtain⟨h1,h2,h3,q,h4⟩:=outc_ok ht ho
 obtain rfl:=Option.some.inj hx
 exact Zj h2 (by simp) h1 h3 h4 ⟨vs,rfl,hv,hf,λh=>by cases h⟩
theorem JN.conCQ (hs is:List Nat)(ht:tb.Ok x.P)(ho:outc tb l own fn.results.toList ex x.ds hs is=some (vs,Ks,E,E))(hx:some z=some r)(hv:fl (B z) vs=vs)(hf:Out x.H0 x.H0 (B z) vs Ks):
 JN x (Ret x fn (PostC true x.H0 B r) ex) l own x.H0:=by
 obtain⟨h1,h2,h3,q,h4⟩:=outc_ok ht ho
 obtain rfl:=Option.some.inj hx
 exact Zj h2 (by simp) h1 h3 h4 ⟨vs,rfl,hv,hf,λh=>rfl⟩
theorem JN.conCM{x0:Cx}{own2:List Own}(Ds hs is:List Nat)(ht:tb.Ok x.P)(hp:own.flatten.Perm ((marked Ds).flatten++own2.flatten))(h4:x.P=x0.P∧x.w0=x0.w0∧x.H0=x0.H0∧x.S=x0.S)(hd:x.ds=Ds.map mark)
 (ho:outc tb l own2 fn.results.toList ex [] hs is=some (vs,Ks,E,E))(hx:some z=some r)(hv:fl (B z) vs=vs)(hf:Out x0.H0 H (B z) vs Ks):
 JN x (RetM x0 fn (PostC false x0.H0 B r) ex) l own H:=by
 obtain⟨h1,h2,h3,q,h5⟩:=outc_ok ht ho
 obtain rfl:=Option.some.inj hx
 exact JN.outMP Ds h2 h4 hd (by simp) hp h3 h5 ⟨vs,rfl,hv,hf,λh=>by cases h⟩
end cells
section cuts
variable{x:Cx}{Q:Exit→Act→World→Prop}{l l0 l':Slots}{own o0 o':List Own}{H g':Heaplet}{c:Code}{τ β:Type}{o:Option τ}{k:τ→Option β}{r:β}
def selL (l:Slots):List Nat→Option Slots
  |[]=>some []
  | i ::is=>match lk l i with
    | some v=>match selL l is with
      |some q=>some ((i,v)::q)
      |none=>none
    |none=>none
def selO (own:List Own):List Nat→Option (List Own)
  |[]=>some []
  | i ::is=>match own[i]? with
    | some s=>match selO own is with
      |some q=>some (s::q)
      |none=>none
    |none=>none
def keysOf:Slots→List Nat
 |[]=> []
 |(k,_)::r=>k::keysOf r
theorem selL_sub{l:Slots}:∀{l':Slots},selL l (keysOf l')=some l'→Sub l' l
  |[],_=>trivial
  | (k,v)::q,h=>by
    simp only[keysOf,selL]at h
    split at h
    · rename_i h1
      split at h
      · rename_i h2
        have h3:=Option.some.inj h
        obtain⟨h4,h5⟩:=List.cons.inj h3
        simp only[Prod.mk.injEq,true_and]at h4
        subst h4;subst h5
        exact⟨h1,selL_sub h2⟩
      · cases h
    · cases h
theorem ZV (hx:Option.bind o k=some r)(ks js:List Nat)(hs:selL l ks=some l0)(ho:selO own js=some o0)(I:τ→Slots→List Own→Slots→List Own→Heaplet→Prop)
 (h2:∀t,o=some t→k t=some r→∀l o g,I t l0 o0 l o g→JN x (Q .normal) l o g)
 (h1:∀t,k t=some r→o=some t→JC x c (Exit.then (HoldsI x (I t l0 o0)) Q) l own H):JC x c Q l own H:=by
 obtain⟨t,ht,hk⟩:=ZT hx
 exact JC.cut (I t l0 o0) (h2 t ht hk) (h1 t hk ht)
theorem ZE{I:Slots→List Own→Heaplet→Prop}(hI:I l' o' g')(hl:selL l (keysOf l')=some l')(ho:o'=own)(hg:g'=H):
 JN x (Exit.then (HoldsI x I) Q .normal) l own H:=JN.cut hI (selL_sub hl) ho hg
theorem ZZ{σ:Type}{body:σ→Option (σ ⊕ τ)}{s0:σ}{t:τ}{lh:Slots}(ks js:List Nat)(hs:selL l ks=some l0)(ho:selO own js=some o0)(I:Slots→List Own→σ→Slots→List Own→Heaplet→Prop)
 (hx:Go.Ow.loop body s0=some t)(h0:I l0 o0 s0 lh own H)(hl:selL l (keysOf lh)=some lh)
 (round:∀n s l o g,I l0 o0 s l o g→∀q,body s=some q→Stp body n t q→JC x c (Exit.then (HoldsI x (λl o g=>∃s,I l0 o0 s l o g∧run body n s=some t)) Q) l o g):JC x (.loop c) Q l own H:=by
 refine JC.loopI (λn l o g=>∃s,I l0 o0 s l o g∧run body n s=some t) FUEL ?_ ⟨s0,h0,hx⟩ (selL_sub hl) ?_
 · rintro l o g ⟨s,_,h⟩;exact run_zero h
 · rintro n l o g ⟨s,hI,hr⟩
   obtain⟨q,h1,h2⟩:=run_some hr
   exact round n s l o g hI q h1 h2
end cuts
end Go.Ow
namespace Go.Ow
open Go.RowKit
def R_data_place:Rep data_place:=λH cs x=>cs= [.int .i64 x.set,.int .i64 x.obj,.int .i64 x.index]
theorem R_data_place.mono:R_data_place.Mono:=λ_ _ _ _ _ h=>h
instance:MonoC R_data_place:=⟨R_data_place.mono⟩
section rules
variable{x:Cx}{l:Slots}{own:List Own}{H:Heaplet}{ty t u:TypeId}{p q:Operand}{v:Value}{e:Option Int}{n:Nat}{vs:Value}
def spn{α:Type}:List α→Option (List α)
  |[]=>some []
  | a::r=>match spn r with
    |some q=>some (a::q)
    |none=>none
theorem spn_eq{α:Type}:∀{l q:List α},spn l=some q→q=l
  |[],q,h=>by cases h;rfl
  | a::r,q,h=>by
    simp only[spn]at h
    split at h
    · rename_i h1;cases h;rw[spn_eq h1]
    · cases h
theorem R.ldHF{T b o n:Nat}{cs:List Value}(k:Nat){vs:List Value}(hs:shapeOf x.P T=some (true,n))(h1:evo l p=some (.pointer (some ⟨b,o+k,none⟩)))(ha:∀j u,cs[j]? =some u→H b (o+j)=some u)
 (hv:spn ((cs.drop k).take n)=some vs)(hn:vs.length=n):Runs x (.load T p) ty l own H (.agg vs.toArray):=R.ldHE k hs h1 ha (spn_eq hv) hn
variable{ops:Array Oper}{Q:Exit→Act→World→Prop}{rest:List Oper}{HF:Heaplet}{d:Nat}{pos:String}{aft:Array Edge}
end rules
end Go.Ow
namespace Go.Ow
open Go.RowKit
def DoesP (P:Program)(f:FuncId)(args:Array Value)(K:List Own)(H:Heaplet)(R:Value→List Own→Heaplet→Prop)(E:Value→Prop):Prop:=
  ∀ w,Agrees H w→OwnOk H K.flatten w→CallsIn Fence.wide 0 P f args w λe w'=>
    (∃v K' H',e=.returned v∧R v K' H'∧Mem w H (ids K.flatten) K'.flatten H' w')∨(∃v H',e=.panicked [{v,recovered:=false}]∧E v∧Mem w H (ids K.flatten) [] H' w')
def RetP (x:Cx)(fn:Func)(R:Value→List Own→Heaplet→Prop)(E:Value→Prop):Exit→Act→World→Prop:=
 bodyPost x.P fn (λe w'=>(∃v K' H',e=.returned v∧R v K' H'∧Mem x.w0 x.H0 x.S K'.flatten H' w')∨(∃v H',e=.panicked [{v,recovered:=false}]∧E v∧Mem x.w0 x.H0 x.S [] H' w'))
theorem bodyPost_mono{P:Program}{fn:Func}{R R':Ending→World→Prop}(h:∀e w,R e w→R' e w):∀ex a w,bodyPost P fn R ex a w→bodyPost P fn R' ex a w
 | .normal,a,w,⟨hd,v,hr,hR⟩=>⟨hd,v,hr,h _ _ hR⟩
 | .ret,a,w,⟨hd,v,hr,hR⟩=>⟨hd,v,hr,h _ _ hR⟩
 | .panic _,a,w,⟨hd,hR⟩=>⟨hd,h _ _ hR⟩
 | .outgrown,a,w,hR=>h _ _ hR
section
variable{x:Cx}{ops:Array Oper}{Q:Exit→Act→World→Prop}{rest:List Oper}{l:Slots}{own:List Own}{H:Heaplet}{ty:TypeId}{d:Nat}{pos:String}{aft:Array Edge}
variable{fn:Func}{R:Value→List Own→Heaplet→Prop}{E:Value→Prop}{ex:Exit}{v:Value}
theorem JN.retP (h:JN x (Ret x fn R ex) l own H):JN x (RetP x fn R E ex) l own H:=λa w hh=>bodyPost_mono (λe w hR=>.inl hR) ex a w (h a w hh)
theorem JN.panicP (hd:x.ds= [])(hE:E v):JN x (RetP x fn R E (.panic [{v,recovered:=false}])) l own H:=λa w hh=>
 ⟨hh.ds.trans hd,.inr ⟨v,H,rfl,hE,hh.mem.sub (List.nil_sublist _)⟩⟩
theorem JN.passP{K:Act→World→Prop}{ch:List PanicEntry}(h:JN x (Q (.panic ch)) l own H):JN x (Exit.then K Q (.panic ch)) l own H:=h
theorem JN.blkP{id:Nat}{ch:List PanicEntry}(h:JN x (Q (.panic ch)) l own H):JN x (Exit.inBlock id Q (.panic ch)) l own H:=h
theorem JL.callX{c:Operand}{as:Array Operand}{ts:Array TypeId}{f:FuncId}{vs:List Value}
 (he:Enters x.P f)(hc:evo l c=some (.func (.func f) #[] #[]))(ha:as.toList.mapM (evo l)=some vs)
 (C:DoesP x.P f vs.toArray [] H R E)(hd:Nat.blt d x.n=true)
 (h:∀v K' H',R v K' H'→Hle H H'→(∀p∈K'.flatten,x.w0.heap.size≤p.1)→JL x ops Q rest ((d,v)::l) (K'++own) H')
 (h2:∀v H',E v→Hle H H'→JN x (Q (.panic [{v,recovered:=false}])) l own H'):
 JL x ops Q (⟨some d,.call ⟨.value c,as,ts⟩,ty,pos,aft,none⟩::rest) l own H:=λa w hh=>by
 simp only[wpLs,Zf,if_true]
 refine⟨λ_ _=>trivial,?_⟩
 have hrun:(execOp a.eval ⟨some d,.call ⟨.value c,as,ts⟩,ty,pos,aft,none⟩).run x.P w=.ok (.enter f vs.toArray) w:=by
  have e1:=Zg hh hc
  have e2:=mapM_eval (λo u e=>Zg hh e) ha
  simp only[execOp,resolve,e1,e2,Deferred.ofValue,Sem.run_bind,Sem.run_pure,Result.andThen,invoke]
  simpa using he _ _
 rw[Zq rfl,hrun]
 have hok:=hh.mem.ok.perm (List.Perm.refl own.flatten)
 show(_→_)∧CallsIn _ _ _ _ _ _ _
 refine⟨λe=>by simp[Fw]at e,?_⟩
 have ok0:OwnOk H ([]:List Own).flatten w:=OwnOk.left (by simpa using hok:OwnOk H (([]:List Own).flatten++own.flatten) w)
 refine CallsIn.mono (show CallsIn (Fw x.r) (0-1) x.P f _ w _ from C w hh.mem.agr ok0) ?_
 rintro e w' (⟨v,K',H',rfl,hR,hm⟩|⟨v,H',rfl,hE,hm⟩)
 · refine h v K' H' hR hm.le (λp hp'=>(hm.fresh p hp').elim (λq=>by simp[ids]at q) (Nat.le_trans hh.mem.kept.size)) _ _ (Holds.put (x:=x) (l:=l) ?_ hd v)
   exact⟨hh.size,hh.ds,hh.slots,by rw[List.flatten_append];exact hh.mem.go (by simp) hm⟩
 · refine h2 v H' hE hm.le a w' ⟨hh.size,hh.ds,hh.slots,?_⟩
   simpa using hh.mem.go (K:=([]:List Own).flatten) (K':=[]) (rst:=own.flatten) (by simp) hm
theorem DoesP.enterC{P:Program}{f:FuncId}{fn:Func}{c:Code}{vs:List Value}{H:Heaplet}{R:Value→List Own→Heaplet→Prop}{E:Value→Prop}
 (hf:P.funcs[f]? =some fn)(hb:fn.body=some c)(hn:Nat.ble vs.length fn.ntmps=true)
 (h:numK [0,1,2,3,4,5,6,7,8,9,10,11,12,13,14,15,16,17,18,19,20,21,22,23] vs (λl=>∀w,
  JC {P:=P,r:=none,n:=fn.ntmps,w0:=w,H0:=H,S:=[],ds:=[]} c (RetP {P:=P,r:=none,n:=fn.ntmps,w0:=w,H0:=H,S:=[],ds:=[]} fn R E) l [] H)):DoesP P f vs.toArray [] H R E:=λw ha hk=>by
 have hn:=Nat.le_of_ble_eq_true hn
 have h:=numK_eq _ _ _ h
 refine callsIn_of_wp hf hb trivial ?_
 refine h w _ w ⟨?_,rfl,λi v e=>enter_slots hn e,⟨ha,hk,Kept.refl _ _,λp hp=>.inl (List.mem_map_of_mem hp),Hle.refl _,λ_ _ _=>rfl,Mem.soft0⟩⟩
 simp;omega
def refV (T:TypeId)(e:Int):Value:=.iface T (.agg #[.int .i64 e])
theorem R.mkI{t T:TypeId}{p:Operand}(hc:x.P.concrete T=true)(h1:evo l p=some v):Runs x (.makeInterface T p) t l own H (.iface T v):=λρ w _ _ _ _ hρ hm=>by
 simp[execOp,hρ _ _ h1,run_makeInterface (h:=hc),go_sem]
theorem JL.panic{p:Operand}{T:TypeId}{u:Value}(h1:evo l p=some (.iface T u))(h:JN x (Q (.panic [{v:=.iface T u,recovered:=false}])) l own H):
 JL x ops Q (⟨none,.panic p,ty,pos,aft,none⟩::rest) l own H:=λa w hh=>by
 simp only[wpLs,Zf,if_true]
 refine⟨λ_ _=>trivial,?_⟩
 have hrun:(execOp a.eval ⟨none,.panic p,ty,pos,aft,none⟩).run x.P w=.halt (.panic (.iface T u)) w:=by
  have e1:=Zg hh h1
  generalize a.eval=ρ at e1⊢
  simp[execOp,e1,Instr.panic,goPanic,go_sem]
 rw[Zq rfl,hrun]
 exact h a w hh
variable{ρ β:Type}{c:Operand}{as:Array Operand}{ts:Array TypeId}{f:FuncId}{vs:List Value}{As:List Sp}{B:ρ→List Sp}{T:TypeId}
def MustP (P:Program)(f:FuncId)(T:TypeId):Prop:=∀(b:Bool) (e:Int) H,DoesP P f #[.bool b,.int .i64 e] [] H (λu K' H'=>b=false∧u=.tuple #[]∧K'= []∧H'=H) (λv=>b=true∧v=refV T e)
theorem JL.must{b:Bool}{e:Int}{A Z:Option β}{r:β}(hx:cond b A Z=some r)(he:Enters x.P f)(hp:prep l c as.toList d x.n=some (f,[.bool b,.int .i64 e]))(M:MustP x.P f T)
 (h2:b=true→A=some r→∀H',Hle H H'→JN x (Q (.panic [{v:=refV T e,recovered:=false}])) l own H')
 (h:b=false→Z=some r→JL x ops Q rest ((d,.tuple #[])::l) own H):
 JL x ops Q (⟨some d,.call ⟨.value c,as,ts⟩,ty,pos,aft,none⟩::rest) l own H:=by
 obtain⟨h1,h3,h4⟩:=prep_ok hp
 refine JL.callX he h1 h3 (M b e H) h4 (λv K' H' hR _ _=> ?_) (λv H' hE hle=> ?_)
 · obtain⟨rfl,rfl,rfl,rfl⟩:=hR
   exact h rfl hx
 · obtain⟨rfl,rfl⟩:=hE
   exact h2 rfl hx H' hle
def PostP (q:Bool)(H:Heaplet)(B:ρ→List Sp)(r:ρ ⊕ Int)(u:Value)(K:List Own)(H':Heaplet):Prop:=∃y,r=.inl y∧PostC q H B y u K H'
def EndP (T:TypeId)(r:ρ ⊕ Int)(v:Value):Prop:=∃e,r=.inr e∧v=refV T e
def ConP (P:Program)(f:FuncId)(q:Bool)(As:List Sp)(o:Option (ρ ⊕ Int))(B:ρ→List Sp)(T:TypeId):Prop:=
 ∀H,Ent H As (λvs=>∀r,o=some r→DoesP P f vs.toArray [] H (PostP q H B r) (EndP T r))
theorem JN.inlP{q:Bool}{z:ρ}{r:ρ ⊕ Int}(hx:some (Sum.inl z)=some r)(h:JN x (Ret x fn (PostC q x.H0 B z) ex) l own H):JN x (RetP x fn (PostP q x.H0 B r) E ex) l own H:=λa w hh=>by
 obtain rfl:=Option.some.inj hx
 exact bodyPost_mono (λe w ⟨v,K',H',h1,h2,h3⟩=>.inl ⟨v,K',H',h1,⟨z,rfl,h2⟩,h3⟩) ex a w (h a w hh)
theorem JN.inrP{e:Int}{r:ρ ⊕ Int}(hx:some (Sum.inr e)=some r)(hd:x.ds= []):JN x (RetP x fn R (EndP T r) (.panic [{v:=refV T e,recovered:=false}])) l own H:=by
 obtain rfl:=Option.some.inj hx
 exact JN.panicP hd ⟨e,rfl,rfl⟩
theorem JL.conP{o:Option (ρ ⊕ Int)}{k:ρ ⊕ Int→Option β}{r':β}(hx:Option.bind o k=some r')(he:Enters x.P f)(hp:prep l c as.toList d x.n=some (f,vs))(C:ConP x.P f false As o B T)(e:fl As vs=vs)(hA:Fit H As vs)
 (h2:∀e,k (.inr e)=some r'→∀H',Hle H H'→JN x (Q (.panic [{v:=refV T e,recovered:=false}])) l own H')
 (h:∀y,o=some (.inl y)→k (.inl y)=some r'→∀H',Hle H H'→Bnd x.H0 H' x.w0.heap.size own (B y) (λus o'=>JL x ops Q rest ((d,pack us)::l) o' H')):
 JL x ops Q (⟨some d,.call ⟨.value c,as,ts⟩,ty,pos,aft,none⟩::rest) l own H:=λa w hh=>by
 obtain⟨y,hy,hk⟩:=ZT hx
 obtain⟨h1,h3,h4⟩:=prep_ok hp
 refine JL.callX he h1 h3 (ent_fit (C H) e hA y hy) h4 (λv K' H' hR hle hf=> ?_) (λv H' hE hle=> ?_) a w hh
 · obtain⟨y',rfl,us,rfl,e2,ho,-⟩:=hR
   exact bnd_out hh.mem.le (k:=λus o'=>JL x ops Q rest ((d,pack us)::l) o' H') (h y' hy hk H' hle) e2 ho hf
 · obtain⟨e',rfl,rfl⟩:=hE
   exact h2 e' hk H' hle
end
end Go.Ow
namespace Go.Ow
open Go.RowKit
def RetD (x:Cx)(fn:Func)(R:Value→List Own→Heaplet→Prop):Exit→Act→World→Prop:=
 bodyPostDIn Fence.wide 0 x.P fn (λe w'=>∃v K' H',e=.returned v∧R v K' H'∧Mem x.w0 x.H0 x.S K'.flatten H' w')
theorem Does.enterDC{P:Program}{f:FuncId}{fn:Func}{c:Code}{vs:List Value}{H:Heaplet}{R:Value→List Own→Heaplet→Prop}
 (hf:P.funcs[f]? =some fn)(hb:fn.body=some c)(hn:Nat.ble vs.length fn.ntmps=true)
 (h:numK [0,1,2,3,4,5,6,7,8,9,10,11,12,13,14,15,16,17,18,19,20,21,22,23] vs (λl=>∀w,
  JC {P:=P,r:=none,n:=fn.ntmps,w0:=w,H0:=H,S:=[],ds:=[]} c (RetD {P:=P,r:=none,n:=fn.ntmps,w0:=w,H0:=H,S:=[],ds:=[]} fn R) l [] H)):Does P f vs.toArray [] H R:=λw ha hk=>by
 have hn:=Nat.le_of_ble_eq_true hn
 have h:=numK_eq _ _ _ h
 refine callsIn_of_wp_defers hf hb trivial ?_
 refine h w _ w ⟨?_,rfl,λi v e=>enter_slots hn e,⟨ha,hk,Kept.refl _ _,λp hp=>.inl (List.mem_map_of_mem hp),Hle.refl _,λ_ _ _=>rfl,Mem.soft0⟩⟩
 simp;omega
def modeOf (T:TypeId):Option Int→FrameMode
 |none=>.returning
 |some e=>.panicking [{v:=refV T e,recovered:=false}]
def valOf (T:TypeId):Option Int→Value
 |none=>.nilIface
 |some e=>refV T e
def DefP (P:Program)(g:FuncId)(args:Array Value)(T:TypeId)(m:Option Int)(K K':List Own)(H:Heaplet):Prop:=
 ∀w,Agrees H w→OwnOk H K.flatten w→CallsDIn Fence.wide 0 P g args (modeOf T m) w (λe u w'=>(∃v,e=.returned v)∧settle u=.returning∧Mem w H (ids K.flatten) K'.flatten H w')
section
variable{x:Cx}{ops:Array Oper}{Q:Exit→Act→World→Prop}{rest:List Oper}{l:Slots}{own:List Own}{H:Heaplet}{ty:TypeId}{d:Nat}{pos:String}{aft:Array Edge}
variable{fn:Func}{R:Value→List Own→Heaplet→Prop}{ex:Exit}{v:Value}
theorem JN.early (he:ex=.ret∨ex=.normal)(h:JN x (Ret x fn R ex) l own H):JN x (RetD x fn R ex) l own H:=λa w hh=>by
 have h:=h a w hh
 have key:∀(h:bodyPost x.P fn (λe w'=>∃v K' H',e=.returned v∧R v K' H'∧Mem x.w0 x.H0 x.S K'.flatten H' w') .ret a w),RetD x fn R .ret a w:=λh=>by
  obtain⟨h1,v,h2,h3⟩:=h
  show LeavesIn _ _ _ _ a.tmps _ a.defers .returning w
  rw[h1];exact⟨v,h2,h3⟩
 rcases he with rfl|rfl
 · exact key h
 · exact key h
theorem JL.defer{p:Operand}{g:FuncId}{cap:Array Value}(hr:x.r=none)(hc:evo l p=some (.func (.func g) #[] cap))(h:JL {x with ds:={target:=.fn (.func g) cap,args:=#[]}::x.ds} ops Q rest l own H):
 JL x ops Q (⟨none,.defer ⟨.value p,#[],#[]⟩,ty,pos,aft,none⟩::rest) l own H:=λa w hh=>by
 simp only[wpLs,Zf,if_true]
 refine⟨λ_ _=>trivial,?_⟩
 have hrun:(execOp a.eval ⟨none,.defer ⟨.value p,#[],#[]⟩,ty,pos,aft,none⟩).run x.P w=.ok (.defer {target:=.fn (.func g) cap,args:=#[]}) w:=by
  have e1:=Zg hh hc
  generalize a.eval=ρ at e1⊢
  simp[execOp,resolve,e1,Deferred.ofValue,go_sem]
 rw[show(Fw x.r).round=none from hr,Oper.semAt_none,hrun]
 exact h _ w ⟨hh.size,by show _::a.defers=_::x.ds;rw[hh.ds],hh.slots,hh.mem⟩
theorem JN.leaveD{x0:Cx}{g:FuncId}{cap:Array Value}{T:TypeId}{K K' rst:List Own}(m:Option Int)(h4:x.P=x0.P∧x.w0=x0.w0∧x.H0=x0.H0∧x.S=x0.S∧x.n=x0.n)(hd0:x0.ds= [])
 (hds:x.ds= [{target:=.fn (.func g) cap,args:=#[]}])(he:Enters x.P g)(hm:(m=none∧(ex=.ret∨ex=.normal))∨∃e,m=some e∧ex=.panic [{v:=refV T e,recovered:=false}])
 (hp:own.flatten.Perm (K.flatten++rst.flatten))(D:DefP x.P g cap T m K K' H)(h:JN x0 (Ret x0 fn R .ret) l (K'++rst) H):JN x (RetD x0 fn R ex) l own H:=λa w hh=>by
 obtain⟨h1,h2,h3,h4,h5⟩:=h4
 have key:∀w',Mem w H (ids K.flatten) K'.flatten H w'→∃v,(results fn a.tmps).run x0.P w'=.ok v w'∧∃v' K' H',Ending.returned v=.returned v'∧R v' K' H'∧Mem x0.w0 x0.H0 x0.S K'.flatten H' w':=by
  intro w' hm
  have hm2:Mem x.w0 x.H0 x.S (K'.flatten++rst.flatten) H w':=hh.mem.go hp hm
  have hh':Holds x0 l (K'++rst) H {a with defers:=[]} w':=⟨h5▸hh.size,hd0.symm,hh.slots,by rw[List.flatten_append,←h2,←h3,←h4];exact hm2⟩
  obtain⟨-,v,hr,hR⟩:=h _ _ hh'
  exact⟨v,hr,hR⟩
 have hok:=hh.mem.ok.perm hp
 have D':=D w hh.mem.agr hok.left
 have run:LeavesIn Fence.wide 0 x0.P fn a.tmps (λe w'=>∃v K' H',e=.returned v∧R v K' H'∧Mem x0.w0 x0.H0 x0.S K'.flatten H' w') [{target:=.fn (.func g) cap,args:=#[]}] (modeOf T m) w:=by
  refine leavesIn_cons (by cases m<;>simp[modeOf]) (by simp[Fence.wide]) (f:=g) (args:=cap) ?_ (λ_ _=>trivial) ?_
  · rw[←h1];simp only[invoke];simpa using he cap w
  · rw[←h1]at key⊢
    refine CallsDIn.mono D' (λe u' w' hh3=> ?_)
    obtain⟨⟨v,rfl⟩,hs,hm⟩:=hh3
    show LeavesIn _ _ _ _ _ _ [] (settle u') w'
    rw[hs];exact key w' hm
 rcases hm with⟨rfl,rfl|rfl⟩|⟨e,rfl,rfl⟩
 · show LeavesIn _ _ _ _ a.tmps _ a.defers .returning w
   rw[hh.ds,hds];exact run
 · show LeavesIn _ _ _ _ a.tmps _ a.defers .returning w
   rw[hh.ds,hds];exact run
 · show LeavesIn _ _ _ _ a.tmps _ a.defers (.panicking _) w
   rw[hh.ds,hds];exact run
end
theorem DefP.of{P:Program}{g:FuncId}{fn:Func}{c:Code}{vs:List Value}{T:TypeId}{m:Option Int}{K K':List Own}{H:Heaplet}{id d:Nat}{ty:TypeId}{pos:String}{aft:Array Edge}
    (hf:P.funcs[g]? =some fn)(hb:fn.body=some (.seq (.region id #[⟨some d,.call ⟨.builtin .recover,#[],#[]⟩,ty,pos,aft,none⟩] false) c))(hn:Nat.ble vs.length fn.ntmps=true)(hd:Nat.blt d fn.ntmps=true)
    (h:numK [0,1,2,3,4,5,6,7,8,9,10,11,12,13,14,15,16,17,18,19,20,21,22,23] vs (λl=>∀w,
      JC {P:=P,r:=none,n:=fn.ntmps,w0:=w,H0:=H,S:=ids K.flatten,ds:=[]} c (Ret {P:=P,r:=none,n:=fn.ntmps,w0:=w,H0:=H,S:=ids K.flatten,ds:=[]} fn (λv K2 H2=>K2=K'∧H2=H)) ((d,valOf T m)::l) K H)):
    DefP P g vs.toArray T m K K' H:=λw ha hk=>by
  have hn:=Nat.le_of_ble_eq_true hn
  have h:=numK_eq _ _ _ h
  refine callsDIn_of_wpSIn hf hb trivial (λc0 cs hc0=> ?_)
  refine wpSIn_seq (wpSIn_region ?_)
  have hh0:Holds {P:=P,r:=none,n:=fn.ntmps,w0:=w,H0:=H,S:=ids K.flatten,ds:=[]} ((List.zip [0,1,2,3,4,5,6,7,8,9,10,11,12,13,14,15,16,17,18,19,20,21,22,23] vs)) K H {tmps:=vs.toArray++Array.replicate (fn.ntmps-vs.toArray.size) undef,defers:=[]} w:=
    ⟨by simp;omega,rfl,λi v e=>enter_slots hn e,⟨ha,hk,Kept.refl _ _,λp hp=>.inl (List.mem_map_of_mem hp),Hle.refl _,λ_ _ _=>rfl,Mem.soft0⟩⟩
  generalize ({tmps:=vs.toArray++Array.replicate (fn.ntmps-vs.toArray.size) undef,defers:=[]}:Act)=a at hh0
  have hw:=h w _ w (hh0.put hd (valOf T m))
  have hrun:(execOp a.eval ⟨some d,.call ⟨.builtin .recover,#[],#[]⟩,ty,pos,aft,none⟩).run P w=.ok .recover w:=by
    generalize a.eval=ρ
    simp[execOp,resolve,invoke,builtin,go_sem]
  have fin:∀(u':FrameMode) (cs':List Frame),settle u'=.returning→cs'={c0 with mode:=u'}::cs→
      c.wpSIn Fence.wide 0 P (bodyPostS P fn c0 cs (λe u w'=>(∃v,e=.returned v)∧settle u=.returning∧Mem w H (ids K.flatten) K'.flatten H w')) (a.put (some d) (valOf T m)) cs' w:=by
    intro u' cs' hs hcs
    refine wpSIn_of_wpIn rfl (wpIn_mono hw ?_)
    intro e a' w' hq
    cases e with
    | normal=>
      obtain⟨h1,v,h2,v',K2,H2,h3,⟨rfl,rfl⟩,h5⟩:=hq
      exact⟨h1,u',hcs,v,h2,⟨v,rfl⟩,hs,h5⟩
    | ret=>
      obtain⟨h1,v,h2,v',K2,H2,h3,⟨rfl,rfl⟩,h5⟩:=hq
      exact⟨h1,u',hcs,v,h2,⟨v,rfl⟩,hs,h5⟩
    |panic ch=>obtain⟨h1,v',K2,H2,h3,-⟩:=hq;cases h3
    |outgrown=>obtain⟨v',K2,H2,h3,-⟩:=hq;cases h3
    |exit id=>exact hq.elim
    |goto id=>exact hq.elim
  show wpOpsSIn _ _ _ _ _ [0] _ _ _
  have hops:(#[⟨some d,.call ⟨.builtin .recover,#[],#[]⟩,ty,pos,aft,none⟩]:Array Oper)[0]? =some ⟨some d,.call ⟨.builtin .recover,#[],#[]⟩,ty,pos,aft,none⟩:=rfl
  simp only[wpOpsSIn,hops,Zf,if_true,hrun]
  refine⟨λ_ _=>trivial,?_⟩
  cases m with
  | none=>
    have:recoverD (c0::cs)=none:=by simp[recoverD,hc0,modeOf]
    rw[this]
    exact fin .returning _ rfl (by rw[show FrameMode.returning=c0.mode from hc0.symm])
  | some e=>
    have:recoverD (c0::cs)=some (refV T e,{c0 with mode:=.panicking [{v:=refV T e,recovered:=true}]}::cs):=by simp[recoverD,hc0,modeOf]
    rw[this]
    exact fin _ _ rfl rfl
section
variable{x:Cx}{l:Slots}{own:List Own}{H:Heaplet}{ty t u:TypeId}{p q:Operand}{v:Value}
theorem R.eqlNN (hu:x.P.underlying t=some (.interface (x.P.methodsAt t)))(h1:evo l p=some .nilIface):Runs x (.binOp .eql t p (.const .nilIface) u) ty l own H (.bool true):=λρ w _ _ _ _ hρ hm=>by
 simp[execOp,hρ _ _ h1,hρ (.const .nilIface) _ rfl,eqGuard,binOp,run_equal_nil_nil w t hu,go_sem]
theorem R.eqlIN{T:TypeId}(hu:x.P.underlying t=some (.interface (x.P.methodsAt t)))(h1:evo l p=some (.iface T v))(h2:evo l q=some .nilIface):Runs x (.binOp .eql t p q u) ty l own H (.bool false):=λρ w _ _ _ _ hρ hm=>by
 simp[execOp,hρ _ _ h1,hρ _ _ h2,eqGuard,binOp,run_equal_held_nil w t T v hu,go_sem]
theorem R.asrt{T:TypeId}{fs:Array Field}(hu:x.P.underlying T=some (.struct fs))(h1:evo l p=some (.iface T v)):Runs x (.typeAssert p t T true) ty l own H (.tuple #[v,.bool true]):=λρ w _ _ _ _ hρ hm=>by
 simp[execOp,hρ _ _ h1,Instr.typeAssert,run_underlying hu,go_sem]
end
end Go.Ow
namespace Go.Ow
def dev_cut (p_1:List Int):Option (List (List UInt8)):=if(∀n∈p_1,0≤n)∧(p_1.map Int.toNat).sum≤LIM∧p_1.length≤LIM then some (p_1.map λn=>List.replicate n.toNat 0)else none
def dev_place (p_1:Int):Option Bool:=
 some (decide ((u64i p_1)<(256:UInt64)))
def dev_Check_l2 (p_1:Disk)(s_18:Bool×Nat):Option ((Bool×Nat) ⊕ Bool):=
 cond (decide (((s_18.2:Nat):Int)<(p_1.Waits.length:Int))) (idx p_1.Waits ((s_18.2:Nat):Int) λy_22=>cond s_18.1 (Option.bind (dev_place y_22.At) λx_35=>cond x_35 (some (.inl (decide ((y_22.Data.length:Int)=256),s_18.2+1))) (some (.inl (false,s_18.2+1)))) (some (.inl (false,s_18.2+1)))) (some (.inr s_18.1))
def dev_Check_l1 (p_1:Disk)(s_12:Bool×Nat):Option ((Bool×Nat) ⊕ Bool):=
 cond (decide (((s_12.2:Nat):Int)<(p_1.Blocks.length:Int))) (idx p_1.Blocks ((s_12.2:Nat):Int) λy_16=>cond s_12.1 (some (.inl (decide ((y_16.length:Int)=256),s_12.2+1))) (some (.inl (false,s_12.2+1)))) (some (.inr s_12.1))
def dev_Check (p_1:Disk):Option Int:=
 Option.bind (cond (decide ((p_1.Blocks.length:Int)=256)) (some (decide ((p_1.Waits.length:Int)≤4096))) (some false)) (λt_5=>Option.bind (loop (dev_Check_l1 p_1) (t_5,0)) (λt_9=>Option.bind (loop (dev_Check_l2 p_1) (t_9,0)) (λt_15=>cond t_15 (some 0) (some 8))))
def slices_Max_byte_l1 (p_1:List UInt8)(s_16:UInt8×Nat):Option ((UInt8×Nat) ⊕ UInt8):=
 cond (decide (((s_16.2:Nat):Int)<(p_1.length:Int))) (idx p_1 ((s_16.2:Nat):Int) λy_20=>some (.inl (maxB s_16.1 y_20,s_16.2+1))) (some (.inr s_16.1))
def slices_Max_byte (p_1:List UInt8):Option UInt8:=
 cond (decide ((p_1.length:Int)<1)) (none) (idx p_1 0 λy_4=>Option.bind (loop (slices_Max_byte_l1 p_1) (y_4,1)) (λt_13=>some t_13))
def unicode_utf8_RuneCount (p_0:List UInt8):Option Int:=none
def bytes_Index (p_0:List UInt8)(p_1:List UInt8):Option Int:=none
def bytes_Count_l1 (p_3:List UInt8)(s_22:List UInt8×Int):Option ((List UInt8×Int) ⊕ Int):=
 Option.bind (bytes_Index s_22.1 p_3) λx_26=>cond (decide (x_26=(-1))) (some (.inr s_22.2)) (slc s_22.1 (w64 (x_26+(p_3.length:Int))) (s_22.1.length:Int) λm_30=>some (.inl (m_30,w64 (s_22.2+1))))
def bytes_Count (p_1:List UInt8)(p_3:List UInt8):Option Int:=
 cond (decide ((p_3.length:Int)=0)) (Option.bind (unicode_utf8_RuneCount p_1) λx_6=>some (w64 (x_6+1))) (cond (decide ((p_3.length:Int)=1)) (idx p_3 0 λy_10=>some ((cntB p_1 y_10:Nat):Int)) (Option.bind (loop (bytes_Count_l1 p_3) (p_1,0)) (λt_19=>some t_19)))
def space_Check (p_1:List UInt8):Option Int:=
 cond (!decide ((p_1.length:Int)=256)) (some 8) (Option.bind (slices_Max_byte p_1) λx_4=>cond (decide ((2:UInt8)<x_4)) (some 8) (slc p_1 0 12 λm_8=>Option.bind (bytes_Count m_8 ([(1:UInt8)])) λx_16=>cond (!decide (x_16=12)) (some 8) (some 0)))
def store_Check (p_1:Store):Option Int:=
 Option.bind (dev_Check (Disk.mk p_1.Disk.Blocks p_1.Disk.Waits)) λx_6=>cond (!decide (x_6=0)) (some 8) (Option.bind (space_Check p_1.Space) λx_10=>cond (!decide (x_10=0)) (some 8) (cond (decide (p_1.Epoch<(1:UInt32))) (some 8) (cond (decide ((65535:UInt32)<p_1.Epoch)) (some 8) (cond (decide ((65535:UInt32)<p_1.Count)) (some 8) (some 0)))))
def store_asked_l1 (p_7:List (List UInt8))(s_19:Int×Nat):Option ((Int×Nat) ⊕ (Unit ⊕ Unit)):=
 cond (decide (((s_19.2:Nat):Int)<(p_7.length:Int))) (idx p_7 ((s_19.2:Nat):Int) λy_23=>cond (!decide ((y_23.length:Int)=s_19.1)) (some (.inr (.inr ()))) (some (.inl (256,s_19.2+1)))) (some (.inr (.inl ())))
def store_asked (p_1:Store)(p_5:UInt32)(p_6:Int)(p_7:List (List UInt8)):Option Int:=
 Option.bind (store_Check p_1) λx_10=>cond (!decide (x_10=0)) (some x_10) (cond (decide (p_5<(1:UInt32))) (some 2) (cond (decide ((16777215:UInt32)<p_5)) (some 2) (Option.bind (loop (store_asked_l1 p_7) (p_6,0)) (λt_16=>Sum.elim (λt_16a=>some 0) (λt_16b=>some 3) t_16))))
def code_sized (p_1:Int):Option Bool:=
 Option.bind (cond (decide (0<p_1)) (some (decide (p_1≤4))) (some false)) (λt_2=>some t_2)
def code_Put_l1 (p_2:Int)(s_13:Int×List UInt8):Option ((Int×List UInt8) ⊕ (List UInt8)):=
 cond (decide ((s_13.2.length:Int)<p_2)) (app s_13.2 ([u8i s_13.1]) λq_19=>some (.inl (w64 (s_13.1.tdiv 256),q_19))) (some (.inr s_13.2))
def code_Put (p_1:Int)(p_2:Int):Option (List UInt8×Int):=
 Option.bind (code_sized p_2) λx_3=>cond (!x_3) (some (([]:List UInt8),2)) (cond (decide (p_1<0)) (some (([]:List UInt8),2)) (chk (0≤(w64 (8*p_2)))<|cond (decide ((sli 1 (w64 (8*p_2)))≤p_1)) (some (([]:List UInt8),2)) (Option.bind (loop (code_Put_l1 p_2) (p_1,([]:List UInt8))) (λt_10=>some (t_10,0)))))
def slices_Clone_byte (p_1:List UInt8):Option (List UInt8):=app [] p_1 λq=>some q
def slices_Clip_byte (p_1:List UInt8):Option (List UInt8):=
 slc p_1 0 (p_1.length:Int) λm_3=>some m_3
def slices_Chunk_byte (p_1:List UInt8)(p_2:Int):Option Unit:=if 1≤p_2∧p_2≤1099511627776∧p_1.length≤LIM then some ()else none
def slices_Backward_byte (p_1:List UInt8):Option Unit:=some ()
def code_Get_r1 (y_28:Nat×UInt8)(s_27:Int):Option (Int ⊕ Unit):=
 some (.inl (w64 ((w64 (256*s_27))+(y_28.2.toNat:Int))))
def code_Get (p_1:List UInt8)(p_3:Int)(p_4:Int):Option (Int×Int):=
 Option.bind (code_sized p_4) λx_5=>Option.bind (cond (!x_5) (some true) (cond (decide (p_3<0)) (some true) (some (decide ((p_1.length:Int)<p_3))))) (λt_8=>cond t_8 (some (0,2)) (cond (decide ((p_1.length:Int)<(w64 (p_3+p_4)))) (some (0,8)) (slc p_1 p_3 (w64 (p_3+p_4)) λm_16=>Option.bind (slices_Backward_byte m_16) λx_20=>Option.bind (forL code_Get_r1 (bwd m_16 m_16.length) 0) (λt_24=>Sum.elim (λs_27=>some (s_27,0)) (λ_=>none) t_24))))
def mix_number (p_1:List UInt8):Option UInt32:=
 Option.bind (code_Get p_1 0 4) λx_3=>some (u32i x_3.1)
def math_bits_RotateLeft32 (p_1:UInt32)(p_2:Int):Option UInt32:=
 some ((sl32 p_1 ((((u64i p_2)&&&(31:UInt64)).toNat:Int)).toNat) |||(sr32 p_1 ((((32:UInt64)-((u64i p_2)&&&(31:UInt64))).toNat:Int)).toNat))
def mix_words_turned_1 (p_1:Int)(p_2:Int)(p_4:A4 UInt32):Option (A4 UInt32):=
 Option.bind (math_bits_RotateLeft32 (p_4.e3^^^(p_4.e0+p_4.e1)) p_1) λx_5=>Option.bind (math_bits_RotateLeft32 (p_4.e1^^^(p_4.e2+x_5)) p_2) λx_8=>some (A4.mk (p_4.e0+p_4.e1) x_8 (p_4.e2+x_5) x_5)
def mix_words_turned (p_1:A4 UInt32):Option (A4 UInt32):=
 Option.bind (mix_words_turned_1 15 11 p_1) λx_4=>Option.bind (mix_words_turned_1 9 6 x_4) λx_7=>some x_7
def mix_words_often_l1 (p_2:Int)(s_8:UInt32×UInt32×UInt32×UInt32×Int):Option ((UInt32×UInt32×UInt32×UInt32×Int) ⊕ (UInt32×UInt32×UInt32×UInt32)):=
 cond (decide (s_8.2.2.2.2<p_2)) (Option.bind (mix_words_turned (A4.mk s_8.1 s_8.2.1 s_8.2.2.1 s_8.2.2.2.1)) λx_12=>some (.inl (x_12.e0,x_12.e1,x_12.e2,x_12.e3,w64 (s_8.2.2.2.2+1)))) (some (.inr (s_8.1,s_8.2.1,s_8.2.2.1,s_8.2.2.2.1)))
def mix_words_often (p_1:A4 UInt32)(p_2:Int):Option (A4 UInt32):=
 Option.bind (loop (mix_words_often_l1 p_2) (p_1.e0,p_1.e1,p_1.e2,p_1.e3,0)) (λt_5=>some (A4.mk t_5.1 t_5.2.1 t_5.2.2.1 t_5.2.2.2))
def mix_four_r2 (y_36:List UInt8)(s_35:UInt32×UInt32×UInt32×UInt32):Option ((UInt32×UInt32×UInt32×UInt32) ⊕ Unit):=
 Option.bind (slc y_36 0 4 λm_45=>Option.bind (mix_number m_45) λx_49=>some (s_35.1^^^x_49)) (λt_42=>slc y_36 4 (y_36.length:Int) λm_56=>Option.bind (mix_number m_56) λx_60=>Option.bind (mix_words_often (A4.mk t_42 s_35.2.1 (s_35.2.2.1^^^x_60) s_35.2.2.2) 4) λx_63=>some (.inl (x_63.e0,x_63.e1,x_63.e2,x_63.e3)))
def mix_four_l1 (s_22:List UInt8):Option ((List UInt8) ⊕ (List UInt8)):=
 cond (!decide (((s_22.length:Int).tmod 8)=0)) (app s_22 ([(0:UInt8)]) λq_28=>some (.inl q_28)) (some (.inr s_22))
def mix_four (p_1:List UInt8):Option (A4 UInt32):=
 Option.bind (slices_Clone_byte p_1) λx_5=>Option.bind (slices_Clip_byte x_5) λx_10=>app x_10 ([(1:UInt8)]) λq_15=>Option.bind (loop mix_four_l1 q_15) (λt_19=>Option.bind (slices_Chunk_byte t_19 8) λx_28=>Option.bind (forL mix_four_r2 (chunks (8:Int).toNat t_19.length t_19) ((1:UInt32),(2:UInt32),(3:UInt32),(4:UInt32))) (λt_32=>Sum.elim (λs_35=>Option.bind (mix_words_often (A4.mk s_35.1 (s_35.2.1^^^(u32i (p_1.length:Int))) s_35.2.2.1 s_35.2.2.2) 8) λx_42=>some x_42) (λ_=>none) t_32))
def mix_Sum (p_1:List UInt8):Option UInt32:=
 Option.bind (mix_four p_1) λx_3=>some x_3.e0
def space_free (p_1:List UInt8):Option (Int×List UInt8):=
 some ((-1),p_1)
def space_free_1_l1 (p_4:List UInt8)(s_9:Int):Option (Int ⊕ (Int ⊕ (Int×Int))):=
 cond (decide (s_9<(p_4.length:Int))) (idx p_4 s_9 λy_13=>cond (decide (y_13=(0:UInt8))) (some (.inr (.inr (s_9,s_9)))) (some (.inl (w64 (s_9+1))))) (some (.inr (.inl s_9)))
def space_free_1 (p_2:Int)(p_4:List UInt8):Option (Int×Int×List UInt8):=
 Option.bind (loop (space_free_1_l1 p_4) (w64 (p_2+1))) (λt_6=>Sum.elim (λt_6a=>some ((-1),t_6a,p_4)) (λt_6b=>some (t_6b.2,t_6b.1,p_4)) t_6)
def bytes_Clone (p_1:List UInt8):Option (List UInt8):=app [] p_1 λq=>some q
def space_Take (p_1:List UInt8):Option (List UInt8×Int×Int):=
 Option.bind (space_Check p_1) λx_3=>cond (!decide (x_3=0)) (some (([]:List UInt8),0,x_3)) (Option.bind (space_free p_1) λx_7=>Option.bind (space_free_1 x_7.1 x_7.2) λx_13=>cond (decide (x_13.1<0)) (some (([]:List UInt8),0,9)) (Option.bind (bytes_Clone p_1) λx_18=>chk (0≤x_13.1∧x_13.1.toNat<x_18.length)<|setI x_18 x_13.1 (1:UInt8) λm_26=>some (m_26,x_13.1,0)))
def dev_Write_1 (p_2:Disk):Option (Disk×Disk):=
 some (p_2,p_2)
def dev_guarded (p_1:Disk)(p_4:Bool)(p_6:Disk):Option (Disk×Int×Disk):=
 Option.bind (dev_Check p_1) λx_11=>cond (!decide (x_11=0)) (some (Disk.mk ([]:List (List UInt8)) ([]:List Write),x_11,p_6)) (cond (!p_4) (some (Disk.mk ([]:List (List UInt8)) ([]:List Write),2,p_6)) (Option.bind (dev_Write_1 p_6) λx_16=>some (x_16.1,0,x_16.2)))
def slices_Clip_Write (p_1:List Write):Option (List Write):=
 slc p_1 0 (p_1.length:Int) λm_3=>some m_3
def dev_Twin_l3 (p_1:Disk)(s_30:List Write×Nat):Option ((List Write×Nat) ⊕ (List Write)):=
 cond (decide (((s_30.2:Nat):Int)<(p_1.Waits.length:Int))) (idx p_1.Waits ((s_30.2:Nat):Int) λy_36=>Option.bind (bytes_Clone y_36.Data) λx_48=>app s_30.1 ([Write.mk y_36.At x_48]) λq_54=>some (.inl (q_54,s_30.2+1))) (some (.inr s_30.1))
def dev_Twin_l2 (p_1:Disk)(s_22:List (List UInt8)×Nat):Option ((List (List UInt8)×Nat) ⊕ (List (List UInt8))):=
 cond (decide (((s_22.2:Nat):Int)<(p_1.Blocks.length:Int))) (idx p_1.Blocks ((s_22.2:Nat):Int) λy_27=>idx s_22.1 ((s_22.2:Nat):Int) λy_38=>chk (y_27.length=y_38.length)<|setI s_22.1 ((s_22.2:Nat):Int) y_27 λm_51=>some (.inl (m_51,s_22.2+1))) (some (.inr s_22.1))
def dev_Twin_l1 (p_1:Disk)(s_9:List Int×Nat):Option ((List Int×Nat) ⊕ (List Int)):=
 cond (decide (((s_9.2:Nat):Int)<(p_1.Blocks.length:Int))) (idx p_1.Blocks ((s_9.2:Nat):Int) λy_14=>app s_9.1 ([(y_14.length:Int)]) λq_26=>some (.inl (q_26,s_9.2+1))) (some (.inr s_9.1))
def dev_Twin (p_1:Disk):Option Disk:=
 Option.bind (loop (dev_Twin_l1 p_1) (([]:List Int),0)) (λt_6=>Option.bind (dev_cut t_6) λx_15=>Option.bind (loop (dev_Twin_l2 p_1) (x_15,0)) (λt_19=>Option.bind (loop (dev_Twin_l3 p_1) (([]:List Write),0)) (λt_27=>some (Disk.mk t_19 t_27))))
def dev_Write (p_1:Disk)(p_4:Int)(p_5:List UInt8):Option (Disk×Int):=
 Option.bind (Option.bind (dev_place p_4) λx_12=>Option.bind (dev_guarded p_1 x_12 p_1) λx_15=>some (x_15.2.2.Blocks,x_15.2.2.Waits,x_15.2.1)) (λt_9=>cond (!decide (t_9.2.2=0)) (some (Disk.mk ([]:List (List UInt8)) ([]:List Write),t_9.2.2)) (cond (!decide ((p_5.length:Int)=256)) (some (Disk.mk ([]:List (List UInt8)) ([]:List Write),3)) (cond (decide ((t_9.2.1.length:Int)=4096)) (some (Disk.mk ([]:List (List UInt8)) ([]:List Write),9)) (Option.bind (Option.bind (slices_Clip_Write t_9.2.1) λx_31=>app x_31 ([Write.mk p_4 p_5]) λq_36=>Option.bind (dev_Twin (Disk.mk t_9.1 q_36)) λx_41=>some (x_41.Blocks,x_41.Waits)) (λt_28=>some (Disk.mk t_28.1 t_28.2,0))))))
def store_put (p_1:Store)(p_5:Ptr)(p_6:List UInt8):Option (Store×Ptr×Int):=
 Option.bind (space_Take p_1.Space) λx_12=>cond (!decide (x_12.2.2=0)) (some (Store.mk (Disk.mk ([]:List (List UInt8)) ([]:List Write)) ([]:List UInt8) (0:UInt32) (0:UInt32),Ptr.mk 0 (0:UInt32) (0:UInt32) (0:UInt32) (0:UInt32),x_12.2.2)) (Option.bind (dev_Write (Disk.mk p_1.Disk.Blocks p_1.Disk.Waits) x_12.2.1 p_6) λx_17=>cond (!decide (x_17.2=0)) (some (Store.mk (Disk.mk ([]:List (List UInt8)) ([]:List Write)) ([]:List UInt8) (0:UInt32) (0:UInt32),Ptr.mk 0 (0:UInt32) (0:UInt32) (0:UInt32) (0:UInt32),x_17.2)) (Option.bind (mix_Sum p_6) λx_23=>some (Store.mk (Disk.mk x_17.1.Blocks x_17.1.Waits) x_12.1 p_1.Epoch p_1.Count,Ptr.mk x_12.2.1 p_5.Birth p_5.Iv p_5.Tag x_23,0)))
def ptr_Check (p_1:Ptr):Option Int:=
 cond (decide (p_1.At=0)&&(decide (p_1.Birth=(0:UInt32))&&(decide (p_1.Iv=(0:UInt32))&&(decide (p_1.Tag=(0:UInt32))&&(decide (p_1.Sum=(0:UInt32))&&true))))) (some 0) (cond (decide (p_1.At<12)) (some 8) (cond (decide (256≤p_1.At)) (some 8) (cond (decide (p_1.Birth<(1:UInt32))) (some 8) (cond (decide ((16777215:UInt32)<p_1.Birth)) (some 8) (some 0)))))
def slices_Clone_byte_L (p_1:List (List UInt8)):Option (List (List UInt8)):=app [] p_1 λq=>some q
def dev_all (p_1:Int):Option Bool:=
 some true
def dev_lasts_l1 (p_1:Disk)(s_9:(List (Int×Write))×Nat):Option (((List (Int×Write))×Nat) ⊕ (List (Int×Write))):=
 cond (decide (((s_9.2:Nat):Int)<(p_1.Waits.length:Int))) (idx p_1.Waits ((s_9.2:Nat):Int) λy_14=>Option.bind (dev_all ((s_9.2:Nat):Int)) λx_26=>cond x_26 (some (.inl ((putM s_9.1 y_14.At y_14),s_9.2+1))) (some (.inl (s_9.1,s_9.2+1)))) (some (.inr s_9.1))
def dev_lasts (p_1:Disk):Option (List (Int×Write)):=
 Option.bind (loop (dev_lasts_l1 p_1) (([]:List (Int×Write)),0)) (λt_6=>some t_6)
def dev_left (p_1:Disk):Option Disk:=
 Option.bind (Option.bind (slices_Clone_byte_L p_1.Blocks) λx_9=>some x_9) (λt_6=>Option.bind (dev_lasts (Disk.mk t_6 p_1.Waits)) λx_22=>layR (λy:Write=>y.Data) t_6 x_22 λm_30=>Option.bind (dev_Twin (Disk.mk m_30 ([]:List Write))) λx_50=>some x_50)
def dev_Read_1 (p_2:Disk):Option (Disk×Disk):=
 Option.bind (dev_left p_2) λx_6=>some (x_6,p_2)
def dev_guarded_v2 (p_1:Disk)(p_4:Bool)(p_6:Disk):Option (Disk×Int×Disk):=
 Option.bind (dev_Check p_1) λx_11=>cond (!decide (x_11=0)) (some (Disk.mk ([]:List (List UInt8)) ([]:List Write),x_11,p_6)) (cond (!p_4) (some (Disk.mk ([]:List (List UInt8)) ([]:List Write),2,p_6)) (Option.bind (dev_Read_1 p_6) λx_16=>some (x_16.1,0,x_16.2)))
def dev_Read (p_1:Disk)(p_4:Int):Option (List UInt8×Int):=
 Option.bind (Option.bind (dev_place p_4) λx_9=>Option.bind (dev_guarded_v2 p_1 x_9 p_1) λx_12=>some (x_12.1.Blocks,x_12.1.Waits,x_12.2.1)) (λt_6=>cond (!decide (t_6.2.2=0)) (some (([]:List UInt8),t_6.2.2)) (idx t_6.1 p_4 λy_25=>some (y_25,0)))
def store_Look (p_1:Store)(p_5:Ptr):Option (List UInt8×Int):=
 Option.bind (store_Check p_1) λx_8=>cond (!decide (x_8=0)) (some (([]:List UInt8),8)) (Option.bind (ptr_Check p_5) λx_12=>cond (!decide (x_12=0)) (some (([]:List UInt8),8)) (cond (decide (p_5.At=0)&&(decide (p_5.Birth=(0:UInt32))&&(decide (p_5.Iv=(0:UInt32))&&(decide (p_5.Tag=(0:UInt32))&&(decide (p_5.Sum=(0:UInt32))&&true))))) (some (([]:List UInt8),6)) (Option.bind (dev_Read (Disk.mk p_1.Disk.Blocks p_1.Disk.Waits) p_5.At) λx_17=>Option.bind (cond (decide (x_17.2=0)) (Option.bind (mix_Sum x_17.1) λx_25=>cond (!decide (x_25=p_5.Sum)) (some (([]:List UInt8),130)) (some (x_17.1,x_17.2))) (some (x_17.1,x_17.2))) (λt_21=>some (t_21.1,t_21.2)))))
def ref09_Great_l2 (p_1:Disk)(s_22:Int×Nat):Option ((Int×Nat) ⊕ Int):=
 cond (decide (((s_22.2:Nat):Int)<(p_1.Waits.length:Int))) (cond (decide (s_22.1<2000000)) (idx p_1.Waits ((s_22.2:Nat):Int) λy_27=>some (.inl (w64 (s_22.1+(y_27.Data.length:Int)),s_22.2+1))) (some (.inr s_22.1))) (some (.inr s_22.1))
def ref09_Great_l1 (p_1:Disk)(s_16:Int×Nat):Option ((Int×Nat) ⊕ Int):=
 cond (decide (((s_16.2:Nat):Int)<(p_1.Blocks.length:Int))) (cond (decide (s_16.1<2000000)) (idx p_1.Blocks ((s_16.2:Nat):Int) λy_21=>some (.inl (w64 (s_16.1+(y_21.length:Int)),s_16.2+1))) (some (.inr s_16.1))) (some (.inr s_16.1))
def ref09_Great (p_1:Disk):Option Bool:=
 Option.bind (cond (decide (500<(p_1.Blocks.length:Int))) (some (.inr ())) (cond (decide (500<(p_1.Waits.length:Int))) (cond (decide ((p_1.Waits.length:Int)<4096)) (some (.inr ())) (cond (decide (4106<(p_1.Waits.length:Int))) (some (.inr ())) (some (.inl ())))) (cond (decide (4106<(p_1.Waits.length:Int))) (some (.inr ())) (some (.inl ()))))) (λt_5=>Sum.elim (λt_5a=>Option.bind (loop (ref09_Great_l1 p_1) (0,0)) (λt_13=>Option.bind (loop (ref09_Great_l2 p_1) (t_13,0)) (λt_19=>some (decide (2000000≤t_19))))) (λt_5b=>some true) t_5)
def ref13_Great (p_1:Store):Option Bool:=
 Option.bind (Option.bind (ref09_Great (Disk.mk p_1.Disk.Blocks p_1.Disk.Waits)) λx_9=>cond x_9 (some true) (some (decide (10000<(p_1.Space.length:Int))))) (λt_6=>some t_6)
def store_Raw (p_1:Store)(p_5:UInt32)(p_6:UInt32)(p_7:UInt32)(p_8:List UInt8):Option (Store×Ptr×Int):=
 Option.bind (store_asked p_1 p_5 256 ([p_8])) λx_17=>cond (!decide (x_17=0)) (some (Store.mk (Disk.mk ([]:List (List UInt8)) ([]:List Write)) ([]:List UInt8) (0:UInt32) (0:UInt32),Ptr.mk 0 (0:UInt32) (0:UInt32) (0:UInt32) (0:UInt32),x_17)) (Option.bind (store_put p_1 (Ptr.mk 0 p_5 p_6 p_7 (0:UInt32)) p_8) λx_20=>some (x_20.1,x_20.2.1,x_20.2.2))
def store_Lay (p_1:Store)(p_5:UInt32)(p_6:List UInt8):Option (Store×Ptr×Int):=
 Option.bind (store_Raw p_1 p_5 (0:UInt32) (0:UInt32) p_6) λx_11=>some (x_11.1,x_11.2.1,x_11.2.2)
end Go.Ow
namespace Go.Ow
theorem run_go{σ τ:Type}{body:σ→Option (σ ⊕ τ)}{n:Nat}{s s':σ}(h:body s=some (.inl s')):run body (n+1) s=run body n s':=by
 show Option.bind (body s) _=_
 rw[h];rfl
end Go.Ow
namespace Go.Ow
end Go.Ow
namespace Go.Ow
def ptr_sizes:Option (A5 Int):=
 some (A5.mk 1 3 4 4 4)
def ptr_Write_l1 (p_1:Ptr)(x_8:A5 Int)(s_14:List UInt8×Nat):Option ((List UInt8×Nat) ⊕ (List UInt8)):=
 cond (decide (((s_14.2:Nat):Int)<5)) (idx x_8.l ((s_14.2:Nat):Int) λy_19=>idx (A5.mk p_1.At (p_1.Birth.toNat:Int) (p_1.Iv.toNat:Int) (p_1.Tag.toNat:Int) (p_1.Sum.toNat:Int)).l ((s_14.2:Nat):Int) λy_21=>Option.bind (code_Put y_21 y_19) λx_23=>app s_14.1 x_23.1 λq_27=>some (.inl (q_27,s_14.2+1))) (some (.inr s_14.1))
def ptr_Write (p_1:Ptr):Option (List UInt8×Int):=
 Option.bind (ptr_Check p_1) λx_3=>cond (!decide (x_3=0)) (some (([]:List UInt8),x_3)) (Option.bind (ptr_sizes) λx_8=>Option.bind (loop (ptr_Write_l1 p_1 x_8) (([]:List UInt8),0)) (λt_11=>some (t_11,0)))
def ptr_Row_l1 (p_1:List Ptr)(s_8:List UInt8×Nat):Option ((List UInt8×Nat) ⊕ ((List UInt8) ⊕ Int)):=
 cond (decide (((s_8.2:Nat):Int)<(p_1.length:Int))) (idx p_1 ((s_8.2:Nat):Int) λy_13=>Option.bind (ptr_Write y_13) λx_23=>cond (!decide (x_23.2=0)) (some (.inr (.inr x_23.2))) (appN 256 s_8.1 x_23.1 λq_28=>some (.inl (q_28,s_8.2+1)))) (some (.inr (.inl s_8.1)))
def ptr_Row (p_1:List Ptr):Option (List UInt8×Int):=
 cond (decide (16<(p_1.length:Int))) (some (([]:List UInt8),4)) (Option.bind (loop (ptr_Row_l1 p_1) (([]:List UInt8),0)) (λt_5=>Sum.elim (λt_5a=>extO 256 t_5a 256 λm_13=>some (m_13,0)) (λt_5b=>some (([]:List UInt8),t_5b)) t_5))
def ptr_Read_l1 (p_1:List UInt8)(x_6:A5 Int)(s_12:Int×Int×Int×Int×Int×Int×Nat):Option ((Int×Int×Int×Int×Int×Int×Nat) ⊕ (Int×Int×Int×Int×Int)):=
 cond (decide (((s_12.2.2.2.2.2.2:Nat):Int)<5)) (idx x_6.l ((s_12.2.2.2.2.2.2:Nat):Int) λy_17=>Option.bind (code_Get p_1 s_12.2.2.2.2.2.1 y_17) λx_19=>chk (0≤((s_12.2.2.2.2.2.2:Nat):Int)∧((s_12.2.2.2.2.2.2:Nat):Int).toNat<5)<|A5.setI (A5.mk s_12.1 s_12.2.1 s_12.2.2.1 s_12.2.2.2.1 s_12.2.2.2.2.1) ((s_12.2.2.2.2.2.2:Nat):Int) x_19.1 λm_23=>some (.inl (m_23.e0,m_23.e1,m_23.e2,m_23.e3,m_23.e4,w64 (s_12.2.2.2.2.2.1+y_17),s_12.2.2.2.2.2.2+1))) (some (.inr (s_12.1,s_12.2.1,s_12.2.2.1,s_12.2.2.2.1,s_12.2.2.2.2.1)))
def ptr_Read (p_1:List UInt8):Option (Ptr×Int):=
 cond (!decide ((p_1.length:Int)=16)) (some (Ptr.mk 0 (0:UInt32) (0:UInt32) (0:UInt32) (0:UInt32),3)) (Option.bind (ptr_sizes) λx_6=>Option.bind (loop (ptr_Read_l1 p_1 x_6) (0,0,0,0,0,0,0)) (λt_9=>Option.bind (ptr_Check (Ptr.mk t_9.1 (u32i t_9.2.1) (u32i t_9.2.2.1) (u32i t_9.2.2.2.1) (u32i t_9.2.2.2.2))) λx_17=>cond (!decide (x_17=0)) (some (Ptr.mk 0 (0:UInt32) (0:UInt32) (0:UInt32) (0:UInt32),x_17)) (some (Ptr.mk t_9.1 (u32i t_9.2.1) (u32i t_9.2.2.1) (u32i t_9.2.2.2.1) (u32i t_9.2.2.2.2),0))))
def ptr_Rows_r1 (y_14:List UInt8)(s_13:List Ptr):Option ((List Ptr) ⊕ Int):=
 Option.bind (ptr_Read y_14) λx_21=>cond (!decide (x_21.2=0)) (some (.inr x_21.2)) (app s_13 ([x_21.1]) λq_27=>some (.inl q_27))
def ptr_Rows (p_1:List UInt8):Option (List Ptr×Int):=
 cond (!decide ((p_1.length:Int)=256)) (some (([]:List Ptr),3)) (Option.bind (slices_Chunk_byte p_1 16) λx_6=>Option.bind (forL ptr_Rows_r1 (chunks (16:Int).toNat p_1.length p_1) ([]:List Ptr)) (λt_10=>Sum.elim (λs_13=>some (s_13,0)) (λt_10e0=>some (([]:List Ptr),t_10e0)) t_10))
def cmp_isNaN_int (p_1:Int):Option Bool:=
 some (!decide (p_1=p_1))
def cmp_Compare_int (p_1:Int)(p_2:Int):Option Int:=
 Option.bind (cmp_isNaN_int p_1) λx_3=>Option.bind (cmp_isNaN_int p_2) λx_6=>cond x_3 (cond x_6 (some 0) (some (-1))) (cond x_6 (some 1) (cond (decide (p_1<p_2)) (some (-1)) (cond (decide (p_2<p_1)) (some 1) (some 0))))
def dead_order (p_1:Ptr)(p_2:Ptr):Option Int:=
 Option.bind (cmp_Compare_int p_1.At p_2.At) λx_5=>some x_5
def dead_Check_l1 (p_1:List Ptr)(s_7:Nat):Option (Nat ⊕ (Unit ⊕ Unit)):=
 cond (decide (((s_7:Nat):Int)<(p_1.length:Int))) (idx p_1 ((s_7:Nat):Int) λy_11=>cond (decide (y_11.At=0)&&(decide (y_11.Birth=(0:UInt32))&&(decide (y_11.Iv=(0:UInt32))&&(decide (y_11.Tag=(0:UInt32))&&(decide (y_11.Sum=(0:UInt32))&&true))))) (some (.inr (.inr ()))) (Option.bind (ptr_Check y_11) λx_22=>cond (!decide (x_22=0)) (some (.inr (.inr ()))) (cond (decide (0<((s_7:Nat):Int))) (idx p_1 (w64 (((s_7:Nat):Int)-1)) λy_27=>Option.bind (dead_order y_27 y_11) λx_36=>cond (decide (0≤x_36)) (some (.inr (.inr ()))) (some (.inl (s_7+1)))) (some (.inl (s_7+1)))))) (some (.inr (.inl ())))
def dead_Check (p_1:List Ptr):Option Int:=
 cond (decide (240<(p_1.length:Int))) (some 8) (Option.bind (loop (dead_Check_l1 p_1) 0) (λt_4=>Sum.elim (λt_4a=>some 0) (λt_4b=>some 8) t_4))
def store_Twin (p_1:Store):Option Store:=
 Option.bind (Option.bind (dev_Twin (Disk.mk p_1.Disk.Blocks p_1.Disk.Waits)) λx_10=>Option.bind (bytes_Clone p_1.Space) λx_15=>some (x_10.Blocks,x_10.Waits,x_15)) (λt_7=>some (Store.mk (Disk.mk t_7.1 t_7.2.1) t_7.2.2 p_1.Epoch p_1.Count))
def slices_Chunk_Ptr (p_1:List Ptr)(p_2:Int):Option Unit:=if 1≤p_2∧p_2≤1099511627776∧p_1.length≤LIM then some ()else none
def dead_Lay_1 (p_1:List Ptr)(p_4:Store)(p_9:UInt32)(p_11:Ptr)(p_13:Int)(p_15:List Int):Option (Store×UInt32×Ptr×Int×List Int):=
 Option.bind (ptr_Row p_1) λx_17=>Option.bind (store_Lay p_4 p_9 x_17.1) λx_22=>cond (decide (x_22.2.2=0)) (app p_15 ([x_22.2.1.At]) λq_30=>some (x_22.1,p_9,x_22.2.1,x_22.2.2,q_30)) (some (x_22.1,p_9,x_22.2.1,x_22.2.2,p_15))
end Go.Ow
namespace Go.Ow
def ref09_Twin_l2 (p_1:Disk)(s_44:List WriteO×Nat):Option ((List WriteO×Nat) ⊕ (List WriteO)):=
 cond (decide (((s_44.2:Nat):Int)<(p_1.Waits.length:Int))) (idx p_1.Waits ((s_44.2:Nat):Int) λy_50=>idx s_44.1 ((s_44.2:Nat):Int) λy_61=>setI s_44.1 ((s_44.2:Nat):Int) (WriteO.mk y_50.At y_61.Data) λm_74=>idx p_1.Waits ((s_44.2:Nat):Int) λy_78=>idx m_74 ((s_44.2:Nat):Int) λy_89=>chkN y_89.Data<|app ([]:List UInt8) y_78.Data λq_104=>idx m_74 ((s_44.2:Nat):Int) λy_108=>setI m_74 ((s_44.2:Nat):Int) (WriteO.mk y_108.At (some q_104)) λm_122=>some (.inl (m_122,s_44.2+1))) (some (.inr s_44.1))
def ref09_Twin_l1 (p_1:Disk)(s_34:List (Option (List UInt8))×Nat):Option ((List (Option (List UInt8))×Nat) ⊕ (List (Option (List UInt8)))):=
 cond (decide (((s_34.2:Nat):Int)<(p_1.Blocks.length:Int))) (idx p_1.Blocks ((s_34.2:Nat):Int) λy_40=>idx s_34.1 ((s_34.2:Nat):Int) λy_51=>chkN y_51<|app ([]:List UInt8) y_40 λq_66=>chk (0≤((s_34.2:Nat):Int)∧((s_34.2:Nat):Int).toNat<s_34.1.length)<|setI s_34.1 ((s_34.2:Nat):Int) (some q_66) λm_75=>some (.inl (m_75,s_34.2+1))) (some (.inr s_34.1))
def ref09_Twin (p_1:Disk):Option Disk:=
 Option.bind (mks (p_1.Blocks.length:Int) (none:Option (List UInt8)) λx_11=>mks (p_1.Waits.length:Int) (WriteO.mk 0 (none:Option (List UInt8))) λx_15=>some (x_11,x_15)) (λt_6=>Option.bind (loop (ref09_Twin_l1 p_1) (t_6.1,0)) (λt_31=>Option.bind (loop (ref09_Twin_l2 p_1) (t_6.2,0)) (λt_41=>some (Disk.mk ((t_31).map (λy=>y.getD [])) ((t_41).map WriteO.w)))))
def ref13_Twin (p_1:Store):Option Store:=
 Option.bind (ref09_Twin (Disk.mk p_1.Disk.Blocks p_1.Disk.Waits)) λx_7=>app ([]:List UInt8) p_1.Space λq_13=>some (Store.mk (Disk.mk x_7.Blocks x_7.Waits) q_13 p_1.Epoch p_1.Count)
def ref09_place (p_1:Int):Option Bool:=
 Option.bind (cond (decide (0≤p_1)) (some (decide (p_1<256))) (some false)) (λt_2=>some t_2)
def ref09_May_l2 (p_1:Disk)(s_14:Int×Nat):Option ((Int×Nat) ⊕ Int):=
 cond (decide (((s_14.2:Nat):Int)<(p_1.Waits.length:Int))) (cond (decide (((s_14.2:Nat):Int)≤4096)) (idx p_1.Waits ((s_14.2:Nat):Int) λy_19=>cond (!decide ((y_19.Data.length:Int)=256)) (some (.inl (w64 (s_14.1+1),s_14.2+1))) (idx p_1.Waits ((s_14.2:Nat):Int) λy_31=>Option.bind (ref09_place y_31.At) λx_42=>cond (!x_42) (some (.inl (w64 (s_14.1+1),s_14.2+1))) (some (.inl (s_14.1,s_14.2+1))))) (some (.inr s_14.1))) (some (.inr s_14.1))
def ref09_May_l1 (p_1:Disk)(s_8:Int×Nat):Option ((Int×Nat) ⊕ Int):=
 cond (decide (((s_8.2:Nat):Int)<(p_1.Blocks.length:Int))) (cond (decide (((s_8.2:Nat):Int)≤256)) (idx p_1.Blocks ((s_8.2:Nat):Int) λy_13=>cond (!decide ((y_13.length:Int)=256)) (some (.inl (w64 (s_8.1+1),s_8.2+1))) (some (.inl (s_8.1,s_8.2+1)))) (some (.inr s_8.1))) (some (.inr s_8.1))
def ref09_May (p_1:Disk):Option Bool:=
 Option.bind (loop (ref09_May_l1 p_1) (0,0)) (λt_5=>Option.bind (loop (ref09_May_l2 p_1) (t_5,0)) (λt_11=>Option.bind (cond (decide (t_11=0)) (cond (decide ((p_1.Blocks.length:Int)=256)) (some (decide ((p_1.Waits.length:Int)≤4096))) (some false)) (some false)) (λt_17=>some t_17)))
def ref12_May_l1 (p_1:List UInt8)(s_7:Nat):Option (Nat ⊕ (Unit ⊕ Unit)):=
 cond (decide (((s_7:Nat):Int)<256)) (idx p_1 ((s_7:Nat):Int) λy_11=>cond (decide ((2:UInt8)<y_11)) (some (.inr (.inr ()))) (cond (decide (((s_7:Nat):Int)<12)) (idx p_1 ((s_7:Nat):Int) λy_22=>cond (!decide (y_22=(1:UInt8))) (some (.inr (.inr ()))) (some (.inl (s_7+1)))) (some (.inl (s_7+1))))) (some (.inr (.inl ())))
def ref12_May (p_1:List UInt8):Option Bool:=
 cond (!decide ((p_1.length:Int)=256)) (some false) (Option.bind (loop (ref12_May_l1 p_1) 0) (λt_4=>Sum.elim (λt_4a=>some true) (λt_4b=>some false) t_4))
def ref13_May (p_1:Store):Option Bool:=
 Option.bind (Option.bind (ref09_May (Disk.mk p_1.Disk.Blocks p_1.Disk.Waits)) λx_9=>cond x_9 (Option.bind (ref12_May p_1.Space) λx_13=>cond x_13 (cond (decide ((1:UInt32)≤p_1.Epoch)) (cond (decide (p_1.Epoch≤(65535:UInt32))) (some (decide (p_1.Count≤(65535:UInt32)))) (some false)) (some false)) (some false)) (some false)) (λt_6=>some t_6)
def ref10_None (p_1:Ptr):Option Bool:=
 some (decide (p_1.At=0)&&(decide (p_1.Birth=(0:UInt32))&&(decide (p_1.Iv=(0:UInt32))&&(decide (p_1.Tag=(0:UInt32))&&(decide (p_1.Sum=(0:UInt32))&&true)))))
def ref10_May (p_1:Ptr):Option Bool:=
 Option.bind (Option.bind (ref10_None p_1) λx_6=>cond x_6 (some true) (cond (decide (12≤p_1.At)) (cond (decide (p_1.At<256)) (cond (decide ((1:UInt32)≤p_1.Birth)) (some (decide (p_1.Birth≤(16777215:UInt32)))) (some false)) (some false)) (some false))) (λt_3=>some t_3)
def ref09_last_l1 (p_1:Disk)(p_4:List Bool)(p_6:Int)(s_11:Int):Option (Int ⊕ Int):=
 Option.bind (cond (decide (0≤s_11)) (idx p_1.Waits s_11 λy_18=>cond (decide (y_18.At=p_6)) (cond (decide ((p_4.length:Int)=0)) (some (.inr ())) (idx p_4 s_11 λy_31=>cond (!y_31) (some (.inl ())) (some (.inr ())))) (some (.inl ()))) (some (.inr ()))) (λt_14=>Sum.elim (λt_14a=>some (.inl (w64 (s_11-1)))) (λt_14b=>some (.inr s_11)) t_14)
def ref09_last (p_1:Disk)(p_4:List Bool)(p_6:Int):Option Int:=
 Option.bind (loop (ref09_last_l1 p_1 p_4 p_6) (w64 ((p_1.Waits.length:Int)-1))) (λt_8=>some t_8)
def ref09_left (p_1:Disk)(p_4:List Bool)(p_6:Int):Option (List UInt8):=
 Option.bind (ref09_last p_1 p_4 p_6) λx_8=>cond (decide (x_8<0)) (idx p_1.Blocks p_6 λy_12=>app ([]:List UInt8) y_12 λq_24=>some q_24) (idx p_1.Waits x_8 λy_28=>app ([]:List UInt8) y_28.Data λq_40=>some q_40)
def ref09_Seen (p_1:Disk)(p_4:Int):Option (List UInt8):=
 Option.bind (ref09_left p_1 ([]:List Bool) p_4) λx_6=>some x_6
def ref02_byteAt (p_1:List UInt8)(p_3:Int):Option UInt32:=
 cond (decide (p_3<(p_1.length:Int))) (idx p_1 p_3 λy_5=>some y_5.toUInt32) (cond (decide (p_3=(p_1.length:Int))) (some (1:UInt32)) (some (0:UInt32)))
def ref02_word (p_1:List UInt8)(p_3:Int):Option UInt32:=
 Option.bind (ref02_byteAt p_1 p_3) λx_4=>Option.bind (ref02_byteAt p_1 (w64 (p_3+1))) λx_7=>Option.bind (ref02_byteAt p_1 (w64 (p_3+2))) λx_10=>Option.bind (ref02_byteAt p_1 (w64 (p_3+3))) λx_13=>some (((x_4+((256:UInt32)*x_7))+((65536:UInt32)*x_10))+((16777216:UInt32)*x_13))
def ref02_plus (p_1:UInt32)(p_2:UInt32):Option UInt32:=
 some (u32i ((w64 ((p_1.toNat:Int)+(p_2.toNat:Int))).tmod 4294967296))
def ref02_left_l1 (p_2:Int)(s_6:Int×Int):Option ((Int×Int) ⊕ Int):=
 cond (decide (s_6.2<p_2)) (some (.inl (w64 (((w64 (s_6.1*2)).tmod 4294967296)+(w64 ((w64 (s_6.1*2)).tdiv 4294967296))),w64 (s_6.2+1)))) (some (.inr s_6.1))
def ref02_left (p_1:UInt32)(p_2:Int):Option UInt32:=
 Option.bind (loop (ref02_left_l1 p_2) ((p_1.toNat:Int),0)) (λt_3=>some (u32i t_3))
def ref02_Turn (p_1:A4 UInt32):Option (A4 UInt32):=
 Option.bind (ref02_plus p_1.e0 p_1.e1) λx_4=>Option.bind (ref02_left (p_1.e3^^^x_4) 15) λx_7=>Option.bind (ref02_plus p_1.e2 x_7) λx_10=>Option.bind (ref02_left (p_1.e1^^^x_10) 11) λx_13=>Option.bind (ref02_plus x_4 x_13) λx_16=>Option.bind (ref02_left (x_7^^^x_16) 9) λx_19=>Option.bind (ref02_plus x_10 x_19) λx_22=>Option.bind (ref02_left (x_13^^^x_22) 6) λx_25=>some (A4.mk x_16 x_25 x_22 x_19)
def ref02_Four_l1 (p_1:List UInt8)(s_8:UInt32×UInt32×UInt32×UInt32×Int):Option ((UInt32×UInt32×UInt32×UInt32×Int) ⊕ (UInt32×UInt32×UInt32×UInt32)):=
 cond (decide (s_8.2.2.2.2≤(p_1.length:Int))) (Option.bind (Option.bind (ref02_word p_1 s_8.2.2.2.2) λx_15=>some (s_8.1^^^x_15)) (λt_12=>Option.bind (Option.bind (ref02_word p_1 (w64 (s_8.2.2.2.2+4))) λx_24=>some (s_8.2.2.1^^^x_24)) (λt_21=>Option.bind (ref02_Turn (A4.mk t_12 s_8.2.1 t_21 s_8.2.2.2.1)) λx_30=>Option.bind (ref02_Turn x_30) λx_33=>Option.bind (ref02_Turn x_33) λx_36=>Option.bind (ref02_Turn x_36) λx_39=>some (.inl (x_39.e0,x_39.e1,x_39.e2,x_39.e3,w64 (s_8.2.2.2.2+8)))))) (some (.inr (s_8.1,s_8.2.1,s_8.2.2.1,s_8.2.2.2.1)))
def ref02_Four (p_1:List UInt8):Option (A4 UInt32):=
 Option.bind (loop (ref02_Four_l1 p_1) ((1:UInt32),(2:UInt32),(3:UInt32),(4:UInt32),0)) (λt_5=>Option.bind (ref02_Turn (A4.mk t_5.1 (t_5.2.1^^^(u32i (p_1.length:Int))) t_5.2.2.1 t_5.2.2.2)) λx_11=>Option.bind (ref02_Turn x_11) λx_14=>Option.bind (ref02_Turn x_14) λx_17=>Option.bind (ref02_Turn x_17) λx_20=>Option.bind (ref02_Turn x_20) λx_23=>Option.bind (ref02_Turn x_23) λx_26=>Option.bind (ref02_Turn x_26) λx_29=>Option.bind (ref02_Turn x_29) λx_32=>some x_32)
def ref02_Sum (p_1:List UInt8):Option UInt32:=
 Option.bind (ref02_Four p_1) λx_3=>some x_3.e0
def ref13_Seen (p_1:Store)(p_5:Ptr):Option (List UInt8×Int):=
 Option.bind (ref10_None p_5) λx_8=>cond x_8 (some (([]:List UInt8),6)) (Option.bind (ref09_Seen (Disk.mk p_1.Disk.Blocks p_1.Disk.Waits) p_5.At) λx_12=>Option.bind (ref02_Sum x_12) λx_19=>cond (!decide (x_19=p_5.Sum)) (some (([]:List UInt8),130)) (app ([]:List UInt8) x_12 λq_23=>some (q_23,0)))
def ref10_Get_l1 (p_1:List UInt8)(s_6:UInt32×Int):Option ((UInt32×Int) ⊕ UInt32):=
 cond (decide (0≤s_6.2)) (idx p_1 s_6.2 λy_10=>some (.inl (((256:UInt32)*s_6.1)+y_10.toUInt32,w64 (s_6.2-1)))) (some (.inr s_6.1))
def ref10_Get (p_1:List UInt8):Option UInt32:=
 Option.bind (loop (ref10_Get_l1 p_1) ((0:UInt32),w64 ((p_1.length:Int)-1))) (λt_3=>some t_3)
def ref10_Read (p_1:List UInt8):Option (Ptr×Int):=
 cond (!decide ((p_1.length:Int)=16)) (some (Ptr.mk 0 (0:UInt32) (0:UInt32) (0:UInt32) (0:UInt32),3)) (idx p_1 0 λy_5=>slc p_1 1 4 λm_14=>slc p_1 4 8 λm_18=>slc p_1 8 12 λm_22=>slc p_1 12 16 λm_26=>Option.bind (ref10_Get m_14) λx_32=>Option.bind (ref10_Get m_18) λx_37=>Option.bind (ref10_Get m_22) λx_42=>Option.bind (ref10_Get m_26) λx_47=>Option.bind (ref10_May (Ptr.mk (y_5.toNat:Int) x_32 x_37 x_42 x_47)) λx_51=>cond (!x_51) (some (Ptr.mk 0 (0:UInt32) (0:UInt32) (0:UInt32) (0:UInt32),8)) (some (Ptr.mk (y_5.toNat:Int) x_32 x_37 x_42 x_47,0)))
def ref10_Rows_l1 (p_1:List UInt8)(s_7:List Ptr×Nat):Option ((List Ptr×Nat) ⊕ ((List Ptr) ⊕ Int)):=
 cond (decide (((s_7.2:Nat):Int)<16)) (slc p_1 (w64 (16*((s_7.2:Nat):Int))) (w64 ((w64 (16*((s_7.2:Nat):Int)))+16)) λm_12=>Option.bind (ref10_Read m_12) λx_16=>cond (!decide (x_16.2=0)) (some (.inr (.inr x_16.2))) (app s_7.1 ([x_16.1]) λq_22=>some (.inl (q_22,s_7.2+1)))) (some (.inr (.inl s_7.1)))
def ref10_Rows (p_1:List UInt8):Option (List Ptr×Int):=
 cond (!decide ((p_1.length:Int)=256)) (some (([]:List Ptr),3)) (Option.bind (loop (ref10_Rows_l1 p_1) (([]:List Ptr),0)) (λt_4=>Sum.elim (λt_4a=>some (t_4a,0)) (λt_4b=>some (([]:List Ptr),t_4b)) t_4))
def ref10_Number_l1 (p_2:Int)(s_6:UInt32×List UInt8×Int):Option ((UInt32×List UInt8×Int) ⊕ (List UInt8)):=
 cond (decide (s_6.2.2<p_2)) (app s_6.2.1 ([(s_6.1%(256:UInt32)).toUInt8]) λq_12=>some (.inl (s_6.1/(256:UInt32),q_12,w64 (s_6.2.2+1)))) (some (.inr s_6.2.1))
def ref10_Number (p_1:UInt32)(p_2:Int):Option (List UInt8):=
 Option.bind (loop (ref10_Number_l1 p_2) (p_1,([]:List UInt8),0)) (λt_3=>some t_3)
def ref10_Bytes (p_1:Ptr):Option (List UInt8):=
 Option.bind (Option.bind (ref10_Number p_1.Birth 3) λx_7=>app ([u8i p_1.At]) x_7 λq_11=>some q_11) (λt_3=>Option.bind (ref10_Number p_1.Iv 4) λx_16=>app t_3 x_16 λq_20=>Option.bind (ref10_Number p_1.Tag 4) λx_24=>app q_20 x_24 λq_28=>Option.bind (ref10_Number p_1.Sum 4) λx_32=>app q_28 x_32 λq_36=>some q_36)
def ref10_Same_l1 (p_1:List Ptr)(p_3:List Ptr)(s_9:Nat):Option (Nat ⊕ (Unit ⊕ Unit)):=
 cond (decide (((s_9:Nat):Int)<(p_1.length:Int))) (idx p_1 ((s_9:Nat):Int) λy_13=>idx p_3 ((s_9:Nat):Int) λy_22=>cond (!(decide (y_13.At=y_22.At)&&(decide (y_13.Birth=y_22.Birth)&&(decide (y_13.Iv=y_22.Iv)&&(decide (y_13.Tag=y_22.Tag)&&(decide (y_13.Sum=y_22.Sum)&&true)))))) (some (.inr (.inr ()))) (some (.inl (s_9+1)))) (some (.inr (.inl ())))
def ref10_Same (p_1:List Ptr)(p_3:List Ptr):Option Bool:=
 cond (!decide ((p_1.length:Int)=(p_3.length:Int))) (some false) (Option.bind (loop (ref10_Same_l1 p_1 p_3) 0) (λt_6=>Sum.elim (λt_6a=>some true) (λt_6b=>some false) t_6))
def ref09_Same_l2 (p_1:Disk)(p_4:Disk)(s_20:Int×Nat):Option ((Int×Nat) ⊕ Int):=
 cond (decide (((s_20.2:Nat):Int)<(p_1.Waits.length:Int))) (idx p_1.Waits ((s_20.2:Nat):Int) λy_24=>idx p_4.Waits ((s_20.2:Nat):Int) λy_36=>cond (!decide (y_24.At=y_36.At)) (some (.inl (w64 (s_20.1+1),s_20.2+1))) (cond (!decide (y_24.Data=y_36.Data)) (some (.inl (w64 (s_20.1+1),s_20.2+1))) (some (.inl (s_20.1,s_20.2+1))))) (some (.inr s_20.1))
def ref09_Same_l1 (p_1:Disk)(p_4:Disk)(s_14:Int×Nat):Option ((Int×Nat) ⊕ Int):=
 cond (decide (((s_14.2:Nat):Int)<(p_1.Blocks.length:Int))) (idx p_1.Blocks ((s_14.2:Nat):Int) λy_18=>idx p_4.Blocks ((s_14.2:Nat):Int) λy_29=>cond (!decide (y_18=y_29)) (some (.inl (w64 (s_14.1+1),s_14.2+1))) (some (.inl (s_14.1,s_14.2+1)))) (some (.inr s_14.1))
def ref09_Same (p_1:Disk)(p_4:Disk):Option Bool:=
 cond (!decide ((p_1.Blocks.length:Int)=(p_4.Blocks.length:Int))) (some false) (cond (!decide ((p_1.Waits.length:Int)=(p_4.Waits.length:Int))) (some false) (Option.bind (loop (ref09_Same_l1 p_1 p_4) (0,0)) (λt_11=>Option.bind (loop (ref09_Same_l2 p_1 p_4) (t_11,0)) (λt_17=>some (decide (t_17=0))))))
def ref13_Same (p_1:Store)(p_5:Store):Option Bool:=
 Option.bind (Option.bind (ref09_Same (Disk.mk p_1.Disk.Blocks p_1.Disk.Waits) (Disk.mk p_5.Disk.Blocks p_5.Disk.Waits)) λx_14=>cond x_14 (cond (decide (p_1.Space=p_5.Space)) (cond (decide (p_1.Epoch=p_5.Epoch)) (some (decide (p_1.Count=p_5.Count))) (some false)) (some false)) (some false)) (λt_11=>some t_11)
end Go.Ow
namespace Go.Ow
def ref12_All_l1 (p_1:List UInt8)(s_6:List Int×Nat):Option ((List Int×Nat) ⊕ (List Int)):=
 cond (decide (((s_6.2:Nat):Int)<256)) (idx p_1 ((s_6.2:Nat):Int) λy_11=>cond (decide (y_11=(0:UInt8))) (app s_6.1 ([((s_6.2:Nat):Int)]) λq_22=>some (.inl (q_22,s_6.2+1))) (some (.inl (s_6.1,s_6.2+1)))) (some (.inr s_6.1))
def ref12_All (p_1:List UInt8):Option (List Int):=
 Option.bind (loop (ref12_All_l1 p_1) (([]:List Int),0)) (λt_3=>some t_3)
def ref12_With (p_1:List UInt8)(p_3:Int)(p_4:UInt8):Option (List UInt8):=
 app ([]:List UInt8) p_1 λq_6=>chk (0≤p_3∧p_3.toNat<q_6.length)<|setI q_6 p_3 p_4 λm_14=>some m_14
def ref09_With (p_1:Disk)(p_4:Int)(p_5:List UInt8):Option Disk:=
 Option.bind (ref09_Twin p_1) λx_9=>app ([]:List UInt8) p_5 λq_16=>app x_9.Waits ([Write.mk p_4 q_16]) λq_22=>some (Disk.mk x_9.Blocks q_22)
def ref13_Put (p_1:Store)(p_5:UInt32)(p_6:UInt32)(p_7:UInt32)(p_8:List UInt8):Option (Store×Ptr×Bool):=
 Option.bind (ref12_All p_1.Space) λx_13=>cond (decide ((x_13.length:Int)=0)) (some (Store.mk (Disk.mk ([]:List (List UInt8)) ([]:List Write)) ([]:List UInt8) (0:UInt32) (0:UInt32),Ptr.mk 0 (0:UInt32) (0:UInt32) (0:UInt32) (0:UInt32),false)) (cond (decide (4096≤(p_1.Disk.Waits.length:Int))) (some (Store.mk (Disk.mk ([]:List (List UInt8)) ([]:List Write)) ([]:List UInt8) (0:UInt32) (0:UInt32),Ptr.mk 0 (0:UInt32) (0:UInt32) (0:UInt32) (0:UInt32),false)) (idx x_13 0 λy_19=>Option.bind (ref12_With p_1.Space y_19 (1:UInt8)) λx_30=>idx x_13 0 λy_34=>Option.bind (ref09_With (Disk.mk p_1.Disk.Blocks p_1.Disk.Waits) y_34 p_8) λx_45=>idx x_13 0 λy_50=>Option.bind (ref02_Sum p_8) λx_61=>some (Store.mk (Disk.mk x_45.Blocks x_45.Waits) x_30 p_1.Epoch p_1.Count,Ptr.mk y_50 p_5 p_6 p_7 x_61,true)))
end Go.Ow
namespace Go.Ow
end Go.Ow
namespace Go.Ow
def ref16_one (p_1:Ptr):Option Bool:=
 Option.bind (Option.bind (ref10_May p_1) λx_6=>cond x_6 (Option.bind (ref10_None p_1) λx_10=>some (!x_10)) (some false)) (λt_3=>some t_3)
def ref16_May_l1 (p_1:List Ptr)(s_7:Nat):Option (Nat ⊕ (Unit ⊕ Unit)):=
 cond (decide (((s_7:Nat):Int)<(p_1.length:Int))) (idx p_1 ((s_7:Nat):Int) λy_11=>Option.bind (ref16_one y_11) λx_20=>cond (!x_20) (some (.inr (.inr ()))) (cond (decide (0<((s_7:Nat):Int))) (idx p_1 ((s_7:Nat):Int) λy_25=>idx p_1 (w64 (((s_7:Nat):Int)-1)) λy_34=>cond (decide (y_25.At≤y_34.At)) (some (.inr (.inr ()))) (some (.inl (s_7+1)))) (some (.inl (s_7+1))))) (some (.inr (.inl ())))
def ref16_May (p_1:List Ptr):Option Bool:=
 cond (decide (240<(p_1.length:Int))) (some false) (Option.bind (loop (ref16_May_l1 p_1) 0) (λt_4=>Sum.elim (λt_4a=>some true) (λt_4b=>some false) t_4))
def ref12_Same_l1 (p_1:List Int)(p_3:List Int)(s_9:Nat):Option (Nat ⊕ (Unit ⊕ Unit)):=
 cond (decide (((s_9:Nat):Int)<(p_1.length:Int))) (idx p_1 ((s_9:Nat):Int) λy_13=>idx p_3 ((s_9:Nat):Int) λy_22=>cond (!decide (y_13=y_22)) (some (.inr (.inr ()))) (some (.inl (s_9+1)))) (some (.inr (.inl ())))
def ref12_Same (p_1:List Int)(p_3:List Int):Option Bool:=
 cond (!decide ((p_1.length:Int)=(p_3.length:Int))) (some false) (Option.bind (loop (ref12_Same_l1 p_1 p_3) 0) (λt_6=>Sum.elim (λt_6a=>some true) (λt_6b=>some false) t_6))
end Go.Ow
namespace Go.Ow
def dead_Lay_v2_r1 (y_42:List Ptr)(s_41:Store×Ptr×List Int×Int×UInt32×List Ptr):Option ((Store×Ptr×List Int×Int×UInt32×List Ptr) ⊕ Int):=
 Option.bind (dead_Lay_1 y_42 s_41.1 s_41.2.2.2.2.1 s_41.2.1 s_41.2.2.2.1 s_41.2.2.1) λx_58=>cond (!decide (x_58.2.2.2.1=0)) (some (.inr x_58.2.2.2.1)) (app s_41.2.2.2.2.2 ([x_58.2.2.1]) λq_67=>some (.inl (x_58.1,x_58.2.2.1,x_58.2.2.2.2,x_58.2.2.2.1,x_58.2.1,q_67)))
def dead_Lay_v2 (p_1:Store)(p_5:UInt32)(p_6:List Ptr):Option (Store×Ptr×List Int×Int):=
 Option.bind (store_Check p_1) λx_14=>cond (!decide (x_14=0)) (some (Store.mk (Disk.mk ([]:List (List UInt8)) ([]:List Write)) ([]:List UInt8) (0:UInt32) (0:UInt32),Ptr.mk 0 (0:UInt32) (0:UInt32) (0:UInt32) (0:UInt32),([]:List Int),8)) (Option.bind (dead_Check p_6) λx_18=>cond (!decide (x_18=0)) (some (Store.mk (Disk.mk ([]:List (List UInt8)) ([]:List Write)) ([]:List UInt8) (0:UInt32) (0:UInt32),Ptr.mk 0 (0:UInt32) (0:UInt32) (0:UInt32) (0:UInt32),([]:List Int),8)) (cond (decide (p_5<(1:UInt32))) (some (Store.mk (Disk.mk ([]:List (List UInt8)) ([]:List Write)) ([]:List UInt8) (0:UInt32) (0:UInt32),Ptr.mk 0 (0:UInt32) (0:UInt32) (0:UInt32) (0:UInt32),([]:List Int),2)) (cond (decide ((16777215:UInt32)<p_5)) (some (Store.mk (Disk.mk ([]:List (List UInt8)) ([]:List Write)) ([]:List UInt8) (0:UInt32) (0:UInt32),Ptr.mk 0 (0:UInt32) (0:UInt32) (0:UInt32) (0:UInt32),([]:List Int),2)) (cond (decide ((p_6.length:Int)=0)) (Option.bind (store_Twin p_1) λx_25=>some (x_25,Ptr.mk 0 (0:UInt32) (0:UInt32) (0:UInt32) (0:UInt32),([]:List Int),0)) (Option.bind (slices_Chunk_Ptr p_6 16) λx_34=>Option.bind (forL dead_Lay_v2_r1 (chunks (16:Int).toNat p_6.length p_6) (p_1,Ptr.mk 0 (0:UInt32) (0:UInt32) (0:UInt32) (0:UInt32),([]:List Int),0,p_5,([]:List Ptr))) (λt_38=>Sum.elim (λs_41=>Option.bind (dead_Lay_1 s_41.2.2.2.2.2 s_41.1 s_41.2.2.2.2.1 s_41.2.1 s_41.2.2.2.1 s_41.2.2.1) λx_60=>cond (!decide (x_60.2.2.2.1=0)) (some (Store.mk (Disk.mk ([]:List (List UInt8)) ([]:List Write)) ([]:List UInt8) (0:UInt32) (0:UInt32),Ptr.mk 0 (0:UInt32) (0:UInt32) (0:UInt32) (0:UInt32),([]:List Int),x_60.2.2.2.1)) (some (x_60.1,x_60.2.2.1,x_60.2.2.2.2,0))) (λt_38e0=>some (Store.mk (Disk.mk ([]:List (List UInt8)) ([]:List Write)) ([]:List UInt8) (0:UInt32) (0:UInt32),Ptr.mk 0 (0:UInt32) (0:UInt32) (0:UInt32) (0:UInt32),([]:List Int),t_38e0)) t_38))))))
def ref10_Packed_l1 (p_1:List Ptr)(s_7:List UInt8×Nat):Option ((List UInt8×Nat) ⊕ (List UInt8)):=
 cond (decide (((s_7.2:Nat):Int)<16)) (Option.bind (cond (decide (((s_7.2:Nat):Int)<(p_1.length:Int))) (idx p_1 ((s_7.2:Nat):Int) λy_17=>some y_17) (some (Ptr.mk 0 (0:UInt32) (0:UInt32) (0:UInt32) (0:UInt32)))) (λt_13=>Option.bind (ref10_Bytes t_13) λx_26=>appN 256 s_7.1 x_26 λq_30=>some (.inl (q_30,s_7.2+1)))) (some (.inr s_7.1))
def ref10_Packed (p_1:List Ptr):Option (List UInt8):=
 Option.bind (loop (ref10_Packed_l1 p_1) (([]:List UInt8),0)) (λt_4=>some t_4)
def ref16_Laid_l1 (p_5:UInt32)(p_6:List Ptr)(s_15:Store×List Ptr×List Int×Int):Option ((Store×List Ptr×List Int×Int) ⊕ ((Store×List Ptr×List Int) ⊕ Unit)):=
 cond (decide (s_15.2.2.2<(p_6.length:Int))) (slc p_6 s_15.2.2.2 (min (p_6.length:Int) (w64 (s_15.2.2.2+16))) λm_33=>Option.bind (ref10_Packed m_33) λx_39=>Option.bind (ref13_Put s_15.1 p_5 (0:UInt32) (0:UInt32) x_39) λx_46=>cond (!x_46.2.2) (some (.inr (.inr ()))) (app s_15.2.1 ([x_46.2.1]) λq_56=>app s_15.2.2.1 ([x_46.2.1.At]) λq_61=>some (.inl (x_46.1,q_56,q_61,w64 (s_15.2.2.2+16))))) (some (.inr (.inl (s_15.1,s_15.2.1,s_15.2.2.1))))
def ref16_Laid (p_1:Store)(p_5:UInt32)(p_6:List Ptr):Option (Store×Ptr×List Int×Bool):=
 cond (decide ((p_6.length:Int)=0)) (some (p_1,Ptr.mk 0 (0:UInt32) (0:UInt32) (0:UInt32) (0:UInt32),([]:List Int),true)) (Option.bind (loop (ref16_Laid_l1 p_5 p_6) (p_1,([]:List Ptr),([]:List Int),0)) (λt_12=>Sum.elim (λt_12a=>Option.bind (ref10_Packed t_12a.2.1) λx_42=>Option.bind (ref13_Put t_12a.1 p_5 (0:UInt32) (0:UInt32) x_42) λx_48=>cond (!x_48.2.2) (some (Store.mk (Disk.mk ([]:List (List UInt8)) ([]:List Write)) ([]:List UInt8) (0:UInt32) (0:UInt32),Ptr.mk 0 (0:UInt32) (0:UInt32) (0:UInt32) (0:UInt32),([]:List Int),false)) (app t_12a.2.2 ([x_48.2.1.At]) λq_58=>some (x_48.1,x_48.2.1,q_58,true))) (λt_12b=>some (Store.mk (Disk.mk ([]:List (List UInt8)) ([]:List Write)) ([]:List UInt8) (0:UInt32) (0:UInt32),Ptr.mk 0 (0:UInt32) (0:UInt32) (0:UInt32) (0:UInt32),([]:List Int),false)) t_12))
def ref16_Lay (p_1:Store)(p_5:UInt32)(p_6:List Ptr):Option (Store×Ptr×List Int×Int):=
 Option.bind (ref13_May p_1) λx_11=>cond (!x_11) (some (Store.mk (Disk.mk ([]:List (List UInt8)) ([]:List Write)) ([]:List UInt8) (0:UInt32) (0:UInt32),Ptr.mk 0 (0:UInt32) (0:UInt32) (0:UInt32) (0:UInt32),([]:List Int),8)) (Option.bind (ref16_May p_6) λx_15=>cond (!x_15) (some (Store.mk (Disk.mk ([]:List (List UInt8)) ([]:List Write)) ([]:List UInt8) (0:UInt32) (0:UInt32),Ptr.mk 0 (0:UInt32) (0:UInt32) (0:UInt32) (0:UInt32),([]:List Int),8)) (cond (decide (p_5<(1:UInt32))) (some (Store.mk (Disk.mk ([]:List (List UInt8)) ([]:List Write)) ([]:List UInt8) (0:UInt32) (0:UInt32),Ptr.mk 0 (0:UInt32) (0:UInt32) (0:UInt32) (0:UInt32),([]:List Int),2)) (cond (decide ((16777215:UInt32)<p_5)) (some (Store.mk (Disk.mk ([]:List (List UInt8)) ([]:List Write)) ([]:List UInt8) (0:UInt32) (0:UInt32),Ptr.mk 0 (0:UInt32) (0:UInt32) (0:UInt32) (0:UInt32),([]:List Int),2)) (Option.bind (ref16_Laid p_1 p_5 p_6) λx_21=>cond (!x_21.2.2.2) (some (Store.mk (Disk.mk ([]:List (List UInt8)) ([]:List Write)) ([]:List UInt8) (0:UInt32) (0:UInt32),Ptr.mk 0 (0:UInt32) (0:UInt32) (0:UInt32) (0:UInt32),([]:List Int),9)) (some (x_21.1,x_21.2.1,x_21.2.2.1,0))))))
def slices_Index_Ptr_l1 (p_1:List Ptr)(p_3:Ptr)(s_8:Nat):Option (Nat ⊕ (Unit ⊕ Int)):=
 cond (decide (((s_8:Nat):Int)<(p_1.length:Int))) (idx p_1 ((s_8:Nat):Int) λy_12=>cond (decide (p_3.At=y_12.At)&&(decide (p_3.Birth=y_12.Birth)&&(decide (p_3.Iv=y_12.Iv)&&(decide (p_3.Tag=y_12.Tag)&&(decide (p_3.Sum=y_12.Sum)&&true))))) (some (.inr (.inr ((s_8:Nat):Int)))) (some (.inl (s_8+1)))) (some (.inr (.inl ())))
def slices_Index_Ptr (p_1:List Ptr)(p_3:Ptr):Option Int:=
 Option.bind (loop (slices_Index_Ptr_l1 p_1 p_3) 0) (λt_5=>Sum.elim (λt_5a=>some (-1)) (λt_5b=>some t_5b) t_5)
def dead_read_1 (p_1:Ptr):Option Bool:=
 some (!(decide (p_1.At=0)&&(decide (p_1.Birth=(0:UInt32))&&(decide (p_1.Iv=(0:UInt32))&&(decide (p_1.Tag=(0:UInt32))&&(decide (p_1.Sum=(0:UInt32))&&true))))))
def slices_IndexFunc_Ptr_v2_l1 (p_1:List Ptr)(s_6:Nat):Option (Nat ⊕ (Unit ⊕ Int)):=
 cond (decide (((s_6:Nat):Int)<(p_1.length:Int))) (idx p_1 ((s_6:Nat):Int) λy_10=>Option.bind (dead_read_1 y_10) λx_19=>cond x_19 (some (.inr (.inr ((s_6:Nat):Int)))) (some (.inl (s_6+1)))) (some (.inr (.inl ())))
def slices_IndexFunc_Ptr_v2 (p_1:List Ptr):Option Int:=
 Option.bind (loop (slices_IndexFunc_Ptr_v2_l1 p_1) 0) (λt_3=>Sum.elim (λt_3a=>some (-1)) (λt_3b=>some t_3b) t_3)
def slices_ContainsFunc_Ptr_v2 (p_1:List Ptr):Option Bool:=
 Option.bind (slices_IndexFunc_Ptr_v2 p_1) λx_3=>some (decide (0≤x_3))
def dead_read (p_1:Store)(p_5:Ptr):Option ((List Ptr) ⊕ Int):=
 Option.bind (store_Look p_1 p_5) λx_8=>cond (!decide (x_8.2=0)) (some (.inr x_8.2)) (Option.bind (ptr_Rows x_8.1) λx_14=>cond (!decide (x_14.2=0)) (some (.inr 8)) (Option.bind (slices_Index_Ptr x_14.1 (Ptr.mk 0 (0:UInt32) (0:UInt32) (0:UInt32) (0:UInt32))) λx_23=>cond (decide (x_23<0)) (some (.inl x_14.1)) (cond (decide (x_23=0)) (cond true (some (.inr 8)) (none)) (slc x_14.1 x_23 (x_14.1.length:Int) λm_31=>Option.bind (slices_ContainsFunc_Ptr_v2 m_31) λx_35=>cond x_35 (some (.inr 8)) (slc x_14.1 0 x_23 λm_40=>some (.inl m_40))))))
def dead_Load_l1 (p_1:Store)(x_20:List Ptr)(s_30:List Ptr×List Int×Nat):Option ((List Ptr×List Int×Nat) ⊕ ((List Ptr×List Int) ⊕ (Int×List Ptr×List Int))):=
 cond (decide (((s_30.2.2:Nat):Int)<(x_20.length:Int))) (idx x_20 ((s_30.2.2:Nat):Int) λy_37=>Option.bind (dead_read p_1 y_37) λx_52=>pnk x_52 (λe_51=>some (.inr (.inr (e_51,s_30.1,s_30.2.1)))) λx_47=>Option.bind (cond (decide ((x_47.length:Int)<16)) (cond (decide (((s_30.2.2:Nat):Int)<(w64 ((x_20.length:Int)-1)))) (some (.inr ())) (some (.inl ()))) (cond false (none) (some (.inl ())))) (λt_54=>Sum.elim (λt_54a=>app s_30.1 x_47 λq_63=>app s_30.2.1 ([y_37.At]) λq_68=>some (.inl (q_63,q_68,s_30.2.2+1))) (λt_54b=>some (.inr (.inr (8,s_30.1,s_30.2.1)))) t_54)) (some (.inr (.inl (s_30.1,s_30.2.1))))
def dead_Load (p_1:Store)(p_5:Ptr):Option (List Ptr×List Int×Int):=
 Option.bind (store_Check p_1) λx_11=>cond (!decide (x_11=0)) (some (([]:List Ptr),([]:List Int),8)) (Option.bind (ptr_Check p_5) λx_15=>cond (!decide (x_15=0)) (some (([]:List Ptr),([]:List Int),8)) (cond (decide (p_5.At=0)&&(decide (p_5.Birth=(0:UInt32))&&(decide (p_5.Iv=(0:UInt32))&&(decide (p_5.Tag=(0:UInt32))&&(decide (p_5.Sum=(0:UInt32))&&true))))) (some (([]:List Ptr),([]:List Int),0)) (Option.bind (dead_read p_1 p_5) λx_25=>pnk x_25 (λe_24=>some (([]:List Ptr),([]:List Int),e_24)) λx_20=>Option.bind (loop (dead_Load_l1 p_1 x_20) (([]:List Ptr),([]:List Int),0)) (λt_27=>Sum.elim (λt_27a=>Option.bind (dead_Check t_27a.1) λx_45=>cond (!decide (x_45=0)) (some (([]:List Ptr),([]:List Int),8)) (app t_27a.2 ([p_5.At]) λq_50=>some (t_27a.1,q_50,0))) (λt_27b=>some (([]:List Ptr),([]:List Int),t_27b.1)) t_27))))
def ref16_seen (p_1:Store)(p_5:Ptr):Option (List Ptr×Int):=
 Option.bind (ref13_Seen p_1 p_5) λx_8=>cond (!decide (x_8.2=0)) (some (([]:List Ptr),x_8.2)) (Option.bind (ref10_Rows x_8.1) λx_16=>cond (!decide (x_16.2=0)) (some (([]:List Ptr),8)) (some (x_16.1,0)))
def ref16_trim_l2 (p_1:List Ptr)(t_3:Int)(s_12:Int):Option (Int ⊕ (Unit ⊕ Unit)):=
 cond (decide (s_12<t_3)) (idx p_1 s_12 λy_16=>Option.bind (ref10_None y_16) λx_25=>cond x_25 (some (.inr (.inr ()))) (some (.inl (w64 (s_12+1))))) (some (.inr (.inl ())))
def ref16_trim_l1 (p_1:List Ptr)(s_6:Int):Option (Int ⊕ Int):=
 cond (decide (0<s_6)) (idx p_1 (w64 (s_6-1)) λy_10=>Option.bind (ref10_None y_10) λx_19=>cond x_19 (some (.inl (w64 (s_6-1)))) (some (.inr s_6))) (some (.inr s_6))
def ref16_trim (p_1:List Ptr):Option (List Ptr×Bool):=
 Option.bind (loop (ref16_trim_l1 p_1) (p_1.length:Int)) (λt_3=>Option.bind (loop (ref16_trim_l2 p_1 t_3) 0) (λt_9=>Sum.elim (λt_9a=>slc p_1 0 t_3 λm_15=>some (m_15,true)) (λt_9b=>some (([]:List Ptr),false)) t_9))
def ref16_Loaded_l1 (p_1:Store)(x_18:List Ptr×Bool)(s_27:List Ptr×List Int×Nat):Option ((List Ptr×List Int×Nat) ⊕ ((List Ptr×List Int) ⊕ Int)):=
 cond (decide (((s_27.2.2:Nat):Int)<(x_18.1.length:Int))) (idx x_18.1 ((s_27.2.2:Nat):Int) λy_34=>Option.bind (ref16_seen p_1 y_34) λx_43=>cond (!decide (x_43.2=0)) (some (.inr (.inr x_43.2))) (Option.bind (ref16_trim x_43.1) λx_49=>Option.bind (cond (!x_49.2) (some (.inr ())) (cond (decide ((x_49.1.length:Int)=0)) (some (.inr ())) (cond (decide (((s_27.2.2+1:Nat):Int)<(x_18.1.length:Int))) (cond (decide ((x_49.1.length:Int)<16)) (some (.inr ())) (some (.inl ()))) (some (.inl ()))))) (λt_53=>Sum.elim (λt_53a=>app s_27.1 x_49.1 λq_60=>idx x_18.1 ((s_27.2.2:Nat):Int) λy_64=>app s_27.2.1 ([y_64.At]) λq_74=>some (.inl (q_60,q_74,s_27.2.2+1))) (λt_53b=>some (.inr (.inr 8))) t_53))) (some (.inr (.inl (s_27.1,s_27.2.1))))
def ref16_Loaded (p_1:Store)(p_5:Ptr):Option (List Ptr×List Int×Int):=
 Option.bind (ref10_None p_5) λx_8=>cond x_8 (some (([]:List Ptr),([]:List Int),0)) (Option.bind (ref16_seen p_1 p_5) λx_12=>cond (!decide (x_12.2=0)) (some (([]:List Ptr),([]:List Int),x_12.2)) (Option.bind (ref16_trim x_12.1) λx_18=>cond (!x_18.2) (some (([]:List Ptr),([]:List Int),8)) (cond (decide ((x_18.1.length:Int)=0)) (some (([]:List Ptr),([]:List Int),8)) (Option.bind (loop (ref16_Loaded_l1 p_1 x_18) (([]:List Ptr),([]:List Int),0)) (λt_24=>Sum.elim (λt_24a=>Option.bind (ref16_May t_24a.1) λx_40=>cond (!x_40) (some (([]:List Ptr),([]:List Int),8)) (app t_24a.2 ([p_5.At]) λq_44=>some (t_24a.1,q_44,0))) (λt_24b=>some (([]:List Ptr),([]:List Int),t_24b)) t_24)))))
def ref16_Load (p_1:Store)(p_5:Ptr):Option (List Ptr×List Int×Int):=
 Option.bind (ref13_May p_1) λx_8=>cond (!x_8) (some (([]:List Ptr),([]:List Int),8)) (Option.bind (ref10_May p_5) λx_12=>cond (!x_12) (some (([]:List Ptr),([]:List Int),8)) (Option.bind (ref16_Loaded p_1 p_5) λx_16=>some (x_16.1,x_16.2.1,x_16.2.2)))
def law16_DeadBlocks_l1 (x_42:Store×Ptr×List Int×Int)(s_106:Nat):Option (Nat ⊕ Unit):=
 cond (decide (((s_106:Nat):Int)<(x_42.1.Space.length:Int))) (idx x_42.1.Space ((s_106:Nat):Int) λy_112=>idx x_42.1.Disk.Blocks ((s_106:Nat):Int) λy_122=>idx x_42.1.Disk.Blocks ((s_106:Nat):Int) λy_133=>idx y_133 0 λy_154=>idx y_122 0 λy_168=>some (.inl (s_106+1))) (some (.inr ()))
def law16_DeadBlocks (p_1:Store)(p_5:UInt32)(p_6:List Ptr)(p_8:Ptr):Option Bool:=
 Option.bind (ref13_Great p_1) λx_11=>cond x_11 (some true) (cond (decide (1000<(p_6.length:Int))) (some true) (Option.bind (ref13_Twin p_1) λx_16=>app ([]:List Ptr) p_6 λq_23=>Option.bind (dead_Lay_v2 x_16 p_5 q_23) λx_42=>Option.bind (ref16_Lay p_1 p_5 p_6) λx_51=>Option.bind (dead_Load x_16 p_8) λx_60=>Option.bind (ref16_Load p_1 p_8) λx_65=>Option.bind (ref13_Same x_42.1 x_51.1) λx_73=>cond (!x_73) (some false) (cond (!(decide (x_42.2.1.At=x_51.2.1.At)&&(decide (x_42.2.1.Birth=x_51.2.1.Birth)&&(decide (x_42.2.1.Iv=x_51.2.1.Iv)&&(decide (x_42.2.1.Tag=x_51.2.1.Tag)&&(decide (x_42.2.1.Sum=x_51.2.1.Sum)&&true)))))) (some false) (Option.bind (ref12_Same x_42.2.2.1 x_51.2.2.1) λx_80=>cond (!x_80) (some false) (cond (!decide (x_42.2.2.2=x_51.2.2.2)) (some false) (Option.bind (ref10_Same x_60.1 x_65.1) λx_87=>cond (!x_87) (some false) (Option.bind (ref12_Same x_60.2.1 x_65.2.1) λx_93=>cond (!x_93) (some false) (cond (!decide (x_60.2.2=x_65.2.2)) (some false) (Option.bind (loop (law16_DeadBlocks_l1 x_42) 0) (λt_103=>Option.bind (Option.bind (ref13_Same x_16 p_1) λx_116=>cond x_116 (Option.bind (ref10_Same q_23 p_6) λx_120=>some x_120) (some false)) (λt_113=>some t_113)))))))))))
end Go.Ow
namespace Go.Ow
variable{α σ ρ τ:Type}
def goesOn (st:ρ→σ):ρ ⊕ τ→Option (σ ⊕ τ)
 | .inl r=>some (.inl (st r))
 | .inr t=>some (.inr t)
def ends (fin:ρ→τ):ρ ⊕ τ→Option τ
 | .inl r=>some (fin r)
 | .inr t=>some t
theorem loop_each (l:List α)(st:Nat→ρ→σ){body:σ→Option (σ ⊕ τ)}(f:α→ρ→Option (ρ ⊕ τ))(fin:ρ→τ)(I:Nat→ρ→Prop)
    (step:∀i (h:i<l.length) r,I i r→body (st i r)=Option.bind (f l[i] r) (goesOn (st (i+1))))(inv:∀i (h:i<l.length) r r',I i r→f l[i] r=some (.inl r')→I (i+1) r')
    (stop:∀r,I l.length r→body (st l.length r)=some (.inr (fin r)))(hl:l.length<FUEL){r0:ρ}(h0:I 0 r0):
    loop body (st 0 r0)=Option.bind (forL f l r0) (ends fin):=by
  have key:∀(k i:Nat) (r:ρ) (n:Nat),i+k=l.length→k<n→I i r→run body n (st i r)=Option.bind (forL f (l.drop i) r) (ends fin):=by
    intro k
    induction k with
    | zero=>
      intro i r n hi hn hI
      obtain rfl:i=l.length:=by omega
      obtain⟨n,rfl⟩:∃m,n=m+1:=⟨n-1,by omega⟩
      show Option.bind (body (st l.length r)) _=_
      rw[stop r hI,List.drop_length];rfl
    | succ k ih=>
      intro i r n hi hn hI
      have hlt:i<l.length:=by omega
      obtain⟨n,rfl⟩:∃m,n=m+1:=⟨n-1,by omega⟩
      show Option.bind (body (st i r)) _=_
      rw[step i hlt r hI,List.drop_eq_getElem_cons hlt]
      show _=Option.bind (Option.bind (f l[i] r) _) _
      cases hf:f l[i] r with
      |none=>rfl
      | some o=>
        cases o with
        |inl r'=>exact ih (i+1) r' n (by omega) (by omega) (inv i hlt r r' hI hf)
        |inr t=>rfl
  have:=key l.length 0 r0 FUEL (by omega) hl h0
  simpa[loop]using this
theorem loop_each' (l:List α)(st:Nat→ρ→σ){body:σ→Option (σ ⊕ τ)}(f:α→ρ→Option (ρ ⊕ τ))(fin:ρ→τ)
 (step:∀i (h:i<l.length) r,body (st i r)=Option.bind (f l[i] r) (goesOn (st (i+1))))(stop:∀r,body (st l.length r)=some (.inr (fin r)))(hl:l.length<FUEL)(r0:ρ):
 loop body (st 0 r0)=Option.bind (forL f l r0) (ends fin):=
 loop_each l st f fin (λ_ _=>True) (λi h r _=>step i h r) (λ_ _ _ _ _ _=>trivial) (λr _=>stop r) hl trivial
theorem forL_map (g:ρ→α→ρ):∀(l:List α) (r:ρ),forL (λy r=>some (.inl (g r y):ρ ⊕ τ)) l r=some (.inl (l.foldl g r))
 |[],r=>rfl
 |y::l,r=>by rw[forL_cons (s':=g r y) rfl,forL_map g l];rfl
theorem lt_fuel{n m:Nat}(h:n≤m)(hm:Nat.blt m FUEL=true):n<FUEL:=Nat.lt_of_le_of_lt h (by simpa using hm)
theorem cI{n m:Nat}{β:Type}{a b:β}:(bif decide ((n:Int)<(m:Int))then a else b)=if n<m then a else b:=by
 by_cases h:n<m
 · rw[if_pos h,decide_eq_true (by omega)];rfl
 · rw[if_neg h,decide_eq_false (by omega)];rfl
end Go.Ow
namespace Go.Ow
def okW (w:Write):Bool:=decide (0≤w.At∧w.At<256)&&decide (w.Data.length=256)
def OKD (d:Disk):Prop:=d.Blocks.length=256∧d.Waits.length≤4096∧(∀b∈d.Blocks,b.length=256)∧∀w∈d.Waits,okW w=true
instance (d:Disk):Decidable (OKD d):=by unfold OKD;infer_instance
structure Sized (d:Disk):Prop where
  blocks:d.Blocks.length≤9223372036854775807
  waits:d.Waits.length≤9223372036854775807
  at':∀w∈d.Waits,InI64 w.At
theorem dev_place_eq{n:Int}(h:InI64 n):dev_place n=some (decide (0≤n∧n<256)):=by
 unfold dev_place u64i
 congr 1
 apply decide_eq_decide.2
 rw[UInt64.lt_iff_toNat_lt,UInt64.toNat_ofNat']
 obtain⟨h1,h2⟩:=h
 show _%18446744073709551616<(256:UInt64).toNat↔_
 rw[show(256:UInt64).toNat=256 from rfl]
 omega
theorem small_lt{n:Nat}(h:n≤9223372036854775807):n<FUEL:=Nat.lt_of_le_of_lt h (by decide)
theorem check_l1 (d:Disk)(ok:Bool)(h:d.Blocks.length≤9223372036854775807):loop (dev_Check_l1 d) (ok,0)=some (ok&&d.Blocks.all λb=>decide (b.length=256)):=by
 rw[loop_each' d.Blocks (λi (r:Bool)=>(r,i)) (λb r=>some (.inl (r&&decide (b.length=256)))) (λr=>r) (λi hi r=> ?_) (λr=> ?_) (small_lt h) ok,forL_map]
 · show some _=some _
   congr 1
   generalize d.Blocks=l
   induction l generalizing ok with
   |nil=>simp
   |cons b l ih=>simp only[List.foldl_cons,ih,List.all_cons,Bool.and_assoc]
 · unfold dev_Check_l1
   rw[cI,if_pos hi,ZW _ hi]
   cases r
   · rfl
   · simp only[cond_true,Option.bind_some,goesOn,Bool.true_and]
     rw[show decide ((d.Blocks[i].length:Int)=256)=decide (d.Blocks[i].length=256)from decide_eq_decide.2 (by omega)]
 · unfold dev_Check_l1
   rw[cI,if_neg (by omega)]
theorem check_l2 (d:Disk)(ok:Bool)(h:Sized d):loop (dev_Check_l2 d) (ok,0)=some (ok&&d.Waits.all okW):=by
 rw[loop_each' d.Waits (λi (r:Bool)=>(r,i)) (λw r=>some (.inl (r&&(okW w)))) (λr=>r) (λi hi r=> ?_) (λr=> ?_) (small_lt h.waits) ok,forL_map]
 · show some _=some _
   congr 1
   generalize d.Waits=l
   induction l generalizing ok with
   |nil=>simp
   |cons b l ih=>simp only[List.foldl_cons,ih,List.all_cons,Bool.and_assoc]
 · unfold dev_Check_l2
   rw[cI,if_pos hi,ZW _ hi]
   cases r
   · rfl
   · simp only[cond_true,Option.bind_some,goesOn,Bool.true_and]
     rw[dev_place_eq (h.at' _ (List.getElem_mem hi))]
     unfold okW
     by_cases c:0≤d.Waits[i].At∧d.Waits[i].At<256
     · rw[decide_eq_true c]
       simp only[Option.bind_some,cond_true,Bool.true_and]
       rw[show decide ((d.Waits[i].Data.length:Int)=256)=decide (d.Waits[i].Data.length=256)from decide_eq_decide.2 (by omega)]
     · rw[decide_eq_false c]
       rfl
 · unfold dev_Check_l2
   rw[cI,if_neg (by omega)]
theorem dev_Check_eq{d:Disk}(h:Sized d):dev_Check d=some (if OKD d then 0 else 8):=by
 unfold dev_Check
 rw [show(bif decide ((d.Blocks.length:Int)=256)then some (decide ((d.Waits.length:Int)≤4096))else some false)=some (decide (d.Blocks.length=256)&&decide (d.Waits.length≤4096))from by
  by_cases c:d.Blocks.length=256
  · rw[decide_eq_true (show(d.Blocks.length:Int)=256 by omega),decide_eq_true c]
    simp only[cond_true,Bool.true_and]
    congr 1
    simp only[decide_eq_decide];omega
  · rw[decide_eq_false (show¬(d.Blocks.length:Int)=256 by omega),decide_eq_false c];rfl]
 simp only[Option.bind_some]
 rw[check_l1 d _ h.blocks]
 simp only[Option.bind_some]
 rw[check_l2 d _ h]
 simp only[Option.bind_some]
 by_cases c:OKD d
 · rw[if_pos c]
   obtain⟨c1,c2,c3,c4⟩:=c
   rw[show(decide (d.Blocks.length=256)&&decide (d.Waits.length≤4096)&&(d.Blocks.all λb=>decide (b.length=256))&&d.Waits.all okW)=true from by
    simp only[Bool.and_eq_true,decide_eq_true_eq,List.all_eq_true];exact⟨⟨⟨c1,c2⟩,c3⟩,c4⟩]
   rfl
 · rw[if_neg c]
   rw[show(decide (d.Blocks.length=256)&&decide (d.Waits.length≤4096)&&(d.Blocks.all λb=>decide (b.length=256))&&d.Waits.all okW)=false from by
    rw[Bool.eq_false_iff];intro e
    simp only[Bool.and_eq_true,decide_eq_true_eq,List.all_eq_true]at e
    exact c ⟨e.1.1.1,e.1.1.2,e.1.2,e.2⟩]
   rfl
structure Mid (d:Disk):Prop where
  blocks:d.Blocks.length≤1000
  waits:d.Waits.length≤5000
  eb:∀b∈d.Blocks,b.length≤1000
  ew:∀w∈d.Waits,w.Data.length≤1000
theorem OKD.mid{d:Disk}(h:OKD d):Mid d:=⟨by rw[h.1];omega,by have:=h.2.1;omega,λb hb=>by rw[h.2.2.1 b hb];omega,λw hw=>by
 have:=h.2.2.2 w hw
 simp only[okW,Bool.and_eq_true,decide_eq_true_eq]at this
 omega⟩
theorem OKD.sized{d:Disk}(h:OKD d):Sized d:=⟨by rw[h.1];omega,by have:=h.2.1;omega,λw hw=>by
 have:=h.2.2.2 w hw
 simp only[okW,Bool.and_eq_true,decide_eq_true_eq]at this
 exact⟨by omega,by omega⟩⟩
theorem sum_le_mul{l:List Nat}{k:Nat}(h:∀x∈l,x≤k):l.sum≤l.length*k:=by
  induction l with
  |nil=>simp
  | cons x l ih=>
    have:=h x (by simp);have:=ih (λy hy=>h y (by simp[hy]))
    simp only[List.sum_cons,List.length_cons,Nat.add_mul,Nat.one_mul];omega
theorem twin_l1 (d:Disk)(h:d.Blocks.length≤1000):loop (dev_Twin_l1 d) (([]:List Int),0)=some (d.Blocks.map λb=>(b.length:Int)):=by
 rw[loop_each d.Blocks (λi (r:List Int)=>(r,i)) (λb r=>some (.inl (r++ [(b.length:Int)]))) (λr=>r) (λi r=>r.length=i) (λi hi r hr=> ?_) (λi hi r r' hr e=> ?_) (λr _=> ?_) (small_lt (by omega)) rfl,forL_map]
 · show some _=some _
   congr 1
   suffices H:∀(l:List (List UInt8)) (a:List Int),l.foldl (λr b=>r++ [(b.length:Int)]) a=a++l.map λb=>(b.length:Int) by simpa using H d.Blocks []
   intro l
   induction l with
   |nil=>simp
   |cons b l ih=>intro a;simp[ih]
 · unfold dev_Twin_l1
   rw[cI,if_pos hi,ZW _ hi,Zv (by simp only[List.length_cons,List.length_nil,LIM];omega)]
   rfl
 · simp only[Option.some.injEq,Sum.inl.injEq]at e;subst e;simp[hr]
 · unfold dev_Twin_l1
   rw[cI,if_neg (by omega)]
theorem dev_cut_eq (bs:List (List UInt8))(h:bs.length≤1000)(hb:∀b∈bs,b.length≤1000):dev_cut (bs.map λb=>(b.length:Int))=some (bs.map λb=>List.replicate b.length 0):=by
 unfold dev_cut
 have e1:(bs.map λb=>(b.length:Int)).map Int.toNat=bs.map List.length:=by rw[List.map_map];rfl
 have e2:=sum_le_mul (l:=bs.map List.length) (k:=1000) (λx hx=>by obtain⟨b,h1,rfl⟩:=List.mem_map.1 hx;exact hb b h1)
 rw[List.length_map]at e2
 rw[if_pos ⟨λn hn=>by obtain⟨b,_,rfl⟩:=List.mem_map.1 hn;omega,by rw[e1];simp only[LIM];omega,by simp only[List.length_map,LIM];omega⟩,List.map_map]
 rfl
theorem twin_l2 (d:Disk)(h:d.Blocks.length≤1000):loop (dev_Twin_l2 d) (d.Blocks.map (λb=>List.replicate b.length (0:UInt8)),0)=some d.Blocks:=by
 obtain⟨t,h1,h2⟩:=loop_rule (body:=dev_Twin_l2 d) (λs=>s.2≤d.Blocks.length∧s.1=d.Blocks.take s.2++(d.Blocks.drop s.2).map (λb=>List.replicate b.length (0:UInt8))) (λs=>d.Blocks.length-s.2) (λt=>t=d.Blocks) (by
  rintro⟨r,i⟩ ⟨hi,hr⟩
  simp only at hi hr
  subst hr
  unfold dev_Twin_l2
  dsimp only
  rw[cI]
  rcases Nat.lt_or_ge i d.Blocks.length with hlt|hge
  · left
    have hl:(d.Blocks.take i++(d.Blocks.drop i).map (λb=>List.replicate b.length (0:UInt8))).length=d.Blocks.length:=by simp;omega
    have hg:(d.Blocks.take i++(d.Blocks.drop i).map (λb=>List.replicate b.length (0:UInt8)))[i]'(by omega)=List.replicate d.Blocks[i].length 0:=by
     rw[List.getElem_append_right (by simp;omega)]
     simp[Nat.min_eq_left (Nat.le_of_lt hlt)]
    rw[if_pos hlt,ZW _ hlt,ZW _ (by omega),chk_eq (by rw[hg];simp),setI_eq (by omega) (by simpa using(by omega:i<(d.Blocks.take i++(d.Blocks.drop i).map (λb=>List.replicate b.length (0:UInt8))).length))]
    refine⟨_,rfl,⟨hlt,?_⟩,by simp only;omega⟩
    simp only[Int.toNat_natCast]
    rw[List.set_append_right _ _ (by simp only[List.length_take];omega),List.drop_eq_getElem_cons hlt]
    simp only[List.map_cons,List.length_take,Nat.min_eq_left (Nat.le_of_lt hlt),Nat.sub_self,List.set_cons_zero]
    rw[List.take_add_one,List.getElem?_eq_getElem hlt]
    simp only[Option.toList_some,List.append_assoc,List.singleton_append]
  · right
    rw[if_neg (by omega)]
    refine⟨_,rfl,?_⟩
    rw[List.take_of_length_le hge,List.drop_of_length_le hge];simp) (s:=(d.Blocks.map (λb=>List.replicate b.length (0:UInt8)),0)) ⟨Nat.zero_le _,by simp⟩ (small_lt (by simp only;omega))
 rw[h1,h2]
theorem bytes_Clone_eq{l:List UInt8}(h:l.length≤1000):bytes_Clone l=some l:=by
 unfold bytes_Clone;rw[Zv (by simp only[List.length_nil,LIM];omega)];rfl
theorem twin_l3 (d:Disk)(h:d.Waits.length≤5000)(hw:∀w∈d.Waits,w.Data.length≤1000):loop (dev_Twin_l3 d) (([]:List Write),0)=some d.Waits:=by
 rw[loop_each d.Waits (λi (r:List Write)=>(r,i)) (λb r=>some (.inl (r++ [b]))) (λr=>r) (λi r=>r.length=i) (λi hi r hr=> ?_) (λi hi r r' hr e=> ?_) (λr _=> ?_) (small_lt (by omega)) rfl,forL_map]
 · show some _=some _
   congr 1
   suffices H:∀(l:List Write) (a:List Write),l.foldl (λr b=>r++ [b]) a=a++l by simpa using H d.Waits []
   intro l
   induction l with
   |nil=>simp
   |cons b l ih=>intro a;simp[ih]
 · unfold dev_Twin_l3
   rw[cI,if_pos hi,ZW _ hi,bytes_Clone_eq (hw _ (List.getElem_mem hi))]
   simp only[Option.bind_some]
   rw[Zv (by simp only[List.length_cons,List.length_nil,LIM];omega)]
   rfl
 · simp only[Option.some.injEq,Sum.inl.injEq]at e;subst e;simp[hr]
 · unfold dev_Twin_l3
   rw[cI,if_neg (by omega)]
theorem dev_Twin_eq{d:Disk}(h:Mid d):dev_Twin d=some d:=by
 unfold dev_Twin
 rw[twin_l1 d h.blocks]
 simp only[Option.bind_some]
 rw[dev_cut_eq _ h.blocks h.eb]
 simp only[Option.bind_some]
 rw[twin_l2 d h.blocks]
 simp only[Option.bind_some]
 rw[twin_l3 d h.waits h.ew]
 rfl
end Go.Ow
namespace Go.Ow
def noD:Disk:=⟨[],[]⟩
theorem inI64_of{n:Int}(h:0≤n∧n<256):InI64 n:=⟨by omega,by omega⟩
theorem slices_Clip_Write_eq (l:List Write):slices_Clip_Write l=some l:=by
 unfold slices_Clip_Write
 rw[slc_eq (by omega) (by omega) (by omega)]
 simp[cut]
theorem guarded_eq{d:Disk}(h:Sized d)(is:Bool)(e:Disk):dev_guarded d is e=some (if OKD d then(if is=true then(e,0,e)else(noD,2,e))else(noD,8,e)):=by
 unfold dev_guarded
 rw[dev_Check_eq h]
 simp only[Option.bind_some]
 by_cases c:OKD d
 · rw[if_pos c,if_pos c]
   cases is<;>rfl
 · rw[if_neg c,if_neg c];rfl
def writeD (d:Disk)(at':Int)(b:List UInt8):Disk×Int:=
 if OKD d then(if 0≤at'∧at'<256 then(if b.length=256 then(if d.Waits.length=4096 then(noD,9)else(⟨d.Blocks,d.Waits++ [⟨at',b⟩]⟩,0))else(noD,3))else(noD,2))else(noD,8)
theorem dev_Write_eq{d:Disk}(h:Sized d){at':Int}(ha:InI64 at')(b:List UInt8):dev_Write d at' b=some (writeD d at' b):=by
 unfold dev_Write writeD
 rw[dev_place_eq ha]
 simp only[Option.bind_some]
 rw[guarded_eq h]
 simp only[Option.bind_some]
 by_cases c:OKD d
 · rw [if_pos c,if_pos c]
   by_cases c1:0≤at'∧at'<256
   · rw [decide_eq_true c1,if_pos rfl,if_pos c1]
     by_cases c2:b.length=256
     · rw [if_pos c2]
       dsimp only
       rw[show decide ((b.length:Int)=256)=true from decide_eq_true (by omega)]
       by_cases c3:d.Waits.length=4096
       · rw[if_pos c3]
         rw[show decide ((d.Waits.length:Int)=4096)=true from decide_eq_true (by omega)]
         rfl
       · rw[if_neg c3]
         rw[show decide ((d.Waits.length:Int)=4096)=false from decide_eq_false (by omega),slices_Clip_Write_eq]
         have hm:=c.mid
         have hw:=c.2.1
         simp only[decide_true,Bool.not_true,cond_false,Option.bind_some]
         rw[Zv (by simp only[List.length_cons,List.length_nil,LIM];omega),dev_Twin_eq (d:=Disk.mk d.Blocks (d.Waits++ [Write.mk at' b])) ⟨hm.blocks,by simp only[List.length_append,List.length_cons,List.length_nil];omega,hm.eb,λw hw'=>by
          rcases List.mem_append.1 hw' with h'|h'
          · exact hm.ew w h'
          · simp at h';subst h';simp only;omega⟩]
         rfl
     · rw[if_neg c2]
       dsimp only
       rw[show decide ((b.length:Int)=256)=false from decide_eq_false (by omega)]
       rfl
   · rw[decide_eq_false c1,if_neg (by simp),if_neg c1]
     rfl
 · rw[if_neg c,if_neg c];rfl
theorem OKD.write{d:Disk}(h:OKD d){at':Int}{b:List UInt8}(ha:0≤at'∧at'<256)(hb:b.length=256)(hw:d.Waits.length≠4096):OKD ⟨d.Blocks,d.Waits++ [⟨at',b⟩]⟩:=by
 obtain⟨h1,h2,h3,h4⟩:=h
 refine⟨h1,by simp only[List.length_append,List.length_cons,List.length_nil];omega,h3,λw hw'=> ?_⟩
 rcases List.mem_append.1 hw' with h'|h'
 · exact h4 w h'
 · simp at h';subst h';simp[okW,ha,hb]
def layW (B:List (List UInt8))(ws:List Write):List (List UInt8):=ws.foldl (λB w=>B.set w.At.toNat w.Data) B
def KeysOk (M:List (Int×Write)):Prop:=(M.map (·.1)).Nodup∧∀p∈M,0≤p.1
theorem mem_putM{M:List (Int×Write)}{k:Int}{y:Write}{p:Int×Write}(h:p∈putM M k y):p∈M∨p=(k,y):=by
  induction M with
  |nil=>simp[putM]at h;exact .inr h
  | cons q r ih=>
    simp only[putM]at h
    split at h
    · rcases List.mem_cons.1 h with h'|h'
      · exact .inr h'
      · exact .inl (by simp[h'])
    · rcases List.mem_cons.1 h with h'|h'
      · exact .inl (by simp[h'])
      · exact(ih h').imp (λz=>by simp[z]) id
theorem keys_putM{M:List (Int×Write)}{k:Int}{y:Write}(h:(M.map (·.1)).Nodup):((putM M k y).map (·.1)).Nodup:=by
  induction M with
  |nil=>simp[putM]
  | cons q r ih=>
    simp only[List.map_cons,List.nodup_cons]at h
    simp only[putM]
    split
    · rename_i e
      simp only[List.map_cons,List.nodup_cons];rw[←e];exact h
    · rename_i e
      simp only[List.map_cons,List.nodup_cons]
      refine⟨λhm=> ?_,ih h.2⟩
      obtain⟨p,hp,hpe⟩:=List.mem_map.1 hm
      rcases mem_putM hp with h'|h'
      · exact h.1 (List.mem_map.2 ⟨p,h',hpe⟩)
      · subst h';exact e hpe.symm
theorem KeysOk.put{M:List (Int×Write)}{k:Int}{y:Write}(h:KeysOk M)(hk:0≤k):KeysOk (putM M k y):=
 ⟨keys_putM h.1,λp hp=>(mem_putM hp).elim (h.2 p) (λe=>by subst e;exact hk)⟩
theorem layM_set{M:List (Int×Write)}{L:List (List UInt8)}{j:Nat}{v:List UInt8}(h:∀p∈M,p.1.toNat≠j):
    layM (λy:Write=>y.Data) (L.set j v) M=(layM (λy:Write=>y.Data) L M).set j v:=by
  unfold layM
  induction M generalizing L with
  |nil=>rfl
  | cons p r ih=>
    simp only[List.foldl_cons]
    rw[List.set_comm _ _ (λe=>h p (by simp) e.symm),ih (λq hq=>h q (by simp[hq]))]
theorem layM_put{M:List (Int×Write)}{L:List (List UInt8)}{k:Int}{y:Write}(h:KeysOk M)(hk:0≤k):
    layM (λy:Write=>y.Data) L (putM M k y)=(layM (λy:Write=>y.Data) L M).set k.toNat y.Data:=by
  induction M generalizing L with
  |nil=>rfl
  | cons p r ih=>
    obtain⟨h1,h2⟩:=h
    simp only[List.map_cons,List.nodup_cons]at h1
    simp only[putM]
    split
    · rename_i e
      have hr:∀q∈r,q.1.toNat≠k.toNat:=λq hq e'=>h1.1 (List.mem_map.2 ⟨q,hq,by have:=h2 q (by simp[hq]);omega⟩)
      show layM _ (L.set k.toNat y.Data) r=(layM _ (L.set p.1.toNat p.2.Data) r).set k.toNat y.Data
      rw[←layM_set hr,e,List.set_set]
    · exact ih ⟨h1.2,λq hq=>h2 q (by simp[hq])⟩
def lastM (ws:List Write):List (Int×Write):=ws.foldl (λM w=>putM M w.At w) []
theorem lastM_snoc (ws:List Write)(w:Write):lastM (ws++ [w])=putM (lastM ws) w.At w:=by simp[lastM]
theorem lastM_spec (ws:List Write)(L:List (List UInt8))(h:∀w∈ws,0≤w.At):KeysOk (lastM ws)∧layM (λy:Write=>y.Data) L (lastM ws)=layW L ws∧∀p∈lastM ws,∃w∈ws,p.1=w.At:=by
  suffices H:∀(n:Nat) (ws:List Write),ws.length=n→(∀w∈ws,0≤w.At)→KeysOk (lastM ws)∧layM (λy:Write=>y.Data) L (lastM ws)=layW L ws∧∀p∈lastM ws,∃w∈ws,p.1=w.At from H _ ws rfl h
  intro n
  induction n with
  |zero=>intro ws hn _;obtain rfl:=List.length_eq_zero_iff.1 hn;exact⟨⟨by simp[lastM],by simp[lastM]⟩,rfl,by simp[lastM]⟩
  | succ n ih=>
    intro ws hn h
    obtain⟨ws',w,rfl⟩:∃a b,ws=a++ [b]:=⟨ws.dropLast,ws.getLast (by intro e;subst e;simp at hn),(List.dropLast_concat_getLast _).symm⟩
    obtain⟨h1,h2,h3⟩:=ih ws' (by simpa using hn) (λw hw=>h w (by simp[hw]))
    have hw:=h w (by simp)
    rw[lastM_snoc]
    refine⟨h1.put hw,?_,λp hp=> ?_⟩
    · rw[layM_put h1 hw,h2];simp[layW]
    · rcases mem_putM hp with h'|h'
      · obtain⟨w',a,b⟩:=h3 p h';exact⟨w',by simp[a],b⟩
      · subst h';exact⟨w,by simp,rfl⟩
theorem layW_length (B:List (List UInt8))(ws:List Write):(layW B ws).length=B.length:=by
 unfold layW
 induction ws generalizing B with
 |nil=>rfl
 |cons w ws ih=>simp only[List.foldl_cons,ih,List.length_set]
theorem layW_all{B:List (List UInt8)}{ws:List Write}(h:∀b∈B,b.length=256)(hw:∀w∈ws,w.Data.length=256):∀b∈layW B ws,b.length=256:=by
  unfold layW
  induction ws generalizing B with
  |nil=>exact h
  | cons w ws ih=>
    simp only[List.foldl_cons]
    refine ih (λb hb=> ?_) (λw' hw'=>hw w' (by simp[hw']))
    rcases List.mem_or_eq_of_mem_set hb with h'|h'
    · exact h b h'
    · rw[h'];exact hw w (by simp)
theorem okW_at{w:Write}(h:okW w=true):0≤w.At∧w.At<256:=by
 simp only[okW,Bool.and_eq_true,decide_eq_true_eq]at h;exact h.1
theorem okW_data{w:Write}(h:okW w=true):w.Data.length=256:=by
 simp only[okW,Bool.and_eq_true,decide_eq_true_eq]at h;exact h.2
theorem clone45{l:List (List UInt8)}(h:l.length≤1000):slices_Clone_byte_L l=some l:=by
 unfold slices_Clone_byte_L;rw[Zv (by simp only[List.length_nil,LIM];omega)];rfl
theorem lasts_loop (d:Disk)(h:d.Waits.length≤5000):dev_lasts d=some (lastM d.Waits):=by
 unfold dev_lasts
 rw[loop_each' d.Waits (λi (r:List (Int×Write))=>(r,i)) (λw r=>some (.inl (putM r w.At w))) (λr=>r) (λi hi r=> ?_) (λr=> ?_) (small_lt (by omega)) [],forL_map]
 · rfl
 · unfold dev_lasts_l1
   rw[cI,if_pos hi,ZW _ hi]
   rfl
 · unfold dev_lasts_l1
   rw[cI,if_neg (by omega)]
def seenB (d:Disk):List (List UInt8):=layW d.Blocks d.Waits
theorem okd_lay{d:Disk}(h:OKD d)(ws:List Write)(hw:∀w∈ws,w∈d.Waits):OKD ⟨layW d.Blocks ws,[]⟩:=
 ⟨by simp only[layW_length];exact h.1,by simp,layW_all h.2.2.1 (λw hw'=>okW_data (h.2.2.2 w (hw w hw'))),by simp⟩
theorem lay_range{d:Disk}(h:OKD d){ws:List Write}(hw:∀w∈ws,w∈d.Waits):∀p∈lastM ws,0≤p.1∧p.1.toNat<d.Blocks.length:=λp hp=>by
 obtain⟨w,h1,h2⟩:=(lastM_spec ws [] (λw hw'=>(okW_at (h.2.2.2 w (hw w hw'))).1)).2.2 p hp
 have:=okW_at (h.2.2.2 w (hw w h1))
 rw[h2,h.1];omega
theorem dev_left_eq{d:Disk}(h:OKD d):dev_left d=some ⟨seenB d,[]⟩:=by
 unfold dev_left
 rw[clone45 h.mid.blocks]
 simp only[Option.bind_some]
 rw[lasts_loop _ h.mid.waits]
 simp only[Option.bind_some]
 unfold layR
 rw[if_pos (lay_range h (λw hw=>hw)),(lastM_spec d.Waits d.Blocks (λw hw=>(okW_at (h.2.2.2 w hw)).1)).2.1]
 dsimp only
 rw[dev_Twin_eq (okd_lay h d.Waits (λw hw=>hw)).mid]
 rfl
theorem guarded2_eq{d:Disk}(h:Sized d)(is:Bool):dev_guarded_v2 d is d=some (if OKD d then(if is=true then(⟨seenB d,[]⟩,0,d)else(noD,2,d))else(noD,8,d)):=by
 unfold dev_guarded_v2
 rw[dev_Check_eq h]
 simp only[Option.bind_some]
 by_cases c:OKD d
 · rw[if_pos c,if_pos c]
   cases is
   · rfl
   · unfold dev_Read_1;rw[dev_left_eq c];rfl
 · rw[if_neg c,if_neg c];rfl
theorem seenB_length{d:Disk}(h:OKD d):(seenB d).length=256:=by unfold seenB;rw[layW_length];exact h.1
theorem dev_Read_eq{d:Disk}(h:OKD d){i:Nat}(hi:i<256):dev_Read d (i:Int)=some ((seenB d)[i]'(by rw[seenB_length h];exact hi),0):=by
 unfold dev_Read
 rw[dev_place_eq (inI64_of (by omega))]
 simp only[Option.bind_some]
 rw[guarded2_eq h.sized,if_pos h,decide_eq_true (show 0≤(i:Int)∧(i:Int)<256 by omega),if_pos rfl]
 simp only[Option.bind_some,decide_true,Bool.not_true,cond_false]
 rw[ZW _ (by rw[seenB_length h];exact hi)]
end Go.Ow
namespace Go.Ow
def leB (n:Nat):Nat→List UInt8
 |0=> []
 |k+1=>UInt8.ofNat n::leB (n/256) k
theorem leB_length (n k:Nat):(leB n k).length=k:=by
 induction k generalizing n with
 |zero=>rfl
 |succ k ih=>simp[leB,ih]
def numB:List UInt8→Nat
 |[]=>0
 |b::r=>b.toNat+256*numB r
theorem u8i_nat (n:Nat):u8i (n:Int)=UInt8.ofNat n:=by
 unfold u8i
 apply UInt8.toNat_inj.1
 rw[UInt8.toNat_ofNat',UInt8.toNat_ofNat']
 omega
theorem sized_eq (k:Int):code_sized k=some (decide (0<k∧k≤4)):=by
 unfold code_sized
 by_cases h:0<k
 · rw[decide_eq_true h]
   simp only[cond_true,Option.bind_some]
   congr 1;simp only[decide_eq_decide];omega
 · rw[decide_eq_false h]
   simp only[cond_false,Option.bind_some]
   congr 1;rw[decide_eq_false (λe=>h e.1)]
theorem put_loop{n k:Nat}(hk:k≤4)(hn:n<4294967296):loop (code_Put_l1 (k:Int)) ((n:Int),([]:List UInt8))=some (leB n k):=by
 obtain⟨t,h1,h2⟩:=loop_rule (body:=code_Put_l1 (k:Int)) (λs=>∃m:Nat,s.1=(m:Int)∧m<4294967296∧s.2.length≤k∧s.2++leB m (k-s.2.length)=leB n k) (λs=>k-s.2.length) (λt=>t=leB n k) (by
  rintro⟨a,b⟩ ⟨m,h1,h0,h2,h3⟩
  simp only at h1 h2 h3
  subst h1
  unfold code_Put_l1
  dsimp only
  rw[cI]
  rcases Nat.lt_or_ge b.length k with c|c
  · left
    rw[if_pos c,Zv (by simp only[List.length_cons,List.length_nil,LIM];omega)]
    refine⟨_,rfl,⟨m/256,?_,by omega,by simp;omega,?_⟩,by simp;omega⟩
    · simp only
      rw[Int.tdiv_eq_ediv_of_nonneg (by omega),Zp (by omega) (by omega)];omega
    · simp only
      rw[←h3,show k-b.length=(k-(b++ [u8i (m:Int)]).length)+1 by simp;omega]
      simp only[leB,u8i_nat,List.append_assoc,List.singleton_append]
  · right
    rw[if_neg (by omega)]
    refine⟨_,rfl,?_⟩
    rw[show k-b.length=0 by omega]at h3
    simpa[leB]using h3) (s:=((n:Int),([]:List UInt8))) ⟨n,rfl,hn,by simp,by simp⟩ (Nat.lt_of_le_of_lt (Nat.sub_le _ _) (small_lt (by omega)))
 rw[h1,h2]
theorem pow256{k:Nat}(h1:1≤k)(h4:k≤4):sli 1 (w64 (8*(k:Int)))=((256^k:Nat):Int)∧256^k≤4294967296:=by
 have:k=1∨k=2∨k=3∨k=4:=by omega
 rcases this with rfl|rfl|rfl|rfl<;>decide
theorem code_Put_eq{n k:Nat}(h1:1≤k)(h4:k≤4)(hn:n<256^k):code_Put (n:Int) (k:Int)=some (leB n k,0):=by
 unfold code_Put
 rw[sized_eq]
 simp only[Option.bind_some]
 obtain⟨h5,h6⟩:=pow256 h1 h4
 rw[decide_eq_true (show 0<(k:Int)∧(k:Int)≤4 by omega),decide_eq_false (show¬(n:Int)<0 by omega),chk_eq (by rw[Zp (by omega) (by omega)];omega),h5,
  decide_eq_false (show¬((256^k:Nat):Int)≤(n:Int) by omega)]
 simp only[Bool.not_true,cond_false]
 rw[put_loop h4 (by omega)]
 rfl
theorem numB_snoc (p:List UInt8)(c:UInt8):numB (p++ [c])=numB p+256^p.length*c.toNat:=by
 induction p with
 |nil=>simp[numB]
 |cons b p ih=>simp only[List.cons_append,numB,ih,List.length_cons,Nat.pow_succ];rw[Nat.mul_add,←Nat.mul_assoc,Nat.mul_comm 256 (256^p.length)];omega
theorem bwd_length' (m:List UInt8)(k:Nat):(bwd m k).length=k:=by induction k with|zero=>rfl|succ k ih=>simp[bwd,ih]
theorem bwd_fold (m:List UInt8):∀(k a:Nat),k≤m.length→(bwd m k).foldl (λn y=>256*n+y.2.toNat) a=numB (m.take k)+256^k*a:=by
  intro k
  induction k with
  |zero=>intro a _;simp[bwd,numB]
  | succ k ih=>
    intro a hk
    simp only[bwd,List.foldl_cons]
    rw[ih _ (by omega),List.take_succ_eq_append_getElem (by omega),numB_snoc,List.length_take,Nat.min_eq_left (by omega),List.getD_eq_getElem?_getD,List.getElem?_eq_getElem (by omega),Option.getD_some,Nat.pow_succ,Nat.mul_add,←Nat.mul_assoc]
    omega
theorem get_loop:∀(l:List (Nat×UInt8)) (a j:Nat),a<256^j→j+l.length≤4→forL code_Get_r1 l (a:Int)=some (.inl ((l.foldl (λn y=>256*n+y.2.toNat) a:Nat):Int))
  |[],a,j,_,_=>rfl
  | y ::l,a,j,ha,hj=>by
    have hy:=y.2.toNat_lt
    have hp:(256:Nat)^(j+1)≤256^4:=Nat.pow_le_pow_right (by omega) (by simp at hj;omega)
    have h2:256*a+y.2.toNat<256^(j+1):=by rw[Nat.pow_succ];omega
    rw[forL_cons (s':=((256*a+y.2.toNat:Nat):Int)) (by
      have e4:(256:Nat)^4=4294967296:=by decide
      rw[e4]at hp
      generalize (256:Nat)^(j+1)=N at hp h2
      show some (Sum.inl (w64 ((w64 (256*(a:Int)))+(y.2.toNat:Int))))=_
      rw[Zp (n:=256*(a:Int)) (by omega) (by omega),Zp (by omega) (by omega)]
      rw[show(256*(a:Int)+(y.2.toNat:Int))=((256*a+y.2.toNat:Nat):Int) by omega]),get_loop l _ (j+1) h2 (by simp at hj;omega)]
    rfl
theorem cut_len{l:List UInt8}{a b:Nat}(h1:a≤b)(h2:b≤l.length):(cut l (a:Int) (b:Int)).length=b-a:=by
 unfold cut;simp only[List.length_take,List.length_drop];omega
theorem get_core{b:List UInt8}{at' k:Nat}(h4:k≤4)(hl:at'+k≤b.length):
 (slc b (at':Int) ((at'+k:Nat):Int) λm_16=>Option.bind (slices_Backward_byte m_16) λx_20=>Option.bind (forL code_Get_r1 (bwd m_16 m_16.length) 0) (λt_24=>Sum.elim (λs_27=>some (s_27,(0:Int))) (λ_=>none) t_24))=some ((numB ((b.drop at').take k):Int),0):=by
 rw[slc_eq (by omega) (by omega) (by omega)]
 have hm:(cut b (at':Int) ((at'+k:Nat):Int)).length=k:=by rw[cut_len (by omega) (by omega)];omega
 have he:cut b (at':Int) ((at'+k:Nat):Int)=(b.drop at').take k:=by unfold cut;rw[Int.toNat_natCast,Int.toNat_natCast,Nat.add_sub_cancel_left]
 rw[he]at hm⊢
 have:=get_loop (bwd ((b.drop at').take k) ((b.drop at').take k).length) 0 0 (by decide) (by rw[bwd_length',hm];omega)
 unfold slices_Backward_byte
 rw[Option.bind_some]
 rw[show((0:Nat):Int)=0 from rfl]at this
 rw[this,bwd_fold _ _ _ (Nat.le_refl _),List.take_length,Nat.mul_zero,Nat.add_zero]
 rfl
theorem get_cond{b:List UInt8}{a q k:Int}{K:Option (Int×Int)}(hk:0<k∧k≤4)(h0:0≤a)(h1:a≤b.length)(h2:q≤b.length):
 (Option.bind (code_sized k) λx_5=>Option.bind (cond (!x_5) (some true) (cond (decide (a<0)) (some true) (some (decide ((b.length:Int)<a))))) (λt_8=>cond t_8 (some (0,2)) (cond (decide ((b.length:Int)<q)) (some (0,8)) K)))=K:=by
 rw[sized_eq,Option.bind_some,decide_eq_true hk,decide_eq_false (show¬a<0 by omega),decide_eq_false (show¬(b.length:Int)<a by omega),decide_eq_false (show¬(b.length:Int)<q by omega)]
 rfl
theorem code_Get_eq{b:List UInt8}{at' k:Nat}(h1:1≤k)(h4:k≤4)(hl:at'+k≤b.length)(hb:b.length≤1000000):code_Get b (at':Int) (k:Int)=some ((numB ((b.drop at').take k):Int),0):=by
 unfold code_Get
 have hw:w64 ((at':Int)+(k:Int))=((at'+k:Nat):Int):=by rw[Zp (by omega) (by omega)];omega
 rw[hw]
 exact(get_cond ⟨by omega,by omega⟩ (by omega) (by omega) (by omega)).trans (get_core h4 hl)
theorem rot_tot (a:UInt32)(n:Int):∃r,math_bits_RotateLeft32 a n=some r:=⟨_,rfl⟩
theorem turned1_tot (a b:Int)(x:A4 UInt32):∃r,mix_words_turned_1 a b x=some r:=by
 unfold mix_words_turned_1
 obtain⟨r,h⟩:=rot_tot (x.e3^^^(x.e0+x.e1)) a
 rw[h]
 simp only[Option.bind_some]
 obtain⟨r',h'⟩:=rot_tot (x.e1^^^(x.e2+r)) b
 rw[h']
 exact⟨_,rfl⟩
theorem turned_tot (x:A4 UInt32):∃r,mix_words_turned x=some r:=by
 unfold mix_words_turned
 obtain⟨r,h⟩:=turned1_tot 15 11 x
 rw[h]
 simp only[Option.bind_some]
 obtain⟨r',h'⟩:=turned1_tot 9 6 r
 rw[h']
 exact⟨_,rfl⟩
theorem often_tot (x:A4 UInt32)(n:Int)(hn:n≤100):∃r,mix_words_often x n=some r:=by
 unfold mix_words_often
 obtain⟨t,h1,-⟩:=loop_rule (body:=mix_words_often_l1 n) (λs=>0≤s.2.2.2.2∧s.2.2.2.2≤100) (λs=>100-s.2.2.2.2.toNat) (λ_=>True) (by
  rintro⟨a,b,c,d,i⟩ ⟨hi,hi'⟩
  simp only at hi hi'
  unfold mix_words_often_l1
  dsimp only
  by_cases h:i<n
  · left
    rw[decide_eq_true h]
    obtain⟨r,hr⟩:=turned_tot (A4.mk a b c d)
    simp only[cond_true]
    rw[hr]
    refine⟨_,rfl,?_,?_⟩
    · simp only;rw[Zp (by omega) (by omega)];omega
    · simp only;rw[Zp (by omega) (by omega)];omega
  · right
    rw[decide_eq_false h]
    exact⟨_,rfl,trivial⟩) (s:=(x.e0,x.e1,x.e2,x.e3,0)) ⟨by simp,by simp⟩ (Nat.lt_of_le_of_lt (Nat.sub_le _ _) (small_lt (by omega)))
 rw[h1]
 exact⟨_,rfl⟩
theorem number_tot{b:List UInt8}(h:b.length=4):∃r,mix_number b=some r:=by
 unfold mix_number
 rw[show(0:Int)=((0:Nat):Int)from rfl,show(4:Int)=((4:Nat):Int)from rfl,code_Get_eq (by omega) (by omega) (by omega) (by omega)]
 exact⟨_,rfl⟩
theorem forL_tot{α σ τ:Type}{body:α→σ→Option (σ ⊕ τ)}:∀{l:List α} {s:σ},(∀y∈l,∀s,∃s',body y s=some (.inl s'))→∃s',forL body l s=some (.inl s')
  |[],s,_=>⟨s,rfl⟩
  | y::l,s,h=>by
    obtain⟨s',h1⟩:=h y (by simp) s
    rw[forL_cons h1]
    exact forL_tot (λy hy=>h y (by simp[hy]))
theorem chunks_len{n:Nat}(hn:0<n):∀(f:Nat) (l:List UInt8),l.length≤f→l.length%n=0→∀y∈chunks n f l,y.length=n
  |0,l,h,_,y,hy=>by simp[chunks]at hy
  | f + 1,l,h,hm,y,hy=>by
    by_cases c:l= []
    · subst c;simp[chunks]at hy
    · rw[chunks_step c]at hy
      have hpos:=List.length_pos_iff.2 c
      have hge:n≤l.length:=by
        rcases Nat.lt_or_ge l.length n with h'|h'
        · rw[Nat.mod_eq_of_lt h']at hm;omega
        · exact h'
      rcases List.mem_cons.1 hy with rfl|hy
      · simp only[List.length_take];omega
      · refine chunks_len hn f _ (by simp only[List.length_drop];omega) ?_ y hy
        rw[List.length_drop,←Nat.mod_eq_sub_mod hge];exact hm
def pad8 (n:Nat):Nat:=(8-n%8)%8
theorem pad8_step{n:Nat}(h:n%8≠0):pad8 (n+1)+1=pad8 n:=by
 unfold pad8
 have:n%8=1∨n%8=2∨n%8=3∨n%8=4∨n%8=5∨n%8=6∨n%8=7:=by omega
 rcases this with h|h|h|h|h|h|h<;>rw[Nat.add_mod,h]
theorem pad8_le (n:Nat):pad8 n≤8:=by unfold pad8;omega
theorem four_l1{l:List UInt8}(h:l.length≤100000):∃t,loop mix_four_l1 l=some t∧t.length%8=0∧t.length≤100016:=by
 obtain⟨t,h1,h2⟩:=loop_rule (body:=mix_four_l1) (λs=>s.length+pad8 s.length≤100008) (λs=>pad8 s.length) (λt=>t.length%8=0∧t.length≤100016) (by
  intro s hs
  unfold mix_four_l1
  rw[Int.tmod_eq_emod_of_nonneg (by omega)]
  by_cases c:s.length%8=0
  · right
    rw[decide_eq_true (show(s.length:Int)%8=0 by omega)]
    exact⟨_,rfl,c,by omega⟩
  · left
    have:=pad8_step c
    rw[decide_eq_false (show¬(s.length:Int)%8=0 by omega)]
    simp only[Bool.not_false,cond_true]
    rw[Zv (by simp only[List.length_cons,List.length_nil,LIM];omega)]
    exact⟨_,rfl,by simp only[List.length_append,List.length_cons,List.length_nil,Nat.zero_add];omega,by simp only[List.length_append,List.length_cons,List.length_nil,Nat.zero_add];omega⟩) (s:=l) (by have:=pad8_le l.length;omega) (Nat.lt_of_le_of_lt (pad8_le _) (small_lt (by omega)))
 exact⟨t,h1,h2⟩
theorem mix_Sum_tot{b:List UInt8}(h:b.length≤10000):∃r,mix_Sum b=some r:=by
 unfold mix_Sum mix_four slices_Clone_byte slices_Clip_byte
 rw[Zv (by simp only[List.length_nil,LIM];omega)]
 simp only[Option.bind_some,List.nil_append]
 rw[slc_eq (by omega) (by omega) (by omega)]
 simp only[Option.bind_some]
 have hc:cut b 0 (b.length:Int)=b:=by simp[cut]
 rw[hc,Zv (by simp only[List.length_cons,List.length_nil,LIM];omega)]
 obtain⟨t,h1,h2,h3⟩:=four_l1 (l:=b++ [1]) (by simp;omega)
 rw[h1]
 simp only[Option.bind_some]
 unfold slices_Chunk_byte
 rw[if_pos ⟨by omega,by omega,by simp only[LIM];omega⟩]
 simp only[Option.bind_some]
 obtain⟨s,hs⟩:=forL_tot (body:=mix_four_r2) (l:=chunks (8:Int).toNat t.length t) (s:=((1:UInt32),(2:UInt32),(3:UInt32),(4:UInt32))) (λy hy s=>by
  have hy8:y.length=8:=chunks_len (n:=8) (by omega) t.length t (Nat.le_refl _) h2 y hy
  unfold mix_four_r2
  rw[slc_eq (by omega) (by omega) (by omega)]
  obtain⟨n1,e1⟩:=number_tot (b:=cut y 0 4) (by rw[show(0:Int)=((0:Nat):Int)from rfl,show(4:Int)=((4:Nat):Int)from rfl,cut_len (by omega) (by omega)])
  rw[e1]
  simp only[Option.bind_some]
  rw[slc_eq (by omega) (by omega) (by omega)]
  obtain⟨n2,e2⟩:=number_tot (b:=cut y 4 (y.length:Int)) (by rw[show(4:Int)=((4:Nat):Int)from rfl,cut_len (by omega) (by omega)];omega)
  rw[e2]
  simp only[Option.bind_some]
  obtain⟨w,e3⟩:=often_tot (A4.mk (s.1^^^n1) s.2.1 (s.2.2.1^^^n2) s.2.2.2) 4 (by omega)
  rw[e3]
  exact⟨_,rfl⟩)
 rw[hs]
 simp only[Option.bind_some,Sum.elim_inl]
 obtain⟨w,e3⟩:=often_tot (A4.mk s.1 (s.2.1^^^(u32i (b.length:Int))) s.2.2.1 s.2.2.2) 8 (by omega)
 rw[e3]
 exact⟨_,rfl⟩
def sumOf (b:List UInt8):UInt32:=(mix_Sum b).getD 0
theorem mix_Sum_eq{b:List UInt8}(h:b.length≤10000):mix_Sum b=some (sumOf b):=by
 obtain⟨r,hr⟩:=mix_Sum_tot h
 unfold sumOf;rw[hr];rfl
end Go.Ow
namespace Go.Ow
theorem run_st{σ τ:Type}{body:σ→Option (σ ⊕ τ)}{n:Nat}{s s':σ}(h:body s=some (.inl s')):run body (n+1) s=run body n s':=by
 show Option.bind (body s) _=_;rw[h];rfl
theorem Zl{σ τ:Type}{body:σ→Option (σ ⊕ τ)}{n:Nat}{s:σ}{t:τ}(h:body s=some (.inr t)):run body (n+1) s=some t:=by
 show Option.bind (body s) _=_;rw[h];rfl
theorem six_fuel:6≤FUEL:=by decide
theorem run5{σ τ:Type}{body:σ→Option (σ ⊕ τ)}{s0 s1 s2 s3 s4 s5:σ}{t:τ}(h0:body s0=some (.inl s1))(h1:body s1=some (.inl s2))(h2:body s2=some (.inl s3))(h3:body s3=some (.inl s4))(h4:body s4=some (.inl s5))(h5:body s5=some (.inr t)):
 loop body s0=some t:=loop_of six_fuel (by rw[run_st h0,run_st h1,run_st h2,run_st h3,run_st h4,Zl h5])
def isNone (p:Ptr):Prop:=p.At=0∧p.Birth=0∧p.Iv=0∧p.Tag=0∧p.Sum=0
instance (p:Ptr):Decidable (isNone p):=by unfold isNone;infer_instance
def okR (p:Ptr):Prop:=12≤p.At∧p.At<256∧(1:UInt32)≤p.Birth∧p.Birth≤16777215
instance (p:Ptr):Decidable (okR p):=by unfold okR;infer_instance
theorem none_dec (p:Ptr):(decide (p.At=0)&&(decide (p.Birth=(0:UInt32))&&(decide (p.Iv=(0:UInt32))&&(decide (p.Tag=(0:UInt32))&&(decide (p.Sum=(0:UInt32))&&true)))))=decide (isNone p):=by
 rw[Bool.eq_iff_iff]
 simp only[Bool.and_eq_true,decide_eq_true_eq,and_true]
 exact Iff.rfl
theorem ptr_Check_eq' (p:Ptr):ptr_Check p=some (if isNone p∨okR p then 0 else 8):=by
 unfold ptr_Check
 rw[none_dec]
 by_cases h0:isNone p
 · rw[decide_eq_true h0,if_pos (.inl h0)];rfl
 rw[decide_eq_false h0]
 by_cases h:okR p
 · rw[if_pos (.inr h)]
   obtain⟨h1,h2,h3,h4⟩:=h
   rw[decide_eq_false (show¬p.At<12 by omega),decide_eq_false (show¬256≤p.At by omega),decide_eq_false (show¬p.Birth<1 from UInt32.not_lt.2 h3),decide_eq_false (show¬(16777215:UInt32)<p.Birth from UInt32.not_lt.2 h4)]
   rfl
 · rw[if_neg (λe=>e.elim h0 h)]
   by_cases h1:p.At<12
   · rw[decide_eq_true h1];rfl
   by_cases h2:256≤p.At
   · rw[decide_eq_false h1,decide_eq_true h2];rfl
   by_cases h3:p.Birth<1
   · rw[decide_eq_false h1,decide_eq_false h2,decide_eq_true h3];rfl
   by_cases h4:(16777215:UInt32)<p.Birth
   · rw[decide_eq_false h1,decide_eq_false h2,decide_eq_false h3,decide_eq_true h4];rfl
   exact absurd ⟨by omega,by omega,UInt32.not_lt.1 h3,UInt32.not_lt.1 h4⟩ h
end Go.Ow
namespace Go.Ow
end Go.Ow
namespace Go.Ow
def okS (s:List UInt8):Prop:=s.length=256∧(∀b∈s,b≤2)∧∀b∈s.take 12,b=1
instance (s:List UInt8):Decidable (okS s):=by unfold okS;infer_instance
theorem maxB_le{a b c:UInt8}:maxB a b≤c↔a≤c∧b≤c:=by
 unfold maxB
 simp only[UInt8.le_iff_toNat_le,UInt8.lt_iff_toNat_lt]
 split<;>omega
theorem max_loop (s:List UInt8)(h:s.length≤1000)(a:UInt8):loop (slices_Max_byte_l1 s) (a,1)=some ((s.drop 1).foldl maxB a):=by
 have:=loop_each' (s.drop 1) (λi r=>(r,i+1)) (body:=slices_Max_byte_l1 s) (τ:=UInt8) (λy r=>some (.inl (maxB r y))) (λr=>r)
  (λi hi r=>by
   have hi':i+1<s.length:=by rw[List.length_drop]at hi;omega
   unfold slices_Max_byte_l1
   rw[cI,if_pos hi',ZW _ hi']
   simp only[List.getElem_drop,Nat.add_comm 1 i]
   rfl)
  (λr=>by
   unfold slices_Max_byte_l1
   rw[cI,if_neg (by rw[List.length_drop];omega)])
  (Nat.lt_of_le_of_lt (by rw[List.length_drop];omega) (show 1000<FUEL by decide)) a
 rw[this,forL_map];rfl
theorem foldl_max (l:List UInt8)(a c:UInt8):l.foldl maxB a≤c↔a≤c∧∀b∈l,b≤c:=by
 induction l generalizing a with
 |nil=>simp
 |cons b l ih=>rw[List.foldl_cons,ih,maxB_le];simp[and_assoc]
theorem max_eq{s:List UInt8}(h:s.length≤1000)(h0:0<s.length):∃m,slices_Max_byte s=some m∧∀c,m≤c↔∀b∈s,b≤c:=by
 refine⟨(s.drop 1).foldl maxB s[0],?_,λc=> ?_⟩
 · unfold slices_Max_byte
   rw[decide_eq_false (by omega),cond_false,show(0:Int)=((0:Nat):Int)from rfl,ZW _ h0,max_loop s h,Option.bind_some]
 · rw[foldl_max]
   cases s with
   |nil=>simp at h0
   |cons a l=>simp
theorem cnt_all (l:List UInt8)(k:Nat):l.foldl (λn x=>if x==(1:UInt8)then n+1 else n) k≤k+l.length∧(l.foldl (λn x=>if x==(1:UInt8)then n+1 else n) k=k+l.length↔∀b∈l,b=1):=by
  induction l generalizing k with
  |nil=>simp
  | cons b l ih=>
    rw[List.foldl_cons]
    by_cases c:b=1
    · subst c
      have:=ih (k+1)
      simp only[beq_self_eq_true,if_true,List.length_cons,List.forall_mem_cons,true_and]
      exact⟨by omega,by rw[←this.2];omega⟩
    · have:=ih k
      rw[if_neg (by simpa using c)]
      simp only[List.length_cons,List.forall_mem_cons]
      exact⟨by omega,⟨λe=>by omega,λe=>absurd e.1 c⟩⟩
theorem space_Check_eq (s:List UInt8):space_Check s=some (if okS s then 0 else 8):=by
 unfold space_Check
 by_cases hl:s.length=256
 · rw [show(!decide ((s.length:Int)=256))=false by rw[decide_eq_true (by omega)];rfl,cond_false]
   obtain⟨m,hm,hmc⟩:=max_eq (s:=s) (by omega) (by omega)
   rw[hm,Option.bind_some]
   by_cases hb:∀b∈s,b≤2
   · have:=(hmc 2).2 hb
     rw[decide_eq_false (by rw[UInt8.lt_iff_toNat_lt];rw[UInt8.le_iff_toNat_le]at this;omega),cond_false,slc_eq (by omega) (by omega) (by omega)]
     have hc:cut s 0 12=s.take 12:=by simp[cut]
     rw[hc]
     unfold bytes_Count
     rw[decide_eq_false (by simp),cond_false,decide_eq_true (by simp),cond_true,show(0:Int)=((0:Nat):Int)from rfl,ZW _ (by simp),Option.bind_some]
     have hk:=cnt_all (s.take 12) 0
     have hlt:(s.take 12).length=12:=by rw[List.length_take];omega
     rw[hlt]at hk
     obtain⟨q,hq⟩:∃q,q=cntB (s.take 12) ([(1:UInt8)][0]):=⟨_,rfl⟩
     rw[←hq]
     have hq':q=(s.take 12).foldl (λn x=>if x==(1:UInt8)then n+1 else n) 0:=hq
     by_cases h1:∀b∈s.take 12,b=1
     · have e:=hk.2.2 h1
       rw[if_pos ⟨hl,hb,h1⟩,decide_eq_true (by omega)];rfl
     · have e:¬q=12:=λe=>h1 (hk.2.1 (by omega))
       rw[if_neg (λh=>h1 h.2.2),decide_eq_false (by omega)];rfl
   · have:¬m≤2:=λh=>hb ((hmc 2).1 h)
     rw[decide_eq_true (by rw[UInt8.lt_iff_toNat_lt];rw[UInt8.le_iff_toNat_le]at this;omega),cond_true,if_neg (λh=>hb h.2.1)]
 · rw[show(!decide ((s.length:Int)=256))=true by rw[decide_eq_false (by omega)];rfl,cond_true,if_neg (λh=>hl h.1)]
def freeFrom (s:List UInt8)(i:Nat):Option Nat:=(List.range' i (s.length-i)).find? λj=>s.getD j 1==0
theorem freeFrom_step{s:List UInt8}{i:Nat}(h:i<s.length):freeFrom s i=if s[i]=0 then some i else freeFrom s (i+1):=by
 unfold freeFrom
 rw[show s.length-i=(s.length-(i+1))+1 by omega,List.range'_succ,List.find?_cons]
 have e:s.getD i 1=s[i]:=by rw[List.getD_eq_getElem?_getD,List.getElem?_eq_getElem h];rfl
 rw[e]
 by_cases c:s[i]=0
 · rw[if_pos c,c];rfl
 · rw[if_neg c,beq_eq_false_iff_ne.2 c]
theorem freeFrom_end{s:List UInt8}{i:Nat}(h:s.length≤i):freeFrom s i=none:=by
 unfold freeFrom;rw[show s.length-i=0 by omega];rfl
theorem freeFrom_some{s:List UInt8}{i j:Nat}(h:freeFrom s i=some j):i≤j∧j<s.length∧s[j]? =some 0:=by
 unfold freeFrom at h
 have h1:=List.mem_of_find?_eq_some h
 have h2:=List.find?_some h
 rw[List.mem_range'_1]at h1
 have hj:j<s.length:=by omega
 refine⟨h1.1,hj,?_⟩
 rw[List.getD_eq_getElem?_getD,List.getElem?_eq_getElem hj]at h2
 rw[List.getElem?_eq_getElem hj]
 simpa using h2
theorem free_loop (s:List UInt8)(hs:s.length≤1000):∀(k i n:Nat),i+k=s.length→k<n→
    run (space_free_1_l1 s) n (i:Int)=some (match freeFrom s i with|some j=>.inr ((j:Int),(j:Int))|none=>.inl (s.length:Int))
  | 0,i,n,hi,hn=>by
    obtain⟨n,rfl⟩:∃m,n=m+1:=⟨n-1,by omega⟩
    obtain rfl:i=s.length:=by omega
    rw[freeFrom_end (Nat.le_refl _)]
    show Option.bind (space_free_1_l1 s _) _=_
    unfold space_free_1_l1
    rw[decide_eq_false (by omega),cond_false];rfl
  | k +1,i,n,hi,hn=>by
    obtain⟨n,rfl⟩:∃m,n=m+1:=⟨n-1,by omega⟩
    have hlt:i<s.length:=by omega
    rw[freeFrom_step hlt]
    show Option.bind (space_free_1_l1 s _) _=_
    unfold space_free_1_l1
    rw[decide_eq_true (by omega),cond_true,ZW _ hlt]
    by_cases c:s[i]=0
    · rw[decide_eq_true c,cond_true,if_pos c];rfl
    · rw[decide_eq_false c,cond_false,if_neg c]
      show run (space_free_1_l1 s) n (w64 ((i:Int)+1))=_
      rw[Zp (by omega) (by omega),show(i:Int)+1=((i+1:Nat):Int) by omega]
      exact free_loop s hs k (i+1) n (by omega) (by omega)
theorem space_free_1_eq{s:List UInt8}(hs:s.length≤1000){i:Nat}(hi:i≤s.length):
 space_free_1 ((i:Int)-1) s=some (match freeFrom s i with|some j=>((j:Int),(j:Int),s)|none=>(-1,(s.length:Int),s)):=by
 unfold space_free_1
 rw[show((i:Int)-1)+1=(i:Int) by omega,Zp (by omega) (by omega)]
 have:=free_loop s hs (s.length-i) i FUEL (by omega) (Nat.lt_of_le_of_lt (by omega) (show 1000<FUEL by decide))
 rw[show loop (space_free_1_l1 s) (i:Int)=_ from this,Option.bind_some]
 cases freeFrom s i<;>rfl
def takeS (s:List UInt8):List UInt8×Int×Int:=if okS s then(match freeFrom s 0 with|some j=>(s.set j 1,(j:Int),0)|none=>([],0,9))else([],0,8)
theorem bClone{l:List UInt8}(h:l.length≤1000000):bytes_Clone l=some l:=by
 unfold bytes_Clone;rw[Zv (Nat.le_trans (by simpa using h) (by decide))];rfl
theorem space_Take_eq (s:List UInt8):space_Take s=some (takeS s):=by
  unfold space_Take takeS
  rw[space_Check_eq,Option.bind_some]
  by_cases ok:okS s
  · rw[if_pos ok,if_pos ok]
    have hl:=ok.1
    rw[show(!decide ((0:Int)=0))=false from rfl,cond_false]
    unfold space_free
    rw[Option.bind_some]
    have:=space_free_1_eq (s:=s) (by omega) (i:=0) (by omega)
    rw[show((-1:Int),s).1=((0:Nat):Int)-1 from rfl,show((-1:Int),s).2=s from rfl,this,Option.bind_some]
    cases hf:freeFrom s 0 with
    |none=>rfl
    | some j=>
      obtain⟨-,hj,-⟩:=freeFrom_some hf
      simp only[]
      rw[decide_eq_false (by omega),cond_false,bClone (by omega),Option.bind_some,chk_eq ⟨by omega,by simpa using hj⟩,setI_eq (by omega) (by simpa using hj),Int.toNat_natCast]
  · rw[if_neg ok,if_neg ok];rfl
end Go.Ow
namespace Go.Ow
theorem lim_le{n:Nat}(h:n≤1000000):n≤LIM:=Nat.le_trans h (by decide)
end Go.Ow
namespace Go.Ow
def noS:Store:=⟨⟨[],[]⟩,[],0,0⟩
def noP:Ptr:=⟨0,0,0,0,0⟩
def OKSt (s:Store):Prop:=OKD s.Disk∧okS s.Space∧(1:UInt32)≤s.Epoch∧s.Epoch≤65535∧s.Count≤65535
instance (s:Store):Decidable (OKSt s):=by unfold OKSt;infer_instance
theorem ndec{e:Int}(h:e≠0):(!decide (e=0))=true:=by rw[decide_eq_false h];rfl
theorem zdec:(!decide ((0:Int)=0))=false:=rfl
theorem d32lt (a b:UInt32):decide (a<b)= !decide (b≤a):=by
 rw[←decide_not];apply decide_eq_decide.2;rw[UInt32.lt_iff_toNat_lt,UInt32.le_iff_toNat_le];omega
theorem store_Check_eq{s:Store}(h:Sized s.Disk):store_Check s=some (if OKSt s then 0 else 8):=by
 unfold store_Check
 rw[dev_Check_eq h,Option.bind_some]
 by_cases c1:OKD s.Disk
 · rw [if_pos c1,zdec,cond_false,space_Check_eq,Option.bind_some]
   by_cases c2:okS s.Space
   · rw [if_pos c2,zdec,cond_false,d32lt,d32lt,d32lt]
     by_cases c3:(1:UInt32)≤s.Epoch
     · by_cases c4:s.Epoch≤65535
       · by_cases c5:s.Count≤65535
         · rw[if_pos ⟨c1,c2,c3,c4,c5⟩,decide_eq_true c3,decide_eq_true c4,decide_eq_true c5];rfl
         · rw[if_neg (λh=>c5 h.2.2.2.2),decide_eq_true c3,decide_eq_true c4,decide_eq_false c5];rfl
       · rw[if_neg (λh=>c4 h.2.2.2.1),decide_eq_true c3,decide_eq_false c4];rfl
     · rw[if_neg (λh=>c3 h.2.2.1),decide_eq_false c3];rfl
   · rw[if_neg c2,ndec (by omega),cond_true,if_neg (λh=>c2 h.2.1)]
 · rw[if_neg c1,ndec (by omega),cond_true,if_neg (λh=>c1 h.1)]
def birthOk (b:UInt32):Prop:=(1:UInt32)≤b∧b≤16777215
instance (b:UInt32):Decidable (birthOk b):=by unfold birthOk;infer_instance
theorem asked_loop1 (n:Int)(a:List UInt8):loop (store_asked_l1 [a]) (n,0)=some (if(a.length:Int)=n then .inl ()else .inr ()):=by
 refine loop_of (n:=3) (by decide) ?_
 by_cases c:(a.length:Int)=n
 · rw[if_pos c,run_st (s':=((256:Int),1)) (by unfold store_asked_l1;simp[idx,c])]
   exact Zl (by unfold store_asked_l1;rfl)
 · rw[if_neg c]
   exact Zl (by unfold store_asked_l1;simp[idx,c])
def askErr (s:Store)(birth:UInt32)(ok:Prop) [Decidable ok]:Int:=if OKSt s then(if birthOk birth then(if ok then 0 else 3)else 2)else 8
theorem asked_core{s:Store}(h:Sized s.Disk)(birth:UInt32)(n:Int)(l:List (List UInt8))(ok:Prop) [Decidable ok](hl:loop (store_asked_l1 l) (n,0)=some (if ok then .inl ()else .inr ())):
 store_asked s birth n l=some (askErr s birth ok):=by
 unfold store_asked askErr
 rw[store_Check_eq h,Option.bind_some]
 by_cases c1:OKSt s
 · rw[if_pos c1,if_pos c1,zdec,cond_false,d32lt,d32lt,hl]
   by_cases c2:birthOk birth
   · rw[if_pos c2,decide_eq_true c2.1,decide_eq_true c2.2]
     by_cases c3:ok
     · rw[if_pos c3,if_pos c3];rfl
     · rw[if_neg c3,if_neg c3];rfl
   · rw[if_neg c2]
     by_cases c3:(1:UInt32)≤birth
     · rw[decide_eq_true c3,decide_eq_false (λc4=>c2 ⟨c3,c4⟩)];rfl
     · rw[decide_eq_false c3];rfl
 · rw[if_neg c1,if_neg c1,ndec (by omega)];rfl
structure PutAt (s:Store) (p:Ptr) (b:List UInt8) (t:Store) (q:Ptr) (j:Nat):Prop where
  ok:OKSt s
  len:b.length=256
  free:freeFrom s.Space 0=some j
  room:s.Disk.Waits.length≠4096
  out:t=⟨⟨s.Disk.Blocks,s.Disk.Waits++ [⟨(j:Int),b⟩]⟩,s.Space.set j 1,s.Epoch,s.Count⟩
  ptr:q=⟨(j:Int),p.Birth,p.Iv,p.Tag,sumOf b⟩
theorem free_high{s:List UInt8}(h:okS s){j:Nat}(hj:s[j]? =some 0):12≤j∧j<256:=by
 have hlt:j<s.length:=(List.getElem?_eq_some_iff.1 hj).1
 rw[h.1]at hlt
 refine⟨?_,hlt⟩
 apply Nat.le_of_not_lt
 intro hc
 have:(s.take 12)[j]? =some 0:=by rw[List.getElem?_take,if_pos hc];exact hj
 have:=h.2.2 0 (List.mem_of_getElem? this)
 cases this
theorem okS_set{s:List UInt8}(h:okS s){j:Nat}(hj:12≤j){v:UInt8}(hv:v≤2):okS (s.set j v):=by
 refine⟨by rw[List.length_set];exact h.1,λb hb=> ?_,λb hb=> ?_⟩
 · rcases List.mem_or_eq_of_mem_set hb with hb|hb
   · exact h.2.1 b hb
   · subst hb;exact hv
 · rw[List.take_set_of_le hj]at hb;exact h.2.2 b hb
theorem PutAt.place{s:Store}{p:Ptr}{b:List UInt8}{t:Store}{q:Ptr}{j:Nat}(h:PutAt s p b t q j):12≤j∧j<256:=free_high h.ok.2.1 (freeFrom_some h.free).2.2
theorem PutAt.okt{s:Store}{p:Ptr}{b:List UInt8}{t:Store}{q:Ptr}{j:Nat}(h:PutAt s p b t q j):OKSt t:=by
 have hp:=h.place
 rw[h.out]
 exact⟨h.ok.1.write (at':=(j:Int)) ⟨by omega,by omega⟩ h.len h.room,okS_set h.ok.2.1 hp.1 (by decide),h.ok.2.2⟩
theorem writeD_ok{d:Disk}(h:OKD d){j:Nat}(hj:j<256){b:List UInt8}(hb:b.length=256):writeD d (j:Int) b=if d.Waits.length=4096 then(noD,9)else(⟨d.Blocks,d.Waits++ [⟨(j:Int),b⟩]⟩,0):=by
 unfold writeD
 rw[if_pos h,if_pos ⟨by omega,by omega⟩]
 by_cases c:d.Waits.length=4096
 · simp[hb,c]
 · simp[hb,c]
theorem put_cases{s:Store}(h:OKSt s)(p:Ptr){b:List UInt8}(hb:b.length=256):
    (store_put s p b=some (noS,noP,9)∧(freeFrom s.Space 0=none∨s.Disk.Waits.length=4096))∨(∃t q j,store_put s p b=some (t,q,0)∧PutAt s p b t q j):=by
  unfold store_put
  rw[space_Take_eq,Option.bind_some]
  unfold takeS
  rw[if_pos h.2.1]
  cases hf:freeFrom s.Space 0 with
  |none=>exact .inl ⟨rfl,.inl rfl⟩
  | some j=>
    have hp:=free_high h.2.1 (freeFrom_some hf).2.2
    dsimp only
    rw[zdec,cond_false,dev_Write_eq h.1.sized (inI64_of ⟨by omega,by omega⟩),Option.bind_some]
    rw[writeD_ok h.1 hp.2 hb]
    by_cases c:s.Disk.Waits.length=4096
    · rw[if_pos c];exact .inl ⟨rfl,.inr c⟩
    · rw[if_neg c]
      dsimp only
      rw[zdec,cond_false,mix_Sum_eq (by omega),Option.bind_some]
      exact .inr ⟨_,_,j,rfl,h,hb,hf,c,rfl,rfl⟩
theorem raw_cases{s:Store}(h:Sized s.Disk)(birth iv tag:UInt32)(b:List UInt8):
 (∃e,store_Raw s birth iv tag b=some (noS,noP,e)∧e≠0∧(OKSt s→birthOk birth→b.length=256→freeFrom s.Space 0=none∨s.Disk.Waits.length=4096))∨(∃t q j,store_Raw s birth iv tag b=some (t,q,0)∧birthOk birth∧PutAt s ⟨0,birth,iv,tag,0⟩ b t q j):=by
 unfold store_Raw
 rw[asked_core h birth 256 [b] (b.length=256) (by rw[asked_loop1];congr 1;by_cases c:b.length=256<;>simp[c]<;>omega),Option.bind_some]
 unfold askErr
 by_cases c1:OKSt s
 · rw [if_pos c1]
   by_cases c2:birthOk birth
   · rw[if_pos c2]
     by_cases c3:b.length=256
     · rw[if_pos c3,zdec,cond_false]
       rcases put_cases c1 ⟨0,birth,iv,tag,0⟩ c3 with⟨h1,h2⟩|⟨t,q,j,h1,h2⟩
       · rw[h1];exact .inl ⟨9,rfl,by omega,λ_ _ _=>h2⟩
       · rw[h1];exact .inr ⟨t,q,j,rfl,c2,h2⟩
     · rw[if_neg c3];exact .inl ⟨3,rfl,by omega,λ_ _ h=>absurd h c3⟩
   · rw[if_neg c2];exact .inl ⟨2,rfl,by omega,λ_ h=>absurd h c2⟩
 · rw[if_neg c1];exact .inl ⟨8,rfl,by omega,λh=>absurd h c1⟩
theorem lay_raw (s:Store)(birth:UInt32)(b:List UInt8):store_Lay s birth b=store_Raw s birth 0 0 b:=by
 unfold store_Lay
 cases store_Raw s birth 0 0 b with
 |none=>rfl
 |some r=>rfl
def more (s:Store):Store:=⟨s.Disk,s.Space,s.Epoch,s.Count+1⟩
theorem raw_err{s:Store}(h:Sized s.Disk)(birth iv tag:UInt32)(b:List UInt8)(hne:askErr s birth (b.length=256)≠0):store_Raw s birth iv tag b=some (noS,noP,askErr s birth (b.length=256)):=by
 unfold store_Raw
 rw[asked_core h birth 256 [b] (b.length=256) (by rw[asked_loop1];congr 1;by_cases c:b.length=256<;>simp[c]<;>omega),Option.bind_some,ndec hne];rfl
def lookS (s:Store)(p:Ptr):List UInt8×Int:=
 if OKSt s∧(isNone p∨okR p)then(if isNone p then([],6)else(if sumOf ((seenB s.Disk).getD p.At.toNat [])=p.Sum then((seenB s.Disk).getD p.At.toNat [],0)else([],130)))else([],8)
theorem seen_mem{d:Disk}(h:OKD d){i:Nat}(hi:i<256):((seenB d).getD i []).length=256:=by
 have hl:=seenB_length h
 rw[List.getD_eq_getElem?_getD,List.getElem?_eq_getElem (by omega),Option.getD_some]
 exact layW_all h.2.2.1 (λw hw=>okW_data (h.2.2.2 w hw)) _ (List.getElem_mem _)
theorem none_dec' (p:Ptr):(decide (p.At=0)&&(decide (p.Birth=(0:UInt32))&&(decide (p.Iv=(0:UInt32))&&(decide (p.Tag=(0:UInt32))&&(decide (p.Sum=(0:UInt32))&&true)))))=decide (isNone p):=none_dec p
theorem store_Look_eq{s:Store}(h:Sized s.Disk)(p:Ptr):store_Look s p=some (lookS s p):=by
 unfold store_Look lookS
 rw[store_Check_eq h,Option.bind_some]
 by_cases c1:OKSt s
 · rw [if_pos c1,zdec,cond_false,ptr_Check_eq',Option.bind_some]
   by_cases c2:isNone p∨okR p
   · rw[if_pos c2,zdec,cond_false,none_dec',if_pos ⟨c1,c2⟩]
     by_cases c3:isNone p
     · rw[if_pos c3,decide_eq_true c3];rfl
     · rw[if_neg c3,decide_eq_false c3,cond_false]
       have hr:=c2.resolve_left c3
       obtain⟨i,hi⟩:=Int.eq_ofNat_of_zero_le (show 0≤p.At by have:=hr.1;omega)
       have hi2:i<256:=by have:=hr.2.1;omega
       have hl:=seenB_length c1.1
       rw[show(Disk.mk s.Disk.Blocks s.Disk.Waits)=s.Disk from rfl,hi,dev_Read_eq c1.1 hi2,Option.bind_some]
       dsimp only
       have hm:=seen_mem c1.1 hi2
       have e:(seenB s.Disk).getD i []=(seenB s.Disk)[i]'(by omega):=by rw[List.getD_eq_getElem?_getD,List.getElem?_eq_getElem (by omega),Option.getD_some]
       rw[Int.toNat_natCast,e]
       rw[e]at hm
       rw[show decide ((0:Int)=0)=true from rfl,cond_true,mix_Sum_eq (by omega),Option.bind_some]
       by_cases c4:sumOf ((seenB s.Disk)[i]'(by omega))=p.Sum
       · rw[if_pos c4,decide_eq_true c4];rfl
       · rw[if_neg c4,decide_eq_false c4];rfl
   · rw[if_neg c2,ndec (by omega),if_neg (λh=>c2 h.2)];rfl
 · rw[if_neg c1,ndec (by omega),if_neg (λh=>c1 h.1)];rfl
end Go.Ow
namespace Go.Ow
theorem forL_tot'{α σ τ:Type}{f:α→σ→Option (σ ⊕ τ)}:∀{l:List α} {s:σ},(∀y s,∃o,f y s=some o)→∃o,forL f l s=some o
  |[],s,_=>⟨_,rfl⟩
  | y::l,s,h=>by
    obtain⟨o,h1⟩:=h y s
    cases o with
    |inl s'=>rw[forL_cons h1];exact forL_tot' h
    |inr e=>rw[forL_stop h1];exact⟨_,rfl⟩
def greatF (n:Nat)(r:Int):Option (Int ⊕ Int):=if r<2000000 then some (.inl (w64 (r+(n:Int))))else some (.inr r)
theorem great_tot{d:Disk}(h:Sized d):∃g,ref09_Great d=some g:=by
  have L1:∀r0,∃t,loop (ref09_Great_l1 d) (r0,0)=some t:=λr0=>by
    rw[loop_each' d.Blocks (λi (r:Int)=>(r,i)) (λb r=>greatF b.length r) (λr=>r) (λi hi r=> ?_) (λr=> ?_) (small_lt h.blocks) r0]
    · obtain⟨o,ho⟩:=forL_tot' (f:=fun(b:List UInt8) (r:Int)=>greatF b.length r) (l:=d.Blocks) (s:=r0) (λy s=>by unfold greatF;split<;>exact⟨_,rfl⟩)
      rw[ho];cases o<;>exact⟨_,rfl⟩
    · unfold ref09_Great_l1 greatF
      rw[cI,if_pos hi]
      by_cases c:r<2000000
      · rw[decide_eq_true c,if_pos c,cond_true,ZW _ hi];rfl
      · rw[decide_eq_false c,if_neg c];rfl
    · unfold ref09_Great_l1
      rw[cI,if_neg (by omega)]
  have L2:∀r0,∃t,loop (ref09_Great_l2 d) (r0,0)=some t:=λr0=>by
    rw[loop_each' d.Waits (λi (r:Int)=>(r,i)) (λb r=>greatF b.Data.length r) (λr=>r) (λi hi r=> ?_) (λr=> ?_) (small_lt h.waits) r0]
    · obtain⟨o,ho⟩:=forL_tot' (f:=fun(b:Write) (r:Int)=>greatF b.Data.length r) (l:=d.Waits) (s:=r0) (λy s=>by unfold greatF;split<;>exact⟨_,rfl⟩)
      rw[ho];cases o<;>exact⟨_,rfl⟩
    · unfold ref09_Great_l2 greatF
      rw[cI,if_pos hi]
      by_cases c:r<2000000
      · rw[decide_eq_true c,if_pos c,cond_true,ZW _ hi];rfl
      · rw[decide_eq_false c,if_neg c];rfl
    · unfold ref09_Great_l2
      rw[cI,if_neg (by omega)]
  unfold ref09_Great
  have key:∃t,(cond (decide (500<(d.Blocks.length:Int))) (some (.inr ())) (cond (decide (500<(d.Waits.length:Int))) (cond (decide ((d.Waits.length:Int)<4096)) (some (.inr ())) (cond (decide (4106<(d.Waits.length:Int))) (some (.inr ())) (some (.inl ())))) (cond (decide (4106<(d.Waits.length:Int))) (some (.inr ())) (some (.inl ())))))=some (t:Unit ⊕ Unit):=by
    generalize decide (500<(d.Blocks.length:Int))=b1
    generalize decide (500<(d.Waits.length:Int))=b2
    generalize decide ((d.Waits.length:Int)<4096)=b3
    generalize decide (4106<(d.Waits.length:Int))=b4
    cases b1<;>cases b2<;>cases b3<;>cases b4<;>exact⟨_,rfl⟩
  obtain⟨t,ht⟩:=key
  rw[ht,Option.bind_some]
  cases t with
  | inl _=>
    obtain⟨t1,h1⟩:=L1 0
    obtain⟨t2,h2⟩:=L2 t1
    simp only[Sum.elim_inl]
    rw[h1,Option.bind_some,h2,Option.bind_some]
    exact⟨_,rfl⟩
  |inr _=>exact⟨_,rfl⟩
theorem great13_tot{s:Store}(h:Sized s.Disk):∃g,ref13_Great s=some g:=by
 obtain⟨g,hg⟩:=great_tot h
 unfold ref13_Great
 rw[show ref09_Great (Disk.mk s.Disk.Blocks s.Disk.Waits)=some g from hg,Option.bind_some]
 cases g<;>exact⟨_,rfl⟩
theorem getD_set{B:List (List UInt8)}{j:Nat}(hj:j<B.length)(b:List UInt8)(i:Nat):(B.set j b).getD i []=if i=j then b else B.getD i []:=by
 rw[List.getD_eq_getElem?_getD,List.getElem?_set]
 by_cases c:i=j
 · subst c;rw[if_pos rfl,if_pos hj,if_pos rfl];rfl
 · rw[if_neg (λe=>c e.symm),if_neg c,List.getD_eq_getElem?_getD]
end Go.Ow
namespace Go.Ow
theorem noP_none:isNone noP:=⟨rfl,rfl,rfl,rfl,rfl⟩
end Go.Ow
namespace Go.Ow
def turned (B:List (List UInt8))(j i:Nat)(by':UInt8):List (List UInt8):=B.set j ((B.getD j []).set i (((B.getD j []).getD i 0)^^^by'))
end Go.Ow
namespace Go.Ow
theorem nbeq{α:Type} [DecidableEq α]{a b:α}(h:a=b):(!decide (a=b))=false:=by rw[decide_eq_true h];rfl
theorem nbne{α:Type} [DecidableEq α]{a b:α}(h:¬a=b):(!decide (a=b))=true:=by rw[decide_eq_false h];rfl
end Go.Ow
