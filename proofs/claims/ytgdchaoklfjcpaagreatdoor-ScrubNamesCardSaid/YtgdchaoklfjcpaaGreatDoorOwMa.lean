import Derived.WalkKit
import Derived.ControlIn
import Derived.CallsIn
import Derived.OrdersIn
import Derived.RangeFuncLeaves
import Derived.Deep.Upon
import Derived.RangeFuncRecord
import GoSem.Dispatch
import GoSem.Machine.Exec
/- rules, proved -/
set_option linter.constructorNameAsVariable false
set_option linter.unusedSimpArgs false
set_option linter.unusedVariables false
namespace Go
theorem TA:type_of% @Nat.eq_of_beq_eq_true:=@Nat.eq_of_beq_eq_true
theorem TB:type_of% @Option.some.inj:=@Option.some.inj
theorem TC:type_of% @List.getElem?_eq_some_iff:=@List.getElem?_eq_some_iff
theorem TD:type_of% @Bool.and_eq_true:=@Bool.and_eq_true
theorem TE:type_of% @List.append_assoc:=@List.append_assoc
theorem TF:type_of% @Nat.le_refl:=@Nat.le_refl
theorem TG:type_of% @List.length_append:=@List.length_append
theorem TH:type_of% @List.length_take:=@List.length_take
theorem TI:type_of% @Nat.le_of_ble_eq_true:=@Nat.le_of_ble_eq_true
theorem TJ:type_of% @if_pos:=@if_pos
theorem TK:type_of% @if_neg:=@if_neg
theorem TL:type_of% @List.getElem?_eq_getElem:=@List.getElem?_eq_getElem
theorem TM:type_of% @Array.length_toList:=@Array.length_toList
theorem TN:type_of% @Nat.mul_le_mul_right:=@Nat.mul_le_mul_right
theorem TO:type_of% @of_decide_eq_true:=@of_decide_eq_true
theorem TP:type_of% @List.flatten_cons:=@List.flatten_cons
theorem TQ:type_of% @Nat.zero_le:=@Nat.zero_le
theorem TR:type_of% @List.mem_append:=@List.mem_append
theorem TS:type_of% @Nat.le_trans:=@Nat.le_trans
theorem TT:type_of% @List.length_eq_zero_iff:=@List.length_eq_zero_iff
theorem TU:type_of% @Nat.add_mul:=@Nat.add_mul
theorem TV:type_of% @Array.getElem?_eq_some_iff:=@Array.getElem?_eq_some_iff
theorem TW:type_of% @List.flatten_append:=@List.flatten_append
theorem TX:type_of% @List.getElem?_take:=@List.getElem?_take
theorem TZ:type_of% @List.take_of_length_le:=@List.take_of_length_le
theorem Ta:type_of% @List.mem_cons:=@List.mem_cons
theorem Tc:type_of% @List.perm_append_comm:=@List.perm_append_comm
theorem Td:type_of% @List.length_drop:=@List.length_drop
theorem Te:type_of% @Nat.zero_add:=@Nat.zero_add
theorem Tf:type_of% @List.toList_toArray:=@List.toList_toArray
theorem Tg:type_of% @Option.bind_some:=@Option.bind_some
theorem Th:type_of% @List.append_nil:=@List.append_nil
theorem Ti:type_of% @List.all_eq_true:=@List.all_eq_true
theorem Tj:type_of% @Nat.lt_of_lt_of_le:=@Nat.lt_of_lt_of_le
theorem Tl:type_of% @List.ext_getElem?:=@List.ext_getElem?
theorem Tm:type_of% @List.size_toArray:=@List.size_toArray
theorem Tn:type_of% @Nat.not_lt_zero:=@Nat.not_lt_zero
theorem Tp:type_of% @List.map_cons:=@List.map_cons
theorem Tq:type_of% @List.mem_of_getElem?:=@List.mem_of_getElem?
theorem Tr:type_of% @Nat.min_eq_left:=@Nat.min_eq_left
theorem Ts:type_of% @List.length_cons:=@List.length_cons
theorem Tt:type_of% @Nat.mod_eq_of_lt:=@Nat.mod_eq_of_lt
theorem Tu:type_of% @BitVec.ofInt_natCast:=@BitVec.ofInt_natCast
theorem Tv:type_of% @List.cons.inj:=@List.cons.inj
theorem Tw:type_of% @BitVec.toNat_ofNat:=@BitVec.toNat_ofNat
theorem Tx:type_of% @List.mem_range:=@List.mem_range
theorem Tz:type_of% @List.getElem?_eq_none:=@List.getElem?_eq_none
theorem T2:type_of% @List.drop_eq_nil_of_le:=@List.drop_eq_nil_of_le
theorem T3:type_of% @List.getElem?_set:=@List.getElem?_set
theorem T4:type_of% @Int.toNat_natCast:=@Int.toNat_natCast
theorem T5:type_of% @Option.bind_eq_some_iff:=@Option.bind_eq_some_iff
theorem T6:type_of% @List.take_left:=@List.take_left
theorem T7:type_of% @List.mem_map:=@List.mem_map
theorem T8:type_of% @Eq.trans:=@Eq.trans
theorem T9:type_of% @Array.getElem?_eq_getElem:=@Array.getElem?_eq_getElem
theorem SA:type_of% @Int.le_refl:=@Int.le_refl
theorem SC:type_of% @Nat.ble_eq_true_of_le:=@Nat.ble_eq_true_of_le
theorem SD:type_of% @Nat.lt_succ_self:=@Nat.lt_succ_self
theorem SE:type_of% @Option.some.injEq:=@Option.some.injEq
theorem SF:type_of% @List.getElem?_drop:=@List.getElem?_drop
theorem SG:type_of% @List.length_replicate:=@List.length_replicate
theorem SH:type_of% @List.getElem?_append_left:=@List.getElem?_append_left
theorem SI:type_of% @Nat.add_zero:=@Nat.add_zero
theorem SJ:type_of% @List.map_append:=@List.map_append
theorem SK:type_of% @List.take_append:=@List.take_append
theorem SL:type_of% @decide_eq_true_eq:=@decide_eq_true_eq
theorem SM:type_of% @List.mapM_cons:=@List.mapM_cons
theorem SN:type_of% @List.getElem?_map:=@List.getElem?_map
theorem SQ:type_of% @Int.eq_ofNat_of_zero_le:=@Int.eq_ofNat_of_zero_le
theorem SR:type_of% @List.nodup_cons:=@List.nodup_cons
theorem SS:type_of% @List.cons.injEq:=@List.cons.injEq
theorem SU:type_of% @List.take_take:=@List.take_take
theorem SV:type_of% @Nat.lt_succ_of_lt:=@Nat.lt_succ_of_lt
theorem SX:type_of% @List.mem_of_mem_take:=@List.mem_of_mem_take
theorem SY:type_of% @Nat.mul_one:=@Nat.mul_one
theorem SZ:type_of% @Nat.lt_or_ge:=@Nat.lt_or_ge
theorem Sa:type_of% @Array.getElem?_toList:=@Array.getElem?_toList
theorem Sb:type_of% @List.mem_map_of_mem:=@List.mem_map_of_mem
theorem Sc:type_of% @List.getElem?_append_right:=@List.getElem?_append_right
theorem Sd:type_of% @List.mem_flatten:=@List.mem_flatten
theorem Se:type_of% @Nat.add_sub_cancel_left:=@Nat.add_sub_cancel_left
theorem Sf:type_of% @List.nodup_append:=@List.nodup_append
theorem Sh:type_of% @Array.getElem?_eq_none:=@Array.getElem?_eq_none
theorem Si:type_of% @Prod.mk.injEq:=@Prod.mk.injEq
theorem Sj:type_of% @Array.getD_eq_getD_getElem?:=@Array.getD_eq_getD_getElem?
theorem Sk:type_of% @List.Perm.refl:=@List.Perm.refl
theorem Sl:type_of% @List.mem_cons_of_mem:=@List.mem_cons_of_mem
theorem Sm:type_of% @Bool.eq_iff_iff:=@Bool.eq_iff_iff
theorem So:type_of% @Sum.elim_inl:=@Sum.elim_inl
theorem Sq:type_of% @Nat.ne_of_lt:=@Nat.ne_of_lt
theorem Sr:type_of% @Array.toList_inj:=@Array.toList_inj
theorem Ss:type_of% @List.drop_eq_getElem_cons:=@List.drop_eq_getElem_cons
theorem St:type_of% @List.map_congr_left:=@List.map_congr_left
theorem Su:type_of% @Nat.add_assoc:=@Nat.add_assoc
theorem Sv:type_of% @List.sublist_append_left:=@List.sublist_append_left
theorem Sw:type_of% @List.Perm.append_left:=@List.Perm.append_left
theorem Sx:type_of% @List.length_set:=@List.length_set
theorem Sy:type_of% @List.nil_append:=@List.nil_append
theorem Sz:type_of% @List.mem_singleton:=@List.mem_singleton
theorem S1:type_of% @List.range'_succ:=@List.range'_succ
theorem S2:type_of% @List.drop_drop:=@List.drop_drop
theorem S4:type_of% @Array.toList_append:=@Array.toList_append
theorem S6:type_of% @Int.natCast_mul:=@Int.natCast_mul
theorem S7:type_of% @Option.map_some:=@Option.map_some
theorem S8:type_of% @Array.getElem_append_left:=@Array.getElem_append_left
theorem S9:type_of% @Array.getElem?_modify:=@Array.getElem?_modify
theorem RB:type_of% @List.cons_append:=@List.cons_append
theorem RD:type_of% @List.mem_of_mem_drop:=@List.mem_of_mem_drop
theorem RE:type_of% @Array.toList_push:=@Array.toList_push
theorem RF:type_of% @List.length_nil:=@List.length_nil
theorem RG:type_of% @cond_true:=@cond_true
theorem RH:type_of% @List.foldl_cons:=@List.foldl_cons
theorem RI:type_of% @List.set_eq_take_append_cons_drop:=@List.set_eq_take_append_cons_drop
theorem RJ:type_of% @Nat.le_succ:=@Nat.le_succ
theorem RK:type_of% @List.map_map:=@List.map_map
theorem RL:type_of% @List.drop_append:=@List.drop_append
theorem RM:type_of% @List.flatten_nil:=@List.flatten_nil
theorem RN:type_of% @List.take_length:=@List.take_length
theorem RO:type_of% @List.take_append_drop:=@List.take_append_drop
theorem RP:type_of% @List.drop_left:=@List.drop_left
theorem RQ:type_of% @List.zip_cons_cons:=@List.zip_cons_cons
theorem RU:type_of% @List.sublist_append_right:=@List.sublist_append_right
theorem RV:type_of% @List.length_map:=@List.length_map
theorem RW:type_of% @Sum.elim_inr:=@Sum.elim_inr
theorem RX:type_of% @Array.size_append:=@Array.size_append
theorem RY:type_of% @List.all_cons:=@List.all_cons
theorem RZ:type_of% @Option.bind_eq_bind:=@Option.bind_eq_bind
theorem Ra:type_of% @Array.getElem?_setIfInBounds:=@Array.getElem?_setIfInBounds
theorem Rb:type_of% @Option.getD_some:=@Option.getD_some
theorem Rc:type_of% @Nat.le_add_right:=@Nat.le_add_right
theorem Re:type_of% @Nat.min_eq_right:=@Nat.min_eq_right
theorem Rf:type_of% @Bool.false_eq_true:=@Bool.false_eq_true
theorem Rh:type_of% @Array.mem_of_getElem?:=@Array.mem_of_getElem?
theorem Ri:type_of% @List.mem_append_right:=@List.mem_append_right
theorem Rj:type_of% @true_and:=@true_and
theorem Rk:type_of% @decide_eq_true:=@decide_eq_true
theorem Rl:type_of% @UInt64.toNat_ofNat':=@UInt64.toNat_ofNat'
theorem Rm:type_of% @List.getElem?_range:=@List.getElem?_range
theorem Ro:type_of% @List.getElem?_cons_succ:=@List.getElem?_cons_succ
theorem Rp:type_of% @UInt8.toNat_ofNat':=@UInt8.toNat_ofNat'
theorem Rq:type_of% @Nat.div_le_self:=@Nat.div_le_self
theorem Rr:type_of% @UInt8.toNat_inj:=@UInt8.toNat_inj
theorem Rs:type_of% @List.Perm.append_right:=@List.Perm.append_right
theorem Rt:type_of% @Int.toNat_zero:=@Int.toNat_zero
theorem Ru:type_of% @UInt32.toNat_inj:=@UInt32.toNat_inj
theorem Ry:type_of% @List.getElem_mem:=@List.getElem_mem
end Go
namespace Go.Ow
open Go.RowKit
abbrev Slots:=List (Nat×Value)
def lk:Slots->Nat->Option Value
 |[],_=>none
 |(k,v)::r,i=>bif Nat.beq k i then some v else lk r i
abbrev Heaplet:=Nat->Nat->Option Value
def Hle (H a:Heaplet):Prop:=∀b o v,H b o=some v->a b o=some v
theorem Rz (H:Heaplet):Hle H H:=λ_ _ _ h=>h
theorem Hle.trans{A B C:Heaplet}(h:Hle A B)(k:Hle B C):Hle A C:=λb o v e=>k b o v<|h b o v e
def Agrees (H:Heaplet)(w:World):Prop:=∀b o v,H b o=some v->w.cell? ⟨b,o,none⟩=some v
theorem Agrees.le{H a:Heaplet}{w:World}(h:Agrees a w)(k:Hle H a):Agrees H w:=λb o v e=>h b o v<|k b o v e
abbrev Own:=List (Nat×Obj)
def ids (K:Own):List Nat:=K.map (·.1)
structure Kept (S:List Nat) (w0 w:World):Prop where
  os:w.os=w0.os
  tape:w.tape=w0.tape
  output:w.output=w0.output
  size:w0.heap.size<=w.heap.size
  drawn:w0.drawn<=w.drawn
  block:∀k,k<w0.heap.size->k∉S->w.heap[k]? =w0.heap[k]?
theorem PO (S:List Nat)(w:World):Kept S w w:=⟨rfl,rfl,rfl,TF _,TF _,λ_ _ _=>rfl⟩
theorem Kept.below{w0 w:World}(h:Kept [] w0 w):Below w0.heap.size w0 w:=
 ⟨h.os,h.tape,h.output,h.size,λk a=>h.block k a<|by simp⟩
structure Cx where
  P:Program
  r:Option Nat
  n:Nat
  w0:World
  H0:Heaplet
  S:List Nat
  ds:List Deferred
structure OwnOk (H:Heaplet) (own:Own) (w:World):Prop where
  here:∀p∈own,w.heap[p.1]? =some p.2
  nodup:(ids own).Nodup
  apart:∀p∈own,∀o,H p.1 o=none
def FrOk (n:Nat)(f:Nat×Nat):Prop:=f.2=0\/n<=f.1
structure Mem (w0:World) (H0:Heaplet) (S:List Nat) (own:Own) (H:Heaplet) (w:World):Prop where
  agr:Agrees H w
  ok:OwnOk H own w
  kept:Kept S w0 w
  fresh:∀p∈own,p.1∈S\/w0.heap.size<=p.1
  le:Hle H0 H
  grow:∀b o,b<w0.heap.size/\b∉S->H b o=H0 b o
  soft:∀b o v,H0 b o=none->H b o=some v->∃cur t fr,w.heap[b]? =some (.cells cur t fr)/\FrOk cur.size fr
theorem PF{w:World}{H:Heaplet}:∀b o v,H b o=none->H b o=some v->∃cur t f,w.heap[b]? =some (.cells cur t f)/\FrOk cur.size f:=λb o v h0 h=>by rw[h0]at h;cases h
structure Holds (x:Cx) (l:Slots) (own:List Own) (H:Heaplet) (a:Act) (w:World):Prop where
  size:a.tmps.size=x.n
  ds:a.defers=x.ds
  slots:∀i v,lk l i=some v->(a.tmps[i]?).getD undef=v
  mem:Mem x.w0 x.H0 x.S own.flatten H w
def Fw (r:Option Nat):Fence:={fn:=λ_=>True,depth:=none,alive:=false,round:=r}
def JN (x:Cx)(K:Act->World->Prop)(l:Slots)(own:List Own)(H:Heaplet):Prop:=∀a w,Holds x l own H a w->K a w
def JC (x:Cx)(c:Code)(Q:Exit->Act->World->Prop)(l:Slots)(own:List Own)(H:Heaplet):Prop:=
 ∀a w,Holds x l own H a w->c.wpIn (Fw x.r) 0 x.P Q a w
def wpLs (P:Program)(r:Option Nat)(ops:Array Oper)(Q:Exit->Act->World->Prop):List Oper->Act->World->Prop
 |[],a,w=>Q .normal a w
 |o::rest,a,w=>if Region.wanted o (yielded ops a.tmps)then o.wpIn (Fw r) 0 P a w (wpLs P r ops Q rest) Q else wpLs P r ops Q rest (a.put o.dst undef) w
def JL (x:Cx)(ops:Array Oper)(Q:Exit->Act->World->Prop)(rest:List Oper)(l:Slots)(own:List Own)(H:Heaplet):Prop:=
 ∀a w,Holds x l own H a w->wpLs x.P x.r ops Q rest a w
theorem ZGM{P:Program}{r:Option Nat}{ops:Array Oper}{Q:Exit->Act->World->Prop}:∀(rest:List Oper) (k:Nat) (a:Act) (w:World),
    (∀j,rest[j]? =ops[k+j]?)->wpLs P r ops Q rest a w->wpOpsIn (Fw r) 0 P ops Q (List.range' k rest.length) a w
  |[],k,a,w,_,h=>by simpa[wpOpsIn,List.range',wpLs]using h
  | o ::rest,k,a,w,c,h=>by
    have h0:ops[k]? =some o:=(by simpa using(c 0).symm);have i:=λa w=>ZGM (P:=P) (r:=r) (ops:=ops) (Q:=Q) rest (k+1) a w (λj=>by have:=c (j+1);simpa[Su,Nat.add_comm 1 j]using this);simp only[Ts,S1,wpOpsIn,h0];simp only[wpLs]at h;split
    . rename_i b;simp only[b,if_true]at h;exact Oper.wpIn_mono (λa w d=>i a w d) h
    . rename_i b;simp only[b]at h;exact⟨λ_ _=>trivial,i _ _ h⟩
theorem Zj{x:Cx}{id:Nat}{ops:Array Oper}{Q:Exit->Act->World->Prop}{l:Slots}{own:List Own}{H:Heaplet}
 (h:JL x ops Q ops.toList l own H):JC x (.region id ops false) Q l own H:=λa w b=>by
 refine wpIn_region ?_;have:=ZGM (P:=x.P) (r:=x.r) (ops:=ops) (Q:=Q) ops.toList 0 a w (λj=>by simp) (h a w b);rw[List.range_eq_range'];simpa using this
theorem JL.nil{x:Cx}{ops:Array Oper}{Q:Exit->Act->World->Prop}{l:Slots}{own:List Own}{H:Heaplet}
 (h:JN x (Q .normal) l own H):JL x ops Q [] l own H:=λa w b=>h a w b
section control
variable{x:Cx}{Q:Exit->Act->World->Prop}{l:Slots}{own:List Own}{H:Heaplet}
theorem Y0{c d:Code}(h:JC x c (Exit.then (d.wpIn (Fw x.r) 0 x.P Q) Q) l own H):JC x (.seq c d) Q l own H:=
 λa w b=>wpIn_seq<|h a w b
theorem JC.skip (h:JN x (Q .normal) l own H):JC x .skip Q l own H:=λa w b=>wpIn_skip<|h a w b
theorem ZAf{id:Nat}(h:JN x (Q<|.exit id) l own H):JC x (.exit id) Q l own H:=λa w b=>wpIn_exit<|h a w b
theorem BX (h:JN x (Q .ret) l own H):JC x .ret Q l own H:=λa w b=>wpIn_ret<|h a w b
theorem JC.block{id:Nat}{c:Code}(h:JC x c (Exit.inBlock id Q) l own H):JC x (.block id c) Q l own H:=λa w b=>wpIn_block<|h a w b
theorem Z9{d:Code}{a:Exit->Act->World->Prop}(h:JC x d Q l own H):JN x (Exit.then (d.wpIn (Fw x.r) 0 x.P Q) a .normal) l own H:=h
theorem Kb{id:Nat}(h:JN x (Q .normal) l own H):JN x (Exit.inBlock id Q<|.exit id) l own H:=λa w b=>by
 show(if id=id then Q .normal a w else Q (.exit id) a w);rw[TJ rfl];exact h a w b
theorem BU{id id':Nat}(b:Nat.beq id' id=false)(h:JN x (Q<|.exit id') l own H):JN x (Exit.inBlock id Q<|.exit id') l own H:=λa w c=>by
 show(if id'=id then Q .normal a w else Q (.exit id') a w);rw[TK (by intro e;subst e;simp at b)];exact h a w c
def evo (l:Slots):Operand->Option Value
 | .tmp t=>lk l t
 | .const v=>some v
 | .global g=>some (.pointer<|some ⟨g,0,none⟩)
 | .func f=>some<|.func (.func f) #[] #[]
theorem ZM{x:Cx}{a:Act}{w:World}(b:Holds x l own H a w){o:Operand}{v:Value}(h:evo l o=some v):a.eval o=v:=by
 rcases o with t|u|g|f
 . have:=b.slots t v h;simpa[Act.eval,Sj]using this
 . simp[evo]at h;simpa[Act.eval]using h
 . simp[evo]at h;simpa[Act.eval]using h
 . simp[evo]at h;simpa[Act.eval]using h
theorem Holds.set{t:Tmp}{v:Value}{a:Act}{w:World}(b:Holds x l own H a w)(c:lk l t=some v){u:Value}(e:u=v):Holds x ((t,u)::l) own H a w:=
  ⟨b.size,b.ds,λi z h=>by
    simp only[lk]at h;cases hb:Nat.beq t i with
    | true=>
      have:t=i:=TA hb;subst this;rw[hb]at h;simp at h;subst h;subst e;exact b.slots t _ c
    |false=>rw[hb]at h;exact b.slots i z h,b.mem⟩
theorem JC.cond{c:Tmp}{d e:Code}{t:Bool}(b:lk l c=some (.bool t))(ht:t=true->JC x d Q ((c,.bool true)::l) own H)(g:t=false->JC x e Q ((c,.bool false)::l) own H):
 JC x (.cond (.tmp c) d e) Q l own H:=λa w f=>
 wpIn_cond_split (t:=t) (ZM f (o:=.tmp c) b) (λh=>ht h a w<|f.set b<|by rw[h]) λh=>g h a w<|f.set b<|by rw[h]
theorem ZQi{c:Tmp}{d e:Code}{p:Prop} [Decidable p](a:lk l c=some (.bool<|decide p))(ht:p->JC x d Q ((c,.bool true)::l) own H)(b:¬p->JC x e Q ((c,.bool false)::l) own H):
 JC x (.cond (.tmp c) d e) Q l own H:=JC.cond a (λh=>ht<|TO h) λh=>b<|of_decide_eq_false h
theorem ZH7{c:Operand}{d e:Code}(b:evo l c=some (.bool true))(ht:JC x d Q l own H):JC x (.cond c d e) Q l own H:=
 λa w h=>wpIn_cond_true (ZM h b)<|ht a w h
theorem ZDp{c:Operand}{d e:Code}(b:evo l c=some (.bool false))(ht:JC x e Q l own H):JC x (.cond c d e) Q l own H:=
 λa w h=>wpIn_cond_false (ZM h b)<|ht a w h
theorem Wa{K:Act->World->Prop}(h:JN x (Q .ret) l own H):JN x (Exit.then K Q .ret) l own H:=h
theorem U0{K:Act->World->Prop}{id:Nat}(h:JN x (Q<|.exit id) l own H):JN x (Exit.then K Q<|.exit id) l own H:=h
theorem KH{id:Nat}(h:JN x (Q .normal) l own H):JN x (Exit.inBlock id Q .normal) l own H:=h
theorem ZKb{id:Nat}(h:JN x (Q .ret) l own H):JN x (Exit.inBlock id Q .ret) l own H:=h
def Sub:Slots->Slots->Prop
 |[],_=>True
 |(k,v)::r,l=>lk l k=some v/\Sub r l
theorem ZJs{l l':Slots}(h:Sub l' l):∀i v,lk l' i=some v->lk l i=some v:=by
  induction l' with
  |nil=>intro i v e;simp[lk]at e
  | cons p r a=>
    obtain⟨k,u⟩:=p;intro i v e;simp only[lk]at e;cases hb:Nat.beq k i with
    | true=>
      rw[hb]at e;simp at e;have:k=i:=TA hb;subst this;subst e;exact h.1
    |false=>rw[hb]at e;exact a h.2 i v e
theorem Holds.sub{l':Slots}{a:Act}{w:World}(b:Holds x l own H a w)(h:Sub l' l):Holds x l' own H a w:=
 ⟨b.size,b.ds,λi v e=>b.slots i v<|ZJs h i v e,b.mem⟩
theorem JC.sub{c:Code}{l':Slots}(h:Sub l' l)(b:JC x c Q l' own H):JC x c Q l own H:=λa w d=>b a w<|d.sub h
theorem V1{ι:Type}{c:Code}(L:ι->Slots)(O:ι->List Own)(G:ι->Heaplet)(I:ι->Prop)(m:ι->Nat)(g:ι)(h0:I g)
    (F:Sub (L g) l)(K:O g=own)(M:G g=H)
    (round:∀i,I i->JC x c (Exit.then (λa w=>∃j,I j/\m j<m i/\Holds x (L j) (O j) (G j) a w) Q) (L i) (O i) (G i)):
    JC x (.loop c) Q l own H:=λa w N=>by
  subst K;subst M;let J:Act->World->ι->Prop:=λa w i=>I i/\Holds x (L i) (O i) (G i) a w;have B:∀k i a w,m i=k->J a w i->∀(b:Frame) (q:List Item) (cs:List Frame),b.roundOf=(Fw x.r).round->(Fw x.r).fn b.fn->(Fw x.r).room (cs.length+1+0)->
      ∃e z A,Q e z A/\ArrivesIn (Machine.fenced x.P<|Fw x.r) x.P (lone (b.atR a (.code c:: .inLoop c::q)) cs w) b q cs e z A:=by
    intro k;induction k using Nat.strongRecOn with
    | _ k R=>
      intro i a w S E b q cs o hb t;obtain⟨e,d,f,p,h⟩:=round i E.1 a w E.2 b (.inLoop c::q) cs o hb t;cases e with
      | normal=>
        obtain⟨j,T,C,D⟩:=p;obtain⟨u,v,y,s,n⟩:=R (m j) (S▸C) j d f rfl ⟨T,D⟩ b q cs o hb t;exact⟨u,v,y,s,.of_steps (StepsIn.trans h<|.one (fenced_calm hb t rfl) stepR_inLoop) n⟩
      |exit id=>exact⟨_,d,f,p,.pass (x:=.inLoop c) rfl (λ_ _=>.inl<|by simp) h⟩
      |goto l=>exact⟨_,d,f,p,.pass (x:=.inLoop c) rfl (λ_ _=>.inl<|by simp) h⟩
      |ret=>exact⟨_,d,f,p,.pass (x:=.inLoop c) rfl (λ_ _=>.inl<|by simp) h⟩
      |panic U=>exact⟨_,d,f,p,.pass (x:=.inLoop c) rfl (λ_ _=>.inl<|by simp) h⟩
      |outgrown=>exact⟨_,d,f,p,.pass (x:=.inLoop c) rfl (λ_ _=>.inl<|by simp) h⟩
  intro b q cs o hb t;obtain⟨e,z,A,p,h⟩:=B _ g a w rfl ⟨h0,N.sub F⟩ b q cs o hb t;exact⟨e,z,A,p,.of_steps (.one (fenced_calm hb t rfl) stepR_loop) h⟩
theorem VI{ι:Type}{L:ι->Slots}{O:ι->List Own}{G:ι->Heaplet}{I:ι->Prop}{m:ι->Nat}{i:ι}(j:ι)
 (h:I j)(b:m j<m i)(c:Sub (L j) l)(d:O j=own)(e:G j=H):
 JN x (Exit.then (λa w=>∃j,I j/\m j<m i/\Holds x (L j) (O j) (G j) a w) Q .normal) l own H:=
 λa w f=>⟨j,h,b,by rw[d,e];exact f.sub c⟩
end control
def Does (P:Program)(f:FuncId)(args:Array Value)(K:List Own)(H:Heaplet)(R:Value->List Own->Heaplet->Prop):Prop:=
 ∀w,Agrees H w->OwnOk H K.flatten w->CallsIn Fence.wide 0 P f args w λe b=>∃v K' a,e=.returned v/\R v K' a/\Mem w H (ids K.flatten) K'.flatten a b
theorem Does.mono{P:Program}{f:FuncId}{args:Array Value}{K:List Own}{H:Heaplet}{R R':Value->List Own->Heaplet->Prop}(h:Does P f args K H R)
 (b:∀v K' a,R v K' a->R' v K' a):Does P f args K H R':=λw c d=>
 CallsIn.mono (h w c d) λe k ⟨v,K',a,g,i,j⟩=>⟨v,K',a,g,b _ _ _ i,j⟩
def Ret (x:Cx)(fn:Func)(R:Value->List Own->Heaplet->Prop):Exit->Act->World->Prop:=
 bodyPost x.P fn λe w=>∃v K' H,e=.returned v/\R v K' H/\Mem x.w0 x.H0 x.S K'.flatten H w
theorem ZC8 (vs:List Value):∀(k i:Nat) (v:Value),lk ((List.range' k vs.length).zip vs) i=some v->k<=i/\vs[i-k]? =some v:=by
  induction vs with
  |nil=>intro k i v h;simp[lk]at h
  | cons u vs a=>
    intro k i v h;simp only[Ts,S1,RQ,lk]at h;cases hb:Nat.beq k i with
    | true=>
      have e:k=i:=TA hb;subst e;rw[hb]at h;simp at h;subst h;simp
    | false=>
      have n:k≠i:=(by intro e;subst e;simp at hb);rw[hb]at h;obtain⟨h1,h2⟩:=a (k+1) i v h;refine⟨by omega,?_⟩;rw[show i-k=(i-(k+1))+1 by omega];simpa using h2
theorem Does.enter{P:Program}{f:FuncId}{fn:Func}{c:Code}{vs:List Value}{K:List Own}{H:Heaplet}{R:Value->List Own->Heaplet->Prop}{l:Slots}
 (b:P.funcs[f]? =some fn)(hb:fn.body=some c)(hn:Nat.ble vs.length fn.ntmps=true)(d:Sub l ((List.range' 0 vs.length).zip vs))
 (h:∀w,JC {P:=P,r:=none,n:=fn.ntmps,w0:=w,H0:=H,S:=ids K.flatten,ds:=[]} c
  (Ret {P:=P,r:=none,n:=fn.ntmps,w0:=w,H0:=H,S:=ids K.flatten,ds:=[]} fn R) l K H):Does P f vs.toArray K H R:=λw g j=>by
 have hn:=TI hn;refine callsIn_of_wp b hb trivial ?_;refine h w _ w ⟨?_,rfl,?_,⟨g,j,PO _ _,λp k=>.inl<|Sb k,Rz _,λ_ _ _=>rfl,PF⟩⟩
 . simp;omega
 . intro i v e;obtain⟨_,h2⟩:=ZC8 vs 0 i v<|ZJs d i v e;have hi:i<vs.length:=by
    rcases SZ i vs.length with a|a
    . exact a
    . simp[Tz a]at h2
   have h3:vs[i]=v:=(by simpa[TL hi]using h2);have:i<(vs.toArray++Array.replicate (fn.ntmps-vs.toArray.size) undef).size:=(by simp;omega);simp only[Sj,T9 this,Rb];rw[S8<|by simpa using hi];simpa using h3
theorem Jd{x:Cx}{fn:Func}{R:Value->List Own->Heaplet->Prop}{l:Slots}{own:List Own}{H:Heaplet}{e:Exit}(d:e=.ret\/e=.normal)
 (f:fn.results= #[])(g:x.ds= [])(h:R (.tuple #[]) own H):JN x (Ret x fn R e) l own H:=λa w b=>by
 have:bodyPost x.P fn (λe i=>∃v K' c,e=.returned v/\R v K' c/\Mem x.w0 x.H0 x.S K'.flatten c i) .ret a w:=
  ⟨b.ds.trans g,_,by simp[results,f,go_sem],_,own,H,rfl,h,b.mem⟩
 rcases d with rfl|rfl<;>exact this
variable{x:Cx}{ops:Array Oper}{Q:Exit->Act->World->Prop}{rest:List Oper}{l:Slots}{own:List Own}{H:Heaplet}
theorem Holds.put{a:Act}{w:World}(b:Holds x l own H a w){d:Nat}(f:Nat.blt d x.n=true)(v:Value):
    Holds x ((d,v)::l) own H (a.put (some d) v) w:=by
  have c:d<a.tmps.size:=by rw[b.size];exact Tj (SD d)<|TI f
  refine⟨by simpa[Act.put]using b.size,by simpa[Act.put]using b.ds,λi u e=> ?_,b.mem⟩;simp only[lk]at e;cases hb:Nat.beq d i with
  | true=>
    have:d=i:=TA hb;subst this;rw[hb]at e;simp at e;subst e;simp[Act.put,Ra,c]
  | false=>
    have:d≠i:=(by intro h;subst h;simp at hb);rw[hb]at e;have:=b.slots i u e;simp[Act.put,Ra, *]
def Stab (so:List Own)(sH:Heaplet)(w:World):Prop:=Agrees sH w/\∀p∈so.flatten,w.heap[p.1]? =some p.2
theorem Mem.stab{w0:World}{H0:Heaplet}{S:List Nat}{w:World}(h:Mem w0 H0 S own.flatten H w):Stab own H w:=⟨h.agr,h.ok.here⟩
def Runs (x:Cx)(op:Op)(ty:TypeId)(l:Slots)(own:List Own)(H:Heaplet)(v:Value):Prop:=
  ∀ (ρ:Operand->Value) (w:World) (d:Option Tmp) (pos:String) (aft:Array Edge) (g:Option (Nat×Bool)),(∀o u,evo l o=some u->ρ o=u)->
    Stab own H w->(execOp ρ ⟨d,op,ty,pos,aft,g⟩).run x.P w=.ok (.value v) w
theorem ZO{ops:Array Oper}{d:Option Tmp}{op:Op}{ty:TypeId}{pos:String}{aft:Array Edge}{a:Act}:
 Region.wanted ⟨d,op,ty,pos,aft,none⟩ (yielded ops a.tmps)=true:=rfl
def noDefer:Op->Bool
 | .defer _=>false
 |_=>true
theorem ZV{ro:Option Nat}{ρ:Operand->Value}{o:Oper}(h:noDefer o.op=true):o.semAt ro ρ=execOp ρ o:=
 Oper.semAt_eq ro ρ o λc e=>by rw[e]at h;cases h
theorem ZA{op:Op}{ty:TypeId}{d:Nat}{pos:String}{aft:Array Edge}{v:Value}(c:Nat.blt d x.n=true)(hn:noDefer op=true)
 (f:Runs x op ty l own H v)(h:JL x ops Q rest ((d,v)::l) own H):JL x ops Q (⟨some d,op,ty,pos,aft,none⟩::rest) l own H:=λa w b=>by
 simp only[wpLs,ZO,if_true];refine⟨λ_ _=>trivial,?_⟩;rw[ZV hn,f a.eval w _ _ _ _ (λo u e=>ZM b e) b.mem.stab];exact h _ _<|b.put c v
theorem ZGK{d:Option Tmp}{op:Op}{ty:TypeId}{pos:String}{aft:Array Edge}{j t:Nat}{b:Bool}{o:Oper}(e:ops[j]? =some o)(ht:o.dst=some t)(hb:lk l t=some (.bool b))
 (h:JL x ops Q (⟨d,op,ty,pos,aft,none⟩::rest) l own H):JL x ops Q (⟨d,op,ty,pos,aft,some (j,b)⟩::rest) l own H:=λa w c=>by
 have f:Region.wanted ⟨d,op,ty,pos,aft,some (j,b)⟩ (yielded ops a.tmps)=true:=by
  simp only[Region.wanted,yielded,e,Tg,ht];have:=c.slots t _ hb;cases hs:a.tmps[t]? with
  |none=>simp[hs,undef]at this
  |some u=>simp[hs]at this;simp[this]
 have:=h a w c;simp only[wpLs,f,if_true];simp only[wpLs]at this;rw[TJ<|by rfl]at this;exact this
theorem ZNI{d:Nat}{op:Op}{ty:TypeId}{pos:String}{aft:Array Edge}{j t:Nat}{b f:Bool}{o:Oper}(i:ops[j]? =some o)(ht:o.dst=some t)(hb:lk l t=some (.bool f))(c:(f==b)=false)
 (e:Nat.blt d x.n=true)
 (h:JL x ops Q rest ((d,undef)::l) own H):JL x ops Q (⟨some d,op,ty,pos,aft,some (j,b)⟩::rest) l own H:=λa w g=>by
 have k:Region.wanted ⟨some d,op,ty,pos,aft,some (j,b)⟩ (yielded ops a.tmps)=false:=by
  simp only[Region.wanted,yielded,i,Tg,ht];have:=g.slots t _ hb;cases hs:a.tmps[t]? with
  |none=>simp[hs,undef]at this
  |some u=>simp[hs]at this;subst this;simpa using c
 simp only[wpLs,k];have:=h _ _<|g.put e undef;simpa using this
theorem ZN8{d:Nat}{op:Op}{ty:TypeId}{pos:String}{aft:Array Edge}{j t:Nat}{b:Bool}{o:Oper}(f:ops[j]? =some o)(ht:o.dst=some t)(hb:lk l t=some undef)
 (c:Nat.blt d x.n=true)
 (h:JL x ops Q rest ((d,undef)::l) own H):JL x ops Q (⟨some d,op,ty,pos,aft,some (j,b)⟩::rest) l own H:=λa w e=>by
 have g:Region.wanted ⟨some d,op,ty,pos,aft,some (j,b)⟩ (yielded ops a.tmps)=false:=by
  simp only[Region.wanted,yielded,f,Tg,ht];have:=e.slots t _ hb;cases hs:a.tmps[t]? with
  |none=>simp
  |some u=>simp[hs]at this;subst this;simp[undef]
 simp only[wpLs,g];have:=h _ _<|e.put c undef;simpa using this
theorem ZEd{t:Nat}{b:Bool}(hb:lk l t=some (.bool b))(ht:b=true->JL x ops Q rest ((t,.bool true)::l) own H)
    (f:b=false->JL x ops Q rest ((t,.bool false)::l) own H):JL x ops Q rest l own H:=λa w d=>by
  have k:∀c:Bool,b=c->Holds x ((t,.bool c)::l) own H a w:=λc g=>⟨d.size,d.ds,λi v e=>by
    simp only[lk]at e;cases h:Nat.beq t i with
    | true=>
      have:t=i:=TA h;subst this;rw[h]at e;simp at e;subst e;subst g;exact d.slots t _ hb
    |false=>rw[h]at e;exact d.slots i v e,d.mem⟩
  cases b with
  |true=>exact ht rfl a w (k true rfl)
  |false=>exact f rfl a w<|k false rfl
section compute
variable{ty:TypeId}{d:Nat}{pos:String}{aft:Array Edge}{v:Value}
theorem Qo{o:Operand}(h1:evo l o=some v)(b:Nat.blt d x.n=true)(h:JL x ops Q rest ((d,v)::l) own H):
 JL x ops Q (⟨some d,.move o,ty,pos,aft,none⟩::rest) l own H:=
 ZA b rfl (λρ w _ _ _ _ a c=>by simp[execOp,a _ _ h1,go_sem]) h
theorem Yp{o:Operand}(h1:evo l o=some v)(b:Nat.blt d x.n=true)(h:JL x ops Q rest ((d,v)::l) own H):
 JL x ops Q (⟨some d,.assign o,ty,pos,aft,none⟩::rest) l own H:=
 ZA b rfl (λρ w _ _ _ _ a c=>by simp[execOp,a _ _ h1,go_sem]) h
theorem ZNG{p:Operand}{b:Bool}{t:TypeId}(h1:evo l p=some (.bool b))(c:Nat.blt d x.n=true)(h:JL x ops Q rest ((d,.bool (!b))::l) own H):
 JL x ops Q (⟨some d,.unOp .not t p,ty,pos,aft,none⟩::rest) l own H:=
 ZA c rfl (λρ w _ _ _ _ a e=>by simp[execOp,a _ _ h1,Op.unary,go_sem]) h
theorem ZN7{p q:Operand}{k:IntKind}{m n:Int}{t u:TypeId}(h1:evo l p=some (.int k m))(h2:evo l q=some (.int k n))(hb:k.wrap (m-n)=m-n)(b:Nat.blt d x.n=true)
 (h:JL x ops Q rest ((d,.int k (m-n))::l) own H):JL x ops Q (⟨some d,.binOp .sub t p q u,ty,pos,aft,none⟩::rest) l own H:=
 ZA b rfl (λρ w _ _ _ _ a c=>by simp[execOp,a _ _ h1,a _ _ h2,eqGuard,binOp,Op.intArith,hb,go_sem]) h
theorem ZTl{p q:Operand}{k:IntKind}{m n:Int}{t u:TypeId}(h1:evo l p=some (.int k m))(h2:evo l q=some (.int k n))(b:Nat.blt d x.n=true)
 (h:JL x ops Q rest ((d,.bool<|decide (n<=m))::l) own H):JL x ops Q (⟨some d,.binOp .geq t p q u,ty,pos,aft,none⟩::rest) l own H:=
 ZA b rfl (λρ w _ _ _ _ a c=>by simp[execOp,a _ _ h1,a _ _ h2,eqGuard,binOp,Op.intCmp,go_sem]) h
theorem JL.len{p:Operand}{ao:Option Addr}{n c:Nat}{t e:TypeId}(b:x.P.underlying t=some (.slice e))(h1:evo l p=some (.slice ao n c))(f:Nat.blt d x.n=true)
 (h:JL x ops Q rest ((d,.int .i64 n)::l) own H):JL x ops Q (⟨some d,.call ⟨.builtin .len,#[p],#[t]⟩,ty,pos,aft,none⟩::rest) l own H:=
 ZA f rfl (λρ w _ _ _ _ a g=>by simp[execOp,resolve,invoke,a _ _ h1,run_underlying b,go_sem,Builtin.len_,goInt]) h
theorem ZSG{fn:Go.Fn}{fs cs:Array Operand}{vf vc:Array Value}(h1:fs.toList.mapM (evo l)=some vf.toList)(h2:cs.toList.mapM (evo l)=some vc.toList)(f:Nat.blt d x.n=true)
    (h:JL x ops Q rest ((d,.func fn vf vc)::l) own H):JL x ops Q (⟨some d,.makeFunc fn fs cs,ty,pos,aft,none⟩::rest) l own H:=
  ZA f rfl (λρ w _ _ _ _ c g=>by
    have k:∀(os:List Operand) (vs:List Value),os.mapM (evo l)=some vs->os.map ρ=vs:=by
      intro os;induction os with
      |nil=>intro vs e;simp at e;simp[e]
      | cons o os i=>
        intro vs e;simp only[SM]at e;cases b:evo l o with
        |none=>simp[b]at e
        | some v=>
          cases a:os.mapM (evo l)with
          |none=>simp[b,a]at e
          |some us=>simp[b,a]at e;subst e;simp[c _ _ b,i us a]
    have e1:fs.map ρ=vf:=(by rw[<-Sr];simpa using k _ _ h1);have e2:cs.map ρ=vc:=(by rw[<-Sr];simpa using k _ _ h2);simp[execOp,Instr.makeFunc,e1,e2,go_sem]) h
end compute
variable{x:Cx}{ops:Array Oper}{Q:Exit->Act->World->Prop}{rest:List Oper}{l:Slots}{own:List Own}{H:Heaplet}
theorem Kept.trans{S d:List Nat}{a b c:World}(h:Kept S a b)(k:Kept d b c)(hs:∀i∈d,i∈S\/a.heap.size<=i):Kept S a c:=
 ⟨k.os.trans h.os,k.tape.trans h.tape,k.output.trans h.output,TS h.size k.size,TS h.drawn k.drawn,λi hi hn=>by
  refine(k.block i (Tj hi h.size) ?_).trans<|h.block i hi hn;intro f;rcases hs i f with e|e
  . exact hn e
  . omega⟩
theorem XJ{α:Type}:∀{own:List (List α)} {i:Nat} {seg:List α},own[i]? =some seg->own.flatten.Perm (seg++(own.eraseIdx i).flatten)
  |[],_,_,h=>by simp at h
  |s::own,0,seg,h=>by simp at h;subst h;simp
  | s::own,i+1,seg,h=>by
    simp at h;have:=XJ h;simp only[TP,List.eraseIdx_cons_succ];refine(this.append_left s).trans ?_;rw[<-TE,<-TE];exact List.perm_append_comm.append_right _
theorem XZ{α:Type}:∀{own:List (List α)} {i:Nat} {seg seg':List α},own[i]? =some seg->(own.set i seg').flatten.Perm (seg'++(own.eraseIdx i).flatten)
  |[],_,_,_,h=>by simp at h
  |s::own,0,seg,seg',h=>by simp
  | s::own,i+1,seg,seg',h=>by
    simp at h;have:=XZ (seg':=seg') h;simp only[List.set_cons_succ,TP,List.eraseIdx_cons_succ];refine(this.append_left s).trans ?_;rw[<-TE,<-TE];exact List.perm_append_comm.append_right _
theorem OwnOk.perm{H:Heaplet}{o o':Own}{w:World}(h:OwnOk H o w)(p:o.Perm o'):OwnOk H o' w:=
 ⟨λq a=>h.here q<|p.mem_iff.2 a,(p.map _).nodup_iff.1 h.nodup,λq a=>h.apart q<|p.mem_iff.2 a⟩
theorem OwnOk.left{H:Heaplet}{o o':Own}{w:World}(h:OwnOk H (o++o') w):OwnOk H o w:=
 ⟨λq a=>h.here q (by simp[a]),by have:=h.nodup;simp only[ids,SJ,Sf]at this;exact this.1,λq a=>h.apart q<|by simp[a]⟩
theorem PM{H:Heaplet}{o o':Own}{w:World}(h:OwnOk H (o++o') w):OwnOk H o' w:=OwnOk.left<|h.perm Tc
theorem OwnOk.lt{H:Heaplet}{o:Own}{w:World}(h:OwnOk H o w):∀p∈o,p.1<w.heap.size:=λp a=>by
 have:=h.here p a;exact(TV.1 this).1
theorem Mem.go{w0:World}{H0 H A:Heaplet}{S:List Nat}{o K rst K':Own}{w B:World}(j:Mem w0 H0 S o H w)(r:o.Perm (K++rst))
    (h:Mem w H (ids K) K' A B):Mem w0 H0 S (K'++rst) A B:=by
  have d:=j.ok.perm r;have k:=d.lt;have m:(ids K++ids rst).Nodup:=by have:=d.nodup;simpa[ids]using this
  have f:∀p∈rst,p.1∉ids K:=λp c D=>by
    have:=(Sf.1 m).2.2 p.1 D p.1<|Sb c;exact this rfl
  have l:∀i∈ids K,i∈S\/w0.heap.size<=i:=λi hi=>by
    obtain⟨p,g,rfl⟩:=T7.1 hi;exact j.fresh p<|r.mem_iff.2<|by simp[g]
  refine⟨h.agr,⟨?_,?_,?_⟩,j.kept.trans h.kept l,?_,j.le.trans h.le,?_,?_⟩
  . intro p c;rcases TR.1 c with h1|h1
    . exact h.ok.here p h1
    . rw[h.kept.block p.1 (k p<|by simp[h1])<|f p h1];exact d.here p<|by simp[h1]
  . simp only[ids,SJ];refine Sf.2 ⟨h.ok.nodup,(Sf.1 m).2.1,λa E b hb s=> ?_⟩;subst s;obtain⟨p,g,x⟩:=T7.1 E;obtain⟨q,C,y⟩:=T7.1 hb;rcases h.fresh p g with h1|h1
    . exact f q C (by rw[y,<-x];exact h1)
    . have:=k q (by simp[C]);omega
  . intro p c off;rcases TR.1 c with h1|h1
    . exact h.ok.apart p h1 off
    . rw[h.grow p.1 off ⟨k p (by simp[h1]),f p h1⟩];exact d.apart p (by simp[h1]) off
  . intro p c;rcases TR.1 c with h1|h1
    . rcases h.fresh p h1 with h2|h2
      . exact l _ h2
      . exact .inr<|TS j.kept.size h2
    . exact j.fresh p<|r.mem_iff.2<|by simp[h1]
  . intro b off hb;rw[h.grow b off ⟨Tj hb.1 j.kept.size,λhi=>(l b hi).elim hb.2 (by omega)⟩];exact j.grow b off hb
  . intro b off v h0 h1;cases n:H b off with
    |none=>exact h.soft b off v n h1
    | some u=>
      obtain⟨cur,t,F,e,z⟩:=j.soft b off u h0 n;have hb:=(TV.1 e).1;refine⟨cur,t,F,?_,z⟩;rw[h.kept.block b hb λhi=> ?_]
      . exact e
      . obtain⟨p,g,rfl⟩:=T7.1 hi;rw[d.apart p (by simp[g]) off]at n;cases n
theorem Mem.perm{w0:World}{H0 H:Heaplet}{S:List Nat}{o o':Own}{w:World}(a:Mem w0 H0 S o H w)(b:o.Perm o'):Mem w0 H0 S o' H w:=
 ⟨a.agr,a.ok.perm b,a.kept,λp h=>a.fresh p<|b.mem_iff.2 h,a.le,a.grow,a.soft⟩
theorem Mem.go0{w0:World}{H0 H a:Heaplet}{S:List Nat}{own K':List Own}{w b:World}(c:Mem w0 H0 S own.flatten H w)(h:Mem w H [] K'.flatten a b):
 Mem w0 H0 S (K'++own).flatten a b:=by
 rw[TW];exact c.go (K:=[]) (by simp) h
theorem Mem.go1{w0:World}{H0 H a:Heaplet}{S:List Nat}{own:List Own}{K K':Own}{i:Nat}{w b:World}(c:Mem w0 H0 S own.flatten H w)(hi:own[i]? =some K)
 (h:Mem w H (ids K) K' a b):Mem w0 H0 S (own.set i K').flatten a b:=
 (c.go (XJ hi) h).perm (XZ hi).symm
theorem Mem.alloc{w:World}{H:Heaplet}(c:Agrees H w)(o:Obj):Mem w H [] [(w.heap.size,o)] H (w.alloc o):=by
 have d:∀b,b<w.heap.size->(w.alloc o).heap[b]? =w.heap[b]?:=λb hb=>Below.heap_alloc w o b hb;refine⟨λb off v e=> ?_,⟨?_,by simp[ids],λp a off=> ?_⟩,⟨rfl,rfl,rfl,by simp,TF _,λk f _=>d k f⟩,λp a=>.inr (by simp at a;simp[a]),Rz _,λ_ _ _=>rfl,PF⟩
 . have:=c b off v e;rw[World.cell?_of_block (w:=w) (d b<|World.block_lt_of_cell? w _ this)];exact this
 . intro p a;simp at a;subst a;exact heap_alloc_new w o
 . simp at a;subst a;cases h:H w.heap.size off with
   |none=>rfl
   |some v=>have:=World.block_lt_of_cell? w _<|c _ _ _ h;simp at this
theorem Mem.setRow{w:World}{H:Heaplet}{b:Nat}{cur:Array Value}{t:TypeId}{f:Nat×Nat}(i:Agrees H w)(hb:w.heap[b]? =some (.cells cur t f))(a:∀o,H b o=none)(cs:Array Value):
 Mem w H [b] [(b,.cells cs t f)] H (w.setRow b cs):=by
 have j:=(TV.1 hb).1;have m:=(TV.1 hb).2;have c:∀k,k≠b->(w.setRow b cs).heap[k]? =w.heap[k]?:=λk d=>by
  simp only[World.setRow,S9];rw[TK λe=>d e.symm]
 refine⟨λg off v e=> ?_,⟨?_,by simp[ids],λp h off=> ?_⟩,⟨rfl,rfl,rfl,by simp[World.setRow],TF _,λk d hn=>c k<|by simpa using hn⟩,λp h=>.inl (by simp at h;simp[h]),Rz _,λ_ _ _=>rfl,PF⟩
 . have:=i g off v e;rw[World.cell?_of_block (w:=w) (c g λl=>by subst l;rw[a]at e;cases e)];exact this
 . intro p h;simp at h;subst h;simp[World.setRow,S9,hb]
 . simp at h;subst h;exact a off
theorem Zm{w0 w:World}{H0:Heaplet}{S:List Nat}{K:Own}{i:Nat}(h:Mem w0 H0 S own.flatten H w)(hi:own[i]? =some K):OwnOk H K w:=
 OwnOk.left (h.ok.perm<|XJ hi)
@[simp] theorem add_lit (b o n:Nat):(⟨b,o,none⟩:Addr).add n=⟨b,o+n,none⟩:=by unfold Addr.add;split<;>simp_all
def YG (P:Program)(S k:Nat):Option Nat:=
  match P.underlying S with
  | some (.struct fs)=>match fs[k]? with
    | some f=>match P.info? f.type with
      |some i=>if i.size=0 then none else some f.offset
      |none=>none
    |none=>none
  |_=>none
theorem ZKu{P:Program}{S k n:Nat}(h:YG P S k=some n)(b o:Nat)(w:World):
 (Instr.fieldAt S (.pointer<|some ⟨b,o,none⟩) k).run P w=.ok (.pointer<|some ⟨b,o+n,none⟩) w:=by
 unfold YG at h;split at h
 . rename_i fs a;split at h
   . rename_i f c;split at h
     . rename_i i hi;split at h
       . cases h
       . rename_i hs;simp at h;simp[Instr.fieldAt,run_underlying a,c,Instr.sureAddr,fieldPlace,Go.sizeOf,typeInfo,hi,hs,h,go_sem]
     . cases h
   . cases h
 . cases h
def ZPn:TypeDesc->Bool
 | .struct _=>true
 | .array _ _=>true
 |_=>false
def ZE (P:Program)(T:TypeId):Option (Bool×Nat):=
 match P.underlying T,P.info? T with
 |some d,some i=>some (ZPn d,i.size)
 |_,_=>none
theorem GF{P:Program}{T:TypeId}{g:Bool}{n:Nat}(h:ZE P T=some (g,n))(w:World):(isAgg T).run P w=.ok g w:=by
 unfold ZE at h;split at h
 . rename_i d i a hi;simp at h;simp only[isAgg,Sem.run_bind,run_underlying a,Result.andThen];rw[<-h.1];cases d<;>simp[ZPn,go_sem]
 . cases h
theorem run_sizeOf{P:Program}{T:TypeId}{g:Bool}{n:Nat}(h:ZE P T=some (g,n))(w:World):(Go.sizeOf T).run P w=.ok n w:=by
 unfold ZE at h;split at h
 . rename_i d i a hi;simp at h;simp[Go.sizeOf,typeInfo,hi,h.2,go_sem]
 . cases h
def At (H:Heaplet)(own:List Own)(b o:Nat)(v:Value):Prop:=
 H b o=some v\/∃(i:Nat) (cur:Array Value) (t:TypeId) (f:Nat×Nat),own[i]? =some [(b,Obj.cells cur t f)]/\cur[o]? =some v
theorem At.cell{w:World}{b o:Nat}{v:Value}(a:Stab own H w)(h:At H own b o v):w.cell? ⟨b,o,none⟩=some v:=by
 rcases h with h|⟨i,cur,t,f,hi,c⟩
 . exact a.1 b o v h
 . rw[cell_of_row w b o cur t f<|a.2 (b,.cells cur t f)<|Sd.2 ⟨_,Tq hi,by simp⟩];exact c
theorem ZAS{P:Program}{T:TypeId}{w:World}{a:Addr}{v:Value}{n:Nat}(hs:ZE P T=some (false,n))(h:w.cell? a=some v):
 (Instr.loadAt T<|.pointer<|some a).run P w=.ok v w:=by
 simp[Instr.loadAt,Instr.sureAddr,loadVar,GF hs,h,go_sem]
theorem ZIo{P:Program}{T:TypeId}{w:World}{b o:Nat}{vs:List Value}(hs:ZE P T=some (true,vs.length))(a:∀j v,vs[j]? =some v->w.cell? ⟨b,o+j,none⟩=some v):
 (Instr.loadAt T<|.pointer<|some ⟨b,o,none⟩).run P w=.ok (.agg vs.toArray) w:=by
 have h:=run_loadCells_list (P:=P) (w:=w) ⟨b,o,none⟩ vs (λj v e=>by rw[add_lit];exact a j v e);simp only[Instr.loadAt,Instr.sureAddr,loadVar,Sem.run_bind,Sem.run_pure,GF hs,run_sizeOf hs,h,Result.andThen,if_true]
theorem YQ{P:Program}{s:Sem Value}{w a:World}{u:Value}(h:s.run P w=.ok u a):(do let r<-s;pure (Next.value r)).run P w=.ok (.value u) a:=by
 simp[Sem.run_bind,h]
theorem ZNU{P:Program}{s:Sem Unit}{w a:World}(h:s.run P w=.ok () a):(do s;pure Next.skip).run P w=.ok .skip a:=by
 simp[Sem.run_bind,h]
section ops
variable{ty:TypeId}{d:Nat}{pos:String}{aft:Array Edge}{v:Value}
theorem JL.ld{p:Operand}{T n b o:Nat}(hs:ZE x.P T=some (false,n))(h1:evo l p=some (.pointer<|some ⟨b,o,none⟩))(c:At H own b o v)(e:Nat.blt d x.n=true)
 (h:JL x ops Q rest ((d,v)::l) own H):JL x ops Q (⟨some d,.load T p,ty,pos,aft,none⟩::rest) l own H:=
 ZA e rfl (λρ w _ _ _ _ a f=>by simp only[execOp,a _ _ h1];exact YQ<|ZAS hs<|c.cell f) h
theorem JL.new{op:Op}{obj:Obj}{v':Nat->Value}(f:Nat.blt d x.n=true)(hn:noDefer op=true)
 (i:∀(ρ:Operand->Value) (w:World) (d:Option Tmp) (pos:String) (aft:Array Edge) (g:Option (Nat×Bool)),(∀o u,evo l o=some u->ρ o=u)->
  (execOp ρ ⟨d,op,ty,pos,aft,g⟩).run x.P w=.ok (.value<|v' w.heap.size) (w.alloc obj))
 (h:∀b,x.w0.heap.size<=b->JL x ops Q rest ((d,v' b)::l) ([(b,obj)]::own) H):JL x ops Q (⟨some d,op,ty,pos,aft,none⟩::rest) l own H:=λa w c=>by
 simp only[wpLs,ZO,if_true];refine⟨λ_ _=>trivial,?_⟩;rw[ZV hn,i a.eval w (some d) pos aft none λo u e=>ZM c e];refine h w.heap.size c.mem.kept.size _ _<|Holds.put (x:=x) (l:=l) ?_ f _;exact⟨c.size,c.ds,c.slots,by simpa using c.mem.go0 (K':=[[(w.heap.size,obj)]]) (by simpa using Mem.alloc c.mem.agr obj)⟩
theorem Y6{p:Operand}{T:TypeId}(h1:evo l p=some v)(c:Nat.blt d x.n=true)
 (h:∀b,x.w0.heap.size<=b->JL x ops Q rest ((d,.pointer<|some ⟨b,0,none⟩)::l) ([(b,.cells v.cells T (0,0))]::own) H):JL x ops Q (⟨some d,.box T p,ty,pos,aft,none⟩::rest) l own H:=
 JL.new (v':=λb=>.pointer<|some ⟨b,0,none⟩) c rfl (λρ w _ _ _ _ a=>by
  simp only[execOp,a _ _ h1];exact YQ<|by simp only[Instr.box,newVar,newRow,Sem.run_bind,run_newObj_alloc,Result.andThen,Sem.run_pure]) h
def YK (P:Program)(T:TypeId):Option Value:=(P.info? T).bind (·.zero)
theorem QA{P:Program}{T:TypeId}{z:Value}(h:YK P T=some z)(w:World):(zeroValue T).run P w=.ok z w:=by
 unfold YK at h;cases hi:P.info? T with
 |none=>simp[hi]at h
 |some i=>simp[hi]at h;simp[zeroValue,typeInfo,hi,h,go_sem]
theorem JL.alloc{T:TypeId}{z:Value}(c:YK x.P T=some z)(e:Nat.blt d x.n=true)
 (h:∀b,x.w0.heap.size<=b->JL x ops Q rest ((d,.pointer<|some ⟨b,0,none⟩)::l) ([(b,.cells z.cells T (0,0))]::own) H):JL x ops Q (⟨some d,.alloc T,ty,pos,aft,none⟩::rest) l own H:=
 JL.new (v':=λb=>.pointer<|some ⟨b,0,none⟩) e rfl (λρ w _ _ _ _ f=>by
  have a:=QA c w;simp only[execOp];refine YQ ?_;simp only[Instr.alloc,Sem.run_bind,a,Result.andThen,newVar,newRow,run_newObj_alloc,Sem.run_pure]) h
theorem JL.turn (i:Nat){op:Op}{b:Nat}{cur cs:Array Value}{t:TypeId}(hi:own[i]? =some [(b,.cells cur t (0,0))])(hn:noDefer op=true)
 (j:∀(ρ:Operand->Value) (w:World) (d:Option Tmp) (pos:String) (aft:Array Edge) (g:Option (Nat×Bool)),(∀o u,evo l o=some u->ρ o=u)->w.heap[b]? =some (.cells cur t (0,0))->
  (execOp ρ ⟨d,op,ty,pos,aft,g⟩).run x.P w=.ok .skip (w.setRow b cs))
 (h:JL x ops Q rest l (own.set i [(b,.cells cs t (0,0))]) H):JL x ops Q (⟨none,op,ty,pos,aft,none⟩::rest) l own H:=λa w c=>by
 simp only[wpLs,ZO,if_true];refine⟨λ_ _=>trivial,?_⟩;have hb:=(Zm c.mem hi);rw[ZV hn,j a.eval w none pos aft none (λo u e=>ZM c e)<|hb.here (b,.cells cur t (0,0))<|by simp];have f:∀o,H b o=none:=λo=>hb.apart (b,.cells cur t (0,0)) (by simp) o;exact h _ _ ⟨c.size,c.ds,c.slots,c.mem.go1 hi<|by simpa[ids]using Mem.setRow c.mem.agr (hb.here (b,.cells cur t (0,0))<|by simp) f cs⟩
theorem Kq (P:Program)(g o:Nat)(t:TypeId)(f:Nat×Nat):∀(vs:List Value) (i:Nat) (cur:Array Value) (w:World),w.heap[g]? =some (.cells cur t f)->FrOk cur.size f->o+i+vs.length<=cur.size->(∀v∈vs,v.oneCell'=true)->
    (storeCells ⟨g,o,none⟩ vs i).run P w=.ok () (w.setRow g (cur.toList.take (o+i)++vs++cur.toList.drop (o+i+vs.length)).toArray)
  | [],i,cur,w,b,_,_,_=>by
    simp only[storeCells,Th,RF,SI,RO,Array.toArray_toList];rw[setRow_self w g cur t f b];rfl
  | v ::rest,i,cur,w,b,m,j,h1=>by
    have hi:o+i<cur.size:=(by simp at j;omega);have c:(⟨g,o,none⟩:Addr).add i=⟨g,o+i,none⟩:=by unfold Addr.add;split<;>simp_all
    have a:w.cell? ⟨g,o+i,none⟩=some cur[o+i]:=(by simp[World.cell?,b,hi]);have d:w.frozen? ⟨g,o+i,none⟩=false:=by
      obtain⟨lo,k⟩:=f;simp only[World.frozen?,b];rcases m with h|h
      . have h:k=0:=h;simp[h]
      . have h:cur.size<=lo:=h;have:¬lo<=o+i:=(by omega);simp[this]
    have l:(store ((⟨g,o,none⟩:Addr).add i) v).run P w=.ok () (w.setRow g<|cur.setIfInBounds (o+i) v):=by
      rw[c,run_store P w _ v _ (h1 v<|by simp),a];simp[d,setCell_eq_setRow w g (o+i) cur t f v b]
    have n:=Kq P g o t f rest (i+1) (cur.setIfInBounds (o+i) v) (w.setRow g<|cur.setIfInBounds (o+i) v) (setRow_heap w g cur _ t _ b) (by simpa using m) (by simp at j|-;omega) (λx p=>h1 x<|by simp[p]);simp only[storeCells,Sem.run_bind,l,Result.andThen_ok,n,setRow_setRow];congr 3;have e:=list_seg_step cur.toList (o+i) v rest (by simp at j|-;omega);simpa[Array.toList_setIfInBounds,Su]using e
theorem ZQ0{P:Program}{T:TypeId}{w:World}{b o n:Nat}{g:Bool}{cur:Array Value}{t:TypeId}{f:Nat×Nat}{v:Value}(hs:ZE P T=some (g,n))(a:v.cells.size=n)
 (h1:v.cells.toList.all (·.oneCell')=true)(hb:w.heap[b]? =some (.cells cur t f))(c:FrOk cur.size f)(d:o+n<=cur.size):
 (Instr.storeAt T (.pointer<|some ⟨b,o,none⟩) v).run P w=.ok () (w.setRow b (cur.toList.take o++v.cells.toList++cur.toList.drop (o+n)).toArray):=by
 have h:=Kq P b o t f v.cells.toList 0 cur w hb c (by simp[a,d])<|Ti.1 h1;simp only[Instr.storeAt,Instr.sureAddr,storeVar,Sem.run_bind,Sem.run_pure,run_sizeOf hs,Result.andThen,a,ne_eq,not_true,if_false,h,SI,TM]
theorem ZEn{P:Program}{T:TypeId}{w:World}{b o n:Nat}{g:Bool}{cur:Array Value}{t:TypeId}{v:Value}(hs:ZE P T=some (g,n))(a:v.cells.size=n)
 (h1:v.cells.toList.all (·.oneCell')=true)(hb:w.heap[b]? =some (.cells cur t (0,0)))(c:o+n<=cur.size):
 (Instr.storeAt T (.pointer<|some ⟨b,o,none⟩) v).run P w=.ok () (w.setRow b (cur.toList.take o++v.cells.toList++cur.toList.drop (o+n)).toArray):=by
 have h:=run_storeCells_at P b o t v.cells.toList 0 cur w hb (by simp[a,c])<|Ti.1 h1;simp only[Instr.storeAt,Instr.sureAddr,storeVar,Sem.run_bind,Sem.run_pure,run_sizeOf hs,Result.andThen,a,ne_eq,not_true,if_false,h,SI,TM]
theorem ZAL (i:Nat){p q:Operand}{T n b o:Nat}{g:Bool}{cur:Array Value}{t:TypeId}(hs:ZE x.P T=some (g,n))(h1:evo l p=some (.pointer<|some ⟨b,o,none⟩))(h2:evo l q=some v)
 (hi:own[i]? =some [(b,.cells cur t (0,0))])(c:v.cells.size=n)(d:v.cells.toList.all (·.oneCell')=true)(e:o+n<=cur.size)
 (h:JL x ops Q rest l (own.set i [(b,.cells (cur.toList.take o++v.cells.toList++cur.toList.drop (o+n)).toArray t (0,0))]) H):JL x ops Q (⟨none,.store T p q,ty,pos,aft,none⟩::rest) l own H:=
 JL.turn i hi rfl (λρ w _ _ _ _ a hb=>by simp only[execOp,a _ _ h1,a _ _ h2];exact ZNU<|ZEn hs c d hb e) h
def Enters (P:Program)(f:FuncId):Prop:=∀(args:Array Value) (w:World),(callFunc f args).run P w=.ok (.enter f args) w
theorem ZQ {P : Program} {f : FuncId} {fn : Func} (hf : P.funcs[f]? = some fn) (hb : fn.body.isNone = false) (hn : (fn.name == "runtime.NumGoroutine") = false) : Enters P f := fun args w => by
  simp only[callFunc,Sem.run_bind,run_program,Result.andThen,hf,hb,hn,Rf,if_false,Sem.run_pure]
theorem UE{ρ:Operand->Value}(c:∀o u,evo l o=some u->ρ o=u){as:Array Operand}{vs:List Value}(h:as.toList.mapM (evo l)=some vs):as.map ρ=vs.toArray:=by
  have k:∀(os:List Operand) (vs:List Value),os.mapM (evo l)=some vs->os.map ρ=vs:=by
    intro os;induction os with
    |nil=>intro vs e;simp at e;simp[e]
    | cons o os i=>
      intro vs e;simp only[SM]at e;cases b:evo l o with
      |none=>simp[b]at e
      | some v=>
        cases a:os.mapM (evo l)with
        |none=>simp[b,a]at e
        |some us=>simp[b,a]at e;subst e;simp[c _ _ b,i us a]
  rw[<-Sr];simpa using k _ _ h
theorem ZH4{c:Operand}{as:Array Operand}{ts:Array TypeId}{f:FuncId}{first cap:Array Value}{vs:List Value}{K rst:List Own}{R:Value->List Own->Heaplet->Prop}
 (s:Enters x.P f)(t:evo l c=some (.func (.func f) first cap))(y:as.toList.mapM (evo l)=some vs)(q:own.flatten.Perm (K.flatten++rst.flatten))
 (C:Does x.P f (first++vs.toArray++cap) K H R)(z:Nat.blt d x.n=true)
 (h:∀v K' g,R v K' g->Hle H g->(∀p∈K'.flatten,p.1∈ids K.flatten\/x.w0.heap.size<=p.1)->JL x ops Q rest ((d,v)::l) (K'++rst) g):
 JL x ops Q (⟨some d,.call ⟨.value c,as,ts⟩,ty,pos,aft,none⟩::rest) l own H:=λa w b=>by
 simp only[wpLs,ZO,if_true];refine⟨λ_ _=>trivial,?_⟩;have i:(execOp a.eval ⟨some d,.call ⟨.value c,as,ts⟩,ty,pos,aft,none⟩).run x.P w=.ok (.enter f (first++vs.toArray++cap)) w:=by
  have e1:=ZM b t;have e2:=UE (λo u e=>ZM b e) y;simp only[execOp,resolve,e1,e2,Deferred.ofValue,Sem.run_bind,Sem.run_pure,Result.andThen,invoke];exact s _ _
 rw[ZV rfl,i];have j:=b.mem.ok.perm q;show(_->_)/\CallsIn _ _ _ _ _ _ _;refine⟨λe=>by simp[Fw]at e,?_⟩;refine CallsIn.mono (show CallsIn (Fw x.r) (0-1) x.P f _ w _ from C w b.mem.agr j.left) ?_;rintro e B ⟨v,K',g,rfl,A,k⟩;refine h v K' g A k.le (λp m=>(k.fresh p m).imp id<|TS b.mem.kept.size) _ _<|Holds.put (x:=x) (l:=l) ?_ z v;exact⟨b.size,b.ds,b.slots,by rw[TW];exact b.mem.go q k⟩
theorem ZN9{c:Operand}{as:Array Operand}{ts:Array TypeId}{f:FuncId}{vs:List Value}{R:Value->List Own->Heaplet->Prop}
 (e:Enters x.P f)(g:evo l c=some (.func (.func f) #[] #[]))(i:as.toList.mapM (evo l)=some vs)
 (C:Does x.P f vs.toArray [] H R)(j:Nat.blt d x.n=true)
 (h:∀v K' a,R v K' a->Hle H a->(∀p∈K'.flatten,x.w0.heap.size<=p.1)->JL x ops Q rest ((d,v)::l) (K'++own) a):
 JL x ops Q (⟨some d,.call ⟨.value c,as,ts⟩,ty,pos,aft,none⟩::rest) l own H:=
 ZH4 (K:=[]) (rst:=own) e g i (by simp) (by simpa using C) j λv K' a k b m=>h v K' a k b λp o=>(m p o).resolve_left<|by simp[ids]
end ops
variable{x:Cx}{ops:Array Oper}{Q:Exit->Act->World->Prop}{rest:List Oper}{l:Slots}{own:List Own}{H:Heaplet}
theorem ZPC{n:Int}(h1: -9223372036854775808<=n)(h2:n<=9223372036854775807):IntKind.i64.wrap n=n:=IntWalk.i64_in n ⟨h1,h2⟩
abbrev Rep (α:Type):=Heaplet->List Value->α->Prop
def Rep.Mono{α:Type}(R:Rep α):Prop:=∀H a cs x,Hle H a->R H cs x->R a cs x
def RU8:Rep UInt8:=λ_ cs b=>cs= [.int .u8 b.toNat]
def RU32:Rep UInt32:=λ_ cs n=>cs= [.int .u32 n.toNat]
def InI64 (n:Int):Prop:=-9223372036854775808<=n/\n<=9223372036854775807
def RBool:Rep Bool:=λ_ cs b=>cs= [.bool b]
def IsSlice{α:Type}(H:Heaplet)(R:Rep α)(size:Nat)(v:Value)(l:List α):Prop:=
  ∃ ao cap,v=.slice ao l.length cap/\l.length<=cap/\cap<=maxLen/\(∀a,ao=some a->cap=0\/a.spot=none)/\(ao=none->cap=0)/\
    ∀i y,l[i]? =some y->∃b o cs,ao=some ⟨b,o,none⟩/\cs.length=size/\R H cs y/\∀j u,cs[j]? =some u->H b (o+i*size+j)=some u
abbrev IsB (H:Heaplet)(v:Value)(l:List UInt8):Prop:=IsSlice H RU8 1 v l
theorem IsSlice.mono{α:Type}{R:Rep α}(d:R.Mono){size:Nat}{v:Value}{l:List α}{c:Heaplet}(a:Hle H c)(h:IsSlice H R size v l):IsSlice c R size v l:=by
 obtain⟨ao,cap,e,h1,h2,h3,f,g⟩:=h;refine⟨ao,cap,e,h1,h2,h3,f,λi y k=> ?_⟩;obtain⟨b,o,cs,e1,e2,e3,e4⟩:=g i y k;exact⟨b,o,cs,e1,e2,d _ _ _ _ a e3,λj u m=>a _ _ _<|e4 j u m⟩
theorem IsSlice.len_le{α:Type}{R:Rep α}{size:Nat}{v:Value}{l:List α}(h:IsSlice H R size v l):l.length<=9223372036854775807:=by
 obtain⟨ao,cap,e,h1,h2,_⟩:=h;unfold maxLen at h2;omega
theorem RU8.mono:RU8.Mono:=λ_ _ _ _ _ h=>h
theorem RU32.mono:RU32.Mono:=λ_ _ _ _ _ h=>h
theorem RBool.mono:RBool.Mono:=λ_ _ _ _ _ h=>h
theorem IsB.mono{v:Value}{l:List UInt8}{b:Heaplet}(a:Hle H b)(h:IsB H v l):IsB b v l:=IsSlice.mono RU8.mono a h
theorem IsSlice.nil{α:Type}(H:Heaplet)(R:Rep α)(size:Nat):IsSlice H R size (.slice none 0 0) []:=
 ⟨none,0,rfl,TF _,by simp[maxLen],λ_ h=>(by cases h),λ_=>rfl,λi y h=>(by simp at h)⟩
def Flat{α:Type}(H:Heaplet)(R:Rep α)(size:Nat):List Value->List α->Prop
 |cells,[]=>cells= []
 |cells,y::r=>∃cs m,cells=cs++m/\cs.length=size/\R H cs y/\Flat H R size m r
theorem Flat.length{α:Type}{R:Rep α}{size:Nat}:∀{l:List α} {cells:List Value},Flat H R size cells l->cells.length=l.length*size
  |[],cells,h=>by simp only[Flat]at h;subst h;simp
  | y::r,cells,h=>by
    obtain⟨cs,m,rfl,h1,_,h2⟩:=h;have:=Flat.length h2;simp[this,h1,TU];omega
theorem Flat.append{α:Type}{R:Rep α}{size:Nat}{l':List α}{c:List Value}(a:Flat H R size c l'):∀{l:List α} {cells:List Value},Flat H R size cells l->Flat H R size (cells++c) (l++l')
  |[],cells,h=>by simp only[Flat]at h;subst h;simpa using a
  | y::r,cells,h=>by
    obtain⟨cs,m,rfl,h1,h2,h3⟩:=h;exact⟨cs,m++c,by simp,h1,h2,Flat.append a h3⟩
theorem Flat.mono{α:Type}{R:Rep α}(b:R.Mono){size:Nat}{c:Heaplet}(a:Hle H c):∀{l:List α} {cells:List Value},Flat H R size cells l->Flat c R size cells l
  |[],cells,h=>h
  | y::r,cells,h=>by
    obtain⟨cs,m,rfl,h1,h2,h3⟩:=h;exact⟨cs,m,rfl,h1,b _ _ _ _ a h2,Flat.mono b a h3⟩
theorem Flat.at{α:Type}{R:Rep α}{size:Nat}:∀{l:List α} {cells:List Value},Flat H R size cells l->∀{i:Nat} {y:α},l[i]? =some y->
    ∃cs,cs.length=size/\R H cs y/\∀j u,cs[j]? =some u->cells[i*size+j]? =some u
  |[],cells,h,i,y,hi=>by simp at hi
  | z::r,cells,h,0,y,hi=>by
    obtain⟨cs,m,rfl,h1,h2,h3⟩:=h;simp at hi;subst hi;refine⟨cs,h1,h2,λj u a=> ?_⟩;have b:j<cs.length:=(TC.1 a).1;simpa[List.getElem?_append,b]using a
  | z::r,cells,h,i+1,y,hi=>by
    obtain⟨cs,m,rfl,h1,h2,h3⟩:=h;obtain⟨c,e1,e2,e3⟩:=Flat.at h3 (i:=i) (y:=y) (by simpa using hi);refine⟨c,e1,e2,λj u a=> ?_⟩;rw[Sc (by rw[h1,TU];omega),h1,show(i+1)*size+j-size=i*size+j by rw[TU];omega];exact e3 j u a
def bvs (l:List UInt8):List Value:=l.map λb=>.int .u8 b.toNat
theorem Flat.bytes:∀(l:List UInt8),Flat H RU8 1 (bvs l) l
 |[]=>rfl
 |b::r=>⟨[.int .u8 b.toNat],bvs r,rfl,rfl,rfl,Flat.bytes r⟩
theorem Flat.of_u8:∀{l:List UInt8} {cells:List Value},Flat H RU8 1 cells l->cells=bvs l
  |[],cells,h=>h
  | b::r,cells,h=>by
    obtain⟨cs,m,rfl,h1,h2,h3⟩:=h;rw[Flat.of_u8 h3,h2];rfl
theorem IsSlice.cells{α:Type}{R:Rep α}{size:Nat}{v:Value}{l:List α}(h:IsSlice H R size v l):
    ∃cells,Flat H R size cells l/\∃ao cap,v=.slice ao l.length cap/\(l= []\/∃b o,ao=some ⟨b,o,none⟩/\∀j u,cells[j]? =some u->H b (o+j)=some u):=by
  obtain⟨ao,cap,e,h1,h2,h3,C,s⟩:=h;cases d:l with
  |nil=>exact⟨[],rfl,ao,cap,by rw[e,d],.inl rfl⟩
  | cons w D=>
    obtain⟨b,o,_,c,_⟩:=s 0 w (by simp[d]);have f:∀(m:List α) (k:Nat),(∀i y,m[i]? =some y->l[k+i]? =some y)->∃cells,Flat H R size cells m/\∀j u,cells[j]? =some u->H b (o+k*size+j)=some u:=by
      intro m;induction m with
      |nil=>intro k _;exact⟨[],rfl,λj u a=>by simp at a⟩
      | cons y r x=>
        intro k t;obtain⟨cells,g,n⟩:=x (k+1) λi z A=>by have:=t (i+1) z (by simpa using A);rwa[show k+(i+1)=k+1+i by omega]at this
        obtain⟨E,o',cs,p,e1,e2,e3⟩:=s k y (t 0 y<|by simp);rw[c]at p;simp at p;obtain⟨rfl,rfl⟩:=p;refine⟨cs++cells,⟨cs,cells,rfl,e1,e2,g⟩,λj u a=> ?_⟩;rcases SZ j cs.length with q|q
        . rw[SH q]at a;exact e3 j u a
        . rw[Sc q]at a;have:=n _ _ a;rw[e1,TU]at this;rw[show o+k*size+j=o+(k*size+1*size)+(j-size) by omega];exact this
    obtain⟨cells,g,n⟩:=f l 0 (λi y B=>by simpa using B);rw[<-d];exact⟨cells,g,ao,cap,e,.inr ⟨b,o,c,λj u a=>by simpa using n j u a⟩⟩
theorem PL{α:Type}{R:Rep α}{size:Nat}{l:List α}{cells:List Value}{b o cap:Nat}(c:Flat H R size cells l)(h:l.length<=cap)(d:cap<=maxLen)
 (f:∀j u,cells[j]? =some u->H b (o+j)=some u):IsSlice H R size (.slice (some ⟨b,o,none⟩) l.length cap) l:=
 ⟨_,cap,rfl,h,d,λa e=>(by cases e;exact .inr rfl),λe=>(by cases e),λi y g=>by
  obtain⟨cs,e1,e2,e3⟩:=c.at g;exact⟨b,o,cs,rfl,e1,e2,λj u k=>by have:=f _ _<|e3 j u k;rwa[<-Su]at this⟩⟩
section ops
variable{ty:TypeId}{d:Nat}{pos:String}{aft:Array Edge}{v:Value}
theorem ZSF{α:Type}{R:Rep α}{size:Nat}{p:Operand}{t e:TypeId}{m:List α}(a:x.P.underlying t=some (.slice e))(h1:evo l p=some v)(hs:IsSlice H R size v m)(b:Nat.blt d x.n=true)
 (h:JL x ops Q rest ((d,.int .i64 m.length)::l) own H):JL x ops Q (⟨some d,.call ⟨.builtin .len,#[p],#[t]⟩,ty,pos,aft,none⟩::rest) l own H:=by
 obtain⟨ao,cap,rfl,_⟩:=hs;exact JL.len a h1 b h
theorem ZEo{P:Program}{T e:TypeId}{g:Bool}{n:Nat}(h:P.underlying T=some (.slice e))(hs:ZE P e=some (g,n)){b o len cap k:Nat}{a:IntKind}(c:k<len)(w:World):
 (Instr.indexAt T (.slice (some ⟨b,o,none⟩) len cap)<|.int a (k:Int)).run P w=.ok (.pointer<|some ⟨b,o+k*n,none⟩) w:=by
 have h0:(0:Int)<=(k:Int)/\(k:Int)<(len:Int):=⟨by omega,by omega⟩;simp only[Instr.indexAt,asIntOf,Sem.run_bind,Sem.run_pure,Result.andThen,run_underlying h,TJ h0,run_sizeOf hs,T4,add_lit]
theorem JL.ix{α:Type}{R:Rep α}{p q:Operand}{T e:TypeId}{g:Bool}{n:Nat}{m:List α}{f:IntKind}{i:Int}{k:Nat}(r:x.P.underlying T=some (.slice e))(hs:ZE x.P e=some (g,n))
 (h1:evo l p=some v)(s:IsSlice H R n v m)(h2:evo l q=some (.int f i))(hi:i=(k:Int))(c:k<m.length)(t:Nat.blt d x.n=true)
 (h:∀b o cs,R H cs m[k]->cs.length=n->(∀j u,cs[j]? =some u->H b (o+j)=some u)->JL x ops Q rest ((d,.pointer<|some ⟨b,o,none⟩)::l) own H):
 JL x ops Q (⟨some d,.indexAddr T p q,ty,pos,aft,none⟩::rest) l own H:=by
 obtain⟨ao,cap,rfl,e1,e2,e3,e4,e5⟩:=s;obtain⟨b,o,cs,rfl,y,z,A⟩:=e5 k _<|TL c;subst hi;exact ZA t rfl (λρ w _ _ _ _ a B=>by simp only[execOp,a _ _ h1,a _ _ h2];exact YQ<|ZEo r hs c w)<|h b (o+k*n) cs z y A
theorem ZTk{p q:Operand}{T e:TypeId}{g:Bool}{m:List UInt8}{c:IntKind}{i:Int}{k:Nat}(f:x.P.underlying T=some (.slice e))(hs:ZE x.P e=some (g,1))
 (h1:evo l p=some v)(j:IsB H v m)(h2:evo l q=some (.int c i))(hi:i=(k:Int))(r:k<m.length)(s:Nat.blt d x.n=true)
 (h:∀b o,H b o=some (.int .u8 (m[k].toNat:Int))->JL x ops Q rest ((d,.pointer<|some ⟨b,o,none⟩)::l) own H):
 JL x ops Q (⟨some d,.indexAddr T p q,ty,pos,aft,none⟩::rest) l own H:=
 JL.ix f hs h1 j h2 hi r s λb o cs t _ a=>h b o (by rw[show cs=_ from t]at a;simpa using a 0 _ rfl)
theorem ZNH{p:Operand}{T n b o:Nat}(hs:ZE x.P T=some (false,n))(h1:evo l p=some (.pointer<|some ⟨b,o,none⟩))(a:H b o=some v)(c:Nat.blt d x.n=true)
 (h:JL x ops Q rest ((d,v)::l) own H):JL x ops Q (⟨some d,.load T p,ty,pos,aft,none⟩::rest) l own H:=JL.ld hs h1 (.inl a) c h
def b8 (n:Int):UInt8:=UInt8.ofNat (n%256).toNat
def w32 (n:Int):UInt32:=UInt32.ofNat (n%4294967296).toNat
theorem ZGe{P:Program}{w:World}{k:IntKind}{n m:Nat}{c:BoundsCode}(h:n<=m):(Instr.sliceBound (.int k (n:Int)) m c).run P w=.ok n w:=by
 have h0:(0:Int)<=(n:Int)/\(n:Int)<=(m:Int):=⟨by omega,by omega⟩;simp[Instr.sliceBound,asIntOf,Sem.run_bind,h0,go_sem]
end ops
variable{x:Cx}{ops:Array Oper}{Q:Exit->Act->World->Prop}{rest:List Oper}{l:Slots}{own:List Own}{H:Heaplet}
def Row (B:Nat)(E:TypeId)(size:Nat)(v:Value)(cells:List Value)(n:Nat)(K:Own):Prop:=
 cells.length=n*size/\((v=.slice none 0 0/\n=0/\K= [])\/
  ∃g cap cur,v=.slice (some ⟨g,0,none⟩) n cap/\K= [(g,.cells cur E (0,0))]/\B<=g/\n<=cap/\cap<=maxLen/\cap*size<=cur.size/\cur.toList.take (n*size)=cells)
def YS (cs:List Value):Prop:=∀u∈cs,u.oneCell'=true
def RowOf{α:Type}(H:Heaplet)(R:Rep α)(B:Nat)(E:TypeId)(size:Nat)(v:Value)(ls:List α)(K:Own):Prop:=
 ∃cells,Row B E size v cells ls.length K/\Flat H R size cells ls/\YS cells
theorem RowOf.nil{α:Type}(H:Heaplet)(R:Rep α)(B:Nat)(E:TypeId)(size:Nat):RowOf H R B E size (.slice none 0 0) [] []:=
 ⟨[],⟨by simp,.inl ⟨rfl,rfl,rfl⟩⟩,rfl,λ_ h=>by cases h⟩
theorem RowOf.mono{α:Type}{R:Rep α}(c:R.Mono){B:Nat}{E:TypeId}{size:Nat}{v:Value}{ls:List α}{K:Own}{b:Heaplet}(a:Hle H b)(h:RowOf H R B E size v ls K):RowOf b R B E size v ls K:=by
 obtain⟨cells,h1,h2,h3⟩:=h;exact⟨cells,h1,h2.mono c a,h3⟩
theorem RowOf.weak{α:Type}{R:Rep α}{B a:Nat}(b:a<=B){E:TypeId}{size:Nat}{v:Value}{ls:List α}{K:Own}(h:RowOf H R B E size v ls K):RowOf H R a E size v ls K:=by
 obtain⟨cells,⟨h0,h1⟩,h2,h3⟩:=h;refine⟨cells,⟨h0,?_⟩,h2,h3⟩;rcases h1 with h1|⟨g,cap,cur,e1,e2,e3,r⟩
 . exact .inl h1
 . exact .inr ⟨g,cap,cur,e1,e2,TS b e3,r⟩
theorem RowOf.base{α:Type}{R:Rep α}{B a:Nat}{E:TypeId}{size:Nat}{v:Value}{ls:List α}{K:Own}(h:RowOf H R B E size v ls K)(b:∀p∈K,a<=p.1):RowOf H R a E size v ls K:=by
 obtain⟨cells,⟨h0,h1⟩,h2,h3⟩:=h;refine⟨cells,⟨h0,?_⟩,h2,h3⟩;rcases h1 with h1|⟨g,cap,cur,e1,e2,e3,r⟩
 . exact .inl h1
 . exact .inr ⟨g,cap,cur,e1,e2,b (g,.cells cur E (0,0)) (by simp[e2]),r⟩
theorem RowOf.len{α:Type}{R:Rep α}{B:Nat}{E:TypeId}{size:Nat}{v:Value}{ls:List α}{K:Own}(h:RowOf H R B E size v ls K):∃ao cap,v=.slice ao ls.length cap/\ls.length<=cap/\cap<=maxLen:=by
 obtain⟨cells,⟨h0,h1⟩,h2,h3⟩:=h;rcases h1 with⟨e1,e2,_⟩|⟨g,cap,cur,e1,e2,e3,e4,e5,r⟩
 . exact⟨none,0,by rw[e1,e2],by omega,by simp[maxLen]⟩
 . exact⟨_,cap,e1,e4,e5⟩
def Rep.One{α:Type}(R:Rep α):Prop:=∀H cs y,R H cs y->YS cs
theorem RU8.one:RU8.One:=λ_ cs y h=>by rw[show cs=_ from h];intro u a;simp at a;subst a;rfl
theorem Flat.one'{α:Type}{R:Rep α}(b:R.One){size:Nat}:∀{l:List α} {cells:List Value},Flat H R size cells l->YS cells
  |[],cells,h=>by simp only[Flat]at h;subst h;intro u a;cases a
  | y::r,cells,h=>by
    obtain⟨cs,m,rfl,h1,h2,h3⟩:=h;intro u a;rcases TR.1 a with a|a
    . exact b _ _ _ h2 u a
    . exact Flat.one' b h3 u a
def SrcR{α:Type}(x:Cx)(H:Heaplet)(own:List Own)(R:Rep α)(size:Nat)(t:TypeId)(y:Value)(ls:List α):Prop:=
 ∃cells,Flat H R size cells ls/\YS cells/\∀w,Mem x.w0 x.H0 x.S own.flatten H w->Src x.P size t y ls.length cells w
theorem SrcR.slice{α:Type}{R:Rep α}(g:R.One){size:Nat}{t e:TypeId}{y:Value}{ls:List α}(d:x.P.underlying t=some (.slice e))(hs:IsSlice H R size y ls):SrcR x H own R size t y ls:=by
 obtain⟨cells,c,ao,cap,rfl,f⟩:=hs.cells;refine⟨cells,c,c.one' g,λw i=> ?_⟩;rcases f with rfl|⟨b,o,rfl,f⟩
 . simp only[Flat]at c;subst c;cases ao with
   |none=>exact Src.ofNil w d cap
   |some a=>exact Src.ofSlice w d a 0 cap [] (by simp) (λj u h=>by simp at h) λu h=>by cases h
 . exact Src.ofSlice w d ⟨b,o,none⟩ _ cap cells (by rw[c.length]) (λj u h=>by rw[add_lit];exact i.agr _ _ _<|f j u h)<|c.one' g
theorem SrcR.row{α:Type}{R:Rep α}{size B:Nat}{t e E:TypeId}{y:Value}{ls:List α}{K:Own}(j:Nat)(b:x.P.underlying t=some (.slice e))(d:own[j]? =some K)(hs:RowOf H R B E size y ls K):SrcR x H own R size t y ls:=by
 obtain⟨cells,⟨h0,h1⟩,a,c⟩:=hs;refine⟨cells,a,c,λw f=> ?_⟩;rcases h1 with⟨rfl,h3,l⟩|⟨g,cap,cur,rfl,e2,e3,e4,e5,e6,e7⟩
 . have:ls= []:=TT.1 h3;subst this;simp only[Flat]at a;subst a;exact Src.ofNil w b 0
 . subst e2;have i:=(Zm f d).here (g,.cells cur E (0,0)) (by simp);refine Src.ofSlice w b ⟨g,0,none⟩ _ cap cells h0 (λk u h=> ?_) c;rw[add_lit,Te,cell_of_row w g k cur E (0,0) i];rw[<-e7,TX]at h;split at h
   . simpa using h
   . cases h
theorem OT{t:TypeId}{s:ByteArray}(h:x.P.underlying t=some .string):SrcR x H own RU8 1 t (.string s) s.data.toList:=by
 refine⟨byteCells s,?_,λu h=> ?_,λw a=> ?_⟩
 . exact Flat.bytes s.data.toList
 . obtain⟨_,_,rfl⟩:=T7.1 h;rfl
 . have:=Src.ofString (P:=x.P) w h s;simpa using this
def eInfo (P:Program)(E:TypeId):Option (Value×Nat×Nat):=
 (P.info? E).bind λi=>i.zero.bind λz=>if z.cells.size=i.size/\0<i.size then some (z,i.size,i.bytes)else none
theorem Zn{P:Program}{E:TypeId}{z:Value}{size bytes:Nat}(h:eInfo P E=some (z,size,bytes)):
    ∃i,P.info? E=some i/\i.zero=some z/\i.size=size/\i.bytes=bytes/\z.cells.size=size/\0<size:=by
  unfold eInfo at h;cases hi:P.info? E with
  |none=>simp[hi]at h
  | some i=>
    cases a:i.zero with
    |none=>simp[hi,a]at h
    | some c=>
      simp only[hi,a,Tg]at h;split at h
      . rename_i b;simp at h;obtain⟨rfl,rfl,rfl⟩:=h;exact⟨i,rfl,a,rfl,rfl,b.1,b.2⟩
      . cases h
theorem Mem.drew{w:World}{H:Heaplet}{w0:World}{H0:Heaplet}{S:List Nat}{o:Own}(h:Mem w0 H0 S o H w):Mem w0 H0 S o H w.drew:=
 ⟨h.agr,⟨h.ok.here,h.ok.nodup,h.ok.apart⟩,⟨h.kept.os,h.kept.tape,h.kept.output,h.kept.size,Nat.le_succ_of_le h.kept.drawn,h.kept.block⟩,h.fresh,h.le,h.grow,h.soft⟩
theorem Mem.same{w:World}{H:Heaplet}{K:Own}(h:Agrees H w)(a:OwnOk H K w):Mem w H (ids K) K H w:=
 ⟨h,a,PO _ _,λp b=>.inl<|Sb b,Rz _,λ_ _ _=>rfl,PF⟩
theorem ZCg{P:Program}{w:World}{H:Heaplet}{t A ty E:TypeId}{z:Value}{size bytes:Nat}(M:P.underlying t=some (.slice E))(he:eInfo P E=some (z,size,bytes))
 {B n m:Nat}{v y:Value}{cells a:List Value}{K:Own}(Q:Agrees H w)(R:OwnOk H K w)(hr:Row B E size v cells n K)(hs:Src P size A y m a w)
 (G:n+m<=maxLen)(hb:(n+m)*bytes<=140737488355328)(hB:B<=w.heap.size):
 ∃v' K' q,(Builtin.append_ #[t,A] ty #[v,y]).run P w=.ok v' q/\Row B E size v' (cells++a) (n+m) K'/\Mem w H (ids K) K' H q:=by
 obtain⟨i,hi,hz,S,T,U,hpos⟩:=Zn he;subst S;subst T
 obtain⟨h0,h1⟩:=hr;have c:(cells++a).length=(n+m)*i.size:=by rw[TG,h0,hs.newsLen,TU]
 by_cases V:m=0
 . subst V;have hn:a= []:=TT.1 (by rw[hs.newsLen];simp);subst hn;refine⟨v,K,w,?_,⟨by simpa using c,by simpa using h1⟩,Mem.same Q R⟩;rcases h1 with⟨rfl,rfl,rfl⟩|⟨g,cap,cur,rfl,rfl,e3,e4,e5,e6,e7⟩
   . exact run_append_nothing w t A ty E i M hi none 0 0 (TF _) y hs
   . exact run_append_nothing w t A ty E i M hi _ n cap e4 y hs
 . have l:∀(base:Option Addr) (s:Nat),(Builtin.firstCells i.size n<|.slice base n s).run P w.drew=.ok cells.toArray w.drew->s<n+m->
    ∃v' K' q,(Builtin.append_ #[t,A] ty #[.slice base n s,y]).run P w=.ok v' q/\Row B E i.size v' (cells++a) (n+m) K'/\Mem w H [] K' H q:=by
    intro base s I F;have N:n+m<=9223372036854775807:=(by simp only[maxLen]at G;omega);have d:=run_append_grow_src (P:=P) w t A ty E i z M hi hz base n s cells I y m a hs F (by omega) (growslice_fits F hb);have W:=grownCap_ge w (n+m) s E;have X:grownCap w (n+m) s E<=maxLen:=grownCap_le_maxLen w (n+m) s E G;obtain⟨C,D⟩:∃C,C=(cells++a).toArray++Builtin.zeroCells z.cells (grownCap w (n+m) s E-(n+m)):=⟨_,rfl⟩;rw[<-D]at d;refine⟨_,[(w.heap.size,.cells C E (0,0))],_,d,⟨c,.inr ⟨w.heap.size,_,C,rfl,rfl,hB,W,X,?_,?_⟩⟩,?_⟩
    . rw[D];simp only[RX,Tm,size_zeroCells,U,c,<-TU];refine TN _ ?_;omega
    . rw[D];simp only[S4,TE,Tf];rw[<-TE,<-c];exact T6
    . have h:=Mem.alloc (w:=w.drew) (H:=H) (λb o v e=>Q b o v e) (.cells C E (0,0));exact⟨h.agr,h.ok,⟨h.kept.os,h.kept.tape,h.kept.output,h.kept.size,TS (RJ _) h.kept.drawn,h.kept.block⟩,h.fresh,h.le,h.grow,h.soft⟩
   rcases h1 with⟨rfl,rfl,rfl⟩|⟨g,cap,cur,rfl,rfl,e3,e4,e5,e6,e7⟩
   . have hc:cells= []:=TT.1 (by rw[h0];simp);subst hc;obtain⟨v',K',q,Y,Z,r⟩:=l none 0 (by simp[Builtin.firstCells,go_sem]) (by omega);exact⟨v',K',q,Y,Z,by simpa[ids]using r⟩
   . have F:=R.here (g,.cells cur E (0,0)) (by simp);have hgd:∀j u,cells[j]? =some u->w.cell? ((⟨g,0,none⟩:Addr).add j)=some u:=λj u O=>by
      rw[add_lit,Te,cell_of_row w g j cur E (0,0) F];rw[<-e7,TX]at O;split at O
      . simpa using O
      . cases O
     by_cases f:n+m<=cap
     . have J:n*i.size+a.length<=cur.size:=by
        rw[hs.newsLen,<-TU];exact TS (TN _ f) e6
       have L:=run_storeCells_at P g (n*i.size) E a 0 cur w F (by simpa using J) hs.one;simp only[SI]at L;have d:(Builtin.append_ #[t,A] ty #[.slice (some ⟨g,0,none⟩) n cap,y]).run P w=.ok (.slice (some ⟨g,0,none⟩) (n+m) cap) (w.setRow g (cur.toList.take (n*i.size)++a++cur.toList.drop (n*i.size+a.length)).toArray):=by
        rcases hs.kind with⟨e',x⟩|x<;>simp[Builtin.append_,run_underlying M,run_underlying x,sizeOf,typeInfo,hi,hs.len,f,hs.cells,Addr.add_lit,L]
       obtain⟨C,D⟩:∃C,C=(cur.toList.take (n*i.size)++a++cur.toList.drop (n*i.size+a.length)).toArray:=⟨_,rfl⟩;rw[<-D]at d;refine⟨_,[(g,.cells C E (0,0))],_,d,⟨c,.inr ⟨g,cap,C,rfl,rfl,e3,f,e5,?_,?_⟩⟩,by simpa[ids]using Mem.setRow Q F (λo=>R.apart (g,.cells cur E (0,0)) (by simp) o) _⟩
       . rw[D];simp only[Tm,TG,TH,Td,TM];omega
       . rw[D,e7,<-c];exact T6
     . have hf:=run_firstCells_some (P:=P) w.drew i.size n ⟨g,0,none⟩ n cap cells h0 (by simpa using hgd);obtain⟨v',K',q,Y,Z,r⟩:=l (some ⟨g,0,none⟩) cap hf (by omega);refine⟨v',K',q,Y,Z,⟨r.agr,r.ok,⟨r.kept.os,r.kept.tape,r.kept.output,r.kept.size,r.kept.drawn,λk x _=>r.kept.block k x<|by simp⟩,λp hp=>.inr ((r.fresh p hp).resolve_left<|by simp),r.le,λb o hb=>r.grow b o ⟨hb.1,by simp⟩,r.soft⟩⟩
section ops
variable{ty:TypeId}{d:Nat}{pos:String}{aft:Array Edge}{v:Value}
theorem JL.app{α:Type}{R:Rep α}(i:Nat){p q:Operand}{t g E:TypeId}{z y:Value}{size bytes B:Nat}{ls s:List α}{K:Own}(A:x.P.underlying t=some (.slice E))(G:eInfo x.P E=some (z,size,bytes))
 (h1:evo l p=some v)(hi:own[i]? =some K)(I:RowOf H R B E size v ls K)(h2:evo l q=some y)(hs:SrcR x H own R size g y s)
 (C:ls.length+s.length<=maxLen)(hb:(ls.length+s.length)*bytes<=140737488355328)(J:B<=x.w0.heap.size)(L:Nat.blt d x.n=true)
 (h:∀v' K',RowOf H R B E size v' (ls++s) K'->JL x ops Q rest ((d,v')::l) (own.set i K') H):
 JL x ops Q (⟨some d,.call ⟨.builtin .append,#[p,q],#[t,g]⟩,ty,pos,aft,none⟩::rest) l own H:=λa w b=>by
 simp only[wpLs,ZO,if_true];refine⟨λ_ _=>trivial,?_⟩;obtain⟨cells,j,M,hone⟩:=I;obtain⟨k,D,c,m⟩:=hs;obtain⟨v',K',N,o,e,O⟩:=ZCg (ty:=ty) A G b.mem.agr (Zm b.mem hi) j (m w b.mem) C hb (TS J b.mem.kept.size);have f:(execOp a.eval ⟨some d,.call ⟨.builtin .append,#[p,q],#[t,g]⟩,ty,pos,aft,none⟩).run x.P w=.ok (.value v') N:=by
  have e1:=ZM b h1;have e2:=ZM b h2;have:(execOp a.eval ⟨some d,.call ⟨.builtin .append,#[p,q],#[t,g]⟩,ty,pos,aft,none⟩).run x.P w=((Builtin.append_ #[t,g] ty #[v,y]).run x.P w).andThen (λr F=>.ok (.value r) F):=by
   generalize a.eval=ρ at e1 e2;have e3:Array.map ρ #[p,q]= #[v,y]:=(by simp[e1,e2]);simp only[execOp,resolve,e3,Sem.run_bind,Sem.run_pure,Result.andThen,invoke,builtin]
  rw[this,o];rfl
 rw[ZV rfl,f];exact h v' K' ⟨cells++k,by simpa using e,Flat.append D M,λu A=>(TR.1 A).elim (hone u) (c u)⟩ _ _
 <|Holds.put (x:=x) (l:=l) ⟨b.size,b.ds,b.slots,b.mem.go1 hi O⟩ L v'
theorem ZKp:∀(vs:List Value) (k off:Nat) (cells:Array Value),off+k+vs.length<=cells.size->
    ((vs.zipIdx k).foldl (λcs (c,j)=>cs.setIfInBounds (off+j) c) cells).toList=cells.toList.take (off+k)++vs++cells.toList.drop (off+k+vs.length)
  |[],k,off,cells,h=>by simp
  | v::vs,k,off,cells,h=>by
    simp only[Ts]at h;rw[List.zipIdx_cons,RH,ZKp vs (k+1) off _ (by simp;omega)];simp only[Array.toList_setIfInBounds];have:=list_seg_step cells.toList (off+k) v vs (by simpa using h);rw[<-Su,this];simp[Su,Nat.add_comm 1]
theorem ZCS{size:Nat}:∀(vs:List Value) (k:Nat) (cells:Array Value),(∀v∈vs,v.cells.size=size)->(k+vs.length)*size<=cells.size->
    Instr.fill (λi=>some (i*size,size)) cells ((List.range' k vs.length).zip vs)=some (cells.toList.take (k*size)++(vs.map (·.cells.toList)).flatten++cells.toList.drop ((k+vs.length)*size)).toArray
  |[],k,cells,_,h=>by simp[Instr.fill]
  | v ::vs,k,cells,b,h=>by
    have h1:=b v (by simp);simp only[Ts]at h;have h2:k*size+size<=cells.size:=by
      have:(k+(vs.length+1))*size=k*size+size+vs.length*size:=(by simp[TU];omega);omega
    have d:(v.cells.zipIdx.foldl (λcs (c,j)=>cs.setIfInBounds (k*size+j) c) cells).toList=cells.toList.take (k*size)++v.cells.toList++cells.toList.drop (k*size+size):=by
      have:=ZKp v.cells.toList 0 (k*size) cells (by simp[h1];omega);simp only[SI,TM,h1]at this;rw[<-this,<-Array.foldl_toList];simp
    simp only[Ts,S1,RQ,Instr.fill,h1,ne_eq,not_true,decide_false,Bool.false_or];rw[TK (by simp;omega)];have a:(v.cells.zipIdx.foldl (λcs (c,j)=>cs.setIfInBounds (k*size+j) c) cells).size=cells.size:=by
      rw[<-TM,d];simp[h1];omega
    have e:=ZCS vs (k+1) (v.cells.zipIdx.foldl (λcs (c,j)=>cs.setIfInBounds (k*size+j) c) cells) (λu f=>b u<|by simp[f]) (by rw[a];rw[show k+1+vs.length=k+(vs.length+1) by omega];exact h);refine e.trans ?_;rw[d];have e1:(k+1)*size=k*size+size:=(by rw[TU];omega);have e2:(k+1+vs.length)*size=k*size+size+vs.length*size:=(by simp[TU]);have e3:(k+(vs.length+1))*size=k*size+size+vs.length*size:=(by simp[TU];omega);have l:(cells.toList.take (k*size)++v.cells.toList).length=k*size+size:=(by simp[h1];omega);rw[e1,e2,e3];congr 2;rw[List.take_left' l,RL,l,T2 (by rw[l];omega)];simp[S2,Tp,TP]
theorem ZTn{α:Type}{R:Rep α}{t E n:Nat}{z:Value}{size bytes:Nat}{b:Array (Nat×Operand)}{vs:List Value}{ls:List α}(D:x.P.underlying t=some (.slice E))(N:eInfo x.P E=some (z,size,bytes))
    (O:b.toList.mapM (λp=>(evo l p.2).map λu=>(p.1,u))=some ((List.range' 0 vs.length).zip vs))(hs:vs.all (λu=>Nat.beq u.cells.size size)=true)(y:Flat H R size (vs.map (·.cells.toList)).flatten ls)
    (F:R.One)(hn:n=vs.length)(A:ls.length=vs.length)(hb:Nat.ble (n*size) 16777216=true)(S:n<=maxLen)(T:Nat.blt d x.n=true)
    (h:∀v' K',RowOf H R x.w0.heap.size E size v' ls K'->JL x ops Q rest ((d,v')::l) (K'::own) H):JL x ops Q (⟨some d,.buildSlice t n b,ty,pos,aft,none⟩::rest) l own H:=λa w g=>by
  simp only[wpLs,ZO,if_true];refine⟨λ_ _=>trivial,?_⟩;have hone:=y.one' F;obtain⟨i,hi,U,q,V,W,L⟩:=Zn N;have f:b.map (fun(i,o)=>(i,a.eval o))=((List.range' 0 vs.length).zip vs).toArray:=by
    have G:∀(ps:List (Nat×Operand)) (us:List (Nat×Value)),ps.mapM (λp=>(evo l p.2).map λu=>(p.1,u))=some us->ps.map (fun(i,o)=>(i,a.eval o))=us:=by
      intro ps;induction ps with
      |nil=>intro us e;simp at e;simp[e]
      | cons p ps X=>
        intro us e;simp only[SM]at e;cases B:evo l p.2 with
        |none=>simp[B]at e
        | some u=>
          cases j:ps.mapM (λp=>(evo l p.2).map λu=>(p.1,u))with
          |none=>simp[B,j]at e
          |some I=>simp[B,j]at e;subst e;simp[ZM g B,X I j]
    rw[<-Sr];simpa using G _ _ O
  have r:∀u∈vs,u.cells.size=size:=λu D=>by have:=Ti.1 hs u D;exact TA this
  obtain⟨C,J⟩:∃C,C=((vs.map (·.cells.toList)).flatten).toArray:=⟨_,rfl⟩;have s:((vs.map (·.cells.toList)).flatten).length=n*size:=by rw[y.length,A,hn]
  have v:(Instr.buildSlice t n<|((List.range' 0 vs.length).zip vs).toArray).run x.P w=.ok (.slice (some ⟨w.heap.size,0,none⟩) n n) (w.alloc<|.cells C E (0,0)):=by
    have c:∀cells:Array Value,cells.size=n*size->Instr.fill (λi=>some (i*size,size)) cells ((List.range' 0 vs.length).zip vs)=some C:=λcells M=>by
      rw[ZCS vs 0 cells r (by rw[M,hn];simp),J];have:cells.toList.drop ((0+vs.length)*size)= []:=T2 (by rw[TM,M,hn];simp);rw[this];simp
    have K:¬(n*i.size>2^24):=(by have:=TI hb;rw[q];omega);subst q;simp only[Instr.buildSlice,Sem.run_bind,run_underlying D,Result.andThen,Go.sizeOf,typeInfo,run_program,hi,Sem.run_pure,TK K];by_cases h0:n*i.size=0
    . simp only[h0,if_true,Sem.run_bind,Sem.run_pure,Result.andThen,Tf];have:=c (Array.map (λx=>(#[]:Array Value)[x%(#[]:Array Value).size]!)<|Array.range (n*i.size)) (by simp);simp only[h0]at this;simp only[this,newRow,Sem.run_bind,run_newObj_alloc,Result.andThen,Sem.run_pure]
    . simp only[h0,if_false,Sem.run_bind,QA (show YK x.P E=some z by simp[YK,hi,U]),Result.andThen,Sem.run_pure,Tf];have:=c (Array.map (λk=>z.cells[k%z.cells.size]!)<|Array.range (n*i.size)) (by simp);simp only[this,newRow,Sem.run_bind,run_newObj_alloc,Result.andThen,Sem.run_pure]
  have m:(execOp a.eval ⟨some d,.buildSlice t n b,ty,pos,aft,none⟩).run x.P w=.ok (.value<|.slice (some ⟨w.heap.size,0,none⟩) n n) (w.alloc<|.cells C E (0,0)):=by
    simp only[execOp,f];exact YQ v
  rw[ZV rfl,m];refine h _ [(w.heap.size,.cells C E (0,0))] ⟨(vs.map (·.cells.toList)).flatten,⟨y.length,.inr ⟨w.heap.size,n,C,by rw[A,hn],rfl,g.mem.kept.size,by rw[A,hn];exact TF _,S,?_,?_⟩⟩,y,hone⟩ _ _<|Holds.put (x:=x) (l:=l) ?_ T _
  . rw[J];simp only[Tm];exact Nat.le_of_eq s.symm
  . rw[J,A,<-hn,<-s,Tf];exact RN
  . exact⟨g.size,g.ds,g.slots,by simpa using g.mem.go0 (K':=[[(w.heap.size,.cells C E (0,0))]]) (by simpa using Mem.alloc g.mem.agr (.cells C E (0,0)))⟩
end ops
theorem ZKc (h:JL x ops Q rest l ([]::own) H):JL x ops Q rest l own H:=λa w b=>h a w ⟨b.size,b.ds,b.slots,by simpa using b.mem⟩
theorem ZOB{c:Code}(h:JC x c Q l ([]::own) H):JC x c Q l own H:=λa w b=>h a w ⟨b.size,b.ds,b.slots,by simpa using b.mem⟩
theorem KG{K:Act->World->Prop}(h:JN x K l ([]::own) H):JN x K l own H:=λa w b=>h a w ⟨b.size,b.ds,b.slots,by simpa using b.mem⟩
theorem Holds.forget{i:Nat}{a:Act}{w:World}(h:Holds x l own H a w):Holds x l (own.eraseIdx i) H a w:=by
  refine⟨h.size,h.ds,h.slots,?_⟩;have k:∀(o:List Own) (i:Nat),(o.eraseIdx i).flatten.Sublist o.flatten:=by
    intro o;induction o with
    |nil=>intro i;simp
    | cons s o c=>
      intro i;cases i with
      |zero=>simp
      |succ i=>simpa using c i
  have hs:=k own i;exact⟨h.mem.agr,⟨λp b=>h.mem.ok.here p<|hs.subset b,(hs.map _).nodup h.mem.ok.nodup,λp b=>h.mem.ok.apart p<|hs.subset b⟩,h.mem.kept,λp b=>h.mem.fresh p<|hs.subset b,h.mem.le,h.mem.grow,h.mem.soft⟩
theorem JN.forget{K:Act->World->Prop}(i:Nat)(h:JN x K l (own.eraseIdx i) H):JN x K l own H:=λa w b=>h a w b.forget
theorem JC.forget{c:Code}(i:Nat)(h:JC x c Q l (own.eraseIdx i) H):JC x c Q l own H:=λa w b=>h a w b.forget
theorem JL.forget (i:Nat)(h:JL x ops Q rest l (own.eraseIdx i) H):JL x ops Q rest l own H:=λa w b=>h a w b.forget
theorem Mem.pub0{w0:World}{H0:Heaplet}{S:List Nat}{w:World}{i g:Nat}{cur:Array Value}{t:TypeId}{j:Nat×Nat}(f:Mem w0 H0 S own.flatten H w)(hi:own[i]? =some [(g,.cells cur t j)])(s:FrOk cur.size j:=by exact .inl rfl):
 Mem w0 H0 S (own.set i []).flatten (λb o=>if b=g then cur[o]? else H b o) w:=by
 have m:=XJ hi;have d:=XZ (seg':=[]) hi;have c:=f.ok.perm m;have l:=c.here (g,.cells cur t j) (by simp);have n:∀o,H g o=none:=λo=>c.apart (g,.cells cur t j) (by simp) o;have k:∀p∈(own.eraseIdx i).flatten,p.1≠g:=λp a e=>by
  have:=c.nodup;simp only[ids,RB,Sy,Tp,SR]at this;exact this.1<|e▸Sb a
 have q:Hle H (λb o=>if b=g then cur[o]? else H b o):=λb o v e=>by
  by_cases hb:b=g
  . subst hb;rw[n]at e;cases e
  . simp[hb,e]
 refine⟨λb o v e=> ?_,⟨λp a=> ?_,?_,λp a o=> ?_⟩,f.kept,λp a=> ?_,f.le.trans q,λb o hb=> ?_,λb o v h0 h1=> ?_⟩
 . by_cases hb:b=g
   . subst hb;simp at e;rw[cell_of_row w b o cur t j l];exact e
   . simp[hb]at e;exact f.agr b o v e
 . have:=d.mem_iff.1 a;simp at this;exact c.here p<|by simp[this]
 . refine((d.map _).nodup_iff).2 ?_;have:=c.nodup;simp only[ids,RB,Sy,Tp,SR]at this;simpa using this.2
 . have:=d.mem_iff.1 a;simp at this;have r:=k p (by simpa using this);simp[r];exact c.apart p (by simp[this]) o
 . have:=d.mem_iff.1 a;simp at this;exact f.fresh p<|m.mem_iff.2<|by simp[this]
 . have:b≠g:=λe=>by
    subst e;rcases f.fresh (b,.cells cur t j) (m.mem_iff.2<|by simp)with h|h
    . exact hb.2 h
    . have:=hb.1;simp only at h;omega
   simp[this,f.grow b o hb]
 . by_cases hb:b=g
   . subst hb;exact⟨cur,t,j,l,s⟩
   . simp only[TK hb]at h1;exact f.soft b o v h0 h1
theorem Mem.pub{w0:World}{H0:Heaplet}{S:List Nat}{w:World}{i g:Nat}{cur:Array Value}{t:TypeId}{f:Nat×Nat}(h:Mem w0 H0 S own.flatten H w)(hi:own[i]? =some [(g,.cells cur t f)])(c:w0.heap.size<=g)(a:FrOk cur.size f:=by exact .inl rfl):
 Mem w0 H0 S (own.set i []).flatten (λb o=>if b=g then cur[o]? else H b o) w:=Mem.pub0 h hi a
theorem Holds.pub0{α:Type}{R:Rep α}(m:R.Mono){i:Nat}{K:Own}{B:Nat}{E:TypeId}{size:Nat}{v:Value}{ls:List α}(hi:own[i]? =some K)(n:RowOf H R B E size v ls K)
 {a:Act}{w:World}(h:Holds x l own H a w):∃f,Hle H f/\IsSlice f R size v ls/\Holds x l (own.set i []) f a w:=by
 obtain⟨cells,⟨h0,h1⟩,p,s⟩:=n;rcases h1 with⟨rfl,h3,rfl⟩|⟨g,cap,cur,rfl,rfl,e3,e4,e5,e6,e7⟩
 . have:ls= []:=TT.1 h3;subst this;exact⟨H,Rz _,IsSlice.nil _ _ _,h.size,h.ds,h.slots,by
    have e:own.set i []=own:=by
     apply Tl;intro j;rw[T3];split
     . rename_i c;subst c;rw[hi];split
       . rfl
       . rename_i q;have:=(TC.1 hi).1;omega
     . rfl
    rw[e];exact h.mem⟩
 . have r:=Mem.pub0 h.mem hi;have k:∀o,H g o=none:=λo=>(Zm h.mem hi).apart (g,.cells cur E (0,0)) (by simp) o;have d:Hle H (λb o=>if b=g then cur[o]? else H b o):=λb o v e=>by
    by_cases hb:b=g
    . subst hb;rw[k]at e;cases e
    . simp[hb,e]
   refine⟨_,d,?_,h.size,h.ds,h.slots,r⟩;refine PL (p.mono m d) e4 e5 λj u c=> ?_;rw[<-e7,TX]at c;split at c
   . simpa using c
   . cases c
theorem Holds.pub{α:Type}{R:Rep α}(h:R.Mono){i:Nat}{K:Own}{B:Nat}{E:TypeId}{size:Nat}{v:Value}{ls:List α}(hi:own[i]? =some K)(c:RowOf H R B E size v ls K)(e:x.w0.heap.size<=B)
 {a:Act}{w:World}(d:Holds x l own H a w):∃b,Hle H b/\IsSlice b R size v ls/\Holds x l (own.set i []) b a w:=d.pub0 h hi c
theorem JN.pub0{C:Act->World->Prop}{α:Type}{R:Rep α}(i:Nat)(c:R.Mono){K:Own}{B:Nat}{E:TypeId}{size:Nat}{v:Value}{ls:List α}(hi:own[i]? =some K)(d:RowOf H R B E size v ls K)
 (h:∀b,Hle H b->IsSlice b R size v ls->JN x C l (own.set i []) b):JN x C l own H:=λa w e=>by
 obtain⟨b,h1,h2,h3⟩:=e.pub0 c hi d;exact h b h1 h2 a w h3
theorem JL.pub{α:Type}{R:Rep α}(i:Nat)(c:R.Mono){K:Own}{B:Nat}{E:TypeId}{size:Nat}{v:Value}{ls:List α}(hi:own[i]? =some K)(d:RowOf H R B E size v ls K)(e:x.w0.heap.size<=B)
 (h:∀b,Hle H b->IsSlice b R size v ls->JL x ops Q rest l (own.set i []) b):JL x ops Q rest l own H:=λa w f=>by
 obtain⟨b,h1,h2,h3⟩:=f.pub c hi d e;exact h b h1 h2 a w h3
variable{x:Cx}{ops:Array Oper}{Q:Exit->Act->World->Prop}{rest:List Oper}{l:Slots}{own:List Own}{H:Heaplet}
theorem IsSlice.val{α:Type}{R:Rep α}{size:Nat}{v:Value}{m:List α}(h:IsSlice H R size v m):∃ao cap,v=.slice ao m.length cap:=by
 obtain⟨ao,cap,e,_⟩:=h;exact⟨ao,cap,e⟩
theorem RowOf.val{α:Type}{R:Rep α}{B:Nat}{E:TypeId}{size:Nat}{v:Value}{ls:List α}{K:Own}(h:RowOf H R B E size v ls K):∃ao cap,v=.slice ao ls.length cap:=by
 obtain⟨ao,cap,e,_⟩:=h.len;exact⟨ao,cap,e⟩
theorem IsSlice.sub{α:Type}{R:Rep α}{size:Nat}{ao:Option Addr}{n cap:Nat}{m:List α}(h:IsSlice H R size (.slice ao n cap) m)(lo hi mx:Nat)(h1:lo<=hi)(h2:hi<=m.length)(h3:hi<=mx)(x:mx<=cap):
    IsSlice H R size (sliced ao lo hi mx size) ((m.drop lo).take (hi-lo)):=by
  obtain⟨q,l,e,e1,e2,e3,e4,e5⟩:=h;simp only[Value.slice.injEq]at e;obtain⟨rfl,rfl,rfl⟩:=e;have c:((m.drop lo).take (hi-lo)).length=hi-lo:=by simp;omega
  unfold sliced;refine⟨if mx=lo then ao else ao.map (·.add (lo*size)),mx-lo,by rw[c],by rw[c];omega,by omega,?_,?_,?_⟩
  . intro a d;split at d
    . rename_i p;exact .inl<|by omega
    . rename_i p;cases ao with
      |none=>simp at d
      | some b=>
        simp at d;subst d;have r:=(e3 b rfl).resolve_left<|by omega
        right;unfold Addr.add;split
        . exact r
        . rfl
  . intro d;split at d
    . rename_i p;omega
    . cases ao with
      |none=>have:=e4 rfl;omega
      |some b=>simp at d
  . intro i y f;have g:i<hi-lo:=(by have:=(TC.1 f).1;omega);rw[TX]at f;simp[g,SF]at f;obtain⟨b,o,cs,rfl,s,t,v⟩:=e5 (lo+i) y f;have k:¬mx=lo:=(by omega);refine⟨b,o+lo*size,cs,by simp[k],s,t,λj u w=> ?_⟩;have:=v j u w;rw[TU]at this;rw[show o+lo*size+i*size+j=o+(lo*size+i*size)+j by omega];exact this
theorem ZRR{P:Program}{t e:TypeId}(h:P.underlying t=some (.slice e)):P.underlying t=some (.slice<|P.elem t)/\P.elem t=e:=by
 have:P.elem t=e:=by simp[Program.elem,h]
 exact⟨by rw[this];exact h,this⟩
section ops
variable{ty:TypeId}{d:Nat}{pos:String}{aft:Array Edge}{v:Value}{α:Type}{R:Rep α}{size:Nat}{g:Bool}{t e:TypeId}{ao:Option Addr}{n cap:Nat}{m:List α}{p:Operand}
def bnd (l:Slots)(o:Option Operand)(d:Nat)(k:Nat):Prop:=
 match o with
 |none=>k=d
 |some q=>∃a i,evo l q=some (.int a i)/\i=(k:Int)
theorem ZNV{P:Program}(y:P.underlying t=some (.slice e))(hs:ZE P e=some (g,size))(ρ:Operand->Value){l:Slots}(d:∀o u,evo l o=some u->ρ o=u)(lo hi mx:Option Operand)(a b c:Nat)
 (h1:bnd l lo 0 a)(h2:bnd l hi n b)(h3:bnd l mx cap c)(z:a<=b)(A:b<=c)(D:c<=cap)(m:mx=none\/hi≠none)(w:World):
 (Instr.sliceAt t (.slice ao n cap) (lo.map ρ) (hi.map ρ)<|mx.map ρ).run P w=.ok (sliced ao a b c size) w:=by
 obtain⟨f,k⟩:=ZRR y;have i:=run_sizeOf hs w;rw[run_sliceAt_slice _ _ _ _ _ _ f];rcases lo with _|lo<;>rcases hi with _|hi<;>rcases mx with _|mx<;>simp only[bnd]at h1 h2 h3
 . subst h1 h2 h3;simp only[Option.map_none];rw[run_slice_all (ht:=f),k,i];rfl
 . rcases m with h|h<;>simp at h
 . obtain⟨q,r,j,rfl⟩:=h2;subst h1 h3;simp only[Option.map_none,S7,d _ _ j];rw[run_slice_h (ht:=f) (h0:=by omega) (h2:=by omega),k,i];rfl
 . obtain⟨q,r,j,rfl⟩:=h2;obtain⟨B,C,s,rfl⟩:=h3;subst h1;simp only[Option.map_none,S7,d _ _ j,d _ _ s];rw[run_slice_hm (ht:=f) (h0:=by omega) (h2:=by omega) (h3:=by omega),k,i];rfl
 . obtain⟨v,x,p,rfl⟩:=h1;subst h2 h3;simp only[Option.map_none,S7,d _ _ p];rw[run_slice_l (ht:=f) (h0:=by omega) (h1:=by omega),k,i];rfl
 . rcases m with h|h<;>simp at h
 . obtain⟨v,x,p,rfl⟩:=h1;obtain⟨q,r,j,rfl⟩:=h2;subst h3;simp only[Option.map_none,S7,d _ _ p,d _ _ j];rw[run_slice_lh (ht:=f) (h0:=by omega) (h1:=by omega) (h2:=by omega),k,i];rfl
 . obtain⟨v,x,p,rfl⟩:=h1;obtain⟨q,r,j,rfl⟩:=h2;obtain⟨B,C,s,rfl⟩:=h3;simp only[S7,d _ _ p,d _ _ j,d _ _ s];rw[run_slice_lhm (ht:=f) (h0:=by omega) (h1:=by omega) (h2:=by omega) (h3:=by omega),k,i];rfl
def bs (l:List UInt8):ByteArray:=⟨l.toArray⟩
theorem ZMy (ls:List UInt8):∀a:ByteArray,(ls.map λb=>(b.toNat:Int)).foldl (λr n=>r.push<|UInt8.ofNat n.toNat) a=⟨a.data++ls.toArray⟩:=by
  induction ls with
  |nil=>intro a;simp
  | cons b ls i=>
    intro a;simp only[Tp,RH];rw[i];simp[ByteArray.push,Array.push_append]
theorem ZOL{P:Program}{w:World}{s t e:TypeId}(hs:P.underlying s=some (.slice e))(f:P.underlying e=some (.int .u8))(ht:P.underlying t=some .string){v:Value}{l:List UInt8}
 (g:∃ao cap,v=.slice ao l.length cap/\(l= []\/∃b o,ao=some ⟨b,o,none⟩/\∀j u,(bvs l)[j]? =some u->w.cell? ⟨b,o+j,none⟩=some u)):
 (convert s t v).run P w=.ok (.string<|bs l) w:=by
 obtain⟨ao,cap,rfl,d⟩:=g;rw[run_convert_bytes_string w s t e ao l.length cap hs f ht];have c:∀a,(∀j u,(bvs l)[j]? =some u->w.cell? (a.add j)=some u)->(Conv.bytesToString<|.slice (some a) l.length cap).run P w=.ok (.string<|bs l) w:=λa i=>by
  have h:=run_loadCells_list (P:=P) (w:=w) a (bvs l) i;rw[show(bvs l).length=l.length by simp[bvs]]at h;rw[run_bytesToString w a l.length cap (l.map λb=>(b.toNat:Int)) (by rw[h];simp[bvs])];rw[ZMy];simp[bs]
 rcases d with rfl|⟨b,o,rfl,d⟩
 . cases ao with
   |none=>simp[Conv.bytesToString,bs,go_sem];rfl
   |some a=>exact c a λj u h=>by simp[bvs]at h
 . exact c ⟨b,o,none⟩ λj u h=>by rw[add_lit];exact d j u h
theorem ZSa (a b:List UInt8):((bs a).toList==(bs b).toList)=decide (a=b):=by
 simp only[bs,ByteArray.toList_mk];rw[Sm];simp
theorem Xa{α:Type}{R:Rep α}{size:Nat}{z:List Value}{y:α}(h:R H z y)(a:z.length=size):∀n,Flat H R size (List.replicate n z).flatten (List.replicate n y)
 |0=>rfl
 |n+1=>⟨z,(List.replicate n z).flatten,rfl,a,h,Xa h a n⟩
theorem Yu (z:Array Value)(n:Nat)(h:0<z.size):(madeCells z (n*z.size)).toList=(List.replicate n z.toList).flatten:=by
  unfold madeCells;induction n with
  |zero=>simp
  | succ n i=>
    rw[List.replicate_succ',TW,<-i];simp only[TP,RM,Th];rw[show(n+1)*z.size=n*z.size+z.size by rw[TU];omega];apply Tl;intro j;simp only[Array.toList_map,Array.toList_range,SN,List.getElem?_append,RV,List.length_range];by_cases h1:j<n*z.size
    . have h2:j<n*z.size+z.size:=(by omega);simp[h1,h2,Rm]
    . by_cases h2:j<n*z.size+z.size
      . have e:j%z.size=j-n*z.size:=by
          have:j=(j-n*z.size)+n*z.size:=(by omega);rw[this,Nat.add_mul_mod_self_right,Tt<|by omega];omega
        have h3:j-n*z.size<z.size:=(by omega);simp[h1,h2,Rm,e,h3]
      . have h3:¬j-n*z.size<z.size:=(by omega);simp[h1,h2,Rm,h3]
theorem ZSc{E:TypeId}{z:Value}{bytes N:Nat}{q:Operand}{s u:IntKind}{y:α}(B:x.P.underlying t=some (.slice E))(C:eInfo x.P E=some (z,size,bytes))(h1:evo l p=some (.int s N))(h2:evo l q=some (.int u N))
 (D:R H z.cells.toList y)(k:R.One)(hb:bytes*N<=281474976710656)(v:N<=maxLen)(F:Nat.blt d x.n=true)
 (h:∀ao cap K',RowOf H R x.w0.heap.size E size (.slice ao N cap) (List.replicate N y) K'->JL x ops Q rest ((d,.slice ao N cap)::l) (K'::own) H):JL x ops Q (⟨some d,.makeSlice t p q,ty,pos,aft,none⟩::rest) l own H:=λa w c=>by
 simp only[wpLs,ZO,if_true];refine⟨λ_ _=>trivial,?_⟩;obtain⟨i,hi,G,m,o,g,A⟩:=Zn C;subst m;subst o
 have r:(i.bytes:Int)*(N:Int)<=281474976710656:=by
  have h:((i.bytes*N:Nat):Int)<=281474976710656:=by omega
  rwa[S6]at h
 have e:=run_make (P:=x.P) w t E i z B hi G s u N N (by omega) (SA _) r (by simp only[maxLen]at v;omega);simp only[T4]at e;have e1:=ZM c h1;have e2:=ZM c h2;generalize a.eval=ρ at e1 e2;have f:(execOp ρ ⟨some d,.makeSlice t p q,ty,pos,aft,none⟩).run x.P w=.ok (.value<|.slice (some ⟨w.heap.size,0,none⟩) N N) (w.alloc<|.cells (madeCells z.cells (N*i.size)) E):=by
  simp only[execOp,e1,e2];exact YQ e
 rw[ZV rfl,f];have j:(madeCells z.cells (N*i.size)).toList=(List.replicate N z.cells.toList).flatten:=by rw[<-g];exact Yu z.cells N<|by omega
 have b:=Xa (R:=R) (H:=H) (size:=i.size) D (by simpa using g) N;refine h _ _ [(w.heap.size,.cells (madeCells z.cells (N*i.size)) E (0,0))] ⟨(List.replicate N z.cells.toList).flatten,⟨by rw[b.length],.inr ⟨w.heap.size,N,_,by simp,rfl,c.mem.kept.size,by simp,v,?_,?_⟩⟩,b,b.one' k⟩ _ _<|Holds.put (x:=x) (l:=l) ?_ F _
 . rw[<-TM,j,b.length];simp
 . rw[j];simp only[SG];rw[TZ (by rw[b.length];simp)]
 . exact⟨c.size,c.ds,c.slots,by simpa using c.mem.go0 (K':=[[(w.heap.size,.cells (madeCells z.cells (N*i.size)) E (0,0))]]) (by simpa using Mem.alloc c.mem.agr (.cells (madeCells z.cells (N*i.size)) E (0,0)))⟩
end ops
variable{x:Cx}{ops:Array Oper}{Q:Exit->Act->World->Prop}{rest:List Oper}{l:Slots}{own:List Own}{H:Heaplet}
theorem Mem.putObj{w:World}{H:Heaplet}{b:Nat}{o:Obj}(g:Agrees H w)(hb:w.heap[b]? =some o)(a:∀k,H b k=none)(o':Obj):
 Mem w H [b] [(b,o')] H (w.putObj b o'):=by
 have c:=(TV.1 hb).1;refine⟨λf off v e=> ?_,⟨?_,by simp[ids],λp h off=> ?_⟩,⟨rfl,rfl,rfl,by simp,TF _,λk j hn=>World.putObj_heap_other<|by simpa using hn⟩,λp h=>.inl (by simp at h;simp[h]),Rz _,λ_ _ _=>rfl,PF⟩
 . have:=g f off v e;rw[World.cell?_of_block (w:=w) (World.putObj_heap_other λi=>by have d:f=b:=i;subst d;rw[a]at e;cases e)];exact this
 . intro p h;simp at h;subst h;exact World.putObj_heap_same c
 . simp at h;subst h;exact a off
def Yields (P:Program)(l:Nat)(args:Array Value)(w:World)(R:Ending->World->Prop):Prop:=
 ∃fn tmps assign body,(Instr.yield l args).run P w=.ok (.round l fn tmps assign body) w/\RoundIn Fence.wide 0 P l fn tmps assign body w R
abbrev RepA (α:Type):=List α->Heaplet->Array Value->α->Prop
def YSpec{α:Type}(P:Program)(l:Nat)(RA:RepA α)(I X:List α->List Own->Heaplet->Prop):Prop:=
  ∀ pre y args o H w,I pre o H->RA pre H args y->Agrees H w->OwnOk H o.flatten w->
    Yields P l args w λe c=>∃b o' a,e=.returned (.bool b)/\Mem w H (ids o.flatten) o'.flatten a c/\(if b then I (pre++ [y]) o' a else X (pre++ [y]) o' a)
def Iter{α:Type}(P:Program)(f:FuncId)(cap:Array Value)(H:Heaplet)(RA:RepA α)(S Sp:List α->Prop):Prop:=
  ∀ l I X o,YSpec P l RA I X->I [] o H->
    Does P f (#[.func (.yield l) #[] #[]]++cap) o H λ_ K' a=>Hle H a/\((∃xs,S xs/\I xs K' a)\/(∃xs,Sp xs/\X xs K' a))
section ops
variable{ty:TypeId}{d:Nat}{pos:String}{aft:Array Edge}{v:Value}
theorem ZDo{α:Type}{RA:RepA α}{I X:List α->List Own->Heaplet->Prop}{q:Nat}{c:Operand}{as:Array Operand}{ts:Array TypeId}{vs:List Value}{mine o:List Own}{pre:List α}(y:α)
 (z:YSpec x.P q RA I X)(A:evo l c=some (.func (.yield q) #[] #[]))(B:as.toList.mapM (evo l)=some vs)(hI:I pre o H)(C:RA pre H vs.toArray y)(k:own=mine++o)(v:Nat.blt d x.n=true)
 (D:∀o' f,Hle H f->I (pre++ [y]) o' f->JL x ops Q rest ((d,.bool true)::l) (mine++o') f)
 (E:∀o' f,Hle H f->X (pre++ [y]) o' f->JL x ops Q rest ((d,.bool false)::l) (mine++o') f):
 JL x ops Q (⟨some d,.call ⟨.value c,as,ts⟩,ty,pos,aft,none⟩::rest) l own H:=λa w h=>by
 subst k;simp only[wpLs,ZO,if_true];refine⟨λ_ _=>trivial,?_⟩;have s:=h.mem;rw[TW]at s;have t:=PM s.ok;obtain⟨fn,tmps,assign,body,i,g⟩:=z pre y vs.toArray o H w hI C s.agr t;have m:(execOp a.eval ⟨some d,.call ⟨.value c,as,ts⟩,ty,pos,aft,none⟩).run x.P w=.ok (.round q fn tmps assign body) w:=by
  have e1:=ZM h A;have e2:=UE (λo u e=>ZM h e) B;simp only[execOp,resolve,e1,e2,Deferred.ofValue,Sem.run_bind,Sem.run_pure,Result.andThen,invoke];simpa using i
 rw[ZV rfl,m];show(_->_)/\RoundIn _ _ _ _ _ _ _ _ _ _;refine⟨λe=>by simp[Fw]at e,?_⟩;refine RoundIn.mono (show RoundIn (Fw x.r) (0-1) x.P q fn tmps assign body w _ from g) ?_;rintro e F ⟨b,o',f,rfl,j,hb⟩;have p:Mem x.w0 x.H0 x.S (mine++o').flatten f F:=by
  rw[TW];exact(s.go (K:=o.flatten) (rst:=mine.flatten) Tc j).perm Tc
 cases b with
 |true=>exact D o' f j.le (by simpa using hb) _ _ (Holds.put (x:=x) (l:=l) ⟨h.size,h.ds,h.slots,p⟩ v _)
 |false=>exact E o' f j.le (by simpa using hb) _ _<|Holds.put (x:=x) (l:=l) ⟨h.size,h.ds,h.slots,p⟩ v _
end ops
def mark (D:Nat):Deferred:={target:=.collected D,args:=#[]}
theorem puts_holds{x:Cx}{own:List Own}{H:Heaplet}{w:World}(n:Nat):∀(ps:List Tmp) (vs:List Value) (t:Array Value) (l:Slots),t.size=n->ps.all (λp=>Nat.blt p n)=true->
    (∀i v,lk l i=some v->(t[i]?).getD undef=v)->
    ((ps.zip vs).foldl (λt (p,v)=>t.setIfInBounds p v) t).size=n/\
    ∀i v,lk ((ps.zip vs).reverse++l) i=some v->(((ps.zip vs).foldl (λt (p,v)=>t.setIfInBounds p v) t)[i]?).getD undef=v
  |[],_,t,l,hn,_,b=>by simpa using⟨hn,b⟩
  |p::ps,[],t,l,hn,_,b=>by simpa using⟨hn,b⟩
  | p ::ps,u::vs,t,l,hn,a,b=>by
    simp only[RY,TD]at a;have c:p<t.size:=(by rw[hn];exact Tj (SD p)<|TI a.1);have:=puts_holds (x:=x) (own:=own) (H:=H) (w:=w) n ps vs (t.setIfInBounds p u) ((p,u)::l) (by simpa using hn) a.2 (λi v e=>by
      simp only[lk]at e;cases hb:Nat.beq p i with
      | true=>
        have:p=i:=TA hb;subst this;rw[hb]at e;simp at e;subst e;simp[c]
      | false=>
        have:p≠i:=(by intro h;subst h;simp at hb);rw[hb]at e;have:=b i v e;simp[Ra, *])
    simpa using this
def RetM (x:Cx)(fn:Func)(R:Value->List Own->Heaplet->Prop):Exit->Act->World->Prop:=
 bodyPostM Fence.wide 0 x.P fn λe w=>∃v K' H,e=.returned v/\R v K' H/\Mem x.w0 x.H0 x.S K'.flatten H w
theorem Mem.sub{w0 w:World}{H0 H:Heaplet}{S:List Nat}{o o':Own}(h:Mem w0 H0 S o H w)(hs:o'.Sublist o):Mem w0 H0 S o' H w:=
 ⟨h.agr,⟨λp a=>h.ok.here p<|hs.subset a,(hs.map _).nodup h.ok.nodup,λp a=>h.ok.apart p<|hs.subset a⟩,h.kept,λp a=>h.fresh p<|hs.subset a,h.le,h.grow,h.soft⟩
section orders
variable{F:Fence}{n:Nat}{P:Program}{md:Region.Mode}{ops:Array Oper}{Q:Exit->Act->World->Prop}{S:World->Prop}
def wpAS (F:Fence)(n:Nat)(P:Program)(md:Region.Mode)(ops:Array Oper)(Q:Exit->Act->World->Prop)(S:World->Prop):Nat->Array Bool->Act->World->Prop
  |0,listed,a,w=>Region.ready md ops listed= []/\Q .normal a w
  | fuel+1,listed,a,w=>(Region.ready md ops listed= []->Q .normal a w)/\
    ∀i∈Region.ready md ops listed,wpOpIn F n P ops Q i (λc b=>S b/\wpAS F n P md ops Q S fuel (listed.setIfInBounds i true) c b) a w
theorem ZGO:∀(fuel:Nat) (listed:Array Bool) (a:Act) (w:World),wpAS F n P md ops Q S fuel listed a w->wpAnyIn F n P md ops Q fuel listed a w
 |0,_,_,_,h=>h
 |fuel+1,listed,a,w,h=>⟨h.1,λi hi=>wpOpIn_mono (λb c d=>ZGO fuel _ b c d.2)<|h.2 i hi⟩
def YieldsS (P:Program)(ops:Array Oper)(S:World->Prop)(o:Oper)(v:Value)(a:Act):Prop:=
 (Region.wanted o (yielded ops a.tmps)=true/\∀w,S w->(execOp a.eval o).run P w=.ok (.value v) w)\/(Region.wanted o (yielded ops a.tmps)=false/\v=undef)
theorem YieldsS.of_same{o:Oper}{v:Value}{a b:Act}(h:YieldsS P ops S o v a)(c:execOp b.eval o=execOp a.eval o)
 (d:Region.wanted o (yielded ops b.tmps)=Region.wanted o (yielded ops a.tmps)):YieldsS P ops S o v b:=by
 unfold YieldsS at*;rw[c,d];exact h
theorem YieldsS.op (c:∀f,F.fn f){i:Nat}{o:Oper}{v:Value}{a:Act}(hi:ops[i]? =some o)(hn:noDefer o.op=true)(d:YieldsS P ops S o v a)
 {K:Act->World->Prop}{w:World}(e:S w)(h:K (a.put o.dst v) w):wpOpIn F n P ops Q i K a w:=by
 unfold wpOpIn;simp only[hi];rcases d with⟨b,g⟩|⟨b,rfl⟩
 . simp only[b,if_true];refine⟨λf _=>c f,?_⟩;rw[ZV hn,g w e];exact h
 . simp only[b,Rf,if_false];exact⟨λf _=>c f,h⟩
theorem ZEf (C:∀f,F.fn f){j:Nat}{o g:Oper}{v:Value}(E:ops[j]? =some g)(s:o.apart ops g=true)(t:∀cs b,o.op≠.select cs b)(y:∀cs b,g.op≠.select cs b)
    (p:noDefer g.op=true)(z:∀c a w,Q (.panic c) (a.put o.dst v) w->Q (.panic c) a w){K:Act->World->Prop}{a:Act}{w:World}
    (i:YieldsS P ops S o v a)(h:wpOpIn F n P ops Q j K (a.put o.dst v) w):
    wpOpIn F n P ops Q j (λD A=>YieldsS P ops S o v D/\K (D.put o.dst v) A) a w:=by
  obtain⟨h1,h2,h3⟩:=Oper.apart_spec s;have k:∀(a:Act),YieldsS P ops S o v a->∀u,YieldsS P ops S o v (a.put g.dst u):=λa i u=>
    i.of_same (execOp_put o t a g.dst u h3) (wanted_put o a g.dst u h3)
  unfold wpOpIn at*;simp only[E]at*;rw[wanted_put g a o.dst v h1]at h;split
  . rename_i B;simp only[B,if_true]at h;refine⟨λf _=>C f,?_⟩;have h:=h.2;rw[ZV p,execOp_put g y a o.dst v h1]at h;rw[ZV p];generalize G:(execOp a.eval g).run P w=r at*;cases r with
    | ok x A=>
      cases x<;>simp only[Oper.uponIn]at h|-
      case value u=>exact⟨k a i u,by rw[<-Act.put_comm a v u h2];exact h⟩
      case skip=>exact⟨k a i _,by rw[<-Act.put_comm a v undef h2];exact h⟩
      case defer d=>
        refine⟨k {a with defers:=d::a.defers} (i.of_same rfl rfl) _,?_⟩;rw[<-Act.put_comm _ v undef h2,<-Act.put_defers];exact h
      case enter f args=>
        refine⟨h.1,CallsIn.mono h.2 λe q m=> ?_⟩;cases e with
        |returned u=>exact⟨k a i u,by rw[<-Act.put_comm a v u h2];exact m⟩
        |panicked c=>exact z _ _ _ m
        |outgrown=>exact m
      case row row args=>exact⟨h.1,RowsIn.mono h.2 λu q m=>⟨k a i u,by rw[<-Act.put_comm a v u h2];exact m⟩⟩
      case round l f tmps assign body=>
        refine⟨h.1,RoundIn.mono h.2 λe q m=> ?_⟩;cases e with
        |returned u=>exact⟨k a i u,by rw[<-Act.put_comm a v u h2];exact m⟩
        |panicked c=>exact z _ _ _ m
        |outgrown=>exact m
    | halt x A=>
      cases x<;>simp only[Oper.uponIn]at h|-
      case panic u=>exact z _ _ _ h
  . rename_i B;simp only[B]at h;exact⟨λf _=>C f,k a i _,by rw[<-Act.put_comm a v undef h2];exact h.2⟩
theorem ZMO (E:∀f,F.fn f){i:Nat}{t:Oper}{v:Value}(hi:ops[i]? =some t)(q:∀(j:Nat) (o:Oper) cs b,ops[j]? =some o->o.op≠.select cs b)
    (g:∀(j:Nat) (o:Oper),ops[j]? =some o->noDefer o.op=true)(L:∀c a w,Q (.panic c) (a.put t.dst v) w->Q (.panic c) a w):
    ∀ (fuel:Nat) (listed:Array Bool) (a:Act) (w:World),
      (∀j r,ops[j]? =some r->j≠i->listed.getD j true=false->(∀e∈r.after,Region.binds md e=true->e.on≠i)->t.apart ops r=true)->
      i∈Region.ready md ops listed->YieldsS P ops S t v a->S w->
      wpAS F n P md ops Q S fuel (listed.setIfInBounds i true) (a.put t.dst v) w->wpAS F n P md ops Q S (fuel+1) listed a w:=by
  intro fuel;induction fuel with
  | zero=>
    intro listed a w _ u C x H;refine⟨λh=>(by rw[h]at u;cases u),λj D=> ?_⟩;by_cases d:j=i
    . subst d;exact C.op E hi (g _ _ hi) x ⟨x,H⟩
    . have:=ready_mono D d;rw[H.1]at this;cases this
  | succ fuel M=>
    intro listed a w l u C x H;refine⟨λh=>(by rw[h]at u;cases u),λj D=> ?_⟩;by_cases d:j=i
    . subst d;exact C.op E hi (g _ _ hi) x ⟨x,H⟩
    . have h1:=H.2 j<|ready_mono D d;obtain⟨s,r,m,y⟩:=mem_ready.1 D;have z:∀e∈r.after,Region.binds md e=true->e.on≠i:=λe N hb G=>by
        have h1:=y e N hb;have h0:=(mem_ready.1 u).1;rw[G]at h1;rcases SZ i listed.size with I|I
        . simp[I]at h0 h1;rw[h0]at h1;cases h1
        . simp[Sh I]at h1
      have h2:=ZEf E m (l j r m d s z) (λcs b=>q i t cs b hi) (λcs b=>q j r cs b m) (g j r m) L C h1;have p:∀k ok,ops[k]? =some ok->k≠i->(listed.setIfInBounds j true).getD k true=false->
          (∀e∈ok.after,Region.binds md e=true->e.on≠i)->t.apart ops ok=true:=λk ok O J A K=>by
        refine l k ok O J ?_ K;by_cases B:j=k
        . subst B;exact s
        . rw[getD_set_ne true B]at A;exact A
      refine wpOpIn_mono (λR T h3=>⟨h3.2.1,M (listed.setIfInBounds j true) R T p (ready_mono u<|Ne.symm d) h3.1 h3.2.1 ?_⟩) h2;rw[Array.setIfInBounds_comm _ _ d];exact h3.2.2
end orders
variable{x:Cx}{ops:Array Oper}{Q:Exit->Act->World->Prop}{l:Slots}{own:List Own}{H:Heaplet}
def Calm (Q:Exit->Act->World->Prop):Prop:=∀c a b w,Q (.panic c) a w->Q (.panic c) b w
def JA (x:Cx)(ops:Array Oper)(Q:Exit->Act->World->Prop)(so:List Own)(sH:Heaplet)(fuel:Nat)(listed:Array Bool)(l:Slots)(own:List Own)(H:Heaplet):Prop:=
 ∀a w,Holds x l own H a w->wpAS (Fw x.r) 0 x.P .any ops Q (Stab so sH) fuel listed a w
def onlyN (K:Act->World->Prop):Exit->Act->World->Prop
 | .normal,a,w=>K a w
 |_,_,_=>False
theorem Zu (K:Act->World->Prop):Calm (onlyN K):=λ_ _ _ _ h=>h
def SubO:List Own->List Own->Prop
 |[],_=>True
 |s::r,own=>(∃i:Nat,own[i]? =some s)/\SubO r own
theorem ZKd{so:List Own}(N:Nat){id:Nat}(f:ops.size=N)(g:x.P.follows .mixedOrders=true)(_hso:SubO so own)(h:JA x ops (onlyN<|Q .normal) so H N (Array.replicate N false) l own H):JC x (.region id ops true) Q l own H:=λa w d=>by
 subst f;refine wpIn_mono (Q:=onlyN<|Q .normal) (wpIn_region_any g<|ZGO _ _ _ _<|h a w.drew ⟨d.size,d.ds,d.slots,d.mem.drew⟩) ?_;intro e a w b;cases e with
 |normal=>exact b
 |exit id=>exact b.elim
 |goto t=>exact b.elim
 |ret=>exact b.elim
 |panic c=>exact b.elim
 |outgrown=>exact b.elim
structure Reg (ops:Array Oper):Prop where
  sel:Region.noSelect ops=true
  dfr:ops.all (λo=>noDefer o.op)=true
theorem Reg.noDefer{ops:Array Oper}(h:Reg ops):∀(j:Nat) (o:Oper),ops[j]? =some o->noDefer o.op=true:=λj o a=>
 Array.all_eq_true_iff_forall_mem.1 h.dfr o (Rh a)
structure Take (ops:Array Oper) (listed:Array Bool) (i:Nat) (listed':Array Bool):Prop where
  rdy:(Region.ready .any ops listed).contains i=true
  free:Region.free .any ops listed i=true
  nxt:listed.setIfInBounds i true=listed'
def WP (ops:Array Oper)(l:Slots):Option (Nat×Bool)->Prop
 |none=>True
 |some (j,b)=>∃t o,ops[j]? =some o/\o.dst=some t/\lk l t=some (.bool b)
theorem ZBm{a:Act}{w:World}(h:Holds x l own H a w){o:Oper}(c:WP ops l o.guard):Region.wanted o (yielded ops a.tmps)=true:=by
  obtain⟨d,op,ty,pos,aft,g⟩:=o;cases g with
  |none=>rfl
  | some e=>
    obtain⟨j,b⟩:=e;obtain⟨t,i,f,ht,hb⟩:=c;simp only[Region.wanted,yielded,f,Tg,ht];have:=h.slots t _ hb;cases hs:a.tmps[t]? with
    |none=>simp[hs,undef]at this
    |some u=>simp[hs]at this;simp[this]
theorem JA.val{so:List Own}{sH:Heaplet}{fuel i d:Nat}{listed listed':Array Bool}{op:Op}{ty:TypeId}{pos:String}{aft:Array Edge}{g:Option (Nat×Bool)}{v:Value}(b:Reg ops)(p:Calm Q)
 (m:ops[i]? =some ⟨some d,op,ty,pos,aft,g⟩)(ht:Take ops listed i listed')(q:WP ops l g)(hs:∀a w,Holds x l own H a w->Stab so sH w)(r:Runs x op ty l so sH v)(s:Nat.blt d x.n=true)
 (h:JA x ops Q so sH fuel listed' ((d,v)::l) own H):JA x ops Q so sH (fuel+1) listed l own H:=λa w f=>by
 have t:=ht.nxt;subst t;refine ZMO (λ_=>trivial) m (Region.noSelect_spec b.sel) b.noDefer (λc z j y=>p c _ _ j y) fuel listed a w (Region.free_spec m ht.free) (by simpa using ht.rdy)
  (.inl ⟨ZBm f q,λj k=>r a.eval j (some d) pos aft g (λo u e=>ZM f e) k⟩) (hs a w f) (h _ _<|f.put s v)
theorem ZSO{so:List Own}{sH:Heaplet}{fuel:Nat}{listed:Array Bool}(b:Region.ready .any ops listed= [])(h:JN x (Q .normal) l own H):JA x ops Q so sH fuel listed l own H:=λa w c=>by
 cases fuel with
 |zero=>exact⟨b,h a w c⟩
 |succ fuel=>exact⟨λ_=>h a w c,by rw[b];simp⟩
theorem YW{so:List Own}{sH:Heaplet}(b:Hle sH H)(hs:SubO so own):∀a w,Holds x l own H a w->Stab so sH w:=λa w c=>by
  refine⟨c.mem.agr.le b,?_⟩;induction so with
  |nil=>intro p h;simp at h
  | cons s r d=>
    intro p h;simp only[TP,TR]at h;rcases h with h|h
    . obtain⟨i,hi⟩:=hs.1;exact c.mem.ok.here p<|Sd.2 ⟨s,Tq hi,h⟩
    . exact d hs.2 p h
theorem ZH8{so:List Own}{sH:Heaplet}{fuel:Nat}{listed:Array Bool}{K:Act->World->Prop}(a:Region.ready .any ops listed= [])(h:JN x K l own H):JA x ops (onlyN K) so sH fuel listed l own H:=ZSO a h
variable{x:Cx}{ops:Array Oper}{Q:Exit->Act->World->Prop}{l:Slots}{own so:List Own}{H sH:Heaplet}{fuel i0:Nat}{listed listed':Array Bool}{g0:Option (Nat×Bool)}
variable{ty:TypeId}{d:Nat}{pos:String}{aft:Array Edge}{v:Value}{α:Type}{R:Rep α}{size:Nat}{g:Bool}{t e:TypeId}{ao:Option Addr}{n cap:Nat}{m:List α}{p:Operand}
section ops
variable{x:Cx}{ops:Array Oper}{Q:Exit->Act->World->Prop}{l:Slots}{own:List Own}{H:Heaplet}{rest:List Oper}{d:Nat}{ty:TypeId}{pos:String}{aft:Array Edge}
theorem ZCx{P:Program}{w:World}{t e:TypeId}{ao:Option Addr}{n c:Nat}(h:P.underlying t=some (.slice e)):(Op.equal t (.slice ao n c)<|.slice none 0 0).run P w=.ok ao.isNone w:=by
 have a:∀k,(Op.equalIn (k+1) t (.slice ao n c)<|.slice none 0 0).run P w=.ok ao.isNone w:=λk=>by
  unfold Op.equalIn;rw[Sem.run_bind,run_underlying h];cases ao<;>rfl
 exact a 9999
def rowOf? :Obj->Option (Array Value)
 | .cells c _ _=>some c
 |_=>none
def lend:Own->Heaplet->Heaplet
 |[],H=>H
 |p::r,H=>λb o=>if b=p.1 then(match rowOf? p.2 with|some cur=>cur[o]? |none=>lend r H b o)else lend r H b o
def Lent (own:List Own)(H2:Heaplet):Prop:=∀g cur t f,(g,Obj.cells cur t f)∈own.flatten->∀o,H2 g o=cur[o]?
theorem OwnOk.tail{H:Heaplet}{p:Nat×Obj}{r:Own}{w:World}(h:OwnOk H (p::r) w):OwnOk H r w:=
 ⟨λq a=>h.here q<|Sl _ a,(SR.1<|by simpa[ids]using h.nodup).2,λq a=>h.apart q<|Sl _ a⟩
theorem ZNh{H:Heaplet}{w:World}:∀{own:Own},OwnOk H own w->Hle H (lend own H)
  |[],_=>Rz _
  | p::r,h=>λb o v e=>by
    by_cases hb:b=p.1
    . subst hb;rw[h.apart p (by simp) o]at e;cases e
    . simp only[lend,TK hb];exact ZNh h.tail b o v e
theorem Da{H:Heaplet}{w:World}(c:Agrees H w):∀{own:Own},OwnOk H own w->Agrees (lend own H) w
  |[],_=>c
  | (g,d)::r,h=>λb o v e=>by
    by_cases hb:b=g
    . subst hb;simp only[lend,if_true]at e;have f:=h.here (b,d) (by simp);cases a:rowOf? d with
      |none=>rw[a]at e;exact Da c h.tail b o v e
      | some cur=>
        rw[a]at e;cases d<;>simp[rowOf?]at a;subst a;rw[cell_of_row w b o _ _ _ f];exact e
    . simp only[lend,TK hb]at e;exact Da c h.tail b o v e
theorem ZIz{H:Heaplet}{w:World}:∀{own:Own},OwnOk H own w->∀g cur t b,(g,Obj.cells cur t b)∈own->∀o,lend own H g o=cur[o]?
  |[],_,_,_,_,_,a,_=>by cases a
  | (d,i)::r,h,g,cur,t,b,a,o=>by
    rcases Ta.1 a with e|a
    . cases e;simp[lend,rowOf?]
    . have c:g≠d:=λe=>by
        have:=(SR.1<|show(d::ids r).Nodup from h.nodup).1;exact this<|e▸Sb (f:=λp=>p.1) a
      simp only[lend,TK c];exact ZIz h.tail g cur t b a o
theorem Lent.row{α:Type}{R:Rep α}{H2:Heaplet}{i B:Nat}{K:Own}{E:TypeId}{size:Nat}{v:Value}{ls:List α}(b:Lent own H2)(c:R.Mono)(a:Hle H H2)(hi:own[i]? =some K)(d:RowOf H R B E size v ls K):
 IsSlice H2 R size v ls:=by
 obtain⟨cells,⟨h0,h1⟩,e,k⟩:=d;rcases h1 with⟨rfl,h3,rfl⟩|⟨g,cap,cur,rfl,rfl,e3,e4,e5,e6,e7⟩
 . have:ls= []:=TT.1 h3;subst this;exact IsSlice.nil _ _ _
 . refine PL (e.mono c a) e4 e5 λj u h=> ?_;have f:(g,Obj.cells cur E (0,0))∈own.flatten:=Sd.2 ⟨_,Tq hi,by simp⟩;rw[b g cur E (0,0) f];rw[<-e7,TX]at h;split at h
   . simpa using h
   . cases h
theorem Z2{c:Operand}{as:Array Operand}{ts:Array TypeId}{f:FuncId}{first cap:Array Value}{vs args:List Value}{K rst:List Own}{R:Value->List Own->Heaplet->Prop}
 (e:Enters x.P f)(g:evo l c=some (.func (.func f) first cap))(i:as.toList.mapM (evo l)=some vs)(a:first.toList++vs++cap.toList=args)(j:own.flatten.Perm (K.flatten++rst.flatten))
 (C:Does x.P f args.toArray K H R)(k:Nat.blt d x.n=true)
 (h:∀v K' b,R v K' b->Hle H b->(∀p∈K'.flatten,p.1∈ids K.flatten\/x.w0.heap.size<=p.1)->JL x ops Q rest ((d,v)::l) (K'++rst) b):
 JL x ops Q (⟨some d,.call ⟨.value c,as,ts⟩,ty,pos,aft,none⟩::rest) l own H:=
 ZH4 e g i j (by rw[show first++vs.toArray++cap=args.toArray by rw[<-a];apply Array.ext';simp];exact C) k h
end ops
theorem IsSlice.none_nil{α:Type}{H:Heaplet}{R:Rep α}{size:Nat}{n c:Nat}{l:List α}(h:IsSlice H R size (.slice none n c) l):l= []:=by
 obtain⟨ao,cap,e,h1,h2,h3,a,b⟩:=h;simp only[Value.slice.injEq]at e;obtain⟨rfl,rfl,rfl⟩:=e;have:=a rfl;exact List.eq_nil_of_length_eq_zero<|by omega
theorem Flat.set{α:Type}{H:Heaplet}{R:Rep α}{size:Nat}{cs:List Value}{y:α}(c:cs.length=size)(d:R H cs y):∀{l:List α} {cells:List Value} {k:Nat},Flat H R size cells l->k<l.length->
    Flat H R size (cells.take (k*size)++cs++cells.drop (k*size+size)) (l.set k y)
  |[],_,_,_,b=>by simp at b
  | a::r,cells,0,h,_=>by
    obtain⟨c0,m,rfl,h1,h2,h3⟩:=h;refine⟨cs,m,?_,c,d,h3⟩;simp[<-h1]
  | a ::r,cells,k+1,h,b=>by
    obtain⟨c0,m,rfl,h1,h2,h3⟩:=h;refine⟨c0,m.take (k*size)++cs++m.drop (k*size+size),?_,h1,h2,Flat.set c d h3<|by simpa using b⟩;have e1:(c0++m).take ((k+1)*size)=c0++m.take (k*size):=by
      rw[SK,TZ (by rw[h1,TU];omega),h1];congr 2;rw[TU];omega
    have e2:(c0++m).drop ((k+1)*size+size)=m.drop (k*size+size):=by
      rw[RL,T2 (by rw[h1,TU];omega),h1,Sy];congr 1;rw[TU];omega
    rw[e1,e2];simp
section ops
variable{x:Cx}{ops:Array Oper}{Q:Exit->Act->World->Prop}{l:Slots}{own:List Own}{H:Heaplet}{rest:List Oper}{d:Nat}{ty:TypeId}{pos:String}{aft:Array Edge}
end ops
def QW (P:Program)(T:TypeId):Option (List (Nat×Nat)):=match P.underlying T with
 |some (.struct fs)=>fs.toList.mapM (λf=>(ZE P f.type).map λs=>(f.offset,s.2))
 |_=>none
theorem ZKt{α β:Type}{P:Program}{w:World}{f:α->Sem β}{g:α->Option β}(h:∀a b,g a=some b->(f a).run P w=.ok b w):∀(l:List α) (bs:List β),l.mapM g=some bs->(l.mapM f).run P w=.ok bs w
  |[],bs,e=>by simp at e;subst e;simp[go_sem]
  | a::l,bs,e=>by
    simp only[SM,RZ,T5]at e;obtain⟨b,hb,cs,c,e⟩:=e;simp at e;subst e;rw[SM];simp only[Sem.run_bind,h a b hb,Result.andThen,ZKt h l cs c,Sem.run_pure]
theorem ZON{P:Program}{T:TypeId}{w:World}{z:Value}{p:List (Nat×Nat)}{vs:List (Nat×Value)}{cells:Array Value}(c:YK P T=some z)(h:QW P T=some p)
    (d:Instr.fill (p.toArray[·]?) z.cells vs=some cells):(Instr.build T vs.toArray).run P w=.ok (.agg cells) w:=by
  unfold QW at h;split at h
  . rename_i fs e;unfold Instr.build;simp only[Sem.run_bind,QA c,Result.andThen,run_underlying e];have i:(fs.mapM λf=>do pure (f.offset,<-Go.sizeOf f.type):Sem (Array (Nat×Nat))).run P w=.ok p.toArray w:=by
      rw[Array.mapM_eq_mapM_toList];have:=ZKt (P:=P) (w:=w) (f:=fun(f:Field)=>(do pure (f.offset,<-Go.sizeOf f.type):Sem (Nat×Nat))) (λa b hb=>by
        cases hs:ZE P a.type with
        |none=>simp[hs]at hb
        | some s=>
          simp[hs]at hb;subst hb;simp only[Sem.run_bind,run_sizeOf (n:=s.2) (g:=s.1) hs,Result.andThen,Sem.run_pure]) fs.toList p h
      rw[map_eq_pure_bind,Sem.run_bind,this];rfl
    rw[i];simp only[d];rfl
  . cases h
def ZSu:Value->Bool
 | .agg _=>false
 |_=>true
def fits (a:List (Nat×Nat))(n:Nat)(p:Nat×Value):Bool:=ZSu p.2&&match a[p.1]? with|some q=>Nat.beq q.2 1&&Nat.blt q.1 n|none=>false
section ops
variable{x:Cx}{ops:Array Oper}{Q:Exit->Act->World->Prop}{l:Slots}{own:List Own}{H:Heaplet}{rest:List Oper}{d:Nat}{ty:TypeId}{pos:String}{aft:Array Edge}
theorem JN.perm{K:Act->World->Prop}{own':List Own}(d:own.flatten.Perm own'.flatten)(h:JN x K l own' H):JN x K l own H:=λa w b=>
 h a w ⟨b.size,b.ds,b.slots,b.mem.agr,b.mem.ok.perm d,b.mem.kept,λp c=>b.mem.fresh p<|d.mem_iff.2 c,b.mem.le,b.mem.grow,b.mem.soft⟩
theorem ZBw{α:Type}{own:List (List α)}{i:Nat}{seg:List α}(h:own[i]? =some seg):own.flatten.Perm (seg::own.eraseIdx i).flatten:=by simpa using XJ h
theorem ZB (i:Nat){K:Act->World->Prop}{seg:Own}(hi:own[i]? =some seg)(h:JN x K l (seg::own.eraseIdx i) H):JN x K l own H:=JN.perm (ZBw hi) h
theorem ZL (i:Nat){c:Code}{seg:Own}(hi:own[i]? =some seg)(h:JC x c Q l (seg::own.eraseIdx i) H):JC x c Q l own H:=λa w b=>
 h a w ⟨b.size,b.ds,b.slots,b.mem.agr,b.mem.ok.perm<|ZBw hi,b.mem.kept,λp d=>b.mem.fresh p<|(ZBw hi).mem_iff.2 d,b.mem.le,b.mem.grow,b.mem.soft⟩
end ops
section mid
variable{x:Cx}{Q:Exit->Act->World->Prop}{l:Slots}{own:List Own}{H:Heaplet}
end mid
end Go.Ow
namespace Go.Ow
variable{α β σ τ:Type}
def w64 (n:Int):Int:=(n+9223372036854775808)%18446744073709551616-9223372036854775808
theorem Jg{n:Int}(h1: -9223372036854775808<=n)(h2:n<=9223372036854775807):w64 n=n:=by unfold w64;omega
theorem ZT{o:Option α}{k:α->Option β}{r:β}(h:Option.bind o k=some r):∃y,o=some y/\k y=some r:=T5.1 h
theorem ZM9{b:Bool}{x y z:Option α}(c:b=true)(h:cond b x y=z):x=z:=by rw[c]at h;exact h
theorem ZNA{b:Bool}{x y z:Option α}(c:b=false)(h:cond b x y=z):y=z:=by rw[c]at h;exact h
def Nth (l:List α)(i:Int)(y:α):Prop:=0<=i/\l[i.toNat]? =some y
def idx (l:List α)(i:Int)(k:α->Option β):Option β:=if 0<=i then Option.bind l[i.toNat]? k else none
theorem Zh{l:List α}{i:Int}{k:α->Option β}{r:β}(h:idx l i k=some r):∃y,Nth l i y/\k y=some r:=by
 unfold idx at h;split at h
 . obtain⟨y,h1,h2⟩:=ZT h;exact⟨y,⟨by assumption,h1⟩,h2⟩
 . cases h
theorem ZS4{l:List α}{i:Int}{y:α}{k:α->Option β}(h:Nth l i y):idx l i k=k y:=by
 unfold idx;rw[TJ h.1,h.2];rfl
theorem G6{l:List α}{i:Nat}(k:α->Option β)(h:i<l.length):idx l (i:Int) k=k l[i]:=
 ZS4 ⟨Int.natCast_nonneg i,by simp[h]⟩
def setI (l:List α)(i:Int)(y:α)(k:List α->Option β):Option β:=if 0<=i/\i.toNat<l.length then k (l.set i.toNat y)else none
theorem X9{l:List α}{i:Int}{y:α}{k:List α->Option β}{r:β}(h:setI l i y k=some r):∃m,m=l.set i.toNat y/\(0<=i/\i.toNat<l.length)/\k m=some r:=by
 unfold setI at h;split at h
 . exact⟨_,rfl,by assumption,h⟩
 . cases h
theorem ZQz{l:List α}{i:Int}{y:α}{k:List α->Option β}(h0:0<=i)(h:i.toNat<l.length):setI l i y k=k (l.set i.toNat y):=by
 unfold setI;rw[TJ ⟨h0,h⟩]
def cut (l:List α)(a b:Int):List α:=(l.drop a.toNat).take (b.toNat-a.toNat)
def slc (l:List α)(a b:Int)(k:List α->Option β):Option β:=if 0<=a/\a<=b/\b<=l.length then k (cut l a b)else none
theorem GE{l:List α}{a b:Int}{k:List α->Option β}{r:β}(h:slc l a b k=some r):∃m,m=cut l a b/\(0<=a/\a<=b/\b<=l.length)/\k m=some r:=by
 unfold slc at h;split at h
 . exact⟨_,rfl,by assumption,h⟩
 . cases h
theorem Vn{l:List α}{a b:Int}(h0:0<=a)(h1:a<=b)(h2:b<=l.length):((cut l a b).length:Int)=b-a:=by
 unfold cut;simp only[TH,Td];omega
def LIM:Nat:=1099511627776
def app (l m:List α)(k:List α->Option β):Option β:=if l.length+m.length<=LIM then k (l++m)else none
theorem Xg{l m:List α}{k:List α->Option β}{r:β}(h:app l m k=some r):∃q,q=l++m/\l.length+m.length<=LIM/\k q=some r:=by
 unfold app at h;split at h
 . exact⟨_,rfl,by assumption,h⟩
 . cases h
theorem ZKL{l m:List α}{k:List α->Option β}(h:l.length+m.length<=LIM):app l m k=k (l++m):=by
 unfold app;rw[TJ h]
def mks (n:Int)(z:α)(k:List α->Option β):Option β:=if 0<=n/\n.toNat<=LIM then k (List.replicate n.toNat z)else none
theorem Ud{n:Int}{z:α}{k:List α->Option β}{r:β}(h:mks n z k=some r):∃q,q=List.replicate n.toNat z/\(0<=n/\n.toNat<=LIM)/\k q=some r:=by
 unfold mks at h;split at h
 . exact⟨_,rfl,by assumption,h⟩
 . cases h
def chk (p:Prop) [Decidable p](k:Option β):Option β:=if p then k else none
theorem ZI{p:Prop} [Decidable p]{k:Option β}{r:β}(h:chk p k=some r):p/\k=some r:=by
 unfold chk at h;split at h
 . exact⟨by assumption,h⟩
 . cases h
theorem ZTE{p:Prop} [Decidable p]{k:Option β}(h:p):chk p k=k:=by unfold chk;rw[TJ h]
def run (body:σ->Option (σ ⊕ τ)):Nat->σ->Option τ
  |0,_=>none
  | n+1,s=>Option.bind (body s) λo=>match o with
    | .inl s'=>run body n s'
    | .inr t=>some t
def FUEL:Nat:=18446744073709551616
def loop (body:σ->Option (σ ⊕ τ))(s:σ):Option τ:=run body FUEL s
def Stp (body:σ->Option (σ ⊕ τ))(n:Nat)(t:τ):σ ⊕ τ->Prop
 | .inl s'=>run body n s'=some t
 | .inr a=>a=t
theorem ZCw{body:σ->Option (σ ⊕ τ)}{n:Nat}{s:σ}{t:τ}(h:run body (n+1) s=some t):∃o,body s=some o/\Stp body n t o:=by
 obtain⟨o,h1,h2⟩:=ZT h;refine⟨o,h1,?_⟩;cases o with
 |inl s'=>exact h2
 |inr a=>exact TB h2
theorem Zk{body:σ->Option (σ ⊕ τ)}{n:Nat}{t:τ}{s':σ}{o:σ ⊕ τ}(h:Stp body n t o)(a:some (.inl s')=some o):run body n s'=some t:=by
 cases a;exact h
theorem Zo{body:σ->Option (σ ⊕ τ)}{n:Nat}{t a:τ}{o:σ ⊕ τ}(h:Stp body n t o)(b:some (.inr a)=some o):a=t:=by
 cases b;exact h
theorem ZKs{body:σ->Option (σ ⊕ τ)}{s:σ}{t:τ}(h:run body 0 s=some t):False:=by cases h
theorem ZOP{body:σ->Option (σ ⊕ τ)}(I:σ->Prop)(m:σ->Nat)(R:τ->Prop)
    (step:∀s,I s->(∃s',body s=some (.inl s')/\I s'/\m s'<m s)\/(∃t,body s=some (.inr t)/\R t)){s:σ}(h0:I s)(b:m s<FUEL):∃t,loop body s=some t/\R t:=by
  have k:∀n s,m s<n->I s->∃t,run body n s=some t/\R t:=by
    intro n;induction n with
    |zero=>intro s h;omega
    | succ n i=>
      intro s h hI;rcases step s hI with⟨s',e,a,c⟩|⟨t,e,d⟩
      . obtain⟨t,h1,h2⟩:=i s' (by omega) a;exact⟨t,by show Option.bind (body s) _=_;rw[e];exact h1,h2⟩
      . exact⟨t,by show Option.bind (body s) _=_;rw[e];rfl,d⟩
  exact k FUEL s b h0
def forL (body:α->σ->Option (σ ⊕ τ)):List α->σ->Option (σ ⊕ τ)
  |[],s=>some (.inl s)
  | y::r,s=>Option.bind (body y s) λo=>match o with
    | .inl s'=>forL body r s'
    | .inr t=>some<|.inr t
theorem ZOb{body:α->σ->Option (σ ⊕ τ)}{y:α}{r:List α}{s:σ}{t:σ ⊕ τ}(h:forL body (y::r) s=some t):
 ∃o,body y s=some o/\((∃s',o=.inl s'/\forL body r s'=some t)\/∃e,o=.inr e/\t=.inr e):=by
 obtain⟨o,h1,h2⟩:=ZT h;refine⟨o,h1,?_⟩;cases o with
 |inl s'=>exact .inl ⟨s',rfl,h2⟩
 |inr e=>exact .inr ⟨e,rfl,(TB h2).symm⟩
theorem ZOc{body:α->σ->Option (σ ⊕ τ)}{y:α}{r:List α}{s s':σ}(h:body y s=some (.inl s')):forL body (y::r) s=forL body r s':=by
 show Option.bind (body y s) _=_;rw[h];rfl
def clr (l:List α)(a b:Nat)(z:α):List α:=l.take a++List.replicate (b-a) z++l.drop b
def bwd (m:List UInt8):Nat->List (Nat×UInt8)
 |0=> []
 |k+1=>(k,m.getD k 0)::bwd m k
structure Write where
  At:Int
  Data:List UInt8
instance:Inhabited Write:=⟨⟨default,default⟩⟩
structure Disk where
  Blocks:List (List UInt8)
  Waits:List Write
instance:Inhabited Disk:=⟨⟨default,default⟩⟩
structure Ptr where
  At:Int
  Birth:UInt32
  Iv:UInt32
  Tag:UInt32
  Sum:UInt32
instance:Inhabited Ptr:=⟨⟨default,default,default,default,default⟩⟩
structure Label where
  Gen:UInt32
  Epoch:UInt32
  Root:Ptr
instance:Inhabited Label:=⟨⟨default,default,default⟩⟩
structure Object where
  Kind:UInt8
  Links:Int
  Size:Int
  Data:List Ptr
instance:Inhabited Object:=⟨⟨default,default,default,default⟩⟩
structure Line where
  Id:Int
  Kind:UInt8
  Owner:Int
  Prev:Int
  Txg:UInt32
  Guid:UInt32
  Key:Int
  Root:Ptr
  Dead:List Ptr
instance:Inhabited Line:=⟨⟨default,default,default,default,default,default,default,default,default⟩⟩
structure Store where
  Disk:Disk
  Space:List UInt8
  Epoch:UInt32
  Count:UInt32
instance:Inhabited Store:=⟨⟨default,default,default,default⟩⟩
structure Change where
  Set:Int
  Obj:Int
  Index:Int
  Kind:UInt8
  Links:Int
  Size:Int
  Data:List UInt8
  Laid:Ptr
instance:Inhabited Change:=⟨⟨default,default,default,default,default,default,default,default⟩⟩
structure Pool where
  Store:Store
  Gen:UInt32
  Root:Ptr
  MetaL:List Int
  Lines:List Line
  Keys:List (List UInt8)
  Loaded:List (List UInt8)
  Changes:List Change
  Logged:Int
  NextId:Int
  NextGuid:UInt32
instance:Inhabited Pool:=⟨⟨default,default,default,default,default,default,default,default,default,default,default⟩⟩
structure Signer where
  Seed:List UInt8
  Spent:Int
instance:Inhabited Signer:=⟨⟨default,default⟩⟩
structure Entry where
  Name:List UInt8
  Obj:Int
instance:Inhabited Entry:=⟨⟨default,default⟩⟩
structure Info where
  Obj:Int
  Kind:UInt8
  Links:Int
  Size:Int
  To:List UInt8
instance:Inhabited Info:=⟨⟨default,default,default,default,default⟩⟩
structure Call where
  Kind:UInt8
  A:Int
  B:Int
  C:Int
  Name:List UInt8
  As:List UInt8
  Text:List UInt8
  Data:List UInt8
instance:Inhabited Call:=⟨⟨default,default,default,default,default,default,default,default⟩⟩
structure Reply where
  Error:Int
  Id:Int
  Data:List UInt8
  Names:List (List UInt8)
  Info:Info
  Lines:List Int
instance:Inhabited Reply:=⟨⟨default,default,default,default,default,default⟩⟩
structure Part where
  Obj:Int
  Index:Int
  Iv:UInt32
  Tag:UInt32
  Data:List UInt8
instance:Inhabited Part:=⟨⟨default,default,default,default,default⟩⟩
structure Stream where
  Guid:UInt32
  Base:UInt32
  Key:List UInt8
  Parts:List Part
  Sign:List UInt8
instance:Inhabited Stream:=⟨⟨default,default,default,default,default⟩⟩
structure Deed where
  Kind:UInt8
  At:Int
  A:Int
  B:Int
  Call:Call
  Keep:List Bool
instance:Inhabited Deed:=⟨⟨default,default,default,default,default,default⟩⟩
structure Pair where
  Pools:List Pool
  Stream:List UInt8
  Signer:Signer
instance:Inhabited Pair:=⟨⟨default,default,default⟩⟩
def sli (m n:Int):Int:=w64<|m*2^(min n.toNat 64)
def sri (m n:Int):Int:=m.fdiv<|2^(min n.toNat 64)
def and64 (m n:Int):Int:=w64 ((BitVec.ofInt 64 m&&&BitVec.ofInt 64 n).toNat:Int)
def or64 (m n:Int):Int:=w64 ((BitVec.ofInt 64 m |||BitVec.ofInt 64 n).toNat:Int)
def xor64 (m n:Int):Int:=w64 ((BitVec.ofInt 64 m^^^BitVec.ofInt 64 n).toNat:Int)
def sl8 (a:UInt8)(n:Nat):UInt8:=UInt8.ofNat<|a.toNat*2^(min n 8)
def sr8 (a:UInt8)(n:Nat):UInt8:=UInt8.ofNat<|a.toNat/2^(min n 8)
def sl32 (a:UInt32)(n:Nat):UInt32:=UInt32.ofNat<|a.toNat*2^(min n 32)
def sr32 (a:UInt32)(n:Nat):UInt32:=UInt32.ofNat<|a.toNat/2^(min n 32)
def sl64 (a:UInt64)(n:Nat):UInt64:=UInt64.ofNat<|a.toNat*2^(min n 64)
def sr64 (a:UInt64)(n:Nat):UInt64:=UInt64.ofNat<|a.toNat/2^(min n 64)
def u8i (n:Int):UInt8:=UInt8.ofNat (n%256).toNat
def u32i (n:Int):UInt32:=UInt32.ofNat (n%4294967296).toNat
def u64i (n:Int):UInt64:=UInt64.ofNat (n%18446744073709551616).toNat
variable{α β:Type}
structure A2 (α:Type) where
  e0:α
  e1:α
instance [Inhabited α]:Inhabited (A2 α):=⟨⟨default,default⟩⟩
structure A3 (α:Type) where
  e0:α
  e1:α
  e2:α
instance [Inhabited α]:Inhabited (A3 α):=⟨⟨default,default,default⟩⟩
structure A4 (α:Type) where
  e0:α
  e1:α
  e2:α
  e3:α
instance [Inhabited α]:Inhabited (A4 α):=⟨⟨default,default,default,default⟩⟩
structure A5 (α:Type) where
  e0:α
  e1:α
  e2:α
  e3:α
  e4:α
instance [Inhabited α]:Inhabited (A5 α):=⟨⟨default,default,default,default,default⟩⟩
structure A7 (α:Type) where
  e0:α
  e1:α
  e2:α
  e3:α
  e4:α
  e5:α
  e6:α
instance [Inhabited α]:Inhabited (A7 α):=⟨⟨default,default,default,default,default,default,default⟩⟩
structure A12 (α:Type) where
  e0:α
  e1:α
  e2:α
  e3:α
  e4:α
  e5:α
  e6:α
  e7:α
  e8:α
  e9:α
  e10:α
  e11:α
instance [Inhabited α]:Inhabited (A12 α):=⟨⟨default,default,default,default,default,default,default,default,default,default,default,default⟩⟩
structure A16 (α:Type) where
  e0:α
  e1:α
  e2:α
  e3:α
  e4:α
  e5:α
  e6:α
  e7:α
  e8:α
  e9:α
  e10:α
  e11:α
  e12:α
  e13:α
  e14:α
  e15:α
instance [Inhabited α]:Inhabited (A16 α):=⟨⟨default,default,default,default,default,default,default,default,default,default,default,default,default,default,default,default⟩⟩
def Xw (n:Nat):Nat->List α->List (List α)
  |0,_=> []
  | f+1,r=>match r with
    |[]=> []
    |y::a=>(y::a).take n::Xw n f ((y::a).drop n)
theorem ZCb (n f:Nat):Xw n f ([]:List α)= []:=by cases f<;>rfl
theorem Dz{n f:Nat}{r:List α}(h:r≠[]):Xw n (f+1) r=r.take n::Xw n f (r.drop n):=by
 cases r with
 |nil=>exact absurd rfl h
 |cons y a=>rfl
structure WriteO where
  At:Int
  Data:Option (List UInt8)
instance:Inhabited WriteO:=⟨⟨default,default⟩⟩
def cpy (l:List α)(a:Nat)(m:List α):List α:=l.take a++m++l.drop (a+m.length)
def cpyO (l:List α)(lo hi:Int)(m:List α)(k:List α->Option β):Option β:=if 0<=lo/\lo<=hi/\hi<=l.length then k (cpy l lo.toNat<|m.take (hi.toNat-lo.toNat))else none
theorem KV{l:List α}{lo hi:Int}{m:List α}{k:List α->Option β}{r:β}(h:cpyO l lo hi m k=some r):∃q,q=cpy l lo.toNat (m.take (hi.toNat-lo.toNat))/\(0<=lo/\lo<=hi/\hi<=l.length)/\k q=some r:=by
 unfold cpyO at h;split at h
 . exact⟨_,rfl,by assumption,h⟩
 . cases h
end Go.Ow
namespace Go.Pv
open Go Go.Ow
noncomputable section
inductive Sn where
  |Write|Disk|Ptr|Label|Object|Line|Store|Change|Pool|Signer|Part|Stream
inductive Ty where
  |i|w8|w32|w64|b|s
  |sl (t:Ty)
  |st (k:Sn)
  |pr (a b:Ty)
@[reducible] def stT (k:Sn):Type:=Sn.rec Go.Ow.Write Go.Ow.Disk Go.Ow.Ptr Go.Ow.Label Go.Ow.Object Go.Ow.Line Go.Ow.Store Go.Ow.Change Go.Ow.Pool Go.Ow.Signer Go.Ow.Part Go.Ow.Stream k
@[reducible] def den (t:Ty):Type:=Ty.rec Int UInt8 UInt32 UInt64 Bool (List UInt8) (λ_ T=>List T) stT (λ_ _ A B=>A×B) t
def eqS (a b:Sn):Bool:=Nat.beq a.ctorIdx b.ctorIdx
def eqT (a:Ty):Ty->Bool:=Ty.rec (λb=>Ty.casesOn b true false false false false false (λ_=>false) (λ_=>false) (λ_ _=>false))
 (λb=>Ty.casesOn b false true false false false false (λ_=>false) (λ_=>false) (λ_ _=>false))
 (λb=>Ty.casesOn b false false true false false false (λ_=>false) (λ_=>false) (λ_ _=>false))
 (λb=>Ty.casesOn b false false false true false false (λ_=>false) (λ_=>false) (λ_ _=>false))
 (λb=>Ty.casesOn b false false false false true false (λ_=>false) (λ_=>false) (λ_ _=>false))
 (λb=>Ty.casesOn b false false false false false true (λ_=>false) (λ_=>false) (λ_ _=>false))
 (λ_ f b=>Ty.casesOn b false false false false false false (λu=>f u) (λ_=>false) (λ_ _=>false)) (λk b=>Ty.casesOn b false false false false false false (λ_=>false) (λj=>eqS k j) (λ_ _=>false))
 (λ_ _ i e b=>Ty.casesOn b false false false false false false (λ_=>false) (λ_=>false) (λc d=>Bool.rec false (e d) (i c))) a
theorem ZTA{a b:Sn}(h:eqS a b=true):a=b:=by cases a<;>cases b<;>first|rfl|(exact absurd h<|by decide)
theorem Vk{a b:Ty}(h:eqT a b=true):a=b:=by
  induction a generalizing b with
  |sl t l=>cases b<;>first|(cases h;done)|exact congrArg Ty.sl (l h)
  |st k=>cases b<;>first|(cases h;done)|exact congrArg Ty.st (ZTA h)
  | pr c d i g=>cases b with
    | pr e f=>
      have h:(Bool.rec false (eqT d f) (eqT c e):Bool)=true:=h;cases j:eqT c e with
      |false=>rw[j]at h;cases h
      |true=>rw[j]at h;exact congr (congrArg Ty.pr<|i j) (g h)
    |_=>cases h
  |_=>cases b<;>first|rfl|(cases h;done)
section cast
variable{β:Type}
def castB (t u:Ty)(x:den t)(k:den u->Option β):(b:Bool)->eqT t u=b->Option β
 |true,h=>k (Vk h▸x)
 |false,_=>none
def cast (t u:Ty)(x:den t)(k:den u->Option β):Option β:=castB t u x k (eqT t u) rfl
def ZQK (t u:Ty)(x:Option (den t))(k:Option (den u)->Option β):(b:Bool)->eqT t u=b->Option β
 |true,h=>k (Vk h▸x)
 |false,_=>none
def castO (t u:Ty)(x:Option (den t))(k:Option (den u)->Option β):Option β:=ZQK t u x k (eqT t u) rfl
end cast
inductive Hy where
  |d (y:Ty)
  |n
  |o (y:Ty)
@[reducible] def Hd (h:Hy):Type:=Hy.rec den Nat (λy=>Option (den y)) h
@[reducible] def VH (hs:List Hy):Type:=List.rec Unit (λh r i=>List.rec (Hd h) (λ_ _ _=>Hd h×i) r) hs
inductive HV where
  |d (y:Ty) (x:den y)
  |n (k:Nat)
  |o (y:Ty) (x:Option (den y))
inductive CV where
  |i (n:Int)
  |n (c k:Nat)
  |ln (k:Nat)
  |bc (c m k:Nat)
  |w8 (x:UInt8)
  |w32 (x:UInt32)
  |w64 (x:UInt64)
  |b (x:Bool)
  |s (l:List UInt8)
  |sl (t:Ty) (m:List (den t))
  |cl (t:Ty) (m:List (den t))
  |rv (t:Ty) (k:Nat) (i:Int)
  |sv (k o n:Nat)
  |nils
  |nilp
  |nili
  |ptr (k o:Nat)
  |el (t:Ty) (x:den t) (o:Nat)
  |fn (f:Nat)
  |row (k:Nat)
  |rel (t:Ty) (k:Nat) (i:Int) (o:Nat)
  |oel (t:Ty) (x:Option (den t))
  |orel (t:Ty) (k:Nat) (i:Option Int)
  |clo (f:Nat) (l m:List CV)
  |ag (l:List CV)
  |tu (l:List CV)
  |und
  |any
  |unk
def cPtr (x:Ow.Ptr):List CV:=[.i x.At,.w32 x.Birth,.w32 x.Iv,.w32 x.Tag,.w32 x.Sum]
def cDisk (x:Ow.Disk):List CV:=[.sl (.sl .w8) x.Blocks,.sl (.st .Write) x.Waits]
def ZTF (x:Ow.Store):List CV:=[.sl (.sl .w8) x.Disk.Blocks,.sl (.st .Write) x.Disk.Waits,.sl .w8 x.Space,.w32 x.Epoch,.w32 x.Count]
def stC (k:Sn):stT k->List CV:=Sn.rec (motive:=λk=>stT k->List CV) (λx=> [.i x.At,.sl .w8 x.Data]) cDisk cPtr
 (λx=> [.w32 x.Gen,.w32 x.Epoch,.i x.Root.At,.w32 x.Root.Birth,.w32 x.Root.Iv,.w32 x.Root.Tag,.w32 x.Root.Sum]) (λx=> [.w8 x.Kind,.i x.Links,.i x.Size,.sl (.st .Ptr) x.Data])
 (λx=> [.i x.Id,.w8 x.Kind,.i x.Owner,.i x.Prev,.w32 x.Txg,.w32 x.Guid,.i x.Key,.i x.Root.At,.w32 x.Root.Birth,.w32 x.Root.Iv,.w32 x.Root.Tag,.w32 x.Root.Sum,.sl (.st .Ptr) x.Dead]) ZTF
 (λx=> [.i x.Set,.i x.Obj,.i x.Index,.w8 x.Kind,.i x.Links,.i x.Size,.sl .w8 x.Data,.i x.Laid.At,.w32 x.Laid.Birth,.w32 x.Laid.Iv,.w32 x.Laid.Tag,.w32 x.Laid.Sum])
 (λx=> [.sl (.sl .w8) x.Store.Disk.Blocks,.sl (.st .Write) x.Store.Disk.Waits,.sl .w8 x.Store.Space,.w32 x.Store.Epoch,.w32 x.Store.Count,.w32 x.Gen,.i x.Root.At,.w32 x.Root.Birth,.w32 x.Root.Iv,.w32 x.Root.Tag,.w32 x.Root.Sum,.sl .i x.MetaL,.sl (.st .Line) x.Lines,.sl (.sl .w8) x.Keys,.sl (.sl .w8) x.Loaded,.sl (.st .Change) x.Changes,.i x.Logged,.i x.NextId,.w32 x.NextGuid])
 (λx=> [.sl .w8 x.Seed,.i x.Spent]) (λx=> [.i x.Obj,.i x.Index,.w32 x.Iv,.w32 x.Tag,.sl .w8 x.Data]) (λx=> [.w32 x.Guid,.w32 x.Base,.sl .w8 x.Key,.sl (.st .Part) x.Parts,.sl .w8 x.Sign]) k
def spC (t:Ty):den t->List CV:=Ty.rec (motive:=λt=>den t->List CV) (λx=> [.i x]) (λx=> [.w8 x]) (λx=> [.w32 x]) (λx=> [.w64 x]) (λx=> [.b x]) (λx=> [.s x]) (λt _ m=> [.sl t m]) stC (λ_ _ A B x=>A x.1++B x.2) t
def szS (k:Sn):Nat:=Sn.rec 2 2 5 7 4 13 5 12 19 2 5 5 k
def szY (t:Ty):Nat:=Ty.rec 1 1 1 1 1 1 (λ_ _=>1) szS (λ_ _ a b=>a+b) t
section out
variable{β:Type}
def oI (c:CV)(k:Int->Option β):Option β:=match c with| .i n=>k n| .n _ j=>k (j:Int)| .ln j=>k (j:Int)|_=>none
def o8 (c:CV)(k:UInt8->Option β):Option β:=match c with| .w8 n=>k n|_=>none
def o32 (c:CV)(k:UInt32->Option β):Option β:=match c with| .w32 n=>k n|_=>none
def o64 (c:CV)(k:UInt64->Option β):Option β:=match c with| .w64 n=>k n|_=>none
def oBo (c:CV)(k:Bool->Option β):Option β:=match c with| .b n=>k n| .bc _ m n=>k (decide<|(m:Int)<(n:Int))|_=>none
def oS (c:CV)(k:List UInt8->Option β):Option β:=match c with| .s n=>k n|_=>none
def oSl (t:Ty)(c:CV)(k:List (den t)->Option β):Option β:=match c with| .sl u m=>cast (.sl u) (.sl t) m k| .cl u m=>cast (.sl u) (.sl t) m k| .nils=>k []|_=>none
abbrev Tk (α β:Type):=List CV->(α->List CV->Option β)->Option β
def t1{α:Type}(f:CV->(α->Option β)->Option β):Tk α β:=λl k=>match l with|c::r=>f c λx=>k x r|[]=>none
def tPtr:Tk Ow.Ptr β:=λl k=>t1 oI l λa l=>t1 o32 l λb l=>t1 o32 l λc l=>t1 o32 l λd l=>t1 o32 l λe l=>k ⟨a,b,c,d,e⟩ l
def tDisk:Tk Ow.Disk β:=λl k=>t1 (oSl<|.sl .w8) l λa l=>t1 (oSl<|.st .Write) l λb l=>k ⟨a,b⟩ l
def ZPI:Tk Ow.Store β:=λl k=>tDisk l λa l=>t1 (oSl .w8) l λb l=>t1 o32 l λc l=>t1 o32 l λd l=>k ⟨a,b,c,d⟩ l
def stM (s:Sn):Tk (stT s) β:=Sn.rec (motive:=λk=>Tk (stT k) β) (λl k=>t1 oI l λa l=>t1 (oSl .w8) l λb l=>k ⟨a,b⟩ l) tDisk tPtr
 (λl k=>t1 o32 l λa l=>t1 o32 l λb l=>tPtr l λc l=>k ⟨a,b,c⟩ l) (λl k=>t1 o8 l λa l=>t1 oI l λb l=>t1 oI l λc l=>t1 (oSl (.st .Ptr)) l λd l=>k ⟨a,b,c,d⟩ l)
 (λl k=>t1 oI l λa l=>t1 o8 l λb l=>t1 oI l λc l=>t1 oI l λd l=>t1 o32 l λe l=>t1 o32 l λf l=>t1 oI l λg l=>tPtr l λh l=>t1 (oSl<|.st .Ptr) l λi l=>k ⟨a,b,c,d,e,f,g,h,i⟩ l) ZPI
 (λl k=>t1 oI l λa l=>t1 oI l λb l=>t1 oI l λc l=>t1 o8 l λd l=>t1 oI l λe l=>t1 oI l λf l=>t1 (oSl .w8) l λg l=>tPtr l λh l=>k ⟨a,b,c,d,e,f,g,h⟩ l)
 (λl k=>ZPI l λa l=>t1 o32 l λb l=>tPtr l λc l=>t1 (oSl .i) l λd l=>t1 (oSl<|.st .Line) l λe l=>t1 (oSl<|.sl .w8) l λf l=>t1 (oSl<|.sl .w8) l λg l=>t1 (oSl<|.st .Change) l λh l=>t1 oI l λi l=>t1 oI l λj l=>t1 o32 l λn l=>k ⟨a,b,c,d,e,f,g,h,i,j,n⟩ l)
 (λl k=>t1 (oSl .w8) l λa l=>t1 oI l λb l=>k ⟨a,b⟩ l) (λl k=>t1 oI l λa l=>t1 oI l λb l=>t1 o32 l λc l=>t1 o32 l λd l=>t1 (oSl .w8) l λe l=>k ⟨a,b,c,d,e⟩ l)
 (λl k=>t1 o32 l λa l=>t1 o32 l λb l=>t1 (oSl .w8) l λc l=>t1 (oSl<|.st .Part) l λd l=>t1 (oSl .w8) l λe l=>k ⟨a,b,c,d,e⟩ l) s
def tk (t:Ty):Tk (den t) β:=Ty.rec (motive:=λt=>Tk (den t) β) (t1 oI) (t1 o8) (t1 o32) (t1 o64) (t1 oBo) (t1 oS) (λt _=>t1 (oSl t)) (λs=>stM s) (λ_ _ A B l k=>A l λa l=>B l λb l=>k (a,b) l) t
def Yw (c:CV):List CV:=match c with| .ag l=>l|c=> [c]
def isAg (t:Ty):Bool:=Ty.rec false false false false false false (λ_ _=>false) (λ_=>true) (λ_ _ _ _=>true) t
def oT (t:Ty)(l:List CV)(k:den t->Option β):Option β:=tk t l λx r=>List.rec (k x) (λ_ _ _=>none) r
def oD (t:Ty)(c:CV)(k:den t->Option β):Option β:=match c with| .ag l=>Bool.rec none (oT t l k) (isAg t)|c=>Bool.rec (oT t [c] k) none (isAg t)
def dV (t:Ty):den t->CV:=Ty.rec (motive:=λt=>den t->CV) .i .w8 .w32 .w64 .b .s (λt _ m=>.sl t m) (λs x=>.ag (stC s x)) (λa b _ _ x=>.ag (spC a x.1++spC b x.2)) t
def toH (h:Hy)(v:HV):(Hd h->Option β)->Option β:=Hy.rec (motive:=λh=>(Hd h->Option β)->Option β) (λy k=>match v with| .d z x=>cast z y x k|_=>none) (λk=>match v with| .n j=>k j|_=>none) (λy k=>match v with| .o z x=>castO z y x k|_=>none) h
def toVH (hs:List Hy):List HV->(VH hs->Option β)->Option β:=List.rec (motive:=λhs=>List HV->(VH hs->Option β)->Option β) (λl k=>List.rec (k ()) (λ_ _ _=>none) l)
 (λh r i l k=>List.rec (motive:=λ_=>Option β) none (λv vs _=>toH h v λx=>List.rec (motive:=λr=>(List HV->(VH r->Option β)->Option β)->(VH (h::r)->Option β)->Option β) (λ_ k=>List.rec (k x) (λ_ _ _=>none) vs) (λ_ _ _ i k=>i vs λy=>k (x,y)) r i k) l) hs
def ofH (h:Hy):Hd h->HV:=Hy.rec (motive:=λh=>Hd h->HV) (λy x=>.d y x) (λk=>.n k) (λy x=>.o y x) h
def ofVH (hs:List Hy):VH hs->List HV:=List.rec (motive:=λhs=>VH hs->List HV) (λ_=> []) (λh r i=>List.rec (motive:=λr=>(VH r->List HV)->VH (h::r)->List HV) (λ_ x=> [ofH h x]) (λ_ _ _ i x=>ofH h x.1::i x.2) r i) hs
end out
end
end Go.Pv
namespace Go.Ow
def putM{α:Type}:List (Int×α)->Int->α->List (Int×α)
 |[],k,y=> [(k,y)]
 |p::r,k,y=>if p.1=k then(k,y)::r else p::putM r k y
def layM{α β:Type}(f:α->β)(L:List β)(M:List (Int×α)):List β:=M.foldl (λL p=>L.set p.1.toNat<|f p.2) L
def layR{α β a:Type}(f:α->β)(L:List β)(M:List (Int×α))(k:List β->Option a):Option a:=if∀p∈M,0<=p.1/\p.1.toNat<L.length then k (layM f L M)else none
theorem ZI0{α β a:Type}{f:α->β}{L:List β}{M:List (Int×α)}{k:List β->Option a}{r:a}(h:layR f L M k=some r):
 ∃m,m=layM f L M/\(∀p∈M,0<=p.1/\p.1.toNat<L.length)/\k m=some r:=by
 unfold layR at h;split at h
 . rename_i c;exact⟨_,rfl,c,h⟩
 . cases h
def maxB (a b:UInt8):UInt8:=if a<b then b else a
def cntB (m:List UInt8)(c:UInt8):Nat:=m.foldl (λn x=>if x==c then n+1 else n) 0
open Go.RowKit
variable{x:Cx}{ops:Array Oper}{Q:Exit->Act->World->Prop}{rest:List Oper}{l:Slots}{own:List Own}{H:Heaplet}
theorem QT (n:Int):IntKind.i64.wrap n=w64 n:=by
 simp only[IntKind.wrap,IntKind.bits,IntKind.signed,w64,Bool.true_and,SL,ge_iff_le];by_cases h:(2:Int)^(64-1)<=n%2^64
 . rw[TJ h];omega
 . rw[TK h];omega
def HoldsI (x:Cx)(I:Slots->List Own->Heaplet->Prop)(a:Act)(w:World):Prop:=∃l o g,I l o g/\Holds x l o g a w
theorem JC.cut{c:Code}(I:Slots->List Own->Heaplet->Prop)(h2:∀l o g,I l o g->JN x (Q .normal) l o g)
 (h1:JC x c (Exit.then (HoldsI x I) Q) l own H):JC x c Q l own H:=λa w b=>by
 refine wpIn_mono (h1 a w b) ?_;intro e a w h;cases e with
 |normal=>obtain⟨l,o,g,hI,b⟩:=h;exact h2 l o g hI a w b
 |exit id=>exact h
 |goto t=>exact h
 |ret=>exact h
 |panic c=>exact h
 |outgrown=>exact h
theorem JN.cut{I:Slots->List Own->Heaplet->Prop}{l':Slots}{o':List Own}{g:Heaplet}(hI:I l' o' g)(h:Sub l' l)(b:o'=own)(c:g=H):
 JN x (Exit.then (HoldsI x I) Q .normal) l own H:=λa w d=>⟨l',o',g,hI,by rw[b,c];exact d.sub h⟩
theorem ZH6{c:Code}(I:Nat->Slots->List Own->Heaplet->Prop)(f:Nat){l0:Slots}(hb:∀l o g,¬I 0 l o g)(h0:I f l0 own H)(j:Sub l0 l)
    (round:∀n l o g,I (n+1) l o g->JC x c (Exit.then (HoldsI x<|I n) Q) l o g):JC x (.loop c) Q l own H:=by
  refine V1 (ι:=Nat×Slots×List Own×Heaplet) (λi=>i.2.1) (λi=>i.2.2.1) (λi=>i.2.2.2) (λi=>I i.1 i.2.1 i.2.2.1 i.2.2.2) (λi=>i.1) (f,l0,own,H) h0 j rfl rfl ?_;rintro⟨n,l',o',k⟩ hI;cases n with
  |zero=>exact(hb _ _ _ hI).elim
  | succ n=>
    intro a w m;refine wpIn_mono (round n l' o' k hI a w m) ?_;intro e a w h;cases e with
    |normal=>obtain⟨p,q,r,b,d⟩:=h;exact⟨(n,p,q,r),b,SD n,d⟩
    |exit id=>exact h
    |goto t=>exact h
    |ret=>exact h
    |panic c=>exact h
    |outgrown=>exact h
theorem Gi{c:Tmp}{d e:Code}{b:Bool}(h:lk l c=some (.bool b))(ht:b=true->JC x d Q ((c,.bool true)::l) own H)(a:b=false->JC x e Q ((c,.bool false)::l) own H):
 JC x (.cond (.tmp c) d e) Q l own H:=JC.cond h ht a
section R
variable{ty:TypeId}{p q:Operand}{t u:TypeId}{v:Value}
theorem Yd (h1:evo l p=some v):Runs x (.move p) ty l own H v:=λρ w _ _ _ _ h a=>by simp[execOp,h _ _ h1,go_sem]
theorem Uz (h1:evo l p=some v):Runs x (.assign p) ty l own H v:=λρ w _ _ _ _ h a=>by simp[execOp,h _ _ h1,go_sem]
theorem ZKO{c:Operand}(a:evo l c=some (.bool true))(h1:evo l p=some v):Runs x (.pick c p q) ty l own H v:=λρ w _ _ _ _ h b=>by simp[execOp,h _ _ a,h _ _ h1,go_sem]
theorem ZNx{c:Operand}(a:evo l c=some (.bool false))(h1:evo l q=some v):Runs x (.pick c p q) ty l own H v:=λρ w _ _ _ _ h b=>by simp[execOp,h _ _ a,h _ _ h1,go_sem]
theorem ZQR{b:Bool}(h1:evo l p=some (.bool b)):Runs x (.unOp .not t p) ty l own H (.bool (!b)):=λρ w _ _ _ _ h a=>by simp[execOp,h _ _ h1,Op.unary,go_sem]
theorem R.extract{vs:Array Value}{i:Nat}(h1:evo l p=some (.tuple vs))(h2:vs[i]? =some v):Runs x (.extract p i) ty l own H v:=λρ w _ _ _ _ h a=>by simp[execOp,h _ _ h1,Instr.extract,h2,go_sem]
theorem BT{m n:Int}(h1:evo l p=some (.int .i64 m))(h2:evo l q=some (.int .i64 n)):Runs x (.binOp .add t p q u) ty l own H (.int .i64<|w64 (m+n)):=
 λρ w _ _ _ _ h a=>by rw[<-QT];simp[execOp,h _ _ h1,h _ _ h2,eqGuard,binOp,Op.intArith,go_sem]
theorem Xk{k:Nat}{m:Int}(h1:evo l p=some (.int .i64 (k:Int)))(h2:evo l q=some (.int .i64 1))(h:(k:Int)<m)(a:m<=9223372036854775807):Runs x (.binOp .add t p q u) ty l own H (.int .i64 ((k+1:Nat):Int)):=by
 have:=BT (x:=x) (own:=own) (H:=H) (ty:=ty) (t:=t) (u:=u) h1 h2;rw[Jg (by omega)<|by omega]at this;exact this
theorem ZNt{m n:Int}(h1:evo l p=some (.int .i64 m))(h2:evo l q=some (.int .i64 n)):Runs x (.binOp .sub t p q u) ty l own H (.int .i64<|w64 (m-n)):=
 λρ w _ _ _ _ h a=>by rw[<-QT];simp[execOp,h _ _ h1,h _ _ h2,eqGuard,binOp,Op.intArith,go_sem]
theorem ZNz{m n:Int}(h1:evo l p=some (.int .i64 m))(h2:evo l q=some (.int .i64 n)):Runs x (.binOp .mul t p q u) ty l own H (.int .i64<|w64 (m*n)):=
 λρ w _ _ _ _ h a=>by rw[<-QT];simp[execOp,h _ _ h1,h _ _ h2,eqGuard,binOp,Op.intArith,go_sem]
theorem ZNw{m n:Int}(h1:evo l p=some (.int .i64 m))(h2:evo l q=some (.int .i64 n))(h0:n≠0):Runs x (.binOp .quo t p q u) ty l own H (.int .i64<|w64<|m.tdiv n):=
 λρ w _ _ _ _ h a=>by rw[<-QT];simp[execOp,h _ _ h1,h _ _ h2,eqGuard,binOp,Op.intDiv,h0,go_sem]
theorem ZRt{m n:Int}(h1:evo l p=some (.int .i64 m))(h2:evo l q=some (.int .i64 n))(h0:n≠0):Runs x (.binOp .rem t p q u) ty l own H (.int .i64<|m.tmod n):=
 λρ w _ _ _ _ h a=>by simp[execOp,h _ _ h1,h _ _ h2,eqGuard,binOp,Op.intDiv,h0,go_sem]
theorem ZNv{m n:Int}{k:IntKind}(h1:evo l p=some (.int .i64 m))(h2:evo l q=some (.int k n))(h0:0<=n):Runs x (.binOp .shl t p q u) ty l own H (.int .i64<|sli m n):=
 λρ w _ _ _ _ h a=>by rw[sli,<-QT];simp[execOp,h _ _ h1,h _ _ h2,eqGuard,binOp,Op.shift,IntKind.bits,show¬n<0 by omega,go_sem]
theorem ZNu{m n:Int}{k:IntKind}(h1:evo l p=some (.int .i64 m))(h2:evo l q=some (.int k n))(h0:0<=n):Runs x (.binOp .shr t p q u) ty l own H (.int .i64<|sri m n):=
 λρ w _ _ _ _ h a=>by rw[sri];simp[execOp,h _ _ h1,h _ _ h2,eqGuard,binOp,Op.shift,IntKind.bits,show¬n<0 by omega,go_sem]
theorem ZSA{m n:Int}(h1:evo l p=some (.int .i64 m))(h2:evo l q=some (.int .i64 n)):Runs x (.binOp .and t p q u) ty l own H (.int .i64<|and64 m n):=
 λρ w _ _ _ _ h a=>by rw[Ow.and64,<-QT];simp only[execOp,h _ _ h1,h _ _ h2,eqGuard,binOp,Op.intBits,IntKind.bits];rfl
theorem ZTR{m n:Int}(h1:evo l p=some (.int .i64 m))(h2:evo l q=some (.int .i64 n)):Runs x (.binOp .or t p q u) ty l own H (.int .i64<|or64 m n):=
 λρ w _ _ _ _ h a=>by rw[Ow.or64,<-QT];simp only[execOp,h _ _ h1,h _ _ h2,eqGuard,binOp,Op.intBits,IntKind.bits];rfl
theorem ZRl{m n:Int}(h1:evo l p=some (.int .i64 m))(h2:evo l q=some (.int .i64 n)):Runs x (.binOp .xor t p q u) ty l own H (.int .i64<|xor64 m n):=
 λρ w _ _ _ _ h a=>by rw[Ow.xor64,<-QT];simp only[execOp,h _ _ h1,h _ _ h2,eqGuard,binOp,Op.intBits,IntKind.bits];rfl
theorem ZKP{k:IntKind}{m n:Int}(h1:evo l p=some (.int k m))(h2:evo l q=some (.int k n)):Runs x (.binOp .lss t p q u) ty l own H (.bool<|decide (m<n)):=
 λρ w _ _ _ _ h a=>by simp[execOp,h _ _ h1,h _ _ h2,eqGuard,binOp,Op.intCmp,go_sem]
theorem ZN1{k:IntKind}{m n:Int}(h1:evo l p=some (.int k m))(h2:evo l q=some (.int k n)):Runs x (.binOp .leq t p q u) ty l own H (.bool<|decide (m<=n)):=
 λρ w _ _ _ _ h a=>by simp[execOp,h _ _ h1,h _ _ h2,eqGuard,binOp,Op.intCmp,go_sem]
theorem ZN3{k:IntKind}{m n:Int}(h1:evo l p=some (.int k m))(h2:evo l q=some (.int k n)):Runs x (.binOp .gtr t p q u) ty l own H (.bool<|decide (n<m)):=
 λρ w _ _ _ _ h a=>by simp[execOp,h _ _ h1,h _ _ h2,eqGuard,binOp,Op.intCmp,go_sem]
theorem ZN5{k:IntKind}{m n:Int}(h1:evo l p=some (.int k m))(h2:evo l q=some (.int k n)):Runs x (.binOp .geq t p q u) ty l own H (.bool<|decide (n<=m)):=
 λρ w _ _ _ _ h a=>by simp[execOp,h _ _ h1,h _ _ h2,eqGuard,binOp,Op.intCmp,go_sem]
theorem ZN6{k:IntKind}{m n:Int}(h1:evo l p=some (.int k m))(h2:evo l q=some (.int k n)):Runs x (.binOp .eql t p q u) ty l own H (.bool<|decide (m=n)):=
 λρ w _ _ _ _ h a=>by simp[execOp,h _ _ h1,h _ _ h2,eqGuard,binOp,Op.intCmp,go_sem];rw[Sm];simp
theorem ZNy{k:IntKind}{m n:Int}(h1:evo l p=some (.int k m))(h2:evo l q=some (.int k n)):Runs x (.binOp .neq t p q u) ty l own H (.bool<|!decide (m=n)):=
 λρ w _ _ _ _ h a=>by simp[execOp,h _ _ h1,h _ _ h2,eqGuard,binOp,Op.intCmp,go_sem];rw[Sm];simp
theorem XS{k a:IntKind}{m:Int}{s:TypeId}{ds:TypeDesc}(hs:x.P.underlying s=some ds)(ht:x.P.underlying t=some (.int a))(h1:evo l p=some (.int k m)):Runs x (.convert s t p) ty l own H (.int a<|a.wrap m):=
 λρ w _ _ _ _ h b=>by simp[execOp,h _ _ h1,convert,run_underlying hs,run_underlying ht,Conv.intToInt,go_sem]
theorem ZNE{fn:Go.Fn}{fs cs:Array Operand}{vf vc:List Value}(h1:fs.toList.mapM (evo l)=some vf)(h2:cs.toList.mapM (evo l)=some vc):Runs x (.makeFunc fn fs cs) ty l own H (.func fn vf.toArray vc.toArray):=
 λρ w _ _ _ _ h a=>by
  have e1:=UE h h1;have e2:=UE h h2;simp[execOp,Instr.makeFunc,e1,e2,go_sem]
theorem ZMC{S k n b o:Nat}(a:YG x.P S k=some n)(h1:evo l p=some (.pointer<|some ⟨b,o,none⟩)):Runs x (.fieldAddr S p k) ty l own H (.pointer<|some ⟨b,o+n,none⟩):=
 λρ w _ _ _ _ h c=>by simp only[execOp,h _ _ h1];exact YQ<|ZKu a b o w
theorem R.ld{T n b o:Nat}(hs:ZE x.P T=some (false,n))(h1:evo l p=some (.pointer<|some ⟨b,o,none⟩))(a:At H own b o v):Runs x (.load T p) ty l own H v:=
 λρ w _ _ _ _ h c=>by simp only[execOp,h _ _ h1];exact YQ<|ZAS hs<|a.cell c
theorem ZN2{T b o n:Nat}{vs:List Value}(hs:ZE x.P T=some (true,n))(h1:evo l p=some (.pointer<|some ⟨b,o,none⟩))(a:∀j u,vs[j]? =some u->At H own b (o+j) u)(hn:vs.length=n):Runs x (.load T p) ty l own H (.agg vs.toArray):=
 λρ w _ _ _ _ h c=>by simp only[execOp,h _ _ h1];exact YQ<|ZIo (by rw[hn];exact hs) λj u e=>(a j u e).cell c
theorem Jc (i:Nat){T n b o:Nat}{cur:Array Value}{t:TypeId}{f:Nat×Nat}(hs:ZE x.P T=some (false,n))(h1:evo l p=some (.pointer<|some ⟨b,o,none⟩))
 (hi:own[i]? =some [(b,.cells cur t f)])(h:cur.toList[o]? =some v):Runs x (.load T p) ty l own H v:=R.ld hs h1<|.inr ⟨i,cur,t,f,hi,by simpa using h⟩
theorem ZKR (i:Nat){T b o n:Nat}{cur:Array Value}{t:TypeId}{f:Nat×Nat}{vs:List Value}(hs:ZE x.P T=some (true,n))(h1:evo l p=some (.pointer<|some ⟨b,o,none⟩))
 (hi:own[i]? =some [(b,.cells cur t f)])(h:vs=(cur.toList.drop o).take n)(hn:vs.length=n):Runs x (.load T p) ty l own H (.agg vs.toArray):=
 ZN2 hs h1 (λj u e=>.inr ⟨i,cur,t,f,hi,by
  rw[h,TX]at e;split at e
  . simpa[SF]using e
  . cases e⟩) hn
theorem Qu{T n b o:Nat}(hs:ZE x.P T=some (false,n))(h1:evo l p=some (.pointer<|some ⟨b,o,none⟩))(h:H b o=some v):Runs x (.load T p) ty l own H v:=R.ld hs h1<|.inl h
theorem ZTZ{T b o n:Nat}{vs:List Value}(hs:ZE x.P T=some (true,n))(h1:evo l p=some (.pointer<|some ⟨b,o,none⟩))(h:∀j u,vs[j]? =some u->H b (o+j)=some u)(hn:vs.length=n):Runs x (.load T p) ty l own H (.agg vs.toArray):=
 ZN2 hs h1 (λj u e=>.inl<|h j u e) hn
theorem ZTa{T b o n:Nat}{cs:List Value}(k:Nat){vs:List Value}(hs:ZE x.P T=some (true,n))(h1:evo l p=some (.pointer<|some ⟨b,o+k,none⟩))(h:∀j u,cs[j]? =some u->H b (o+j)=some u)(a:vs=(cs.drop k).take n)(hn:vs.length=n):Runs x (.load T p) ty l own H (.agg vs.toArray):=
 ZN2 hs h1 (λj u e=>.inl (by
  rw[Su];refine h _ _ ?_;rw[a,TX]at e;split at e
  . simpa[SF]using e
  . cases e)) hn
theorem Ux{a:Addr}(h1:evo l p=some (.pointer<|some a)):Runs x (.nilCheck p) ty l own H (.pointer<|some a):=λρ w _ _ _ _ h b=>by simp[execOp,h _ _ h1,go_sem]
theorem ZR0{m:Int}(h1:evo l p=some (.int .i64 m)):Runs x (.unOp .neg t p) ty l own H (.int .i64<|w64 (-m)):=λρ w _ _ _ _ h a=>by rw[<-QT];simp[execOp,h _ _ h1,Op.unary,go_sem]
theorem R.len{ao:Option Addr}{n c:Nat}{e:TypeId}(a:x.P.underlying t=some (.slice e))(h1:evo l p=some (.slice ao n c)):Runs x (.call ⟨.builtin .len,#[p],#[t]⟩) ty l own H (.int .i64 (n:Int)):=
 λρ w _ _ _ _ h b=>by simp[execOp,resolve,invoke,h _ _ h1,run_underlying a,go_sem,Builtin.len_,goInt]
def Long (v:Value)(n:Nat):Prop:=∃ao cap,v=.slice ao n cap
theorem Zt{n:Nat}{e:TypeId}(h:x.P.underlying t=some (.slice e))(h1:evo l p=some v)(a:Long v n):Runs x (.call ⟨.builtin .len,#[p],#[t]⟩) ty l own H (.int .i64 (n:Int)):=by
 obtain⟨ao,cap,rfl⟩:=a;exact R.len h h1
theorem ZA2{P:Program}{w:World}{t:TypeId}{a b:Bool}(h:P.underlying t=some .bool):(Op.equal t (.bool a)<|.bool b).run P w=.ok (a==b) w:=by
 have c:∀k,(Op.equalIn (k+1) t (.bool a)<|.bool b).run P w=.ok (a==b) w:=λk=>by
  unfold Op.equalIn;rw[Sem.run_bind,run_underlying h];rfl
 exact c 9999
theorem ZOm{a b:Bool}(d:x.P.underlying t=some .bool)(h1:evo l p=some (.bool a))(h2:evo l q=some (.bool b)):Runs x (.binOp .eql t p q u) ty l own H (.bool (a==b)):=
 λρ w _ _ _ _ h e=>by
  simp only[execOp,h _ _ h1,h _ _ h2];refine YQ ?_;have c:∃g:Bool,(eqGuard .eql t p q (.bool a)<|.bool b).run x.P w=.ok () w:=⟨true,by unfold eqGuard;split<;>rfl⟩;obtain⟨_,c⟩:=c;rw[Sem.run_bind,c];simp only[Result.andThen,binOp,Sem.run_bind,ZA2 d];rfl
theorem ZOl{a b:Bool}(d:x.P.underlying t=some .bool)(h1:evo l p=some (.bool a))(h2:evo l q=some (.bool b)):Runs x (.binOp .neq t p q u) ty l own H (.bool<|!(a==b)):=
 λρ w _ _ _ _ h e=>by
  simp only[execOp,h _ _ h1,h _ _ h2];refine YQ ?_;have c:∃g:Bool,(eqGuard .neq t p q (.bool a)<|.bool b).run x.P w=.ok () w:=⟨true,by unfold eqGuard;split<;>rfl⟩;obtain⟨_,c⟩:=c;rw[Sem.run_bind,c];simp only[Result.andThen,binOp,Sem.run_bind,ZA2 d];rfl
theorem ZQW{a b:List UInt8}(h1:evo l p=some (.string<|bs a))(h2:evo l q=some (.string<|bs b)):Runs x (.binOp .eql t p q u) ty l own H (.bool<|decide (a=b)):=
 λρ w _ _ _ _ h c=>by simp[execOp,h _ _ h1,h _ _ h2,eqGuard,binOp,Op.stringOp,ZSa,go_sem]
theorem ZQS{a b:List UInt8}(h1:evo l p=some (.string<|bs a))(h2:evo l q=some (.string<|bs b)):Runs x (.binOp .neq t p q u) ty l own H (.bool<|!decide (a=b)):=
 λρ w _ _ _ _ h c=>by simp[execOp,h _ _ h1,h _ _ h2,eqGuard,binOp,Op.stringOp,ZSa,go_sem]
theorem ZKN{s e:TypeId}{c:List UInt8}(hs:x.P.underlying s=some (.slice e))(d:x.P.underlying e=some (.int .u8))(ht:x.P.underlying t=some .string)(h1:evo l p=some v)(f:IsSlice H RU8 1 v c):Runs x (.convert s t p) ty l own H (.string<|bs c):=by
 obtain⟨cells,g,ao,cap,rfl,h⟩:=IsSlice.cells f;rw[g.of_u8]at h;exact λρ w _ _ _ _ a i=>by
  simp only[execOp,a _ _ h1];exact YQ<|ZOL hs d ht ⟨ao,cap,rfl,h.imp id<|fun⟨b,o,e1,e2⟩=>⟨b,o,e1,λj u k=>i.1 _ _ _<|e2 j u k⟩⟩
theorem Uy{ao:Option Addr}{n c:Nat}{e:TypeId}(a:x.P.underlying t=some (.slice e))(h1:evo l p=some (.slice ao n c))(h2:evo l q=some (.slice none 0 0)):Runs x (.binOp .eql t p q u) ty l own H (.bool ao.isNone):=
 λρ w _ _ _ _ h d=>by
  simp only[execOp,h _ _ h1,h _ _ h2];refine YQ ?_;have b:(eqGuard .eql t p q (.slice ao n c)<|.slice none 0 0).run x.P w=.ok () w:=rfl;rw[Sem.run_bind,b];simp only[Result.andThen,binOp,Sem.run_bind,ZCx a];rfl
theorem ZAK{ao:Option Addr}{n c:Nat}{e:TypeId}(a:x.P.underlying t=some (.slice e))(h1:evo l p=some (.slice ao n c))(h2:evo l q=some (.slice none 0 0)):Runs x (.binOp .neq t p q u) ty l own H (.bool (!ao.isNone)):=
 λρ w _ _ _ _ h d=>by
  simp only[execOp,h _ _ h1,h _ _ h2];refine YQ ?_;have b:(eqGuard .neq t p q (.slice ao n c)<|.slice none 0 0).run x.P w=.ok () w:=rfl;rw[Sem.run_bind,b];simp only[Result.andThen,binOp,Sem.run_bind,ZCx a];rfl
theorem R.bld{T:TypeId}{a:Array (Nat×Operand)}{vs:List (Nat×Value)}{z:Value}{c:List (Nat×Nat)}{cells:Array Value}(f:YK x.P T=some z)(g:QW x.P T=some c)
    (i:a.toList.mapM (λp=>(evo l p.2).map λu=>(p.1,u))=some vs)(j:Instr.fill (c.toArray[·]?) z.cells vs=some cells):Runs x (.build T a) ty l own H (.agg cells):=
  λρ w _ _ _ _ h o=>by
    simp only[execOp];have k:∀(ps:List (Nat×Operand)) (us:List (Nat×Value)),ps.mapM (λp=>(evo l p.2).map λu=>(p.1,u))=some us->ps.map (λp=>(p.1,ρ p.2))=us:=by
      intro ps;induction ps with
      |nil=>intro us e;simp at e;simp[e]
      | cons p ps m=>
        intro us e;simp only[SM,RZ,T5,Option.map_eq_some_iff]at e;obtain⟨b,⟨u,n,rfl⟩,cs,d,e⟩:=e;simp at e;subst e;simp[m cs d,h _ _ n]
    have e:a.map (λp=>(p.1,ρ p.2))=vs.toArray:=by
      rw[<-k _ _ i];apply Array.ext';simp
    have:=ZON (P:=x.P) (w:=w) f g j;rw[<-e]at this;exact YQ this
end R
def ElemAt (v:Value)(n:Nat)(i:Int)(b o:Nat):Prop:=0<=i/\∃a len cap,v=.slice (some ⟨b,a,none⟩) len cap/\o=a+i.toNat*n/\i.toNat<len
theorem IsSlice.elem{α:Type}{R:Rep α}{n:Nat}{v:Value}{m:List α}{i:Int}{y:α}{HF:Heaplet}(a:IsSlice HF R n v m)(h:Nth m i y):
 ∃b o cs,ElemAt v n i b o/\R HF cs y/\cs.length=n/\∀j u,cs[j]? =some u->HF b (o+j)=some u:=by
 obtain⟨ao,cap,rfl,e1,e2,e3,e4,e5⟩:=a;obtain⟨b,o,cs,rfl,f,c,d⟩:=e5 _ _ h.2;exact⟨b,_,cs,⟨h.1,o,_,cap,rfl,rfl,(TC.1 h.2).1⟩,c,f,d⟩
theorem RowOf.elem{α:Type}{R:Rep α}{n B:Nat}{E:TypeId}{v:Value}{m:List α}{K:Own}{i:Int}{y:α}{HF:Heaplet}(a:RowOf HF R B E n v m K)(h:Nth m i y):
 ∃b o cs cur,K= [(b,.cells cur E (0,0))]/\ElemAt v n i b o/\R HF cs y/\cs.length=n/\∀j u,cs[j]? =some u->cur.toList[o+j]? =some u:=by
 obtain⟨cells,⟨h0,h3⟩,c,k⟩:=a;rcases h3 with⟨rfl,h3,rfl⟩|⟨b,cap,cur,rfl,rfl,e3,e4,e5,e6,e7⟩
 . have:m= []:=TT.1 h3;subst this;simp[Nth]at h
 . obtain⟨cs,f,d,e⟩:=c.at h.2;refine⟨b,_,cs,cur,rfl,⟨h.1,0,_,cap,rfl,rfl,(TC.1 h.2).1⟩,d,f,λj u g=> ?_⟩;have:=e j u g;rw[<-e7,TX]at this;split at this
   . rw[Te];exact this
   . cases this
section R2
variable{ty:TypeId}{p q:Operand}{t u:TypeId}{v:Value}
theorem QS{T e:TypeId}{g:Bool}{n b o:Nat}{i:Int}{c:IntKind}(d:x.P.underlying T=some (.slice e))(hs:ZE x.P e=some (g,n))(h1:evo l p=some v)(h2:evo l q=some (.int c i))(f:ElemAt v n i b o):
 Runs x (.indexAddr T p q) ty l own H (.pointer<|some ⟨b,o,none⟩):=by
 obtain⟨h0,j,len,cap,rfl,rfl,a⟩:=f;obtain⟨k,rfl⟩:=SQ h0;exact λρ w _ _ _ _ h m=>by simp only[execOp,h _ _ h1,h _ _ h2];exact YQ<|ZEo d hs (by simpa using a) w
theorem R.slc{α:Type}{R:Rep α}{size cap:Nat}{e:TypeId}{g:Bool}{a b c:Int}{lo hi mx:Option Operand}{m:List α}{v':Value}(j:x.P.underlying t=some (.slice e))(hs:ZE x.P e=some (g,size))(h0:evo l p=some v)
 (h1:match lo with|none=>a=0|some o=>∃k,evo l o=some (.int k a))(h2:match hi with|none=>b=m.length|some o=>∃k,evo l o=some (.int k b))(h3:match mx with|none=>∃ao n,v=.slice ao n cap/\c=cap|some o=>∃k,evo l o=some (.int k c))
 (f:0<=a/\a<=b/\b<=c)(q:∃ao,v=.slice ao m.length cap/\c<=cap/\v'=sliced ao a.toNat b.toNat c.toNat size)(i:mx=none\/hi≠none):
 Runs x (.slice t p lo hi mx) ty l own H v':=by
 obtain⟨ao,rfl,s,rfl⟩:=q;obtain⟨a,rfl⟩:=SQ f.1;obtain⟨b,rfl⟩:=SQ<|show 0<=b by omega
 obtain⟨c,rfl⟩:=SQ<|show 0<=c by omega
 exact λρ w _ _ _ _ d u=>by
  simp only[execOp,d _ _ h0];refine YQ<|ZNV j hs ρ d lo hi mx a b c ?_ ?_ ?_ (by omega) (by omega) (by omega) i w
  . cases lo with
    |none=>simp only at h1;simp only[bnd];omega
    |some o=>obtain⟨k,h⟩:=h1;exact⟨k,_,h,rfl⟩
  . cases hi with
    |none=>simp only at h2;simp only[bnd];omega
    |some o=>obtain⟨k,h⟩:=h2;exact⟨k,_,h,rfl⟩
  . cases mx with
    |none=>obtain⟨r,y,e1,e2⟩:=h3;simp only[Value.slice.injEq]at e1;simp only[bnd];omega
    |some o=>obtain⟨k,h⟩:=h3;exact⟨k,_,h,rfl⟩
end R2
theorem PY{α:Type}{R:Rep α}{size:Nat}{v:Value}{m m':List α}{a b:Int}{HF:Heaplet}(h:IsSlice HF R size v m)(c:m'=cut m a b)(d:0<=a/\a<=b/\b<=m.length):
 ∃v' cap,(∃ao n,v=.slice ao n cap/\(cap:Int)=cap)/\b<=cap/\(∃ao,v=.slice ao m.length cap/\(cap:Int)<=cap/\v'=sliced ao a.toNat b.toNat (cap:Int).toNat size)/\IsSlice HF R size v' m':=by
 subst c;obtain⟨ao,cap,rfl,e1,r⟩:=h;have hs:=IsSlice.sub (ao:=ao) (n:=m.length) (cap:=cap) ⟨ao,cap,rfl,e1,r⟩ a.toNat b.toNat cap (by omega) (by omega) (by omega) (TF _);exact⟨_,cap,⟨ao,_,rfl,rfl⟩,by omega,⟨ao,rfl,SA _,rfl⟩,by simpa[cut]using hs⟩
theorem IsSlice.long{α:Type}{R:Rep α}{size:Nat}{v:Value}{m:List α}{HF:Heaplet}(h:IsSlice HF R size v m):Long v m.length:=by obtain⟨ao,cap,e,_⟩:=h;exact⟨ao,cap,e⟩
theorem RowOf.long{α:Type}{R:Rep α}{B:Nat}{E:TypeId}{size:Nat}{v:Value}{ls:List α}{K:Own}{HF:Heaplet}(h:RowOf HF R B E size v ls K):Long v ls.length:=by
 obtain⟨ao,cap,e,_⟩:=h.len;exact⟨ao,cap,e⟩
theorem IsSlice.lenI{α:Type}{R:Rep α}{size:Nat}{v:Value}{m:List α}{HF:Heaplet}(h:IsSlice HF R size v m):(m.length:Int)<=9223372036854775807:=by have:=h.len_le;omega
theorem RowOf.lenI{α:Type}{R:Rep α}{B:Nat}{E:TypeId}{size:Nat}{v:Value}{ls:List α}{K:Own}{HF:Heaplet}(h:RowOf HF R B E size v ls K):(ls.length:Int)<=9223372036854775807:=by
 obtain⟨ao,cap,e,h1,h2⟩:=h.len;unfold maxLen at h2;omega
def New (H a:Heaplet):Heaplet:=λb o=>match H b o with
 |none=>a b o
 |some _=>none
theorem New.le (H a:Heaplet):Hle (New H a) a:=λb o v h=>by
 unfold New at h;split at h
 . exact h
 . cases h
theorem New.mono{H H1 H2:Heaplet}(h:Hle H1 H2):Hle (New H H1) (New H H2):=λb o v e=>by
 unfold New at e|-;split at e
 . rename_i hn;simp[hn,h _ _ _ e]
 . cases e
theorem New.call{H0 H a:Heaplet}(h:Hle H0 H):Hle (New H a) (New H0 a):=λb o v e=>by
 unfold New at e|-;split at e
 . rename_i hn;cases h0:H0 b o with
   |none=>simp[e]
   |some u=>rw[h _ _ _ h0]at hn;cases hn
 . cases e
def Rep.Const{α:Type}(R:Rep α):Prop:=∀H a cs x,R H cs x->R a cs x
theorem RU8.const:RU8.Const:=λ_ _ _ _ h=>h
def RInt:Rep Int:=λ_ cs n=>cs= [.int .i64 n]
theorem RInt.const:RInt.Const:=λ_ _ _ _ h=>h
theorem RInt.mono:RInt.Mono:=λ_ _ _ _ _ h=>h
theorem RInt.one:RInt.One:=λ_ cs y h=>by rw[show cs=_ from h];intro u a;simp at a;subst a;rfl
def RU64:Rep UInt64:=λ_ cs n=>cs= [.int .u64 n.toNat]
theorem RU64.mono:RU64.Mono:=λ_ _ _ _ _ h=>h
def RSl{α:Type}(R:Rep α)(size:Nat):Rep (List α):=λH cs l=>∃v,cs= [v]/\IsSlice H R size v l
theorem RSl.mono{α:Type}{R:Rep α}{size:Nat}(b:R.Mono):(RSl R size).Mono:=λ_ _ _ _ a ⟨v,e,h⟩=>⟨v,e,h.mono b a⟩
theorem IsSlice.one1{α:Type}{R:Rep α}{size:Nat}{v:Value}{m:List α}{HF:Heaplet}(h:IsSlice HF R size v m):v.oneCell'=true:=by obtain⟨ao,cap,rfl,_⟩:=h;rfl
theorem RSl.one{α:Type}{R:Rep α}{size:Nat}:(RSl R size).One:=λ_ _ _ ⟨v,e,h⟩=>by subst e;intro u a;simp at a;subst a;exact h.one1
theorem Flat.conv{α:Type}{R:Rep α}{H1 H2:Heaplet}(a:∀cs y,R H1 cs y->R H2 cs y){size:Nat}:∀{l:List α} {cells:List Value},Flat H1 R size cells l->Flat H2 R size cells l
  |[],cells,h=>h
  | y::r,cells,h=>by
    obtain⟨cs,m,rfl,h1,h2,h3⟩:=h;exact⟨cs,m,rfl,h1,a _ _ h2,Flat.conv a h3⟩
theorem Ym{α:Type}{R:Rep α}(a:R.Const){H1 H2:Heaplet}{B:Nat}{E:TypeId}{size:Nat}{v:Value}{ls:List α}{K:Own}(h:RowOf H1 R B E size v ls K):RowOf H2 R B E size v ls K:=by
 obtain⟨cells,h1,h2,h3⟩:=h;exact⟨cells,h1,h2.conv<|a _ _,h3⟩
theorem Holds.pubN{α:Type}{R:Rep α}(p:R.Mono){i:Nat}{K:Own}{B:Nat}{E:TypeId}{size:Nat}{v:Value}{ls:List α}(hi:own[i]? =some K)(q:RowOf (New x.H0 H) R B E size v ls K)(r:x.w0.heap.size<=B)
 {a:Act}{w:World}(c:Holds x l own H a w):∃m,Hle H m/\IsSlice (New x.H0 m) R size v ls/\Holds x l (own.set i []) m a w:=by
 obtain⟨cells,⟨h0,h1⟩,s,z⟩:=q;rcases h1 with⟨rfl,h3,rfl⟩|⟨g,cap,cur,rfl,rfl,e3,e4,e5,e6,e7⟩
 . have:ls= []:=TT.1 h3;subst this;exact⟨H,Rz _,IsSlice.nil _ _ _,c.size,c.ds,c.slots,by
    have e:own.set i []=own:=by
     apply Tl;intro j;rw[T3];split
     . rename_i d;subst d;rw[hi];split
       . rfl
       . rename_i t;have:=(TC.1 hi).1;omega
     . rfl
    rw[e];exact c.mem⟩
 . have y:=Mem.pub c.mem hi<|TS r e3;have f:∀o,H g o=none:=λo=>(Zm c.mem hi).apart (g,.cells cur E (0,0)) (by simp) o;have n:∀o,x.H0 g o=none:=λo=>by
    cases h:x.H0 g o with
    |none=>rfl
    |some v=>have:=c.mem.le _ _ _ h;rw[f]at this;cases this
   have k:Hle H (λb o=>if b=g then cur[o]? else H b o):=λb o v e=>by
    by_cases hb:b=g
    . subst hb;rw[f]at e;cases e
    . simp[hb,e]
   refine⟨_,k,?_,c.size,c.ds,c.slots,y⟩;refine PL (s.mono p<|New.mono k) e4 e5 λj u d=> ?_;rw[<-e7,TX]at d;split at d
   . simp[New,n];simpa using d
   . cases d
theorem JN.pubN{C:Act->World->Prop}{α:Type}{R:Rep α}(i:Nat)(c:R.Mono){K:Own}{B:Nat}{E:TypeId}{size:Nat}{v:Value}{ls:List α}(hi:own[i]? =some K)(d:RowOf (New x.H0 H) R B E size v ls K)(e:x.w0.heap.size<=B)
 (h:∀b,Hle H b->IsSlice (New x.H0 b) R size v ls->JN x C l (own.set i []) b):JN x C l own H:=λa w f=>by
 obtain⟨b,h1,h2,h3⟩:=f.pubN c hi d e;exact h b h1 h2 a w h3
theorem JL.pubN{α:Type}{R:Rep α}(i:Nat)(c:R.Mono){K:Own}{B:Nat}{E:TypeId}{size:Nat}{v:Value}{ls:List α}(hi:own[i]? =some K)(d:RowOf (New x.H0 H) R B E size v ls K)(e:x.w0.heap.size<=B)
 (h:∀b,Hle H b->IsSlice (New x.H0 b) R size v ls->JL x ops Q rest l (own.set i []) b):JL x ops Q rest l own H:=JN.pubN (C:=λa w=>wpLs x.P x.r ops Q rest a w) i c hi d e h
def Res (P:Program)(l:Slots)(own:List Own):List ResultVar->List Value->Prop
 |[],vs=>vs= []
 | .tmp t::a,vs=>∃v r,vs=v::r/\lk l t=some v/\Res P l own a r
 | .cell t T::a,vs=>∃v r,vs=v::r/\(∃(b i:Nat) (cur:Array Value) (c:TypeId) (f:Nat×Nat),lk l t=some (.pointer<|some ⟨b,0,none⟩)/\own[i]? =some [(b,Obj.cells cur c f)]/\
  ((ZE P T=some (true,cur.toList.length)/\v=.agg cur)\/(∃n,ZE P T=some (false,n)/\cur.toList[0]? =some v)))/\Res P l own a r
theorem ZW{P:Program}{t:Tmp}{v:Value}{a:List ResultVar}{r:List Value}(h:lk l t=some v)(k:Res P l own a r):Res P l own (.tmp t::a) (v::r):=⟨v,r,rfl,h,k⟩
theorem Qm{P:Program}{t:Tmp}{T b:Nat}{cur:Array Value}{a:TypeId}{f:Nat×Nat}{c:List ResultVar}{r:List Value}(i:Nat)(h:lk l t=some (.pointer<|some ⟨b,0,none⟩))(hi:own[i]? =some [(b,Obj.cells cur a f)])
 (hs:ZE P T=some (true,cur.toList.length))(k:Res P l own c r):Res P l own (.cell t T::c) (.agg cur::r):=⟨_,r,rfl,⟨b,i,cur,a,f,h,hi,.inl ⟨hs,rfl⟩⟩,k⟩
theorem ZOk{P:Program}{t:Tmp}{T b n:Nat}{v:Value}{cur:Array Value}{a:TypeId}{f:Nat×Nat}{c:List ResultVar}{r:List Value}(i:Nat)(h:lk l t=some (.pointer<|some ⟨b,0,none⟩))(hi:own[i]? =some [(b,Obj.cells cur a f)])
 (hs:ZE P T=some (false,n))(d:cur.toList[0]? =some v)(k:Res P l own c r):Res P l own (.cell t T::c) (v::r):=⟨_,r,rfl,⟨b,i,cur,a,f,h,hi,.inr ⟨n,hs,d⟩⟩,k⟩
def pack:List Value->Value
 |[v]=>v
 |vs=>.tuple vs.toArray
def resF (tmps:Array Value):ResultVar->Sem Value
 | .tmp t=>pure (tmps.getD t undef)
 | .cell a t=>do loadVar t (<-asAddr (tmps.getD a undef))
theorem ZGf{w:World}{a:Act}(f:Holds x l own H a w):∀(d:List ResultVar) (vs:List Value),Res x.P l own d vs->(d.mapM<|resF a.tmps).run x.P w=.ok vs w
  |[],vs,h=>by simp only[Res]at h;subst h;rfl
  | .tmp t::d,vs,h=>by
    obtain⟨v,r,rfl,h1,h2⟩:=h;rw[SM];simp only[resF,Sem.run_bind,Sem.run_pure,Result.andThen,ZGf f d r h2,Sj,f.slots t _ h1]
  | .cell t T::d,vs,h=>by
    obtain⟨v,r,rfl,⟨b,i,cur,g,k,h1,hi,c⟩,h2⟩:=h;rw[SM];have hb:=f.mem.ok.here (b,.cells cur g k) (Sd.2 ⟨_,Tq hi,by simp⟩);have m:(loadVar T ⟨b,0,none⟩).run x.P w=.ok v w:=by
      have e:Instr.loadAt T (.pointer<|some ⟨b,0,none⟩)=loadVar T ⟨b,0,none⟩:=(by simp[Instr.loadAt,Instr.sureAddr]);rw[<-e];rcases c with⟨hs,rfl⟩|⟨n,hs,p⟩
      . have q:=ZIo (P:=x.P) (T:=T) (w:=w) (b:=b) (o:=0) (vs:=cur.toList) hs (λj u e=>by rw[Te,cell_of_row w b j cur g k hb];simpa using e);simpa using q
      . exact ZAS hs (by rw[cell_of_row w b 0 cur g k hb];simpa using p)
    simp only[resF,Sem.run_bind,Sem.run_pure,Result.andThen,Sj,f.slots t _ h1,asAddr,m,ZGf f d r h2]
theorem ZNW{fn:Func}{w:World}{a:Act}{b:List ResultVar}{vs:List Value}(c:Holds x l own H a w)(d:fn.results=b.toArray)(h:Res x.P l own b vs):(results fn a.tmps).run x.P w=.ok (pack vs) w:=by
 have:=ZGf c b vs h;have e:results fn a.tmps=(do let vs<-fn.results.mapM (resF a.tmps);pure (if h:vs.size=1 then vs[0]else .tuple vs)):=by
  unfold results;congr 1
 rw[e,d];simp only[Sem.run_bind,Array.mapM_eq_mapM_toList,map_eq_pure_bind,Result.andThen];rw[this];simp only[Sem.run_pure];congr 1;cases vs with
 |nil=>rfl
 |cons v r=>cases r<;>simp[pack]
theorem ZU{fn:Func}{R:Value->List Own->Heaplet->Prop}{e:Exit}{r:List ResultVar}{vs:List Value}{K rst:List Own}(d:e=.ret\/e=.normal)(f:fn.results=r.toArray)(g:x.ds= [])(i:Res x.P l own r vs)
 (j:own.flatten.Perm (K.flatten++rst.flatten))(h:R (pack vs) K H):JN x (Ret x fn R e) l own H:=λa w b=>by
 have k:Mem x.w0 x.H0 x.S K.flatten H w:=(b.mem.perm j).sub<|Sv _ _;have:bodyPost x.P fn (λe m=>∃v K' c,e=.returned v/\R v K' c/\Mem x.w0 x.H0 x.S K'.flatten c m) .ret a w:=
  ⟨b.ds.trans g,_,ZNW b f i,_,K,H,rfl,h,k⟩
 rcases d with rfl|rfl<;>exact this
variable{x:Cx}{l:Slots}{own:List Own}{H:Heaplet}{ty:TypeId}{p q:Operand}{t u:TypeId}
theorem Wc (n:Int):IntKind.u8.wrap n=n%256:=by simp[IntKind.wrap,IntKind.bits,IntKind.signed]
theorem DY (a:UInt8):a.toNat<256:=a.toNat_lt
theorem ZQr (a b:UInt8):IntKind.u8.wrap ((a.toNat:Int)+(b.toNat:Int))=((a+b).toNat:Int):=by
 rw[Wc,UInt8.toNat_add];omega
theorem ZTf{a b:UInt8}(h1:evo l p=some (.int .u8 ((a).toNat:Int)))(h2:evo l q=some (.int .u8 ((b).toNat:Int))):Runs x (.binOp .add t p q u) ty l own H (.int .u8 ((a+b).toNat:Int)):=
 λρ w _ _ _ _ h c=>by rw[<-ZQr];simp[execOp,h _ _ h1,h _ _ h2,eqGuard,binOp,Op.intArith,go_sem]
theorem ZQm (a b:UInt8):IntKind.u8.wrap ((a.toNat:Int)-(b.toNat:Int))=((a-b).toNat:Int):=by
 have h1:=DY a;have h2:=DY b;rw[Wc,UInt8.toNat_sub];omega
theorem ZTJ{a b:UInt8}(h1:evo l p=some (.int .u8 ((a).toNat:Int)))(h2:evo l q=some (.int .u8 ((b).toNat:Int))):Runs x (.binOp .sub t p q u) ty l own H (.int .u8 ((a-b).toNat:Int)):=
 λρ w _ _ _ _ h c=>by rw[<-ZQm];simp[execOp,h _ _ h1,h _ _ h2,eqGuard,binOp,Op.intArith,go_sem]
theorem ZQp (a b:UInt8):IntKind.u8.wrap ((a.toNat:Int)*(b.toNat:Int))=((a*b).toNat:Int):=by
 rw[Wc,UInt8.toNat_mul,<-S6];omega
theorem ZTV{a b:UInt8}(h1:evo l p=some (.int .u8 ((a).toNat:Int)))(h2:evo l q=some (.int .u8 ((b).toNat:Int))):Runs x (.binOp .mul t p q u) ty l own H (.int .u8 ((a*b).toNat:Int)):=
 λρ w _ _ _ _ h c=>by rw[<-ZQp];simp[execOp,h _ _ h1,h _ _ h2,eqGuard,binOp,Op.intArith,go_sem]
theorem ZQj (a b:UInt8):IntKind.u8.wrap ((BitVec.ofInt (IntKind.bits .u8) (a.toNat:Int)^^^BitVec.ofInt (IntKind.bits .u8) (b.toNat:Int)).toNat:Int)=((a^^^b).toNat:Int):=by
 have h1:=DY (a^^^b);have e:(BitVec.ofInt (IntKind.bits .u8) (a.toNat:Int)^^^BitVec.ofInt (IntKind.bits .u8) (b.toNat:Int)).toNat=(a^^^b).toNat:=by
  show(BitVec.ofInt 8 (a.toNat:Int)^^^BitVec.ofInt 8 (b.toNat:Int)).toNat=_;rw[Tu,Tu,BitVec.toNat_xor,Tw,Tw,UInt8.toNat_xor];rw[Tt<|DY a,Tt<|DY b]
 rw[e,Wc];omega
theorem ZQQ{a b:UInt8}(h1:evo l p=some (.int .u8 ((a).toNat:Int)))(h2:evo l q=some (.int .u8 ((b).toNat:Int))):Runs x (.binOp .xor t p q u) ty l own H (.int .u8 ((a^^^b).toNat:Int)):=
 λρ w _ _ _ _ h c=>by rw[<-ZQj];simp[execOp,h _ _ h1,h _ _ h2,eqGuard,binOp,Op.intBits,go_sem]
theorem ZSf (a b:UInt8):IntKind.u8.wrap ((BitVec.ofInt (IntKind.bits .u8) (a.toNat:Int) |||BitVec.ofInt (IntKind.bits .u8) (b.toNat:Int)).toNat:Int)=((a |||b).toNat:Int):=by
 have h1:=DY<|a |||b;have e:(BitVec.ofInt (IntKind.bits .u8) (a.toNat:Int) |||BitVec.ofInt (IntKind.bits .u8) (b.toNat:Int)).toNat=(a |||b).toNat:=by
  show(BitVec.ofInt 8 (a.toNat:Int) |||BitVec.ofInt 8 (b.toNat:Int)).toNat=_;rw[Tu,Tu,BitVec.toNat_or,Tw,Tw,UInt8.toNat_or];rw[Tt<|DY a,Tt<|DY b]
 rw[e,Wc];omega
theorem R.or8{a b:UInt8}(h1:evo l p=some (.int .u8 ((a).toNat:Int)))(h2:evo l q=some (.int .u8 ((b).toNat:Int))):Runs x (.binOp .or t p q u) ty l own H (.int .u8 ((a |||b).toNat:Int)):=
 λρ w _ _ _ _ h c=>by rw[<-ZSf];simp[execOp,h _ _ h1,h _ _ h2,eqGuard,binOp,Op.intBits,go_sem]
theorem ZQq (a b:UInt8):IntKind.u8.wrap ((BitVec.ofInt (IntKind.bits .u8) (a.toNat:Int)&&&BitVec.ofInt (IntKind.bits .u8) (b.toNat:Int)).toNat:Int)=((a&&&b).toNat:Int):=by
 have h1:=DY (a&&&b);have e:(BitVec.ofInt (IntKind.bits .u8) (a.toNat:Int)&&&BitVec.ofInt (IntKind.bits .u8) (b.toNat:Int)).toNat=(a&&&b).toNat:=by
  show(BitVec.ofInt 8 (a.toNat:Int)&&&BitVec.ofInt 8 (b.toNat:Int)).toNat=_;rw[Tu,Tu,BitVec.toNat_and,Tw,Tw,UInt8.toNat_and];rw[Tt<|DY a,Tt<|DY b]
 rw[e,Wc];omega
theorem ZTe{a b:UInt8}(h1:evo l p=some (.int .u8 ((a).toNat:Int)))(h2:evo l q=some (.int .u8 ((b).toNat:Int))):Runs x (.binOp .and t p q u) ty l own H (.int .u8 ((a&&&b).toNat:Int)):=
 λρ w _ _ _ _ h c=>by rw[<-ZQq];simp[execOp,h _ _ h1,h _ _ h2,eqGuard,binOp,Op.intBits,go_sem]
theorem ZTX{a b:UInt8}(h1:evo l p=some (.int .u8 ((a).toNat:Int)))(h2:evo l q=some (.int .u8 ((b).toNat:Int))):Runs x (.binOp .lss t p q u) ty l own H (.bool<|decide (a<b)):=
 λρ w _ _ _ _ h c=>by simp[execOp,h _ _ h1,h _ _ h2,eqGuard,binOp,Op.intCmp,go_sem,UInt8.lt_iff_toNat_lt]
theorem ZTY{a b:UInt8}(h1:evo l p=some (.int .u8 ((a).toNat:Int)))(h2:evo l q=some (.int .u8 ((b).toNat:Int))):Runs x (.binOp .leq t p q u) ty l own H (.bool<|decide (a<=b)):=
 λρ w _ _ _ _ h c=>by simp[execOp,h _ _ h1,h _ _ h2,eqGuard,binOp,Op.intCmp,go_sem,UInt8.le_iff_toNat_le]
theorem ZTb{a b:UInt8}(h1:evo l p=some (.int .u8 ((a).toNat:Int)))(h2:evo l q=some (.int .u8 ((b).toNat:Int))):Runs x (.binOp .gtr t p q u) ty l own H (.bool<|decide (b<a)):=
 λρ w _ _ _ _ h c=>by simp[execOp,h _ _ h1,h _ _ h2,eqGuard,binOp,Op.intCmp,go_sem,UInt8.lt_iff_toNat_lt]
theorem ZTc{a b:UInt8}(h1:evo l p=some (.int .u8 ((a).toNat:Int)))(h2:evo l q=some (.int .u8 ((b).toNat:Int))):Runs x (.binOp .geq t p q u) ty l own H (.bool<|decide (b<=a)):=
 λρ w _ _ _ _ h c=>by simp[execOp,h _ _ h1,h _ _ h2,eqGuard,binOp,Op.intCmp,go_sem,UInt8.le_iff_toNat_le]
theorem ZTd{a b:UInt8}(h1:evo l p=some (.int .u8 ((a).toNat:Int)))(h2:evo l q=some (.int .u8 ((b).toNat:Int))):Runs x (.binOp .eql t p q u) ty l own H (.bool<|decide (a=b)):=
 λρ w _ _ _ _ h c=>by simp[execOp,h _ _ h1,h _ _ h2,eqGuard,binOp,Op.intCmp,go_sem,<-Rr];rw[Sm];simp;omega
theorem ZTU{a b:UInt8}(h1:evo l p=some (.int .u8 ((a).toNat:Int)))(h2:evo l q=some (.int .u8 ((b).toNat:Int))):Runs x (.binOp .neq t p q u) ty l own H (.bool<|!decide (a=b)):=
 λρ w _ _ _ _ h c=>by simp[execOp,h _ _ h1,h _ _ h2,eqGuard,binOp,Op.intCmp,go_sem,<-Rr];rw[Sm];simp;omega
theorem ZTQ{a b:UInt8}(h1:evo l p=some (.int .u8 ((a).toNat:Int)))(h2:evo l q=some (.int .u8 ((b).toNat:Int)))(h0:b≠0):Runs x (.binOp .quo t p q u) ty l own H (.int .u8 ((a/b).toNat:Int)):=by
 have hb:b.toNat≠0:=by intro h;apply h0;apply Rr.1;simpa using h
 have e:IntKind.u8.wrap ((a.toNat:Int).tdiv (b.toNat:Int))=((a/b).toNat:Int):=by
  rw[Wc,UInt8.toNat_div,<-Int.ofNat_tdiv];have h1:=DY a;have:=Rq a.toNat b.toNat;generalize a.toNat/b.toNat=z at*;omega
 exact λρ w _ _ _ _ c d=>by rw[<-e];simp[execOp,c _ _ h1,c _ _ h2,eqGuard,binOp,Op.intDiv,hb,go_sem]
theorem ZTP{a b:UInt8}(h1:evo l p=some (.int .u8 ((a).toNat:Int)))(h2:evo l q=some (.int .u8 ((b).toNat:Int)))(h0:b≠0):Runs x (.binOp .rem t p q u) ty l own H (.int .u8 ((a%b).toNat:Int)):=by
 have hb:b.toNat≠0:=by intro h;apply h0;apply Rr.1;simpa using h
 have e:(a.toNat:Int).tmod (b.toNat:Int)=((a%b).toNat:Int):=by rw[UInt8.toNat_mod,<-Int.ofNat_tmod]
 exact λρ w _ _ _ _ c d=>by rw[<-e];simp[execOp,c _ _ h1,c _ _ h2,eqGuard,binOp,Op.intDiv,hb,go_sem]
theorem ZTM{a:UInt8}{n:Int}{k:IntKind}(h1:evo l p=some (.int .u8 ((a).toNat:Int)))(h2:evo l q=some (.int k n))(h0:0<=n):Runs x (.binOp .shl t p q u) ty l own H (.int .u8 ((sl8 a n.toNat).toNat:Int)):=by
 have e:IntKind.u8.wrap ((a.toNat:Int)*2^(min n.toNat 8))=((sl8 a n.toNat).toNat:Int):=by
  rw[Wc,sl8,Rp,show((2:Int)^(min n.toNat 8))=((2^(min n.toNat 8):Nat):Int) by simp,<-S6];omega
 exact λρ w _ _ _ _ h b=>by rw[<-e];simp[execOp,h _ _ h1,h _ _ h2,eqGuard,binOp,Op.shift,IntKind.bits,show¬n<0 by omega,go_sem]
theorem ZTL{a:UInt8}{n:Int}{k:IntKind}(h1:evo l p=some (.int .u8 ((a).toNat:Int)))(h2:evo l q=some (.int k n))(h0:0<=n):Runs x (.binOp .shr t p q u) ty l own H (.int .u8 ((sr8 a n.toNat).toNat:Int)):=by
 have e:((a.toNat:Int).fdiv<|2^(min n.toNat 8))=((sr8 a n.toNat).toNat:Int):=by
  rw[sr8,Rp,show((2:Int)^(min n.toNat 8))=((2^(min n.toNat 8):Nat):Int) by simp,<-Int.ofNat_fdiv];have h1:=DY a;have:=Rq a.toNat<|2^(min n.toNat 8);rw[Tt<|by omega]
 exact λρ w _ _ _ _ h b=>by rw[<-e];simp[execOp,h _ _ h1,h _ _ h2,eqGuard,binOp,Op.shift,IntKind.bits,show¬n<0 by omega,go_sem]
theorem Q9 (n:Int):IntKind.u32.wrap n=n%4294967296:=by simp[IntKind.wrap,IntKind.bits,IntKind.signed]
theorem WI (a:UInt32):a.toNat<4294967296:=a.toNat_lt
theorem ZPA (a b:UInt32):IntKind.u32.wrap ((a.toNat:Int)+(b.toNat:Int))=((a+b).toNat:Int):=by
 rw[Q9,UInt32.toNat_add];omega
theorem ZSC{a b:UInt32}(h1:evo l p=some (.int .u32 ((a).toNat:Int)))(h2:evo l q=some (.int .u32 ((b).toNat:Int))):Runs x (.binOp .add t p q u) ty l own H (.int .u32 ((a+b).toNat:Int)):=
 λρ w _ _ _ _ h c=>by rw[<-ZPA];simp[execOp,h _ _ h1,h _ _ h2,eqGuard,binOp,Op.intArith,go_sem]
theorem ZO4 (a b:UInt32):IntKind.u32.wrap ((a.toNat:Int)-(b.toNat:Int))=((a-b).toNat:Int):=by
 have h1:=WI a;have h2:=WI b;rw[Q9,UInt32.toNat_sub];omega
theorem ZRp{a b:UInt32}(h1:evo l p=some (.int .u32 ((a).toNat:Int)))(h2:evo l q=some (.int .u32 ((b).toNat:Int))):Runs x (.binOp .sub t p q u) ty l own H (.int .u32 ((a-b).toNat:Int)):=
 λρ w _ _ _ _ h c=>by rw[<-ZO4];simp[execOp,h _ _ h1,h _ _ h2,eqGuard,binOp,Op.intArith,go_sem]
theorem ZO6 (a b:UInt32):IntKind.u32.wrap ((a.toNat:Int)*(b.toNat:Int))=((a*b).toNat:Int):=by
 rw[Q9,UInt32.toNat_mul,<-S6];omega
theorem ZR1{a b:UInt32}(h1:evo l p=some (.int .u32 ((a).toNat:Int)))(h2:evo l q=some (.int .u32 ((b).toNat:Int))):Runs x (.binOp .mul t p q u) ty l own H (.int .u32 ((a*b).toNat:Int)):=
 λρ w _ _ _ _ h c=>by rw[<-ZO6];simp[execOp,h _ _ h1,h _ _ h2,eqGuard,binOp,Op.intArith,go_sem]
theorem ZO2 (a b:UInt32):IntKind.u32.wrap ((BitVec.ofInt (IntKind.bits .u32) (a.toNat:Int)^^^BitVec.ofInt (IntKind.bits .u32) (b.toNat:Int)).toNat:Int)=((a^^^b).toNat:Int):=by
 have h1:=WI (a^^^b);have e:(BitVec.ofInt (IntKind.bits .u32) (a.toNat:Int)^^^BitVec.ofInt (IntKind.bits .u32) (b.toNat:Int)).toNat=(a^^^b).toNat:=by
  show(BitVec.ofInt 32 (a.toNat:Int)^^^BitVec.ofInt 32 (b.toNat:Int)).toNat=_;rw[Tu,Tu,BitVec.toNat_xor,Tw,Tw,UInt32.toNat_xor];rw[Tt<|WI a,Tt<|WI b]
 rw[e,Q9];omega
theorem ZRn{a b:UInt32}(h1:evo l p=some (.int .u32 ((a).toNat:Int)))(h2:evo l q=some (.int .u32 ((b).toNat:Int))):Runs x (.binOp .xor t p q u) ty l own H (.int .u32 ((a^^^b).toNat:Int)):=
 λρ w _ _ _ _ h c=>by rw[<-ZO2];simp[execOp,h _ _ h1,h _ _ h2,eqGuard,binOp,Op.intBits,go_sem]
theorem ZQo (a b:UInt32):IntKind.u32.wrap ((BitVec.ofInt (IntKind.bits .u32) (a.toNat:Int) |||BitVec.ofInt (IntKind.bits .u32) (b.toNat:Int)).toNat:Int)=((a |||b).toNat:Int):=by
 have h1:=WI<|a |||b;have e:(BitVec.ofInt (IntKind.bits .u32) (a.toNat:Int) |||BitVec.ofInt (IntKind.bits .u32) (b.toNat:Int)).toNat=(a |||b).toNat:=by
  show(BitVec.ofInt 32 (a.toNat:Int) |||BitVec.ofInt 32 (b.toNat:Int)).toNat=_;rw[Tu,Tu,BitVec.toNat_or,Tw,Tw,UInt32.toNat_or];rw[Tt<|WI a,Tt<|WI b]
 rw[e,Q9];omega
theorem ZTT{a b:UInt32}(h1:evo l p=some (.int .u32 ((a).toNat:Int)))(h2:evo l q=some (.int .u32 ((b).toNat:Int))):Runs x (.binOp .or t p q u) ty l own H (.int .u32 ((a |||b).toNat:Int)):=
 λρ w _ _ _ _ h c=>by rw[<-ZQo];simp[execOp,h _ _ h1,h _ _ h2,eqGuard,binOp,Op.intBits,go_sem]
theorem ZO8 (a b:UInt32):IntKind.u32.wrap ((BitVec.ofInt (IntKind.bits .u32) (a.toNat:Int)&&&BitVec.ofInt (IntKind.bits .u32) (b.toNat:Int)).toNat:Int)=((a&&&b).toNat:Int):=by
 have h1:=WI (a&&&b);have e:(BitVec.ofInt (IntKind.bits .u32) (a.toNat:Int)&&&BitVec.ofInt (IntKind.bits .u32) (b.toNat:Int)).toNat=(a&&&b).toNat:=by
  show(BitVec.ofInt 32 (a.toNat:Int)&&&BitVec.ofInt 32 (b.toNat:Int)).toNat=_;rw[Tu,Tu,BitVec.toNat_and,Tw,Tw,UInt32.toNat_and];rw[Tt<|WI a,Tt<|WI b]
 rw[e,Q9];omega
theorem ZSB{a b:UInt32}(h1:evo l p=some (.int .u32 ((a).toNat:Int)))(h2:evo l q=some (.int .u32 ((b).toNat:Int))):Runs x (.binOp .and t p q u) ty l own H (.int .u32 ((a&&&b).toNat:Int)):=
 λρ w _ _ _ _ h c=>by rw[<-ZO8];simp[execOp,h _ _ h1,h _ _ h2,eqGuard,binOp,Op.intBits,go_sem]
theorem ZR3{a b:UInt32}(h1:evo l p=some (.int .u32 ((a).toNat:Int)))(h2:evo l q=some (.int .u32 ((b).toNat:Int))):Runs x (.binOp .lss t p q u) ty l own H (.bool<|decide (a<b)):=
 λρ w _ _ _ _ h c=>by simp[execOp,h _ _ h1,h _ _ h2,eqGuard,binOp,Op.intCmp,go_sem,UInt32.lt_iff_toNat_lt]
theorem ZKQ{a b:UInt32}(h1:evo l p=some (.int .u32 ((a).toNat:Int)))(h2:evo l q=some (.int .u32 ((b).toNat:Int))):Runs x (.binOp .leq t p q u) ty l own H (.bool<|decide (a<=b)):=
 λρ w _ _ _ _ h c=>by simp[execOp,h _ _ h1,h _ _ h2,eqGuard,binOp,Op.intCmp,go_sem,UInt32.le_iff_toNat_le]
theorem ZN4{a b:UInt32}(h1:evo l p=some (.int .u32 ((a).toNat:Int)))(h2:evo l q=some (.int .u32 ((b).toNat:Int))):Runs x (.binOp .gtr t p q u) ty l own H (.bool<|decide (b<a)):=
 λρ w _ _ _ _ h c=>by simp[execOp,h _ _ h1,h _ _ h2,eqGuard,binOp,Op.intCmp,go_sem,UInt32.lt_iff_toNat_lt]
theorem ZR7{a b:UInt32}(h1:evo l p=some (.int .u32 ((a).toNat:Int)))(h2:evo l q=some (.int .u32 ((b).toNat:Int))):Runs x (.binOp .geq t p q u) ty l own H (.bool<|decide (b<=a)):=
 λρ w _ _ _ _ h c=>by simp[execOp,h _ _ h1,h _ _ h2,eqGuard,binOp,Op.intCmp,go_sem,UInt32.le_iff_toNat_le]
theorem ZR9{a b:UInt32}(h1:evo l p=some (.int .u32 ((a).toNat:Int)))(h2:evo l q=some (.int .u32 ((b).toNat:Int))):Runs x (.binOp .eql t p q u) ty l own H (.bool<|decide (a=b)):=
 λρ w _ _ _ _ h c=>by simp[execOp,h _ _ h1,h _ _ h2,eqGuard,binOp,Op.intCmp,go_sem,<-Ru];rw[Sm];simp;omega
theorem ZRz{a b:UInt32}(h1:evo l p=some (.int .u32 ((a).toNat:Int)))(h2:evo l q=some (.int .u32 ((b).toNat:Int))):Runs x (.binOp .neq t p q u) ty l own H (.bool<|!decide (a=b)):=
 λρ w _ _ _ _ h c=>by simp[execOp,h _ _ h1,h _ _ h2,eqGuard,binOp,Op.intCmp,go_sem,<-Ru];rw[Sm];simp;omega
theorem ZRx{a b:UInt32}(h1:evo l p=some (.int .u32 ((a).toNat:Int)))(h2:evo l q=some (.int .u32 ((b).toNat:Int)))(h0:b≠0):Runs x (.binOp .quo t p q u) ty l own H (.int .u32 ((a/b).toNat:Int)):=by
 have hb:b.toNat≠0:=by intro h;apply h0;apply Ru.1;simpa using h
 have e:IntKind.u32.wrap ((a.toNat:Int).tdiv (b.toNat:Int))=((a/b).toNat:Int):=by
  rw[Q9,UInt32.toNat_div,<-Int.ofNat_tdiv];have h1:=WI a;have:=Rq a.toNat b.toNat;generalize a.toNat/b.toNat=z at*;omega
 exact λρ w _ _ _ _ c d=>by rw[<-e];simp[execOp,c _ _ h1,c _ _ h2,eqGuard,binOp,Op.intDiv,hb,go_sem]
theorem ZRv{a b:UInt32}(h1:evo l p=some (.int .u32 ((a).toNat:Int)))(h2:evo l q=some (.int .u32 ((b).toNat:Int)))(h0:b≠0):Runs x (.binOp .rem t p q u) ty l own H (.int .u32 ((a%b).toNat:Int)):=by
 have hb:b.toNat≠0:=by intro h;apply h0;apply Ru.1;simpa using h
 have e:(a.toNat:Int).tmod (b.toNat:Int)=((a%b).toNat:Int):=by rw[UInt32.toNat_mod,<-Int.ofNat_tmod]
 exact λρ w _ _ _ _ c d=>by rw[<-e];simp[execOp,c _ _ h1,c _ _ h2,eqGuard,binOp,Op.intDiv,hb,go_sem]
theorem ZRs{a:UInt32}{n:Int}{k:IntKind}(h1:evo l p=some (.int .u32 ((a).toNat:Int)))(h2:evo l q=some (.int k n))(h0:0<=n):Runs x (.binOp .shl t p q u) ty l own H (.int .u32 ((sl32 a n.toNat).toNat:Int)):=by
 have e:IntKind.u32.wrap ((a.toNat:Int)*2^(min n.toNat 32))=((sl32 a n.toNat).toNat:Int):=by
  rw[Q9,sl32,UInt32.toNat_ofNat',show((2:Int)^(min n.toNat 32))=((2^(min n.toNat 32):Nat):Int) by simp,<-S6];omega
 exact λρ w _ _ _ _ h b=>by rw[<-e];simp[execOp,h _ _ h1,h _ _ h2,eqGuard,binOp,Op.shift,IntKind.bits,show¬n<0 by omega,go_sem]
theorem ZRq{a:UInt32}{n:Int}{k:IntKind}(h1:evo l p=some (.int .u32 ((a).toNat:Int)))(h2:evo l q=some (.int k n))(h0:0<=n):Runs x (.binOp .shr t p q u) ty l own H (.int .u32 ((sr32 a n.toNat).toNat:Int)):=by
 have e:((a.toNat:Int).fdiv<|2^(min n.toNat 32))=((sr32 a n.toNat).toNat:Int):=by
  rw[sr32,UInt32.toNat_ofNat',show((2:Int)^(min n.toNat 32))=((2^(min n.toNat 32):Nat):Int) by simp,<-Int.ofNat_fdiv];have h1:=WI a;have:=Rq a.toNat<|2^(min n.toNat 32);rw[Tt<|by omega]
 exact λρ w _ _ _ _ h b=>by rw[<-e];simp[execOp,h _ _ h1,h _ _ h2,eqGuard,binOp,Op.shift,IntKind.bits,show¬n<0 by omega,go_sem]
theorem Q8 (n:Int):IntKind.u64.wrap n=n%18446744073709551616:=by simp[IntKind.wrap,IntKind.bits,IntKind.signed]
theorem W0 (a:UInt64):a.toNat<18446744073709551616:=a.toNat_lt
theorem ZO9 (a b:UInt64):IntKind.u64.wrap ((a.toNat:Int)+(b.toNat:Int))=((a+b).toNat:Int):=by
 rw[Q8,UInt64.toNat_add];omega
theorem ZDl{a b:UInt64}(h1:evo l p=some (.int .u64 ((a).toNat:Int)))(h2:evo l q=some (.int .u64 ((b).toNat:Int))):Runs x (.binOp .add t p q u) ty l own H (.int .u64 ((a+b).toNat:Int)):=
 λρ w _ _ _ _ h c=>by rw[<-ZO9];simp[execOp,h _ _ h1,h _ _ h2,eqGuard,binOp,Op.intArith,go_sem]
theorem ZO3 (a b:UInt64):IntKind.u64.wrap ((a.toNat:Int)-(b.toNat:Int))=((a-b).toNat:Int):=by
 have h1:=W0 a;have h2:=W0 b;rw[Q8,UInt64.toNat_sub];omega
theorem ZRo{a b:UInt64}(h1:evo l p=some (.int .u64 ((a).toNat:Int)))(h2:evo l q=some (.int .u64 ((b).toNat:Int))):Runs x (.binOp .sub t p q u) ty l own H (.int .u64 ((a-b).toNat:Int)):=
 λρ w _ _ _ _ h c=>by rw[<-ZO3];simp[execOp,h _ _ h1,h _ _ h2,eqGuard,binOp,Op.intArith,go_sem]
theorem ZO5 (a b:UInt64):IntKind.u64.wrap ((a.toNat:Int)*(b.toNat:Int))=((a*b).toNat:Int):=by
 rw[Q8,UInt64.toNat_mul,<-S6];omega
theorem ZAd{a b:UInt64}(h1:evo l p=some (.int .u64 ((a).toNat:Int)))(h2:evo l q=some (.int .u64 ((b).toNat:Int))):Runs x (.binOp .mul t p q u) ty l own H (.int .u64 ((a*b).toNat:Int)):=
 λρ w _ _ _ _ h c=>by rw[<-ZO5];simp[execOp,h _ _ h1,h _ _ h2,eqGuard,binOp,Op.intArith,go_sem]
theorem ZO1 (a b:UInt64):IntKind.u64.wrap ((BitVec.ofInt (IntKind.bits .u64) (a.toNat:Int)^^^BitVec.ofInt (IntKind.bits .u64) (b.toNat:Int)).toNat:Int)=((a^^^b).toNat:Int):=by
 have h1:=W0 (a^^^b);have e:(BitVec.ofInt (IntKind.bits .u64) (a.toNat:Int)^^^BitVec.ofInt (IntKind.bits .u64) (b.toNat:Int)).toNat=(a^^^b).toNat:=by
  show(BitVec.ofInt 64 (a.toNat:Int)^^^BitVec.ofInt 64 (b.toNat:Int)).toNat=_;rw[Tu,Tu,BitVec.toNat_xor,Tw,Tw,UInt64.toNat_xor];rw[Tt<|W0 a,Tt<|W0 b]
 rw[e,Q8];omega
theorem ZRm{a b:UInt64}(h1:evo l p=some (.int .u64 ((a).toNat:Int)))(h2:evo l q=some (.int .u64 ((b).toNat:Int))):Runs x (.binOp .xor t p q u) ty l own H (.int .u64 ((a^^^b).toNat:Int)):=
 λρ w _ _ _ _ h c=>by rw[<-ZO1];simp[execOp,h _ _ h1,h _ _ h2,eqGuard,binOp,Op.intBits,go_sem]
theorem ZQn (a b:UInt64):IntKind.u64.wrap ((BitVec.ofInt (IntKind.bits .u64) (a.toNat:Int) |||BitVec.ofInt (IntKind.bits .u64) (b.toNat:Int)).toNat:Int)=((a |||b).toNat:Int):=by
 have h1:=W0<|a |||b;have e:(BitVec.ofInt (IntKind.bits .u64) (a.toNat:Int) |||BitVec.ofInt (IntKind.bits .u64) (b.toNat:Int)).toNat=(a |||b).toNat:=by
  show(BitVec.ofInt 64 (a.toNat:Int) |||BitVec.ofInt 64 (b.toNat:Int)).toNat=_;rw[Tu,Tu,BitVec.toNat_or,Tw,Tw,UInt64.toNat_or];rw[Tt<|W0 a,Tt<|W0 b]
 rw[e,Q8];omega
theorem ZTS{a b:UInt64}(h1:evo l p=some (.int .u64 ((a).toNat:Int)))(h2:evo l q=some (.int .u64 ((b).toNat:Int))):Runs x (.binOp .or t p q u) ty l own H (.int .u64 ((a |||b).toNat:Int)):=
 λρ w _ _ _ _ h c=>by rw[<-ZQn];simp[execOp,h _ _ h1,h _ _ h2,eqGuard,binOp,Op.intBits,go_sem]
theorem ZO7 (a b:UInt64):IntKind.u64.wrap ((BitVec.ofInt (IntKind.bits .u64) (a.toNat:Int)&&&BitVec.ofInt (IntKind.bits .u64) (b.toNat:Int)).toNat:Int)=((a&&&b).toNat:Int):=by
 have h1:=W0 (a&&&b);have e:(BitVec.ofInt (IntKind.bits .u64) (a.toNat:Int)&&&BitVec.ofInt (IntKind.bits .u64) (b.toNat:Int)).toNat=(a&&&b).toNat:=by
  show(BitVec.ofInt 64 (a.toNat:Int)&&&BitVec.ofInt 64 (b.toNat:Int)).toNat=_;rw[Tu,Tu,BitVec.toNat_and,Tw,Tw,UInt64.toNat_and];rw[Tt<|W0 a,Tt<|W0 b]
 rw[e,Q8];omega
theorem ZGJ{a b:UInt64}(h1:evo l p=some (.int .u64 ((a).toNat:Int)))(h2:evo l q=some (.int .u64 ((b).toNat:Int))):Runs x (.binOp .and t p q u) ty l own H (.int .u64 ((a&&&b).toNat:Int)):=
 λρ w _ _ _ _ h c=>by rw[<-ZO7];simp[execOp,h _ _ h1,h _ _ h2,eqGuard,binOp,Op.intBits,go_sem]
theorem ZN0{a b:UInt64}(h1:evo l p=some (.int .u64 ((a).toNat:Int)))(h2:evo l q=some (.int .u64 ((b).toNat:Int))):Runs x (.binOp .lss t p q u) ty l own H (.bool<|decide (a<b)):=
 λρ w _ _ _ _ h c=>by simp[execOp,h _ _ h1,h _ _ h2,eqGuard,binOp,Op.intCmp,go_sem,UInt64.lt_iff_toNat_lt]
theorem ZR4{a b:UInt64}(h1:evo l p=some (.int .u64 ((a).toNat:Int)))(h2:evo l q=some (.int .u64 ((b).toNat:Int))):Runs x (.binOp .leq t p q u) ty l own H (.bool<|decide (a<=b)):=
 λρ w _ _ _ _ h c=>by simp[execOp,h _ _ h1,h _ _ h2,eqGuard,binOp,Op.intCmp,go_sem,UInt64.le_iff_toNat_le]
theorem ZDk{a b:UInt64}(h1:evo l p=some (.int .u64 ((a).toNat:Int)))(h2:evo l q=some (.int .u64 ((b).toNat:Int))):Runs x (.binOp .gtr t p q u) ty l own H (.bool<|decide (b<a)):=
 λρ w _ _ _ _ h c=>by simp[execOp,h _ _ h1,h _ _ h2,eqGuard,binOp,Op.intCmp,go_sem,UInt64.lt_iff_toNat_lt]
theorem ZR6{a b:UInt64}(h1:evo l p=some (.int .u64 ((a).toNat:Int)))(h2:evo l q=some (.int .u64 ((b).toNat:Int))):Runs x (.binOp .geq t p q u) ty l own H (.bool<|decide (b<=a)):=
 λρ w _ _ _ _ h c=>by simp[execOp,h _ _ h1,h _ _ h2,eqGuard,binOp,Op.intCmp,go_sem,UInt64.le_iff_toNat_le]
theorem ZR8{a b:UInt64}(h1:evo l p=some (.int .u64 ((a).toNat:Int)))(h2:evo l q=some (.int .u64 ((b).toNat:Int))):Runs x (.binOp .eql t p q u) ty l own H (.bool<|decide (a=b)):=
 λρ w _ _ _ _ h c=>by simp[execOp,h _ _ h1,h _ _ h2,eqGuard,binOp,Op.intCmp,go_sem,<-UInt64.toNat_inj];rw[Sm];simp;omega
theorem ZRy{a b:UInt64}(h1:evo l p=some (.int .u64 ((a).toNat:Int)))(h2:evo l q=some (.int .u64 ((b).toNat:Int))):Runs x (.binOp .neq t p q u) ty l own H (.bool<|!decide (a=b)):=
 λρ w _ _ _ _ h c=>by simp[execOp,h _ _ h1,h _ _ h2,eqGuard,binOp,Op.intCmp,go_sem,<-UInt64.toNat_inj];rw[Sm];simp;omega
theorem ZRw{a b:UInt64}(h1:evo l p=some (.int .u64 ((a).toNat:Int)))(h2:evo l q=some (.int .u64 ((b).toNat:Int)))(h0:b≠0):Runs x (.binOp .quo t p q u) ty l own H (.int .u64 ((a/b).toNat:Int)):=by
 have hb:b.toNat≠0:=by intro h;apply h0;apply UInt64.toNat_inj.1;simpa using h
 have e:IntKind.u64.wrap ((a.toNat:Int).tdiv (b.toNat:Int))=((a/b).toNat:Int):=by
  rw[Q8,UInt64.toNat_div,<-Int.ofNat_tdiv];have h1:=W0 a;have:=Rq a.toNat b.toNat;generalize a.toNat/b.toNat=z at*;omega
 exact λρ w _ _ _ _ c d=>by rw[<-e];simp[execOp,c _ _ h1,c _ _ h2,eqGuard,binOp,Op.intDiv,hb,go_sem]
theorem ZRu{a b:UInt64}(h1:evo l p=some (.int .u64 ((a).toNat:Int)))(h2:evo l q=some (.int .u64 ((b).toNat:Int)))(h0:b≠0):Runs x (.binOp .rem t p q u) ty l own H (.int .u64 ((a%b).toNat:Int)):=by
 have hb:b.toNat≠0:=by intro h;apply h0;apply UInt64.toNat_inj.1;simpa using h
 have e:(a.toNat:Int).tmod (b.toNat:Int)=((a%b).toNat:Int):=by rw[UInt64.toNat_mod,<-Int.ofNat_tmod]
 exact λρ w _ _ _ _ c d=>by rw[<-e];simp[execOp,c _ _ h1,c _ _ h2,eqGuard,binOp,Op.intDiv,hb,go_sem]
theorem ZRr{a:UInt64}{n:Int}{k:IntKind}(h1:evo l p=some (.int .u64 ((a).toNat:Int)))(h2:evo l q=some (.int k n))(h0:0<=n):Runs x (.binOp .shl t p q u) ty l own H (.int .u64 ((sl64 a n.toNat).toNat:Int)):=by
 have e:IntKind.u64.wrap ((a.toNat:Int)*2^(min n.toNat 64))=((sl64 a n.toNat).toNat:Int):=by
  rw[Q8,sl64,Rl,show((2:Int)^(min n.toNat 64))=((2^(min n.toNat 64):Nat):Int) by simp,<-S6];omega
 exact λρ w _ _ _ _ h b=>by rw[<-e];simp[execOp,h _ _ h1,h _ _ h2,eqGuard,binOp,Op.shift,IntKind.bits,show¬n<0 by omega,go_sem]
theorem ZAc{a:UInt64}{n:Int}{k:IntKind}(h1:evo l p=some (.int .u64 ((a).toNat:Int)))(h2:evo l q=some (.int k n))(h0:0<=n):Runs x (.binOp .shr t p q u) ty l own H (.int .u64 ((sr64 a n.toNat).toNat:Int)):=by
 have e:((a.toNat:Int).fdiv<|2^(min n.toNat 64))=((sr64 a n.toNat).toNat:Int):=by
  rw[sr64,Rl,show((2:Int)^(min n.toNat 64))=((2^(min n.toNat 64):Nat):Int) by simp,<-Int.ofNat_fdiv];have h1:=W0 a;have:=Rq a.toNat<|2^(min n.toNat 64);rw[Tt<|by omega]
 exact λρ w _ _ _ _ h b=>by rw[<-e];simp[execOp,h _ _ h1,h _ _ h2,eqGuard,binOp,Op.shift,IntKind.bits,show¬n<0 by omega,go_sem]
theorem ZSe (n:Int):IntKind.u8.wrap n=((u8i n).toNat:Int):=by rw[Wc,u8i,Rp];omega
theorem ZMJ{s:TypeId}{ds:TypeDesc}{k:IntKind}{m:Int}(hs:x.P.underlying s=some ds)(ht:x.P.underlying t=some (.int .u8))(h1:evo l p=some (.int k m)):Runs x (.convert s t p) ty l own H (.int .u8 ((u8i m).toNat:Int)):=by
 rw[<-ZSe];exact XS hs ht h1
theorem ZNF{s:TypeId}{ds:TypeDesc}{a:UInt8}(hs:x.P.underlying s=some ds)(ht:x.P.underlying t=some (.int .u8))(h1:evo l p=some (.int .u8 (a.toNat:Int))):Runs x (.convert s t p) ty l own H (.int .u8 ((a).toNat:Int)):=by
 have e:IntKind.u8.wrap (a.toNat:Int)=((a).toNat:Int):=by rw[Wc];have:=DY a;omega
 rw[<-e];exact XS hs ht h1
theorem ZMF{s:TypeId}{ds:TypeDesc}{a:UInt8}(hs:x.P.underlying s=some ds)(ht:x.P.underlying t=some (.int .u32))(h1:evo l p=some (.int .u8 (a.toNat:Int))):Runs x (.convert s t p) ty l own H (.int .u32 ((a.toUInt32).toNat:Int)):=by
 have e:IntKind.u32.wrap (a.toNat:Int)=((a.toUInt32).toNat:Int):=by rw[Q9];have:=DY a;simp only[UInt8.toNat_toUInt32];omega
 rw[<-e];exact XS hs ht h1
theorem ZME{s:TypeId}{ds:TypeDesc}{a:UInt8}(hs:x.P.underlying s=some ds)(ht:x.P.underlying t=some (.int .u64))(h1:evo l p=some (.int .u8 (a.toNat:Int))):Runs x (.convert s t p) ty l own H (.int .u64 ((a.toUInt64).toNat:Int)):=by
 have e:IntKind.u64.wrap (a.toNat:Int)=((a.toUInt64).toNat:Int):=by rw[Q8];have:=DY a;simp only[UInt8.toNat_toUInt64];omega
 rw[<-e];exact XS hs ht h1
theorem ZMG{s:TypeId}{ds:TypeDesc}{a:UInt8}(hs:x.P.underlying s=some ds)(ht:x.P.underlying t=some (.int .i64))(h1:evo l p=some (.int .u8 (a.toNat:Int))):Runs x (.convert s t p) ty l own H (.int .i64 (a.toNat:Int)):=by
 have e:IntKind.i64.wrap (a.toNat:Int)=(a.toNat:Int):=ZPC (by omega) (by have:=DY a;omega);have:=XS (x:=x) (own:=own) (H:=H) (ty:=ty) hs ht h1;rw[e]at this;exact this
theorem ZQl (n:Int):IntKind.u32.wrap n=((u32i n).toNat:Int):=by rw[Q9,u32i,UInt32.toNat_ofNat'];omega
theorem ZKX{s:TypeId}{ds:TypeDesc}{k:IntKind}{m:Int}(hs:x.P.underlying s=some ds)(ht:x.P.underlying t=some (.int .u32))(h1:evo l p=some (.int k m)):Runs x (.convert s t p) ty l own H (.int .u32 ((u32i m).toNat:Int)):=by
 rw[<-ZQl];exact XS hs ht h1
theorem ZMI{s:TypeId}{ds:TypeDesc}{a:UInt32}(hs:x.P.underlying s=some ds)(ht:x.P.underlying t=some (.int .u8))(h1:evo l p=some (.int .u32 (a.toNat:Int))):Runs x (.convert s t p) ty l own H (.int .u8 ((a.toUInt8).toNat:Int)):=by
 have e:IntKind.u8.wrap (a.toNat:Int)=((a.toUInt8).toNat:Int):=by rw[Wc];have:=WI a;simp only[UInt32.toNat_toUInt8];omega
 rw[<-e];exact XS hs ht h1
theorem ZKV{s:TypeId}{ds:TypeDesc}{a:UInt32}(hs:x.P.underlying s=some ds)(ht:x.P.underlying t=some (.int .u32))(h1:evo l p=some (.int .u32 (a.toNat:Int))):Runs x (.convert s t p) ty l own H (.int .u32 ((a).toNat:Int)):=by
 have e:IntKind.u32.wrap (a.toNat:Int)=((a).toNat:Int):=by rw[Q9];have:=WI a;omega
 rw[<-e];exact XS hs ht h1
theorem ZKU{s:TypeId}{ds:TypeDesc}{a:UInt32}(hs:x.P.underlying s=some ds)(ht:x.P.underlying t=some (.int .u64))(h1:evo l p=some (.int .u32 (a.toNat:Int))):Runs x (.convert s t p) ty l own H (.int .u64 ((a.toUInt64).toNat:Int)):=by
 have e:IntKind.u64.wrap (a.toNat:Int)=((a.toUInt64).toNat:Int):=by rw[Q8];have:=WI a;simp only[UInt32.toNat_toUInt64];omega
 rw[<-e];exact XS hs ht h1
theorem ZKW{s:TypeId}{ds:TypeDesc}{a:UInt32}(hs:x.P.underlying s=some ds)(ht:x.P.underlying t=some (.int .i64))(h1:evo l p=some (.int .u32 (a.toNat:Int))):Runs x (.convert s t p) ty l own H (.int .i64 (a.toNat:Int)):=by
 have e:IntKind.i64.wrap (a.toNat:Int)=(a.toNat:Int):=ZPC (by omega) (by have:=WI a;omega);have:=XS (x:=x) (own:=own) (H:=H) (ty:=ty) hs ht h1;rw[e]at this;exact this
theorem ZQk (n:Int):IntKind.u64.wrap n=((u64i n).toNat:Int):=by rw[Q8,u64i,Rl];omega
theorem Qn{s:TypeId}{ds:TypeDesc}{k:IntKind}{m:Int}(hs:x.P.underlying s=some ds)(ht:x.P.underlying t=some (.int .u64))(h1:evo l p=some (.int k m)):Runs x (.convert s t p) ty l own H (.int .u64 ((u64i m).toNat:Int)):=by
 rw[<-ZQk];exact XS hs ht h1
theorem ZMH{s:TypeId}{ds:TypeDesc}{a:UInt64}(hs:x.P.underlying s=some ds)(ht:x.P.underlying t=some (.int .u8))(h1:evo l p=some (.int .u64 (a.toNat:Int))):Runs x (.convert s t p) ty l own H (.int .u8 ((a.toUInt8).toNat:Int)):=by
 have e:IntKind.u8.wrap (a.toNat:Int)=((a.toUInt8).toNat:Int):=by rw[Wc];have:=W0 a;simp only[UInt64.toNat_toUInt8];omega
 rw[<-e];exact XS hs ht h1
theorem ZKT{s:TypeId}{ds:TypeDesc}{a:UInt64}(hs:x.P.underlying s=some ds)(ht:x.P.underlying t=some (.int .u32))(h1:evo l p=some (.int .u64 (a.toNat:Int))):Runs x (.convert s t p) ty l own H (.int .u32 ((a.toUInt32).toNat:Int)):=by
 have e:IntKind.u32.wrap (a.toNat:Int)=((a.toUInt32).toNat:Int):=by rw[Q9];have:=W0 a;simp only[UInt64.toNat_toUInt32];omega
 rw[<-e];exact XS hs ht h1
theorem ZKS{s:TypeId}{ds:TypeDesc}{a:UInt64}(hs:x.P.underlying s=some ds)(ht:x.P.underlying t=some (.int .u64))(h1:evo l p=some (.int .u64 (a.toNat:Int))):Runs x (.convert s t p) ty l own H (.int .u64 ((a).toNat:Int)):=by
 have e:IntKind.u64.wrap (a.toNat:Int)=((a).toNat:Int):=by rw[Q8];have:=W0 a;omega
 rw[<-e];exact XS hs ht h1
theorem BS{s:TypeId}{ds:TypeDesc}{a:UInt64}(hs:x.P.underlying s=some ds)(ht:x.P.underlying t=some (.int .i64))(h1:evo l p=some (.int .u64 (a.toNat:Int))):Runs x (.convert s t p) ty l own H (.int .i64<|w64 (a.toNat:Int)):=by
 rw[<-QT];exact XS hs ht h1
theorem ZKY{s:TypeId}{ds:TypeDesc}{m:Int}(hs:x.P.underlying s=some ds)(ht:x.P.underlying t=some (.int .i64))(h1:evo l p=some (.int .i64 m)):Runs x (.convert s t p) ty l own H (.int .i64<|w64 m):=by
 rw[<-QT];exact XS hs ht h1
end Go.Ow
