import Derived.WalkKit
import Derived.ControlIn
import Derived.CallsIn
import Derived.OrdersIn
import Derived.RangeFuncLeaves
import Derived.Deep.Upon
import Derived.RangeFuncRecord
import Derived.Laws.StructEq
/-
  What is proved here: a program logic over the kit's walk of Go functions. A state is a list of known slots, a list of own blocks,
  and a heaplet of cells that stay as they are. Each rule is proved once,for every program.
-/
set_option linter.unusedSimpArgs false
set_option linter.unusedVariables false
namespace Go.Ow
open Go.RowKit
abbrev Slots:=List (Nat×Value)
def lk:Slots→Nat→Option Value
 |[],_=>none
 |(k,v)::r,i=>bif Nat.beq k i then some v else lk r i
abbrev Heaplet:=Nat→Nat→Option Value
def Hle (H H':Heaplet):Prop:=∀b o v,H b o=some v→H' b o=some v
theorem Hle.refl (H:Heaplet):Hle H H:=λ_ _ _ h=>h
theorem Hle.trans{A B C:Heaplet}(h:Hle A B)(k:Hle B C):Hle A C:=λb o v e=>k b o v (h b o v e)
def Agrees (H:Heaplet)(w:World):Prop:=∀b o v,H b o=some v→w.cell? ⟨b,o,none⟩=some v
theorem Agrees.le{H H':Heaplet}{w:World}(h:Agrees H' w)(k:Hle H H'):Agrees H w:=λb o v e=>h b o v (k b o v e)
abbrev Own:=List (Nat×Obj)
def ids (K:Own):List Nat:=K.map (·.1)
structure Kept (S:List Nat) (w0 w:World):Prop where
  os:w.os=w0.os
  tape:w.tape=w0.tape
  output:w.output=w0.output
  size:w0.heap.size≤w.heap.size
  drawn:w0.drawn≤w.drawn
  block:∀k,k<w0.heap.size→k∉S→w.heap[k]? =w0.heap[k]?
theorem Kept.refl (S:List Nat)(w:World):Kept S w w:=⟨rfl,rfl,rfl,Nat.le_refl _,Nat.le_refl _,λ_ _ _=>rfl⟩
theorem Kept.below{w0 w:World}(h:Kept [] w0 w):Below w0.heap.size w0 w:=
 ⟨h.os,h.tape,h.output,h.size,λk hk=>h.block k hk (by simp)⟩
structure Cx where
  P:Program
  r:Option Nat
  n:Nat
  w0:World
  H0:Heaplet
  S:List Nat
  ds:List Deferred
structure OwnOk (H:Heaplet) (own:Own) (w:World):Prop where
  here:∀p∈own,w.heap[p.1]? =some p.2
  nodup:(ids own).Nodup
  apart:∀p∈own,∀o,H p.1 o=none
structure Mem (w0:World) (H0:Heaplet) (S:List Nat) (own:Own) (H:Heaplet) (w:World):Prop where
  agr:Agrees H w
  ok:OwnOk H own w
  kept:Kept S w0 w
  fresh:∀p∈own,p.1∈S∨w0.heap.size≤p.1
  le:Hle H0 H
  grow:∀b o,b<w0.heap.size→H b o=H0 b o
  soft:∀b o v,H0 b o=none→H b o=some v→∃cur t,w.heap[b]? =some (.cells cur t (0,0))
theorem Mem.soft0{w:World}{H:Heaplet}:∀b o v,H b o=none→H b o=some v→∃cur t,w.heap[b]? =some (.cells cur t (0,0)):=λb o v h0 h=>by rw[h0]at h;cases h
structure Holds (x:Cx) (l:Slots) (own:List Own) (H:Heaplet) (a:Act) (w:World):Prop where
  size:a.tmps.size=x.n
  ds:a.defers=x.ds
  slots:∀i v,lk l i=some v→(a.tmps[i]?).getD undef=v
  mem:Mem x.w0 x.H0 x.S own.flatten H w
def Fw (r:Option Nat):Fence:={fn:=λ_=>True,depth:=none,alive:=false,round:=r}
def JN (x:Cx)(K:Act→World→Prop)(l:Slots)(own:List Own)(H:Heaplet):Prop:=∀a w,Holds x l own H a w→K a w
def JC (x:Cx)(c:Code)(Q:Exit→Act→World→Prop)(l:Slots)(own:List Own)(H:Heaplet):Prop:=
 ∀a w,Holds x l own H a w→c.wpIn (Fw x.r) 0 x.P Q a w
def wpLs (P:Program)(r:Option Nat)(ops:Array Oper)(Q:Exit→Act→World→Prop):List Oper→Act→World→Prop
 |[],a,w=>Q .normal a w
 |o::rest,a,w=>if Region.wanted o (yielded ops a.tmps)then o.wpIn (Fw r) 0 P a w (wpLs P r ops Q rest) Q else wpLs P r ops Q rest (a.put o.dst undef) w
def JL (x:Cx)(ops:Array Oper)(Q:Exit→Act→World→Prop)(rest:List Oper)(l:Slots)(own:List Own)(H:Heaplet):Prop:=
 ∀a w,Holds x l own H a w→wpLs x.P x.r ops Q rest a w
theorem wpLs_sound{P:Program}{r:Option Nat}{ops:Array Oper}{Q:Exit→Act→World→Prop}:∀(rest:List Oper) (k:Nat) (a:Act) (w:World),
    (∀j,rest[j]? =ops[k+j]?)→wpLs P r ops Q rest a w→wpOpsIn (Fw r) 0 P ops Q (List.range' k rest.length) a w
  |[],k,a,w,_,h=>by simpa[wpOpsIn,List.range',wpLs]using h
  | o ::rest,k,a,w,he,h=>by
    have h0:ops[k]? =some o:=by simpa using(he 0).symm
    have ih:=λa w=>wpLs_sound (P:=P) (r:=r) (ops:=ops) (Q:=Q) rest (k+1) a w (λj=>by have:=he (j+1);simpa[Nat.add_assoc,Nat.add_comm 1 j]using this)
    simp only[List.length_cons,List.range'_succ,wpOpsIn,h0]
    simp only[wpLs]at h
    split
    · rename_i hw;simp only[hw,if_true]at h
      exact Oper.wpIn_mono (λa w h'=>ih a w h') h
    · rename_i hw;simp only[hw]at h
      exact⟨λ_ _=>trivial,ih _ _ h⟩
theorem JC.region{x:Cx}{id:Nat}{ops:Array Oper}{Q:Exit→Act→World→Prop}{l:Slots}{own:List Own}{H:Heaplet}
 (h:JL x ops Q ops.toList l own H):JC x (.region id ops false) Q l own H:=λa w hh=>by
 refine wpIn_region ?_
 have:=wpLs_sound (P:=x.P) (r:=x.r) (ops:=ops) (Q:=Q) ops.toList 0 a w (λj=>by simp) (h a w hh)
 rw[List.range_eq_range']
 simpa using this
theorem JL.nil{x:Cx}{ops:Array Oper}{Q:Exit→Act→World→Prop}{l:Slots}{own:List Own}{H:Heaplet}
 (h:JN x (Q .normal) l own H):JL x ops Q [] l own H:=λa w hh=>h a w hh
section control
variable{x:Cx}{Q:Exit→Act→World→Prop}{l:Slots}{own:List Own}{H:Heaplet}
theorem JC.seq{c d:Code}(h:JC x c (Exit.then (d.wpIn (Fw x.r) 0 x.P Q) Q) l own H):JC x (.seq c d) Q l own H:=
 λa w hh=>wpIn_seq (h a w hh)
theorem JC.skip (h:JN x (Q .normal) l own H):JC x .skip Q l own H:=λa w hh=>wpIn_skip (h a w hh)
theorem JC.exit{id:Nat}(h:JN x (Q (.exit id)) l own H):JC x (.exit id) Q l own H:=λa w hh=>wpIn_exit (h a w hh)
theorem JC.ret (h:JN x (Q .ret) l own H):JC x .ret Q l own H:=λa w hh=>wpIn_ret (h a w hh)
theorem JC.block{id:Nat}{c:Code}(h:JC x c (Exit.inBlock id Q) l own H):JC x (.block id c) Q l own H:=λa w hh=>wpIn_block (h a w hh)
theorem JN.next{d:Code}{Q':Exit→Act→World→Prop}(h:JC x d Q l own H):JN x (Exit.then (d.wpIn (Fw x.r) 0 x.P Q) Q' .normal) l own H:=h
theorem JN.exitSame{id:Nat}(h:JN x (Q .normal) l own H):JN x (Exit.inBlock id Q (.exit id)) l own H:=λa w hh=>by
 show(if id=id then Q .normal a w else Q (.exit id) a w);rw[if_pos rfl];exact h a w hh
theorem JN.exitOther{id id':Nat}(hne:Nat.beq id' id=false)(h:JN x (Q (.exit id')) l own H):JN x (Exit.inBlock id Q (.exit id')) l own H:=λa w hh=>by
 show(if id'=id then Q .normal a w else Q (.exit id') a w);rw[if_neg (by intro e;subst e;simp at hne)];exact h a w hh
def evo (l:Slots):Operand→Option Value
 | .tmp t=>lk l t
 | .const v=>some v
 | .global g=>some (.pointer (some ⟨g,0,none⟩))
 | .func f=>some (.func (.func f) #[] #[])
theorem eval_of{x:Cx}{a:Act}{w:World}(hh:Holds x l own H a w){o:Operand}{v:Value}(h:evo l o=some v):a.eval o=v:=by
 rcases o with t|u|g|f
 · have:=hh.slots t v h;simpa[Act.eval,Array.getD_eq_getD_getElem?]using this
 · simp[evo]at h;simpa[Act.eval]using h
 · simp[evo]at h;simpa[Act.eval]using h
 · simp[evo]at h;simpa[Act.eval]using h
theorem Holds.set{t:Tmp}{v:Value}{a:Act}{w:World}(hh:Holds x l own H a w)(hv:lk l t=some v){u:Value}(e:u=v):Holds x ((t,u)::l) own H a w:=
  ⟨hh.size,hh.ds,λi z h=>by
    simp only[lk]at h
    cases hb:Nat.beq t i with
    | true=>
      have:t=i:=Nat.eq_of_beq_eq_true hb
      subst this;rw[hb]at h;simp at h;subst h;subst e;exact hh.slots t _ hv
    |false=>rw[hb]at h;exact hh.slots i z h,hh.mem⟩
theorem JC.cond{c:Tmp}{d e:Code}{t:Bool}(hc:lk l c=some (.bool t))(ht:t=true→JC x d Q ((c,.bool true)::l) own H)(hf:t=false→JC x e Q ((c,.bool false)::l) own H):
 JC x (.cond (.tmp c) d e) Q l own H:=λa w hh=>
 wpIn_cond_split (t:=t) (eval_of hh (o:=.tmp c) hc) (λh=>ht h a w (hh.set hc (by rw[h]))) (λh=>hf h a w (hh.set hc (by rw[h])))
theorem JC.condP{c:Tmp}{d e:Code}{p:Prop} [Decidable p](hc:lk l c=some (.bool (decide p)))(ht:p→JC x d Q ((c,.bool true)::l) own H)(hf:¬p→JC x e Q ((c,.bool false)::l) own H):
 JC x (.cond (.tmp c) d e) Q l own H:=JC.cond hc (λh=>ht (of_decide_eq_true h)) (λh=>hf (of_decide_eq_false h))
theorem JC.condT{c:Operand}{d e:Code}(hc:evo l c=some (.bool true))(ht:JC x d Q l own H):JC x (.cond c d e) Q l own H:=
 λa w hh=>wpIn_cond_true (eval_of hh hc) (ht a w hh)
theorem JC.condF{c:Operand}{d e:Code}(hc:evo l c=some (.bool false))(ht:JC x e Q l own H):JC x (.cond c d e) Q l own H:=
 λa w hh=>wpIn_cond_false (eval_of hh hc) (ht a w hh)
theorem JN.passR{K:Act→World→Prop}(h:JN x (Q .ret) l own H):JN x (Exit.then K Q .ret) l own H:=h
theorem JN.passX{K:Act→World→Prop}{id:Nat}(h:JN x (Q (.exit id)) l own H):JN x (Exit.then K Q (.exit id)) l own H:=h
theorem JN.blkN{id:Nat}(h:JN x (Q .normal) l own H):JN x (Exit.inBlock id Q .normal) l own H:=h
theorem JN.blkR{id:Nat}(h:JN x (Q .ret) l own H):JN x (Exit.inBlock id Q .ret) l own H:=h
def Sub:Slots→Slots→Prop
 |[],_=>True
 |(k,v)::r,l=>lk l k=some v∧Sub r l
theorem lk_sub{l l':Slots}(h:Sub l' l):∀i v,lk l' i=some v→lk l i=some v:=by
  induction l' with
  |nil=>intro i v e;simp[lk]at e
  | cons p r ih=>
    obtain⟨k,u⟩:=p
    intro i v e
    simp only[lk]at e
    cases hb:Nat.beq k i with
    | true=>
      rw[hb]at e;simp at e
      have:k=i:=Nat.eq_of_beq_eq_true hb
      subst this;subst e;exact h.1
    |false=>rw[hb]at e;exact ih h.2 i v e
theorem Holds.sub{l':Slots}{a:Act}{w:World}(hh:Holds x l own H a w)(h:Sub l' l):Holds x l' own H a w:=
 ⟨hh.size,hh.ds,λi v e=>hh.slots i v (lk_sub h i v e),hh.mem⟩
theorem JC.sub{c:Code}{l':Slots}(h:Sub l' l)(hk:JC x c Q l' own H):JC x c Q l own H:=λa w hh=>hk a w (hh.sub h)
theorem JC.loop{ι:Type}{c:Code}(L:ι→Slots)(O:ι→List Own)(G:ι→Heaplet)(I:ι→Prop)(m:ι→Nat)(i₀:ι)(h0:I i₀)
    (hl:Sub (L i₀) l)(ho:O i₀=own)(hg:G i₀=H)
    (round:∀i,I i→JC x c (Exit.then (λa w=>∃j,I j∧m j<m i∧Holds x (L j) (O j) (G j) a w) Q) (L i) (O i) (G i)):
    JC x (.loop c) Q l own H:=λa w hh=>by
  subst ho;subst hg
  let J:Act→World→ι→Prop:=λa w i=>I i∧Holds x (L i) (O i) (G i) a w
  have key:∀k i a w,m i=k→J a w i→∀(b:Frame) (kk:List Item) (cs:List Frame),b.roundOf=(Fw x.r).round→(Fw x.r).fn b.fn→(Fw x.r).room (cs.length+1+0)→
      ∃e a' w',Q e a' w'∧ArrivesIn (Machine.fenced x.P (Fw x.r)) x.P (lone (b.atR a (.code c:: .inLoop c::kk)) cs w) b kk cs e a' w':=by
    intro k
    induction k using Nat.strongRecOn with
    | _ k ih=>
      intro i a w hm hJ b kk cs hro hb hr
      obtain⟨e,a₁,w₁,hq,harr⟩:=round i hJ.1 a w hJ.2 b (.inLoop c::kk) cs hro hb hr
      cases e with
      | normal=>
        obtain⟨j,hj,hlt,hh1⟩:=hq
        obtain⟨e₂,a₂,w₂,hq₂,harr₂⟩:=ih (m j) (hm▸hlt) j a₁ w₁ rfl ⟨hj,hh1⟩ b kk cs hro hb hr
        exact⟨e₂,a₂,w₂,hq₂,.of_steps (StepsIn.trans harr (.one (fenced_calm hb hr rfl) stepR_inLoop)) harr₂⟩
      |exit id=>exact⟨_,a₁,w₁,hq,.pass (x:=.inLoop c) rfl (λ_ _=>.inl (by simp)) harr⟩
      |goto l=>exact⟨_,a₁,w₁,hq,.pass (x:=.inLoop c) rfl (λ_ _=>.inl (by simp)) harr⟩
      |ret=>exact⟨_,a₁,w₁,hq,.pass (x:=.inLoop c) rfl (λ_ _=>.inl (by simp)) harr⟩
      |panic ch=>exact⟨_,a₁,w₁,hq,.pass (x:=.inLoop c) rfl (λ_ _=>.inl (by simp)) harr⟩
      |outgrown=>exact⟨_,a₁,w₁,hq,.pass (x:=.inLoop c) rfl (λ_ _=>.inl (by simp)) harr⟩
  intro b kk cs hro hb hr
  obtain⟨e,a',w',hq,harr⟩:=key _ i₀ a w rfl ⟨h0,hh.sub hl⟩ b kk cs hro hb hr
  exact⟨e,a',w',hq,.of_steps (.one (fenced_calm hb hr rfl) stepR_loop) harr⟩
theorem JN.again{ι:Type}{L:ι→Slots}{O:ι→List Own}{G:ι→Heaplet}{I:ι→Prop}{m:ι→Nat}{i:ι}(j:ι)
 (hj:I j)(hm:m j<m i)(hl:Sub (L j) l)(ho:O j=own)(hg:G j=H):
 JN x (Exit.then (λa w=>∃j,I j∧m j<m i∧Holds x (L j) (O j) (G j) a w) Q .normal) l own H:=
 λa w hh=>⟨j,hj,hm,by rw[ho,hg];exact hh.sub hl⟩
end control
def Does (P:Program)(f:FuncId)(args:Array Value)(K:List Own)(H:Heaplet)(R:Value→List Own→Heaplet→Prop):Prop:=
 ∀w,Agrees H w→OwnOk H K.flatten w→CallsIn Fence.wide 0 P f args w λe w'=>∃v K' H',e=.returned v∧R v K' H'∧Mem w H (ids K.flatten) K'.flatten H' w'
theorem Does.mono{P:Program}{f:FuncId}{args:Array Value}{K:List Own}{H:Heaplet}{R R':Value→List Own→Heaplet→Prop}(h:Does P f args K H R)
 (hr:∀v K' H',R v K' H'→R' v K' H'):Does P f args K H R':=λw ha hk=>
 CallsIn.mono (h w ha hk) λe w' ⟨v,K',H',he,hR,hm⟩=>⟨v,K',H',he,hr _ _ _ hR,hm⟩
def Ret (x:Cx)(fn:Func)(R:Value→List Own→Heaplet→Prop):Exit→Act→World→Prop:=
 bodyPost x.P fn (λe w'=>∃v K' H',e=.returned v∧R v K' H'∧Mem x.w0 x.H0 x.S K'.flatten H' w')
theorem lk_args (vs:List Value):∀(k i:Nat) (v:Value),lk ((List.range' k vs.length).zip vs) i=some v→k≤i∧vs[i-k]? =some v:=by
  induction vs with
  |nil=>intro k i v h;simp[lk]at h
  | cons u vs ih=>
    intro k i v h
    simp only[List.length_cons,List.range'_succ,List.zip_cons_cons,lk]at h
    cases hb:Nat.beq k i with
    | true=>
      have e:k=i:=Nat.eq_of_beq_eq_true hb
      subst e;rw[hb]at h;simp at h;subst h;simp
    | false=>
      have ne:k≠i:=by intro e;subst e;simp at hb
      rw[hb]at h
      obtain⟨h1,h2⟩:=ih (k+1) i v h
      refine⟨by omega,?_⟩
      rw[show i-k=(i-(k+1))+1 by omega];simpa using h2
theorem Does.enter{P:Program}{f:FuncId}{fn:Func}{c:Code}{vs:List Value}{K:List Own}{H:Heaplet}{R:Value→List Own→Heaplet→Prop}{l:Slots}
 (hf:P.funcs[f]? =some fn)(hb:fn.body=some c)(hn:Nat.ble vs.length fn.ntmps=true)(hl:Sub l ((List.range' 0 vs.length).zip vs))
 (h:∀w,JC {P:=P,r:=none,n:=fn.ntmps,w0:=w,H0:=H,S:=ids K.flatten,ds:=[]} c
  (Ret {P:=P,r:=none,n:=fn.ntmps,w0:=w,H0:=H,S:=ids K.flatten,ds:=[]} fn R) l K H):Does P f vs.toArray K H R:=λw ha hk=>by
 have hn:=Nat.le_of_ble_eq_true hn
 refine callsIn_of_wp hf hb trivial ?_
 refine h w _ w ⟨?_,rfl,?_,⟨ha,hk,Kept.refl _ _,λp hp=>.inl (List.mem_map_of_mem hp),Hle.refl _,λ_ _ _=>rfl,Mem.soft0⟩⟩
 · simp;omega
 · intro i v e
   obtain⟨_,h2⟩:=lk_args vs 0 i v (lk_sub hl i v e)
   have hi:i<vs.length:=by
    rcases Nat.lt_or_ge i vs.length with h'|h'
    · exact h'
    · simp[List.getElem?_eq_none h']at h2
   have h3:vs[i]=v:=by simpa[List.getElem?_eq_getElem hi]using h2
   have:i<(vs.toArray++Array.replicate (fn.ntmps-vs.toArray.size) undef).size:=by simp;omega
   simp only[Array.getD_eq_getD_getElem?,Array.getElem?_eq_getElem this,Option.getD_some]
   rw[Array.getElem_append_left (by simpa using hi)]
   simpa using h3
theorem JN.out1{x:Cx}{fn:Func}{R:Value→List Own→Heaplet→Prop}{l:Slots}{own:List Own}{H:Heaplet}{t:Tmp}{v:Value}{e:Exit}(he:e=.ret∨e=.normal)
 (hr:fn.results= #[.tmp t])(hd:x.ds= [])(hv:lk l t=some v)(h:R v own H):JN x (Ret x fn R e) l own H:=λa w hh=>by
 have:bodyPost x.P fn (λe w'=>∃v K' H',e=.returned v∧R v K' H'∧Mem x.w0 x.H0 x.S K'.flatten H' w') .ret a w:=
  ⟨hh.ds.trans hd,v,by simp[results,hr,go_sem,hh.slots t v hv],v,own,H,rfl,h,hh.mem⟩
 rcases he with rfl|rfl<;>exact this
theorem JN.out0{x:Cx}{fn:Func}{R:Value→List Own→Heaplet→Prop}{l:Slots}{own:List Own}{H:Heaplet}{e:Exit}(he:e=.ret∨e=.normal)
 (hr:fn.results= #[])(hd:x.ds= [])(h:R (.tuple #[]) own H):JN x (Ret x fn R e) l own H:=λa w hh=>by
 have:bodyPost x.P fn (λe w'=>∃v K' H',e=.returned v∧R v K' H'∧Mem x.w0 x.H0 x.S K'.flatten H' w') .ret a w:=
  ⟨hh.ds.trans hd,_,by simp[results,hr,go_sem],_,own,H,rfl,h,hh.mem⟩
 rcases he with rfl|rfl<;>exact this
end Go.Ow
namespace Go.Ow
open Go.RowKit
variable{x:Cx}{ops:Array Oper}{Q:Exit→Act→World→Prop}{rest:List Oper}{l:Slots}{own:List Own}{H:Heaplet}
theorem Holds.put{a:Act}{w:World}(hh:Holds x l own H a w){d:Nat}(hd:Nat.blt d x.n=true)(v:Value):
    Holds x ((d,v)::l) own H (a.put (some d) v) w:=by
  have hlt:d<a.tmps.size:=by rw[hh.size];exact Nat.lt_of_lt_of_le (Nat.lt_succ_self d) (Nat.le_of_ble_eq_true hd)
  refine⟨by simpa[Act.put]using hh.size,by simpa[Act.put]using hh.ds,λi u e=> ?_,hh.mem⟩
  simp only[lk]at e
  cases hb:Nat.beq d i with
  | true=>
    have:d=i:=Nat.eq_of_beq_eq_true hb
    subst this;rw[hb]at e;simp at e;subst e
    simp[Act.put,Array.getElem?_setIfInBounds,hlt]
  | false=>
    have:d≠i:=by intro h;subst h;simp at hb
    rw[hb]at e
    have:=hh.slots i u e
    simp[Act.put,Array.getElem?_setIfInBounds, *]
def Stab (so:List Own)(sH:Heaplet)(w:World):Prop:=Agrees sH w∧∀p∈so.flatten,w.heap[p.1]? =some p.2
theorem Mem.stab{w0:World}{H0:Heaplet}{S:List Nat}{w:World}(hm:Mem w0 H0 S own.flatten H w):Stab own H w:=⟨hm.agr,hm.ok.here⟩
def Runs (x:Cx)(op:Op)(ty:TypeId)(l:Slots)(own:List Own)(H:Heaplet)(v:Value):Prop:=
  ∀ (ρ:Operand→Value) (w:World) (d:Option Tmp) (pos:String) (aft:Array Edge) (g:Option (Nat×Bool)),(∀o u,evo l o=some u→ρ o=u)→
    Stab own H w→(execOp ρ ⟨d,op,ty,pos,aft,g⟩).run x.P w=.ok (.value v) w
theorem wanted_none{ops:Array Oper}{d:Option Tmp}{op:Op}{ty:TypeId}{pos:String}{aft:Array Edge}{a:Act}:
 Region.wanted ⟨d,op,ty,pos,aft,none⟩ (yielded ops a.tmps)=true:=rfl
def noDefer:Op→Bool
 | .defer _=>false
 |_=>true
theorem semAt_of{ro:Option Nat}{ρ:Operand→Value}{o:Oper}(h:noDefer o.op=true):o.semAt ro ρ=execOp ρ o:=
 Oper.semAt_eq ro ρ o (λc e=>by rw[e]at h;cases h)
theorem JL.val{op:Op}{ty:TypeId}{d:Nat}{pos:String}{aft:Array Edge}{v:Value}(hd:Nat.blt d x.n=true)(hn:noDefer op=true)
 (hr:Runs x op ty l own H v)(h:JL x ops Q rest ((d,v)::l) own H):JL x ops Q (⟨some d,op,ty,pos,aft,none⟩::rest) l own H:=λa w hh=>by
 simp only[wpLs,wanted_none,if_true]
 refine⟨λ_ _=>trivial,?_⟩
 rw[semAt_of hn,hr a.eval w _ _ _ _ (λo u e=>eval_of hh e) hh.mem.stab]
 exact h _ _ (hh.put hd v)
theorem JL.gYes{dst:Option Tmp}{op:Op}{ty:TypeId}{pos:String}{aft:Array Edge}{j t:Nat}{b:Bool}{oj:Oper}(hj:ops[j]? =some oj)(ht:oj.dst=some t)(hb:lk l t=some (.bool b))
 (h:JL x ops Q (⟨dst,op,ty,pos,aft,none⟩::rest) l own H):JL x ops Q (⟨dst,op,ty,pos,aft,some (j,b)⟩::rest) l own H:=λa w hh=>by
 have hw:Region.wanted ⟨dst,op,ty,pos,aft,some (j,b)⟩ (yielded ops a.tmps)=true:=by
  simp only[Region.wanted,yielded,hj,Option.bind_some,ht]
  have:=hh.slots t _ hb
  cases hs:a.tmps[t]? with
  |none=>simp[hs,undef]at this
  |some u=>simp[hs]at this;simp[this]
 have:=h a w hh
 simp only[wpLs,hw,if_true]
 simp only[wpLs]at this
 rw[if_pos (by rfl)]at this
 exact this
theorem JL.gNo{d:Nat}{op:Op}{ty:TypeId}{pos:String}{aft:Array Edge}{j t:Nat}{b b':Bool}{oj:Oper}(hj:ops[j]? =some oj)(ht:oj.dst=some t)(hb:lk l t=some (.bool b'))(hne:(b'==b)=false)
 (hlt:Nat.blt d x.n=true)
 (h:JL x ops Q rest ((d,undef)::l) own H):JL x ops Q (⟨some d,op,ty,pos,aft,some (j,b)⟩::rest) l own H:=λa w hh=>by
 have hw:Region.wanted ⟨some d,op,ty,pos,aft,some (j,b)⟩ (yielded ops a.tmps)=false:=by
  simp only[Region.wanted,yielded,hj,Option.bind_some,ht]
  have:=hh.slots t _ hb
  cases hs:a.tmps[t]? with
  |none=>simp[hs,undef]at this
  |some u=>simp[hs]at this;subst this;simpa using hne
 simp only[wpLs,hw]
 have:=h _ _ (hh.put hlt undef)
 simpa using this
theorem JL.gNoU{d:Nat}{op:Op}{ty:TypeId}{pos:String}{aft:Array Edge}{j t:Nat}{b:Bool}{oj:Oper}(hj:ops[j]? =some oj)(ht:oj.dst=some t)(hb:lk l t=some undef)
 (hlt:Nat.blt d x.n=true)
 (h:JL x ops Q rest ((d,undef)::l) own H):JL x ops Q (⟨some d,op,ty,pos,aft,some (j,b)⟩::rest) l own H:=λa w hh=>by
 have hw:Region.wanted ⟨some d,op,ty,pos,aft,some (j,b)⟩ (yielded ops a.tmps)=false:=by
  simp only[Region.wanted,yielded,hj,Option.bind_some,ht]
  have:=hh.slots t _ hb
  cases hs:a.tmps[t]? with
  |none=>simp
  |some u=>simp[hs]at this;subst this;simp[undef]
 simp only[wpLs,hw]
 have:=h _ _ (hh.put hlt undef)
 simpa using this
theorem JL.gSplit{t:Nat}{b:Bool}(hb:lk l t=some (.bool b))(ht:b=true→JL x ops Q rest ((t,.bool true)::l) own H)
    (hf:b=false→JL x ops Q rest ((t,.bool false)::l) own H):JL x ops Q rest l own H:=λa w hh=>by
  have key:∀c:Bool,b=c→Holds x ((t,.bool c)::l) own H a w:=λc hc=>⟨hh.size,hh.ds,λi v e=>by
    simp only[lk]at e
    cases hbq:Nat.beq t i with
    | true=>
      have:t=i:=Nat.eq_of_beq_eq_true hbq
      subst this;rw[hbq]at e;simp at e;subst e;subst hc;exact hh.slots t _ hb
    |false=>rw[hbq]at e;exact hh.slots i v e,hh.mem⟩
  cases b with
  |true=>exact ht rfl a w (key true rfl)
  |false=>exact hf rfl a w (key false rfl)
section compute
variable{ty:TypeId}{d:Nat}{pos:String}{aft:Array Edge}{v:Value}
theorem JL.move{o:Operand}(h1:evo l o=some v)(hd:Nat.blt d x.n=true)(h:JL x ops Q rest ((d,v)::l) own H):
 JL x ops Q (⟨some d,.move o,ty,pos,aft,none⟩::rest) l own H:=
 JL.val hd rfl (λρ w _ _ _ _ hρ hm=>by simp[execOp,hρ _ _ h1,go_sem]) h
theorem JL.assign{o:Operand}(h1:evo l o=some v)(hd:Nat.blt d x.n=true)(h:JL x ops Q rest ((d,v)::l) own H):
 JL x ops Q (⟨some d,.assign o,ty,pos,aft,none⟩::rest) l own H:=
 JL.val hd rfl (λρ w _ _ _ _ hρ hm=>by simp[execOp,hρ _ _ h1,go_sem]) h
theorem JL.not{p:Operand}{b:Bool}{t:TypeId}(h1:evo l p=some (.bool b))(hd:Nat.blt d x.n=true)(h:JL x ops Q rest ((d,.bool (!b))::l) own H):
 JL x ops Q (⟨some d,.unOp .not t p,ty,pos,aft,none⟩::rest) l own H:=
 JL.val hd rfl (λρ w _ _ _ _ hρ hm=>by simp[execOp,hρ _ _ h1,Op.unary,go_sem]) h
theorem JL.subI{p q:Operand}{k:IntKind}{m n:Int}{t u:TypeId}(h1:evo l p=some (.int k m))(h2:evo l q=some (.int k n))(hb:k.wrap (m-n)=m-n)(hd:Nat.blt d x.n=true)
 (h:JL x ops Q rest ((d,.int k (m-n))::l) own H):JL x ops Q (⟨some d,.binOp .sub t p q u,ty,pos,aft,none⟩::rest) l own H:=
 JL.val hd rfl (λρ w _ _ _ _ hρ hm=>by simp[execOp,hρ _ _ h1,hρ _ _ h2,eqGuard,binOp,Op.intArith,hb,go_sem]) h
theorem JL.geq{p q:Operand}{k:IntKind}{m n:Int}{t u:TypeId}(h1:evo l p=some (.int k m))(h2:evo l q=some (.int k n))(hd:Nat.blt d x.n=true)
 (h:JL x ops Q rest ((d,.bool (decide (n≤m)))::l) own H):JL x ops Q (⟨some d,.binOp .geq t p q u,ty,pos,aft,none⟩::rest) l own H:=
 JL.val hd rfl (λρ w _ _ _ _ hρ hm=>by simp[execOp,hρ _ _ h1,hρ _ _ h2,eqGuard,binOp,Op.intCmp,go_sem]) h
theorem JL.len{p:Operand}{ao:Option Addr}{n c:Nat}{t e:TypeId}(hu:x.P.underlying t=some (.slice e))(h1:evo l p=some (.slice ao n c))(hd:Nat.blt d x.n=true)
 (h:JL x ops Q rest ((d,.int .i64 n)::l) own H):JL x ops Q (⟨some d,.call ⟨.builtin .len,#[p],#[t]⟩,ty,pos,aft,none⟩::rest) l own H:=
 JL.val hd rfl (λρ w _ _ _ _ hρ hm=>by simp[execOp,resolve,invoke,hρ _ _ h1,run_underlying hu,go_sem,Builtin.len_,goInt]) h
theorem JL.func{fn:Go.Fn}{fs cs:Array Operand}{vf vc:Array Value}(h1:fs.toList.mapM (evo l)=some vf.toList)(h2:cs.toList.mapM (evo l)=some vc.toList)(hd:Nat.blt d x.n=true)
    (h:JL x ops Q rest ((d,.func fn vf vc)::l) own H):JL x ops Q (⟨some d,.makeFunc fn fs cs,ty,pos,aft,none⟩::rest) l own H:=
  JL.val hd rfl (λρ w _ _ _ _ hρ hm=>by
    have key:∀(os:List Operand) (vs:List Value),os.mapM (evo l)=some vs→os.map ρ=vs:=by
      intro os
      induction os with
      |nil=>intro vs e;simp at e;simp[e]
      | cons o os ih=>
        intro vs e
        simp only[List.mapM_cons]at e
        cases ho:evo l o with
        |none=>simp[ho]at e
        | some v=>
          cases hos:os.mapM (evo l)with
          |none=>simp[ho,hos]at e
          |some us=>simp[ho,hos]at e;subst e;simp[hρ _ _ ho,ih us hos]
    have e1:fs.map ρ=vf:=by rw[←Array.toList_inj];simpa using key _ _ h1
    have e2:cs.map ρ=vc:=by rw[←Array.toList_inj];simpa using key _ _ h2
    simp[execOp,Instr.makeFunc,e1,e2,go_sem]) h
end compute
end Go.Ow
namespace Go.Ow
open Go.RowKit
variable{x:Cx}{ops:Array Oper}{Q:Exit→Act→World→Prop}{rest:List Oper}{l:Slots}{own:List Own}{H:Heaplet}
theorem Kept.trans{S S':List Nat}{a b c:World}(h:Kept S a b)(k:Kept S' b c)(hs:∀i∈S',i∈S∨a.heap.size≤i):Kept S a c:=
 ⟨k.os.trans h.os,k.tape.trans h.tape,k.output.trans h.output,Nat.le_trans h.size k.size,Nat.le_trans h.drawn k.drawn,λi hi hn=>by
  refine(k.block i (Nat.lt_of_lt_of_le hi h.size) ?_).trans (h.block i hi hn)
  intro hm
  rcases hs i hm with h'|h'
  · exact hn h'
  · omega⟩
theorem flatten_perm{α:Type}:∀{own:List (List α)} {i:Nat} {seg:List α},own[i]? =some seg→own.flatten.Perm (seg++(own.eraseIdx i).flatten)
  |[],_,_,h=>by simp at h
  |s::own,0,seg,h=>by simp at h;subst h;simp
  | s::own,i+1,seg,h=>by
    simp at h
    have:=flatten_perm h
    simp only[List.flatten_cons,List.eraseIdx_cons_succ]
    refine(this.append_left s).trans ?_
    rw[←List.append_assoc,←List.append_assoc]
    exact List.perm_append_comm.append_right _
theorem flatten_set_perm{α:Type}:∀{own:List (List α)} {i:Nat} {seg seg':List α},own[i]? =some seg→(own.set i seg').flatten.Perm (seg'++(own.eraseIdx i).flatten)
  |[],_,_,_,h=>by simp at h
  |s::own,0,seg,seg',h=>by simp
  | s::own,i+1,seg,seg',h=>by
    simp at h
    have:=flatten_set_perm (seg':=seg') h
    simp only[List.set_cons_succ,List.flatten_cons,List.eraseIdx_cons_succ]
    refine(this.append_left s).trans ?_
    rw[←List.append_assoc,←List.append_assoc]
    exact List.perm_append_comm.append_right _
theorem OwnOk.perm{H:Heaplet}{o o':Own}{w:World}(h:OwnOk H o w)(p:o.Perm o'):OwnOk H o' w:=
 ⟨λq hq=>h.here q (p.mem_iff.2 hq),(p.map _).nodup_iff.1 h.nodup,λq hq=>h.apart q (p.mem_iff.2 hq)⟩
theorem OwnOk.left{H:Heaplet}{o o':Own}{w:World}(h:OwnOk H (o++o') w):OwnOk H o w:=
 ⟨λq hq=>h.here q (by simp[hq]),by have:=h.nodup;simp only[ids,List.map_append,List.nodup_append]at this;exact this.1,λq hq=>h.apart q (by simp[hq])⟩
theorem OwnOk.right{H:Heaplet}{o o':Own}{w:World}(h:OwnOk H (o++o') w):OwnOk H o' w:=OwnOk.left (h.perm List.perm_append_comm)
theorem OwnOk.lt{H:Heaplet}{o:Own}{w:World}(h:OwnOk H o w):∀p∈o,p.1<w.heap.size:=λp hp=>by
 have:=h.here p hp
 exact(Array.getElem?_eq_some_iff.1 this).1
theorem Mem.go{w0:World}{H0 H H':Heaplet}{S:List Nat}{o K rst K':Own}{w w':World}(hm:Mem w0 H0 S o H w)(hp:o.Perm (K++rst))
    (h:Mem w H (ids K) K' H' w'):Mem w0 H0 S (K'++rst) H' w':=by
  have hok:=hm.ok.perm hp
  have hlt:=hok.lt
  have hnd:(ids K++ids rst).Nodup:=by have:=hok.nodup;simpa[ids]using this
  have hrst:∀p∈rst,p.1∉ids K:=λp hp' hK=>by
    have:=(List.nodup_append.1 hnd).2.2 p.1 hK p.1 (List.mem_map_of_mem hp')
    exact this rfl
  have hK0:∀i∈ids K,i∈S∨w0.heap.size≤i:=λi hi=>by
    obtain⟨p,hpK,rfl⟩:=List.mem_map.1 hi
    exact hm.fresh p (hp.mem_iff.2 (by simp[hpK]))
  refine⟨h.agr,⟨?_,?_,?_⟩,hm.kept.trans h.kept hK0,?_,hm.le.trans h.le,?_,?_⟩
  · intro p hp'
    rcases List.mem_append.1 hp' with h1|h1
    · exact h.ok.here p h1
    · rw[h.kept.block p.1 (hlt p (by simp[h1])) (hrst p h1)]
      exact hok.here p (by simp[h1])
  · simp only[ids,List.map_append]
    refine List.nodup_append.2 ⟨h.ok.nodup,(List.nodup_append.1 hnd).2.1,λa ha b hb hab=> ?_⟩
    subst hab
    obtain⟨p,hpK,hpe⟩:=List.mem_map.1 ha
    obtain⟨q,hq,hqe⟩:=List.mem_map.1 hb
    rcases h.fresh p hpK with h1|h1
    · exact hrst q hq (by rw[hqe,←hpe];exact h1)
    · have:=hlt q (by simp[hq]);omega
  · intro p hp' off
    rcases List.mem_append.1 hp' with h1|h1
    · exact h.ok.apart p h1 off
    · rw[h.grow p.1 off (hlt p (by simp[h1]))];exact hok.apart p (by simp[h1]) off
  · intro p hp'
    rcases List.mem_append.1 hp' with h1|h1
    · rcases h.fresh p h1 with h2|h2
      · exact hK0 _ h2
      · exact .inr (Nat.le_trans hm.kept.size h2)
    · exact hm.fresh p (hp.mem_iff.2 (by simp[h1]))
  · intro b off hb
    rw[h.grow b off (Nat.lt_of_lt_of_le hb hm.kept.size)];exact hm.grow b off hb
  · intro b off v h0 h1
    cases hc:H b off with
    |none=>exact h.soft b off v hc h1
    | some u=>
      obtain⟨cur,t,e⟩:=hm.soft b off u h0 hc
      have hb:=(Array.getElem?_eq_some_iff.1 e).1
      refine⟨cur,t,?_⟩
      rw[h.kept.block b hb (λhi=> ?_)]
      · exact e
      · obtain⟨p,hpK,rfl⟩:=List.mem_map.1 hi
        rw[hok.apart p (by simp[hpK]) off]at hc;cases hc
theorem Mem.perm{w0:World}{H0 H:Heaplet}{S:List Nat}{o o':Own}{w:World}(hm:Mem w0 H0 S o H w)(hp:o.Perm o'):Mem w0 H0 S o' H w:=
 ⟨hm.agr,hm.ok.perm hp,hm.kept,λp h=>hm.fresh p (hp.mem_iff.2 h),hm.le,hm.grow,hm.soft⟩
theorem Mem.go0{w0:World}{H0 H H':Heaplet}{S:List Nat}{own K':List Own}{w w':World}(hm:Mem w0 H0 S own.flatten H w)(h:Mem w H [] K'.flatten H' w'):
 Mem w0 H0 S (K'++own).flatten H' w':=by
 rw[List.flatten_append]
 exact hm.go (K:=[]) (by simp) h
theorem Mem.go1{w0:World}{H0 H H':Heaplet}{S:List Nat}{own:List Own}{K K':Own}{i:Nat}{w w':World}(hm:Mem w0 H0 S own.flatten H w)(hi:own[i]? =some K)
 (h:Mem w H (ids K) K' H' w'):Mem w0 H0 S (own.set i K').flatten H' w':=
 (hm.go (flatten_perm hi) h).perm (flatten_set_perm hi).symm
theorem Mem.alloc{w:World}{H:Heaplet}(ha:Agrees H w)(o:Obj):Mem w H [] [(w.heap.size,o)] H (w.alloc o):=by
 have hc:∀b,b<w.heap.size→(w.alloc o).heap[b]? =w.heap[b]?:=λb hb=>Below.heap_alloc w o b hb
 refine⟨λb off v e=> ?_,⟨?_,by simp[ids],λp hp off=> ?_⟩,⟨rfl,rfl,rfl,by simp,Nat.le_refl _,λk hk _=>hc k hk⟩,λp hp=>.inr (by simp at hp;simp[hp]),Hle.refl _,λ_ _ _=>rfl,Mem.soft0⟩
 · have:=ha b off v e
   rw[World.cell?_of_block (w:=w) (hc b (World.block_lt_of_cell? w _ this))];exact this
 · intro p hp;simp at hp;subst hp;exact heap_alloc_new w o
 · simp at hp;subst hp
   cases h:H w.heap.size off with
   |none=>rfl
   |some v=>have:=World.block_lt_of_cell? w _ (ha _ _ _ h);simp at this
theorem Mem.setRow{w:World}{H:Heaplet}{b:Nat}{cur:Array Value}{t:TypeId}{fr:Nat×Nat}(ha:Agrees H w)(hb:w.heap[b]? =some (.cells cur t fr))(hap:∀o,H b o=none)(cs:Array Value):
 Mem w H [b] [(b,.cells cs t fr)] H (w.setRow b cs):=by
 have hlt:=(Array.getElem?_eq_some_iff.1 hb).1
 have hg:=(Array.getElem?_eq_some_iff.1 hb).2
 have ho:∀k,k≠b→(w.setRow b cs).heap[k]? =w.heap[k]?:=λk hk=>by
  simp only[World.setRow,Array.getElem?_modify];rw[if_neg (λe=>hk e.symm)]
 refine⟨λb' off v e=> ?_,⟨?_,by simp[ids],λp hp off=> ?_⟩,⟨rfl,rfl,rfl,by simp[World.setRow],Nat.le_refl _,λk hk hn=>ho k (by simpa using hn)⟩,λp hp=>.inl (by simp at hp;simp[hp]),Hle.refl _,λ_ _ _=>rfl,Mem.soft0⟩
 · have:=ha b' off v e
   rw[World.cell?_of_block (w:=w) (ho b' (λe'=>by subst e';rw[hap]at e;cases e))];exact this
 · intro p hp;simp at hp;subst hp
   simp[World.setRow,Array.getElem?_modify,hb]
 · simp at hp;subst hp;exact hap off
theorem own_here{w0 w:World}{H0:Heaplet}{S:List Nat}{K:Own}{i:Nat}(hm:Mem w0 H0 S own.flatten H w)(hi:own[i]? =some K):OwnOk H K w:=
 OwnOk.left (hm.ok.perm (flatten_perm hi))
@[simp] theorem add_lit (b o n:Nat):(⟨b,o,none⟩:Addr).add n=⟨b,o+n,none⟩:=by unfold Addr.add;split<;>simp_all
def fieldOff (P:Program)(S k:Nat):Option Nat:=
  match P.underlying S with
  | some (.struct fs)=>match fs[k]? with
    | some f=>match P.info? f.type with
      |some i=>if i.size=0 then none else some f.offset
      |none=>none
    |none=>none
  |_=>none
theorem run_fieldAt{P:Program}{S k n:Nat}(h:fieldOff P S k=some n)(b o:Nat)(w:World):
 (Instr.fieldAt S (.pointer (some ⟨b,o,none⟩)) k).run P w=.ok (.pointer (some ⟨b,o+n,none⟩)) w:=by
 unfold fieldOff at h
 split at h
 · rename_i fs hu
   split at h
   · rename_i f hf
     split at h
     · rename_i i hi
       split at h
       · cases h
       · rename_i hs
         simp at h
         simp[Instr.fieldAt,run_underlying hu,hf,Instr.sureAddr,fieldPlace,Go.sizeOf,typeInfo,hi,hs,h,go_sem]
     · cases h
   · cases h
 · cases h
def isAggD:TypeDesc→Bool
 | .struct _=>true
 | .array _ _=>true
 |_=>false
def shapeOf (P:Program)(T:TypeId):Option (Bool×Nat):=
 match P.underlying T,P.info? T with
 |some d,some i=>some (isAggD d,i.size)
 |_,_=>none
theorem run_isAgg{P:Program}{T:TypeId}{g:Bool}{n:Nat}(h:shapeOf P T=some (g,n))(w:World):(isAgg T).run P w=.ok g w:=by
 unfold shapeOf at h
 split at h
 · rename_i d i hu hi
   simp at h
   simp only[isAgg,Sem.run_bind,run_underlying hu,Result.andThen]
   rw[←h.1]
   cases d<;>simp[isAggD,go_sem]
 · cases h
theorem run_sizeOf{P:Program}{T:TypeId}{g:Bool}{n:Nat}(h:shapeOf P T=some (g,n))(w:World):(Go.sizeOf T).run P w=.ok n w:=by
 unfold shapeOf at h
 split at h
 · rename_i d i hu hi
   simp at h
   simp[Go.sizeOf,typeInfo,hi,h.2,go_sem]
 · cases h
def At (H:Heaplet)(own:List Own)(b o:Nat)(v:Value):Prop:=
 H b o=some v∨∃(i:Nat) (cur:Array Value) (t:TypeId) (fr:Nat×Nat),own[i]? =some [(b,Obj.cells cur t fr)]∧cur[o]? =some v
theorem At.cell{w:World}{b o:Nat}{v:Value}(hm:Stab own H w)(h:At H own b o v):w.cell? ⟨b,o,none⟩=some v:=by
 rcases h with h|⟨i,cur,t,fr,hi,hc⟩
 · exact hm.1 b o v h
 · rw[cell_of_row w b o cur t fr (hm.2 (b,.cells cur t fr) (List.mem_flatten.2 ⟨_,List.mem_of_getElem? hi,by simp⟩))];exact hc
theorem run_load1{P:Program}{T:TypeId}{w:World}{a:Addr}{v:Value}{n:Nat}(hs:shapeOf P T=some (false,n))(hc:w.cell? a=some v):
 (Instr.loadAt T (.pointer (some a))).run P w=.ok v w:=by
 simp[Instr.loadAt,Instr.sureAddr,loadVar,run_isAgg hs,hc,go_sem]
theorem run_loadN{P:Program}{T:TypeId}{w:World}{b o:Nat}{vs:List Value}(hs:shapeOf P T=some (true,vs.length))(hc:∀j v,vs[j]? =some v→w.cell? ⟨b,o+j,none⟩=some v):
 (Instr.loadAt T (.pointer (some ⟨b,o,none⟩))).run P w=.ok (.agg vs.toArray) w:=by
 have h:=run_loadCells_list (P:=P) (w:=w) ⟨b,o,none⟩ vs (λj v e=>by rw[add_lit];exact hc j v e)
 simp only[Instr.loadAt,Instr.sureAddr,loadVar,Sem.run_bind,Sem.run_pure,run_isAgg hs,run_sizeOf hs,h,Result.andThen,if_true]
theorem run_v{P:Program}{s:Sem Value}{w w':World}{u:Value}(h:s.run P w=.ok u w'):(do let r←s;pure (Next.value r)).run P w=.ok (.value u) w':=by
 simp[Sem.run_bind,h]
theorem run_u{P:Program}{s:Sem Unit}{w w':World}(h:s.run P w=.ok () w'):(do s;pure Next.skip).run P w=.ok .skip w':=by
 simp[Sem.run_bind,h]
section ops
variable{ty:TypeId}{d:Nat}{pos:String}{aft:Array Edge}{v:Value}
theorem JL.ld{p:Operand}{T n b o:Nat}(hs:shapeOf x.P T=some (false,n))(h1:evo l p=some (.pointer (some ⟨b,o,none⟩)))(ha:At H own b o v)(hd:Nat.blt d x.n=true)
 (h:JL x ops Q rest ((d,v)::l) own H):JL x ops Q (⟨some d,.load T p,ty,pos,aft,none⟩::rest) l own H:=
 JL.val hd rfl (λρ w _ _ _ _ hρ hm=>by simp only[execOp,hρ _ _ h1];exact run_v (run_load1 hs (ha.cell hm))) h
theorem JL.new{op:Op}{obj:Obj}{v':Nat→Value}(hd:Nat.blt d x.n=true)(hn:noDefer op=true)
 (hr:∀(ρ:Operand→Value) (w:World) (d:Option Tmp) (pos:String) (aft:Array Edge) (g:Option (Nat×Bool)),(∀o u,evo l o=some u→ρ o=u)→
  (execOp ρ ⟨d,op,ty,pos,aft,g⟩).run x.P w=.ok (.value (v' w.heap.size)) (w.alloc obj))
 (h:∀b,x.w0.heap.size≤b→JL x ops Q rest ((d,v' b)::l) ([(b,obj)]::own) H):JL x ops Q (⟨some d,op,ty,pos,aft,none⟩::rest) l own H:=λa w hh=>by
 simp only[wpLs,wanted_none,if_true]
 refine⟨λ_ _=>trivial,?_⟩
 rw[semAt_of hn,hr a.eval w (some d) pos aft none (λo u e=>eval_of hh e)]
 refine h w.heap.size hh.mem.kept.size _ _ (Holds.put (x:=x) (l:=l) ?_ hd _)
 exact⟨hh.size,hh.ds,hh.slots,by simpa using hh.mem.go0 (K':=[[(w.heap.size,obj)]]) (by simpa using Mem.alloc hh.mem.agr obj)⟩
theorem JL.box{p:Operand}{T:TypeId}(h1:evo l p=some v)(hd:Nat.blt d x.n=true)
 (h:∀b,x.w0.heap.size≤b→JL x ops Q rest ((d,.pointer (some ⟨b,0,none⟩))::l) ([(b,.cells v.cells T (0,0))]::own) H):JL x ops Q (⟨some d,.box T p,ty,pos,aft,none⟩::rest) l own H:=
 JL.new (v':=λb=>.pointer (some ⟨b,0,none⟩)) hd rfl (λρ w _ _ _ _ hρ=>by
  simp only[execOp,hρ _ _ h1]
  exact run_v (by simp only[Instr.box,newVar,newRow,Sem.run_bind,run_newObj_alloc,Result.andThen,Sem.run_pure])) h
def zeroOf (P:Program)(T:TypeId):Option Value:=(P.info? T).bind (·.zero)
theorem run_zeroValue{P:Program}{T:TypeId}{z:Value}(h:zeroOf P T=some z)(w:World):(zeroValue T).run P w=.ok z w:=by
 unfold zeroOf at h
 cases hi:P.info? T with
 |none=>simp[hi]at h
 |some i=>simp[hi]at h;simp[zeroValue,typeInfo,hi,h,go_sem]
theorem JL.alloc{T:TypeId}{z:Value}(hz:zeroOf x.P T=some z)(hd:Nat.blt d x.n=true)
 (h:∀b,x.w0.heap.size≤b→JL x ops Q rest ((d,.pointer (some ⟨b,0,none⟩))::l) ([(b,.cells z.cells T (0,0))]::own) H):JL x ops Q (⟨some d,.alloc T,ty,pos,aft,none⟩::rest) l own H:=
 JL.new (v':=λb=>.pointer (some ⟨b,0,none⟩)) hd rfl (λρ w _ _ _ _ hρ=>by
  have hz':=run_zeroValue hz w
  simp only[execOp]
  refine run_v ?_
  simp only[Instr.alloc,Sem.run_bind,hz',Result.andThen,newVar,newRow,run_newObj_alloc,Sem.run_pure]) h
theorem JL.turn (i:Nat){op:Op}{b:Nat}{cur cs:Array Value}{t:TypeId}(hi:own[i]? =some [(b,.cells cur t (0,0))])(hn:noDefer op=true)
 (hr:∀(ρ:Operand→Value) (w:World) (d:Option Tmp) (pos:String) (aft:Array Edge) (g:Option (Nat×Bool)),(∀o u,evo l o=some u→ρ o=u)→w.heap[b]? =some (.cells cur t (0,0))→
  (execOp ρ ⟨d,op,ty,pos,aft,g⟩).run x.P w=.ok .skip (w.setRow b cs))
 (h:JL x ops Q rest l (own.set i [(b,.cells cs t (0,0))]) H):JL x ops Q (⟨none,op,ty,pos,aft,none⟩::rest) l own H:=λa w hh=>by
 simp only[wpLs,wanted_none,if_true]
 refine⟨λ_ _=>trivial,?_⟩
 have hb:=(own_here hh.mem hi)
 rw[semAt_of hn,hr a.eval w none pos aft none (λo u e=>eval_of hh e) (hb.here (b,.cells cur t (0,0)) (by simp))]
 have hap:∀o,H b o=none:=λo=>hb.apart (b,.cells cur t (0,0)) (by simp) o
 exact h _ _ ⟨hh.size,hh.ds,hh.slots,hh.mem.go1 hi (by simpa[ids]using Mem.setRow hh.mem.agr (hb.here (b,.cells cur t (0,0)) (by simp)) hap cs)⟩
theorem run_storeAt{P:Program}{T:TypeId}{w:World}{b o n:Nat}{g:Bool}{cur:Array Value}{t:TypeId}{v:Value}(hs:shapeOf P T=some (g,n))(hv:v.cells.size=n)
 (h1:v.cells.toList.all (·.oneCell')=true)(hb:w.heap[b]? =some (.cells cur t (0,0)))(ho:o+n≤cur.size):
 (Instr.storeAt T (.pointer (some ⟨b,o,none⟩)) v).run P w=.ok () (w.setRow b (cur.toList.take o++v.cells.toList++cur.toList.drop (o+n)).toArray):=by
 have h:=run_storeCells_at P b o t v.cells.toList 0 cur w hb (by simp[hv,ho]) (List.all_eq_true.1 h1)
 simp only[Instr.storeAt,Instr.sureAddr,storeVar,Sem.run_bind,Sem.run_pure,run_sizeOf hs,Result.andThen,hv,ne_eq,not_true,if_false,h,Nat.add_zero,Array.length_toList]
theorem JL.store (i:Nat){p q:Operand}{T n b o:Nat}{g:Bool}{cur:Array Value}{t:TypeId}(hs:shapeOf x.P T=some (g,n))(h1:evo l p=some (.pointer (some ⟨b,o,none⟩)))(h2:evo l q=some v)
 (hi:own[i]? =some [(b,.cells cur t (0,0))])(hv:v.cells.size=n)(hc:v.cells.toList.all (·.oneCell')=true)(ho:o+n≤cur.size)
 (h:JL x ops Q rest l (own.set i [(b,.cells (cur.toList.take o++v.cells.toList++cur.toList.drop (o+n)).toArray t (0,0))]) H):JL x ops Q (⟨none,.store T p q,ty,pos,aft,none⟩::rest) l own H:=
 JL.turn i hi rfl (λρ w _ _ _ _ hρ hb=>by simp only[execOp,hρ _ _ h1,hρ _ _ h2];exact run_u (run_storeAt hs hv hc hb ho)) h
def Enters (P:Program)(f:FuncId):Prop:=∀(args:Array Value) (w:World),(callFunc f args).run P w=.ok (.enter f args) w
theorem enters_of {P : Program} {f : FuncId} {fn : Func} (hf : P.funcs[f]? = some fn) (hb : fn.body.isNone = false) (hn : (fn.name == "runtime.NumGoroutine") = false) : Enters P f := fun args w => by
  simp only[callFunc,Sem.run_bind,run_program,Result.andThen,hf,hb,hn,Bool.false_eq_true,if_false,Sem.run_pure]
theorem mapM_eval{ρ:Operand→Value}(hρ:∀o u,evo l o=some u→ρ o=u){as:Array Operand}{vs:List Value}(h:as.toList.mapM (evo l)=some vs):as.map ρ=vs.toArray:=by
  have key:∀(os:List Operand) (vs:List Value),os.mapM (evo l)=some vs→os.map ρ=vs:=by
    intro os
    induction os with
    |nil=>intro vs e;simp at e;simp[e]
    | cons o os ih=>
      intro vs e
      simp only[List.mapM_cons]at e
      cases ho:evo l o with
      |none=>simp[ho]at e
      | some v=>
        cases hos:os.mapM (evo l)with
        |none=>simp[ho,hos]at e
        |some us=>simp[ho,hos]at e;subst e;simp[hρ _ _ ho,ih us hos]
  rw[←Array.toList_inj];simpa using key _ _ h
theorem JL.callG{c:Operand}{as:Array Operand}{ts:Array TypeId}{f:FuncId}{first cap:Array Value}{vs:List Value}{K rst:List Own}{R:Value→List Own→Heaplet→Prop}
 (he:Enters x.P f)(hc:evo l c=some (.func (.func f) first cap))(ha:as.toList.mapM (evo l)=some vs)(hp:own.flatten.Perm (K.flatten++rst.flatten))
 (C:Does x.P f (first++vs.toArray++cap) K H R)(hd:Nat.blt d x.n=true)
 (h:∀v K' H',R v K' H'→Hle H H'→(∀p∈K'.flatten,p.1∈ids K.flatten∨x.w0.heap.size≤p.1)→JL x ops Q rest ((d,v)::l) (K'++rst) H'):
 JL x ops Q (⟨some d,.call ⟨.value c,as,ts⟩,ty,pos,aft,none⟩::rest) l own H:=λa w hh=>by
 simp only[wpLs,wanted_none,if_true]
 refine⟨λ_ _=>trivial,?_⟩
 have hrun:(execOp a.eval ⟨some d,.call ⟨.value c,as,ts⟩,ty,pos,aft,none⟩).run x.P w=.ok (.enter f (first++vs.toArray++cap)) w:=by
  have e1:=eval_of hh hc
  have e2:=mapM_eval (λo u e=>eval_of hh e) ha
  simp only[execOp,resolve,e1,e2,Deferred.ofValue,Sem.run_bind,Sem.run_pure,Result.andThen,invoke]
  exact he _ _
 rw[semAt_of rfl,hrun]
 have hok:=hh.mem.ok.perm hp
 show(_→_)∧CallsIn _ _ _ _ _ _ _
 refine⟨λe=>by simp[Fw]at e,?_⟩
 refine CallsIn.mono (show CallsIn (Fw x.r) (0-1) x.P f _ w _ from C w hh.mem.agr hok.left) ?_
 rintro e w' ⟨v,K',H',rfl,hR,hm⟩
 refine h v K' H' hR hm.le (λp hp'=>(hm.fresh p hp').imp id (Nat.le_trans hh.mem.kept.size)) _ _ (Holds.put (x:=x) (l:=l) ?_ hd v)
 exact⟨hh.size,hh.ds,hh.slots,by rw[List.flatten_append];exact hh.mem.go hp hm⟩
theorem JL.call{c:Operand}{as:Array Operand}{ts:Array TypeId}{f:FuncId}{vs:List Value}{R:Value→List Own→Heaplet→Prop}
 (he:Enters x.P f)(hc:evo l c=some (.func (.func f) #[] #[]))(ha:as.toList.mapM (evo l)=some vs)
 (C:Does x.P f vs.toArray [] H R)(hd:Nat.blt d x.n=true)
 (h:∀v K' H',R v K' H'→Hle H H'→(∀p∈K'.flatten,x.w0.heap.size≤p.1)→JL x ops Q rest ((d,v)::l) (K'++own) H'):
 JL x ops Q (⟨some d,.call ⟨.value c,as,ts⟩,ty,pos,aft,none⟩::rest) l own H:=
 JL.callG (K:=[]) (rst:=own) he hc ha (by simp) (by simpa using C) hd (λv K' H' hR hle hf=>h v K' H' hR hle (λp hp=>(hf p hp).resolve_left (by simp[ids])))
end ops
end Go.Ow
namespace Go.Ow
open Go.RowKit
variable{x:Cx}{ops:Array Oper}{Q:Exit→Act→World→Prop}{rest:List Oper}{l:Slots}{own:List Own}{H:Heaplet}
theorem wi64{n:Int}(h1: -9223372036854775808≤n)(h2:n≤9223372036854775807):IntKind.i64.wrap n=n:=IntWalk.i64_in n ⟨h1,h2⟩
abbrev Rep (α:Type):=Heaplet→List Value→α→Prop
def Rep.Mono{α:Type}(R:Rep α):Prop:=∀H H' cs x,Hle H H'→R H cs x→R H' cs x
def RU8:Rep UInt8:=λ_ cs b=>cs= [.int .u8 b.toNat]
def RU32:Rep UInt32:=λ_ cs n=>cs= [.int .u32 n.toNat]
def InI64 (n:Int):Prop:=-9223372036854775808≤n∧n≤9223372036854775807
def RBool:Rep Bool:=λ_ cs b=>cs= [.bool b]
def IsSlice{α:Type}(H:Heaplet)(R:Rep α)(size:Nat)(v:Value)(l:List α):Prop:=
  ∃ ao cap,v=.slice ao l.length cap∧l.length≤cap∧cap≤maxLen∧(∀a,ao=some a→cap=0∨a.spot=none)∧(ao=none→cap=0)∧
    ∀i y,l[i]? =some y→∃b o cs,ao=some ⟨b,o,none⟩∧cs.length=size∧R H cs y∧∀j u,cs[j]? =some u→H b (o+i*size+j)=some u
abbrev IsB (H:Heaplet)(v:Value)(l:List UInt8):Prop:=IsSlice H RU8 1 v l
theorem IsSlice.mono{α:Type}{R:Rep α}(hR:R.Mono){size:Nat}{v:Value}{l:List α}{H':Heaplet}(hle:Hle H H')(h:IsSlice H R size v l):IsSlice H' R size v l:=by
 obtain⟨ao,cap,e,h1,h2,h3,h4,h5⟩:=h
 refine⟨ao,cap,e,h1,h2,h3,h4,λi y hy=> ?_⟩
 obtain⟨b,o,cs,e1,e2,e3,e4⟩:=h5 i y hy
 exact⟨b,o,cs,e1,e2,hR _ _ _ _ hle e3,λj u hu=>hle _ _ _ (e4 j u hu)⟩
theorem IsSlice.len_le{α:Type}{R:Rep α}{size:Nat}{v:Value}{l:List α}(h:IsSlice H R size v l):l.length≤9223372036854775807:=by
 obtain⟨ao,cap,e,h1,h2,_⟩:=h;unfold maxLen at h2;omega
theorem RU8.mono:RU8.Mono:=λ_ _ _ _ _ h=>h
theorem RU32.mono:RU32.Mono:=λ_ _ _ _ _ h=>h
theorem RBool.mono:RBool.Mono:=λ_ _ _ _ _ h=>h
theorem IsB.mono{v:Value}{l:List UInt8}{H':Heaplet}(hle:Hle H H')(h:IsB H v l):IsB H' v l:=IsSlice.mono RU8.mono hle h
theorem IsSlice.nil{α:Type}(H:Heaplet)(R:Rep α)(size:Nat):IsSlice H R size (.slice none 0 0) []:=
 ⟨none,0,rfl,Nat.le_refl _,by simp[maxLen],λ_ h=>(by cases h),λ_=>rfl,λi y h=>(by simp at h)⟩
def Flat{α:Type}(H:Heaplet)(R:Rep α)(size:Nat):List Value→List α→Prop
 |cells,[]=>cells= []
 |cells,y::r=>∃cs more,cells=cs++more∧cs.length=size∧R H cs y∧Flat H R size more r
theorem Flat.length{α:Type}{R:Rep α}{size:Nat}:∀{l:List α} {cells:List Value},Flat H R size cells l→cells.length=l.length*size
  |[],cells,h=>by simp only[Flat]at h;subst h;simp
  | y::r,cells,h=>by
    obtain⟨cs,more,rfl,h1,_,h2⟩:=h
    have:=Flat.length h2
    simp[this,h1,Nat.add_mul];omega
theorem Flat.append{α:Type}{R:Rep α}{size:Nat}{l':List α}{cells':List Value}(h':Flat H R size cells' l'):∀{l:List α} {cells:List Value},Flat H R size cells l→Flat H R size (cells++cells') (l++l')
  |[],cells,h=>by simp only[Flat]at h;subst h;simpa using h'
  | y::r,cells,h=>by
    obtain⟨cs,more,rfl,h1,h2,h3⟩:=h
    exact⟨cs,more++cells',by simp,h1,h2,Flat.append h' h3⟩
theorem Flat.mono{α:Type}{R:Rep α}(hR:R.Mono){size:Nat}{H':Heaplet}(hle:Hle H H'):∀{l:List α} {cells:List Value},Flat H R size cells l→Flat H' R size cells l
  |[],cells,h=>h
  | y::r,cells,h=>by
    obtain⟨cs,more,rfl,h1,h2,h3⟩:=h
    exact⟨cs,more,rfl,h1,hR _ _ _ _ hle h2,Flat.mono hR hle h3⟩
theorem Flat.at{α:Type}{R:Rep α}{size:Nat}:∀{l:List α} {cells:List Value},Flat H R size cells l→∀{i:Nat} {y:α},l[i]? =some y→
    ∃cs,cs.length=size∧R H cs y∧∀j u,cs[j]? =some u→cells[i*size+j]? =some u
  |[],cells,h,i,y,hi=>by simp at hi
  | z::r,cells,h,0,y,hi=>by
    obtain⟨cs,more,rfl,h1,h2,h3⟩:=h
    simp at hi;subst hi
    refine⟨cs,h1,h2,λj u hu=> ?_⟩
    have hj:j<cs.length:=(List.getElem?_eq_some_iff.1 hu).1
    simpa[List.getElem?_append,hj]using hu
  | z::r,cells,h,i+1,y,hi=>by
    obtain⟨cs,more,rfl,h1,h2,h3⟩:=h
    obtain⟨cs',e1,e2,e3⟩:=Flat.at h3 (i:=i) (y:=y) (by simpa using hi)
    refine⟨cs',e1,e2,λj u hu=> ?_⟩
    rw[List.getElem?_append_right (by rw[h1,Nat.add_mul];omega),h1,show(i+1)*size+j-size=i*size+j by rw[Nat.add_mul];omega]
    exact e3 j u hu
def bvs (l:List UInt8):List Value:=l.map λb=>.int .u8 b.toNat
theorem Flat.bytes:∀(l:List UInt8),Flat H RU8 1 (bvs l) l
 |[]=>rfl
 |b::r=>⟨[.int .u8 b.toNat],bvs r,rfl,rfl,rfl,Flat.bytes r⟩
theorem Flat.of_u8:∀{l:List UInt8} {cells:List Value},Flat H RU8 1 cells l→cells=bvs l
  |[],cells,h=>h
  | b::r,cells,h=>by
    obtain⟨cs,more,rfl,h1,h2,h3⟩:=h
    rw[Flat.of_u8 h3,h2];rfl
theorem IsSlice.cells{α:Type}{R:Rep α}{size:Nat}{v:Value}{l:List α}(h:IsSlice H R size v l):
    ∃cells,Flat H R size cells l∧∃ao cap,v=.slice ao l.length cap∧(l= []∨∃b o,ao=some ⟨b,o,none⟩∧∀j u,cells[j]? =some u→H b (o+j)=some u):=by
  obtain⟨ao,cap,e,h1,h2,h3,h4,h5⟩:=h
  cases hl:l with
  |nil=>exact⟨[],rfl,ao,cap,by rw[e,hl],.inl rfl⟩
  | cons y0 r0=>
    obtain⟨b,o,_,hao,_⟩:=h5 0 y0 (by simp[hl])
    have key:∀(m:List α) (k:Nat),(∀i y,m[i]? =some y→l[k+i]? =some y)→∃cells,Flat H R size cells m∧∀j u,cells[j]? =some u→H b (o+k*size+j)=some u:=by
      intro m
      induction m with
      |nil=>intro k _;exact⟨[],rfl,λj u hu=>by simp at hu⟩
      | cons y r ih=>
        intro k hm
        obtain⟨cells,hf,hc⟩:=ih (k+1) (λi z hz=>by have:=hm (i+1) z (by simpa using hz);rwa[show k+(i+1)=k+1+i by omega]at this)
        obtain⟨b',o',cs,ea,e1,e2,e3⟩:=h5 k y (hm 0 y (by simp))
        rw[hao]at ea;simp at ea;obtain⟨rfl,rfl⟩:=ea
        refine⟨cs++cells,⟨cs,cells,rfl,e1,e2,hf⟩,λj u hu=> ?_⟩
        rcases Nat.lt_or_ge j cs.length with hj|hj
        · rw[List.getElem?_append_left hj]at hu;exact e3 j u hu
        · rw[List.getElem?_append_right hj]at hu
          have:=hc _ _ hu
          rw[e1,Nat.add_mul]at this
          rw[show o+k*size+j=o+(k*size+1*size)+(j-size) by omega];exact this
    obtain⟨cells,hf,hc⟩:=key l 0 (λi y hy=>by simpa using hy)
    rw[←hl]
    exact⟨cells,hf,ao,cap,e,.inr ⟨b,o,hao,λj u hu=>by simpa using hc j u hu⟩⟩
theorem IsSlice.of_cells{α:Type}{R:Rep α}{size:Nat}{l:List α}{cells:List Value}{b o cap:Nat}(hf:Flat H R size cells l)(hcap:l.length≤cap)(hm:cap≤maxLen)
 (hc:∀j u,cells[j]? =some u→H b (o+j)=some u):IsSlice H R size (.slice (some ⟨b,o,none⟩) l.length cap) l:=
 ⟨_,cap,rfl,hcap,hm,λa e=>(by cases e;exact .inr rfl),λe=>(by cases e),λi y hy=>by
  obtain⟨cs,e1,e2,e3⟩:=hf.at hy
  exact⟨b,o,cs,rfl,e1,e2,λj u hu=>by have:=hc _ _ (e3 j u hu);rwa[←Nat.add_assoc]at this⟩⟩
section ops
variable{ty:TypeId}{d:Nat}{pos:String}{aft:Array Edge}{v:Value}
theorem JL.lenS{α:Type}{R:Rep α}{size:Nat}{p:Operand}{t e:TypeId}{m:List α}(hu:x.P.underlying t=some (.slice e))(h1:evo l p=some v)(hs:IsSlice H R size v m)(hd:Nat.blt d x.n=true)
 (h:JL x ops Q rest ((d,.int .i64 m.length)::l) own H):JL x ops Q (⟨some d,.call ⟨.builtin .len,#[p],#[t]⟩,ty,pos,aft,none⟩::rest) l own H:=by
 obtain⟨ao,cap,rfl,_⟩:=hs
 exact JL.len hu h1 hd h
theorem run_indexAt{P:Program}{T e:TypeId}{g:Bool}{n:Nat}(hu:P.underlying T=some (.slice e))(hs:shapeOf P e=some (g,n)){b o len cap k:Nat}{kk:IntKind}(hk:k<len)(w:World):
 (Instr.indexAt T (.slice (some ⟨b,o,none⟩) len cap) (.int kk (k:Int))).run P w=.ok (.pointer (some ⟨b,o+k*n,none⟩)) w:=by
 have h0:(0:Int)≤(k:Int)∧(k:Int)<(len:Int):=⟨by omega,by omega⟩
 simp only[Instr.indexAt,asIntOf,Sem.run_bind,Sem.run_pure,Result.andThen,run_underlying hu,if_pos h0,run_sizeOf hs,Int.toNat_natCast,add_lit]
theorem JL.ix{α:Type}{R:Rep α}{p q:Operand}{T e:TypeId}{g:Bool}{n:Nat}{m:List α}{kk:IntKind}{i:Int}{k:Nat}(hu:x.P.underlying T=some (.slice e))(hs:shapeOf x.P e=some (g,n))
 (h1:evo l p=some v)(hS:IsSlice H R n v m)(h2:evo l q=some (.int kk i))(hi:i=(k:Int))(hk:k<m.length)(hd:Nat.blt d x.n=true)
 (h:∀b o cs,R H cs m[k]→cs.length=n→(∀j u,cs[j]? =some u→H b (o+j)=some u)→JL x ops Q rest ((d,.pointer (some ⟨b,o,none⟩))::l) own H):
 JL x ops Q (⟨some d,.indexAddr T p q,ty,pos,aft,none⟩::rest) l own H:=by
 obtain⟨ao,cap,rfl,e1,e2,e3,e4,e5⟩:=hS
 obtain⟨b,o,cs,rfl,f1,f2,f3⟩:=e5 k _ (List.getElem?_eq_getElem hk)
 subst hi
 exact JL.val hd rfl (λρ w _ _ _ _ hρ hm=>by simp only[execOp,hρ _ _ h1,hρ _ _ h2];exact run_v (run_indexAt hu hs hk w)) (h b (o+k*n) cs f2 f1 f3)
theorem JL.ixB{p q:Operand}{T e:TypeId}{g:Bool}{m:List UInt8}{kk:IntKind}{i:Int}{k:Nat}(hu:x.P.underlying T=some (.slice e))(hs:shapeOf x.P e=some (g,1))
 (h1:evo l p=some v)(hS:IsB H v m)(h2:evo l q=some (.int kk i))(hi:i=(k:Int))(hk:k<m.length)(hd:Nat.blt d x.n=true)
 (h:∀b o,H b o=some (.int .u8 (m[k].toNat:Int))→JL x ops Q rest ((d,.pointer (some ⟨b,o,none⟩))::l) own H):
 JL x ops Q (⟨some d,.indexAddr T p q,ty,pos,aft,none⟩::rest) l own H:=
 JL.ix hu hs h1 hS h2 hi hk hd (λb o cs hR _ hc=>h b o (by rw[show cs=_ from hR]at hc;simpa using hc 0 _ rfl))
theorem JL.ldH{p:Operand}{T n b o:Nat}(hs:shapeOf x.P T=some (false,n))(h1:evo l p=some (.pointer (some ⟨b,o,none⟩)))(ha:H b o=some v)(hd:Nat.blt d x.n=true)
 (h:JL x ops Q rest ((d,v)::l) own H):JL x ops Q (⟨some d,.load T p,ty,pos,aft,none⟩::rest) l own H:=JL.ld hs h1 (.inl ha) hd h
def b8 (n:Int):UInt8:=UInt8.ofNat (n%256).toNat
def w32 (n:Int):UInt32:=UInt32.ofNat (n%4294967296).toNat
end ops
end Go.Ow
namespace Go.Ow
open Go.RowKit
variable{x:Cx}{ops:Array Oper}{Q:Exit→Act→World→Prop}{rest:List Oper}{l:Slots}{own:List Own}{H:Heaplet}
def Row (B:Nat)(E:TypeId)(size:Nat)(v:Value)(cells:List Value)(n:Nat)(K:Own):Prop:=
 cells.length=n*size∧((v=.slice none 0 0∧n=0∧K= [])∨
  ∃g cap cur,v=.slice (some ⟨g,0,none⟩) n cap∧K= [(g,.cells cur E (0,0))]∧B≤g∧n≤cap∧cap≤maxLen∧cap*size≤cur.size∧cur.toList.take (n*size)=cells)
def oneCells (cs:List Value):Prop:=∀u∈cs,u.oneCell'=true
def RowOf{α:Type}(H:Heaplet)(R:Rep α)(B:Nat)(E:TypeId)(size:Nat)(v:Value)(ls:List α)(K:Own):Prop:=
 ∃cells,Row B E size v cells ls.length K∧Flat H R size cells ls∧oneCells cells
theorem RowOf.nil{α:Type}(H:Heaplet)(R:Rep α)(B:Nat)(E:TypeId)(size:Nat):RowOf H R B E size (.slice none 0 0) [] []:=
 ⟨[],⟨by simp,.inl ⟨rfl,rfl,rfl⟩⟩,rfl,λ_ h=>by cases h⟩
theorem RowOf.mono{α:Type}{R:Rep α}(hR:R.Mono){B:Nat}{E:TypeId}{size:Nat}{v:Value}{ls:List α}{K:Own}{H':Heaplet}(hle:Hle H H')(h:RowOf H R B E size v ls K):RowOf H' R B E size v ls K:=by
 obtain⟨cells,h1,h2,h3⟩:=h
 exact⟨cells,h1,h2.mono hR hle,h3⟩
theorem RowOf.weak{α:Type}{R:Rep α}{B B':Nat}(hB:B'≤B){E:TypeId}{size:Nat}{v:Value}{ls:List α}{K:Own}(h:RowOf H R B E size v ls K):RowOf H R B' E size v ls K:=by
 obtain⟨cells,⟨h0,h1⟩,h2,h3⟩:=h
 refine⟨cells,⟨h0,?_⟩,h2,h3⟩
 rcases h1 with h1|⟨g,cap,cur,e1,e2,e3,r⟩
 · exact .inl h1
 · exact .inr ⟨g,cap,cur,e1,e2,Nat.le_trans hB e3,r⟩
theorem RowOf.base{α:Type}{R:Rep α}{B B':Nat}{E:TypeId}{size:Nat}{v:Value}{ls:List α}{K:Own}(h:RowOf H R B E size v ls K)(hB:∀p∈K,B'≤p.1):RowOf H R B' E size v ls K:=by
 obtain⟨cells,⟨h0,h1⟩,h2,h3⟩:=h
 refine⟨cells,⟨h0,?_⟩,h2,h3⟩
 rcases h1 with h1|⟨g,cap,cur,e1,e2,e3,r⟩
 · exact .inl h1
 · exact .inr ⟨g,cap,cur,e1,e2,hB (g,.cells cur E (0,0)) (by simp[e2]),r⟩
theorem RowOf.len{α:Type}{R:Rep α}{B:Nat}{E:TypeId}{size:Nat}{v:Value}{ls:List α}{K:Own}(h:RowOf H R B E size v ls K):∃ao cap,v=.slice ao ls.length cap∧ls.length≤cap∧cap≤maxLen:=by
 obtain⟨cells,⟨h0,h1⟩,h2,h3⟩:=h
 rcases h1 with⟨e1,e2,_⟩|⟨g,cap,cur,e1,e2,e3,e4,e5,r⟩
 · exact⟨none,0,by rw[e1,e2],by omega,by simp[maxLen]⟩
 · exact⟨_,cap,e1,e4,e5⟩
def Rep.One{α:Type}(R:Rep α):Prop:=∀H cs y,R H cs y→oneCells cs
theorem RU8.one:RU8.One:=λ_ cs y h=>by rw[show cs=_ from h];intro u hu;simp at hu;subst hu;rfl
theorem Flat.one'{α:Type}{R:Rep α}(hR:R.One){size:Nat}:∀{l:List α} {cells:List Value},Flat H R size cells l→oneCells cells
  |[],cells,h=>by simp only[Flat]at h;subst h;intro u hu;cases hu
  | y::r,cells,h=>by
    obtain⟨cs,more,rfl,h1,h2,h3⟩:=h
    intro u hu
    rcases List.mem_append.1 hu with hu|hu
    · exact hR _ _ _ h2 u hu
    · exact Flat.one' hR h3 u hu
def eInfo (P:Program)(E:TypeId):Option (Value×Nat×Nat):=
 (P.info? E).bind λi=>i.zero.bind λz=>if z.cells.size=i.size∧0<i.size then some (z,i.size,i.bytes)else none
theorem eInfo_parts{P:Program}{E:TypeId}{z:Value}{size bytes:Nat}(h:eInfo P E=some (z,size,bytes)):
    ∃i,P.info? E=some i∧i.zero=some z∧i.size=size∧i.bytes=bytes∧z.cells.size=size∧0<size:=by
  unfold eInfo at h
  cases hi:P.info? E with
  |none=>simp[hi]at h
  | some i=>
    cases hz:i.zero with
    |none=>simp[hi,hz]at h
    | some z'=>
      simp only[hi,hz,Option.bind_some]at h
      split at h
      · rename_i hc;simp at h;obtain⟨rfl,rfl,rfl⟩:=h;exact⟨i,rfl,hz,rfl,rfl,hc.1,hc.2⟩
      · cases h
theorem Mem.drew{w:World}{H:Heaplet}{w0:World}{H0:Heaplet}{S:List Nat}{o:Own}(h:Mem w0 H0 S o H w):Mem w0 H0 S o H w.drew:=
 ⟨h.agr,⟨h.ok.here,h.ok.nodup,h.ok.apart⟩,⟨h.kept.os,h.kept.tape,h.kept.output,h.kept.size,Nat.le_succ_of_le h.kept.drawn,h.kept.block⟩,h.fresh,h.le,h.grow,h.soft⟩
theorem Mem.same{w:World}{H:Heaplet}{K:Own}(ha:Agrees H w)(hk:OwnOk H K w):Mem w H (ids K) K H w:=
 ⟨ha,hk,Kept.refl _ _,λp hp=>.inl (List.mem_map_of_mem hp),Hle.refl _,λ_ _ _=>rfl,Mem.soft0⟩
theorem append_row{P:Program}{w:World}{H:Heaplet}{t tx ty E:TypeId}{z:Value}{size bytes:Nat}(hu:P.underlying t=some (.slice E))(he:eInfo P E=some (z,size,bytes))
 {B n m:Nat}{v y:Value}{cells news:List Value}{K:Own}(ha:Agrees H w)(hk:OwnOk H K w)(hr:Row B E size v cells n K)(hs:Src P size tx y m news w)
 (h63:n+m≤maxLen)(hb:(n+m)*bytes≤140737488355328)(hB:B≤w.heap.size):
 ∃v' K' w',(Builtin.append_ #[t,tx] ty #[v,y]).run P w=.ok v' w'∧Row B E size v' (cells++news) (n+m) K'∧Mem w H (ids K) K' H w':=by
 obtain⟨i,hi,hz,hsz,hby,hzs,hpos⟩:=eInfo_parts he
 subst hsz;subst hby
 obtain⟨h0,h1⟩:=hr
 have hlen:(cells++news).length=(n+m)*i.size:=by rw[List.length_append,h0,hs.newsLen,Nat.add_mul]
 by_cases hm0:m=0
 · subst hm0
   have hn:news= []:=List.length_eq_zero_iff.1 (by rw[hs.newsLen];simp)
   subst hn
   refine⟨v,K,w,?_,⟨by simpa using hlen,by simpa using h1⟩,Mem.same ha hk⟩
   rcases h1 with⟨rfl,rfl,rfl⟩|⟨g,cap,cur,rfl,rfl,e3,e4,e5,e6,e7⟩
   · exact run_append_nothing w t tx ty E i hu hi none 0 0 (Nat.le_refl _) y hs
   · exact run_append_nothing w t tx ty E i hu hi _ n cap e4 y hs
 · have grows:∀(base:Option Addr) (sCap:Nat),(Builtin.firstCells i.size n (.slice base n sCap)).run P w.drew=.ok cells.toArray w.drew→sCap<n+m→
    ∃v' K' w',(Builtin.append_ #[t,tx] ty #[.slice base n sCap,y]).run P w=.ok v' w'∧Row B E i.size v' (cells++news) (n+m) K'∧Mem w H [] K' H w':=by
    intro base sCap hold hg
    have hsmall:n+m≤9223372036854775807:=by simp only[maxLen]at h63;omega
    have hrun:=run_append_grow_src (P:=P) w t tx ty E i z hu hi hz base n sCap cells hold y m news hs hg (by omega) (growslice_fits hg hb)
    have hge:=grownCap_ge w (n+m) sCap E
    have hcm:grownCap w (n+m) sCap E≤maxLen:=grownCap_le_maxLen w (n+m) sCap E h63
    obtain⟨C,hC⟩:∃C,C=(cells++news).toArray++Builtin.zeroCells z.cells (grownCap w (n+m) sCap E-(n+m)):=⟨_,rfl⟩
    rw[←hC]at hrun
    refine⟨_,[(w.heap.size,.cells C E (0,0))],_,hrun,⟨hlen,.inr ⟨w.heap.size,_,C,rfl,rfl,hB,hge,hcm,?_,?_⟩⟩,?_⟩
    · rw[hC];simp only[Array.size_append,List.size_toArray,size_zeroCells,hzs,hlen,←Nat.add_mul]
      refine Nat.mul_le_mul_right _ ?_;omega
    · rw[hC];simp only[Array.toList_append,List.append_assoc,List.toList_toArray]
      rw[←List.append_assoc,←hlen];exact List.take_left
    · have h:=Mem.alloc (w:=w.drew) (H:=H) (λb o v e=>ha b o v e) (.cells C E (0,0))
      exact⟨h.agr,h.ok,⟨h.kept.os,h.kept.tape,h.kept.output,h.kept.size,Nat.le_trans (Nat.le_succ _) h.kept.drawn,h.kept.block⟩,h.fresh,h.le,h.grow,h.soft⟩
   rcases h1 with⟨rfl,rfl,rfl⟩|⟨g,cap,cur,rfl,rfl,e3,e4,e5,e6,e7⟩
   · have hc:cells= []:=List.length_eq_zero_iff.1 (by rw[h0];simp)
     subst hc
     obtain⟨v',K',w',r1,r2,r3⟩:=grows none 0 (by simp[Builtin.firstCells,go_sem]) (by omega)
     exact⟨v',K',w',r1,r2,by simpa[ids]using r3⟩
   · have hg:=hk.here (g,.cells cur E (0,0)) (by simp)
     have hgd:∀j u,cells[j]? =some u→w.cell? ((⟨g,0,none⟩:Addr).add j)=some u:=λj u hj=>by
      rw[add_lit,Nat.zero_add,cell_of_row w g j cur E (0,0) hg]
      rw[←e7,List.getElem?_take]at hj
      split at hj
      · simpa using hj
      · cases hj
     by_cases hroom:n+m≤cap
     · have hfit:n*i.size+news.length≤cur.size:=by
        rw[hs.newsLen,←Nat.add_mul];exact Nat.le_trans (Nat.mul_le_mul_right _ hroom) e6
       have hst:=run_storeCells_at P g (n*i.size) E news 0 cur w hg (by simpa using hfit) hs.one
       simp only[Nat.add_zero]at hst
       have hrun:(Builtin.append_ #[t,tx] ty #[.slice (some ⟨g,0,none⟩) n cap,y]).run P w=.ok (.slice (some ⟨g,0,none⟩) (n+m) cap) (w.setRow g (cur.toList.take (n*i.size)++news++cur.toList.drop (n*i.size+news.length)).toArray):=by
        rcases hs.kind with⟨e',hk'⟩|hk'<;>simp[Builtin.append_,run_underlying hu,run_underlying hk',sizeOf,typeInfo,hi,hs.len,hroom,hs.cells,Addr.add_lit,hst]
       obtain⟨C,hC⟩:∃C,C=(cur.toList.take (n*i.size)++news++cur.toList.drop (n*i.size+news.length)).toArray:=⟨_,rfl⟩
       rw[←hC]at hrun
       refine⟨_,[(g,.cells C E (0,0))],_,hrun,⟨hlen,.inr ⟨g,cap,C,rfl,rfl,e3,hroom,e5,?_,?_⟩⟩,by simpa[ids]using Mem.setRow ha hg (λo=>hk.apart (g,.cells cur E (0,0)) (by simp) o) _⟩
       · rw[hC];simp only[List.size_toArray,List.length_append,List.length_take,List.length_drop,Array.length_toList];omega
       · rw[hC,e7,←hlen];exact List.take_left
     · have hf:=run_firstCells_some (P:=P) w.drew i.size n ⟨g,0,none⟩ n cap cells h0 (by simpa using hgd)
       obtain⟨v',K',w',r1,r2,r3⟩:=grows (some ⟨g,0,none⟩) cap hf (by omega)
       refine⟨v',K',w',r1,r2,⟨r3.agr,r3.ok,⟨r3.kept.os,r3.kept.tape,r3.kept.output,r3.kept.size,r3.kept.drawn,λk hk' _=>r3.kept.block k hk' (by simp)⟩,λp hp=>.inr ((r3.fresh p hp).resolve_left (by simp)),r3.le,r3.grow,r3.soft⟩⟩
section ops
variable{ty:TypeId}{d:Nat}{pos:String}{aft:Array Edge}{v:Value}
theorem set_fold:∀(vs:List Value) (k off:Nat) (cells:Array Value),off+k+vs.length≤cells.size→
    ((vs.zipIdx k).foldl (λcs (c,j)=>cs.setIfInBounds (off+j) c) cells).toList=cells.toList.take (off+k)++vs++cells.toList.drop (off+k+vs.length)
  |[],k,off,cells,h=>by simp
  | v::vs,k,off,cells,h=>by
    simp only[List.length_cons]at h
    rw[List.zipIdx_cons,List.foldl_cons,set_fold vs (k+1) off _ (by simp;omega)]
    simp only[Array.toList_setIfInBounds]
    have:=list_seg_step cells.toList (off+k) v vs (by simpa using h)
    rw[←Nat.add_assoc,this]
    simp[Nat.add_assoc,Nat.add_comm 1]
theorem fill_parts{size:Nat}:∀(vs:List Value) (k:Nat) (cells:Array Value),(∀v∈vs,v.cells.size=size)→(k+vs.length)*size≤cells.size→
    Instr.fill (λi=>some (i*size,size)) cells ((List.range' k vs.length).zip vs)=some (cells.toList.take (k*size)++(vs.map (·.cells.toList)).flatten++cells.toList.drop ((k+vs.length)*size)).toArray
  |[],k,cells,_,h=>by simp[Instr.fill]
  | v ::vs,k,cells,hv,h=>by
    have h1:=hv v (by simp)
    simp only[List.length_cons]at h
    have h2:k*size+size≤cells.size:=by
      have:(k+(vs.length+1))*size=k*size+size+vs.length*size:=by simp[Nat.add_mul];omega
      omega
    have hf:(v.cells.zipIdx.foldl (λcs (c,j)=>cs.setIfInBounds (k*size+j) c) cells).toList=cells.toList.take (k*size)++v.cells.toList++cells.toList.drop (k*size+size):=by
      have:=set_fold v.cells.toList 0 (k*size) cells (by simp[h1];omega)
      simp only[Nat.add_zero,Array.length_toList,h1]at this
      rw[←this,←Array.foldl_toList]
      simp
    simp only[List.length_cons,List.range'_succ,List.zip_cons_cons,Instr.fill,h1,ne_eq,not_true,decide_false,Bool.false_or]
    rw[if_neg (by simp;omega)]
    have hsz:(v.cells.zipIdx.foldl (λcs (c,j)=>cs.setIfInBounds (k*size+j) c) cells).size=cells.size:=by
      rw[←Array.length_toList,hf];simp[h1];omega
    have ih:=fill_parts vs (k+1) (v.cells.zipIdx.foldl (λcs (c,j)=>cs.setIfInBounds (k*size+j) c) cells) (λu hu=>hv u (by simp[hu])) (by rw[hsz];rw[show k+1+vs.length=k+(vs.length+1) by omega];exact h)
    refine ih.trans ?_
    rw[hf]
    have e1:(k+1)*size=k*size+size:=by rw[Nat.add_mul];omega
    have e2:(k+1+vs.length)*size=k*size+size+vs.length*size:=by simp[Nat.add_mul]
    have e3:(k+(vs.length+1))*size=k*size+size+vs.length*size:=by simp[Nat.add_mul];omega
    have l1:(cells.toList.take (k*size)++v.cells.toList).length=k*size+size:=by simp[h1];omega
    rw[e1,e2,e3]
    congr 2
    rw[List.take_left' l1,List.drop_append,l1,List.drop_eq_nil_of_le (by rw[l1];omega)]
    simp[List.drop_drop,List.map_cons,List.flatten_cons]
theorem JL.bsl{α:Type}{R:Rep α}{t E n:Nat}{z:Value}{size bytes:Nat}{parts:Array (Nat×Operand)}{vs:List Value}{ls:List α}(hu:x.P.underlying t=some (.slice E))(he:eInfo x.P E=some (z,size,bytes))
    (hv:parts.toList.mapM (λp=>(evo l p.2).map (λu=>(p.1,u)))=some ((List.range' 0 vs.length).zip vs))(hs:vs.all (λu=>Nat.beq u.cells.size size)=true)(hf:Flat H R size (vs.map (·.cells.toList)).flatten ls)
    (hR1:R.One)(hn:n=vs.length)(hl:ls.length=vs.length)(hb:Nat.ble (n*size) 16777216=true)(hm:n≤maxLen)(hd:Nat.blt d x.n=true)
    (h:∀v' K',RowOf H R x.w0.heap.size E size v' ls K'→JL x ops Q rest ((d,v')::l) (K'::own) H):JL x ops Q (⟨some d,.buildSlice t n parts,ty,pos,aft,none⟩::rest) l own H:=λa w hh=>by
  simp only[wpLs,wanted_none,if_true]
  refine⟨λ_ _=>trivial,?_⟩
  have hone:=hf.one' hR1
  obtain⟨i,hi,hz,hsz,hby,hzs,hpos⟩:=eInfo_parts he
  have hparts:parts.map (fun(i,o)=>(i,a.eval o))=((List.range' 0 vs.length).zip vs).toArray:=by
    have key:∀(ps:List (Nat×Operand)) (us:List (Nat×Value)),ps.mapM (λp=>(evo l p.2).map (λu=>(p.1,u)))=some us→ps.map (fun(i,o)=>(i,a.eval o))=us:=by
      intro ps
      induction ps with
      |nil=>intro us e;simp at e;simp[e]
      | cons p ps ih=>
        intro us e
        simp only[List.mapM_cons]at e
        cases ho:evo l p.2 with
        |none=>simp[ho]at e
        | some u=>
          cases hos:ps.mapM (λp=>(evo l p.2).map (λu=>(p.1,u)))with
          |none=>simp[ho,hos]at e
          |some us'=>simp[ho,hos]at e;subst e;simp[eval_of hh ho,ih us' hos]
    rw[←Array.toList_inj];simpa using key _ _ hv
  have hall:∀u∈vs,u.cells.size=size:=λu hu=>by have:=List.all_eq_true.1 hs u hu;exact Nat.eq_of_beq_eq_true this
  obtain⟨C,hC⟩:∃C,C=((vs.map (·.cells.toList)).flatten).toArray:=⟨_,rfl⟩
  have hfl:((vs.map (·.cells.toList)).flatten).length=n*size:=by rw[hf.length,hl,hn]
  have hrun:(Instr.buildSlice t n (((List.range' 0 vs.length).zip vs).toArray)).run x.P w=.ok (.slice (some ⟨w.heap.size,0,none⟩) n n) (w.alloc (.cells C E (0,0))):=by
    have hfill:∀cells:Array Value,cells.size=n*size→Instr.fill (λi=>some (i*size,size)) cells ((List.range' 0 vs.length).zip vs)=some C:=λcells hc=>by
      rw[fill_parts vs 0 cells hall (by rw[hc,hn];simp),hC]
      have:cells.toList.drop ((0+vs.length)*size)= []:=List.drop_eq_nil_of_le (by rw[Array.length_toList,hc,hn];simp)
      rw[this];simp
    have h24:¬(n*i.size>2^24):=by have:=Nat.le_of_ble_eq_true hb;rw[hsz];omega
    subst hsz
    simp only[Instr.buildSlice,Sem.run_bind,run_underlying hu,Result.andThen,Go.sizeOf,typeInfo,run_program,hi,Sem.run_pure,if_neg h24]
    by_cases h0:n*i.size=0
    · simp only[h0,if_true,Sem.run_bind,Sem.run_pure,Result.andThen,List.toList_toArray]
      have:=hfill (Array.map (λx=>(#[]:Array Value)[x%(#[]:Array Value).size]!) (Array.range (n*i.size))) (by simp)
      simp only[h0]at this
      simp only[this,newRow,Sem.run_bind,run_newObj_alloc,Result.andThen,Sem.run_pure]
    · simp only[h0,if_false,Sem.run_bind,run_zeroValue (show zeroOf x.P E=some z by simp[zeroOf,hi,hz]),Result.andThen,Sem.run_pure,List.toList_toArray]
      have:=hfill (Array.map (λk=>z.cells[k%z.cells.size]!) (Array.range (n*i.size))) (by simp)
      simp only[this,newRow,Sem.run_bind,run_newObj_alloc,Result.andThen,Sem.run_pure]
  have hrun':(execOp a.eval ⟨some d,.buildSlice t n parts,ty,pos,aft,none⟩).run x.P w=.ok (.value (.slice (some ⟨w.heap.size,0,none⟩) n n)) (w.alloc (.cells C E (0,0))):=by
    simp only[execOp,hparts]
    exact run_v hrun
  rw[semAt_of rfl,hrun']
  refine h _ [(w.heap.size,.cells C E (0,0))] ⟨(vs.map (·.cells.toList)).flatten,⟨hf.length,.inr ⟨w.heap.size,n,C,by rw[hl,hn],rfl,hh.mem.kept.size,by rw[hl,hn];exact Nat.le_refl _,hm,?_,?_⟩⟩,hf,hone⟩ _ _ (Holds.put (x:=x) (l:=l) ?_ hd _)
  · rw[hC];simp only[List.size_toArray];exact Nat.le_of_eq hfl.symm
  · rw[hC,hl,←hn,←hfl,List.toList_toArray];exact List.take_length
  · exact⟨hh.size,hh.ds,hh.slots,by simpa using hh.mem.go0 (K':=[[(w.heap.size,.cells C E (0,0))]]) (by simpa using Mem.alloc hh.mem.agr (.cells C E (0,0)))⟩
end ops
theorem JL.seg0 (h:JL x ops Q rest l ([]::own) H):JL x ops Q rest l own H:=λa w hh=>h a w ⟨hh.size,hh.ds,hh.slots,by simpa using hh.mem⟩
theorem JC.seg0{c:Code}(h:JC x c Q l ([]::own) H):JC x c Q l own H:=λa w hh=>h a w ⟨hh.size,hh.ds,hh.slots,by simpa using hh.mem⟩
theorem JN.seg0{K:Act→World→Prop}(h:JN x K l ([]::own) H):JN x K l own H:=λa w hh=>h a w ⟨hh.size,hh.ds,hh.slots,by simpa using hh.mem⟩
theorem Holds.forget{i:Nat}{a:Act}{w:World}(hh:Holds x l own H a w):Holds x l (own.eraseIdx i) H a w:=by
  refine⟨hh.size,hh.ds,hh.slots,?_⟩
  have key:∀(o:List Own) (i:Nat),(o.eraseIdx i).flatten.Sublist o.flatten:=by
    intro o
    induction o with
    |nil=>intro i;simp
    | cons s o ih=>
      intro i
      cases i with
      |zero=>simp
      |succ i=>simpa using ih i
  have hs:=key own i
  exact⟨hh.mem.agr,⟨λp hp=>hh.mem.ok.here p (hs.subset hp),(hs.map _).nodup hh.mem.ok.nodup,λp hp=>hh.mem.ok.apart p (hs.subset hp)⟩,hh.mem.kept,λp hp=>hh.mem.fresh p (hs.subset hp),hh.mem.le,hh.mem.grow,hh.mem.soft⟩
theorem JN.forget{K:Act→World→Prop}(i:Nat)(h:JN x K l (own.eraseIdx i) H):JN x K l own H:=λa w hh=>h a w hh.forget
theorem JC.forget{c:Code}(i:Nat)(h:JC x c Q l (own.eraseIdx i) H):JC x c Q l own H:=λa w hh=>h a w hh.forget
theorem JL.forget (i:Nat)(h:JL x ops Q rest l (own.eraseIdx i) H):JL x ops Q rest l own H:=λa w hh=>h a w hh.forget
theorem Mem.pub{w0:World}{H0:Heaplet}{S:List Nat}{w:World}{i g:Nat}{cur:Array Value}{t:TypeId}(hm:Mem w0 H0 S own.flatten H w)(hi:own[i]? =some [(g,.cells cur t (0,0))])(hg:w0.heap.size≤g):
 Mem w0 H0 S (own.set i []).flatten (λb o=>if b=g then cur[o]? else H b o) w:=by
 have hp:=flatten_perm hi
 have hp':=flatten_set_perm (seg':=[]) hi
 have hok:=hm.ok.perm hp
 have hgh:=hok.here (g,.cells cur t (0,0)) (by simp)
 have hgn:∀o,H g o=none:=λo=>hok.apart (g,.cells cur t (0,0)) (by simp) o
 have hrest:∀p∈(own.eraseIdx i).flatten,p.1≠g:=λp hp1 e=>by
  have:=hok.nodup
  simp only[ids,List.cons_append,List.nil_append,List.map_cons,List.nodup_cons]at this
  exact this.1 (e▸List.mem_map_of_mem hp1)
 have hle:Hle H (λb o=>if b=g then cur[o]? else H b o):=λb o v e=>by
  by_cases hb:b=g
  · subst hb;rw[hgn]at e;cases e
  · simp[hb,e]
 refine⟨λb o v e=> ?_,⟨λp hp1=> ?_,?_,λp hp1 o=> ?_⟩,hm.kept,λp hp1=> ?_,hm.le.trans hle,λb o hb=> ?_,λb o v h0 h1=> ?_⟩
 · by_cases hb:b=g
   · subst hb;simp at e;rw[cell_of_row w b o cur t (0,0) hgh];exact e
   · simp[hb]at e;exact hm.agr b o v e
 · have:=hp'.mem_iff.1 hp1;simp at this;exact hok.here p (by simp[this])
 · refine((hp'.map _).nodup_iff).2 ?_
   have:=hok.nodup
   simp only[ids,List.cons_append,List.nil_append,List.map_cons,List.nodup_cons]at this
   simpa using this.2
 · have:=hp'.mem_iff.1 hp1;simp at this
   have hne:=hrest p (by simpa using this)
   simp[hne];exact hok.apart p (by simp[this]) o
 · have:=hp'.mem_iff.1 hp1;simp at this;exact hm.fresh p (hp.mem_iff.2 (by simp[this]))
 · have:b≠g:=by omega
   simp[this,hm.grow b o hb]
 · by_cases hb:b=g
   · subst hb;exact⟨cur,t,hgh⟩
   · simp only[if_neg hb]at h1;exact hm.soft b o v h0 h1
theorem Holds.pub{α:Type}{R:Rep α}(hR:R.Mono){i:Nat}{K:Own}{B:Nat}{E:TypeId}{size:Nat}{v:Value}{ls:List α}(hi:own[i]? =some K)(hr:RowOf H R B E size v ls K)(hB:x.w0.heap.size≤B)
 {a:Act}{w:World}(hh:Holds x l own H a w):∃H',Hle H H'∧IsSlice H' R size v ls∧Holds x l (own.set i []) H' a w:=by
 obtain⟨cells,⟨h0,h1⟩,hf,ho⟩:=hr
 rcases h1 with⟨rfl,h3,rfl⟩|⟨g,cap,cur,rfl,rfl,e3,e4,e5,e6,e7⟩
 · have:ls= []:=List.length_eq_zero_iff.1 h3
   subst this
   exact⟨H,Hle.refl _,IsSlice.nil _ _ _,hh.size,hh.ds,hh.slots,by
    have e:own.set i []=own:=by
     apply List.ext_getElem?
     intro j
     rw[List.getElem?_set]
     split
     · rename_i hj;subst hj;rw[hi];split
       · rfl
       · rename_i hlt;have:=(List.getElem?_eq_some_iff.1 hi).1;omega
     · rfl
    rw[e];exact hh.mem⟩
 · have hm:=Mem.pub hh.mem hi (Nat.le_trans hB e3)
   have hgn:∀o,H g o=none:=λo=>(own_here hh.mem hi).apart (g,.cells cur E (0,0)) (by simp) o
   have hle:Hle H (λb o=>if b=g then cur[o]? else H b o):=λb o v e=>by
    by_cases hb:b=g
    · subst hb;rw[hgn]at e;cases e
    · simp[hb,e]
   refine⟨_,hle,?_,hh.size,hh.ds,hh.slots,hm⟩
   refine IsSlice.of_cells (hf.mono hR hle) e4 e5 (λj u hj=> ?_)
   rw[←e7,List.getElem?_take]at hj
   split at hj
   · simpa using hj
   · cases hj
theorem JL.pub{α:Type}{R:Rep α}(i:Nat)(hR:R.Mono){K:Own}{B:Nat}{E:TypeId}{size:Nat}{v:Value}{ls:List α}(hi:own[i]? =some K)(hr:RowOf H R B E size v ls K)(hB:x.w0.heap.size≤B)
 (h:∀H',Hle H H'→IsSlice H' R size v ls→JL x ops Q rest l (own.set i []) H'):JL x ops Q rest l own H:=λa w hh=>by
 obtain⟨H',h1,h2,h3⟩:=hh.pub hR hi hr hB;exact h H' h1 h2 a w h3
end Go.Ow
namespace Go.Ow
open Go.RowKit
variable{x:Cx}{ops:Array Oper}{Q:Exit→Act→World→Prop}{rest:List Oper}{l:Slots}{own:List Own}{H:Heaplet}
theorem IsSlice.val{α:Type}{R:Rep α}{size:Nat}{v:Value}{m:List α}(h:IsSlice H R size v m):∃ao cap,v=.slice ao m.length cap:=by
 obtain⟨ao,cap,e,_⟩:=h;exact⟨ao,cap,e⟩
theorem RowOf.val{α:Type}{R:Rep α}{B:Nat}{E:TypeId}{size:Nat}{v:Value}{ls:List α}{K:Own}(h:RowOf H R B E size v ls K):∃ao cap,v=.slice ao ls.length cap:=by
 obtain⟨ao,cap,e,_⟩:=h.len;exact⟨ao,cap,e⟩
theorem IsSlice.sub{α:Type}{R:Rep α}{size:Nat}{ao:Option Addr}{n cap:Nat}{m:List α}(h:IsSlice H R size (.slice ao n cap) m)(lo hi mx:Nat)(h1:lo≤hi)(h2:hi≤m.length)(h3:hi≤mx)(h4:mx≤cap):
    IsSlice H R size (sliced ao lo hi mx size) ((m.drop lo).take (hi-lo)):=by
  obtain⟨ao',cap',e,e1,e2,e3,e4,e5⟩:=h
  simp only[Value.slice.injEq]at e
  obtain⟨rfl,rfl,rfl⟩:=e
  have hlen:((m.drop lo).take (hi-lo)).length=hi-lo:=by simp;omega
  unfold sliced
  refine⟨if mx=lo then ao else ao.map (·.add (lo*size)),mx-lo,by rw[hlen],by rw[hlen];omega,by omega,?_,?_,?_⟩
  · intro a ha
    split at ha
    · rename_i hc;exact .inl (by omega)
    · rename_i hc
      cases ao with
      |none=>simp at ha
      | some b=>
        simp at ha;subst ha
        have h9:=(e3 b rfl).resolve_left (by omega)
        right
        unfold Addr.add;split
        · exact h9
        · rfl
  · intro ha
    split at ha
    · rename_i hc;omega
    · cases ao with
      |none=>have:=e4 rfl;omega
      |some b=>simp at ha
  · intro i y hy
    have hi':i<hi-lo:=by have:=(List.getElem?_eq_some_iff.1 hy).1;omega
    rw[List.getElem?_take]at hy
    simp[hi',List.getElem?_drop]at hy
    obtain⟨b,o,cs,rfl,f1,f2,f3⟩:=e5 (lo+i) y hy
    have hne:¬mx=lo:=by omega
    refine⟨b,o+lo*size,cs,by simp[hne],f1,f2,λj u hj=> ?_⟩
    have:=f3 j u hj
    rw[Nat.add_mul]at this
    rw[show o+lo*size+i*size+j=o+(lo*size+i*size)+j by omega];exact this
theorem elem_of{P:Program}{t e:TypeId}(h:P.underlying t=some (.slice e)):P.underlying t=some (.slice (P.elem t))∧P.elem t=e:=by
 have:P.elem t=e:=by simp[Program.elem,h]
 exact⟨by rw[this];exact h,this⟩
section ops
variable{ty:TypeId}{d:Nat}{pos:String}{aft:Array Edge}{v:Value}{α:Type}{R:Rep α}{size:Nat}{g:Bool}{t e:TypeId}{ao:Option Addr}{n cap:Nat}{m:List α}{p:Operand}
def bnd (l:Slots)(o:Option Operand)(dflt:Nat)(k:Nat):Prop:=
 match o with
 |none=>k=dflt
 |some q=>∃kk i,evo l q=some (.int kk i)∧i=(k:Int)
theorem run_slc{P:Program}(hu:P.underlying t=some (.slice e))(hs:shapeOf P e=some (g,size))(ρ:Operand→Value){l:Slots}(hρ:∀o u,evo l o=some u→ρ o=u)(lo hi mx:Option Operand)(a b c:Nat)
 (h1:bnd l lo 0 a)(h2:bnd l hi n b)(h3:bnd l mx cap c)(hab:a≤b)(hbc:b≤c)(hc:c≤cap)(hmx:mx=none∨hi≠none)(w:World):
 (Instr.sliceAt t (.slice ao n cap) (lo.map ρ) (hi.map ρ) (mx.map ρ)).run P w=.ok (sliced ao a b c size) w:=by
 obtain⟨hu',he⟩:=elem_of hu
 have hsz:=run_sizeOf hs w
 rw[run_sliceAt_slice _ _ _ _ _ _ hu']
 rcases lo with _|lo<;>rcases hi with _|hi<;>rcases mx with _|mx<;>simp only[bnd]at h1 h2 h3
 · subst h1 h2 h3;simp only[Option.map_none];rw[run_slice_all (ht:=hu'),he,hsz];rfl
 · rcases hmx with h|h<;>simp at h
 · obtain⟨k2,i2,f2,rfl⟩:=h2;subst h1 h3
   simp only[Option.map_none,Option.map_some,hρ _ _ f2];rw[run_slice_h (ht:=hu') (h0:=by omega) (h2:=by omega),he,hsz];rfl
 · obtain⟨k2,i2,f2,rfl⟩:=h2;obtain⟨k3,i3,f3,rfl⟩:=h3;subst h1
   simp only[Option.map_none,Option.map_some,hρ _ _ f2,hρ _ _ f3];rw[run_slice_hm (ht:=hu') (h0:=by omega) (h2:=by omega) (h3:=by omega),he,hsz];rfl
 · obtain⟨k1,i1,f1,rfl⟩:=h1;subst h2 h3
   simp only[Option.map_none,Option.map_some,hρ _ _ f1];rw[run_slice_l (ht:=hu') (h0:=by omega) (h1:=by omega),he,hsz];rfl
 · rcases hmx with h|h<;>simp at h
 · obtain⟨k1,i1,f1,rfl⟩:=h1;obtain⟨k2,i2,f2,rfl⟩:=h2;subst h3
   simp only[Option.map_none,Option.map_some,hρ _ _ f1,hρ _ _ f2];rw[run_slice_lh (ht:=hu') (h0:=by omega) (h1:=by omega) (h2:=by omega),he,hsz];rfl
 · obtain⟨k1,i1,f1,rfl⟩:=h1;obtain⟨k2,i2,f2,rfl⟩:=h2;obtain⟨k3,i3,f3,rfl⟩:=h3
   simp only[Option.map_some,hρ _ _ f1,hρ _ _ f2,hρ _ _ f3];rw[run_slice_lhm (ht:=hu') (h0:=by omega) (h1:=by omega) (h2:=by omega) (h3:=by omega),he,hsz];rfl
def bs (l:List UInt8):ByteArray:=⟨l.toArray⟩
theorem foldl_push (ls:List UInt8):∀acc:ByteArray,(ls.map (λb=>(b.toNat:Int))).foldl (λr n=>r.push (UInt8.ofNat n.toNat)) acc=⟨acc.data++ls.toArray⟩:=by
  induction ls with
  |nil=>intro acc;simp
  | cons b ls ih=>
    intro acc
    simp only[List.map_cons,List.foldl_cons]
    rw[ih]
    simp[ByteArray.push,Array.push_append]
theorem run_toStr{P:Program}{w:World}{s t e:TypeId}(hs:P.underlying s=some (.slice e))(he:P.underlying e=some (.int .u8))(ht:P.underlying t=some .string){v:Value}{lb:List UInt8}
 (hv:∃ao cap,v=.slice ao lb.length cap∧(lb= []∨∃b o,ao=some ⟨b,o,none⟩∧∀j u,(bvs lb)[j]? =some u→w.cell? ⟨b,o+j,none⟩=some u)):
 (convert s t v).run P w=.ok (.string (bs lb)) w:=by
 obtain⟨ao,cap,rfl,hc⟩:=hv
 rw[run_convert_bytes_string w s t e ao lb.length cap hs he ht]
 have hload:∀a,(∀j u,(bvs lb)[j]? =some u→w.cell? (a.add j)=some u)→(Conv.bytesToString (.slice (some a) lb.length cap)).run P w=.ok (.string (bs lb)) w:=λa ha=>by
  have h:=run_loadCells_list (P:=P) (w:=w) a (bvs lb) ha
  rw[show(bvs lb).length=lb.length by simp[bvs]]at h
  rw[run_bytesToString w a lb.length cap (lb.map λb=>(b.toNat:Int)) (by rw[h];simp[bvs])]
  rw[foldl_push];simp[bs]
 rcases hc with rfl|⟨b,o,rfl,hc⟩
 · cases ao with
   |none=>simp[Conv.bytesToString,bs,go_sem];rfl
   |some a=>exact hload a (λj u h=>by simp[bvs]at h)
 · exact hload ⟨b,o,none⟩ (λj u h=>by rw[add_lit];exact hc j u h)
theorem bs_eq (a b:List UInt8):((bs a).toList==(bs b).toList)=decide (a=b):=by
 simp only[bs,ByteArray.toList_mk];rw[Bool.eq_iff_iff];simp
theorem flat_replicate{α:Type}{R:Rep α}{size:Nat}{z:List Value}{y:α}(hz:R H z y)(hl:z.length=size):∀n,Flat H R size (List.replicate n z).flatten (List.replicate n y)
 |0=>rfl
 |n+1=>⟨z,(List.replicate n z).flatten,rfl,hl,hz,flat_replicate hz hl n⟩
theorem madeCells_flat (z:Array Value)(n:Nat)(hz:0<z.size):(madeCells z (n*z.size)).toList=(List.replicate n z.toList).flatten:=by
  unfold madeCells
  induction n with
  |zero=>simp
  | succ n ih=>
    rw[List.replicate_succ',List.flatten_append,←ih]
    simp only[List.flatten_cons,List.flatten_nil,List.append_nil]
    rw[show(n+1)*z.size=n*z.size+z.size by rw[Nat.add_mul];omega]
    apply List.ext_getElem?
    intro j
    simp only[Array.toList_map,Array.toList_range,List.getElem?_map,List.getElem?_append,List.length_map,List.length_range]
    by_cases h1:j<n*z.size
    · have h2:j<n*z.size+z.size:=by omega
      simp[h1,h2,List.getElem?_range]
    · by_cases h2:j<n*z.size+z.size
      · have e:j%z.size=j-n*z.size:=by
          have:j=(j-n*z.size)+n*z.size:=by omega
          rw[this,Nat.add_mul_mod_self_right,Nat.mod_eq_of_lt (by omega)];omega
        have h3:j-n*z.size<z.size:=by omega
        simp[h1,h2,List.getElem?_range,e,h3]
      · have h3:¬j-n*z.size<z.size:=by omega
        simp[h1,h2,List.getElem?_range,h3]
theorem JL.mk{E:TypeId}{z:Value}{bytes N:Nat}{q:Operand}{kl kc:IntKind}{y:α}(hu:x.P.underlying t=some (.slice E))(he:eInfo x.P E=some (z,size,bytes))(h1:evo l p=some (.int kl N))(h2:evo l q=some (.int kc N))
 (hR:R H z.cells.toList y)(hR1:R.One)(hb:bytes*N≤281474976710656)(hm:N≤maxLen)(hd:Nat.blt d x.n=true)
 (h:∀ao cap K',RowOf H R x.w0.heap.size E size (.slice ao N cap) (List.replicate N y) K'→JL x ops Q rest ((d,.slice ao N cap)::l) (K'::own) H):JL x ops Q (⟨some d,.makeSlice t p q,ty,pos,aft,none⟩::rest) l own H:=λa w hh=>by
 simp only[wpLs,wanted_none,if_true]
 refine⟨λ_ _=>trivial,?_⟩
 obtain⟨i,hi,hz,hsz,hby,hzs,hpos⟩:=eInfo_parts he
 subst hsz;subst hby
 have hb':(i.bytes:Int)*(N:Int)≤281474976710656:=by
  have h:((i.bytes*N:Nat):Int)≤281474976710656:=by omega
  rwa[Int.natCast_mul]at h
 have hrun:=run_make (P:=x.P) w t E i z hu hi hz kl kc N N (by omega) (Int.le_refl _) hb' (by simp only[maxLen]at hm;omega)
 simp only[Int.toNat_natCast]at hrun
 have e1:=eval_of hh h1
 have e2:=eval_of hh h2
 generalize a.eval=ρ at e1 e2
 have hrun':(execOp ρ ⟨some d,.makeSlice t p q,ty,pos,aft,none⟩).run x.P w=.ok (.value (.slice (some ⟨w.heap.size,0,none⟩) N N)) (w.alloc (.cells (madeCells z.cells (N*i.size)) E)):=by
  simp only[execOp,e1,e2];exact run_v hrun
 rw[semAt_of rfl,hrun']
 have hmc:(madeCells z.cells (N*i.size)).toList=(List.replicate N z.cells.toList).flatten:=by rw[←hzs];exact madeCells_flat z.cells N (by omega)
 have hfl:=flat_replicate (R:=R) (H:=H) (size:=i.size) hR (by simpa using hzs) N
 refine h _ _ [(w.heap.size,.cells (madeCells z.cells (N*i.size)) E (0,0))] ⟨(List.replicate N z.cells.toList).flatten,⟨by rw[hfl.length],.inr ⟨w.heap.size,N,_,by simp,rfl,hh.mem.kept.size,by simp,hm,?_,?_⟩⟩,hfl,hfl.one' hR1⟩ _ _ (Holds.put (x:=x) (l:=l) ?_ hd _)
 · rw[←Array.length_toList,hmc,hfl.length];simp
 · rw[hmc];simp only[List.length_replicate];rw[List.take_of_length_le (by rw[hfl.length];simp)]
 · exact⟨hh.size,hh.ds,hh.slots,by simpa using hh.mem.go0 (K':=[[(w.heap.size,.cells (madeCells z.cells (N*i.size)) E (0,0))]]) (by simpa using Mem.alloc hh.mem.agr (.cells (madeCells z.cells (N*i.size)) E (0,0)))⟩
end ops
end Go.Ow
namespace Go.Ow
open Go.RowKit
variable{x:Cx}{ops:Array Oper}{Q:Exit→Act→World→Prop}{rest:List Oper}{l:Slots}{own:List Own}{H:Heaplet}
theorem Mem.putObj{w:World}{H:Heaplet}{b:Nat}{o:Obj}(ha:Agrees H w)(hb:w.heap[b]? =some o)(hap:∀k,H b k=none)(o':Obj):
 Mem w H [b] [(b,o')] H (w.putObj b o'):=by
 have hlt:=(Array.getElem?_eq_some_iff.1 hb).1
 refine⟨λb' off v e=> ?_,⟨?_,by simp[ids],λp hp off=> ?_⟩,⟨rfl,rfl,rfl,by simp,Nat.le_refl _,λk hk hn=>World.putObj_heap_other (by simpa using hn)⟩,λp hp=>.inl (by simp at hp;simp[hp]),Hle.refl _,λ_ _ _=>rfl,Mem.soft0⟩
 · have:=ha b' off v e
   rw[World.cell?_of_block (w:=w) (World.putObj_heap_other (λe'=>by have e'':b'=b:=e';subst e'';rw[hap]at e;cases e))];exact this
 · intro p hp;simp at hp;subst hp;exact World.putObj_heap_same hlt
 · simp at hp;subst hp;exact hap off
def Yields (P:Program)(lr:Nat)(args:Array Value)(w:World)(Rr:Ending→World→Prop):Prop:=
 ∃fn tmps assign body,(Instr.yield lr args).run P w=.ok (.round lr fn tmps assign body) w∧RoundIn Fence.wide 0 P lr fn tmps assign body w Rr
abbrev RepA (α:Type):=List α→Heaplet→Array Value→α→Prop
def YSpec{α:Type}(P:Program)(lr:Nat)(RA:RepA α)(I X:List α→List Own→Heaplet→Prop):Prop:=
  ∀ pre y args o H w,I pre o H→RA pre H args y→Agrees H w→OwnOk H o.flatten w→
    Yields P lr args w λe w'=>∃b o' H',e=.returned (.bool b)∧Mem w H (ids o.flatten) o'.flatten H' w'∧(if b then I (pre++ [y]) o' H' else X (pre++ [y]) o' H')
def Iter{α:Type}(P:Program)(f:FuncId)(cap:Array Value)(H:Heaplet)(RA:RepA α)(S Sp:List α→Prop):Prop:=
  ∀ lr I X o,YSpec P lr RA I X→I [] o H→
    Does P f (#[.func (.yield lr) #[] #[]]++cap) o H (λ_ K' H'=>Hle H H'∧((∃xs,S xs∧I xs K' H')∨(∃xs,Sp xs∧X xs K' H')))
section ops
variable{ty:TypeId}{d:Nat}{pos:String}{aft:Array Edge}{v:Value}
theorem JL.yield{α:Type}{RA:RepA α}{I X:List α→List Own→Heaplet→Prop}{lr:Nat}{c:Operand}{as:Array Operand}{ts:Array TypeId}{vs:List Value}{mine o:List Own}{pre:List α}(y:α)
 (hY:YSpec x.P lr RA I X)(hc:evo l c=some (.func (.yield lr) #[] #[]))(ha:as.toList.mapM (evo l)=some vs)(hI:I pre o H)(hy:RA pre H vs.toArray y)(hown:own=mine++o)(hd:Nat.blt d x.n=true)
 (hT:∀o' H',Hle H H'→I (pre++ [y]) o' H'→JL x ops Q rest ((d,.bool true)::l) (mine++o') H')
 (hF:∀o' H',Hle H H'→X (pre++ [y]) o' H'→JL x ops Q rest ((d,.bool false)::l) (mine++o') H'):
 JL x ops Q (⟨some d,.call ⟨.value c,as,ts⟩,ty,pos,aft,none⟩::rest) l own H:=λa w hh=>by
 subst hown
 simp only[wpLs,wanted_none,if_true]
 refine⟨λ_ _=>trivial,?_⟩
 have hm:=hh.mem
 rw[List.flatten_append]at hm
 have hok:=OwnOk.right hm.ok
 obtain⟨fn,tmps,assign,body,hrun0,hround⟩:=hY pre y vs.toArray o H w hI hy hm.agr hok
 have hrun:(execOp a.eval ⟨some d,.call ⟨.value c,as,ts⟩,ty,pos,aft,none⟩).run x.P w=.ok (.round lr fn tmps assign body) w:=by
  have e1:=eval_of hh hc
  have e2:=mapM_eval (λo u e=>eval_of hh e) ha
  simp only[execOp,resolve,e1,e2,Deferred.ofValue,Sem.run_bind,Sem.run_pure,Result.andThen,invoke]
  simpa using hrun0
 rw[semAt_of rfl,hrun]
 show(_→_)∧RoundIn _ _ _ _ _ _ _ _ _ _
 refine⟨λe=>by simp[Fw]at e,?_⟩
 refine RoundIn.mono (show RoundIn (Fw x.r) (0-1) x.P lr fn tmps assign body w _ from hround) ?_
 rintro e w' ⟨b,o',H',rfl,hm',hb⟩
 have hm2:Mem x.w0 x.H0 x.S (mine++o').flatten H' w':=by
  rw[List.flatten_append]
  exact(hm.go (K:=o.flatten) (rst:=mine.flatten) List.perm_append_comm hm').perm List.perm_append_comm
 cases b with
 |true=>exact hT o' H' hm'.le (by simpa using hb) _ _ (Holds.put (x:=x) (l:=l) ⟨hh.size,hh.ds,hh.slots,hm2⟩ hd _)
 |false=>exact hF o' H' hm'.le (by simpa using hb) _ _ (Holds.put (x:=x) (l:=l) ⟨hh.size,hh.ds,hh.slots,hm2⟩ hd _)
end ops
def RoundQ{α:Type}(I:List α→List Own→Heaplet→Prop)(X:Code→List α→List Own→Heaplet→Prop)(xs:List α)(wb:World)(Hb:Heaplet)(S:List Nat):Exit→Act→World→Prop
 | .normal,_,w=>∃o' H',Mem wb Hb S o'.flatten H' w∧I xs o' H'
 | .ret,_,w=>∃o' H',Mem wb Hb S o'.flatten H' w∧X .ret xs o' H'
 | .exit id,_,w=>∃o' H',Mem wb Hb S o'.flatten H' w∧X (.exit id) xs o' H'
 | .goto t,_,w=>∃o' H',Mem wb Hb S o'.flatten H' w∧X (.goto t) xs o' H'
 |_,_,_=>False
def mark (D:Nat):Deferred:={target:=.collected D,args:=#[]}
theorem puts_holds{x:Cx}{own:List Own}{H:Heaplet}{w:World}(n:Nat):∀(ps:List Tmp) (vs:List Value) (t:Array Value) (l:Slots),t.size=n→ps.all (λp=>Nat.blt p n)=true→
    (∀i v,lk l i=some v→(t[i]?).getD undef=v)→
    ((ps.zip vs).foldl (λt (p,v)=>t.setIfInBounds p v) t).size=n∧
    ∀i v,lk ((ps.zip vs).reverse++l) i=some v→(((ps.zip vs).foldl (λt (p,v)=>t.setIfInBounds p v) t)[i]?).getD undef=v
  |[],_,t,l,hn,_,hl=>by simpa using⟨hn,hl⟩
  |p::ps,[],t,l,hn,_,hl=>by simpa using⟨hn,hl⟩
  | p ::ps,u::vs,t,l,hn,hps,hl=>by
    simp only[List.all_cons,Bool.and_eq_true]at hps
    have hp:p<t.size:=by rw[hn];exact Nat.lt_of_lt_of_le (Nat.lt_succ_self p) (Nat.le_of_ble_eq_true hps.1)
    have:=puts_holds (x:=x) (own:=own) (H:=H) (w:=w) n ps vs (t.setIfInBounds p u) ((p,u)::l) (by simpa using hn) hps.2 (λi v e=>by
      simp only[lk]at e
      cases hb:Nat.beq p i with
      | true=>
        have:p=i:=Nat.eq_of_beq_eq_true hb
        subst this;rw[hb]at e;simp at e;subst e
        simp[hp]
      | false=>
        have:p≠i:=by intro h;subst h;simp at hb
        rw[hb]at e
        have:=hl i v e
        simp[Array.getElem?_setIfInBounds, *])
    simpa using this
theorem JC.rangeFunc{α:Type}(hr:x.r=none){g:Operand}{ps:Array Tmp}{assign body:Code}{gf:FuncId}{cap:Array Value}{RA:RepA α}{S Sp:List α→Prop}
    (hg:evo l g=some (.func (.func gf) #[] cap))(he:Enters x.P gf)(hit:Iter x.P gf cap H RA S Sp)(hps:∀pre H args y,RA pre H args y→args.size=ps.size)(hlt:ps.toList.all (λp=>Nat.blt p x.n)=true)
    (I:List α→List Own→Heaplet→Prop)(X:Code→List α→List Own→Heaplet→Prop)(h0:I [] own H)
    (hround:∀(lr:Nat) (pre:List α) (y:α) (args:Array Value) (o:List Own) (H':Heaplet),I pre o H'→RA pre H' args y→∃L1:Slots,
      (∀wb,x.w0.heap.size≤wb.heap.size→JC {x with r:=some lr,w0:=wb,H0:=H',S:=ids o.flatten,ds:=[]} assign
        (Exit.then (λa w=>Holds {x with r:=some lr,w0:=wb,H0:=H',S:=ids o.flatten,ds:=[]} L1 o H' a w) (λ_ _ _=>False)) ((ps.toList.zip args.toList).reverse++l) o H')∧
      (∀wb,x.w0.heap.size≤wb.heap.size→JC {x with r:=some lr,w0:=wb,H0:=H',S:=ids o.flatten,ds:=[]} body (RoundQ I X (pre++ [y]) wb H' (ids o.flatten)) L1 o H'))
    (hdone:∀(D:Nat) (xs:List α) (o:List Own) (H':Heaplet),x.w0.heap.size≤D→S xs→I xs o H'→Hle H H'→JN {x with ds:=mark D::x.ds} (Q .normal) l ([(D,.deferred (some []))]::o) H')
    (hstop:∀(D:Nat) (c:Code) (xs:List α) (o:List Own) (H':Heaplet),x.w0.heap.size≤D→Sp xs→X c xs o H'→Hle H H'→JC {x with ds:=mark D::x.ds} c Q l ([(D,.deferred (some []))]::o) H'):
    JC x (.rangeFunc g ps assign body) Q l own H:=λa w hh=>by
  have hFw:Fw x.r=Fence.wide:=by rw[hr];rfl
  rw[hFw]
  refine wpIn_rangeFunc ?_
  intro fn hfn
  -- the two blocks
  obtain⟨rec,hrec⟩:∃rec:LoopState→Option Code→Loop,rec=λst pe=>{state:=st,pending:=pe,fn,tmps:=a.tmps,params:=ps,assign,body,defers:=w.heap.size}:=⟨_,rfl⟩
  have hm1:=hh.mem.go0 (K':=[[(w.heap.size,.deferred (some []))]]) (by simpa using Mem.alloc hh.mem.agr (.deferred (some [])))
  have hm2:=hm1.go0 (K':=[[((w.alloc (.deferred (some []))).heap.size,.loop (rec .ready none))]]) (by simpa using Mem.alloc hm1.agr (.loop (rec .ready none)))
  have hsz:(w.alloc (.deferred (some []))).heap.size=w.heap.size+1:=by simp
  rw[hsz]at hm2
  obtain⟨W,hW⟩:∃W,W=(w.alloc (.deferred (some []))).alloc (.loop (rec .ready none)):=⟨_,rfl⟩
  rw[←hW]at hm2
  let D:=w.heap.size
  let lr:=w.heap.size+1
  have hD:D≠lr:=by simp[D,lr]
  -- the invariant with its two blocks of book-keeping
  let tail:LoopState→Option Code→List Own:=λst pe=> [[(lr,Obj.loop (rec st pe))],[(D,Obj.deferred (some []))]]
  let I':List α→List Own→Heaplet→Prop:=λxs o' H'=>∃o,o'=tail .ready none++o∧I xs o H'∧Hle H H'
  let X':List α→List Own→Heaplet→Prop:=λxs o' H'=>∃o c,o'=tail .done (some c)++o∧X c xs o H'∧Hle H H'
  refine⟨lr,[mark D],W,{target:=.fn (.func gf) cap,args:=#[.func (.yield lr) #[] #[]]},W,gf,#[.func (.yield lr) #[] #[]]++cap,W,?_,?_,λ_ _=>trivial,?_,λe=>by simp[Fence.wide]at e,?_⟩
  · rw[hW,hrec];exact run_enterLoop_outer _ _ _ _ _
  · have e1:=eval_of hh hg
    simp only[resolve,e1]
    simp[go_sem,Act.eval,Deferred.ofValue,lr]
  · simp only[invoke];exact he _ _
  · have hY : YSpec x.P lr RA I' X':=by
      rintro pre y args o' H' w1 ⟨o,rfl,hI,hle⟩ hy hag hok
      have hsize:=hps _ _ _ _ hy
      have hrecs:w1.heap[lr]? =some (.loop (rec .ready none)):=hok.here (lr,Obj.loop (rec .ready none)) (by simp[tail])
      have hapr:∀k,H' lr k=none:=λk=>hok.apart (lr,Obj.loop (rec .ready none)) (by simp[tail]) k
      have hyld:=run_yield (P:=x.P) (args:=args) hrecs (by rw[hrec];exact hsize)
      rw[hrec]at hyld
      refine⟨fn,_,assign,body,hyld,?_⟩
      obtain⟨L1,hA,hB⟩:=hround lr pre y args o H' hI hy
      refine roundIn_of_wpIn (F:=Fence.wide) trivial ?_
      have hput:=puts_holds (x:=x) (own:=own) (H:=H) (w:=w) x.n ps.toList args.toList a.tmps l hh.size hlt hh.slots
      have hfold:((ps.zip args).foldl (λt (p,v)=>t.setIfInBounds p v) a.tmps)=((ps.toList.zip args.toList).foldl (λt (p,v)=>t.setIfInBounds p v) a.tmps):=by
        rw[←Array.foldl_toList];simp
      have hok2:OwnOk H' o.flatten w1:=by
        have:=hok;rw[List.flatten_append]at this;exact OwnOk.right this
      have hmo:Mem w1 H' (ids o.flatten) o.flatten H' w1:=Mem.same hag hok2
      refine wpIn_mono (Q:=Exit.then (λa w=>Holds {x with r:=some lr,w0:=w1,H0:=H',S:=ids o.flatten,ds:=[]} L1 o H' a w) (λ_ _ _=>False)) ?_ ?_
      · rw[hfold]
        have hDs:D<w1.heap.size:=(Array.getElem?_eq_some_iff.1 (hok.here (D,Obj.deferred (some [])) (by simp[tail]))).1
        exact hA w1 (Nat.le_trans hh.mem.kept.size (Nat.le_of_lt hDs)) {tmps:=_,defers:=[]} w1 ⟨hput.1,rfl,hput.2,hmo⟩
      · rintro e a1 w2 hh1
        cases e with
        | normal=>
          have hh1:Holds {x with r:=some lr,w0:=w1,H0:=H',S:=ids o.flatten,ds:=[]} L1 o H' a1 w2:=hh1
          -- the assignments have turned nothing of the book-keeping
          have hlt1:lr<w1.heap.size:=(Array.getElem?_eq_some_iff.1 hrecs).1
          have hnd:=hok.nodup
          have hlro:lr∉ids o.flatten:=λhmem=>by
            simp only[tail,List.flatten_append,ids,List.map_append,List.nodup_append]at hnd
            exact hnd.2.2 lr (by simp) lr hmem rfl
          have hDo:D∉ids o.flatten:=λhmem=>by
            simp only[tail,List.flatten_append,ids,List.map_append,List.nodup_append]at hnd
            exact hnd.2.2 D (by simp) D hmem rfl
          have hr2:w2.heap[lr]? =some (.loop (rec .ready none)):=by rw[hh1.mem.kept.block lr hlt1 hlro];exact hrecs
          -- the whole memory at the round's begin,seen from w1
          have hmw1:Mem w1 H' (ids (tail .ready none++o).flatten) (tail .ready none++o).flatten H' w1:=Mem.same hag hok
          have hmw2:Mem w1 H' (ids (tail .ready none++o).flatten) (o.flatten++(tail .ready none).flatten) H' w2:=
            hmw1.go (K:=o.flatten) (rst:=(tail .ready none).flatten) (by rw[List.flatten_append];exact List.perm_append_comm) hh1.mem
          have hbr:=run_beginRound (P:=x.P) hr2 (by rw[hrec])
          refine⟨_,hbr,?_⟩
          have hmw3:Mem w1 H' (ids (tail .ready none++o).flatten) ([(lr,Obj.loop {rec .ready none with state:=.busy})]++(([(D,Obj.deferred (some []))]:Own)++o.flatten)) H' (w2.putObj lr (.loop {rec .ready none with state:=.busy})):=by
            refine hmw2.go (K:=[(lr,Obj.loop (rec .ready none))]) (rst:=[(D,Obj.deferred (some []))]++o.flatten) ?_ ?_
            · simp only[tail,List.flatten_cons,List.flatten_nil,List.append_nil]
              refine List.perm_append_comm.trans ?_
              simp
            · exact Mem.putObj hh1.mem.agr hr2 hapr _
          have hDs:D<w1.heap.size:=(Array.getElem?_eq_some_iff.1 (hok.here (D,Obj.deferred (some [])) (by simp[tail]))).1
          have hsz2:x.w0.heap.size≤(w2.putObj lr (.loop {rec .ready none with state:=.busy})).heap.size:=by
            have h1:=hh.mem.kept.size
            have h2:w1.heap.size≤w2.heap.size:=hh1.mem.kept.size
            have h5:w.heap.size<w1.heap.size:=hDs
            exact Nat.le_trans (Nat.le_trans h1 (Nat.le_trans (Nat.le_of_lt h5) h2)) (by simp)
          refine wpIn_mono (hB (w2.putObj lr (.loop {rec .ready none with state:=.busy})) hsz2 a1 _ ⟨hh1.size,hh1.ds,hh1.slots,Mem.same hmw3.agr ?_⟩) ?_
          · exact OwnOk.right (OwnOk.right hmw3.ok)
          · -- the round's end
            have fin:∀(jump:Option Code) (o1:List Own) (H1:Heaplet) (w3:World),Mem (w2.putObj lr (.loop {rec .ready none with state:=.busy})) H' (ids o.flatten) o1.flatten H1 w3→
                (Instr.endRound lr jump).run x.P w3=.ok (.bool jump.isNone) (w3.putObj lr (.loop (rec (if jump.isNone then .ready else .done) jump)))∧
                Mem w1 H' (ids (tail .ready none++o).flatten) (tail (if jump.isNone then .ready else .done) jump++o1).flatten H1 (w3.putObj lr (.loop (rec (if jump.isNone then .ready else .done) jump))):=by
              intro jump o1 H1 w3 hm3
              have hm4:Mem w1 H' (ids (tail .ready none++o).flatten) (o1.flatten++([(lr,Obj.loop {rec .ready none with state:=.busy})]++ [(D,Obj.deferred (some []))])) H1 w3:=by
                refine hmw3.go (K:=o.flatten) (rst:=[(lr,Obj.loop {rec .ready none with state:=.busy})]++ [(D,Obj.deferred (some []))]) ?_ hm3
                rw[←List.append_assoc];exact List.perm_append_comm
              have hl3:w3.heap[lr]? =some (.loop {rec .ready none with state:=.busy}):=hm4.ok.here (lr,Obj.loop {rec .ready none with state:=.busy}) (by simp)
              have hap3:∀k,H1 lr k=none:=λk=>hm4.ok.apart (lr,Obj.loop {rec .ready none with state:=.busy}) (by simp) k
              have hend:=run_endRound (P:=x.P) jump hl3
              rw[hrec]at hend⊢
              refine⟨hend,?_⟩
              have:=hm4.go (K:=[(lr,Obj.loop {rec .ready none with state:=.busy})]) (rst:=o1.flatten++ [(D,Obj.deferred (some []))]) (by
                refine(List.perm_append_comm (l₁:=o1.flatten)).trans ?_
                rw[List.append_assoc]
                exact List.Perm.append_left _ List.perm_append_comm) (Mem.putObj hm4.agr hl3 hap3 (.loop {rec .ready none with state:=if jump.isNone then .ready else .done,pending:=jump}))
              rw[hrec]at this
              refine Mem.perm this ?_
              simp only[tail,List.flatten_append,List.flatten_cons,List.flatten_nil,List.append_nil,hrec]
              rw[List.append_assoc]
              exact List.Perm.append_left _ List.perm_append_comm
            rintro e2 a3 w3 hp
            cases e2 with
            | normal=>
              obtain⟨o1,H1,hm3,hI1⟩:=hp
              obtain⟨hend,hm5⟩:=fin none o1 H1 w3 hm3
              exact⟨_,_,hend,true,_,H1,rfl,hm5,by simpa using⟨o1,rfl,hI1,hle.trans hm3.le⟩⟩
            | ret=>
              obtain⟨o1,H1,hm3,hI1⟩:=hp
              obtain⟨hend,hm5⟩:=fin (some .ret) o1 H1 w3 hm3
              exact⟨_,_,hend,false,_,H1,rfl,hm5,by simpa using⟨o1,.ret,rfl,hI1,hle.trans hm3.le⟩⟩
            | exit id=>
              obtain⟨o1,H1,hm3,hI1⟩:=hp
              obtain⟨hend,hm5⟩:=fin (some (.exit id)) o1 H1 w3 hm3
              exact⟨_,_,hend,false,_,H1,rfl,hm5,by simpa using⟨o1,.exit id,rfl,hI1,hle.trans hm3.le⟩⟩
            | goto t=>
              obtain⟨o1,H1,hm3,hI1⟩:=hp
              obtain⟨hend,hm5⟩:=fin (some (.goto t)) o1 H1 w3 hm3
              exact⟨_,_,hend,false,_,H1,rfl,hm5,by simpa using⟨o1,.goto t,rfl,hI1,hle.trans hm3.le⟩⟩
            |panic ch=>exact hp.elim
            |outgrown=>exact hp.elim
        |exit id=>exact hh1.elim
        |goto t=>exact hh1.elim
        |ret=>exact hh1.elim
        |panic ch=>exact hh1.elim
        |outgrown=>exact hh1.elim
    -- the iterator
    have hD0:=hit lr I' X' (tail .ready none++own) hY ⟨own,rfl,h0,Hle.refl _⟩
    have hmW:Mem x.w0 x.H0 x.S (tail .ready none++own).flatten H W:=by simpa[tail,D,lr]using hm2
    refine CallsIn.mono (hD0 W hmW.agr hmW.ok) ?_
    rintro e w3 ⟨v,K',H',rfl,⟨hle,hcase⟩,hm3⟩
    have hm4:Mem x.w0 x.H0 x.S K'.flatten H' w3:=by
      have:=hmW.go (K:=(tail .ready none++own).flatten) (rst:=[]) (by simp) hm3
      simpa using this
    rcases hcase with⟨xs,hS,o,rfl,hI,_⟩|⟨xs,hS,o,c,rfl,hX,_⟩
    · have hl3:w3.heap[lr]? =some (.loop (rec .ready none)):=hm4.ok.here (lr,Obj.loop (rec .ready none)) (by simp[tail])
      have hap3:∀k,H' lr k=none:=λk=>hm4.ok.apart (lr,Obj.loop (rec .ready none)) (by simp[tail]) k
      refine⟨none,_,by have:=run_endLoop (P:=x.P) hl3 (by rw[hrec];simp);rw[hrec]at this;exact this,?_⟩
      have hm5:=hm4.go (K:=[(lr,Obj.loop (rec .ready none))]) (rst:=[(D,Obj.deferred (some []))]++o.flatten) (by simp[tail]) (Mem.putObj hm4.agr hl3 hap3 (.loop {rec .ready none with state:=.exhausted}))
      rw[hrec]at hm5
      have hDn:x.w0.heap.size≤D:=hh.mem.kept.size
      refine hdone D xs o H' hDn hS hI hle _ _ ⟨hh.size,by simp[hh.ds],hh.slots,?_⟩
      have hs:([(D,Obj.deferred (some []))]++o.flatten).Sublist ([(lr,Obj.loop {rec .ready none with state:=.exhausted})]++([(D,Obj.deferred (some []))]++o.flatten)):=List.sublist_append_right _ _
      rw[hrec]at hs
      exact⟨hm5.agr,⟨λp hp=>hm5.ok.here p (hs.subset hp),(hs.map _).nodup hm5.ok.nodup,λp hp=>hm5.ok.apart p (hs.subset hp)⟩,hm5.kept,λp hp=>hm5.fresh p (hs.subset hp),hm5.le,hm5.grow,hm5.soft⟩
    · have hl3:w3.heap[lr]? =some (.loop (rec .done (some c))):=hm4.ok.here (lr,Obj.loop (rec .done (some c))) (by simp[tail])
      have hap3:∀k,H' lr k=none:=λk=>hm4.ok.apart (lr,Obj.loop (rec .done (some c))) (by simp[tail]) k
      refine⟨some c,_,by have:=run_endLoop (P:=x.P) hl3 (by rw[hrec];simp);rw[hrec]at this;exact this,?_⟩
      have hm5:=hm4.go (K:=[(lr,Obj.loop (rec .done (some c)))]) (rst:=[(D,Obj.deferred (some []))]++o.flatten) (by simp[tail]) (Mem.putObj hm4.agr hl3 hap3 (.loop {rec .done (some c)with state:=.exhausted}))
      rw[hrec]at hm5
      have hDn:x.w0.heap.size≤D:=hh.mem.kept.size
      have hJ:=hstop D c xs o H' hDn hS hX hle
      have hJ':c.wpIn (Fw x.r) 0 x.P Q {tmps:=a.tmps,defers:=mark D::a.defers} (w3.putObj lr (.loop {rec .done (some c)with state:=.exhausted})):=by
        refine hJ _ _ ⟨hh.size,by simp[hh.ds],hh.slots,?_⟩
        have hs:([(D,Obj.deferred (some []))]++o.flatten).Sublist ([(lr,Obj.loop {rec .done (some c)with state:=.exhausted})]++([(D,Obj.deferred (some []))]++o.flatten)):=List.sublist_append_right _ _
        rw[hrec]at hs⊢
        exact⟨hm5.agr,⟨λp hp=>hm5.ok.here p (hs.subset hp),(hs.map _).nodup hm5.ok.nodup,λp hp=>hm5.ok.apart p (hs.subset hp)⟩,hm5.kept,λp hp=>hm5.fresh p (hs.subset hp),hm5.le,hm5.grow,hm5.soft⟩
      rw[hFw,hrec]at hJ'
      exact hJ'
def RetM (x:Cx)(fn:Func)(R:Value→List Own→Heaplet→Prop):Exit→Act→World→Prop:=
 bodyPostM Fence.wide 0 x.P fn (λe w'=>∃v K' H',e=.returned v∧R v K' H'∧Mem x.w0 x.H0 x.S K'.flatten H' w')
theorem Mem.sub{w0 w:World}{H0 H:Heaplet}{S:List Nat}{o o':Own}(h:Mem w0 H0 S o H w)(hs:o'.Sublist o):Mem w0 H0 S o' H w:=
 ⟨h.agr,⟨λp hp=>h.ok.here p (hs.subset hp),(hs.map _).nodup h.ok.nodup,λp hp=>h.ok.apart p (hs.subset hp)⟩,h.kept,λp hp=>h.fresh p (hs.subset hp),h.le,h.grow,h.soft⟩
theorem JN.assigned{L1:Slots}{Q:Exit→Act→World→Prop}(h:Sub L1 l):JN x (Exit.then (λa w=>Holds x L1 own H a w) Q .normal) l own H:=λa w hh=>hh.sub h
theorem JN.pubBox{C:Act→World→Prop}(i:Nat){g:Nat}{cur:Array Value}{t:TypeId}(hi:own[i]? =some [(g,.cells cur t (0,0))])(hg:x.w0.heap.size≤g)
 (h:∀H',Hle H H'→(∀o u,cur[o]? =some u→H' g o=some u)→JN x C l (own.set i []) H'):JN x C l own H:=λa w hh=>by
 have hm:=Mem.pub hh.mem hi hg
 have hgn:∀o,H g o=none:=λo=>(own_here hh.mem hi).apart (g,.cells cur t (0,0)) (by simp) o
 refine h _ (λb o v e=> ?_) (λo u e=>by simp[e]) a w ⟨hh.size,hh.ds,hh.slots,hm⟩
 by_cases hb:b=g
 · subst hb;rw[hgn]at e;cases e
 · simp[hb,e]
end Go.Ow
namespace Go.Ow
open Go.RowKit
section orders
variable{F:Fence}{n:Nat}{P:Program}{md:Region.Mode}{ops:Array Oper}{Q:Exit→Act→World→Prop}{S:World→Prop}
def wpAS (F:Fence)(n:Nat)(P:Program)(md:Region.Mode)(ops:Array Oper)(Q:Exit→Act→World→Prop)(S:World→Prop):Nat→Array Bool→Act→World→Prop
  |0,listed,a,w=>Region.ready md ops listed= []∧Q .normal a w
  | fuel+1,listed,a,w=>(Region.ready md ops listed= []→Q .normal a w)∧
    ∀i∈Region.ready md ops listed,wpOpIn F n P ops Q i (λa' w'=>S w'∧wpAS F n P md ops Q S fuel (listed.setIfInBounds i true) a' w') a w
theorem wpAS_sound:∀(fuel:Nat) (listed:Array Bool) (a:Act) (w:World),wpAS F n P md ops Q S fuel listed a w→wpAnyIn F n P md ops Q fuel listed a w
 |0,_,_,_,h=>h
 |fuel+1,listed,a,w,h=>⟨h.1,λi hi=>wpOpIn_mono (λa' w' h'=>wpAS_sound fuel _ a' w' h'.2) (h.2 i hi)⟩
def YieldsS (P:Program)(ops:Array Oper)(S:World→Prop)(o:Oper)(v:Value)(a:Act):Prop:=
 (Region.wanted o (yielded ops a.tmps)=true∧∀w,S w→(execOp a.eval o).run P w=.ok (.value v) w)∨(Region.wanted o (yielded ops a.tmps)=false∧v=undef)
theorem YieldsS.of_same{o:Oper}{v:Value}{a a':Act}(hy:YieldsS P ops S o v a)(he:execOp a'.eval o=execOp a.eval o)
 (hw:Region.wanted o (yielded ops a'.tmps)=Region.wanted o (yielded ops a.tmps)):YieldsS P ops S o v a':=by
 unfold YieldsS at*;rw[he,hw];exact hy
theorem YieldsS.op (hF:∀f,F.fn f){i:Nat}{o:Oper}{v:Value}{a:Act}(hi:ops[i]? =some o)(hn:noDefer o.op=true)(hy:YieldsS P ops S o v a)
 {K:Act→World→Prop}{w:World}(hS:S w)(h:K (a.put o.dst v) w):wpOpIn F n P ops Q i K a w:=by
 unfold wpOpIn
 simp only[hi]
 rcases hy with⟨hw,hv⟩|⟨hw,rfl⟩
 · simp only[hw,if_true]
   refine⟨λf _=>hF f,?_⟩
   rw[semAt_of hn,hv w hS];exact h
 · simp only[hw,Bool.false_eq_true,if_false];exact⟨λf _=>hF f,h⟩
theorem wpOpIn_putS (hF:∀f,F.fn f){j:Nat}{oi oj:Oper}{v:Value}(hj:ops[j]? =some oj)(hap:oi.apart ops oj=true)(hsi:∀cs b,oi.op≠.select cs b)(hsj:∀cs b,oj.op≠.select cs b)
    (hnj:noDefer oj.op=true)(hQ:∀c a w,Q (.panic c) (a.put oi.dst v) w→Q (.panic c) a w){K:Act→World→Prop}{a:Act}{w:World}
    (hy:YieldsS P ops S oi v a)(h:wpOpIn F n P ops Q j K (a.put oi.dst v) w):
    wpOpIn F n P ops Q j (λa' w'=>YieldsS P ops S oi v a'∧K (a'.put oi.dst v) w') a w:=by
  obtain⟨h1,h2,h3⟩:=Oper.apart_spec hap
  have keep:∀(a:Act),YieldsS P ops S oi v a→∀u,YieldsS P ops S oi v (a.put oj.dst u):=λa hy u=>
    hy.of_same (execOp_put oi hsi a oj.dst u h3) (wanted_put oi a oj.dst u h3)
  unfold wpOpIn at*
  simp only[hj]at*
  rw[wanted_put oj a oi.dst v h1]at h
  split
  · rename_i hw
    simp only[hw,if_true]at h
    refine⟨λf _=>hF f,?_⟩
    have h:=h.2
    rw[semAt_of hnj,execOp_put oj hsj a oi.dst v h1]at h
    rw[semAt_of hnj]
    generalize hr:(execOp a.eval oj).run P w=r at*
    cases r with
    | ok x w'=>
      cases x<;>simp only[Oper.uponIn]at h⊢
      case value u=>exact⟨keep a hy u,by rw[←Act.put_comm a v u h2];exact h⟩
      case skip=>exact⟨keep a hy _,by rw[←Act.put_comm a v undef h2];exact h⟩
      case defer d=>
        refine⟨keep {a with defers:=d::a.defers} (hy.of_same rfl rfl) _,?_⟩
        rw[←Act.put_comm _ v undef h2,←Act.put_defers]
        exact h
      case enter f args=>
        refine⟨h.1,CallsIn.mono h.2 λe w'' he=> ?_⟩
        cases e with
        |returned u=>exact⟨keep a hy u,by rw[←Act.put_comm a v u h2];exact he⟩
        |panicked c=>exact hQ _ _ _ he
        |outgrown=>exact he
      case row row args=>exact⟨h.1,RowsIn.mono h.2 λu w'' he=>⟨keep a hy u,by rw[←Act.put_comm a v u h2];exact he⟩⟩
      case round l f tmps assign body=>
        refine⟨h.1,RoundIn.mono h.2 λe w'' he=> ?_⟩
        cases e with
        |returned u=>exact⟨keep a hy u,by rw[←Act.put_comm a v u h2];exact he⟩
        |panicked c=>exact hQ _ _ _ he
        |outgrown=>exact he
    | halt x w'=>
      cases x<;>simp only[Oper.uponIn]at h⊢
      case panic u=>exact hQ _ _ _ h
  · rename_i hw
    simp only[hw]at h
    exact⟨λf _=>hF f,keep a hy _,by rw[←Act.put_comm a v undef h2];exact h.2⟩
theorem wpAS_first (hF:∀f,F.fn f){i:Nat}{oi:Oper}{v:Value}(hi:ops[i]? =some oi)(hsel:∀(j:Nat) (o:Oper) cs b,ops[j]? =some o→o.op≠.select cs b)
    (hdef:∀(j:Nat) (o:Oper),ops[j]? =some o→noDefer o.op=true)(hQ:∀c a w,Q (.panic c) (a.put oi.dst v) w→Q (.panic c) a w):
    ∀ (fuel:Nat) (listed:Array Bool) (a:Act) (w:World),
      (∀j oj,ops[j]? =some oj→j≠i→listed.getD j true=false→(∀e∈oj.after,Region.binds md e=true→e.on≠i)→oi.apart ops oj=true)→
      i∈Region.ready md ops listed→YieldsS P ops S oi v a→S w→
      wpAS F n P md ops Q S fuel (listed.setIfInBounds i true) (a.put oi.dst v) w→wpAS F n P md ops Q S (fuel+1) listed a w:=by
  intro fuel
  induction fuel with
  | zero=>
    intro listed a w _ hr hy hS H
    refine⟨λh=>(by rw[h]at hr;cases hr),λj hj=> ?_⟩
    by_cases hji:j=i
    · subst hji;exact hy.op hF hi (hdef _ _ hi) hS ⟨hS,H⟩
    · have:=ready_mono hj hji
      rw[H.1]at this
      cases this
  | succ fuel ih=>
    intro listed a w hfree hr hy hS H
    refine⟨λh=>(by rw[h]at hr;cases hr),λj hj=> ?_⟩
    by_cases hji:j=i
    · subst hji;exact hy.op hF hi (hdef _ _ hi) hS ⟨hS,H⟩
    · have h1:=H.2 j (ready_mono hj hji)
      obtain⟨hjun,oj,hoj,hall⟩:=mem_ready.1 hj
      have hnot:∀e∈oj.after,Region.binds md e=true→e.on≠i:=λe he hb heq=>by
        have h1:=hall e he hb
        have h0:=(mem_ready.1 hr).1
        rw[heq]at h1
        rcases Nat.lt_or_ge i listed.size with h'|h'
        · simp[h']at h0 h1;rw[h0]at h1;cases h1
        · simp[Array.getElem?_eq_none h']at h1
      have h2:=wpOpIn_putS hF hoj (hfree j oj hoj hji hjun hnot) (λcs b=>hsel i oi cs b hi) (λcs b=>hsel j oj cs b hoj) (hdef j oj hoj) hQ hy h1
      have hfree':∀k ok,ops[k]? =some ok→k≠i→(listed.setIfInBounds j true).getD k true=false→
          (∀e∈ok.after,Region.binds md e=true→e.on≠i)→oi.apart ops ok=true:=λk ok hk hki hun hno=>by
        refine hfree k ok hk hki ?_ hno
        by_cases hjk:j=k
        · subst hjk;exact hjun
        · rw[getD_set_ne true hjk]at hun;exact hun
      refine wpOpIn_mono (λa' w' h3=>⟨h3.2.1,ih (listed.setIfInBounds j true) a' w' hfree' (ready_mono hr (Ne.symm hji)) h3.1 h3.2.1 ?_⟩) h2
      rw[Array.setIfInBounds_comm _ _ hji]
      exact h3.2.2
end orders
variable{x:Cx}{ops:Array Oper}{Q:Exit→Act→World→Prop}{l:Slots}{own:List Own}{H:Heaplet}
def Calm (Q:Exit→Act→World→Prop):Prop:=∀c a a' w,Q (.panic c) a w→Q (.panic c) a' w
def JA (x:Cx)(ops:Array Oper)(Q:Exit→Act→World→Prop)(so:List Own)(sH:Heaplet)(fuel:Nat)(listed:Array Bool)(l:Slots)(own:List Own)(H:Heaplet):Prop:=
 ∀a w,Holds x l own H a w→wpAS (Fw x.r) 0 x.P .any ops Q (Stab so sH) fuel listed a w
def onlyN (K:Act→World→Prop):Exit→Act→World→Prop
 | .normal,a,w=>K a w
 |_,_,_=>False
theorem calm_only (K:Act→World→Prop):Calm (onlyN K):=λ_ _ _ _ h=>h
def SubO:List Own→List Own→Prop
 |[],_=>True
 |s::r,own=>(∃i:Nat,own[i]? =some s)∧SubO r own
theorem JC.draw{so:List Own}(N:Nat){id:Nat}(hN:ops.size=N)(hm:x.P.follows .mixedOrders=true)(_hso:SubO so own)(h:JA x ops (onlyN (Q .normal)) so H N (Array.replicate N false) l own H):JC x (.region id ops true) Q l own H:=λa w hh=>by
 subst hN
 refine wpIn_mono (Q:=onlyN (Q .normal)) (wpIn_region_any hm (wpAS_sound _ _ _ _ (h a w.drew ⟨hh.size,hh.ds,hh.slots,hh.mem.drew⟩))) ?_
 intro e a w hq
 cases e with
 |normal=>exact hq
 |exit id=>exact hq.elim
 |goto t=>exact hq.elim
 |ret=>exact hq.elim
 |panic c=>exact hq.elim
 |outgrown=>exact hq.elim
structure Reg (ops:Array Oper):Prop where
  sel:Region.noSelect ops=true
  dfr:ops.all (λo=>noDefer o.op)=true
theorem Reg.noDefer{ops:Array Oper}(h:Reg ops):∀(j:Nat) (o:Oper),ops[j]? =some o→noDefer o.op=true:=λj o ho=>
 Array.all_eq_true_iff_forall_mem.1 h.dfr o (Array.mem_of_getElem? ho)
structure Take (ops:Array Oper) (listed:Array Bool) (i:Nat) (listed':Array Bool):Prop where
  rdy:(Region.ready .any ops listed).contains i=true
  free:Region.free .any ops listed i=true
  nxt:listed.setIfInBounds i true=listed'
def guardYes (ops:Array Oper)(l:Slots):Option (Nat×Bool)→Prop
 |none=>True
 |some (j,b)=>∃t oj,ops[j]? =some oj∧oj.dst=some t∧lk l t=some (.bool b)
theorem wanted_yes{a:Act}{w:World}(hh:Holds x l own H a w){o:Oper}(hg:guardYes ops l o.guard):Region.wanted o (yielded ops a.tmps)=true:=by
  obtain⟨dst,op,ty,pos,aft,g⟩:=o
  cases g with
  |none=>rfl
  | some jb=>
    obtain⟨j,b⟩:=jb
    obtain⟨t,oj,hj,ht,hb⟩:=hg
    simp only[Region.wanted,yielded,hj,Option.bind_some,ht]
    have:=hh.slots t _ hb
    cases hs:a.tmps[t]? with
    |none=>simp[hs,undef]at this
    |some u=>simp[hs]at this;simp[this]
theorem JA.val{so:List Own}{sH:Heaplet}{fuel i d:Nat}{listed listed':Array Bool}{op:Op}{ty:TypeId}{pos:String}{aft:Array Edge}{g:Option (Nat×Bool)}{v:Value}(hreg:Reg ops)(hc:Calm Q)
 (ho:ops[i]? =some ⟨some d,op,ty,pos,aft,g⟩)(ht:Take ops listed i listed')(hg:guardYes ops l g)(hs:∀a w,Holds x l own H a w→Stab so sH w)(hr:Runs x op ty l so sH v)(hd:Nat.blt d x.n=true)
 (h:JA x ops Q so sH fuel listed' ((d,v)::l) own H):JA x ops Q so sH (fuel+1) listed l own H:=λa w hh=>by
 have hl:=ht.nxt
 subst hl
 refine wpAS_first (λ_=>trivial) ho (Region.noSelect_spec hreg.sel) hreg.noDefer (λc a' w' h'=>hc c _ _ w' h') fuel listed a w (Region.free_spec ho ht.free) (by simpa using ht.rdy)
  (.inl ⟨wanted_yes hh hg,λw' hw'=>hr a.eval w' (some d) pos aft g (λo u e=>eval_of hh e) hw'⟩) (hs a w hh) (h _ _ (hh.put hd v))
theorem JA.done{so:List Own}{sH:Heaplet}{fuel:Nat}{listed:Array Bool}(hr:Region.ready .any ops listed= [])(h:JN x (Q .normal) l own H):JA x ops Q so sH fuel listed l own H:=λa w hh=>by
 cases fuel with
 |zero=>exact⟨hr,h a w hh⟩
 |succ fuel=>exact⟨λ_=>h a w hh,by rw[hr];simp⟩
theorem stab_of{so:List Own}{sH:Heaplet}(hle:Hle sH H)(hs:SubO so own):∀a w,Holds x l own H a w→Stab so sH w:=λa w hh=>by
  refine⟨hh.mem.agr.le hle,?_⟩
  induction so with
  |nil=>intro p hp;simp at hp
  | cons s r ih=>
    intro p hp
    simp only[List.flatten_cons,List.mem_append]at hp
    rcases hp with hp|hp
    · obtain⟨i,hi⟩:=hs.1
      exact hh.mem.ok.here p (List.mem_flatten.2 ⟨s,List.mem_of_getElem? hi,hp⟩)
    · exact ih hs.2 p hp
theorem JA.doneN{so:List Own}{sH:Heaplet}{fuel:Nat}{listed:Array Bool}{K:Act→World→Prop}(hr:Region.ready .any ops listed= [])(h:JN x K l own H):JA x ops (onlyN K) so sH fuel listed l own H:=JA.done hr h
def JO (x:Cx)(ops:Array Oper)(Q:Exit→Act→World→Prop)(so:List Own)(sH:Heaplet)(fuel:Nat)(listed:Array Bool)(i:Nat)(l:Slots)(own:List Own)(H:Heaplet):Prop:=
 ∀a w,Holds x l own H a w→wpOpIn (Fw x.r) 0 x.P ops Q i (λa' w'=>Stab so sH w'∧wpAS (Fw x.r) 0 x.P .any ops Q (Stab so sH) fuel (listed.setIfInBounds i true) a' w') a w
theorem JA.one{so:List Own}{sH:Heaplet}{fuel i:Nat}{listed:Array Bool}(hr:Region.ready .any ops listed= [i])(h1:JO x ops Q so sH fuel listed i l own H):
 JA x ops Q so sH (fuel+1) listed l own H:=λa w hh=>by
 refine⟨λh0=>(by rw[hr]at h0;cases h0),λk hk=> ?_⟩
 rw[hr]at hk;simp at hk;subst hk;exact h1 a w hh
theorem JA.two{so:List Own}{sH:Heaplet}{fuel i j:Nat}{listed:Array Bool}(hr:Region.ready .any ops listed= [i,j])(h1:JO x ops Q so sH fuel listed i l own H)(h2:JO x ops Q so sH fuel listed j l own H):
 JA x ops Q so sH (fuel+1) listed l own H:=λa w hh=>by
 refine⟨λh0=>(by rw[hr]at h0;cases h0),λk hk=> ?_⟩
 rw[hr]at hk;simp at hk;rcases hk with rfl|rfl
 · exact h1 a w hh
 · exact h2 a w hh
theorem JO.step{so:List Own}{sH:Heaplet}{fuel i:Nat}{listed listed':Array Bool}{dst:Option Tmp}{op:Op}{ty:TypeId}{pos:String}{aft:Array Edge}{g:Option (Nat×Bool)}
    (ho:ops[i]? =some ⟨dst,op,ty,pos,aft,g⟩)(hg:guardYes ops l g)(hl:listed.setIfInBounds i true=listed')
    (h:∀K:Act→World→Prop,(∀l' own' H',(∀a w,Holds x l' own' H' a w→Stab so sH w)→JA x ops Q so sH fuel listed' l' own' H'→JN x K l' own' H')→
      JL x ops (λe a w=>match e with| .normal=>K a w|e=>Q e a w) [⟨dst,op,ty,pos,aft,none⟩] l own H):
    JO x ops Q so sH fuel listed i l own H:=λa w hh=>by
  subst hl
  have:=h (λa' w'=>Stab so sH w'∧wpAS (Fw x.r) 0 x.P .any ops Q (Stab so sH) fuel (listed.setIfInBounds i true) a' w')
    (λl' own' H' hs hJ a' w' hh'=>⟨hs a' w' hh',hJ a' w' hh'⟩) a w hh
  simp only[wpLs,wanted_none,if_true]at this
  unfold wpOpIn
  simp only[ho]
  rw[if_pos (wanted_yes hh hg)]
  refine⟨λ_ _=>trivial,?_⟩
  have h2:=this.2
  have es:∀(ρ:Operand→Value),Oper.semAt (Fw x.r).round ρ ⟨dst,op,ty,pos,aft,g⟩=Oper.semAt (Fw x.r).round ρ ⟨dst,op,ty,pos,aft,none⟩:=λρ=>by
    unfold Oper.semAt;cases(Fw x.r).round<;>cases op<;>rfl
  rw[es]
  generalize (Oper.semAt (Fw x.r).round a.eval ⟨dst,op,ty,pos,aft,none⟩).run x.P w=r at*
  cases r with
  | ok y w'=>
    cases y<;>simp only[Oper.uponIn]at h2⊢<;>first|exact h2|exact⟨h2.1,CallsIn.mono h2.2 (λe w'' he=>by cases e<;>exact he)⟩|exact⟨h2.1,RoundIn.mono h2.2 (λe w'' he=>by cases e<;>exact he)⟩
  |halt y w'=>cases y<;>simp only[Oper.uponIn]at h2⊢<;>exact h2
end Go.Ow
namespace Go.Ow
open Go.RowKit
variable{x:Cx}{ops:Array Oper}{Q:Exit→Act→World→Prop}{l:Slots}{own so:List Own}{H sH:Heaplet}{fuel i0:Nat}{listed listed':Array Bool}{g0:Option (Nat×Bool)}
variable{ty:TypeId}{d:Nat}{pos:String}{aft:Array Edge}{v:Value}{α:Type}{R:Rep α}{size:Nat}{g:Bool}{t e:TypeId}{ao:Option Addr}{n cap:Nat}{m:List α}{p:Operand}
end Go.Ow
namespace Go.Ow
open Go.RowKit
section ops
variable{x:Cx}{ops:Array Oper}{Q:Exit→Act→World→Prop}{l:Slots}{own:List Own}{H:Heaplet}{rest:List Oper}{d:Nat}{ty:TypeId}{pos:String}{aft:Array Edge}
theorem run_equalNil{P:Program}{w:World}{t e:TypeId}{ao:Option Addr}{n c:Nat}(hu:P.underlying t=some (.slice e)):(Op.equal t (.slice ao n c) (.slice none 0 0)).run P w=.ok ao.isNone w:=by
 have key:∀k,(Op.equalIn (k+1) t (.slice ao n c) (.slice none 0 0)).run P w=.ok ao.isNone w:=λk=>by
  unfold Op.equalIn
  rw[Sem.run_bind,run_underlying hu]
  cases ao<;>rfl
 exact key 9999
def rowOf? :Obj→Option (Array Value)
 | .cells c _ _=>some c
 |_=>none
def lend:Own→Heaplet→Heaplet
 |[],H=>H
 |p::r,H=>λb o=>if b=p.1 then(match rowOf? p.2 with|some cur=>cur[o]? |none=>lend r H b o)else lend r H b o
def Lent (own:List Own)(H2:Heaplet):Prop:=∀g cur t fr,(g,Obj.cells cur t fr)∈own.flatten→∀o,H2 g o=cur[o]?
theorem OwnOk.tail{H:Heaplet}{p:Nat×Obj}{r:Own}{w:World}(h:OwnOk H (p::r) w):OwnOk H r w:=
 ⟨λq hq=>h.here q (List.mem_cons_of_mem _ hq),(List.nodup_cons.1 (by simpa[ids]using h.nodup)).2,λq hq=>h.apart q (List.mem_cons_of_mem _ hq)⟩
theorem lend_le{H:Heaplet}{w:World}:∀{own:Own},OwnOk H own w→Hle H (lend own H)
  |[],_=>Hle.refl _
  | p::r,h=>λb o v e=>by
    by_cases hb:b=p.1
    · subst hb;rw[h.apart p (by simp) o]at e;cases e
    · simp only[lend,if_neg hb];exact lend_le h.tail b o v e
theorem lend_agrees{H:Heaplet}{w:World}(ha:Agrees H w):∀{own:Own},OwnOk H own w→Agrees (lend own H) w
  |[],_=>ha
  | (g,ob)::r,h=>λb o v e=>by
    by_cases hb:b=g
    · subst hb
      simp only[lend,if_true]at e
      have hh:=h.here (b,ob) (by simp)
      cases hr:rowOf? ob with
      |none=>rw[hr]at e;exact lend_agrees ha h.tail b o v e
      | some cur=>
        rw[hr]at e
        cases ob<;>simp[rowOf?]at hr
        subst hr
        rw[cell_of_row w b o _ _ _ hh];exact e
    · simp only[lend,if_neg hb]at e;exact lend_agrees ha h.tail b o v e
theorem lend_lent{H:Heaplet}{w:World}:∀{own:Own},OwnOk H own w→∀g cur t fr,(g,Obj.cells cur t fr)∈own→∀o,lend own H g o=cur[o]?
  |[],_,_,_,_,_,hm,_=>by cases hm
  | (p1,ob)::r,h,g,cur,t,fr,hm,o=>by
    rcases List.mem_cons.1 hm with e|hm
    · cases e;simp[lend,rowOf?]
    · have hne:g≠p1:=λe=>by
        have:=(List.nodup_cons.1 (show(p1::ids r).Nodup from h.nodup)).1
        exact this (e▸List.mem_map_of_mem (f:=λp=>p.1) hm)
      simp only[lend,if_neg hne];exact lend_lent h.tail g cur t fr hm o
theorem Lent.row{α:Type}{R:Rep α}{H2:Heaplet}{i B:Nat}{K:Own}{E:TypeId}{size:Nat}{v:Value}{ls:List α}(hl:Lent own H2)(hR:R.Mono)(hle:Hle H H2)(hi:own[i]? =some K)(hr:RowOf H R B E size v ls K):
 IsSlice H2 R size v ls:=by
 obtain⟨cells,⟨h0,h1⟩,hf,ho⟩:=hr
 rcases h1 with⟨rfl,h3,rfl⟩|⟨g,cap,cur,rfl,rfl,e3,e4,e5,e6,e7⟩
 · have:ls= []:=List.length_eq_zero_iff.1 h3
   subst this;exact IsSlice.nil _ _ _
 · refine IsSlice.of_cells (hf.mono hR hle) e4 e5 (λj u hj=> ?_)
   have hm:(g,Obj.cells cur E (0,0))∈own.flatten:=List.mem_flatten.2 ⟨_,List.mem_of_getElem? hi,by simp⟩
   rw[hl g cur E (0,0) hm]
   rw[←e7,List.getElem?_take]at hj
   split at hj
   · simpa using hj
   · cases hj
theorem JL.callC{c:Operand}{as:Array Operand}{ts:Array TypeId}{f:FuncId}{first cap:Array Value}{vs args:List Value}{K rst:List Own}{R:Value→List Own→Heaplet→Prop}
 (he:Enters x.P f)(hc:evo l c=some (.func (.func f) first cap))(ha:as.toList.mapM (evo l)=some vs)(hargs:first.toList++vs++cap.toList=args)(hp:own.flatten.Perm (K.flatten++rst.flatten))
 (C:Does x.P f args.toArray K H R)(hd:Nat.blt d x.n=true)
 (h:∀v K' H',R v K' H'→Hle H H'→(∀p∈K'.flatten,p.1∈ids K.flatten∨x.w0.heap.size≤p.1)→JL x ops Q rest ((d,v)::l) (K'++rst) H'):
 JL x ops Q (⟨some d,.call ⟨.value c,as,ts⟩,ty,pos,aft,none⟩::rest) l own H:=
 JL.callG he hc ha hp (by rw[show first++vs.toArray++cap=args.toArray by rw[←hargs];apply Array.ext';simp];exact C) hd h
end ops
theorem IsSlice.none_nil{α:Type}{H:Heaplet}{R:Rep α}{size:Nat}{n c:Nat}{l:List α}(h:IsSlice H R size (.slice none n c) l):l= []:=by
 obtain⟨ao,cap,e,h1,h2,h3,h4,h5⟩:=h
 simp only[Value.slice.injEq]at e
 obtain⟨rfl,rfl,rfl⟩:=e
 have:=h4 rfl
 exact List.eq_nil_of_length_eq_zero (by omega)
end Go.Ow
namespace Go.Ow
open Go.RowKit
theorem Flat.set{α:Type}{H:Heaplet}{R:Rep α}{size:Nat}{cs:List Value}{y:α}(hc:cs.length=size)(hR:R H cs y):∀{l:List α} {cells:List Value} {k:Nat},Flat H R size cells l→k<l.length→
    Flat H R size (cells.take (k*size)++cs++cells.drop (k*size+size)) (l.set k y)
  |[],_,_,_,hk=>by simp at hk
  | a::r,cells,0,h,_=>by
    obtain⟨c0,more,rfl,h1,h2,h3⟩:=h
    refine⟨cs,more,?_,hc,hR,h3⟩
    simp[←h1]
  | a ::r,cells,k+1,h,hk=>by
    obtain⟨c0,more,rfl,h1,h2,h3⟩:=h
    refine⟨c0,more.take (k*size)++cs++more.drop (k*size+size),?_,h1,h2,Flat.set hc hR h3 (by simpa using hk)⟩
    have e1:(c0++more).take ((k+1)*size)=c0++more.take (k*size):=by
      rw[List.take_append,List.take_of_length_le (by rw[h1,Nat.add_mul];omega),h1];congr 2;rw[Nat.add_mul];omega
    have e2:(c0++more).drop ((k+1)*size+size)=more.drop (k*size+size):=by
      rw[List.drop_append,List.drop_eq_nil_of_le (by rw[h1,Nat.add_mul];omega),h1,List.nil_append];congr 1;rw[Nat.add_mul];omega
    rw[e1,e2];simp
section ops
variable{x:Cx}{ops:Array Oper}{Q:Exit→Act→World→Prop}{l:Slots}{own:List Own}{H:Heaplet}{rest:List Oper}{d:Nat}{ty:TypeId}{pos:String}{aft:Array Edge}
end ops
end Go.Ow
namespace Go.Ow
open Go.RowKit
def placesOf (P:Program)(T:TypeId):Option (List (Nat×Nat)):=match P.underlying T with
 |some (.struct fs)=>fs.toList.mapM (λf=>(shapeOf P f.type).map (λs=>(f.offset,s.2)))
 |_=>none
theorem run_mapM{α β:Type}{P:Program}{w:World}{f:α→Sem β}{g:α→Option β}(h:∀a b,g a=some b→(f a).run P w=.ok b w):∀(l:List α) (bs:List β),l.mapM g=some bs→(l.mapM f).run P w=.ok bs w
  |[],bs,e=>by simp at e;subst e;simp[go_sem]
  | a::l,bs,e=>by
    simp only[List.mapM_cons,Option.bind_eq_bind,Option.bind_eq_some_iff]at e
    obtain⟨b,hb,cs,hcs,e⟩:=e
    simp at e;subst e
    rw[List.mapM_cons]
    simp only[Sem.run_bind,h a b hb,Result.andThen,run_mapM h l cs hcs,Sem.run_pure]
theorem run_build{P:Program}{T:TypeId}{w:World}{z:Value}{places:List (Nat×Nat)}{vs:List (Nat×Value)}{cells:Array Value}(hz:zeroOf P T=some z)(hp:placesOf P T=some places)
    (hf:Instr.fill (places.toArray[·]?) z.cells vs=some cells):(Instr.build T vs.toArray).run P w=.ok (.agg cells) w:=by
  unfold placesOf at hp
  split at hp
  · rename_i fs hu
    unfold Instr.build
    simp only[Sem.run_bind,run_zeroValue hz,Result.andThen,run_underlying hu]
    have hm:(fs.mapM λf=>do pure (f.offset,←Go.sizeOf f.type):Sem (Array (Nat×Nat))).run P w=.ok places.toArray w:=by
      rw[Array.mapM_eq_mapM_toList]
      have:=run_mapM (P:=P) (w:=w) (f:=fun(f:Field)=>(do pure (f.offset,←Go.sizeOf f.type):Sem (Nat×Nat))) (λa b hb=>by
        cases hs:shapeOf P a.type with
        |none=>simp[hs]at hb
        | some s=>
          simp[hs]at hb;subst hb
          simp only[Sem.run_bind,run_sizeOf (n:=s.2) (g:=s.1) hs,Result.andThen,Sem.run_pure]) fs.toList places hp
      rw[map_eq_pure_bind,Sem.run_bind,this];rfl
    rw[hm]
    simp only[hf];rfl
  · cases hp
def notAgg:Value→Bool
 | .agg _=>false
 |_=>true
theorem notAgg_cells{v:Value}(h:notAgg v=true):v.cells= #[v]:=by cases v<;>first|rfl|cases h
def setAll (places:List (Nat×Nat)):List Value→List (Nat×Value)→List Value
 |l,[]=>l
 |l,(i,v)::r=>setAll places (match places[i]? with|some p=>l.set p.1 v|none=>l) r
def fits (places:List (Nat×Nat))(n:Nat)(p:Nat×Value):Bool:=notAgg p.2&&match places[p.1]? with|some q=>Nat.beq q.2 1&&Nat.blt q.1 n|none=>false
theorem fill_one (places:List (Nat×Nat)):∀(vs:List (Nat×Value)) (cells:Array Value),vs.all (fits places cells.size)=true→Instr.fill (places.toArray[·]?) cells vs=some (setAll places cells.toList vs).toArray
  |[],cells,_=>by simp[Instr.fill,setAll]
  | (i,v)::r,cells,h=>by
    simp only[List.all_cons,Bool.and_eq_true,fits]at h
    obtain⟨⟨h1,h2⟩,h3⟩:=h
    cases hp:places[i]? with
    |none=>simp[hp]at h2
    | some q=>
      obtain⟨off,size⟩:=q
      simp only[hp,Bool.and_eq_true]at h2
      have e1:size=1:=Nat.eq_of_beq_eq_true h2.1
      have e2:off<cells.size:=by simpa[Nat.blt_eq]using h2.2
      subst e1
      have hc:=notAgg_cells h1
      have hpl:places.toArray[i]? =some (off,1):=by simpa using hp
      have hr:=fill_one places r (cells.setIfInBounds off v) (by simpa using h3)
      simp only[Instr.fill,hpl,hc]
      rw[if_neg (by simp;omega)]
      simp only[setAll,hp]
      simpa using hr
section ops
variable{x:Cx}{ops:Array Oper}{Q:Exit→Act→World→Prop}{l:Slots}{own:List Own}{H:Heaplet}{rest:List Oper}{d:Nat}{ty:TypeId}{pos:String}{aft:Array Edge}
theorem JN.perm{K:Act→World→Prop}{own':List Own}(hp:own.flatten.Perm own'.flatten)(h:JN x K l own' H):JN x K l own H:=λa w hh=>
 h a w ⟨hh.size,hh.ds,hh.slots,hh.mem.agr,hh.mem.ok.perm hp,hh.mem.kept,λp hp'=>hh.mem.fresh p (hp.mem_iff.2 hp'),hh.mem.le,hh.mem.grow,hh.mem.soft⟩
theorem perm_front{α:Type}{own:List (List α)}{i:Nat}{seg:List α}(h:own[i]? =some seg):own.flatten.Perm (seg::own.eraseIdx i).flatten:=by simpa using flatten_perm h
theorem JN.front (i:Nat){K:Act→World→Prop}{seg:Own}(hi:own[i]? =some seg)(h:JN x K l (seg::own.eraseIdx i) H):JN x K l own H:=JN.perm (perm_front hi) h
theorem JC.front (i:Nat){c:Code}{seg:Own}(hi:own[i]? =some seg)(h:JC x c Q l (seg::own.eraseIdx i) H):JC x c Q l own H:=λa w hh=>
 h a w ⟨hh.size,hh.ds,hh.slots,hh.mem.agr,hh.mem.ok.perm (perm_front hi),hh.mem.kept,λp hp'=>hh.mem.fresh p ((perm_front hi).mem_iff.2 hp'),hh.mem.le,hh.mem.grow,hh.mem.soft⟩
end ops
section mid
variable{x:Cx}{Q:Exit→Act→World→Prop}{l:Slots}{own:List Own}{H:Heaplet}
end mid
end Go.Ow
namespace Go.Ow
variable{α β σ τ:Type}
def w64 (n:Int):Int:=(n+9223372036854775808)%18446744073709551616-9223372036854775808
theorem w64_of{n:Int}(h1: -9223372036854775808≤n)(h2:n≤9223372036854775807):w64 n=n:=by unfold w64;omega
theorem bnd_some{o:Option α}{k:α→Option β}{r:β}(h:Option.bind o k=some r):∃y,o=some y∧k y=some r:=Option.bind_eq_some_iff.1 h
theorem cond_t{b:Bool}{x y z:Option α}(c:b=true)(h:cond b x y=z):x=z:=by rw[c]at h;exact h
theorem cond_f{b:Bool}{x y z:Option α}(c:b=false)(h:cond b x y=z):y=z:=by rw[c]at h;exact h
def Nth (l:List α)(i:Int)(y:α):Prop:=0≤i∧l[i.toNat]? =some y
def idx (l:List α)(i:Int)(k:α→Option β):Option β:=if 0≤i then Option.bind l[i.toNat]? k else none
theorem idx_some{l:List α}{i:Int}{k:α→Option β}{r:β}(h:idx l i k=some r):∃y,Nth l i y∧k y=some r:=by
 unfold idx at h
 split at h
 · obtain⟨y,h1,h2⟩:=bnd_some h
   exact⟨y,⟨by assumption,h1⟩,h2⟩
 · cases h
theorem idx_eq{l:List α}{i:Int}{y:α}{k:α→Option β}(h:Nth l i y):idx l i k=k y:=by
 unfold idx;rw[if_pos h.1,h.2];rfl
theorem idx_nat{l:List α}{i:Nat}(k:α→Option β)(h:i<l.length):idx l (i:Int) k=k l[i]:=
 idx_eq ⟨Int.natCast_nonneg i,by simp[h]⟩
def setI (l:List α)(i:Int)(y:α)(k:List α→Option β):Option β:=if 0≤i∧i.toNat<l.length then k (l.set i.toNat y)else none
theorem setI_some{l:List α}{i:Int}{y:α}{k:List α→Option β}{r:β}(h:setI l i y k=some r):∃m,m=l.set i.toNat y∧(0≤i∧i.toNat<l.length)∧k m=some r:=by
 unfold setI at h
 split at h
 · exact⟨_,rfl,by assumption,h⟩
 · cases h
theorem setI_eq{l:List α}{i:Int}{y:α}{k:List α→Option β}(h0:0≤i)(h:i.toNat<l.length):setI l i y k=k (l.set i.toNat y):=by
 unfold setI;rw[if_pos ⟨h0,h⟩]
def cut (l:List α)(a b:Int):List α:=(l.drop a.toNat).take (b.toNat-a.toNat)
def slc (l:List α)(a b:Int)(k:List α→Option β):Option β:=if 0≤a∧a≤b∧b≤l.length then k (cut l a b)else none
theorem slc_some{l:List α}{a b:Int}{k:List α→Option β}{r:β}(h:slc l a b k=some r):∃m,m=cut l a b∧(0≤a∧a≤b∧b≤l.length)∧k m=some r:=by
 unfold slc at h
 split at h
 · exact⟨_,rfl,by assumption,h⟩
 · cases h
theorem slc_eq{l:List α}{a b:Int}{k:List α→Option β}(h0:0≤a)(h1:a≤b)(h2:b≤l.length):slc l a b k=k (cut l a b):=by
 unfold slc;rw[if_pos ⟨h0,h1,h2⟩]
theorem cut_length{l:List α}{a b:Int}(h0:0≤a)(h1:a≤b)(h2:b≤l.length):((cut l a b).length:Int)=b-a:=by
 unfold cut;simp only[List.length_take,List.length_drop];omega
def LIM:Nat:=1099511627776
def app (l m:List α)(k:List α→Option β):Option β:=if l.length+m.length≤LIM then k (l++m)else none
theorem app_some{l m:List α}{k:List α→Option β}{r:β}(h:app l m k=some r):∃q,q=l++m∧l.length+m.length≤LIM∧k q=some r:=by
 unfold app at h
 split at h
 · exact⟨_,rfl,by assumption,h⟩
 · cases h
theorem app_eq{l m:List α}{k:List α→Option β}(h:l.length+m.length≤LIM):app l m k=k (l++m):=by
 unfold app;rw[if_pos h]
def mks (n:Int)(z:α)(k:List α→Option β):Option β:=if 0≤n∧n.toNat≤LIM then k (List.replicate n.toNat z)else none
theorem mks_some{n:Int}{z:α}{k:List α→Option β}{r:β}(h:mks n z k=some r):∃q,q=List.replicate n.toNat z∧(0≤n∧n.toNat≤LIM)∧k q=some r:=by
 unfold mks at h
 split at h
 · exact⟨_,rfl,by assumption,h⟩
 · cases h
theorem mks_eq{n:Nat}{z:α}{k:List α→Option β}(h:n≤LIM):mks (n:Int) z k=k (List.replicate n z):=by
 unfold mks;rw[if_pos ⟨Int.natCast_nonneg n,by simpa using h⟩,Int.toNat_natCast]
def chk (p:Prop) [Decidable p](k:Option β):Option β:=if p then k else none
theorem chk_some{p:Prop} [Decidable p]{k:Option β}{r:β}(h:chk p k=some r):p∧k=some r:=by
 unfold chk at h
 split at h
 · exact⟨by assumption,h⟩
 · cases h
theorem chk_eq{p:Prop} [Decidable p]{k:Option β}(h:p):chk p k=k:=by unfold chk;rw[if_pos h]
def run (body:σ→Option (σ ⊕ τ)):Nat→σ→Option τ
  |0,_=>none
  | n+1,s=>Option.bind (body s) λo=>match o with
    | .inl s'=>run body n s'
    | .inr t=>some t
def FUEL:Nat:=18446744073709551616
def loop (body:σ→Option (σ ⊕ τ))(s:σ):Option τ:=run body FUEL s
def Stp (body:σ→Option (σ ⊕ τ))(n:Nat)(t:τ):σ ⊕ τ→Prop
 | .inl s'=>run body n s'=some t
 | .inr t'=>t'=t
theorem run_some{body:σ→Option (σ ⊕ τ)}{n:Nat}{s:σ}{t:τ}(h:run body (n+1) s=some t):∃o,body s=some o∧Stp body n t o:=by
 obtain⟨o,h1,h2⟩:=bnd_some h
 refine⟨o,h1,?_⟩
 cases o with
 |inl s'=>exact h2
 |inr t'=>exact Option.some.inj h2
theorem run_next{body:σ→Option (σ ⊕ τ)}{n:Nat}{t:τ}{s':σ}{o:σ ⊕ τ}(hd:Stp body n t o)(hx:some (.inl s')=some o):run body n s'=some t:=by
 cases hx;exact hd
theorem run_done{body:σ→Option (σ ⊕ τ)}{n:Nat}{t t':τ}{o:σ ⊕ τ}(hd:Stp body n t o)(hx:some (.inr t')=some o):t'=t:=by
 cases hx;exact hd
theorem run_zero{body:σ→Option (σ ⊕ τ)}{s:σ}{t:τ}(h:run body 0 s=some t):False:=by cases h
theorem run_mono{body:σ→Option (σ ⊕ τ)}{t:τ}:∀{n:Nat} {s:σ} {m:Nat},n≤m→run body n s=some t→run body m s=some t
  |0,_,_,_,h=>(run_zero h).elim
  |n+1,s,0,hm,_=>absurd hm (by omega)
  | n+1,s,m+1,hm,h=>by
    obtain⟨o,h1,h2⟩:=run_some h
    show Option.bind (body s) _=_
    rw[h1]
    cases o with
    |inl s'=>exact run_mono (by omega) h2
    |inr t'=>simp only[Stp]at h2;subst h2;rfl
theorem loop_of{body:σ→Option (σ ⊕ τ)}{s:σ}{t:τ}{n:Nat}(hn:n≤FUEL)(h:run body n s=some t):loop body s=some t:=run_mono hn h
theorem loop_rule{body:σ→Option (σ ⊕ τ)}(I:σ→Prop)(m:σ→Nat)(R:τ→Prop)
    (step:∀s,I s→(∃s',body s=some (.inl s')∧I s'∧m s'<m s)∨(∃t,body s=some (.inr t)∧R t)){s:σ}(h0:I s)(hm:m s<FUEL):∃t,loop body s=some t∧R t:=by
  have key:∀n s,m s<n→I s→∃t,run body n s=some t∧R t:=by
    intro n
    induction n with
    |zero=>intro s h;omega
    | succ n ih=>
      intro s h hI
      rcases step s hI with⟨s',e,hI',hlt⟩|⟨t,e,hR⟩
      · obtain⟨t,h1,h2⟩:=ih s' (by omega) hI'
        exact⟨t,by show Option.bind (body s) _=_;rw[e];exact h1,h2⟩
      · exact⟨t,by show Option.bind (body s) _=_;rw[e];rfl,hR⟩
  exact key FUEL s hm h0
def forL (body:α→σ→Option (σ ⊕ τ)):List α→σ→Option (σ ⊕ τ)
  |[],s=>some (.inl s)
  | y::r,s=>Option.bind (body y s) λo=>match o with
    | .inl s'=>forL body r s'
    | .inr t=>some (.inr t)
theorem forL_some{body:α→σ→Option (σ ⊕ τ)}{y:α}{r:List α}{s:σ}{t:σ ⊕ τ}(h:forL body (y::r) s=some t):
 ∃o,body y s=some o∧((∃s',o=.inl s'∧forL body r s'=some t)∨∃e,o=.inr e∧t=.inr e):=by
 obtain⟨o,h1,h2⟩:=bnd_some h
 refine⟨o,h1,?_⟩
 cases o with
 |inl s'=>exact .inl ⟨s',rfl,h2⟩
 |inr e=>exact .inr ⟨e,rfl,(Option.some.inj h2).symm⟩
theorem forL_cons{body:α→σ→Option (σ ⊕ τ)}{y:α}{r:List α}{s s':σ}(h:body y s=some (.inl s')):forL body (y::r) s=forL body r s':=by
 show Option.bind (body y s) _=_;rw[h];rfl
def clr (l:List α)(a b:Nat)(z:α):List α:=l.take a++List.replicate (b-a) z++l.drop b
def bwd (m:List UInt8):Nat→List (Nat×UInt8)
 |0=> []
 |k+1=>(k,m.getD k 0)::bwd m k
end Go.Ow
namespace Go.Ow
def sli (m n:Int):Int:=w64 (m*2^(min n.toNat 64))
def sl32 (a:UInt32)(n:Nat):UInt32:=UInt32.ofNat (a.toNat*2^(min n 32))
def sr32 (a:UInt32)(n:Nat):UInt32:=UInt32.ofNat (a.toNat/2^(min n 32))
def sl64 (a:UInt64)(n:Nat):UInt64:=UInt64.ofNat (a.toNat*2^(min n 64))
def sr64 (a:UInt64)(n:Nat):UInt64:=UInt64.ofNat (a.toNat/2^(min n 64))
def u8i (n:Int):UInt8:=UInt8.ofNat (n%256).toNat
def u32i (n:Int):UInt32:=UInt32.ofNat (n%4294967296).toNat
def u64i (n:Int):UInt64:=UInt64.ofNat (n%18446744073709551616).toNat
end Go.Ow
namespace Go.Ow
open Go.RowKit
variable{x:Cx}{ops:Array Oper}{Q:Exit→Act→World→Prop}{rest:List Oper}{l:Slots}{own:List Own}{H:Heaplet}
theorem wrap_w64 (n:Int):IntKind.i64.wrap n=w64 n:=by
 simp only[IntKind.wrap,IntKind.bits,IntKind.signed,w64,Bool.true_and,decide_eq_true_eq,ge_iff_le]
 by_cases h:(2:Int)^(64-1)≤n%2^64
 · rw[if_pos h];omega
 · rw[if_neg h];omega
def HoldsI (x:Cx)(I:Slots→List Own→Heaplet→Prop)(a:Act)(w:World):Prop:=∃l o g,I l o g∧Holds x l o g a w
theorem JC.cut{c:Code}(I:Slots→List Own→Heaplet→Prop)(h2:∀l o g,I l o g→JN x (Q .normal) l o g)
 (h1:JC x c (Exit.then (HoldsI x I) Q) l own H):JC x c Q l own H:=λa w hh=>by
 refine wpIn_mono (h1 a w hh) ?_
 intro e a w hq
 cases e with
 |normal=>obtain⟨l,o,g,hI,hh⟩:=hq;exact h2 l o g hI a w hh
 |exit id=>exact hq
 |goto t=>exact hq
 |ret=>exact hq
 |panic c=>exact hq
 |outgrown=>exact hq
theorem JN.cut{I:Slots→List Own→Heaplet→Prop}{l':Slots}{o':List Own}{g':Heaplet}(hI:I l' o' g')(hl:Sub l' l)(ho:o'=own)(hg:g'=H):
 JN x (Exit.then (HoldsI x I) Q .normal) l own H:=λa w hh=>⟨l',o',g',hI,by rw[ho,hg];exact hh.sub hl⟩
theorem JC.loopI{c:Code}(I:Nat→Slots→List Own→Heaplet→Prop)(n0:Nat){l0:Slots}(hb:∀l o g,¬I 0 l o g)(h0:I n0 l0 own H)(hl:Sub l0 l)
    (round:∀n l o g,I (n+1) l o g→JC x c (Exit.then (HoldsI x (I n)) Q) l o g):JC x (.loop c) Q l own H:=by
  refine JC.loop (ι:=Nat×Slots×List Own×Heaplet) (λi=>i.2.1) (λi=>i.2.2.1) (λi=>i.2.2.2) (λi=>I i.1 i.2.1 i.2.2.1 i.2.2.2) (λi=>i.1) (n0,l0,own,H) h0 hl rfl rfl ?_
  rintro⟨n,l',o',g'⟩ hI
  cases n with
  |zero=>exact(hb _ _ _ hI).elim
  | succ n=>
    intro a w hh
    refine wpIn_mono (round n l' o' g' hI a w hh) ?_
    intro e a w hq
    cases e with
    |normal=>obtain⟨l2,o2,g2,hI2,hh2⟩:=hq;exact⟨(n,l2,o2,g2),hI2,Nat.lt_succ_self n,hh2⟩
    |exit id=>exact hq
    |goto t=>exact hq
    |ret=>exact hq
    |panic c=>exact hq
    |outgrown=>exact hq
theorem JC.condB{c:Tmp}{d e:Code}{b:Bool}(hc:lk l c=some (.bool b))(ht:b=true→JC x d Q ((c,.bool true)::l) own H)(hf:b=false→JC x e Q ((c,.bool false)::l) own H):
 JC x (.cond (.tmp c) d e) Q l own H:=JC.cond hc ht hf
section R
variable{ty:TypeId}{p q:Operand}{t u:TypeId}{v:Value}
theorem R.move (h1:evo l p=some v):Runs x (.move p) ty l own H v:=λρ w _ _ _ _ hρ hm=>by simp[execOp,hρ _ _ h1,go_sem]
theorem R.assign (h1:evo l p=some v):Runs x (.assign p) ty l own H v:=λρ w _ _ _ _ hρ hm=>by simp[execOp,hρ _ _ h1,go_sem]
theorem R.pickT{c:Operand}(hc:evo l c=some (.bool true))(h1:evo l p=some v):Runs x (.pick c p q) ty l own H v:=λρ w _ _ _ _ hρ hm=>by simp[execOp,hρ _ _ hc,hρ _ _ h1,go_sem]
theorem R.pickF{c:Operand}(hc:evo l c=some (.bool false))(h1:evo l q=some v):Runs x (.pick c p q) ty l own H v:=λρ w _ _ _ _ hρ hm=>by simp[execOp,hρ _ _ hc,hρ _ _ h1,go_sem]
theorem R.not{b:Bool}(h1:evo l p=some (.bool b)):Runs x (.unOp .not t p) ty l own H (.bool (!b)):=λρ w _ _ _ _ hρ hm=>by simp[execOp,hρ _ _ h1,Op.unary,go_sem]
theorem R.extract{vs:Array Value}{i:Nat}(h1:evo l p=some (.tuple vs))(h2:vs[i]? =some v):Runs x (.extract p i) ty l own H v:=λρ w _ _ _ _ hρ hm=>by simp[execOp,hρ _ _ h1,Instr.extract,h2,go_sem]
theorem R.add_i{m n:Int}(h1:evo l p=some (.int .i64 m))(h2:evo l q=some (.int .i64 n)):Runs x (.binOp .add t p q u) ty l own H (.int .i64 (w64 (m+n))):=
 λρ w _ _ _ _ hρ hm=>by rw[←wrap_w64];simp[execOp,hρ _ _ h1,hρ _ _ h2,eqGuard,binOp,Op.intArith,go_sem]
theorem R.inc{k:Nat}{m:Int}(h1:evo l p=some (.int .i64 (k:Int)))(h2:evo l q=some (.int .i64 1))(hk:(k:Int)<m)(hm:m≤9223372036854775807):Runs x (.binOp .add t p q u) ty l own H (.int .i64 ((k+1:Nat):Int)):=by
 have:=R.add_i (x:=x) (own:=own) (H:=H) (ty:=ty) (t:=t) (u:=u) h1 h2
 rw[w64_of (by omega) (by omega)]at this;exact this
theorem R.sub_i{m n:Int}(h1:evo l p=some (.int .i64 m))(h2:evo l q=some (.int .i64 n)):Runs x (.binOp .sub t p q u) ty l own H (.int .i64 (w64 (m-n))):=
 λρ w _ _ _ _ hρ hm=>by rw[←wrap_w64];simp[execOp,hρ _ _ h1,hρ _ _ h2,eqGuard,binOp,Op.intArith,go_sem]
theorem R.mul_i{m n:Int}(h1:evo l p=some (.int .i64 m))(h2:evo l q=some (.int .i64 n)):Runs x (.binOp .mul t p q u) ty l own H (.int .i64 (w64 (m*n))):=
 λρ w _ _ _ _ hρ hm=>by rw[←wrap_w64];simp[execOp,hρ _ _ h1,hρ _ _ h2,eqGuard,binOp,Op.intArith,go_sem]
theorem R.quo_i{m n:Int}(h1:evo l p=some (.int .i64 m))(h2:evo l q=some (.int .i64 n))(h0:n≠0):Runs x (.binOp .quo t p q u) ty l own H (.int .i64 (w64 (m.tdiv n))):=
 λρ w _ _ _ _ hρ hm=>by rw[←wrap_w64];simp[execOp,hρ _ _ h1,hρ _ _ h2,eqGuard,binOp,Op.intDiv,h0,go_sem]
theorem R.rem_i{m n:Int}(h1:evo l p=some (.int .i64 m))(h2:evo l q=some (.int .i64 n))(h0:n≠0):Runs x (.binOp .rem t p q u) ty l own H (.int .i64 (m.tmod n)):=
 λρ w _ _ _ _ hρ hm=>by simp[execOp,hρ _ _ h1,hρ _ _ h2,eqGuard,binOp,Op.intDiv,h0,go_sem]
theorem R.shl_i{m n:Int}{k:IntKind}(h1:evo l p=some (.int .i64 m))(h2:evo l q=some (.int k n))(h0:0≤n):Runs x (.binOp .shl t p q u) ty l own H (.int .i64 (sli m n)):=
 λρ w _ _ _ _ hρ hm=>by rw[sli,←wrap_w64];simp[execOp,hρ _ _ h1,hρ _ _ h2,eqGuard,binOp,Op.shift,IntKind.bits,show¬n<0 by omega,go_sem]
theorem R.lss_i{k:IntKind}{m n:Int}(h1:evo l p=some (.int k m))(h2:evo l q=some (.int k n)):Runs x (.binOp .lss t p q u) ty l own H (.bool (decide (m<n))):=
 λρ w _ _ _ _ hρ hm=>by simp[execOp,hρ _ _ h1,hρ _ _ h2,eqGuard,binOp,Op.intCmp,go_sem]
theorem R.leq_i{k:IntKind}{m n:Int}(h1:evo l p=some (.int k m))(h2:evo l q=some (.int k n)):Runs x (.binOp .leq t p q u) ty l own H (.bool (decide (m≤n))):=
 λρ w _ _ _ _ hρ hm=>by simp[execOp,hρ _ _ h1,hρ _ _ h2,eqGuard,binOp,Op.intCmp,go_sem]
theorem R.gtr_i{k:IntKind}{m n:Int}(h1:evo l p=some (.int k m))(h2:evo l q=some (.int k n)):Runs x (.binOp .gtr t p q u) ty l own H (.bool (decide (n<m))):=
 λρ w _ _ _ _ hρ hm=>by simp[execOp,hρ _ _ h1,hρ _ _ h2,eqGuard,binOp,Op.intCmp,go_sem]
theorem R.geq_i{k:IntKind}{m n:Int}(h1:evo l p=some (.int k m))(h2:evo l q=some (.int k n)):Runs x (.binOp .geq t p q u) ty l own H (.bool (decide (n≤m))):=
 λρ w _ _ _ _ hρ hm=>by simp[execOp,hρ _ _ h1,hρ _ _ h2,eqGuard,binOp,Op.intCmp,go_sem]
theorem R.eql_i{k:IntKind}{m n:Int}(h1:evo l p=some (.int k m))(h2:evo l q=some (.int k n)):Runs x (.binOp .eql t p q u) ty l own H (.bool (decide (m=n))):=
 λρ w _ _ _ _ hρ hm=>by simp[execOp,hρ _ _ h1,hρ _ _ h2,eqGuard,binOp,Op.intCmp,go_sem];rw[Bool.eq_iff_iff];simp
theorem R.neq_i{k:IntKind}{m n:Int}(h1:evo l p=some (.int k m))(h2:evo l q=some (.int k n)):Runs x (.binOp .neq t p q u) ty l own H (.bool (!decide (m=n))):=
 λρ w _ _ _ _ hρ hm=>by simp[execOp,hρ _ _ h1,hρ _ _ h2,eqGuard,binOp,Op.intCmp,go_sem];rw[Bool.eq_iff_iff];simp
theorem R.convW{k k':IntKind}{m:Int}{s:TypeId}{ds:TypeDesc}(hs:x.P.underlying s=some ds)(ht:x.P.underlying t=some (.int k'))(h1:evo l p=some (.int k m)):Runs x (.convert s t p) ty l own H (.int k' (k'.wrap m)):=
 λρ w _ _ _ _ hρ hm=>by simp[execOp,hρ _ _ h1,convert,run_underlying hs,run_underlying ht,Conv.intToInt,go_sem]
theorem R.func{fn:Go.Fn}{fs cs:Array Operand}{vf vc:List Value}(h1:fs.toList.mapM (evo l)=some vf)(h2:cs.toList.mapM (evo l)=some vc):Runs x (.makeFunc fn fs cs) ty l own H (.func fn vf.toArray vc.toArray):=
 λρ w _ _ _ _ hρ hm=>by
  have e1:=mapM_eval hρ h1
  have e2:=mapM_eval hρ h2
  simp[execOp,Instr.makeFunc,e1,e2,go_sem]
theorem R.fa{S k n b o:Nat}(hf:fieldOff x.P S k=some n)(h1:evo l p=some (.pointer (some ⟨b,o,none⟩))):Runs x (.fieldAddr S p k) ty l own H (.pointer (some ⟨b,o+n,none⟩)):=
 λρ w _ _ _ _ hρ hm=>by simp only[execOp,hρ _ _ h1];exact run_v (run_fieldAt hf b o w)
theorem R.ld{T n b o:Nat}(hs:shapeOf x.P T=some (false,n))(h1:evo l p=some (.pointer (some ⟨b,o,none⟩)))(ha:At H own b o v):Runs x (.load T p) ty l own H v:=
 λρ w _ _ _ _ hρ hm=>by simp only[execOp,hρ _ _ h1];exact run_v (run_load1 hs (ha.cell hm))
theorem R.ldN{T b o n:Nat}{vs:List Value}(hs:shapeOf x.P T=some (true,n))(h1:evo l p=some (.pointer (some ⟨b,o,none⟩)))(ha:∀j u,vs[j]? =some u→At H own b (o+j) u)(hn:vs.length=n):Runs x (.load T p) ty l own H (.agg vs.toArray):=
 λρ w _ _ _ _ hρ hm=>by simp only[execOp,hρ _ _ h1];exact run_v (run_loadN (by rw[hn];exact hs) (λj u e=>(ha j u e).cell hm))
theorem R.ldo (i:Nat){T n b o:Nat}{cur:Array Value}{t:TypeId}{fr:Nat×Nat}(hs:shapeOf x.P T=some (false,n))(h1:evo l p=some (.pointer (some ⟨b,o,none⟩)))
 (hi:own[i]? =some [(b,.cells cur t fr)])(hc:cur.toList[o]? =some v):Runs x (.load T p) ty l own H v:=R.ld hs h1 (.inr ⟨i,cur,t,fr,hi,by simpa using hc⟩)
theorem R.ldoN (i:Nat){T b o n:Nat}{cur:Array Value}{t:TypeId}{fr:Nat×Nat}{vs:List Value}(hs:shapeOf x.P T=some (true,n))(h1:evo l p=some (.pointer (some ⟨b,o,none⟩)))
 (hi:own[i]? =some [(b,.cells cur t fr)])(hv:vs=(cur.toList.drop o).take n)(hn:vs.length=n):Runs x (.load T p) ty l own H (.agg vs.toArray):=
 R.ldN hs h1 (λj u e=>.inr ⟨i,cur,t,fr,hi,by
  rw[hv,List.getElem?_take]at e
  split at e
  · simpa[List.getElem?_drop]using e
  · cases e⟩) hn
theorem R.ldH{T n b o:Nat}(hs:shapeOf x.P T=some (false,n))(h1:evo l p=some (.pointer (some ⟨b,o,none⟩)))(ha:H b o=some v):Runs x (.load T p) ty l own H v:=R.ld hs h1 (.inl ha)
theorem R.ldHE{T b o n:Nat}{cs:List Value}(k:Nat){vs:List Value}(hs:shapeOf x.P T=some (true,n))(h1:evo l p=some (.pointer (some ⟨b,o+k,none⟩)))(ha:∀j u,cs[j]? =some u→H b (o+j)=some u)(hv:vs=(cs.drop k).take n)(hn:vs.length=n):Runs x (.load T p) ty l own H (.agg vs.toArray):=
 R.ldN hs h1 (λj u e=>.inl (by
  rw[Nat.add_assoc];refine ha _ _ ?_
  rw[hv,List.getElem?_take]at e
  split at e
  · simpa[List.getElem?_drop]using e
  · cases e)) hn
theorem R.nilCheck{a:Addr}(h1:evo l p=some (.pointer (some a))):Runs x (.nilCheck p) ty l own H (.pointer (some a)):=λρ w _ _ _ _ hρ hm=>by simp[execOp,hρ _ _ h1,go_sem]
theorem R.len{ao:Option Addr}{n c:Nat}{e:TypeId}(hu:x.P.underlying t=some (.slice e))(h1:evo l p=some (.slice ao n c)):Runs x (.call ⟨.builtin .len,#[p],#[t]⟩) ty l own H (.int .i64 (n:Int)):=
 λρ w _ _ _ _ hρ hm=>by simp[execOp,resolve,invoke,hρ _ _ h1,run_underlying hu,go_sem,Builtin.len_,goInt]
def Long (v:Value)(n:Nat):Prop:=∃ao cap,v=.slice ao n cap
theorem R.lenL{n:Nat}{e:TypeId}(hu:x.P.underlying t=some (.slice e))(h1:evo l p=some v)(hL:Long v n):Runs x (.call ⟨.builtin .len,#[p],#[t]⟩) ty l own H (.int .i64 (n:Int)):=by
 obtain⟨ao,cap,rfl⟩:=hL;exact R.len hu h1
theorem run_equalBool{P:Program}{w:World}{t:TypeId}{a b:Bool}(hu:P.underlying t=some .bool):(Op.equal t (.bool a) (.bool b)).run P w=.ok (a==b) w:=by
 have key:∀k,(Op.equalIn (k+1) t (.bool a) (.bool b)).run P w=.ok (a==b) w:=λk=>by
  unfold Op.equalIn
  rw[Sem.run_bind,run_underlying hu]
  rfl
 exact key 9999
theorem R.eqlStr{a b:List UInt8}(h1:evo l p=some (.string (bs a)))(h2:evo l q=some (.string (bs b))):Runs x (.binOp .eql t p q u) ty l own H (.bool (decide (a=b))):=
 λρ w _ _ _ _ hρ hm=>by simp[execOp,hρ _ _ h1,hρ _ _ h2,eqGuard,binOp,Op.stringOp,bs_eq,go_sem]
theorem R.neqStr{a b:List UInt8}(h1:evo l p=some (.string (bs a)))(h2:evo l q=some (.string (bs b))):Runs x (.binOp .neq t p q u) ty l own H (.bool (!decide (a=b))):=
 λρ w _ _ _ _ hρ hm=>by simp[execOp,hρ _ _ h1,hρ _ _ h2,eqGuard,binOp,Op.stringOp,bs_eq,go_sem]
theorem R.toStr{s e:TypeId}{lb:List UInt8}(hs:x.P.underlying s=some (.slice e))(he:x.P.underlying e=some (.int .u8))(ht:x.P.underlying t=some .string)(h1:evo l p=some v)(hB:IsSlice H RU8 1 v lb):Runs x (.convert s t p) ty l own H (.string (bs lb)):=by
 obtain⟨cells,hf,ao,cap,rfl,hcc⟩:=IsSlice.cells hB
 rw[hf.of_u8]at hcc
 exact λρ w _ _ _ _ hρ hm=>by
  simp only[execOp,hρ _ _ h1]
  exact run_v (run_toStr hs he ht ⟨ao,cap,rfl,hcc.imp id (fun⟨b,o,e1,e2⟩=>⟨b,o,e1,λj u hj=>hm.1 _ _ _ (e2 j u hj)⟩)⟩)
theorem R.eqlNil{ao:Option Addr}{n c:Nat}{e:TypeId}(hu:x.P.underlying t=some (.slice e))(h1:evo l p=some (.slice ao n c))(h2:evo l q=some (.slice none 0 0)):Runs x (.binOp .eql t p q u) ty l own H (.bool ao.isNone):=
 λρ w _ _ _ _ hρ hm=>by
  simp only[execOp,hρ _ _ h1,hρ _ _ h2]
  refine run_v ?_
  have hg:(eqGuard .eql t p q (.slice ao n c) (.slice none 0 0)).run x.P w=.ok () w:=rfl
  rw[Sem.run_bind,hg]
  simp only[Result.andThen,binOp,Sem.run_bind,run_equalNil hu];rfl
theorem R.bld{T:TypeId}{parts:Array (Nat×Operand)}{vs:List (Nat×Value)}{z:Value}{places:List (Nat×Nat)}{cells:Array Value}(hz:zeroOf x.P T=some z)(hp:placesOf x.P T=some places)
    (hv:parts.toList.mapM (λp=>(evo l p.2).map (λu=>(p.1,u)))=some vs)(hf:Instr.fill (places.toArray[·]?) z.cells vs=some cells):Runs x (.build T parts) ty l own H (.agg cells):=
  λρ w _ _ _ _ hρ hm=>by
    simp only[execOp]
    have key:∀(ps:List (Nat×Operand)) (us:List (Nat×Value)),ps.mapM (λp=>(evo l p.2).map (λu=>(p.1,u)))=some us→ps.map (λp=>(p.1,ρ p.2))=us:=by
      intro ps
      induction ps with
      |nil=>intro us e;simp at e;simp[e]
      | cons p ps ih=>
        intro us e
        simp only[List.mapM_cons,Option.bind_eq_bind,Option.bind_eq_some_iff,Option.map_eq_some_iff]at e
        obtain⟨b,⟨u,hu,rfl⟩,cs,hcs,e⟩:=e
        simp at e;subst e
        simp[ih cs hcs,hρ _ _ hu]
    have e:parts.map (λp=>(p.1,ρ p.2))=vs.toArray:=by
      rw[←key _ _ hv];apply Array.ext';simp
    have:=run_build (P:=x.P) (w:=w) hz hp hf
    rw[←e]at this
    exact run_v this
end R
def ElemAt (v:Value)(n:Nat)(i:Int)(b o:Nat):Prop:=0≤i∧∃o0 len cap,v=.slice (some ⟨b,o0,none⟩) len cap∧o=o0+i.toNat*n∧i.toNat<len
theorem IsSlice.elem{α:Type}{R:Rep α}{n:Nat}{v:Value}{m:List α}{i:Int}{y:α}{HF:Heaplet}(hS:IsSlice HF R n v m)(hA:Nth m i y):
 ∃b o cs,ElemAt v n i b o∧R HF cs y∧cs.length=n∧∀j u,cs[j]? =some u→HF b (o+j)=some u:=by
 obtain⟨ao,cap,rfl,e1,e2,e3,e4,e5⟩:=hS
 obtain⟨b,o,cs,rfl,f1,f2,f3⟩:=e5 _ _ hA.2
 exact⟨b,_,cs,⟨hA.1,o,_,cap,rfl,rfl,(List.getElem?_eq_some_iff.1 hA.2).1⟩,f2,f1,f3⟩
theorem RowOf.elem{α:Type}{R:Rep α}{n B:Nat}{E:TypeId}{v:Value}{m:List α}{K:Own}{i:Int}{y:α}{HF:Heaplet}(hS:RowOf HF R B E n v m K)(hA:Nth m i y):
 ∃b o cs cur,K= [(b,.cells cur E (0,0))]∧ElemAt v n i b o∧R HF cs y∧cs.length=n∧∀j u,cs[j]? =some u→cur.toList[o+j]? =some u:=by
 obtain⟨cells,⟨h0,h3⟩,hf,ho⟩:=hS
 rcases h3 with⟨rfl,h3,rfl⟩|⟨b,cap,cur,rfl,rfl,e3,e4,e5,e6,e7⟩
 · have:m= []:=List.length_eq_zero_iff.1 h3
   subst this;simp[Nth]at hA
 · obtain⟨cs,f1,f2,f3⟩:=hf.at hA.2
   refine⟨b,_,cs,cur,rfl,⟨hA.1,0,_,cap,rfl,rfl,(List.getElem?_eq_some_iff.1 hA.2).1⟩,f2,f1,λj u hj=> ?_⟩
   have:=f3 j u hj
   rw[←e7,List.getElem?_take]at this
   split at this
   · rw[Nat.zero_add];exact this
   · cases this
section R2
variable{ty:TypeId}{p q:Operand}{t u:TypeId}{v:Value}
theorem R.ix{T e:TypeId}{g:Bool}{n b o:Nat}{i:Int}{kk:IntKind}(hu:x.P.underlying T=some (.slice e))(hs:shapeOf x.P e=some (g,n))(h1:evo l p=some v)(h2:evo l q=some (.int kk i))(hE:ElemAt v n i b o):
 Runs x (.indexAddr T p q) ty l own H (.pointer (some ⟨b,o,none⟩)):=by
 obtain⟨h0,o0,len,cap,rfl,rfl,hlt⟩:=hE
 obtain⟨k,rfl⟩:=Int.eq_ofNat_of_zero_le h0
 exact λρ w _ _ _ _ hρ hm=>by simp only[execOp,hρ _ _ h1,hρ _ _ h2];exact run_v (run_indexAt hu hs (by simpa using hlt) w)
theorem R.slc{α:Type}{R:Rep α}{size cap:Nat}{e:TypeId}{g:Bool}{a b c:Int}{lo hi mx:Option Operand}{m:List α}{v':Value}(hu:x.P.underlying t=some (.slice e))(hs:shapeOf x.P e=some (g,size))(h0:evo l p=some v)
 (h1:match lo with|none=>a=0|some o=>∃kk,evo l o=some (.int kk a))(h2:match hi with|none=>b=m.length|some o=>∃kk,evo l o=some (.int kk b))(h3:match mx with|none=>∃ao n,v=.slice ao n cap∧c=cap|some o=>∃kk,evo l o=some (.int kk c))
 (hab:0≤a∧a≤b∧b≤c)(hv:∃ao,v=.slice ao m.length cap∧c≤cap∧v'=sliced ao a.toNat b.toNat c.toNat size)(hmx:mx=none∨hi≠none):
 Runs x (.slice t p lo hi mx) ty l own H v':=by
 obtain⟨ao,rfl,hc,rfl⟩:=hv
 obtain⟨a,rfl⟩:=Int.eq_ofNat_of_zero_le hab.1
 obtain⟨b,rfl⟩:=Int.eq_ofNat_of_zero_le (show 0≤b by omega)
 obtain⟨c,rfl⟩:=Int.eq_ofNat_of_zero_le (show 0≤c by omega)
 exact λρ w _ _ _ _ hρ hm=>by
  simp only[execOp,hρ _ _ h0]
  refine run_v (run_slc hu hs ρ hρ lo hi mx a b c ?_ ?_ ?_ (by omega) (by omega) (by omega) hmx w)
  · cases lo with
    |none=>simp only at h1;simp only[bnd];omega
    |some o=>obtain⟨kk,h⟩:=h1;exact⟨kk,_,h,rfl⟩
  · cases hi with
    |none=>simp only at h2;simp only[bnd];omega
    |some o=>obtain⟨kk,h⟩:=h2;exact⟨kk,_,h,rfl⟩
  · cases mx with
    |none=>obtain⟨ao',n',e1,e2⟩:=h3;simp only[Value.slice.injEq]at e1;simp only[bnd];omega
    |some o=>obtain⟨kk,h⟩:=h3;exact⟨kk,_,h,rfl⟩
end R2
theorem IsSlice.cutv{α:Type}{R:Rep α}{size:Nat}{v:Value}{m m':List α}{a b:Int}{HF:Heaplet}(h:IsSlice HF R size v m)(hm:m'=cut m a b)(hab:0≤a∧a≤b∧b≤m.length):
 ∃v' cap,(∃ao n,v=.slice ao n cap∧(cap:Int)=cap)∧b≤cap∧(∃ao,v=.slice ao m.length cap∧(cap:Int)≤cap∧v'=sliced ao a.toNat b.toNat (cap:Int).toNat size)∧IsSlice HF R size v' m':=by
 subst hm
 obtain⟨ao,cap,rfl,e1,r⟩:=h
 have hs:=IsSlice.sub (ao:=ao) (n:=m.length) (cap:=cap) ⟨ao,cap,rfl,e1,r⟩ a.toNat b.toNat cap (by omega) (by omega) (by omega) (Nat.le_refl _)
 exact⟨_,cap,⟨ao,_,rfl,rfl⟩,by omega,⟨ao,rfl,Int.le_refl _,rfl⟩,by simpa[cut]using hs⟩
theorem IsSlice.long{α:Type}{R:Rep α}{size:Nat}{v:Value}{m:List α}{HF:Heaplet}(h:IsSlice HF R size v m):Long v m.length:=by obtain⟨ao,cap,e,_⟩:=h;exact⟨ao,cap,e⟩
theorem RowOf.long{α:Type}{R:Rep α}{B:Nat}{E:TypeId}{size:Nat}{v:Value}{ls:List α}{K:Own}{HF:Heaplet}(h:RowOf HF R B E size v ls K):Long v ls.length:=by
 obtain⟨ao,cap,e,_⟩:=h.len;exact⟨ao,cap,e⟩
theorem IsSlice.lenI{α:Type}{R:Rep α}{size:Nat}{v:Value}{m:List α}{HF:Heaplet}(h:IsSlice HF R size v m):(m.length:Int)≤9223372036854775807:=by have:=h.len_le;omega
def New (H H':Heaplet):Heaplet:=λb o=>match H b o with
 |none=>H' b o
 |some _=>none
theorem New.le (H H':Heaplet):Hle (New H H') H':=λb o v h=>by
 unfold New at h;split at h
 · exact h
 · cases h
theorem New.mono{H H1 H2:Heaplet}(h:Hle H1 H2):Hle (New H H1) (New H H2):=λb o v e=>by
 unfold New at e⊢
 split at e
 · rename_i hn;simp[hn,h _ _ _ e]
 · cases e
theorem New.call{H0 H H':Heaplet}(h:Hle H0 H):Hle (New H H') (New H0 H'):=λb o v e=>by
 unfold New at e⊢
 split at e
 · rename_i hn
   cases h0:H0 b o with
   |none=>simp[e]
   |some u=>rw[h _ _ _ h0]at hn;cases hn
 · cases e
def Rep.Const{α:Type}(R:Rep α):Prop:=∀H H' cs x,R H cs x→R H' cs x
theorem RU8.const:RU8.Const:=λ_ _ _ _ h=>h
def RInt:Rep Int:=λ_ cs n=>cs= [.int .i64 n]
theorem RInt.const:RInt.Const:=λ_ _ _ _ h=>h
theorem RInt.mono:RInt.Mono:=λ_ _ _ _ _ h=>h
theorem RInt.one:RInt.One:=λ_ cs y h=>by rw[show cs=_ from h];intro u hu;simp at hu;subst hu;rfl
def RU64:Rep UInt64:=λ_ cs n=>cs= [.int .u64 n.toNat]
theorem RU64.mono:RU64.Mono:=λ_ _ _ _ _ h=>h
def RSl{α:Type}(R:Rep α)(size:Nat):Rep (List α):=λH cs l=>∃v,cs= [v]∧IsSlice H R size v l
theorem RSl.mono{α:Type}{R:Rep α}{size:Nat}(hR:R.Mono):(RSl R size).Mono:=λ_ _ _ _ hle ⟨v,e,h⟩=>⟨v,e,h.mono hR hle⟩
theorem IsSlice.one1{α:Type}{R:Rep α}{size:Nat}{v:Value}{m:List α}{HF:Heaplet}(h:IsSlice HF R size v m):v.oneCell'=true:=by obtain⟨ao,cap,rfl,_⟩:=h;rfl
theorem RSl.one{α:Type}{R:Rep α}{size:Nat}:(RSl R size).One:=λ_ _ _ ⟨v,e,h⟩=>by subst e;intro u hu;simp at hu;subst hu;exact h.one1
theorem Flat.conv{α:Type}{R:Rep α}{H1 H2:Heaplet}(hR:∀cs y,R H1 cs y→R H2 cs y){size:Nat}:∀{l:List α} {cells:List Value},Flat H1 R size cells l→Flat H2 R size cells l
  |[],cells,h=>h
  | y::r,cells,h=>by
    obtain⟨cs,more,rfl,h1,h2,h3⟩:=h
    exact⟨cs,more,rfl,h1,hR _ _ h2,Flat.conv hR h3⟩
theorem RowOf.const{α:Type}{R:Rep α}(hR:R.Const){H1 H2:Heaplet}{B:Nat}{E:TypeId}{size:Nat}{v:Value}{ls:List α}{K:Own}(h:RowOf H1 R B E size v ls K):RowOf H2 R B E size v ls K:=by
 obtain⟨cells,h1,h2,h3⟩:=h
 exact⟨cells,h1,h2.conv (hR _ _),h3⟩
theorem Holds.pubN{α:Type}{R:Rep α}(hR:R.Mono){i:Nat}{K:Own}{B:Nat}{E:TypeId}{size:Nat}{v:Value}{ls:List α}(hi:own[i]? =some K)(hr:RowOf (New x.H0 H) R B E size v ls K)(hB:x.w0.heap.size≤B)
 {a:Act}{w:World}(hh:Holds x l own H a w):∃H',Hle H H'∧IsSlice (New x.H0 H') R size v ls∧Holds x l (own.set i []) H' a w:=by
 obtain⟨cells,⟨h0,h1⟩,hf,ho⟩:=hr
 rcases h1 with⟨rfl,h3,rfl⟩|⟨g,cap,cur,rfl,rfl,e3,e4,e5,e6,e7⟩
 · have:ls= []:=List.length_eq_zero_iff.1 h3
   subst this
   exact⟨H,Hle.refl _,IsSlice.nil _ _ _,hh.size,hh.ds,hh.slots,by
    have e:own.set i []=own:=by
     apply List.ext_getElem?
     intro j
     rw[List.getElem?_set]
     split
     · rename_i hj;subst hj;rw[hi];split
       · rfl
       · rename_i hlt;have:=(List.getElem?_eq_some_iff.1 hi).1;omega
     · rfl
    rw[e];exact hh.mem⟩
 · have hm:=Mem.pub hh.mem hi (Nat.le_trans hB e3)
   have hgn:∀o,H g o=none:=λo=>(own_here hh.mem hi).apart (g,.cells cur E (0,0)) (by simp) o
   have hg0:∀o,x.H0 g o=none:=λo=>by
    cases h:x.H0 g o with
    |none=>rfl
    |some v=>have:=hh.mem.le _ _ _ h;rw[hgn]at this;cases this
   have hle:Hle H (λb o=>if b=g then cur[o]? else H b o):=λb o v e=>by
    by_cases hb:b=g
    · subst hb;rw[hgn]at e;cases e
    · simp[hb,e]
   refine⟨_,hle,?_,hh.size,hh.ds,hh.slots,hm⟩
   refine IsSlice.of_cells (hf.mono hR (New.mono hle)) e4 e5 (λj u hj=> ?_)
   rw[←e7,List.getElem?_take]at hj
   split at hj
   · simp[New,hg0];simpa using hj
   · cases hj
theorem JN.pubN{C:Act→World→Prop}{α:Type}{R:Rep α}(i:Nat)(hR:R.Mono){K:Own}{B:Nat}{E:TypeId}{size:Nat}{v:Value}{ls:List α}(hi:own[i]? =some K)(hr:RowOf (New x.H0 H) R B E size v ls K)(hB:x.w0.heap.size≤B)
 (h:∀H',Hle H H'→IsSlice (New x.H0 H') R size v ls→JN x C l (own.set i []) H'):JN x C l own H:=λa w hh=>by
 obtain⟨H',h1,h2,h3⟩:=hh.pubN hR hi hr hB;exact h H' h1 h2 a w h3
theorem JL.pubN{α:Type}{R:Rep α}(i:Nat)(hR:R.Mono){K:Own}{B:Nat}{E:TypeId}{size:Nat}{v:Value}{ls:List α}(hi:own[i]? =some K)(hr:RowOf (New x.H0 H) R B E size v ls K)(hB:x.w0.heap.size≤B)
 (h:∀H',Hle H H'→IsSlice (New x.H0 H') R size v ls→JL x ops Q rest l (own.set i []) H'):JL x ops Q rest l own H:=JN.pubN (C:=λa w=>wpLs x.P x.r ops Q rest a w) i hR hi hr hB h
def Res (P:Program)(l:Slots)(own:List Own):List ResultVar→List Value→Prop
 |[],vs=>vs= []
 | .tmp t::rs,vs=>∃v r,vs=v::r∧lk l t=some v∧Res P l own rs r
 | .cell t T::rs,vs=>∃v r,vs=v::r∧(∃(b i:Nat) (cur:Array Value) (tt:TypeId) (fr:Nat×Nat),lk l t=some (.pointer (some ⟨b,0,none⟩))∧own[i]? =some [(b,Obj.cells cur tt fr)]∧
  ((shapeOf P T=some (true,cur.toList.length)∧v=.agg cur)∨(∃n,shapeOf P T=some (false,n)∧cur.toList[0]? =some v)))∧Res P l own rs r
theorem Res.tmp{P:Program}{t:Tmp}{v:Value}{rs:List ResultVar}{r:List Value}(h:lk l t=some v)(k:Res P l own rs r):Res P l own (.tmp t::rs) (v::r):=⟨v,r,rfl,h,k⟩
theorem Res.cellN{P:Program}{t:Tmp}{T b:Nat}{cur:Array Value}{tt:TypeId}{fr:Nat×Nat}{rs:List ResultVar}{r:List Value}(i:Nat)(h:lk l t=some (.pointer (some ⟨b,0,none⟩)))(hi:own[i]? =some [(b,Obj.cells cur tt fr)])
 (hs:shapeOf P T=some (true,cur.toList.length))(k:Res P l own rs r):Res P l own (.cell t T::rs) (.agg cur::r):=⟨_,r,rfl,⟨b,i,cur,tt,fr,h,hi,.inl ⟨hs,rfl⟩⟩,k⟩
theorem Res.cell1{P:Program}{t:Tmp}{T b n:Nat}{v:Value}{cur:Array Value}{tt:TypeId}{fr:Nat×Nat}{rs:List ResultVar}{r:List Value}(i:Nat)(h:lk l t=some (.pointer (some ⟨b,0,none⟩)))(hi:own[i]? =some [(b,Obj.cells cur tt fr)])
 (hs:shapeOf P T=some (false,n))(hc:cur.toList[0]? =some v)(k:Res P l own rs r):Res P l own (.cell t T::rs) (v::r):=⟨_,r,rfl,⟨b,i,cur,tt,fr,h,hi,.inr ⟨n,hs,hc⟩⟩,k⟩
def pack:List Value→Value
 |[v]=>v
 |vs=>.tuple vs.toArray
def resF (tmps:Array Value):ResultVar→Sem Value
 | .tmp t=>pure (tmps.getD t undef)
 | .cell a t=>do loadVar t (←asAddr (tmps.getD a undef))
theorem res_mapM{w:World}{a:Act}(hh:Holds x l own H a w):∀(rs:List ResultVar) (vs:List Value),Res x.P l own rs vs→(rs.mapM (resF a.tmps)).run x.P w=.ok vs w
  |[],vs,h=>by simp only[Res]at h;subst h;rfl
  | .tmp t::rs,vs,h=>by
    obtain⟨v,r,rfl,h1,h2⟩:=h
    rw[List.mapM_cons]
    simp only[resF,Sem.run_bind,Sem.run_pure,Result.andThen,res_mapM hh rs r h2,Array.getD_eq_getD_getElem?,hh.slots t _ h1]
  | .cell t T::rs,vs,h=>by
    obtain⟨v,r,rfl,⟨b,i,cur,tt,fr,h1,hi,hcase⟩,h2⟩:=h
    rw[List.mapM_cons]
    have hb:=hh.mem.ok.here (b,.cells cur tt fr) (List.mem_flatten.2 ⟨_,List.mem_of_getElem? hi,by simp⟩)
    have hl':(loadVar T ⟨b,0,none⟩).run x.P w=.ok v w:=by
      have e:Instr.loadAt T (.pointer (some ⟨b,0,none⟩))=loadVar T ⟨b,0,none⟩:=by simp[Instr.loadAt,Instr.sureAddr]
      rw[←e]
      rcases hcase with⟨hs,rfl⟩|⟨n,hs,hc⟩
      · have hl:=run_loadN (P:=x.P) (T:=T) (w:=w) (b:=b) (o:=0) (vs:=cur.toList) hs (λj u e=>by rw[Nat.zero_add,cell_of_row w b j cur tt fr hb];simpa using e)
        simpa using hl
      · exact run_load1 hs (by rw[cell_of_row w b 0 cur tt fr hb];simpa using hc)
    simp only[resF,Sem.run_bind,Sem.run_pure,Result.andThen,Array.getD_eq_getD_getElem?,hh.slots t _ h1,asAddr,hl',res_mapM hh rs r h2]
theorem res_run{fn:Func}{w:World}{a:Act}{rs:List ResultVar}{vs:List Value}(hh:Holds x l own H a w)(hr:fn.results=rs.toArray)(h:Res x.P l own rs vs):(results fn a.tmps).run x.P w=.ok (pack vs) w:=by
 have:=res_mapM hh rs vs h
 have e:results fn a.tmps=(do let vs←fn.results.mapM (resF a.tmps);pure (if h:vs.size=1 then vs[0]else .tuple vs)):=by
  unfold results;congr 1
 rw[e,hr]
 simp only[Sem.run_bind,Array.mapM_eq_mapM_toList,map_eq_pure_bind,Result.andThen]
 rw[this]
 simp only[Sem.run_pure]
 congr 1
 cases vs with
 |nil=>rfl
 |cons v r=>cases r<;>simp[pack]
theorem JN.outP{fn:Func}{R:Value→List Own→Heaplet→Prop}{e:Exit}{rs:List ResultVar}{vs:List Value}{K rst:List Own}(he:e=.ret∨e=.normal)(hr:fn.results=rs.toArray)(hd:x.ds= [])(hv:Res x.P l own rs vs)
 (hp:own.flatten.Perm (K.flatten++rst.flatten))(h:R (pack vs) K H):JN x (Ret x fn R e) l own H:=λa w hh=>by
 have hm:Mem x.w0 x.H0 x.S K.flatten H w:=(hh.mem.perm hp).sub (List.sublist_append_left _ _)
 have:bodyPost x.P fn (λe w'=>∃v K' H',e=.returned v∧R v K' H'∧Mem x.w0 x.H0 x.S K'.flatten H' w') .ret a w:=
  ⟨hh.ds.trans hd,_,res_run hh hr hv,_,K,H,rfl,h,hm⟩
 rcases he with rfl|rfl<;>exact this
end Go.Ow
namespace Go.Ow
open Go.RowKit
variable{x:Cx}{l:Slots}{own:List Own}{H:Heaplet}{ty:TypeId}{p q:Operand}{t u:TypeId}
theorem wrapU8 (n:Int):IntKind.u8.wrap n=n%256:=by simp[IntKind.wrap,IntKind.bits,IntKind.signed]
theorem ltU8 (a:UInt8):a.toNat<256:=a.toNat_lt
theorem R.lss8{a b:UInt8}(h1:evo l p=some (.int .u8 ((a).toNat:Int)))(h2:evo l q=some (.int .u8 ((b).toNat:Int))):Runs x (.binOp .lss t p q u) ty l own H (.bool (decide (a<b))):=
 λρ w _ _ _ _ hρ hm=>by simp[execOp,hρ _ _ h1,hρ _ _ h2,eqGuard,binOp,Op.intCmp,go_sem,UInt8.lt_iff_toNat_lt]
theorem R.gtr8{a b:UInt8}(h1:evo l p=some (.int .u8 ((a).toNat:Int)))(h2:evo l q=some (.int .u8 ((b).toNat:Int))):Runs x (.binOp .gtr t p q u) ty l own H (.bool (decide (b<a))):=
 λρ w _ _ _ _ hρ hm=>by simp[execOp,hρ _ _ h1,hρ _ _ h2,eqGuard,binOp,Op.intCmp,go_sem,UInt8.lt_iff_toNat_lt]
theorem R.eql8{a b:UInt8}(h1:evo l p=some (.int .u8 ((a).toNat:Int)))(h2:evo l q=some (.int .u8 ((b).toNat:Int))):Runs x (.binOp .eql t p q u) ty l own H (.bool (decide (a=b))):=
 λρ w _ _ _ _ hρ hm=>by simp[execOp,hρ _ _ h1,hρ _ _ h2,eqGuard,binOp,Op.intCmp,go_sem,←UInt8.toNat_inj];rw[Bool.eq_iff_iff];simp;omega
theorem R.neq8{a b:UInt8}(h1:evo l p=some (.int .u8 ((a).toNat:Int)))(h2:evo l q=some (.int .u8 ((b).toNat:Int))):Runs x (.binOp .neq t p q u) ty l own H (.bool (!decide (a=b))):=
 λρ w _ _ _ _ hρ hm=>by simp[execOp,hρ _ _ h1,hρ _ _ h2,eqGuard,binOp,Op.intCmp,go_sem,←UInt8.toNat_inj];rw[Bool.eq_iff_iff];simp;omega
theorem wrapU32 (n:Int):IntKind.u32.wrap n=n%4294967296:=by simp[IntKind.wrap,IntKind.bits,IntKind.signed]
theorem ltU32 (a:UInt32):a.toNat<4294967296:=a.toNat_lt
theorem wr_add32 (a b:UInt32):IntKind.u32.wrap ((a.toNat:Int)+(b.toNat:Int))=((a+b).toNat:Int):=by
 rw[wrapU32,UInt32.toNat_add];omega
theorem R.add32{a b:UInt32}(h1:evo l p=some (.int .u32 ((a).toNat:Int)))(h2:evo l q=some (.int .u32 ((b).toNat:Int))):Runs x (.binOp .add t p q u) ty l own H (.int .u32 ((a+b).toNat:Int)):=
 λρ w _ _ _ _ hρ hm=>by rw[←wr_add32];simp[execOp,hρ _ _ h1,hρ _ _ h2,eqGuard,binOp,Op.intArith,go_sem]
theorem wr_xor32 (a b:UInt32):IntKind.u32.wrap ((BitVec.ofInt (IntKind.bits .u32) (a.toNat:Int)^^^BitVec.ofInt (IntKind.bits .u32) (b.toNat:Int)).toNat:Int)=((a^^^b).toNat:Int):=by
 have h1:=ltU32 (a^^^b)
 have e:(BitVec.ofInt (IntKind.bits .u32) (a.toNat:Int)^^^BitVec.ofInt (IntKind.bits .u32) (b.toNat:Int)).toNat=(a^^^b).toNat:=by
  show(BitVec.ofInt 32 (a.toNat:Int)^^^BitVec.ofInt 32 (b.toNat:Int)).toNat=_
  rw[BitVec.ofInt_natCast,BitVec.ofInt_natCast,BitVec.toNat_xor,BitVec.toNat_ofNat,BitVec.toNat_ofNat,UInt32.toNat_xor]
  rw[Nat.mod_eq_of_lt (ltU32 a),Nat.mod_eq_of_lt (ltU32 b)]
 rw[e,wrapU32];omega
theorem R.xor32{a b:UInt32}(h1:evo l p=some (.int .u32 ((a).toNat:Int)))(h2:evo l q=some (.int .u32 ((b).toNat:Int))):Runs x (.binOp .xor t p q u) ty l own H (.int .u32 ((a^^^b).toNat:Int)):=
 λρ w _ _ _ _ hρ hm=>by rw[←wr_xor32];simp[execOp,hρ _ _ h1,hρ _ _ h2,eqGuard,binOp,Op.intBits,go_sem]
theorem wr_or32 (a b:UInt32):IntKind.u32.wrap ((BitVec.ofInt (IntKind.bits .u32) (a.toNat:Int) |||BitVec.ofInt (IntKind.bits .u32) (b.toNat:Int)).toNat:Int)=((a |||b).toNat:Int):=by
 have h1:=ltU32 (a |||b)
 have e:(BitVec.ofInt (IntKind.bits .u32) (a.toNat:Int) |||BitVec.ofInt (IntKind.bits .u32) (b.toNat:Int)).toNat=(a |||b).toNat:=by
  show(BitVec.ofInt 32 (a.toNat:Int) |||BitVec.ofInt 32 (b.toNat:Int)).toNat=_
  rw[BitVec.ofInt_natCast,BitVec.ofInt_natCast,BitVec.toNat_or,BitVec.toNat_ofNat,BitVec.toNat_ofNat,UInt32.toNat_or]
  rw[Nat.mod_eq_of_lt (ltU32 a),Nat.mod_eq_of_lt (ltU32 b)]
 rw[e,wrapU32];omega
theorem R.or32{a b:UInt32}(h1:evo l p=some (.int .u32 ((a).toNat:Int)))(h2:evo l q=some (.int .u32 ((b).toNat:Int))):Runs x (.binOp .or t p q u) ty l own H (.int .u32 ((a |||b).toNat:Int)):=
 λρ w _ _ _ _ hρ hm=>by rw[←wr_or32];simp[execOp,hρ _ _ h1,hρ _ _ h2,eqGuard,binOp,Op.intBits,go_sem]
theorem R.eql32{a b:UInt32}(h1:evo l p=some (.int .u32 ((a).toNat:Int)))(h2:evo l q=some (.int .u32 ((b).toNat:Int))):Runs x (.binOp .eql t p q u) ty l own H (.bool (decide (a=b))):=
 λρ w _ _ _ _ hρ hm=>by simp[execOp,hρ _ _ h1,hρ _ _ h2,eqGuard,binOp,Op.intCmp,go_sem,←UInt32.toNat_inj];rw[Bool.eq_iff_iff];simp;omega
theorem R.neq32{a b:UInt32}(h1:evo l p=some (.int .u32 ((a).toNat:Int)))(h2:evo l q=some (.int .u32 ((b).toNat:Int))):Runs x (.binOp .neq t p q u) ty l own H (.bool (!decide (a=b))):=
 λρ w _ _ _ _ hρ hm=>by simp[execOp,hρ _ _ h1,hρ _ _ h2,eqGuard,binOp,Op.intCmp,go_sem,←UInt32.toNat_inj];rw[Bool.eq_iff_iff];simp;omega
theorem R.shl32{a:UInt32}{n:Int}{k':IntKind}(h1:evo l p=some (.int .u32 ((a).toNat:Int)))(h2:evo l q=some (.int k' n))(h0:0≤n):Runs x (.binOp .shl t p q u) ty l own H (.int .u32 ((sl32 a n.toNat).toNat:Int)):=by
 have e:IntKind.u32.wrap ((a.toNat:Int)*2^(min n.toNat 32))=((sl32 a n.toNat).toNat:Int):=by
  rw[wrapU32,sl32,UInt32.toNat_ofNat',show((2:Int)^(min n.toNat 32))=((2^(min n.toNat 32):Nat):Int) by simp,←Int.natCast_mul];omega
 exact λρ w _ _ _ _ hρ hm=>by rw[←e];simp[execOp,hρ _ _ h1,hρ _ _ h2,eqGuard,binOp,Op.shift,IntKind.bits,show¬n<0 by omega,go_sem]
theorem R.shr32{a:UInt32}{n:Int}{k':IntKind}(h1:evo l p=some (.int .u32 ((a).toNat:Int)))(h2:evo l q=some (.int k' n))(h0:0≤n):Runs x (.binOp .shr t p q u) ty l own H (.int .u32 ((sr32 a n.toNat).toNat:Int)):=by
 have e:((a.toNat:Int).fdiv (2^(min n.toNat 32)))=((sr32 a n.toNat).toNat:Int):=by
  rw[sr32,UInt32.toNat_ofNat',show((2:Int)^(min n.toNat 32))=((2^(min n.toNat 32):Nat):Int) by simp,←Int.ofNat_fdiv];have h1:=ltU32 a;have:=Nat.div_le_self a.toNat (2^(min n.toNat 32));rw[Nat.mod_eq_of_lt (by omega)]
 exact λρ w _ _ _ _ hρ hm=>by rw[←e];simp[execOp,hρ _ _ h1,hρ _ _ h2,eqGuard,binOp,Op.shift,IntKind.bits,show¬n<0 by omega,go_sem]
theorem wrapU64 (n:Int):IntKind.u64.wrap n=n%18446744073709551616:=by simp[IntKind.wrap,IntKind.bits,IntKind.signed]
theorem ltU64 (a:UInt64):a.toNat<18446744073709551616:=a.toNat_lt
theorem wr_add64 (a b:UInt64):IntKind.u64.wrap ((a.toNat:Int)+(b.toNat:Int))=((a+b).toNat:Int):=by
 rw[wrapU64,UInt64.toNat_add];omega
theorem R.add64{a b:UInt64}(h1:evo l p=some (.int .u64 ((a).toNat:Int)))(h2:evo l q=some (.int .u64 ((b).toNat:Int))):Runs x (.binOp .add t p q u) ty l own H (.int .u64 ((a+b).toNat:Int)):=
 λρ w _ _ _ _ hρ hm=>by rw[←wr_add64];simp[execOp,hρ _ _ h1,hρ _ _ h2,eqGuard,binOp,Op.intArith,go_sem]
theorem wr_sub64 (a b:UInt64):IntKind.u64.wrap ((a.toNat:Int)-(b.toNat:Int))=((a-b).toNat:Int):=by
 have h1:=ltU64 a;have h2:=ltU64 b
 rw[wrapU64,UInt64.toNat_sub];omega
theorem R.sub64{a b:UInt64}(h1:evo l p=some (.int .u64 ((a).toNat:Int)))(h2:evo l q=some (.int .u64 ((b).toNat:Int))):Runs x (.binOp .sub t p q u) ty l own H (.int .u64 ((a-b).toNat:Int)):=
 λρ w _ _ _ _ hρ hm=>by rw[←wr_sub64];simp[execOp,hρ _ _ h1,hρ _ _ h2,eqGuard,binOp,Op.intArith,go_sem]
theorem wr_mul64 (a b:UInt64):IntKind.u64.wrap ((a.toNat:Int)*(b.toNat:Int))=((a*b).toNat:Int):=by
 rw[wrapU64,UInt64.toNat_mul,←Int.natCast_mul];omega
theorem R.mul64{a b:UInt64}(h1:evo l p=some (.int .u64 ((a).toNat:Int)))(h2:evo l q=some (.int .u64 ((b).toNat:Int))):Runs x (.binOp .mul t p q u) ty l own H (.int .u64 ((a*b).toNat:Int)):=
 λρ w _ _ _ _ hρ hm=>by rw[←wr_mul64];simp[execOp,hρ _ _ h1,hρ _ _ h2,eqGuard,binOp,Op.intArith,go_sem]
theorem wr_and64 (a b:UInt64):IntKind.u64.wrap ((BitVec.ofInt (IntKind.bits .u64) (a.toNat:Int)&&&BitVec.ofInt (IntKind.bits .u64) (b.toNat:Int)).toNat:Int)=((a&&&b).toNat:Int):=by
 have h1:=ltU64 (a&&&b)
 have e:(BitVec.ofInt (IntKind.bits .u64) (a.toNat:Int)&&&BitVec.ofInt (IntKind.bits .u64) (b.toNat:Int)).toNat=(a&&&b).toNat:=by
  show(BitVec.ofInt 64 (a.toNat:Int)&&&BitVec.ofInt 64 (b.toNat:Int)).toNat=_
  rw[BitVec.ofInt_natCast,BitVec.ofInt_natCast,BitVec.toNat_and,BitVec.toNat_ofNat,BitVec.toNat_ofNat,UInt64.toNat_and]
  rw[Nat.mod_eq_of_lt (ltU64 a),Nat.mod_eq_of_lt (ltU64 b)]
 rw[e,wrapU64];omega
theorem R.and64{a b:UInt64}(h1:evo l p=some (.int .u64 ((a).toNat:Int)))(h2:evo l q=some (.int .u64 ((b).toNat:Int))):Runs x (.binOp .and t p q u) ty l own H (.int .u64 ((a&&&b).toNat:Int)):=
 λρ w _ _ _ _ hρ hm=>by rw[←wr_and64];simp[execOp,hρ _ _ h1,hρ _ _ h2,eqGuard,binOp,Op.intBits,go_sem]
theorem R.lss64{a b:UInt64}(h1:evo l p=some (.int .u64 ((a).toNat:Int)))(h2:evo l q=some (.int .u64 ((b).toNat:Int))):Runs x (.binOp .lss t p q u) ty l own H (.bool (decide (a<b))):=
 λρ w _ _ _ _ hρ hm=>by simp[execOp,hρ _ _ h1,hρ _ _ h2,eqGuard,binOp,Op.intCmp,go_sem,UInt64.lt_iff_toNat_lt]
theorem R.gtr64{a b:UInt64}(h1:evo l p=some (.int .u64 ((a).toNat:Int)))(h2:evo l q=some (.int .u64 ((b).toNat:Int))):Runs x (.binOp .gtr t p q u) ty l own H (.bool (decide (b<a))):=
 λρ w _ _ _ _ hρ hm=>by simp[execOp,hρ _ _ h1,hρ _ _ h2,eqGuard,binOp,Op.intCmp,go_sem,UInt64.lt_iff_toNat_lt]
theorem R.shl64{a:UInt64}{n:Int}{k':IntKind}(h1:evo l p=some (.int .u64 ((a).toNat:Int)))(h2:evo l q=some (.int k' n))(h0:0≤n):Runs x (.binOp .shl t p q u) ty l own H (.int .u64 ((sl64 a n.toNat).toNat:Int)):=by
 have e:IntKind.u64.wrap ((a.toNat:Int)*2^(min n.toNat 64))=((sl64 a n.toNat).toNat:Int):=by
  rw[wrapU64,sl64,UInt64.toNat_ofNat',show((2:Int)^(min n.toNat 64))=((2^(min n.toNat 64):Nat):Int) by simp,←Int.natCast_mul];omega
 exact λρ w _ _ _ _ hρ hm=>by rw[←e];simp[execOp,hρ _ _ h1,hρ _ _ h2,eqGuard,binOp,Op.shift,IntKind.bits,show¬n<0 by omega,go_sem]
theorem R.shr64{a:UInt64}{n:Int}{k':IntKind}(h1:evo l p=some (.int .u64 ((a).toNat:Int)))(h2:evo l q=some (.int k' n))(h0:0≤n):Runs x (.binOp .shr t p q u) ty l own H (.int .u64 ((sr64 a n.toNat).toNat:Int)):=by
 have e:((a.toNat:Int).fdiv (2^(min n.toNat 64)))=((sr64 a n.toNat).toNat:Int):=by
  rw[sr64,UInt64.toNat_ofNat',show((2:Int)^(min n.toNat 64))=((2^(min n.toNat 64):Nat):Int) by simp,←Int.ofNat_fdiv];have h1:=ltU64 a;have:=Nat.div_le_self a.toNat (2^(min n.toNat 64));rw[Nat.mod_eq_of_lt (by omega)]
 exact λρ w _ _ _ _ hρ hm=>by rw[←e];simp[execOp,hρ _ _ h1,hρ _ _ h2,eqGuard,binOp,Op.shift,IntKind.bits,show¬n<0 by omega,go_sem]
theorem wr_u8i (n:Int):IntKind.u8.wrap n=((u8i n).toNat:Int):=by rw[wrapU8,u8i,UInt8.toNat_ofNat'];omega
theorem R.cv_i64_u8{s:TypeId}{ds:TypeDesc}{k:IntKind}{m:Int}(hs:x.P.underlying s=some ds)(ht:x.P.underlying t=some (.int .u8))(h1:evo l p=some (.int k m)):Runs x (.convert s t p) ty l own H (.int .u8 ((u8i m).toNat:Int)):=by
 rw[←wr_u8i];exact R.convW hs ht h1
theorem R.cv_u8_i64{s:TypeId}{ds:TypeDesc}{a:UInt8}(hs:x.P.underlying s=some ds)(ht:x.P.underlying t=some (.int .i64))(h1:evo l p=some (.int .u8 (a.toNat:Int))):Runs x (.convert s t p) ty l own H (.int .i64 (a.toNat:Int)):=by
 have e:IntKind.i64.wrap (a.toNat:Int)=(a.toNat:Int):=wi64 (by omega) (by have:=ltU8 a;omega)
 have:=R.convW (x:=x) (own:=own) (H:=H) (ty:=ty) hs ht h1;rw[e]at this;exact this
theorem wr_u32i (n:Int):IntKind.u32.wrap n=((u32i n).toNat:Int):=by rw[wrapU32,u32i,UInt32.toNat_ofNat'];omega
theorem R.cv_i64_u32{s:TypeId}{ds:TypeDesc}{k:IntKind}{m:Int}(hs:x.P.underlying s=some ds)(ht:x.P.underlying t=some (.int .u32))(h1:evo l p=some (.int k m)):Runs x (.convert s t p) ty l own H (.int .u32 ((u32i m).toNat:Int)):=by
 rw[←wr_u32i];exact R.convW hs ht h1
theorem R.cv_u32_i64{s:TypeId}{ds:TypeDesc}{a:UInt32}(hs:x.P.underlying s=some ds)(ht:x.P.underlying t=some (.int .i64))(h1:evo l p=some (.int .u32 (a.toNat:Int))):Runs x (.convert s t p) ty l own H (.int .i64 (a.toNat:Int)):=by
 have e:IntKind.i64.wrap (a.toNat:Int)=(a.toNat:Int):=wi64 (by omega) (by have:=ltU32 a;omega)
 have:=R.convW (x:=x) (own:=own) (H:=H) (ty:=ty) hs ht h1;rw[e]at this;exact this
theorem wr_u64i (n:Int):IntKind.u64.wrap n=((u64i n).toNat:Int):=by rw[wrapU64,u64i,UInt64.toNat_ofNat'];omega
theorem R.cv_i64_u64{s:TypeId}{ds:TypeDesc}{k:IntKind}{m:Int}(hs:x.P.underlying s=some ds)(ht:x.P.underlying t=some (.int .u64))(h1:evo l p=some (.int k m)):Runs x (.convert s t p) ty l own H (.int .u64 ((u64i m).toNat:Int)):=by
 rw[←wr_u64i];exact R.convW hs ht h1
theorem R.cv_u64_i64{s:TypeId}{ds:TypeDesc}{a:UInt64}(hs:x.P.underlying s=some ds)(ht:x.P.underlying t=some (.int .i64))(h1:evo l p=some (.int .u64 (a.toNat:Int))):Runs x (.convert s t p) ty l own H (.int .i64 (w64 (a.toNat:Int))):=by
 rw[←wrap_w64];exact R.convW hs ht h1
end Go.Ow
namespace Go.Ow
open Go.RowKit
variable{x:Cx}{ops:Array Oper}{Q:Exit→Act→World→Prop}{rest:List Oper}{l:Slots}{own:List Own}{H HF:Heaplet}
variable{ty:TypeId}{d:Nat}{pos:String}{aft:Array Edge}{v:Value}{p q:Operand}{t:TypeId}
def SrcF{α:Type}(x:Cx)(H HF:Heaplet)(own:List Own)(R:Rep α)(size:Nat)(tx:TypeId)(y:Value)(ls:List α):Prop:=
 ∃cells,Flat HF R size cells ls∧oneCells cells∧∀w,Mem x.w0 x.H0 x.S own.flatten H w→Src x.P size tx y ls.length cells w
theorem SrcF.slice{α:Type}{R:Rep α}(hR:R.One){size:Nat}{tx e:TypeId}{y:Value}{ls:List α}(hu:x.P.underlying tx=some (.slice e))(hle:Hle HF H)(hs:IsSlice HF R size y ls):SrcF x H HF own R size tx y ls:=by
 obtain⟨cells,hf,ao,cap,rfl,hc⟩:=hs.cells
 refine⟨cells,hf,hf.one' hR,λw hm=> ?_⟩
 rcases hc with rfl|⟨b,o,rfl,hc⟩
 · simp only[Flat]at hf;subst hf
   cases ao with
   |none=>exact Src.ofNil w hu cap
   |some a=>exact Src.ofSlice w hu a 0 cap [] (by simp) (λj u h=>by simp at h) (λu h=>by cases h)
 · exact Src.ofSlice w hu ⟨b,o,none⟩ _ cap cells (by rw[hf.length]) (λj u h=>by rw[add_lit];exact hm.agr _ _ _ (hle _ _ _ (hc j u h))) (hf.one' hR)
theorem SrcF.row{α:Type}{R:Rep α}{size B:Nat}{tx e E:TypeId}{y:Value}{ls:List α}{K:Own}(j:Nat)(hu:x.P.underlying tx=some (.slice e))(hj:own[j]? =some K)(hs:RowOf HF R B E size y ls K):SrcF x H HF own R size tx y ls:=by
 obtain⟨cells,⟨h0,h1⟩,hf,ho⟩:=hs
 refine⟨cells,hf,ho,λw hm=> ?_⟩
 rcases h1 with⟨rfl,h3,h4⟩|⟨g,cap,cur,rfl,e2,e3,e4,e5,e6,e7⟩
 · have:ls= []:=List.length_eq_zero_iff.1 h3
   subst this
   simp only[Flat]at hf;subst hf
   exact Src.ofNil w hu 0
 · subst e2
   have hg:=(own_here hm hj).here (g,.cells cur E (0,0)) (by simp)
   refine Src.ofSlice w hu ⟨g,0,none⟩ _ cap cells (by rw[h0]) (λj u h=> ?_) ho
   rw[add_lit,Nat.zero_add,cell_of_row w g j cur E (0,0) hg]
   rw[←e7,List.getElem?_take]at h
   split at h
   · simpa using h
   · cases h
theorem lim_max{n:Nat}(h:n≤LIM):n≤maxLen:=by unfold LIM at h;unfold maxLen;omega
theorem lim_bytes{n bytes:Nat}(h:n≤LIM)(hb:Nat.ble bytes 128=true):n*bytes≤140737488355328:=by
 have h2:=Nat.le_of_ble_eq_true hb
 have:=Nat.mul_le_mul h h2
 unfold LIM at this;omega
theorem JL.appF{α:Type}{R:Rep α}(i:Nat){tx E:TypeId}{z y:Value}{size bytes B:Nat}{ls ms rs:List α}{K:Own}(hu:x.P.underlying t=some (.slice E))(he:eInfo x.P E=some (z,size,bytes))
 (h1:evo l p=some v)(hi:own[i]? =some K)(hr:RowOf HF R B E size v ls K)(h2:evo l q=some y)(hs:SrcF x H HF own R size tx y ms)
 (hrs:rs=ls++ms)(hl:ls.length+ms.length≤LIM)(hb:Nat.ble bytes 128=true)(hB:B≤x.w0.heap.size)(hd:Nat.blt d x.n=true)
 (h:∀v' K',RowOf HF R B E size v' rs K'→JL x ops Q rest ((d,v')::l) (own.set i K') H):
 JL x ops Q (⟨some d,.call ⟨.builtin .append,#[p,q],#[t,tx]⟩,ty,pos,aft,none⟩::rest) l own H:=λa w hh=>by
 subst hrs
 simp only[wpLs,wanted_none,if_true]
 refine⟨λ_ _=>trivial,?_⟩
 obtain⟨cells,hrow,hf,hone⟩:=hr
 obtain⟨news,hfn,honen,hsrc⟩:=hs
 obtain⟨v',K',w',hrun,hrow',hm⟩:=append_row (ty:=ty) hu he hh.mem.agr (own_here hh.mem hi) hrow (hsrc w hh.mem) (lim_max hl) (lim_bytes hl hb) (Nat.le_trans hB hh.mem.kept.size)
 have hrun':(execOp a.eval ⟨some d,.call ⟨.builtin .append,#[p,q],#[t,tx]⟩,ty,pos,aft,none⟩).run x.P w=.ok (.value v') w':=by
  have e1:=eval_of hh h1
  have e2:=eval_of hh h2
  have:(execOp a.eval ⟨some d,.call ⟨.builtin .append,#[p,q],#[t,tx]⟩,ty,pos,aft,none⟩).run x.P w=((Builtin.append_ #[t,tx] ty #[v,y]).run x.P w).andThen (λr w''=>.ok (.value r) w''):=by
   generalize a.eval=ρ at e1 e2
   have e3:Array.map ρ #[p,q]= #[v,y]:=by simp[e1,e2]
   simp only[execOp,resolve,e3,Sem.run_bind,Sem.run_pure,Result.andThen,invoke,builtin]
  rw[this,hrun];rfl
 rw[semAt_of rfl,hrun']
 exact h v' K' ⟨cells++news,by simpa using hrow',Flat.append hfn hf,λu hu=>(List.mem_append.1 hu).elim (hone u) (honen u)⟩ _ _
  (Holds.put (x:=x) (l:=l) ⟨hh.size,hh.ds,hh.slots,hh.mem.go1 hi hm⟩ hd v')
theorem JL.bslF{α:Type}{R:Rep α}{E n:Nat}{z:Value}{size bytes:Nat}{parts:Array (Nat×Operand)}{vs:List Value}{ls:List α}(hu:x.P.underlying t=some (.slice E))(he:eInfo x.P E=some (z,size,bytes))
    (hv:parts.toList.mapM (λp=>(evo l p.2).map (λu=>(p.1,u)))=some ((List.range' 0 vs.length).zip vs))(hs:vs.all (λu=>Nat.beq u.cells.size size)=true)(hf:Flat HF R size (vs.map (·.cells.toList)).flatten ls)
    (hR1:R.One)(hn:n=vs.length)(hl:ls.length=vs.length)(hb:Nat.ble (n*size) 16777216=true)(hm:n≤maxLen)(hd:Nat.blt d x.n=true)
    (h:∀v' K',RowOf HF R x.w0.heap.size E size v' ls K'→JL x ops Q rest ((d,v')::l) (K'::own) H):JL x ops Q (⟨some d,.buildSlice t n parts,ty,pos,aft,none⟩::rest) l own H:=by
  -- the elements as bare cells
  refine JL.bsl (R:=(λ_ cs (k:Nat)=>cs.length=size∧oneCells cs∧∃y,ls[k]? =some y∧R HF cs y:Rep Nat)) (ls:=List.range' 0 ls.length) (vs:=vs) hu he hv hs ?_ ?_ hn (by simpa using hl) hb hm hd ?_
  · have key:∀(m:List α) (k:Nat) (cells:List Value),(∀i y,m[i]? =some y→ls[k+i]? =some y)→Flat HF R size cells m→
        Flat H (λ_ cs (k:Nat)=>cs.length=size∧oneCells cs∧∃y,ls[k]? =some y∧R HF cs y:Rep Nat) size cells (List.range' k m.length):=by
      intro m
      induction m with
      |nil=>intro k cells _ h;exact h
      | cons y r ih=>
        intro k cells hk h
        obtain⟨cs,more,rfl,h1,h2,h3⟩:=h
        simp only[List.length_cons,List.range'_succ]
        exact⟨cs,more,rfl,h1,⟨h1,hR1 _ _ _ h2,y,by simpa using hk 0 y rfl,h2⟩,ih (k+1) more (λi z hz=>by have:=hk (i+1) z (by simpa using hz);rwa[show k+(i+1)=k+1+i by omega]at this) h3⟩
    exact key ls 0 _ (λi y hy=>by simpa using hy) hf
  · intro H cs y h;exact h.2.1
  · intro v' K' hr
    refine h v' K' ?_
    obtain⟨cells,h1,h2,h3⟩:=hr
    refine⟨cells,by simpa using h1,?_,h3⟩
    have key:∀(m:List α) (k:Nat) (cells:List Value),(∀i y,m[i]? =some y→ls[k+i]? =some y)→
        Flat H (λ_ cs (k:Nat)=>cs.length=size∧oneCells cs∧∃y,ls[k]? =some y∧R HF cs y:Rep Nat) size cells (List.range' k m.length)→Flat HF R size cells m:=by
      intro m
      induction m with
      |nil=>intro k cells _ h;exact h
      | cons y r ih=>
        intro k cells hk h
        simp only[List.length_cons,List.range'_succ]at h
        obtain⟨cs,more,rfl,h1,⟨_,_,y',hy',h2⟩,h3⟩:=h
        have:y'=y:=by have:=hk 0 y rfl;rw[Nat.add_zero,hy']at this;exact Option.some.inj this
        subst this
        exact⟨cs,more,rfl,h1,h2,ih (k+1) more (λi z hz=>by have:=hk (i+1) z (by simpa using hz);rwa[show k+(i+1)=k+1+i by omega]at this) h3⟩
    exact key ls 0 cells (λi y hy=>by simpa using hy) h2
theorem JL.mkF{α:Type}{R:Rep α}{E:TypeId}{z:Value}{size bytes:Nat}{kl kc:IntKind}{n:Int}{y:α}{rs:List α}(hu:x.P.underlying t=some (.slice E))(he:eInfo x.P E=some (z,size,bytes))(h1:evo l p=some (.int kl n))(h2:evo l q=some (.int kc n))
    (hR:∀H,R H z.cells.toList y)(hR1:R.One)(hrs:rs=List.replicate n.toNat y)(hn:0≤n∧n.toNat≤LIM)(hb:Nat.ble bytes 128=true)(hd:Nat.blt d x.n=true)
    (h:∀v' K',RowOf HF R x.w0.heap.size E size v' rs K'→JL x ops Q rest ((d,v')::l) (K'::own) H):JL x ops Q (⟨some d,.makeSlice t p q,ty,pos,aft,none⟩::rest) l own H:=by
  subst hrs
  obtain⟨N,rfl⟩:=Int.eq_ofNat_of_zero_le hn.1
  have hN:N≤LIM:=by simpa using hn.2
  refine JL.mk (R:=(λ_ cs (k:Unit)=>R HF cs y∧oneCells cs:Rep Unit)) (y:=()) hu he h1 h2 ⟨hR _,hR1 _ _ _ (hR HF)⟩ (λ_ _ _ h=>h.2) ?_ (lim_max hN) hd ?_
  · have:=lim_bytes hN hb;rw[Nat.mul_comm];omega
  · intro ao cap K' hr
    refine h _ K' ?_
    obtain⟨cells,h1,h2,h3⟩:=hr
    refine⟨cells,by simpa using h1,?_,h3⟩
    have key:∀(k:Nat) (cells:List Value),Flat H (λ_ cs (k:Unit)=>R HF cs y∧oneCells cs:Rep Unit) size cells (List.replicate k ())→Flat HF R size cells (List.replicate k y):=by
      intro k
      induction k with
      |zero=>intro cells h;exact h
      | succ k ih=>
        intro cells h
        obtain⟨cs,more,rfl,h1,h2,h3⟩:=h
        exact⟨cs,more,rfl,h1,h2.1,ih more h3⟩
    simpa using key N cells h2
theorem JL.stE{α:Type}{R:Rep α}(i:Nat){T E:TypeId}{g:Bool}{size B b o:Nat}{k:Int}{v u:Value}{m m':List α}{K:Own}{y:α}(hs:shapeOf x.P T=some (g,size))(hi:own[i]? =some K)(hS:RowOf HF R B E size v m K)
 (h1:evo l p=some (.pointer (some ⟨b,o,none⟩)))(hE:ElemAt v size k b o)(h2:evo l q=some u)(hu:u.cells.size=size)(hR:R HF u.cells.toList y)(hR1:R.One)(hm:m'=m.set k.toNat y)
 (h:∀K',RowOf HF R B E size v m' K'→m'.length=m.length→JL x ops Q rest l (own.set i K') H):JL x ops Q (⟨none,.store T p q,ty,pos,aft,none⟩::rest) l own H:=by
 obtain⟨cells,⟨h0,h3⟩,hf,ho⟩:=hS
 obtain⟨hk0,o0,len,cap0,ev,rfl,hklt⟩:=hE
 rcases h3 with⟨rfl,h3,rfl⟩|⟨b',cap,cur,rfl,rfl,e3,e4,e5,e6,e7⟩
 · simp only[Value.slice.injEq]at ev;obtain⟨ev,_⟩:=ev;cases ev
 · simp only[Value.slice.injEq,Option.some.injEq,Addr.mk.injEq]at ev
   obtain⟨⟨rfl,rfl,-⟩,rfl,rfl⟩:=ev
   have hk:k.toNat<m.length:=hklt
   have hone:=hR1 _ _ _ hR
   have hks:k.toNat*size+size≤m.length*size:=by rw[←Nat.succ_mul];exact Nat.mul_le_mul_right _ hk
   have hms:m.length*size≤cap*size:=Nat.mul_le_mul_right _ e4
   subst hm
   refine JL.store i hs h1 h2 hi hu (List.all_eq_true.2 hone) (by omega) (h _ ?_ (List.length_set ..))
   have hul:u.cells.toList.length=size:=by simpa using hu
   have hcl:cap*size≤cur.toList.length:=by simpa using e6
   have hf':=Flat.set (y:=y) hul hR hf hk
   refine⟨_,⟨by rw[hf'.length],.inr ⟨b',cap,_,by rw[List.length_set],rfl,e3,by rw[List.length_set];exact e4,e5,?_,?_⟩⟩,hf',?_⟩
   · simp only[List.size_toArray,List.length_append,List.length_take,List.length_drop,hul];omega
   · rw[List.length_set,←e7,Nat.zero_add]
     simp only[]
     rw[List.take_append,List.take_append,List.take_take,List.take_take,Nat.min_eq_right (by omega),Nat.min_eq_left (by omega)]
     rw[List.take_of_length_le (l:=u.cells.toList) (by simp only[List.length_take,hul];omega)]
     congr 1
     rw[List.take_drop]
     congr 2
     simp only[List.length_append,List.length_take,hul];omega
   · intro w hw
     rcases List.mem_append.1 hw with hw|hw
     · rcases List.mem_append.1 hw with hw|hw
       · exact ho w (List.mem_of_mem_take hw)
       · exact hone w hw
     · exact ho w (List.mem_of_mem_drop hw)
theorem RowOf.place{α:Type}{R:Rep α}{n B:Nat}{E:TypeId}{v:Value}{m:List α}{K:Own}{i:Int}(hS:RowOf HF R B E n v m K)(hi:0≤i∧i.toNat<m.length):∃b o,ElemAt v n i b o:=by
 obtain⟨b,o,cs,cur,_,h,_⟩:=hS.elem (i:=i) (y:=m[i.toNat]'hi.2) ⟨hi.1,by simp[hi.2]⟩
 exact⟨b,o,h⟩
theorem picks0:own.flatten.Perm (([]:List Own).flatten++own.flatten):=by simp
theorem picks{s:Own}{K rst:List Own}(i:Nat)(hi:own[i]? =some s)(h:(own.eraseIdx i).flatten.Perm (K.flatten++rst.flatten)):own.flatten.Perm ((s::K).flatten++rst.flatten):=by
 refine(flatten_perm hi).trans ?_
 simp only[List.flatten_cons,List.append_assoc]
 exact h.append_left s
theorem IsSlice.old{α:Type}{R:Rep α}{size:Nat}{v:Value}{m:List α}{H0:Heaplet}(hR:R.Mono)(h:IsSlice (New H0 H) R size v m):IsSlice H R size v m:=h.mono hR (New.le _ _)
theorem RowOf.old{α:Type}{R:Rep α}{B:Nat}{E:TypeId}{size:Nat}{v:Value}{ls:List α}{K:Own}{H0:Heaplet}(hR:R.Mono)(h:RowOf (New H0 H) R B E size v ls K):RowOf H R B E size v ls K:=h.mono hR (New.le _ _)
theorem RowOf.ge{α:Type}{R:Rep α}{B:Nat}{E:TypeId}{size:Nat}{v:Value}{ls:List α}{K:Own}(h:RowOf HF R B E size v ls K):∀p∈K,B≤p.1:=by
 obtain⟨cells,⟨h0,h1⟩,h2,h3⟩:=h
 rcases h1 with⟨_,_,rfl⟩|⟨g,cap,cur,e1,rfl,e3,r⟩
 · intro p hp;cases hp
 · intro p hp;simp at hp;subst hp;exact e3
theorem ids_nil{N:Nat}:∀i∈ids ([]:List Own).flatten,N≤i:=λi h=>by simp[ids]at h
theorem ids_cons{N:Nat}{K:Own}{r:List Own}(h:∀p∈K,N≤p.1)(k:∀i∈ids r.flatten,N≤i):∀i∈ids (K::r).flatten,N≤i:=λi hi=>by
 simp only[ids,List.flatten_cons,List.map_append,List.mem_append]at hi
 rcases hi with hi|hi
 · obtain⟨p,hp,rfl⟩:=List.mem_map.1 hi;exact h p hp
 · exact k i hi
theorem mem_seg{K:Own}{p:Nat×Obj}(i:Nat)(h:own[i]? =some K)(hp:p∈K):p∈own.flatten:=List.mem_flatten.2 ⟨K,List.mem_of_getElem? h,hp⟩
theorem RowOf.up{α:Type}{R:Rep α}{B N:Nat}{E:TypeId}{size:Nat}{v:Value}{ls:List α}{K:Own}{S:List Nat}(h:RowOf HF R B E size v ls K)(hf:∀p∈K,p.1∈S∨N≤p.1)(hS:∀i∈S,N≤i):RowOf HF R N E size v ls K:=
 h.base (λp hp=>(hf p hp).elim (hS _) id)
theorem SrcF.sliceC{α:Type}{R:Rep α}(hC:R.Const)(hR:R.One){size:Nat}{tx e:TypeId}{y:Value}{ls:List α}(hu:x.P.underlying tx=some (.slice e))(hs:IsSlice H R size y ls):SrcF x H HF own R size tx y ls:=by
 obtain⟨cells,hf,ho,h⟩:=SrcF.slice (own:=own) hR hu (Hle.refl _) hs
 exact⟨cells,hf.conv (λcs y h=>hC _ _ _ _ h),ho,h⟩
end Go.Ow
namespace Go.Ow
structure Write where
  At:Int
  Data:List UInt8
instance:Inhabited Write:=⟨⟨default,default⟩⟩
structure Disk where
  Blocks:List (List UInt8)
  Waits:List Write
instance:Inhabited Disk:=⟨⟨default,default⟩⟩
structure Ptr where
  At:Int
  Birth:UInt32
  Iv:UInt32
  Tag:UInt32
  Sum:UInt32
instance:Inhabited Ptr:=⟨⟨default,default,default,default,default⟩⟩
structure Label where
  Gen:UInt32
  Epoch:UInt32
  Root:Ptr
instance:Inhabited Label:=⟨⟨default,default,default⟩⟩
structure Object where
  Kind:UInt8
  Links:Int
  Size:Int
  Data:List Ptr
instance:Inhabited Object:=⟨⟨default,default,default,default⟩⟩
structure Line where
  Id:Int
  Kind:UInt8
  Owner:Int
  Prev:Int
  Txg:UInt32
  Guid:UInt32
  Key:Int
  Root:Ptr
  Dead:List Ptr
instance:Inhabited Line:=⟨⟨default,default,default,default,default,default,default,default,default⟩⟩
structure Store where
  Disk:Disk
  Space:List UInt8
  Epoch:UInt32
  Count:UInt32
instance:Inhabited Store:=⟨⟨default,default,default,default⟩⟩
structure Change where
  Set:Int
  Obj:Int
  Index:Int
  Kind:UInt8
  Links:Int
  Size:Int
  Data:List UInt8
  Laid:Ptr
instance:Inhabited Change:=⟨⟨default,default,default,default,default,default,default,default⟩⟩
structure Pool where
  Store:Store
  Gen:UInt32
  Root:Ptr
  MetaL:List Int
  Lines:List Line
  Keys:List (List UInt8)
  Loaded:List (List UInt8)
  Changes:List Change
  Logged:Int
  NextId:Int
  NextGuid:UInt32
instance:Inhabited Pool:=⟨⟨default,default,default,default,default,default,default,default,default,default,default⟩⟩
structure Signer where
  Seed:List UInt8
  Spent:Int
instance:Inhabited Signer:=⟨⟨default,default⟩⟩
structure Entry where
  Name:List UInt8
  Obj:Int
instance:Inhabited Entry:=⟨⟨default,default⟩⟩
structure Info where
  Obj:Int
  Kind:UInt8
  Links:Int
  Size:Int
  To:List UInt8
instance:Inhabited Info:=⟨⟨default,default,default,default,default⟩⟩
structure Call where
  Kind:UInt8
  A:Int
  B:Int
  C:Int
  Name:List UInt8
  As:List UInt8
  Text:List UInt8
  Data:List UInt8
instance:Inhabited Call:=⟨⟨default,default,default,default,default,default,default,default⟩⟩
structure Reply where
  Error:Int
  Id:Int
  Data:List UInt8
  Names:List (List UInt8)
  Info:Info
  Lines:List Int
instance:Inhabited Reply:=⟨⟨default,default,default,default,default,default⟩⟩
structure Part where
  Obj:Int
  Index:Int
  Iv:UInt32
  Tag:UInt32
  Data:List UInt8
instance:Inhabited Part:=⟨⟨default,default,default,default,default⟩⟩
structure Stream where
  Guid:UInt32
  Base:UInt32
  Key:List UInt8
  Parts:List Part
  Sign:List UInt8
instance:Inhabited Stream:=⟨⟨default,default,default,default,default⟩⟩
structure Deed where
  Kind:UInt8
  At:Int
  A:Int
  B:Int
  Call:Call
  Keep:List Bool
instance:Inhabited Deed:=⟨⟨default,default,default,default,default,default⟩⟩
structure Pair where
  Pools:List Pool
  Stream:List UInt8
  Signer:Signer
instance:Inhabited Pair:=⟨⟨default,default,default⟩⟩
end Go.Ow
namespace Go.Ow
open Go.RowKit
def RStr:Rep (List UInt8):=λ_ cs s=>cs= [.string (bs s)]
theorem RStr.mono:RStr.Mono:=λ_ _ _ _ _ h=>h
def R_Write:Rep Write:=λH cs x=>∃v1:Value,cs= [.int .i64 x.At,v1]∧IsSlice H RU8 1 v1 x.Data
theorem R_Write.mono:R_Write.Mono:=λ_ _ _ _ hle ⟨v1,e,h1⟩=>⟨v1,e,h1.mono RU8.mono hle⟩
theorem R_Write.one:R_Write.One:=λ_ _ _ ⟨v1,e,h1⟩=>by
 subst e;intro u hu;simp only[List.mem_cons,List.not_mem_nil,or_false]at hu
 rcases hu with rfl|rfl<;>first|rfl|exact h1.one1
def R_Disk:Rep Disk:=λH cs x=>∃v0 v1:Value,cs= [v0,v1]∧IsSlice H (RSl RU8 1) 1 v0 x.Blocks∧IsSlice H R_Write 2 v1 x.Waits
theorem R_Disk.mono:R_Disk.Mono:=λ_ _ _ _ hle ⟨v0,v1,e,h0,h1⟩=>⟨v0,v1,e,h0.mono (RSl.mono RU8.mono) hle,h1.mono R_Write.mono hle⟩
def R_Ptr:Rep Ptr:=λH cs x=>cs= [.int .i64 x.At,.int .u32 (x.Birth.toNat:Int),.int .u32 (x.Iv.toNat:Int),.int .u32 (x.Tag.toNat:Int),.int .u32 (x.Sum.toNat:Int)]
theorem R_Ptr.mono:R_Ptr.Mono:=λ_ _ _ _ _ h=>h
def R_Label:Rep Label:=λH cs x=>cs= [.int .u32 (x.Gen.toNat:Int),.int .u32 (x.Epoch.toNat:Int),.int .i64 x.Root.At,.int .u32 (x.Root.Birth.toNat:Int),.int .u32 (x.Root.Iv.toNat:Int),.int .u32 (x.Root.Tag.toNat:Int),.int .u32 (x.Root.Sum.toNat:Int)]
theorem R_Label.mono:R_Label.Mono:=λ_ _ _ _ _ h=>h
def R_Object:Rep Object:=λH cs x=>∃v3:Value,cs= [.int .u8 (x.Kind.toNat:Int),.int .i64 x.Links,.int .i64 x.Size,v3]∧IsSlice H R_Ptr 5 v3 x.Data
theorem R_Object.mono:R_Object.Mono:=λ_ _ _ _ hle ⟨v3,e,h3⟩=>⟨v3,e,h3.mono R_Ptr.mono hle⟩
def R_Line:Rep Line:=λH cs x=>∃v12:Value,cs= [.int .i64 x.Id,.int .u8 (x.Kind.toNat:Int),.int .i64 x.Owner,.int .i64 x.Prev,.int .u32 (x.Txg.toNat:Int),.int .u32 (x.Guid.toNat:Int),.int .i64 x.Key,.int .i64 x.Root.At,.int .u32 (x.Root.Birth.toNat:Int),.int .u32 (x.Root.Iv.toNat:Int),.int .u32 (x.Root.Tag.toNat:Int),.int .u32 (x.Root.Sum.toNat:Int),v12]∧IsSlice H R_Ptr 5 v12 x.Dead
theorem R_Line.mono:R_Line.Mono:=λ_ _ _ _ hle ⟨v12,e,h12⟩=>⟨v12,e,h12.mono R_Ptr.mono hle⟩
def R_Store:Rep Store:=λH cs x=>∃v0 v1 v2:Value,cs= [v0,v1,v2,.int .u32 (x.Epoch.toNat:Int),.int .u32 (x.Count.toNat:Int)]∧IsSlice H (RSl RU8 1) 1 v0 x.Disk.Blocks∧IsSlice H R_Write 2 v1 x.Disk.Waits∧IsSlice H RU8 1 v2 x.Space
theorem R_Store.mono:R_Store.Mono:=λ_ _ _ _ hle ⟨v0,v1,v2,e,h0,h1,h2⟩=>⟨v0,v1,v2,e,h0.mono (RSl.mono RU8.mono) hle,h1.mono R_Write.mono hle,h2.mono RU8.mono hle⟩
def R_Change:Rep Change:=λH cs x=>∃v6:Value,cs= [.int .i64 x.Set,.int .i64 x.Obj,.int .i64 x.Index,.int .u8 (x.Kind.toNat:Int),.int .i64 x.Links,.int .i64 x.Size,v6,.int .i64 x.Laid.At,.int .u32 (x.Laid.Birth.toNat:Int),.int .u32 (x.Laid.Iv.toNat:Int),.int .u32 (x.Laid.Tag.toNat:Int),.int .u32 (x.Laid.Sum.toNat:Int)]∧IsSlice H RU8 1 v6 x.Data
theorem R_Change.mono:R_Change.Mono:=λ_ _ _ _ hle ⟨v6,e,h6⟩=>⟨v6,e,h6.mono RU8.mono hle⟩
def R_Pool:Rep Pool:=λH cs x=>∃v0 v1 v2 v11 v12 v13 v14 v15:Value,cs= [v0,v1,v2,.int .u32 (x.Store.Epoch.toNat:Int),.int .u32 (x.Store.Count.toNat:Int),.int .u32 (x.Gen.toNat:Int),.int .i64 x.Root.At,.int .u32 (x.Root.Birth.toNat:Int),.int .u32 (x.Root.Iv.toNat:Int),.int .u32 (x.Root.Tag.toNat:Int),.int .u32 (x.Root.Sum.toNat:Int),v11,v12,v13,v14,v15,.int .i64 x.Logged,.int .i64 x.NextId,.int .u32 (x.NextGuid.toNat:Int)]∧IsSlice H (RSl RU8 1) 1 v0 x.Store.Disk.Blocks∧IsSlice H R_Write 2 v1 x.Store.Disk.Waits∧IsSlice H RU8 1 v2 x.Store.Space∧IsSlice H RInt 1 v11 x.MetaL∧IsSlice H R_Line 13 v12 x.Lines∧IsSlice H (RSl RU8 1) 1 v13 x.Keys∧IsSlice H (RSl RU8 1) 1 v14 x.Loaded∧IsSlice H R_Change 12 v15 x.Changes
theorem R_Pool.mono:R_Pool.Mono:=λ_ _ _ _ hle ⟨v0,v1,v2,v11,v12,v13,v14,v15,e,h0,h1,h2,h11,h12,h13,h14,h15⟩=>⟨v0,v1,v2,v11,v12,v13,v14,v15,e,h0.mono (RSl.mono RU8.mono) hle,h1.mono R_Write.mono hle,h2.mono RU8.mono hle,h11.mono RInt.mono hle,h12.mono R_Line.mono hle,h13.mono (RSl.mono RU8.mono) hle,h14.mono (RSl.mono RU8.mono) hle,h15.mono R_Change.mono hle⟩
def R_Signer:Rep Signer:=λH cs x=>∃v0:Value,cs= [v0,.int .i64 x.Spent]∧IsSlice H RU8 1 v0 x.Seed
theorem R_Signer.mono:R_Signer.Mono:=λ_ _ _ _ hle ⟨v0,e,h0⟩=>⟨v0,e,h0.mono RU8.mono hle⟩
def R_Entry:Rep Entry:=λH cs x=>cs= [.string (bs x.Name),.int .i64 x.Obj]
theorem R_Entry.mono:R_Entry.Mono:=λ_ _ _ _ _ h=>h
def R_Info:Rep Info:=λH cs x=>cs= [.int .i64 x.Obj,.int .u8 (x.Kind.toNat:Int),.int .i64 x.Links,.int .i64 x.Size,.string (bs x.To)]
theorem R_Info.mono:R_Info.Mono:=λ_ _ _ _ _ h=>h
def R_Call:Rep Call:=λH cs x=>∃v7:Value,cs= [.int .u8 (x.Kind.toNat:Int),.int .i64 x.A,.int .i64 x.B,.int .i64 x.C,.string (bs x.Name),.string (bs x.As),.string (bs x.Text),v7]∧IsSlice H RU8 1 v7 x.Data
theorem R_Call.mono:R_Call.Mono:=λ_ _ _ _ hle ⟨v7,e,h7⟩=>⟨v7,e,h7.mono RU8.mono hle⟩
def R_Reply:Rep Reply:=λH cs x=>∃v2 v3 v9:Value,cs= [.int .i64 x.Error,.int .i64 x.Id,v2,v3,.int .i64 x.Info.Obj,.int .u8 (x.Info.Kind.toNat:Int),.int .i64 x.Info.Links,.int .i64 x.Info.Size,.string (bs x.Info.To),v9]∧IsSlice H RU8 1 v2 x.Data∧IsSlice H RStr 1 v3 x.Names∧IsSlice H RInt 1 v9 x.Lines
theorem R_Reply.mono:R_Reply.Mono:=λ_ _ _ _ hle ⟨v2,v3,v9,e,h2,h3,h9⟩=>⟨v2,v3,v9,e,h2.mono RU8.mono hle,h3.mono RStr.mono hle,h9.mono RInt.mono hle⟩
def R_Part:Rep Part:=λH cs x=>∃v4:Value,cs= [.int .i64 x.Obj,.int .i64 x.Index,.int .u32 (x.Iv.toNat:Int),.int .u32 (x.Tag.toNat:Int),v4]∧IsSlice H RU8 1 v4 x.Data
theorem R_Part.mono:R_Part.Mono:=λ_ _ _ _ hle ⟨v4,e,h4⟩=>⟨v4,e,h4.mono RU8.mono hle⟩
theorem R_Part.one:R_Part.One:=λ_ _ _ ⟨v4,e,h4⟩=>by
 subst e;intro u hu;simp only[List.mem_cons,List.not_mem_nil,or_false]at hu
 rcases hu with rfl|rfl|rfl|rfl|rfl<;>first|rfl|exact h4.one1
def R_Stream:Rep Stream:=λH cs x=>∃v2 v3 v4:Value,cs= [.int .u32 (x.Guid.toNat:Int),.int .u32 (x.Base.toNat:Int),v2,v3,v4]∧IsSlice H RU8 1 v2 x.Key∧IsSlice H R_Part 5 v3 x.Parts∧IsSlice H RU8 1 v4 x.Sign
theorem R_Stream.mono:R_Stream.Mono:=λ_ _ _ _ hle ⟨v2,v3,v4,e,h2,h3,h4⟩=>⟨v2,v3,v4,e,h2.mono RU8.mono hle,h3.mono R_Part.mono hle,h4.mono RU8.mono hle⟩
def R_Deed:Rep Deed:=λH cs x=>∃v11 v12:Value,cs= [.int .u8 (x.Kind.toNat:Int),.int .i64 x.At,.int .i64 x.A,.int .i64 x.B,.int .u8 (x.Call.Kind.toNat:Int),.int .i64 x.Call.A,.int .i64 x.Call.B,.int .i64 x.Call.C,.string (bs x.Call.Name),.string (bs x.Call.As),.string (bs x.Call.Text),v11,v12]∧IsSlice H RU8 1 v11 x.Call.Data∧IsSlice H RBool 1 v12 x.Keep
theorem R_Deed.mono:R_Deed.Mono:=λ_ _ _ _ hle ⟨v11,v12,e,h11,h12⟩=>⟨v11,v12,e,h11.mono RU8.mono hle,h12.mono RBool.mono hle⟩
def R_Pair:Rep Pair:=λH cs x=>∃v0 v1 v2:Value,cs= [v0,v1,v2,.int .i64 x.Signer.Spent]∧IsSlice H R_Pool 19 v0 x.Pools∧IsSlice H RU8 1 v1 x.Stream∧IsSlice H RU8 1 v2 x.Signer.Seed
theorem R_Pair.mono:R_Pair.Mono:=λ_ _ _ _ hle ⟨v0,v1,v2,e,h0,h1,h2⟩=>⟨v0,v1,v2,e,h0.mono R_Pool.mono hle,h1.mono RU8.mono hle,h2.mono RU8.mono hle⟩
end Go.Ow
namespace Go.Ow
open Go.RowKit
variable{x:Cx}{ops:Array Oper}{Q:Exit→Act→World→Prop}{rest:List Oper}{l:Slots}{own:List Own}{H HF:Heaplet}
variable{ty:TypeId}{d:Nat}{pos:String}{aft:Array Edge}{v:Value}{p q:Operand}{t u:TypeId}
def EqF (P:Program)(d:Nat)(xs ys:Array Value):List Field→Bool→Prop
  |[],b=>b=true
  | f :: fs, b => f.name ≠ "_" ∧ ∃ (p q : Value) (b1 b2 : Bool), (∀ w, (part f.type xs f.offset).run P w = .ok p w) ∧ (∀ w, (part f.type ys f.offset).run P w = .ok q w) ∧
      (∀w,(Op.equalIn d f.type p q).run P w=.ok b1 w)∧EqF P d xs ys fs b2∧b=(b1&&b2)
theorem EqF.run{P:Program}{d:Nat}{xs ys:Array Value}:∀{fs:List Field} {b:Bool},EqF P d xs ys fs b→∀w,(Op.eqFields d xs ys fs).run P w=.ok b w
  |[],b,h,w=>by simp only[EqF]at h;subst h;rfl
  | f::fs,b,h,w=>by
    obtain⟨hn,p,q,b1,b2,h1,h2,h3,h4,rfl⟩:=h
    simp only[Op.eqFields,hn,ne_eq,not_false_eq_true,if_true,Sem.run_bind,h1,h2,h3,Result.andThen,Sem.run_ite]
    cases b1 with
    |true=>simpa using EqF.run h4 w
    |false=>simp[Sem.run_pure]
theorem run_part1{P:Program}{T n:Nat}{cs:Array Value}{off:Nat}{v:Value}(hs:shapeOf P T=some (false,n))(h:cs.toList[off]? =some v)(w:World):(part T cs off).run P w=.ok v w:=by
 have h':cs[off]? =some v:=by simpa using h
 simp only[part,Sem.run_bind,run_isAgg hs,Result.andThen,Bool.false_eq_true,if_false,h',Sem.run_pure]
theorem run_partN{P:Program}{T n:Nat}{cs vs:Array Value}{off:Nat}(hs:shapeOf P T=some (true,n))(h:cs.extract off (off+n)=vs)(w:World):(part T cs off).run P w=.ok (.agg vs) w:=by
 simp only[part,Sem.run_bind,run_isAgg hs,run_sizeOf hs,Result.andThen,if_true,h,Sem.run_pure]
section eqf
variable{P:Program}{xs ys:Array Value}{f:Field}{fs:List Field}{bb:Bool}{k:Nat}
theorem EqF.i {kk k' : IntKind} {n : Nat} {a b : Int} (hn : f.name ≠ "_") (hs : shapeOf P f.type = some (false, n)) (hu : P.underlying f.type = some (.int k')) (h1 : xs.toList[f.offset]? = some (.int kk a)) (h2 : ys.toList[f.offset]? = some (.int kk b)) (h : EqF P (k + 1) xs ys fs bb) :
    EqF P (k+1) xs ys (f::fs) (decide (a=b)&&bb):=
  ⟨hn,_,_,_,_,run_part1 hs h1,run_part1 hs h2,λw=>by rw[run_equalIn_int w k f.type kk k' a b hu,show(a==b)=decide (a=b) by rw[Bool.eq_iff_iff];simp],h,rfl⟩
end eqf
end Go.Ow
