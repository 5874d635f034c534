import Derived.Test.YtnahhdmkiffgnaaGreatDoorOwMa
import Derived.Lib.AppendZerosOnto
import Derived.Maps.RangeRun
import Derived.Laws.Externs
import Derived.Lib.BytesEntry
import Derived.Lib.Bytealg
import Derived.Room.MakeNoZero
import Derived.ChangeKeysEq
/-
  What is proved here: ranges over what an iterator yields; how such a function is left; a few more operations; over OwQ.
-/
set_option linter.unusedSimpArgs false
set_option linter.unusedVariables false
namespace Go.Ow
open Go.RowKit
variable{x:Cx}{ops:Array Oper}{Q:Exit→Act→World→Prop}{rest:List Oper}{l:Slots}{own:List Own}{H HF:Heaplet}
variable{ty:TypeId}{d:Nat}{pos:String}{aft:Array Edge}{v:Value}{p q:Operand}{t u:TypeId}
def IterL{α:Type}(P:Program)(f:FuncId)(cap:Array Value)(H:Heaplet)(RA:Heaplet→Array Value→α→Prop)(xs:List α):Prop:=
 Iter P f cap H (λpre H' args y=>RA H' args y∧∃t,pre++y::t=xs) (λys=>ys=xs) (λys=>∃t,ys++t=xs)
def RoundS{σ τ:Type}(I:σ→List Own→Heaplet→Prop)(X:τ→Code→List Own→Heaplet→Prop)(out:σ ⊕ τ)(wb:World)(Hb:Heaplet)(S:List Nat):Exit→Act→World→Prop
 | .normal,_,w=>∃s' o' H',out=.inl s'∧Mem wb Hb S o'.flatten H' w∧I s' o' H'
 | .ret,_,w=>∃t o' H',out=.inr t∧Mem wb Hb S o'.flatten H' w∧X t .ret o' H'
 | .exit id,_,w=>∃t o' H',out=.inr t∧Mem wb Hb S o'.flatten H' w∧X t (.exit id) o' H'
 |_,_,_=>False
theorem JC.rangeL{α σ τ:Type}(hr:x.r=none){g:Operand}{ps:Array Tmp}{assign body:Code}{gf:FuncId}{cap:Array Value}{RA:Heaplet→Array Value→α→Prop}{xs:List α}
    (bd:α→σ→Option (σ ⊕ τ))(s0:σ)(tt:σ ⊕ τ)(hrun:forL bd xs s0=some tt)
    (I:σ→List Own→Heaplet→Prop)(X:τ→Code→List Own→Heaplet→Prop)
    (hg:evo l g=some (.func (.func gf) #[] cap))(he:Enters x.P gf)(hit:IterL x.P gf cap H RA xs)(hps:∀H args y,RA H args y→args.size=ps.size)(hlt:ps.toList.all (λp=>Nat.blt p x.n)=true)
    (h0:I s0 own H)
    (hround:∀(lr:Nat) (y:α) (s:σ) (args:Array Value) (o:List Own) (H':Heaplet) (out:σ ⊕ τ),I s o H'→RA H' args y→bd y s=some out→∃L1:Slots,
      (∀wb,x.w0.heap.size≤wb.heap.size→JC {x with r:=some lr,w0:=wb,H0:=H',S:=ids o.flatten,ds:=[]} assign
        (Exit.then (λa w=>Holds {x with r:=some lr,w0:=wb,H0:=H',S:=ids o.flatten,ds:=[]} L1 o H' a w) (λ_ _ _=>False)) ((ps.toList.zip args.toList).reverse++l) o H')∧
      (∀wb,x.w0.heap.size≤wb.heap.size→JC {x with r:=some lr,w0:=wb,H0:=H',S:=ids o.flatten,ds:=[]} body (RoundS I X out wb H' (ids o.flatten)) L1 o H'))
    (hdone:∀(D:Nat) (s:σ) (o:List Own) (H':Heaplet),x.w0.heap.size≤D→tt=.inl s→I s o H'→Hle H H'→JN {x with ds:=mark D::x.ds} (Q .normal) l ([(D,.deferred (some []))]::o) H')
    (hstop:∀(D:Nat) (c:Code) (e:τ) (o:List Own) (H':Heaplet),x.w0.heap.size≤D→tt=.inr e→X e c o H'→Hle H H'→JC {x with ds:=mark D::x.ds} c Q l ([(D,.deferred (some []))]::o) H'):
    JC x (.rangeFunc g ps assign body) Q l own H:=by
  refine JC.rangeFunc hr hg he hit (λpre H args y h=>hps H args y h.1) hlt
    (λpre o H'=>∃s ys,pre++ys=xs∧forL bd ys s=some tt∧I s o H') (λc pre o H'=>∃e,tt=.inr e∧X e c o H') ⟨s0,xs,rfl,hrun,h0⟩ ?_ ?_ ?_
  · rintro lr pre y args o H' ⟨s,ys,hpre,hf,hI⟩ ⟨hy,t,ht⟩
    have hys:ys=y::t:=by rw[←ht]at hpre;exact List.append_cancel_left hpre
    subst hys
    obtain⟨out,hb,hcase⟩:=forL_some hf
    obtain⟨L1,hA,hB⟩:=hround lr y s args o H' out hI hy hb
    refine⟨L1,hA,λwb hwb a w hh=>wpIn_mono (hB wb hwb a w hh) ?_⟩
    rintro e a w hq
    cases e with
    | normal=>
      obtain⟨s',o',H2,ho,hm,hI'⟩:=hq
      rcases hcase with⟨s'',e1,h2⟩|⟨e',e1,h2⟩
      · rw[ho]at e1;cases e1
        exact⟨o',H2,hm,s',t,by rw[←ht];simp,h2,hI'⟩
      · rw[ho]at e1;cases e1
    | ret=>
      obtain⟨e',o',H2,ho,hm,hX⟩:=hq
      rcases hcase with⟨s'',e1,h2⟩|⟨e'',e1,h2⟩
      · rw[ho]at e1;cases e1
      · rw[ho]at e1;cases e1;exact⟨o',H2,hm,e',h2,hX⟩
    | exit id=>
      obtain⟨e',o',H2,ho,hm,hX⟩:=hq
      rcases hcase with⟨s'',e1,h2⟩|⟨e'',e1,h2⟩
      · rw[ho]at e1;cases e1
      · rw[ho]at e1;cases e1;exact⟨o',H2,hm,e',h2,hX⟩
    |goto _=>exact hq.elim
    |panic _=>exact hq.elim
    |outgrown=>exact hq.elim
  · rintro D ys o H' hD rfl ⟨s,zs,hz,hf,hI⟩ hle
    have:zs= []:=by
      have:=congrArg List.length hz;simp at this;exact this
    subst this
    exact hdone D s o H' hD (Option.some.inj hf).symm hI hle
  · rintro D c ys o H' hD hS ⟨e,he',hX⟩ hle
    exact hstop D c e o H' hD he' hX hle
theorem JN.rN{σ τ:Type}{I:σ→List Own→Heaplet→Prop}{X:τ→Code→List Own→Heaplet→Prop}{s:σ}(h:I s own H):JN x (RoundS I X (.inl s) x.w0 x.H0 x.S .normal) l own H:=
 λa w hh=>⟨s,own,H,rfl,hh.mem,h⟩
theorem leaves_marks2{P:Program}{fn:Func}{tmps:Array Value}{w0:World}{H0 H:Heaplet}{S:List Nat}{R:Ending→World→Prop}{v:Value}{rst:Own}
    (hres:∀w,Mem w0 H0 S rst H w→(results fn tmps).run P w=.ok v w)(hR:∀w,Mem w0 H0 S rst H w→R (.returned v) w):∀(Ds:List Nat) (w:World),
    Mem w0 H0 S ((Ds.map λD=>(D,Obj.deferred (some [])))++rst) H w→LeavesInM Fence.wide 0 P fn tmps R (Ds.map mark) .returning w
  |[],w,hm=>⟨v,hres w (by simpa using hm),hR w (by simpa using hm)⟩
  | D::Ds,w,hm=>by
    have hD:w.heap[D]? =some (.deferred (some [])):=hm.ok.here (D,Obj.deferred (some [])) (by simp)
    have hap:∀k,H D k=none:=λk=>hm.ok.apart (D,Obj.deferred (some [])) (by simp) k
    refine⟨by simp,.inl ⟨D,_,rfl,run_takeDeferred hD,?_⟩⟩
    refine leaves_marks2 hres hR Ds _ ?_
    have:=hm.go (K:=[(D,Obj.deferred (some []))]) (rst:=(Ds.map λD=>(D,Obj.deferred (some [])))++rst) (by simp) (Mem.putObj hm.agr hD hap (.deferred none))
    exact this.sub (List.sublist_append_right _ _)
def marked (Ds:List Nat):List Own:=Ds.map λD=> [(D,Obj.deferred (some []))]
theorem marked_flat (Ds:List Nat):(marked Ds).flatten=Ds.map λD=>(D,Obj.deferred (some [])):=by
 induction Ds with
 |nil=>rfl
 |cons D Ds ih=>simp only[marked,List.map_cons,List.flatten_cons]at ih⊢;rw[ih];rfl
theorem JN.outMP{x0:Cx}{fn:Func}{R:Value→List Own→Heaplet→Prop}{e:Exit}{rs:List ResultVar}{vs:List Value}{K rst own2:List Own}(Ds:List Nat)(he:e=.ret∨e=.normal)
 (hx:x.P=x0.P∧x.w0=x0.w0∧x.H0=x0.H0∧x.S=x0.S)(hd:x.ds=Ds.map mark)(hr:fn.results=rs.toArray)(hp:own.flatten.Perm ((marked Ds).flatten++own2.flatten))(hv:Res x.P l own2 rs vs)
 (hp2:own2.flatten.Perm (K.flatten++rst.flatten))(h:R (pack vs) K H):JN x (RetM x0 fn R e) l own H:=λa w hh=>by
 have:RetM x0 fn R .ret a w:=by
  show LeavesInM Fence.wide 0 x0.P fn a.tmps _ a.defers .returning w
  rw[hh.ds,hd]
  obtain⟨e1,e2,e3,e4⟩:=hx
  refine leaves_marks2 (rst:=own2.flatten) (w0:=x.w0) (H0:=x.H0) (S:=x.S) (H:=H) (v:=pack vs) (λw' hm=> ?_) (λw' hm=>⟨pack vs,K,H,rfl,h,by rw[←e2,←e3,←e4];exact(hm.perm hp2).sub (List.sublist_append_left _ _)⟩) Ds w ?_
  · rw[←e1]
    exact res_run (x:=x) (l:=l) (own:=own2) (H:=H) (a:=a) ⟨hh.size,hh.ds,hh.slots,hm⟩ hr hv
  · have:=hh.mem.perm hp
    rw[marked_flat]at this;exact this
 rcases he with rfl|rfl<;>exact this
theorem Does.enterL{P:Program}{f:FuncId}{fn:Func}{c:Code}{vs:List Value}{K:List Own}{H:Heaplet}{R:Value→List Own→Heaplet→Prop}{l:Slots}
 (hf:P.funcs[f]? =some fn)(hb:fn.body=some c)(hn:Nat.ble vs.length fn.ntmps=true)(hl:Sub l ((List.range' 0 vs.length).zip vs))
 (h:∀w,(∀i∈ids K.flatten,i<w.heap.size)→JC {P:=P,r:=none,n:=fn.ntmps,w0:=w,H0:=H,S:=ids K.flatten,ds:=[]} c
  (Ret {P:=P,r:=none,n:=fn.ntmps,w0:=w,H0:=H,S:=ids K.flatten,ds:=[]} fn R) l K H):Does P f vs.toArray K H R:=λw ha hk=>by
 have hlt:∀i∈ids K.flatten,i<w.heap.size:=λi hi=>by
  obtain⟨p,hp,rfl⟩:=List.mem_map.1 hi;exact hk.lt p hp
 have hn:=Nat.le_of_ble_eq_true hn
 refine callsIn_of_wp hf hb trivial ?_
 refine h w hlt _ w ⟨?_,rfl,?_,⟨ha,hk,Kept.refl _ _,λp hp=>.inl (List.mem_map_of_mem hp),Hle.refl _,λ_ _ _=>rfl,Mem.soft0⟩⟩
 · simp;omega
 · intro i v e
   obtain⟨_,h2⟩:=lk_args vs 0 i v (lk_sub hl i v e)
   have hi:i<vs.length:=by
    rcases Nat.lt_or_ge i vs.length with h'|h'
    · exact h'
    · simp[List.getElem?_eq_none h']at h2
   have h3:vs[i]=v:=by simpa[List.getElem?_eq_getElem hi]using h2
   have:i<(vs.toArray++Array.replicate (fn.ntmps-vs.toArray.size) undef).size:=by simp;omega
   simp only[Array.getD_eq_getD_getElem?,Array.getElem?_eq_getElem this,Option.getD_some]
   rw[Array.getElem_append_left (by simpa using hi)]
   simpa using h3
theorem Does.enterML{P:Program}{f:FuncId}{fn:Func}{c:Code}{vs:List Value}{K:List Own}{H:Heaplet}{R:Value→List Own→Heaplet→Prop}{l:Slots}
 (hf:P.funcs[f]? =some fn)(hb:fn.body=some c)(hn:Nat.ble vs.length fn.ntmps=true)(hl:Sub l ((List.range' 0 vs.length).zip vs))
 (h:∀w,(∀i∈ids K.flatten,i<w.heap.size)→JC {P:=P,r:=none,n:=fn.ntmps,w0:=w,H0:=H,S:=ids K.flatten,ds:=[]} c
  (RetM {P:=P,r:=none,n:=fn.ntmps,w0:=w,H0:=H,S:=ids K.flatten,ds:=[]} fn R) l K H):Does P f vs.toArray K H R:=λw ha hk=>by
 have hlt:∀i∈ids K.flatten,i<w.heap.size:=λi hi=>by
  obtain⟨p,hp,rfl⟩:=List.mem_map.1 hi;exact hk.lt p hp
 have hn:=Nat.le_of_ble_eq_true hn
 refine callsIn_of_wp_marks hf hb trivial ?_
 refine h w hlt _ w ⟨?_,rfl,?_,⟨ha,hk,Kept.refl _ _,λp hp=>.inl (List.mem_map_of_mem hp),Hle.refl _,λ_ _ _=>rfl,Mem.soft0⟩⟩
 · simp;omega
 · intro i v e
   obtain⟨_,h2⟩:=lk_args vs 0 i v (lk_sub hl i v e)
   have hi:i<vs.length:=by
    rcases Nat.lt_or_ge i vs.length with h'|h'
    · exact h'
    · simp[List.getElem?_eq_none h']at h2
   have h3:vs[i]=v:=by simpa[List.getElem?_eq_getElem hi]using h2
   have:i<(vs.toArray++Array.replicate (fn.ntmps-vs.toArray.size) undef).size:=by simp;omega
   simp only[Array.getElem?_eq_getElem this,Option.getD_some]
   rw[Array.getElem_append_left (by simpa using hi)]
   simpa using h3
theorem new_ids{α:Type}{R:Rep α}{N:Nat}{E:TypeId}{size:Nat}{v:Value}{ls:List α}{K:Own}{S:List Nat}(h:RowOf HF R N E size v ls K)(hS:∀i∈S,i<N):∀p∈K,p.1∉S:=λp hp hm=>by
 have h1:=h.ge p hp;have h2:=hS _ hm;omega
end Go.Ow
namespace Go.Ow
open Go.RowKit
variable{x:Cx}{ops:Array Oper}{Q:Exit→Act→World→Prop}{rest:List Oper}{l:Slots}{own:List Own}{H HF:Heaplet}
variable{ty:TypeId}{d:Nat}{pos:String}{aft:Array Edge}{v:Value}{p q:Operand}{t u:TypeId}
def SubV (size:Nat)(v v':Value)(lo len:Nat):Prop:=
 (∃ao cap,v'=.slice ao len cap)∧(len=0∨∃b o n cap cap',v=.slice (some ⟨b,o,none⟩) n cap∧v'=.slice (some ⟨b,o+lo*size,none⟩) len cap'∧lo+len≤n)
def LongI (v:Value)(e:Int):Prop:=∃n:Nat,Long v n∧(n:Int)=e
theorem R.lenE{e:Int}{el:TypeId}(hu:x.P.underlying t=some (.slice el))(h1:evo l p=some v)(hL:LongI v e):Runs x (.call ⟨.builtin .len,#[p],#[t]⟩) ty l own H (.int .i64 e):=by
 obtain⟨n,h,rfl⟩:=hL;exact R.lenL hu h1 h
theorem RowOf.cutv{α:Type}{R:Rep α}{B size:Nat}{E:TypeId}{v:Value}{m:List α}{K:Own}{a b:Int}(h:RowOf HF R B E size v m K)(hab:0≤a∧a≤b∧b≤m.length):
    ∃ v' cap,(∃ao n,v=.slice ao n cap∧(cap:Int)=cap)∧b≤cap∧(∃ao,v=.slice ao m.length cap∧(cap:Int)≤cap∧v'=sliced ao a.toNat b.toNat (cap:Int).toNat size)∧
      SubV size v v' a.toNat (b.toNat-a.toNat)∧LongI v' (b-a):=by
  obtain⟨cells,⟨h0,h1⟩,hf,ho⟩:=h
  rcases h1 with⟨rfl,h3,rfl⟩|⟨g,cap,cur,rfl,rfl,e3,e4,e5,e6,e7⟩
  · have hm:m= []:=List.length_eq_zero_iff.1 h3
    subst hm
    have ha:a=0:=by simp at hab;omega
    have hb:b=0:=by simp at hab;omega
    subst ha hb
    exact⟨_,0,⟨none,0,rfl,rfl⟩,by omega,⟨none,rfl,Int.le_refl _,rfl⟩,⟨⟨_,_,rfl⟩,.inl rfl⟩,0,⟨_,_,rfl⟩,rfl⟩
  · refine⟨_,cap,⟨_,_,rfl,rfl⟩,by omega,⟨_,rfl,Int.le_refl _,rfl⟩,⟨⟨_,_,rfl⟩,?_⟩,b.toNat-a.toNat,⟨_,_,rfl⟩,by omega⟩
    by_cases hz:b.toNat-a.toNat=0
    · exact .inl hz
    · refine .inr ⟨g,0,_,cap,cap-a.toNat,rfl,?_,by omega⟩
      have hne:¬cap=a.toNat:=by omega
      simp only[sliced,Int.toNat_natCast,if_neg hne,Option.map_some,add_lit]
theorem RowOf.pre{α:Type}{R:Rep α}{B size:Nat}{E:TypeId}{v:Value}{m m':List α}{K:Own}{b:Int}(h:RowOf HF R B E size v m K)(hm:m'=cut m 0 b)(hab:(0:Int)≤0∧0≤b∧b≤m.length):
    ∃v' cap,(∃ao n,v=.slice ao n cap∧(cap:Int)=cap)∧b≤cap∧(∃ao,v=.slice ao m.length cap∧(cap:Int)≤cap∧v'=sliced ao (0:Int).toNat b.toNat (cap:Int).toNat size)∧RowOf HF R B E size v' m' K:=by
  subst hm
  obtain⟨cells,⟨h0,h1⟩,hf,ho⟩:=h
  rcases h1 with⟨rfl,h3,rfl⟩|⟨g,cap,cur,rfl,rfl,e3,e4,e5,e6,e7⟩
  · have hm:m= []:=List.length_eq_zero_iff.1 h3
    subst hm
    have hb:b=0:=by simp at hab;omega
    subst hb
    refine⟨_,0,⟨none,0,rfl,rfl⟩,by omega,⟨none,rfl,Int.le_refl _,rfl⟩,?_⟩
    have:sliced (none:Option Addr) (0:Int).toNat (0:Int).toNat ((0:Nat):Int).toNat size=.slice none 0 0:=by simp[sliced]
    rw[this,show cut ([]:List α) 0 0= [] by simp[cut]];exact RowOf.nil _ _ _ _ _
  · have hlen:(cut m 0 b).length=b.toNat:=by simp only[cut,List.length_take,List.length_drop];omega
    have hfl:=hf.length
    have hft:∀(k:Nat) (m:List α) (cells:List Value),Flat HF R size cells m→Flat HF R size (cells.take (k*size)) (m.take k):=by
      intro k
      induction k with
      |zero=>intro m cells _;simp[Flat]
      | succ k ih=>
        intro m cells hF
        cases m with
        |nil=>simp only[Flat]at hF;subst hF;simp[Flat]
        | cons y r=>
          obtain⟨cs,more,rfl,f1,f2,f3⟩:=hF
          refine⟨cs,more.take (k*size),?_,f1,f2,ih r more f3⟩
          rw[List.take_append,List.take_of_length_le (by rw[f1,Nat.add_mul];omega),f1];congr 2;rw[Nat.add_mul];omega
    have hcut:cut m 0 b=m.take b.toNat:=by simp[cut]
    refine⟨_,cap,⟨_,_,rfl,rfl⟩,by omega,⟨_,rfl,Int.le_refl _,rfl⟩,?_⟩
    have hv:sliced (some (⟨g,0,none⟩:Addr)) (0:Int).toNat b.toNat (cap:Int).toNat size=.slice (some ⟨g,0,none⟩) b.toNat cap:=by
      simp[sliced]
    rw[hv]
    refine⟨cells.take (b.toNat*size),⟨?_,.inr ⟨g,cap,cur,by rw[hlen],rfl,e3,by omega,e5,e6,?_⟩⟩,by rw[hcut];exact hft _ _ _ hf,λw hw=>ho w (List.mem_of_mem_take hw)⟩
    · rw[List.length_take,hlen,hfl,Nat.min_eq_left (Nat.mul_le_mul_right _ (by omega))]
    · rw[hlen,←e7,List.take_take,Nat.min_eq_left (Nat.mul_le_mul_right _ (by omega))]
theorem R.capN (hu:∃e,x.P.underlying t=some (.slice e))(h1:evo l p=some (.slice none 0 0)):Runs x (.call ⟨.builtin .cap,#[p],#[t]⟩) ty l own H (.int .i64 0):=by
 obtain⟨e,hu⟩:=hu
 exact λρ w _ _ _ _ hρ hm=>by simp[execOp,resolve,invoke,hρ _ _ h1,run_underlying hu,go_sem,Builtin.cap_,goInt]
theorem R.slcN{e:TypeId}{g:Bool}{size:Nat}{lo hi mx:Option Operand}(hu:x.P.underlying t=some (.slice e))(hs:shapeOf x.P e=some (g,size))(h0:evo l p=some (.slice none 0 0))
 (h1:match lo with|none=>True|some o=>∃kk,evo l o=some (.int kk 0))(h2:match hi with|none=>True|some o=>∃kk,evo l o=some (.int kk 0))(hmx:mx=none):
 Runs x (.slice t p lo hi mx) ty l own H (.slice none 0 0):=by
 subst hmx
 have:=R.slc (x:=x) (own:=own) (H:=H) (ty:=ty) (α:=UInt8) (R:=RU8) (m:=[]) (a:=0) (b:=0) (c:=0) (cap:=0) (v':=.slice none 0 0) (lo:=lo) (hi:=hi) (mx:=none) hu hs h0
  (by cases lo<;>simp_all) (by cases hi<;>simp_all) ⟨none,0,rfl,rfl⟩ ⟨by omega,by omega,by omega⟩ ⟨none,rfl,by simp,by simp[sliced]⟩ (.inl rfl)
 exact this
theorem JL.appZ{α:Type}{R:Rep α}{tn E:TypeId}{z:Value}{size bytes:Nat}{kn:IntKind}{n:Int}{y:α}{rs:List α}(hu:x.P.underlying t=some (.slice E))(hun:x.P.underlying tn=some (.int kn))(he:eInfo x.P E=some (z,size,bytes))(h1:evo l p=some (.slice none 0 0))(h2:evo l q=some (.int .i64 n))
 (hR:∀H,R H z.cells.toList y)(hR1:R.One)(hrs:rs=List.replicate n.toNat y)(hn:0≤n∧n.toNat≤LIM)(hb:Nat.ble bytes 128=true)(hd:Nat.blt d x.n=true)
 (h:∀v' K',RowOf HF R x.w0.heap.size E size v' rs K'→JL x ops Q rest ((d,v')::l) (K'::own) H):JL x ops Q (⟨some d,.call ⟨.builtin .append,#[p,q],#[t,tn]⟩,ty,pos,aft,none⟩::rest) l own H:=λa w hh=>by
 subst hrs
 obtain⟨N,rfl⟩:=Int.eq_ofNat_of_zero_le hn.1
 have hN:N≤LIM:=by simpa using hn.2
 simp only[Int.toNat_natCast]at h
 obtain⟨i,hi,hz,hsz,hby,hzs,hpos⟩:=eInfo_parts he
 subst hsz;subst hby
 have e1:=eval_of hh h1
 have e2:=eval_of hh h2
 simp only[wpLs,wanted_none,if_true]
 refine⟨λ_ _=>trivial,?_⟩
 have base:∀v' w',(Builtin.append_ #[t,tn] ty #[.slice none 0 0,.int .i64 (N:Int)]).run x.P w=.ok v' w'→
  (execOp a.eval ⟨some d,.call ⟨.builtin .append,#[p,q],#[t,tn]⟩,ty,pos,aft,none⟩).run x.P w=.ok (.value v') w':=λv' w' hr=>by
  generalize a.eval=ρ at e1 e2
  have e3:Array.map ρ #[p,q]= #[.slice none 0 0,.int .i64 (N:Int)]:=by simp[e1,e2]
  simp only[execOp,resolve,e3,Sem.run_bind,Sem.run_pure,Result.andThen,invoke,builtin,hr]
 by_cases h0:N=0
 · subst h0
   have hr:(Builtin.append_ #[t,tn] ty #[.slice none 0 0,.int .i64 ((0:Nat):Int)]).run x.P w=.ok (.slice none 0 0) w:=by
    have hw0:IntKind.i64.wrap 0=0:=by decide
    simp[Builtin.append_,run_underlying hu,run_underlying hun,sizeOf,typeInfo,hi,asInt,asIntOf,hw0,go_sem]
   rw[semAt_of rfl,base _ _ hr]
   exact h _ [] (RowOf.nil _ _ _ _ _) _ _ (Holds.put (x:=x) (l:=l) ⟨hh.size,hh.ds,hh.slots,by simpa using hh.mem⟩ hd _)
 · have hlb:=lim_bytes hN hb
   have hr:=Lib.run_append_grow_zeros (P:=x.P) w t tn ty E i z .i64 kn hu hun hi hz none 0 0 [] (by simp[Builtin.firstCells,go_sem]) N (by omega) hpos (by omega) (by unfold LIM at hN;omega) (by omega) (growslice_fits (by omega) (by rw[Nat.zero_add];exact hlb))
   simp only[Nat.zero_add]at hr
   rw[semAt_of rfl,base _ _ (by simpa using hr)]
   obtain⟨C,hC⟩:∃C,C=Builtin.zeroCells z.cells N++Builtin.zeroCells z.cells (grownCap w N 0 E-N):=⟨_,rfl⟩
   have hzc:(Builtin.zeroCells z.cells N).toList=(List.replicate N z.cells.toList).flatten:=by
    have:=madeCells_flat z.cells N (by rw[hzs];exact hpos)
    rw[←this];simp[Builtin.zeroCells,madeCells]
   have hfl:=flat_replicate (R:=R) (H:=HF) (size:=i.size) (hR HF) (by simpa using hzs) N
   have hge:=grownCap_ge w N 0 E
   refine h _ [(w.heap.size,.cells C E (0,0))] ⟨(List.replicate N z.cells.toList).flatten,⟨by rw[hfl.length],.inr ⟨w.heap.size,_,C,by simp,rfl,hh.mem.kept.size,by simpa using hge,grownCap_le_maxLen w N 0 E (lim_max hN),?_,?_⟩⟩,hfl,hfl.one' hR1⟩ _ _ (Holds.put (x:=x) (l:=l) ?_ hd _)
   · rw[hC];simp only[Array.size_append,size_zeroCells,hzs,←Nat.add_mul];refine Nat.mul_le_mul_right _ ?_;omega
   · rw[hC,List.length_replicate,Array.toList_append,hzc]
     exact List.take_left' (by rw[hfl.length];simp)
   · have hm:=Mem.alloc (w:=w.drew) (H:=H) (λb o v e=>hh.mem.agr b o v e) (.cells C E (0,0))
     have hm':Mem w H [] [(w.heap.size,.cells C E (0,0))] H (w.drew.alloc (.cells C E (0,0))):=⟨hm.agr,hm.ok,⟨hm.kept.os,hm.kept.tape,hm.kept.output,hm.kept.size,Nat.le_trans (Nat.le_succ _) hm.kept.drawn,hm.kept.block⟩,hm.fresh,hm.le,hm.grow,hm.soft⟩
     refine⟨hh.size,hh.ds,hh.slots,?_⟩
     have:=hh.mem.go0 (K':=[[(w.heap.size,.cells C E (0,0))]]) (by simpa using hm')
     rw[hC]at this⊢
     simpa using this
end Go.Ow
namespace Go.Ow
variable{α β:Type}
structure A2 (α:Type) where
  e0:α
  e1:α
instance [Inhabited α]:Inhabited (A2 α):=⟨⟨default,default⟩⟩
structure A3 (α:Type) where
  e0:α
  e1:α
  e2:α
instance [Inhabited α]:Inhabited (A3 α):=⟨⟨default,default,default⟩⟩
structure A4 (α:Type) where
  e0:α
  e1:α
  e2:α
  e3:α
instance [Inhabited α]:Inhabited (A4 α):=⟨⟨default,default,default,default⟩⟩
def A4.l (x:A4 α):List α:=[x.e0,x.e1,x.e2,x.e3]
structure A5 (α:Type) where
  e0:α
  e1:α
  e2:α
  e3:α
  e4:α
instance [Inhabited α]:Inhabited (A5 α):=⟨⟨default,default,default,default,default⟩⟩
structure A7 (α:Type) where
  e0:α
  e1:α
  e2:α
  e3:α
  e4:α
  e5:α
  e6:α
instance [Inhabited α]:Inhabited (A7 α):=⟨⟨default,default,default,default,default,default,default⟩⟩
structure A12 (α:Type) where
  e0:α
  e1:α
  e2:α
  e3:α
  e4:α
  e5:α
  e6:α
  e7:α
  e8:α
  e9:α
  e10:α
  e11:α
instance [Inhabited α]:Inhabited (A12 α):=⟨⟨default,default,default,default,default,default,default,default,default,default,default,default⟩⟩
structure A16 (α:Type) where
  e0:α
  e1:α
  e2:α
  e3:α
  e4:α
  e5:α
  e6:α
  e7:α
  e8:α
  e9:α
  e10:α
  e11:α
  e12:α
  e13:α
  e14:α
  e15:α
instance [Inhabited α]:Inhabited (A16 α):=⟨⟨default,default,default,default,default,default,default,default,default,default,default,default,default,default,default,default⟩⟩
def chunks (n:Nat):Nat→List α→List (List α)
  |0,_=> []
  | f+1,r=>match r with
    |[]=> []
    |y::r'=>(y::r').take n::chunks n f ((y::r').drop n)
theorem chunks_nil (n f:Nat):chunks n f ([]:List α)= []:=by cases f<;>rfl
theorem chunks_step{n f:Nat}{r:List α}(h:r≠[]):chunks n (f+1) r=r.take n::chunks n f (r.drop n):=by
 cases r with
 |nil=>exact absurd rfl h
 |cons y r'=>rfl
structure WriteO where
  At:Int
  Data:Option (List UInt8)
instance:Inhabited WriteO:=⟨⟨default,default⟩⟩
def cpy (l:List α)(a:Nat)(m:List α):List α:=l.take a++m++l.drop (a+m.length)
def cpyO (l:List α)(lo hi:Int)(m:List α)(k:List α→Option β):Option β:=if 0≤lo∧lo≤hi∧hi≤l.length then k (cpy l lo.toNat (m.take (hi.toNat-lo.toNat)))else none
theorem cpyO_some{l:List α}{lo hi:Int}{m:List α}{k:List α→Option β}{r:β}(h:cpyO l lo hi m k=some r):∃q,q=cpy l lo.toNat (m.take (hi.toNat-lo.toNat))∧(0≤lo∧lo≤hi∧hi≤l.length)∧k q=some r:=by
 unfold cpyO at h
 split at h
 · exact⟨_,rfl,by assumption,h⟩
 · cases h
end Go.Ow
namespace Go.Ow
open Go.RowKit
variable{x:Cx}{ops:Array Oper}{Q:Exit→Act→World→Prop}{rest:List Oper}{l:Slots}{own:List Own}{H HF:Heaplet}
variable{ty:TypeId}{d:Nat}{pos:String}{aft:Array Edge}{v:Value}{p q:Operand}{t u:TypeId}
theorem R.ixA{T e len:Nat}{g:Bool}{n b o:Nat}{kk:IntKind}(k:Nat)(hu:x.P.underlying T=some (.array len e))(hs:shapeOf x.P e=some (g,n))(h1:evo l p=some (.pointer (some ⟨b,o,none⟩)))(h2:evo l q=some (.int kk (k:Int)))(hk:Nat.blt k len=true):
 Runs x (.indexAddr T p q) ty l own H (.pointer (some ⟨b,o+k*n,none⟩)):=by
 have hlt:k<len:=by simpa using hk
 refine λρ w _ _ _ _ hρ hm=> ?_
 simp only[execOp,hρ _ _ h1,hρ _ _ h2]
 refine run_v ?_
 have h0:(0:Int)≤(k:Int)∧(k:Int)<(len:Int):=⟨by omega,by omega⟩
 simp only[Instr.indexAt,asIntOf,Instr.sureAddr,Sem.run_bind,Sem.run_pure,Result.andThen,run_underlying hu,if_pos h0,run_sizeOf hs,Int.toNat_natCast,add_lit]
theorem R.ixAd{α:Type}{T e len:Nat}{g:Bool}{b o:Nat}{kk:IntKind}{i:Int}{y:α}{L:List α}(hu:x.P.underlying T=some (.array len e))(hs:shapeOf x.P e=some (g,1))(h1:evo l p=some (.pointer (some ⟨b,o,none⟩)))(h2:evo l q=some (.int kk i))(hL:L.length=len)(hN:Nth L i y):
 Runs x (.indexAddr T p q) ty l own H (.pointer (some ⟨b,o+i.toNat,none⟩)):=by
 obtain⟨h0,hy⟩:=hN
 have hlt:i.toNat<len:=by rw[←hL];exact(List.getElem?_eq_some_iff.1 hy).1
 refine λρ w _ _ _ _ hρ hm=> ?_
 simp only[execOp,hρ _ _ h1,hρ _ _ h2]
 refine run_v ?_
 have h0:(0:Int)≤i∧i<(len:Int):=⟨by omega,by omega⟩
 simp only[Instr.indexAt,asIntOf,Instr.sureAddr,Sem.run_bind,Sem.run_pure,Result.andThen,run_underlying hu,if_pos h0,run_sizeOf hs,add_lit,Nat.mul_one]
theorem R.idxA{α:Type}{T e len n:Nat}{kk:IntKind}{i:Int}{cs:Array Value}{enc:α→Value}{y:α}{L:List α}(hu:x.P.underlying T=some (.array len e))(hs:shapeOf x.P e=some (false,n))(hn:n=1)(h1:evo l p=some (.agg cs))(h2:evo l q=some (.int kk i))
 (hL:L.length=len)(hc:cs.toList=L.map enc)(hN:Nth L i y):Runs x (.index T p q) ty l own H (enc y):=by
 obtain⟨h0,hy⟩:=hN
 subst hn
 have hlt:i.toNat<len:=by rw[←hL];exact(List.getElem?_eq_some_iff.1 hy).1
 refine λρ w _ _ _ _ hρ hm=> ?_
 simp only[execOp,hρ _ _ h1,hρ _ _ h2]
 refine run_v ?_
 have h0:(0:Int)≤i∧i<(len:Int):=⟨by omega,by omega⟩
 have he:cs[i.toNat]? =some (enc y):=by rw[←Array.getElem?_toList,hc,List.getElem?_map,hy];rfl
 simp only[Instr.index,asIntOf,Sem.run_bind,Sem.run_pure,Result.andThen,run_underlying hu,if_pos h0,run_sizeOf hs,Nat.mul_one,part,run_isAgg hs,Bool.false_eq_true,if_false,he]
theorem R.idxAk{T e len n:Nat}{kk:IntKind}(k:Nat){cs:Array Value}(hu:x.P.underlying T=some (.array len e))(hs:shapeOf x.P e=some (false,n))(hn:n=1)(h1:evo l p=some (.agg cs))(h2:evo l q=some (.int kk (k:Int)))
 (hk:Nat.blt k len=true)(hv:cs[k]? =some v):Runs x (.index T p q) ty l own H v:=by
 have hlt:k<len:=by simpa using hk
 subst hn
 refine λρ w _ _ _ _ hρ hm=> ?_
 simp only[execOp,hρ _ _ h1,hρ _ _ h2]
 refine run_v ?_
 have h0:(0:Int)≤(k:Int)∧(k:Int)<(len:Int):=⟨by omega,by omega⟩
 simp only[Instr.index,asIntOf,Sem.run_bind,Sem.run_pure,Result.andThen,run_underlying hu,if_pos h0,run_sizeOf hs,Nat.mul_one,Int.toNat_natCast,part,run_isAgg hs,Bool.false_eq_true,if_false,hv]
def placesA (P:Program)(T n:Nat):Option (List (Nat×Nat)):=match P.underlying T with
 |some (.array _ e)=>(shapeOf P e).map (λs=>(List.range n).map (λi=>(i*s.2,s.2)))
 |_=>none
theorem fill_congr{f g:Nat→Option (Nat×Nat)}:∀{vs:List (Nat×Value)} {cells:Array Value},(∀p∈vs,f p.1=g p.1)→Instr.fill f cells vs=Instr.fill g cells vs
  |[],_,_=>rfl
  | (i,v)::r,cells,h=>by
    have h0:f i=g i:=h (i,v) (by simp)
    simp only[Instr.fill,h0]
    cases hg:g i with
    |none=>rfl
    | some s=>
      obtain⟨off,size⟩:=s
      simp only[]
      split
      · rfl
      · exact fill_congr (λp hp=>h p (by simp[hp]))
theorem R.bldA{T n:Nat}{parts:Array (Nat×Operand)}{vs:List (Nat×Value)}{z:Value}{places:List (Nat×Nat)}{cells:Array Value}(hz:zeroOf x.P T=some z)(hp:placesA x.P T n=some places)
    (hv:parts.toList.mapM (λp=>(evo l p.2).map (λu=>(p.1,u)))=some vs)(hlt:vs.all (λp=>Nat.blt p.1 n)=true)(hf:vs.all (fits places z.cells.size)=true)(hc:(setAll places z.cells.toList vs).toArray=cells):
    Runs x (.build T parts) ty l own H (.agg cells):=by
  subst hc
  refine λρ w _ _ _ _ hρ hm=> ?_
  simp only[execOp]
  have key:∀(ps:List (Nat×Operand)) (us:List (Nat×Value)),ps.mapM (λp=>(evo l p.2).map (λu=>(p.1,u)))=some us→ps.map (λp=>(p.1,ρ p.2))=us:=by
    intro ps
    induction ps with
    |nil=>intro us e;simp at e;simp[e]
    | cons p ps ih=>
      intro us e
      simp only[List.mapM_cons,Option.bind_eq_bind,Option.bind_eq_some_iff,Option.map_eq_some_iff]at e
      obtain⟨b,⟨u,hu,rfl⟩,cs,hcs,e⟩:=e
      simp at e;subst e
      simp[ih cs hcs,hρ _ _ hu]
  have hk:=key _ _ hv
  refine run_v ?_
  have e:parts.map (λp=>(p.1,ρ p.2))=vs.toArray:=by rw[←Array.toList_inj];simpa using hk
  have hfill:=fill_one _ _ _ hf
  unfold placesA at hp
  split at hp
  · rename_i ln e' hu
    cases hse:shapeOf x.P e' with
    |none=>simp[hse]at hp
    | some s=>
      simp[hse]at hp
      have hfc:Instr.fill (λi=>some (i*s.2,s.2)) z.cells vs=some (setAll places z.cells.toList vs).toArray:=by
        rw[←hfill]
        refine fill_congr (λp hp'=> ?_)
        have:=List.all_eq_true.1 hlt p hp'
        have hlt':p.1<n:=by simpa using this
        rw[←hp];simp[hlt']
      have:(Instr.build T vs.toArray).run x.P w=.ok (.agg (setAll places z.cells.toList vs).toArray) w:=by
        unfold Instr.build
        simp only[Sem.run_bind,run_zeroValue hz,Result.andThen,run_underlying hu,run_sizeOf (g:=s.1) (n:=s.2) hse,hfc,Sem.run_pure]
      first
        |exact(by simpa[e]using this)
        |(rw[show(Array.map _ parts)=vs.toArray from e];exact this)
  · cases hp
theorem IsSlice.cutv3{α:Type}{R:Rep α}{size:Nat}{v:Value}{m m':List α}{a b c:Int}{HF:Heaplet}(h:IsSlice HF R size v m)(hm:m'=cut m a b)(hab:0≤a∧a≤b∧b≤c∧c≤m.length):
 ∃v' cap,(∃ao,v=.slice ao m.length cap∧c≤cap∧v'=sliced ao a.toNat b.toNat c.toNat size)∧IsSlice HF R size v' m'∧∃ao',v'=.slice ao' m'.length (c.toNat-a.toNat):=by
 subst hm
 obtain⟨ao,cap,rfl,e1,r⟩:=h
 have hs:=IsSlice.sub (ao:=ao) (n:=m.length) (cap:=cap) ⟨ao,cap,rfl,e1,r⟩ a.toNat b.toNat c.toNat (by omega) (by omega) (by omega) (by omega)
 refine⟨_,cap,⟨ao,rfl,by omega,rfl⟩,by simpa[cut]using hs,?_⟩
 have hl:(cut m a b).length=b.toNat-a.toNat:=by have:=cut_length (l:=m) (a:=a) (b:=b) (by omega) (by omega) (by omega);omega
 unfold sliced
 exact⟨_,by rw[hl]⟩
theorem IsSlice.cutc{α:Type}{R:Rep α}{size:Nat}{v:Value}{m m':List α}{a b:Int}{HF:Heaplet}(h:IsSlice HF R size v m)(hm:m'=cut m a b)(hab:0≤a∧a≤b∧b≤m.length):
 ∃v' cap ao',(∃ao,v=.slice ao m.length cap∧b≤cap∧v'=sliced ao a.toNat b.toNat b.toNat size)∧v'=.slice ao' m'.length m'.length∧IsSlice HF R size v' m':=by
 obtain⟨v',cap,⟨ao,e,hc,e'⟩,hs,ao',e2⟩:=h.cutv3 (c:=b) hm ⟨hab.1,hab.2.1,Int.le_refl _,hab.2.2⟩
 refine⟨v',cap,ao',⟨ao,e,hc,e'⟩,?_,hs⟩
 have hl:m'.length=b.toNat-a.toNat:=by subst hm;have:=cut_length (l:=m) (a:=a) (b:=b) (by omega) (by omega) (by omega);omega
 rw[e2,hl]
theorem R.min2{m n:Int}{ts:Array TypeId}(h1:evo l p=some (.int .i64 m))(h2:evo l q=some (.int .i64 n)):Runs x (.call ⟨.builtin .min,#[p,q],ts⟩) ty l own H (.int .i64 (min m n)):=λρ w _ _ _ _ hρ hm=>by
 have e3:Array.map ρ #[p,q]= #[.int .i64 m,.int .i64 n]:=by simp[hρ _ _ h1,hρ _ _ h2]
 have e:(if n<m then n else m)=min m n:=by omega
 simp only[execOp,resolve,e3,Sem.run_bind,Sem.run_pure,Result.andThen,invoke,builtin,Builtin.min_,List.foldlM_cons,List.foldlM_nil,Builtin.min2,e]
theorem Lent.row'{α:Type}{R:Rep α}{H0 H2:Heaplet}{B:Nat}{K:Own}{E:TypeId}{size:Nat}{v:Value}{ls:List α}(i:Nat)(hl:Lent own H2)(hR:R.Mono)(hle:Hle H0 H2)(hi:own[i]? =some K)(hr:RowOf H0 R B E size v ls K):IsSlice H2 R size v ls:=
 Lent.row hl hR hle hi hr
theorem JL.callL2{c:Operand}{as:Array Operand}{ts:Array TypeId}{f:FuncId}{vs:List Value}{v:Value}
 (he:Enters x.P f)(hc:evo l c=some (.func (.func f) #[] #[]))(ha:as.toList.mapM (evo l)=some vs)
 (C:∀H2,Hle H H2→Lent own H2→Does x.P f vs.toArray [] H2 (λu K H'=>u=v))(hd:Nat.blt d x.n=true)(h:JL x ops Q rest ((d,v)::l) own H):
 JL x ops Q (⟨some d,.call ⟨.value c,as,ts⟩,ty,pos,aft,none⟩::rest) l own H:=λa w hh=>by
 simp only[wpLs,wanted_none,if_true]
 refine⟨λ_ _=>trivial,?_⟩
 have hrun:(execOp a.eval ⟨some d,.call ⟨.value c,as,ts⟩,ty,pos,aft,none⟩).run x.P w=.ok (.enter f vs.toArray) w:=by
  have e1:=eval_of hh hc
  have e2:=mapM_eval (λo u e=>eval_of hh e) ha
  simp only[execOp,resolve,e1,e2,Deferred.ofValue,Sem.run_bind,Sem.run_pure,Result.andThen,invoke]
  simpa using he _ _
 rw[semAt_of rfl,hrun]
 have hle:=lend_le hh.mem.ok
 show(_→_)∧CallsIn _ _ _ _ _ _ _
 refine⟨λe=>by simp[Fw]at e,?_⟩
 refine CallsIn.mono (show CallsIn (Fw x.r) (0-1) x.P f _ w _ from C _ hle (lend_lent hh.mem.ok) w (lend_agrees hh.mem.agr hh.mem.ok) ⟨λp hp=>by simp at hp,by simp[ids],λp hp=>by simp at hp⟩) ?_
 rintro e w' ⟨v',K',H',rfl,rfl,hm⟩
 have hm':Mem w H (ids []) [] H w':=⟨hm.agr.le (hle.trans hm.le),⟨λp hp=>by simp at hp,by simp[ids],λp hp=>by simp at hp⟩,hm.kept,λp hp=>by simp at hp,Hle.refl _,λ_ _ _=>rfl,Mem.soft0⟩
 refine h _ _ (Holds.put (x:=x) (l:=l) ⟨hh.size,hh.ds,hh.slots,?_⟩ hd _)
 simpa using hh.mem.go (K:=[]) (rst:=own.flatten) (by simp) hm'
theorem append_full{P:Program}{w:World}{H:Heaplet}{t tx ty E:TypeId}{z:Value}{size bytes:Nat}(hu:P.underlying t=some (.slice E))(he:eInfo P E=some (z,size,bytes))
 {n m:Nat}{base:Option Addr}{y:Value}{cells news:List Value}(ha:Agrees H w)(h0:cells.length=n*size)(hold:(Builtin.firstCells size n (.slice base n n)).run P w.drew=.ok cells.toArray w.drew)(hs:Src P size tx y m news w)(hm:0<m)
 (h63:n+m≤maxLen)(hb:(n+m)*bytes≤140737488355328){B:Nat}(hB:B≤w.heap.size):
 ∃v' K' w',(Builtin.append_ #[t,tx] ty #[.slice base n n,y]).run P w=.ok v' w'∧Row B E size v' (cells++news) (n+m) K'∧Mem w H [] K' H w':=by
 obtain⟨i,hi,hz,hsz,hby,hzs,hpos⟩:=eInfo_parts he
 subst hsz;subst hby
 have hlen:(cells++news).length=(n+m)*i.size:=by rw[List.length_append,h0,hs.newsLen,Nat.add_mul]
 have hg:n<n+m:=by omega
 have hsmall:n+m≤9223372036854775807:=by simp only[maxLen]at h63;omega
 have hrun:=run_append_grow_src (P:=P) w t tx ty E i z hu hi hz base n n cells hold y m news hs hg (by omega) (growslice_fits hg hb)
 have hge:=grownCap_ge w (n+m) n E
 have hcm:grownCap w (n+m) n E≤maxLen:=grownCap_le_maxLen w (n+m) n E h63
 obtain⟨C,hC⟩:∃C,C=(cells++news).toArray++Builtin.zeroCells z.cells (grownCap w (n+m) n E-(n+m)):=⟨_,rfl⟩
 rw[←hC]at hrun
 refine⟨_,[(w.heap.size,.cells C E (0,0))],_,hrun,⟨hlen,.inr ⟨w.heap.size,_,C,rfl,rfl,hB,hge,hcm,?_,?_⟩⟩,?_⟩
 · rw[hC];simp only[Array.size_append,List.size_toArray,size_zeroCells,hzs,hlen,←Nat.add_mul]
   refine Nat.mul_le_mul_right _ ?_;omega
 · rw[hC];simp only[Array.toList_append,List.append_assoc,List.toList_toArray]
   rw[←List.append_assoc,←hlen];exact List.take_left
 · have h:=Mem.alloc (w:=w.drew) (H:=H) (λb o v e=>ha b o v e) (.cells C E (0,0))
   exact⟨h.agr,h.ok,⟨h.kept.os,h.kept.tape,h.kept.output,h.kept.size,Nat.le_trans (Nat.le_succ _) h.kept.drawn,h.kept.block⟩,h.fresh,h.le,h.grow,h.soft⟩
theorem JL.appC{α:Type}{R:Rep α}{tx E:TypeId}{z y:Value}{size bytes n:Nat}{ao:Option Addr}{ls ms rs:List α}{H1:Heaplet}(hu:x.P.underlying t=some (.slice E))(he:eInfo x.P E=some (z,size,bytes))
 (h1:evo l p=some (.slice ao n n))(hR1:R.One)(hle:Hle H1 H)(hs:IsSlice H1 R size (.slice ao n n) ls)(hF:∀cs y,R H1 cs y→R HF cs y)(h2:evo l q=some y)(hsrc:SrcF x H HF own R size tx y ms)
 (hm:ms≠[])(hrs:rs=ls++ms)(hl:ls.length+ms.length≤LIM)(hb:Nat.ble bytes 128=true)(hd:Nat.blt d x.n=true)
 (h:∀v' K',RowOf HF R x.w0.heap.size E size v' rs K'→JL x ops Q rest ((d,v')::l) (K'::own) H):
 JL x ops Q (⟨some d,.call ⟨.builtin .append,#[p,q],#[t,tx]⟩,ty,pos,aft,none⟩::rest) l own H:=λa w hh=>by
 subst hrs
 simp only[wpLs,wanted_none,if_true]
 refine⟨λ_ _=>trivial,?_⟩
 obtain⟨cells,hf,ao',cap',ev,hc⟩:=hs.cells
 simp only[Value.slice.injEq]at ev
 obtain⟨rfl,rfl,-⟩:=ev
 obtain⟨news,hfn,honen,hsr⟩:=hsrc
 have hlen:cells.length=ls.length*size:=hf.length
 have hold:(Builtin.firstCells size ls.length (.slice ao ls.length ls.length)).run x.P w.drew=.ok cells.toArray w.drew:=by
  rcases hc with rfl|⟨b,o,rfl,hc⟩
  · simp only[Flat]at hf;subst hf
    cases ao with
    |none=>simp[Builtin.firstCells,go_sem]
    |some a=>exact run_firstCells_some (P:=x.P) w.drew size 0 a 0 0 [] (by simp) (λj u h=>by simp at h)
  · exact run_firstCells_some (P:=x.P) w.drew size ls.length ⟨b,o,none⟩ ls.length ls.length cells hlen (λj u h=>by
     rw[add_lit];exact hh.mem.agr _ _ _ (hle _ _ _ (hc j u h)))
 have hmp:0<ms.length:=List.length_pos_iff.2 hm
 obtain⟨v',K',w',hrun,hrow',hmem⟩:=append_full (ty:=ty) hu he hh.mem.agr hlen hold (hsr w hh.mem) hmp (lim_max hl) (lim_bytes hl hb) hh.mem.kept.size
 have hrun':(execOp a.eval ⟨some d,.call ⟨.builtin .append,#[p,q],#[t,tx]⟩,ty,pos,aft,none⟩).run x.P w=.ok (.value v') w':=by
  have e1:=eval_of hh h1
  have e2:=eval_of hh h2
  have:(execOp a.eval ⟨some d,.call ⟨.builtin .append,#[p,q],#[t,tx]⟩,ty,pos,aft,none⟩).run x.P w=((Builtin.append_ #[t,tx] ty #[.slice ao ls.length ls.length,y]).run x.P w).andThen (λr w''=>.ok (.value r) w''):=by
   generalize a.eval=ρ at e1 e2
   have e3:Array.map ρ #[p,q]= #[.slice ao ls.length ls.length,y]:=by simp[e1,e2]
   simp only[execOp,resolve,e3,Sem.run_bind,Sem.run_pure,Result.andThen,invoke,builtin]
  rw[this,hrun];rfl
 rw[semAt_of rfl,hrun']
 refine h v' K' ⟨cells++news,by simpa using hrow',Flat.append hfn (hf.conv hF),λu hu=>(List.mem_append.1 hu).elim (hf.one' hR1 u) (honen u)⟩ _ _ (Holds.put (x:=x) (l:=l) ⟨hh.size,hh.ds,hh.slots,?_⟩ hd v')
 simpa using hh.mem.go0 (K':=[K']) (by simpa using hmem)
theorem append_zrow{P:Program}{w:World}{H:Heaplet}{t tn ty E:TypeId}{kn:IntKind}{z:Value}{size bytes:Nat}(hu:P.underlying t=some (.slice E))(hun:P.underlying tn=some (.int kn))(he:eInfo P E=some (z,size,bytes))
 {B n N:Nat}{v:Value}{cells:List Value}{K:Own}(ha:Agrees H w)(hk:OwnOk H K w)(hr:Row B E size v cells n K)(hone:oneCells z.cells.toList)
 (hl:n+N≤LIM)(hbb:Nat.ble bytes 128=true)(hB:B≤w.heap.size):
 ∃v' K' w',(Builtin.append_ #[t,tn] ty #[v,.int .i64 (N:Int)]).run P w=.ok v' w'∧Row B E size v' (cells++(List.replicate N z.cells.toList).flatten) (n+N) K'∧Mem w H (ids K) K' H w':=by
 obtain⟨i,hi,hz,hsz,hby,hzs,hpos⟩:=eInfo_parts he
 subst hsz;subst hby
 obtain⟨h0,h1⟩:=hr
 have hnl:((List.replicate N z.cells.toList).flatten).length=N*i.size:=by simp[hzs]
 have hlen:(cells++(List.replicate N z.cells.toList).flatten).length=(n+N)*i.size:=by rw[List.length_append,h0,hnl,Nat.add_mul]
 have hw:IntKind.i64.wrap (N:Int)=N:=wi64 (by omega) (by unfold LIM at hl;omega)
 have hneg:¬((N:Int)<0):=by omega
 have hlb:=lim_bytes hl hbb
 have hlb2:N*i.bytes≤140737488355328:=Nat.le_trans (Nat.mul_le_mul_right _ (by omega)) hlb
 have h48i:¬(281474976710656<(N:Int)*(i.bytes:Int)):=by rw[←Int.natCast_mul];omega
 by_cases hm0:N=0
 · subst hm0
   have hw0:IntKind.i64.wrap 0=0:=by decide
   refine⟨v,K,w,?_,⟨by simpa using hlen,by simpa using h1⟩,Mem.same ha hk⟩
   rcases h1 with⟨rfl,rfl,rfl⟩|⟨g,cap,cur,rfl,rfl,e3,e4,e5,e6,e7⟩
   · simp[Builtin.append_,run_underlying hu,run_underlying hun,sizeOf,typeInfo,hi,asInt,asIntOf,hw0,go_sem]
   · have hst:(storeCells ((⟨g,0,none⟩:Addr).add (n*i.size)) []).run P w=.ok () w:=rfl
     simp[Builtin.append_,run_underlying hu,run_underlying hun,sizeOf,typeInfo,hi,asInt,asIntOf,hw0,e4,hst,go_sem]
 · have hzc:(Builtin.zeroCells z.cells N).toList=(List.replicate N z.cells.toList).flatten:=by
    have:=madeCells_flat z.cells N (by rw[hzs];exact hpos)
    rw[←this];simp[Builtin.zeroCells,madeCells]
   have hns:¬(N*i.size=0):=Nat.mul_ne_zero hm0 (by omega)
   have grows:∀(base:Option Addr) (sCap:Nat),(Builtin.firstCells i.size n (.slice base n sCap)).run P w.drew=.ok cells.toArray w.drew→sCap<n+N→
    ∃v' K' w',(Builtin.append_ #[t,tn] ty #[.slice base n sCap,.int .i64 (N:Int)]).run P w=.ok v' w'∧Row B E i.size v' (cells++(List.replicate N z.cells.toList).flatten) (n+N) K'∧Mem w H [] K' H w':=by
    intro base sCap hold hg
    have hrun:=Lib.run_append_grow_zeros (P:=P) w t tn ty E i z .i64 kn hu hun hi hz base n sCap cells hold N (by omega) hpos hg (by unfold LIM at hl;omega) (by omega) (growslice_fits hg hlb)
    have hge:=grownCap_ge w (n+N) sCap E
    have hcm:grownCap w (n+N) sCap E≤maxLen:=grownCap_le_maxLen w (n+N) sCap E (lim_max hl)
    obtain⟨C,hC⟩:∃C,C=cells.toArray++Builtin.zeroCells z.cells N++Builtin.zeroCells z.cells (grownCap w (n+N) sCap E-(n+N)):=⟨_,rfl⟩
    rw[←hC]at hrun
    refine⟨_,[(w.heap.size,.cells C E (0,0))],_,hrun,⟨hlen,.inr ⟨w.heap.size,_,C,rfl,rfl,hB,hge,hcm,?_,?_⟩⟩,?_⟩
    · rw[hC];simp only[Array.size_append,List.size_toArray,size_zeroCells,hzs,h0,←Nat.add_mul]
      refine Nat.mul_le_mul_right _ ?_;omega
    · rw[hC];simp only[Array.toList_append,List.append_assoc,List.toList_toArray,hzc]
      rw[←List.append_assoc,←hlen];exact List.take_left
    · have h:=Mem.alloc (w:=w.drew) (H:=H) (λb o v e=>ha b o v e) (.cells C E (0,0))
      exact⟨h.agr,h.ok,⟨h.kept.os,h.kept.tape,h.kept.output,h.kept.size,Nat.le_trans (Nat.le_succ _) h.kept.drawn,h.kept.block⟩,h.fresh,h.le,h.grow,h.soft⟩
   rcases h1 with⟨rfl,rfl,rfl⟩|⟨g,cap,cur,rfl,rfl,e3,e4,e5,e6,e7⟩
   · have hc:cells= []:=List.length_eq_zero_iff.1 (by rw[h0];simp)
     subst hc
     obtain⟨v',K',w',r1,r2,r3⟩:=grows none 0 (by simp[Builtin.firstCells,go_sem]) (by omega)
     exact⟨v',K',w',r1,r2,by simpa[ids]using r3⟩
   · have hg:=hk.here (g,.cells cur E (0,0)) (by simp)
     have hgd:∀j u,cells[j]? =some u→w.cell? ((⟨g,0,none⟩:Addr).add j)=some u:=λj u hj=>by
      rw[add_lit,Nat.zero_add,cell_of_row w g j cur E (0,0) hg]
      rw[←e7,List.getElem?_take]at hj
      split at hj
      · simpa using hj
      · cases hj
     by_cases hroom:n+N≤cap
     · have hfit:n*i.size+((List.replicate N z.cells.toList).flatten).length≤cur.size:=by
        rw[hnl,←Nat.add_mul];exact Nat.le_trans (Nat.mul_le_mul_right _ hroom) e6
       have hone':∀u∈(List.replicate N z.cells.toList).flatten,u.oneCell'=true:=λu hu=>by
        obtain⟨s,hs,hu⟩:=List.mem_flatten.1 hu
        rw[(List.mem_replicate.1 hs).2]at hu;exact hone u hu
       have hst:=run_storeCells_at P g (n*i.size) E (List.replicate N z.cells.toList).flatten 0 cur w hg (by simpa using hfit) hone'
       simp only[Nat.add_zero]at hst
       have hst':(storeCells (⟨g,n*i.size,none⟩:Addr) (Builtin.zeroCells z.cells N).toList).run P w=.ok () (w.setRow g (cur.toList.take (n*i.size)++(List.replicate N z.cells.toList).flatten++cur.toList.drop (n*i.size+((List.replicate N z.cells.toList).flatten).length)).toArray):=by
        rw[hzc];exact hst
       obtain⟨W2,hW2⟩:∃W2,W2=w.setRow g (cur.toList.take (n*i.size)++(List.replicate N z.cells.toList).flatten++cur.toList.drop (n*i.size+((List.replicate N z.cells.toList).flatten).length)).toArray:=⟨_,rfl⟩
       rw[←hW2]at hst'
       have hrun:(Builtin.append_ #[t,tn] ty #[.slice (some ⟨g,0,none⟩) n cap,.int .i64 (N:Int)]).run P w=.ok (.slice (some ⟨g,0,none⟩) (n+N) cap) W2:=by
        simp[Builtin.append_,run_underlying hu,run_underlying hun,sizeOf,typeInfo,zeroValue,hi,hz,asInt,asIntOf,hw,hneg,h48i,hroom,hns,go_sem]
        show((storeCells (⟨g,n*i.size,none⟩:Addr) (Builtin.zeroCells z.cells N).toList).run P w).andThen _=_
        rw[hst']
        rfl
       rw[hW2]at hrun
       obtain⟨C,hC⟩:∃C,C=(cur.toList.take (n*i.size)++(List.replicate N z.cells.toList).flatten++cur.toList.drop (n*i.size+((List.replicate N z.cells.toList).flatten).length)).toArray:=⟨_,rfl⟩
       rw[←hC]at hrun
       refine⟨_,[(g,.cells C E (0,0))],_,hrun,⟨hlen,.inr ⟨g,cap,C,rfl,rfl,e3,hroom,e5,?_,?_⟩⟩,by simpa[ids]using Mem.setRow ha hg (λo=>hk.apart (g,.cells cur E (0,0)) (by simp) o) _⟩
       · rw[hC];simp only[List.size_toArray,List.length_append,List.length_take,List.length_drop,Array.length_toList];omega
       · rw[hC,e7,←hlen];exact List.take_left
     · have hf:=run_firstCells_some (P:=P) w.drew i.size n ⟨g,0,none⟩ n cap cells h0 (by simpa using hgd)
       obtain⟨v',K',w',r1,r2,r3⟩:=grows (some ⟨g,0,none⟩) cap hf (by omega)
       refine⟨v',K',w',r1,r2,⟨r3.agr,r3.ok,⟨r3.kept.os,r3.kept.tape,r3.kept.output,r3.kept.size,r3.kept.drawn,λk hk' _=>r3.kept.block k hk' (by simp)⟩,λp hp=>.inr ((r3.fresh p hp).resolve_left (by simp)),r3.le,r3.grow,r3.soft⟩⟩
theorem JL.appZR{α:Type}{R:Rep α}(i:Nat){tn E:TypeId}{z:Value}{size bytes B:Nat}{kn:IntKind}{n:Int}{y:α}{ls rs zs:List α}{K:Own}(hu:x.P.underlying t=some (.slice E))(hun:x.P.underlying tn=some (.int kn))(he:eInfo x.P E=some (z,size,bytes))
 (h1:evo l p=some v)(hi:own[i]? =some K)(hr:RowOf HF R B E size v ls K)(h2:evo l q=some (.int .i64 n))(hR:∀H,R H z.cells.toList y)(hR1:R.One)(hzs:zs=List.replicate n.toNat y)(hn:0≤n∧n.toNat≤LIM)
 (hrs:rs=ls++zs)(hl:ls.length+zs.length≤LIM)(hb:Nat.ble bytes 128=true)(hB:B≤x.w0.heap.size)(hd:Nat.blt d x.n=true)
 (h:∀v' K',RowOf HF R B E size v' rs K'→JL x ops Q rest ((d,v')::l) (own.set i K') H):
 JL x ops Q (⟨some d,.call ⟨.builtin .append,#[p,q],#[t,tn]⟩,ty,pos,aft,none⟩::rest) l own H:=λa w hh=>by
 subst hrs;subst hzs
 obtain⟨N,rfl⟩:=Int.eq_ofNat_of_zero_le hn.1
 simp only[Int.toNat_natCast,List.length_replicate]at h hl
 simp only[wpLs,wanted_none,if_true]
 refine⟨λ_ _=>trivial,?_⟩
 obtain⟨cells,hrow,hf,hone⟩:=hr
 obtain⟨v',K',w',hrun,hrow',hm⟩:=append_zrow (ty:=ty) hu hun he hh.mem.agr (own_here hh.mem hi) hrow (hR1 _ _ _ (hR HF)) hl hb (Nat.le_trans hB hh.mem.kept.size)
 have hrun':(execOp a.eval ⟨some d,.call ⟨.builtin .append,#[p,q],#[t,tn]⟩,ty,pos,aft,none⟩).run x.P w=.ok (.value v') w':=by
  have e1:=eval_of hh h1
  have e2:=eval_of hh h2
  have:(execOp a.eval ⟨some d,.call ⟨.builtin .append,#[p,q],#[t,tn]⟩,ty,pos,aft,none⟩).run x.P w=((Builtin.append_ #[t,tn] ty #[v,.int .i64 (N:Int)]).run x.P w).andThen (λr w''=>.ok (.value r) w''):=by
   generalize a.eval=ρ at e1 e2
   have e3:Array.map ρ #[p,q]= #[v,.int .i64 (N:Int)]:=by simp[e1,e2]
   simp only[execOp,resolve,e3,Sem.run_bind,Sem.run_pure,Result.andThen,invoke,builtin]
  rw[this,hrun];rfl
 rw[semAt_of rfl,hrun']
 have hzl:z.cells.toList.length=size:=by
  obtain⟨i,hi,hz,hsz,hby,hzs,hpos⟩:=eInfo_parts he
  simpa using hzs
 have hfl:=flat_replicate (R:=R) (H:=HF) (size:=size) (hR HF) hzl N
 exact h v' K' ⟨cells++(List.replicate N z.cells.toList).flatten,by simpa using hrow',Flat.append hfl hf,λu hu=>(List.mem_append.1 hu).elim (hone u) (hfl.one' hR1 u)⟩ _ _
  (Holds.put (x:=x) (l:=l) ⟨hh.size,hh.ds,hh.slots,hh.mem.go1 hi hm⟩ hd v')
def putP (l:List Value)(o:Nat)(cs:List Value):List Value:=l.take o++cs++l.drop (o+cs.length)
def setP (places:List (Nat×Nat)):List Value→List (Nat×Value)→List Value
 |l,[]=>l
 |l,(i,v)::r=>setP places (match places[i]? with|some p=>putP l p.1 v.cells.toList|none=>l) r
def fitsP (places:List (Nat×Nat))(n:Nat)(p:Nat×Value):Bool:=match places[p.1]? with|some q=>Nat.beq q.2 p.2.cells.toList.length&&Nat.ble (q.1+p.2.cells.toList.length) n|none=>false
theorem fold_put (off:Nat):∀(cs:List Value) (k:Nat) (a:Array Value),off+k+cs.length≤a.size→
    (cs.zipIdx k).foldl (λa p=>a.setIfInBounds (off+p.2) p.1) a=(putP a.toList (off+k) cs).toArray
  |[],k,a,_=>by simp[putP]
  | c ::cs,k,a,h=>by
    simp only[List.length_cons]at h
    rw[List.zipIdx_cons,List.foldl_cons,fold_put off cs (k+1) _ (by simp;omega)]
    apply Array.toList_inj.1
    have hlt:off+k<a.toList.length:=by simp;omega
    simp only[putP,Array.toList_setIfInBounds,List.toList_toArray,List.length_cons]
    rw[List.set_eq_take_append_cons_drop,if_pos hlt]
    have hl:(a.toList.take (off+k)).length=off+k:=by rw[List.length_take];omega
    rw[show off+(k+1)=(off+k)+1 by omega]
    have e1:(a.toList.take (off+k)++c::a.toList.drop (off+k+1)).take (off+k+1)=a.toList.take (off+k)++ [c]:=by
      rw[List.take_append,hl,List.take_of_length_le (by omega)];simp
    have e2:(a.toList.take (off+k)++c::a.toList.drop (off+k+1)).drop (off+k+1+cs.length)=a.toList.drop (off+k+(cs.length+1)):=by
      rw[List.drop_append,hl,List.drop_eq_nil_of_le (by omega),List.nil_append,show off+k+1+cs.length-(off+k)=cs.length+1 by omega,List.drop_succ_cons,List.drop_drop];congr 1;omega
    rw[e1,e2];simp
theorem putP_length{l:List Value}{o:Nat}{cs:List Value}(h:o+cs.length≤l.length):(putP l o cs).length=l.length:=by
 simp only[putP,List.length_append,List.length_take,List.length_drop];omega
theorem fill_putP (places:List (Nat×Nat)):∀(vs:List (Nat×Value)) (cells:Array Value),vs.all (fitsP places cells.size)=true→Instr.fill (places.toArray[·]?) cells vs=some (setP places cells.toList vs).toArray
  |[],cells,_=>by simp[Instr.fill,setP]
  | (i,v)::r,cells,h=>by
    simp only[List.all_cons,Bool.and_eq_true,fitsP]at h
    obtain⟨h1,h3⟩:=h
    cases hp:places[i]? with
    |none=>rw[hp]at h1;cases h1
    | some q=>
      obtain⟨off,size⟩:=q
      rw[hp]at h1
      simp only[Bool.and_eq_true]at h1
      have e1:size=v.cells.toList.length:=Nat.eq_of_beq_eq_true h1.1
      have e2:off+v.cells.toList.length≤cells.size:=Nat.le_of_ble_eq_true h1.2
      have e3:¬(v.cells.size≠size∨off+v.cells.size>cells.size):=by simp only[Array.length_toList]at e1 e2;omega
      have e4:v.cells.zipIdx.foldl (λcs (x:Value×Nat)=>cs.setIfInBounds (off+x.2) x.1) cells=(putP cells.toList off v.cells.toList).toArray:=by
        rw[←Array.foldl_toList,Array.toList_zipIdx]
        exact fold_put off v.cells.toList 0 cells (by simpa using e2)
      have hsz:(putP cells.toList off v.cells.toList).toArray.size=cells.size:=by
        rw[List.size_toArray,putP_length (by simpa using e2)];simp
      have ih:=fill_putP places r (putP cells.toList off v.cells.toList).toArray (by rw[hsz];exact h3)
      have hp':places.toArray[i]? =some (off,size):=by simpa using hp
      simp only[Instr.fill,hp',setP,hp]
      simp only[decide_eq_true_eq,Bool.or_eq_true,ne_eq,gt_iff_lt]at e3⊢
      rw[if_neg (by simpa using e3)]
      rw[show(v.cells.zipIdx.foldl (λcs x=>match x with|(c,j)=>cs.setIfInBounds (off+j) c) cells)=(putP cells.toList off v.cells.toList).toArray from e4]
      exact ih
theorem R.bldP{T:TypeId}{parts:Array (Nat×Operand)}{vs:List (Nat×Value)}{z:Value}{places:List (Nat×Nat)}{cs:List Value}(hz:zeroOf x.P T=some z)(hp:placesOf x.P T=some places)
 (hv:parts.toList.mapM (λp=>(evo l p.2).map (λu=>(p.1,u)))=some vs)(hf:vs.all (fitsP places z.cells.toList.length)=true)(hc:setP places z.cells.toList vs=cs):Runs x (.build T parts) ty l own H (.agg cs.toArray):=by
 subst hc
 exact R.bld hz hp hv (fill_putP places vs z.cells (by simpa using hf))
def OSl{α:Type}(H:Heaplet)(R:Rep α)(size:Nat)(v:Value):Option (List α)→Prop
 |none=>v=.slice none 0 0
 |some m=>IsSlice H R size v m
theorem OSl.mono{α:Type}{R:Rep α}(hR:R.Mono){size:Nat}{v:Value}{y:Option (List α)}{H':Heaplet}(h:OSl H R size v y)(hle:Hle H H'):OSl H' R size v y:=by
 cases y with
 |none=>exact h
 |some m=>exact IsSlice.mono hR hle h
def R_WriteO:Rep WriteO:=λH cs y=>∃v1:Value,cs= [.int .i64 y.At,v1]∧OSl H RU8 1 v1 y.Data
theorem R_WriteO.mono:R_WriteO.Mono:=λ_ _ _ _ hle ⟨v,e,h⟩=>⟨v,e,OSl.mono RU8.mono h hle⟩
theorem JL.callL3{c:Operand}{as:Array Operand}{ts:Array TypeId}{f:FuncId}{vs:List Value}{R:Heaplet→Value→List Own→Heaplet→Prop}
 (he:Enters x.P f)(hc:evo l c=some (.func (.func f) #[] #[]))(ha:as.toList.mapM (evo l)=some vs)
 (C:∀H2,Hle H H2→Lent own H2→Does x.P f vs.toArray [] H2 (R H2))(hd:Nat.blt d x.n=true)
 (h:∀H2 v K' H',R H2 v K' H'→(∀p∈K'.flatten,x.w0.heap.size≤p.1)→JL x ops Q rest ((d,v)::l) (K'++own) H):
 JL x ops Q (⟨some d,.call ⟨.value c,as,ts⟩,ty,pos,aft,none⟩::rest) l own H:=λa w hh=>by
 simp only[wpLs,wanted_none,if_true]
 refine⟨λ_ _=>trivial,?_⟩
 have hrun:(execOp a.eval ⟨some d,.call ⟨.value c,as,ts⟩,ty,pos,aft,none⟩).run x.P w=.ok (.enter f vs.toArray) w:=by
  have e1:=eval_of hh hc
  have e2:=mapM_eval (λo u e=>eval_of hh e) ha
  simp only[execOp,resolve,e1,e2,Deferred.ofValue,Sem.run_bind,Sem.run_pure,Result.andThen,invoke]
  simpa using he _ _
 rw[semAt_of rfl,hrun]
 have hle:=lend_le hh.mem.ok
 show(_→_)∧CallsIn _ _ _ _ _ _ _
 refine⟨λe=>by simp[Fw]at e,?_⟩
 refine CallsIn.mono (show CallsIn (Fw x.r) (0-1) x.P f _ w _ from C _ hle (lend_lent hh.mem.ok) w (lend_agrees hh.mem.agr hh.mem.ok) ⟨λp hp=>by simp at hp,by simp[ids],λp hp=>by simp at hp⟩) ?_
 rintro e w' ⟨v',K',H',rfl,hR,hm⟩
 have hle2:=hle.trans hm.le
 have hm':Mem w H (ids []) K'.flatten H w':=⟨hm.agr.le hle2,⟨hm.ok.here,hm.ok.nodup,λp hp o=>by
  cases e:H p.1 o with
  |none=>rfl
  |some u=>have:=hle2 _ _ _ e;rw[hm.ok.apart p hp o]at this;cases this⟩,hm.kept,hm.fresh,Hle.refl _,λ_ _ _=>rfl,Mem.soft0⟩
 refine h _ _ _ _ hR (λp hp=>Nat.le_trans hh.mem.kept.size ((hm.fresh p hp).resolve_left (by simp[ids]))) _ _ (Holds.put (x:=x) (l:=l) ⟨hh.size,hh.ds,hh.slots,?_⟩ hd _)
 rw[List.flatten_append]
 exact hh.mem.go (K:=[]) (rst:=own.flatten) (by simp) hm'
end Go.Ow
namespace Go.Ow
open Go.RowKit
variable{x:Cx}{ops:Array Oper}{Q:Exit→Act→World→Prop}{rest:List Oper}{l:Slots}{own:List Own}{H HF:Heaplet}
variable{ty:TypeId}{d:Nat}{pos:String}{aft:Array Edge}{v:Value}{p q:Operand}{t u:TypeId}
def RPc (hb:Nat):Rep (Nat×Nat):=λ_ cs y=>∃s,cs= [.slice (some ⟨hb,s,none⟩) y.2 y.2]∧(y.2=0∨s=y.1)
theorem RPc.one (hb:Nat):(RPc hb).One:=λ_ _ _ ⟨s,e,_⟩=>by subst e;intro u hu;simp at hu;subst hu;rfl
def offs:Nat→List Nat→List (Nat×Nat)
 |_,[]=> []
 |s,n::r=>(s,n)::offs (s+n) r
theorem offs_length:∀(s:Nat) (ns:List Nat),(offs s ns).length=ns.length
 |_,[]=>rfl
 |s,n::r=>by simp[offs,offs_length (s+n) r]
theorem offs_append:∀(s:Nat) (a b:List Nat),offs s (a++b)=offs s a++offs (s+a.sum) b
 |s,[],b=>by simp[offs]
 |s,n::r,b=>by simp[offs,offs_append (s+n) r b,Nat.add_assoc]
def lens (bs:List (List UInt8)):List Nat:=bs.map List.length
theorem offs_at:∀(bs:List (List UInt8)) (s i:Nat) (b:List UInt8),bs[i]? =some b→(offs s (lens bs))[i]? =some (s+(bs.take i).flatten.length,b.length)
  |[],s,i,b,h=>by simp at h
  |c::r,s,0,b,h=>by simp at h;subst h;simp[lens,offs]
  | c::r,s,i+1,b,h=>by
    have:=offs_at r (s+c.length) i b (by simpa using h)
    simp only[lens,List.map_cons,offs,List.getElem?_cons_succ,List.take_succ_cons,List.flatten_cons,List.length_append]at this⊢
    rw[this,Nat.add_assoc]
theorem flat_at:∀(bs:List (List UInt8)) (i:Nat) (b:List UInt8),bs[i]? =some b→bs.flatten=(bs.take i).flatten++b++(bs.drop (i+1)).flatten
  |[],i,b,h=>by simp at h
  |c::r,0,b,h=>by simp at h;subst h;simp
  | c::r,i+1,b,h=>by
    have:=flat_at r i b (by simpa using h)
    simp[this]
theorem set_split:∀(bs:List (List UInt8)) (i:Nat) (b c:List UInt8),bs[i]? =some b→bs.set i c=bs.take i++c::bs.drop (i+1)
 |[],i,b,c,h=>by simp at h
 |a::r,0,b,c,h=>by simp
 |a::r,i+1,b,c,h=>by simp[set_split r i b c (by simpa using h)]
theorem lens_set{bs:List (List UInt8)}{i:Nat}{b c:List UInt8}(h:bs[i]? =some b)(hl:c.length=b.length):lens (bs.set i c)=lens bs:=by
 unfold lens
 rw[List.map_set]
 apply List.ext_getElem?
 intro j
 rw[List.getElem?_set]
 split
 · rename_i hj
   subst hj
   split
   · simp[h,hl]
   · rename_i hlt;have:=(List.getElem?_eq_some_iff.1 h).1;simp at hlt;omega
 · rfl
def Pcs (B E8 Eb:Nat)(v:Value)(bs:List (List UInt8))(K:Own):Prop:=
 ∃hb Kt,K=Kt++ [(hb,.cells (bvs bs.flatten).toArray E8 (0,0))]∧B≤hb∧bs.flatten.length≤maxLen∧RowOf (λ_ _=>none) (RPc hb) B Eb 1 v (offs 0 (lens bs)) Kt
theorem bvs_length (l:List UInt8):(bvs l).length=l.length:=by simp[bvs]
theorem Pcs.weak{B B' E8 Eb:Nat}(hB:B'≤B){bs:List (List UInt8)}{K:Own}(h:Pcs B E8 Eb v bs K):Pcs B' E8 Eb v bs K:=by
 obtain⟨hb,Kt,e,h1,h2,hr⟩:=h
 exact⟨hb,Kt,e,Nat.le_trans hB h1,h2,RowOf.weak hB hr⟩
theorem Pcs.base{B B' E8 Eb:Nat}{bs:List (List UInt8)}{K:Own}(h:Pcs B E8 Eb v bs K)(hB:∀p∈K,B'≤p.1):Pcs B' E8 Eb v bs K:=by
 obtain⟨hb,Kt,rfl,h1,h2,hr⟩:=h
 exact⟨hb,Kt,rfl,hB (hb,.cells (bvs bs.flatten).toArray E8 (0,0)) (by simp),h2,hr.base (λp hp=>hB p (by simp[hp]))⟩
theorem Pcs.ge{B E8 Eb:Nat}{bs:List (List UInt8)}{K:Own}(h:Pcs B E8 Eb v bs K):∀p∈K,B≤p.1:=by
 obtain⟨hb,Kt,rfl,h1,h2,hr⟩:=h
 intro p hp
 rcases List.mem_append.1 hp with hp|hp
 · exact hr.ge p hp
 · simp at hp;subst hp;exact h1
theorem newP_ids{N E8 Eb:Nat}{bs:List (List UInt8)}{K:Own}{S:List Nat}(h:Pcs N E8 Eb v bs K)(hS:∀i∈S,i<N):∀p∈K,p.1∉S:=λp hp hm=>by
 have h1:=h.ge p hp;have h2:=hS _ hm;omega
theorem Pcs.elem{B E8 Eb:Nat}{bs:List (List UInt8)}{K:Own}{b:List UInt8}{n:Int}(h:Pcs B E8 Eb v bs K)(hN:Nth bs n b):
    ∃ g o cur K',K= [(g,.cells cur Eb (0,0))]++K'∧ElemAt v 1 n g o∧∃hb s,cur.toList[o]? =some (.slice (some ⟨hb,s,none⟩) b.length b.length)∧(b.length=0∨s=(bs.take n.toNat).flatten.length)∧
      K'= [(hb,.cells (bvs bs.flatten).toArray E8 (0,0))]:=by
  obtain⟨hb,Kt,rfl,h1,h2,hr⟩:=h
  have hat:=offs_at bs 0 n.toNat b hN.2
  obtain⟨g,o,cs,cur,hK,hE,hR,hl,hc⟩:=hr.elem (i:=n) ⟨hN.1,hat⟩
  obtain⟨s,rfl,hs⟩:=hR
  subst hK
  refine⟨g,o,cur,_,rfl,hE,hb,s,?_,by simpa using hs,rfl⟩
  have:=hc 0 _ rfl
  simpa using this
theorem R.ldM (i:Nat){T n b o:Nat}{cur:Array Value}{tt:TypeId}{fr:Nat×Nat}{K:Own}(hs:shapeOf x.P T=some (false,n))(h1:evo l p=some (.pointer (some ⟨b,o,none⟩)))
 (hi:own[i]? =some K)(hm:(b,Obj.cells cur tt fr)∈K)(hc:cur.toList[o]? =some v):Runs x (.load T p) ty l own H v:=
 λρ w _ _ _ _ hρ hst=>by
  simp only[execOp,hρ _ _ h1]
  refine run_v (run_load1 hs ?_)
  rw[cell_of_row w b o cur tt fr (hst.2 (b,.cells cur tt fr) (List.mem_flatten.2 ⟨_,List.mem_of_getElem? hi,hm⟩))]
  simpa using hc
def PcAt (K:Own)(E8:Nat)(bs:List (List UInt8))(n:Int)(b:List UInt8)(pv:Value):Prop:=
 ∃hb s,pv=.slice (some ⟨hb,s,none⟩) b.length b.length∧(b.length=0∨s=(bs.take n.toNat).flatten.length)∧∃Kt,K=Kt++ [(hb,Obj.cells (bvs bs.flatten).toArray E8 (0,0))]
theorem Pcs.at{B E8 Eb:Nat}{bs:List (List UInt8)}{K:Own}{b:List UInt8}{n:Int}(h:Pcs B E8 Eb v bs K)(hN:Nth bs n b):
 ∃g o cur pv,ElemAt v 1 n g o∧(g,Obj.cells cur Eb (0,0))∈K∧cur.toList[o]? =some pv∧PcAt K E8 bs n b pv:=by
 obtain⟨g,o,cur,K',rfl,hE,hb,s,hc,hs,rfl⟩:=h.elem hN
 exact⟨g,o,cur,_,hE,by simp,hc,hb,s,rfl,hs,_,rfl⟩
theorem Mem.goM{w0:World}{H0 H H':Heaplet}{S:List Nat}{own:List Own}{Kt K1 K1':Own}{i:Nat}{w w':World}(hm:Mem w0 H0 S own.flatten H w)(hi:own[i]? =some (Kt++K1))
 (h:Mem w H (ids K1) K1' H' w'):Mem w0 H0 S (own.set i (Kt++K1')).flatten H' w':=by
 have p1:own.flatten.Perm (K1++(Kt++(own.eraseIdx i).flatten)):=by
  refine(flatten_perm hi).trans ?_
  rw[←List.append_assoc];exact List.perm_append_comm.append_right _
 refine(hm.go p1 h).perm ?_
 refine List.Perm.trans ?_ (flatten_set_perm (seg':=Kt++K1') hi).symm
 rw[←List.append_assoc];exact List.perm_append_comm.append_right _
theorem bvs_append (a b:List UInt8):bvs (a++b)=bvs a++bvs b:=by simp[bvs]
theorem bvs_one (l:List UInt8):∀u∈bvs l,u.oneCell'=true:=λu hu=>by
 obtain⟨_,_,rfl⟩:=List.mem_map.1 hu;rfl
theorem last_eq{Kt Ka:Own}{a b:Nat×Obj}(h:Kt++ [a]=Ka++ [b]):Kt=Ka∧a=b:=by
 have:=List.append_inj' h rfl
 exact⟨this.1,by simpa using this.2⟩
theorem Pcs.turned{B E8 Eb:Nat}{bs:List (List UInt8)}{K:Own}{b c:List UInt8}{n:Int}{pv:Value}(h:Pcs B E8 Eb v bs K)(hN:Nth bs n b)(hA:PcAt K E8 bs n b pv)(hl:c.length=b.length):
    ∃ Kt hb,K=Kt++ [(hb,.cells (bvs bs.flatten).toArray E8 (0,0))]∧Pcs B E8 Eb v (bs.set n.toNat c) (Kt++ [(hb,.cells (bvs (bs.set n.toNat c).flatten).toArray E8 (0,0))])∧
      (b.length=0∨pv=.slice (some ⟨hb,(bs.take n.toNat).flatten.length,none⟩) b.length b.length)∧∃s,pv=.slice (some ⟨hb,s,none⟩) b.length b.length:=by
  obtain⟨hb,Kt,rfl,h1,h2,hr⟩:=h
  obtain⟨hb',s,rfl,hs,Ka,e⟩:=hA
  obtain⟨rfl,e2⟩:=last_eq e
  simp only[Prod.mk.injEq]at e2
  obtain⟨rfl,-⟩:=e2
  have hfl:(bs.set n.toNat c).flatten.length=bs.flatten.length:=by
    rw[set_split bs n.toNat b c hN.2,flat_at bs n.toNat b hN.2];simp;omega
  refine⟨Kt,hb,rfl,⟨hb,Kt,rfl,h1,by rw[hfl];exact h2,by rw[lens_set hN.2 hl];exact hr⟩,?_,s,rfl⟩
  rcases hs with h0|rfl
  · exact .inl h0
  · exact .inr rfl
theorem flat_set{bs:List (List UInt8)}{i:Nat}{b c:List UInt8}(h:bs[i]? =some b)(hl:c.length=b.length):
 bvs (bs.set i c).flatten=(bvs bs.flatten).take (bs.take i).flatten.length++bvs c++(bvs bs.flatten).drop ((bs.take i).flatten.length+c.length):=by
 rw[set_split bs i b c h,flat_at bs i b h]
 simp only[List.flatten_append,List.flatten_cons,bvs_append]
 have e0:(bvs (bs.take i).flatten).length=(bs.take i).flatten.length:=bvs_length _
 generalize bvs (bs.take i).flatten=A at e0
 generalize (bs.take i).flatten.length=k at e0
 subst e0
 generalize bvs (bs.drop (i+1)).flatten=C
 rw[List.append_assoc A,List.take_left,List.drop_append,List.drop_eq_nil_of_le (as:=A) (by omega),List.nil_append,show A.length+c.length-A.length=(bvs b).length by rw[bvs_length];omega,List.drop_left]
 simp
theorem JL.copyP (i:Nat){tx E8 Eb B:Nat}{g:Bool}{K:Own}{bs:List (List UInt8)}{b m:List UInt8}{n:Int}{vp pv y:Value}{H1:Heaplet}(hu:x.P.underlying t=some (.slice E8))(hsz:shapeOf x.P E8=some (g,1))(hi:own[i]? =some K)(hP:Pcs B E8 Eb vp bs K)(hN:Nth bs n b)(hA:PcAt K E8 bs n b pv)
 (h1:evo l p=some pv)(h2:evo l q=some y)(hle:Hle H1 H)(hs:IsSlice H1 RU8 1 y m)(hl:m.length=b.length)(hd:Nat.blt d x.n=true)
 (h:∀K',Pcs B E8 Eb vp (bs.set n.toNat m) K'→JL x ops Q rest ((d,.int .i64 (m.length:Int))::l) (own.set i K') H):
 JL x ops Q (⟨some d,.call ⟨.builtin .copy,#[p,q],#[t,tx]⟩,ty,pos,aft,none⟩::rest) l own H:=λa w hh=>by
 have e1:=eval_of hh h1
 have e2:=eval_of hh h2
 simp only[wpLs,wanted_none,if_true]
 refine⟨λ_ _=>trivial,?_⟩
 have base:∀v' w',(Builtin.copy_ #[t,tx] ty #[pv,y]).run x.P w=.ok v' w'→
  (execOp a.eval ⟨some d,.call ⟨.builtin .copy,#[p,q],#[t,tx]⟩,ty,pos,aft,none⟩).run x.P w=.ok (.value v') w':=λv' w' hr=>by
  generalize a.eval=ρ at e1 e2
  have e3:Array.map ρ #[p,q]= #[pv,y]:=by simp[e1,e2]
  simp only[execOp,resolve,e3,Sem.run_bind,Sem.run_pure,Result.andThen,invoke,builtin,hr]
 obtain⟨Kt,hb,rfl,hP',hcase,s,rfl⟩:=hP.turned hN hA hl
 obtain⟨cells,hf,ao,cap,rfl,hc⟩:=hs.cells
 have hcb:cells=bvs m:=hf.of_u8
 subst hcb
 have hfc:(Builtin.firstCells 1 m.length (.slice ao m.length cap)).run x.P w=.ok (bvs m).toArray w:=by
  rcases hc with rfl|⟨b',o,rfl,hc⟩
  · cases ao with
    |none=>simp[Builtin.firstCells,go_sem,bvs]
    |some a=>exact run_firstCells_some (P:=x.P) w 1 0 a 0 cap [] (by simp) (λj u h=>by simp at h)
  · exact run_firstCells_some (P:=x.P) w 1 m.length ⟨b',o,none⟩ m.length cap (bvs m) (by simp[bvs]) (λj u h=>by rw[add_lit];exact hh.mem.agr _ _ _ (hle _ _ _ (hc j u h)))
 have hin:=own_here hh.mem hi
 have hbk:=hin.here (hb,.cells (bvs bs.flatten).toArray E8 (0,0)) (by simp)
 have hap:∀o,H hb o=none:=λo=>hin.apart (hb,.cells (bvs bs.flatten).toArray E8 (0,0)) (by simp) o
 have hso:(Go.sizeOf E8).run x.P w=.ok 1 w:=run_sizeOf hsz w
 by_cases h0:m.length=0
 · have hm0:m= []:=List.length_eq_zero_iff.1 h0
   subst hm0
   have hb0:b= []:=List.length_eq_zero_iff.1 (by simpa using hl.symm)
   subst hb0
   have hset:bs.set n.toNat []=bs:=by
    apply List.ext_getElem?
    intro j
    rw[List.getElem?_set]
    split
    · rename_i hj;subst hj;split
      · exact hN.2.symm
      · rename_i hlt;have:=(List.getElem?_eq_some_iff.1 hN.2).1;omega
    · rfl
   have hr:(Builtin.copy_ #[t,tx] ty #[.slice (some ⟨hb,s,none⟩) 0 0,.slice ao 0 cap]).run x.P w=.ok (.int .i64 0) w:=by
    have hfc':(Builtin.firstCells 1 0 (.slice ao 0 cap)).run x.P w=.ok #[] w:=hfc
    have hst:(storeCells ⟨hb,s,none⟩ []).run x.P w=.ok () w:=rfl
    have hmn:Nat.min 0 0=0:=rfl
    simp[Builtin.copy_,run_underlying hu,Builtin.lenOf,hso,hfc',hst,hmn,goInt,Sem.run_bind,Sem.run_pure,Result.andThen]
   rw[semAt_of rfl,base _ _ hr]
   have hx:=h _ hP'
   rw[hset]at hx
   have e8:own.set i (Kt++ [(hb,.cells (bvs bs.flatten).toArray E8 (0,0))])=own:=by
    apply List.ext_getElem?
    intro j
    rw[List.getElem?_set]
    split
    · rename_i hj;subst hj;rw[hi];split
      · rfl
      · rename_i hlt;have:=(List.getElem?_eq_some_iff.1 hi).1;omega
    · rfl
   rw[e8]at hx
   exact hx _ _ (Holds.put (x:=x) (l:=l) ⟨hh.size,hh.ds,hh.slots,hh.mem⟩ hd _)
 · have hpv:(⟨hb,s,none⟩:Addr)=⟨hb,(bs.take n.toNat).flatten.length,none⟩:=by
    rcases hcase with h'|h'
    · omega
    · simp only[Value.slice.injEq,Option.some.injEq]at h';exact h'.1
   have hfit:(bs.take n.toNat).flatten.length+0+(bvs m).length≤(bvs bs.flatten).toArray.size:=by
    rw[List.size_toArray,bvs_length,bvs_length,flat_at bs n.toNat b hN.2];simp;omega
   have hst:=run_storeCells_at x.P hb (bs.take n.toNat).flatten.length E8 (bvs m) 0 (bvs bs.flatten).toArray w hbk hfit (bvs_one m)
   simp only[Nat.add_zero]at hst
   have hcur:((bvs bs.flatten).toArray.toList.take (bs.take n.toNat).flatten.length++bvs m++(bvs bs.flatten).toArray.toList.drop ((bs.take n.toNat).flatten.length+(bvs m).length)).toArray=(bvs (bs.set n.toNat m).flatten).toArray:=by
    rw[flat_set hN.2 hl,bvs_length,List.toList_toArray]
   rw[hcur]at hst
   obtain⟨W2,hW2⟩:∃W2,W2=w.setRow hb (bvs (bs.set n.toNat m).flatten).toArray:=⟨_,rfl⟩
   rw[←hW2]at hst
   have hr:(Builtin.copy_ #[t,tx] ty #[.slice (some ⟨hb,s,none⟩) b.length b.length,.slice ao m.length cap]).run x.P w=.ok (.int .i64 (m.length:Int)) W2:=by
    rw[hpv]
    generalize (bs.take n.toNat).flatten.length=k at hst
    have hmin':Nat.min m.length b.length=m.length:=by rw[hl];exact Nat.min_self _
    generalize m.length=N at hfc hmin'⊢
    generalize b.length=M at hmin'⊢
    simp[Builtin.copy_,run_underlying hu,Builtin.lenOf,hso,hfc,hst,goInt,hmin',Sem.run_bind,Sem.run_pure,Result.andThen]
   rw[hW2]at hr
   rw[semAt_of rfl,base _ _ hr]
   refine h _ hP' _ _ (Holds.put (x:=x) (l:=l) ⟨hh.size,hh.ds,hh.slots,?_⟩ hd _)
   exact hh.mem.goM hi (by simpa[ids]using Mem.setRow hh.mem.agr hbk hap (bvs (bs.set n.toNat m).flatten).toArray)
theorem Flat.mapM{α β:Type}{R:Rep α}{R':Rep β}{H1 H2:Heaplet}(f:α→β){size:Nat}:∀{l:List α} {cells:List Value},(∀y∈l,∀cs,R H1 cs y→R' H2 cs (f y))→Flat H1 R size cells l→Flat H2 R' size cells (l.map f)
  |[],cells,_,h=>h
  | y::r,cells,hR,h=>by
    obtain⟨cs,more,rfl,h1,h2,h3⟩:=h
    exact⟨cs,more,rfl,h1,hR y (by simp) _ h2,Flat.mapM f (λz hz=>hR z (by simp[hz])) h3⟩
theorem offs_mem:∀(bs:List (List UInt8)) (s:Nat) (y:Nat×Nat),y∈offs s (lens bs)→s≤y.1∧y.1+y.2≤s+bs.flatten.length
  |[],s,y,h=>by simp[lens,offs]at h
  | b::r,s,y,h=>by
    simp only[lens,List.map_cons,offs,List.mem_cons]at h
    simp only[List.flatten_cons,List.length_append]
    rcases h with rfl|h
    · exact⟨Nat.le_refl _,by simp only;omega⟩
    · have:=offs_mem r (s+b.length) y h;omega
theorem offs_map:∀(bs:List (List UInt8)) (pre:List UInt8),(offs pre.length (lens bs)).map (λy=>((pre++bs.flatten).drop y.1).take y.2)=bs
  |[],pre=>rfl
  | b::r,pre=>by
    have ih:=offs_map r (pre++b)
    simp only[lens,List.map_cons,offs,List.flatten_cons]
    rw[List.length_append]at ih
    rw[show pre++(b++r.flatten)=pre++b++r.flatten by simp]
    simp only[lens]at ih
    rw[ih]
    congr 1
    rw[List.append_assoc,List.drop_left,List.take_left]
theorem Holds.pubPcs{i E8 Eb B:Nat}{K:Own}{bs:List (List UInt8)}(hi:own[i]? =some K)(hP:Pcs B E8 Eb v bs K)(hB:x.w0.heap.size≤B){a:Act}{w:World}(hh:Holds x l own H a w):
 ∃H',Hle H H'∧IsSlice (New x.H0 H') (RSl RU8 1) 1 v bs∧Holds x l (own.set i []) H' a w:=by
 obtain⟨hb,Kt,rfl,h1,h2,hr⟩:=hP
 -- in two
 have hh1:Holds x l ([(hb,.cells (bvs bs.flatten).toArray E8 (0,0))]::own.set i Kt) H a w:=⟨hh.size,hh.ds,hh.slots,hh.mem.perm (by
  simp only[List.flatten_cons]
  refine(flatten_perm hi).trans ?_
  refine List.Perm.trans ?_ ((flatten_set_perm (seg':=Kt) hi).symm.append_left _)
  rw[←List.append_assoc]
  exact(List.perm_append_comm).append_right _)⟩
 have hm:=Mem.pub (i:=0) hh1.mem rfl (Nat.le_trans hB h1)
 obtain⟨H1,hH1⟩:∃H1:Heaplet,H1=(λb o=>if b=hb then(bvs bs.flatten).toArray[o]? else H b o):=⟨_,rfl⟩
 rw[←hH1]at hm
 have hgn:∀o,H hb o=none:=λo=>(own_here hh1.mem (i:=0) rfl).apart (hb,.cells (bvs bs.flatten).toArray E8 (0,0)) (by simp) o
 have hg0:∀o,x.H0 hb o=none:=λo=>by
  cases h:x.H0 hb o with
  |none=>rfl
  |some v=>have:=hh.mem.le _ _ _ h;rw[hgn]at this;cases this
 have hle1:Hle H H1:=λb o v e=>by
  rw[hH1]
  by_cases hb':b=hb
  · subst hb';rw[hgn]at e;cases e
  · simp[hb',e]
 have hilt:=(List.getElem?_eq_some_iff.1 hi).1
 have hh2:Holds x l (own.set i Kt) H1 a w:=⟨hh.size,hh.ds,hh.slots,by simpa using hm⟩
 have hi2:(own.set i Kt)[i]? =some Kt:=by simp[hilt]
 have hr2:RowOf (New x.H0 H1) (RSl RU8 1) B Eb 1 v bs Kt:=by
  obtain⟨cells,g1,g2,g3⟩:=hr
  have hmap:=offs_map bs []
  simp only[List.length_nil,List.nil_append]at hmap
  refine⟨cells,by rw[offs_length]at g1;simpa[lens]using g1,?_,g3⟩
  have:=Flat.mapM (R':=RSl RU8 1) (H2:=New x.H0 H1) (λy:Nat×Nat=>(bs.flatten.drop y.1).take y.2) (λy hy cs hR=>by
   obtain⟨s,rfl,hs⟩:=hR
   have hy2:=offs_mem bs 0 y hy
   have hl:((bs.flatten.drop y.1).take y.2).length=y.2:=by rw[List.length_take,List.length_drop];omega
   refine⟨_,rfl,?_⟩
   have hsl:=IsSlice.of_cells (H:=New x.H0 H1) (R:=RU8) (size:=1) (b:=hb) (o:=s) (cap:=y.2) (Flat.bytes ((bs.flatten.drop y.1).take y.2)) (by rw[hl];exact Nat.le_refl _) (by omega) (λj u hj=>by
    have hj2:j<y.2:=by have:=(List.getElem?_eq_some_iff.1 hj).1;rw[bvs_length,hl]at this;exact this
    have hs':s=y.1:=by rcases hs with h|h<;>omega
    subst hs'
    unfold New
    rw[hg0,hH1]
    simp only[if_true]
    unfold bvs at hj⊢
    rw[List.getElem?_map,List.getElem?_take,if_pos hj2,List.getElem?_drop]at hj
    rw[List.getElem?_toArray,List.getElem?_map]
    exact hj)
   rw[hl]at hsl
   exact hsl) g2
  rw[hmap]at this
  exact this
 obtain⟨H',h3,h4,h5⟩:=hh2.pubN (RSl.mono RU8.mono) hi2 hr2 hB
 refine⟨H',hle1.trans h3,h4,?_⟩
 have e:(own.set i Kt).set i []=own.set i []:=by simp
 rw[e]at h5;exact h5
theorem JN.pubPcs{C:Act→World→Prop}(i:Nat){E8 Eb B:Nat}{K:Own}{bs:List (List UInt8)}(hi:own[i]? =some K)(hP:Pcs B E8 Eb v bs K)(hB:x.w0.heap.size≤B)
 (h:∀H',Hle H H'→IsSlice (New x.H0 H') (RSl RU8 1) 1 v bs→JN x C l (own.set i []) H'):JN x C l own H:=λa w hh=>by
 obtain⟨H',h1,h2,h3⟩:=hh.pubPcs hi hP hB;exact h H' h1 h2 a w h3
theorem flat_ones:∀(N:Nat),(List.replicate N (Value.int .u8 0).cells.toList).flatten=List.replicate N (Value.int .u8 ((0:UInt8).toNat:Int))
 |0=>rfl
 |k+1=>by rw[List.replicate_succ,List.replicate_succ,List.flatten_cons,flat_ones k];rfl
theorem JL.mkB{E:TypeId}{bytes N:Nat}{kl kc:IntKind}(hu:x.P.underlying t=some (.slice E))(he:eInfo x.P E=some (.int .u8 0,1,bytes))(h1:evo l p=some (.int kl (N:Int)))(h2:evo l q=some (.int kc (N:Int)))(hN:N≤LIM)(hb:Nat.ble bytes 128=true)(hd:Nat.blt d x.n=true)
 (h:∀g,x.w0.heap.size≤g→JL x ops Q rest ((d,.slice (some ⟨g,0,none⟩) N N)::l) ([(g,.cells (bvs (List.replicate N 0)).toArray E (0,0))]::own) H):JL x ops Q (⟨some d,.makeSlice t p q,ty,pos,aft,none⟩::rest) l own H:=λa w hh=>by
 simp only[wpLs,wanted_none,if_true]
 refine⟨λ_ _=>trivial,?_⟩
 obtain⟨i,hi,hz,hsz,hby,hzs,hpos⟩:=eInfo_parts he
 subst hby
 have hlb:=lim_bytes hN hb
 have hb':(i.bytes:Int)*(N:Int)≤281474976710656:=by
  have h:((i.bytes*N:Nat):Int)≤281474976710656:=by rw[Nat.mul_comm];omega
  rwa[Int.natCast_mul]at h
 have hrun:=run_make (P:=x.P) w t E i (.int .u8 0) hu hi hz kl kc N N (by omega) (Int.le_refl _) hb' (by have:=lim_max hN;simp only[maxLen]at this;omega)
 simp only[Int.toNat_natCast,hsz,Nat.mul_one]at hrun
 have e1:=eval_of hh h1
 have e2:=eval_of hh h2
 generalize a.eval=ρ at e1 e2
 have hmc:madeCells (Value.int .u8 0).cells N=(bvs (List.replicate N 0)).toArray:=by
  apply Array.toList_inj.1
  have:=madeCells_flat (Value.int .u8 0).cells N (by decide)
  have e:(Value.int .u8 0).cells.size=1:=rfl
  rw[e,Nat.mul_one]at this
  rw[this]
  simp only[bvs,List.map_replicate,List.toList_toArray]
  exact flat_ones N
 have hrun':(execOp ρ ⟨some d,.makeSlice t p q,ty,pos,aft,none⟩).run x.P w=.ok (.value (.slice (some ⟨w.heap.size,0,none⟩) N N)) (w.alloc (.cells (bvs (List.replicate N 0)).toArray E)):=by
  simp only[execOp,e1,e2];rw[←hmc];exact run_v hrun
 rw[semAt_of rfl,hrun']
 refine h w.heap.size hh.mem.kept.size _ _ (Holds.put (x:=x) (l:=l) ?_ hd _)
 exact⟨hh.size,hh.ds,hh.slots,by simpa using hh.mem.go0 (K':=[[(w.heap.size,.cells (bvs (List.replicate N 0)).toArray E (0,0))]]) (by simpa using Mem.alloc hh.mem.agr (.cells (bvs (List.replicate N 0)).toArray E (0,0)))⟩
theorem Flat.td{α:Type}{R:Rep α}{HF:Heaplet}{size:Nat}:∀(k:Nat) {m:List α} {cells:List Value},Flat HF R size cells m→Flat HF R size (cells.take (k*size)) (m.take k)∧Flat HF R size (cells.drop (k*size)) (m.drop k)
  |0,m,cells,h=>by simp only[Nat.zero_mul,List.take_zero,List.drop_zero];exact⟨rfl,h⟩
  | k+1,[],cells,h=>by
    simp only[Flat]at h;subst h;simp only[List.take_nil,List.drop_nil];exact⟨rfl,rfl⟩
  | k +1,y::r,cells,h=>by
    obtain⟨cs,more,rfl,h1,h2,h3⟩:=h
    have ih:=Flat.td k h3
    have e1:(cs++more).take ((k+1)*size)=cs++more.take (k*size):=by
      rw[List.take_append,List.take_of_length_le (by rw[h1,Nat.add_mul];omega),h1];congr 2;rw[Nat.add_mul];omega
    have e2:(cs++more).drop ((k+1)*size)=more.drop (k*size):=by
      rw[List.drop_append,List.drop_eq_nil_of_le (by rw[h1,Nat.add_mul];omega),List.nil_append,h1];congr 1;rw[Nat.add_mul];omega
    rw[e1,e2]
    exact⟨⟨cs,_,rfl,h1,h2,ih.1⟩,ih.2⟩
theorem RowOf.whole{α:Type}{R:Rep α}{B size:Nat}{E:TypeId}{v:Value}{ls:List α}{K:Own}(h:RowOf HF R B E size v ls K):SubV size v v (0:Int).toNat ((ls.length:Int).toNat-(0:Int).toNat):=by
 obtain⟨cells,⟨h0,h1⟩,hf,ho⟩:=h
 rcases h1 with⟨rfl,h3,rfl⟩|⟨g,cap,cur,rfl,rfl,e3,e4,e5,e6,e7⟩
 · refine⟨⟨none,0,?_⟩,.inl ?_⟩<;>simp[h3]
 · exact⟨⟨some ⟨g,0,none⟩,cap,by simp⟩,.inr ⟨g,0,_,cap,cap,rfl,by simp,by simp⟩⟩
def CSrc{α:Type}(x:Cx)(H HF:Heaplet)(own:List Own)(R:Rep α)(size:Nat)(y:Value)(ns:List α):Prop:=
 ∃ao cap,y=.slice ao ns.length cap∧∃cells,Flat HF R size cells ns∧oneCells cells∧∀w,Mem x.w0 x.H0 x.S own.flatten H w→∀n,n≤ns.length→(Builtin.firstCells size n y).run x.P w=.ok (cells.take (n*size)).toArray w
theorem run_first{P:Program}{w:World}{size n len cap:Nat}{ao:Option Addr}{cells:List Value}(hl:cells.length=len*size)(hn:n≤len)(hc:len=0∨∃a:Addr,ao=some a∧∀j u,cells[j]? =some u→w.cell? (a.add j)=some u):
    (Builtin.firstCells size n (.slice ao len cap)).run P w=.ok (cells.take (n*size)).toArray w:=by
  rcases hc with h0|⟨a,rfl,hc⟩
  · have hn0:n=0:=by omega
    subst hn0
    cases ao with
    |none=>simp[Builtin.firstCells,go_sem]
    | some a=>
      have:=run_firstCells_some (P:=P) w size 0 a len cap [] (by simp) (λj u h=>by simp at h)
      simpa using this
  · exact run_firstCells_some (P:=P) w size n a len cap (cells.take (n*size)) (by rw[List.length_take,hl];exact Nat.min_eq_left (Nat.mul_le_mul_right _ hn)) (λj u h=>by
      rw[List.getElem?_take]at h
      split at h
      · exact hc j u h
      · cases h)
theorem CSrc.slice{α:Type}{R:Rep α}(hR:R.One){size:Nat}{y:Value}{ns:List α}{H1:Heaplet}(hle:Hle H1 H)(hs:IsSlice H1 R size y ns)(hF:∀cs z,R H1 cs z→R HF cs z):CSrc x H HF own R size y ns:=by
 obtain⟨cells,hf,ao,cap,rfl,hc⟩:=hs.cells
 refine⟨ao,cap,rfl,cells,hf.conv hF,hf.one' hR,λw hm n hn=>run_first hf.length hn ?_⟩
 rcases hc with rfl|⟨b,o,rfl,hc⟩
 · exact .inl rfl
 · exact .inr ⟨_,rfl,λj u h=>by rw[add_lit];exact hm.agr _ _ _ (hle _ _ _ (hc j u h))⟩
theorem CSrc.part{α:Type}{R:Rep α}{size B:Nat}{E:TypeId}{v y:Value}{ls ns:List α}{K:Own}{lo hi:Int}(i:Nat)(hi':own[i]? =some K)(hr:RowOf HF R B E size v ls K)(hs:SubV size v y lo.toNat (hi.toNat-lo.toNat))(hb:0≤lo∧lo≤hi∧hi≤ls.length)(hn:ns=cut ls lo hi):CSrc x H HF own R size y ns:=by
 subst hn
 have hcl:(cut ls lo hi).length=hi.toNat-lo.toNat:=by have:=cut_length (l:=ls) hb.1 hb.2.1 hb.2.2;omega
 obtain⟨⟨ao,cap,rfl⟩,hs⟩:=hs
 obtain⟨cells,⟨h0,h1⟩,hf,ho⟩:=hr
 have hfc:=(Flat.td (hi.toNat-lo.toNat) (Flat.td lo.toNat hf).2).1
 refine⟨ao,cap,by rw[hcl],(cells.drop (lo.toNat*size)).take ((hi.toNat-lo.toNat)*size),hfc,λu hu=>ho u (List.mem_of_mem_drop (List.mem_of_mem_take hu)),λw hm n hn'=> ?_⟩
 have hlen:=hfc.length
 rw[show((ls.drop lo.toNat).take (hi.toNat-lo.toNat)).length=hi.toNat-lo.toNat from hcl]at hlen
 rw[hcl]at hn'
 refine run_first hlen hn' ?_
 rcases hs with h|⟨b,o,n',cap2,cap',e1,e2,hle⟩
 · exact .inl h
 · right
   simp only[Value.slice.injEq]at e2
   obtain⟨rfl,-,rfl⟩:=e2
   refine⟨_,rfl,λj u hj=> ?_⟩
   rcases h1 with⟨e,h3,rfl⟩|⟨g,capg,cur,e,rfl,e3,e4,e5,e6,e7⟩
   · rw[e]at e1;simp at e1
   · rw[e]at e1
     simp only[Value.slice.injEq,Option.some.injEq,Addr.mk.injEq]at e1
     obtain⟨⟨rfl,rfl,-⟩,rfl,rfl⟩:=e1
     have hg:=(own_here hm hi').here (g,.cells cur E (0,0)) (by simp)
     rw[add_lit,cell_of_row w g _ cur E (0,0) hg,Nat.zero_add]
     rw[List.getElem?_take]at hj
     split at hj
     · rw[List.getElem?_drop,←e7,List.getElem?_take]at hj
       split at hj
       · simpa using hj
       · cases hj
     · cases hj
theorem take_mid{β:Type}{cur D:List β}{a d T:Nat}(hD:D.length=d)(h1:a+d≤T)(h2:T≤cur.length):(cur.take a++D++cur.drop (a+d)).take T=(cur.take T).take a++D++(cur.take T).drop (a+d):=by
 have k1:(cur.take a).length=a:=by rw[List.length_take];omega
 rw[List.take_append,List.take_append,List.take_take,List.take_take,Nat.min_eq_right (by omega),Nat.min_eq_left (by omega),List.take_of_length_le (l:=D) (by rw[k1,hD];omega),List.drop_take]
 congr 2
 rw[List.length_append,k1,hD]
theorem JL.copyR{α:Type}{R:Rep α}(i:Nat){tx E B e:Nat}{g:Bool}{size:Nat}{K:Own}{ls ns ms:List α}{lo hi:Int}{v v' y:Value}(hu:x.P.underlying t=some (.slice e))(hsz:shapeOf x.P e=some (g,size))(hi':own[i]? =some K)(hr:RowOf HF R B E size v ls K)
 (h1:evo l p=some v')(hs:SubV size v v' lo.toNat (hi.toNat-lo.toNat))(h2:evo l q=some y)(hc:CSrc x H HF own R size y ns)(hb:0≤lo∧lo≤hi∧hi≤ls.length)(hm:ms=cpy ls lo.toNat (ns.take (hi.toNat-lo.toNat)))(hd:Nat.blt d x.n=true)
 (h:∀K',RowOf HF R B E size v ms K'→JL x ops Q rest ((d,.int .i64 (min (ns.length:Int) (hi-lo)))::l) (own.set i K') H):
 JL x ops Q (⟨some d,.call ⟨.builtin .copy,#[p,q],#[t,tx]⟩,ty,pos,aft,none⟩::rest) l own H:=λa w hh=>by
 have e1:=eval_of hh h1
 have e2:=eval_of hh h2
 simp only[wpLs,wanted_none,if_true]
 refine⟨λ_ _=>trivial,?_⟩
 obtain⟨⟨ao1,cap1,rfl⟩,hs⟩:=hs
 obtain⟨ao,cap,rfl,cells,hf,hone,hrun⟩:=hc
 have base:∀u w',(Builtin.copy_ #[t,tx] ty #[.slice ao1 (hi.toNat-lo.toNat) cap1,.slice ao ns.length cap]).run x.P w=.ok u w'→
  (execOp a.eval ⟨some d,.call ⟨.builtin .copy,#[p,q],#[t,tx]⟩,ty,pos,aft,none⟩).run x.P w=.ok (.value u) w':=λu w' hr=>by
  generalize a.eval=ρ at e1 e2
  have e3:Array.map ρ #[p,q]= #[.slice ao1 (hi.toNat-lo.toNat) cap1,.slice ao ns.length cap]:=by simp[e1,e2]
  simp only[execOp,resolve,e3,Sem.run_bind,Sem.run_pure,Result.andThen,invoke,builtin,hr]
 obtain⟨N,hN⟩:∃N,N=Nat.min ns.length (hi.toNat-lo.toNat):=⟨_,rfl⟩
 have hN1:N≤ns.length:=by rw[hN];exact Nat.min_le_left _ _
 have hN2:N≤hi.toNat-lo.toNat:=by rw[hN];exact Nat.min_le_right _ _
 have hN3:(N:Int)=min (ns.length:Int) (hi-lo):=by rw[hN];show((min ns.length (hi.toNat-lo.toNat):Nat):Int)=_;omega
 have hNt:ns.take (hi.toNat-lo.toNat)=ns.take N:=by
  by_cases h':ns.length≤hi.toNat-lo.toNat
  · have:N=ns.length:=by rw[hN];exact Nat.min_eq_left h'
    rw[this,List.take_length,List.take_of_length_le h']
  · have:N=hi.toNat-lo.toNat:=by rw[hN];exact Nat.min_eq_right (by omega)
    rw[this]
 have hfc:=hrun w hh.mem N hN1
 have hso:(Go.sizeOf e).run x.P w=.ok size w:=run_sizeOf hsz w
 have hfn:=(Flat.td N hf).1
 have hln2:(ns.take N).length=N:=by rw[List.length_take,Nat.min_eq_left hN1]
 have hln:(cells.take (N*size)).length=N*size:=by have:=hfn.length;rw[hln2]at this;exact this
 subst hm
 rw[hNt]at h
 have hin:=own_here hh.mem hi'
 rw[←hN3]at h
 -- nothing to copy
 by_cases h0:N=0
 · have hst:∀ad:Addr,(storeCells ad []).run x.P w=.ok () w:=λ_=>rfl
   have hr':(Builtin.copy_ #[t,tx] ty #[.slice ao1 (hi.toNat-lo.toNat) cap1,.slice ao ns.length cap]).run x.P w=.ok (.int .i64 (N:Int)) w:=by
    rw[h0]at hfc hN⊢
    have hfc':(Builtin.firstCells size 0 (.slice ao ns.length cap)).run x.P w=.ok #[] w:=by simpa using hfc
    generalize hi.toNat-lo.toNat=M at hN⊢
    generalize ns.length=L at hN hfc'⊢
    cases ao1 with
    |none=>simp[Builtin.copy_,run_underlying hu,Builtin.lenOf,hso,←hN,hfc',goInt,Sem.run_bind,Sem.run_pure,Result.andThen]
    |some ad=>simp[Builtin.copy_,run_underlying hu,Builtin.lenOf,hso,←hN,hfc',hst,goInt,Sem.run_bind,Sem.run_pure,Result.andThen]
   rw[semAt_of rfl,base _ _ hr']
   have hx:=h K (by rw[h0];simpa[cpy]using hr)
   have e8:own.set i K=own:=by
    apply List.ext_getElem?
    intro j
    rw[List.getElem?_set]
    split
    · rename_i hj;subst hj;rw[hi'];split
      · rfl
      · rename_i hlt;have:=(List.getElem?_eq_some_iff.1 hi').1;omega
    · rfl
   rw[e8]at hx
   exact hx _ _ (Holds.put (x:=x) (l:=l) ⟨hh.size,hh.ds,hh.slots,hh.mem⟩ hd _)
 · rcases hs with h'|⟨b,o,n',cap2,cap',ev,e2',hle⟩
   · omega
   simp only[Value.slice.injEq]at e2'
   obtain⟨rfl,-,rfl⟩:=e2'
   obtain⟨cs,⟨g0,g1⟩,gf,go⟩:=hr
   rcases g1 with⟨e',h3,rfl⟩|⟨gg,capg,cur,e',rfl,e3,e4,e5,e6,e7⟩
   · rw[e']at ev;simp at ev
   rw[e']at ev
   simp only[Value.slice.injEq,Option.some.injEq,Addr.mk.injEq]at ev
   obtain⟨⟨rfl,rfl,-⟩,rfl,rfl⟩:=ev
   have hbk:=hin.here (gg,.cells cur E (0,0)) (by simp)
   have hap:∀o,H gg o=none:=λo=>hin.apart (gg,.cells cur E (0,0)) (by simp) o
   have hcl:capg*size≤cur.toList.length:=by simpa using e6
   have hrows:(lo.toNat+N)*size≤ls.length*size:=Nat.mul_le_mul_right _ (by omega)
   have hrows2:ls.length*size≤capg*size:=Nat.mul_le_mul_right _ e4
   have hfit:lo.toNat*size+0+(cells.take (N*size)).length≤cur.size:=by rw[hln,Nat.add_zero,←Nat.add_mul];omega
   have hst:=run_storeCells_at x.P gg (lo.toNat*size) E (cells.take (N*size)) 0 cur w hbk hfit (λu hu=>hone u (List.mem_of_mem_take hu))
   simp only[Nat.add_zero]at hst
   obtain⟨C,hC⟩:∃C,C=(cur.toList.take (lo.toNat*size)++cells.take (N*size)++cur.toList.drop (lo.toNat*size+(cells.take (N*size)).length)).toArray:=⟨_,rfl⟩
   rw[←hC]at hst
   have hr':(Builtin.copy_ #[t,tx] ty #[.slice (some ⟨gg,0+lo.toNat*size,none⟩) (hi.toNat-lo.toNat) cap1,.slice ao ns.length cap]).run x.P w=.ok (.int .i64 (N:Int)) (w.setRow gg C):=by
    rw[Nat.zero_add]
    generalize hi.toNat-lo.toNat=M at hN⊢
    generalize ns.length=L at hN hfc⊢
    generalize cells.take (N*size)=D at hfc hst
    generalize lo.toNat*size=o at hst⊢
    simp[Builtin.copy_,run_underlying hu,Builtin.lenOf,hso,←hN,hfc,hst,goInt,Sem.run_bind,Sem.run_pure,Result.andThen]
   rw[semAt_of rfl,base _ _ hr']
   have hm2:=hh.mem.go1 hi' (by simpa[ids]using Mem.setRow hh.mem.agr hbk hap C)
   refine h [(gg,.cells C E (0,0))] ?_ _ _ (Holds.put (x:=x) (l:=l) ⟨hh.size,hh.ds,hh.slots,hm2⟩ hd _)
   have hfl:Flat HF R size (cs.take (lo.toNat*size)++cells.take (N*size)++cs.drop ((lo.toNat+N)*size)) (cpy ls lo.toNat (ns.take N)):=by
    unfold cpy
    rw[hln2]
    exact Flat.append (Flat.td (lo.toNat+N) gf).2 (Flat.append hfn (Flat.td lo.toNat gf).1)
   have hcpl:(cpy ls lo.toNat (ns.take N)).length=ls.length:=by
    unfold cpy;rw[List.length_append,List.length_append,hln2,List.length_take,List.length_drop];omega
   refine⟨_,⟨hfl.length,.inr ⟨gg,capg,C,by rw[hcpl];exact e',rfl,e3,by rw[hcpl];exact e4,e5,?_,?_⟩⟩,hfl,?_⟩
   · have hs1:lo.toNat*size+N*size≤capg*size:=by rw[←Nat.add_mul];omega
     rw[hC,List.size_toArray,List.length_append,List.length_append,List.length_take,List.length_drop,hln];omega
   · rw[hC,hcpl,←e7,List.toList_toArray,hln,Nat.add_mul]
     exact take_mid hln (by rw[Nat.add_mul]at hrows;exact hrows) (Nat.le_trans hrows2 hcl)
   · intro u hu
     rcases List.mem_append.1 hu with hu|hu
     · rcases List.mem_append.1 hu with hu|hu
       · exact go u (List.mem_of_mem_take hu)
       · exact hone u (List.mem_of_mem_take hu)
     · exact go u (List.mem_of_mem_drop hu)
end Go.Ow
namespace Go.Ow
def putM{α:Type}:List (Int×α)→Int→α→List (Int×α)
 |[],k,y=> [(k,y)]
 |p::r,k,y=>if p.1=k then(k,y)::r else p::putM r k y
def layM{α β:Type}(f:α→β)(L:List β)(M:List (Int×α)):List β:=M.foldl (λL p=>L.set p.1.toNat (f p.2)) L
def layR{α β γ:Type}(f:α→β)(L:List β)(M:List (Int×α))(k:List β→Option γ):Option γ:=if∀p∈M,0≤p.1∧p.1.toNat<L.length then k (layM f L M)else none
theorem layR_some{α β γ:Type}{f:α→β}{L:List β}{M:List (Int×α)}{k:List β→Option γ}{r:γ}(h:layR f L M k=some r):
 ∃m,m=layM f L M∧(∀p∈M,0≤p.1∧p.1.toNat<L.length)∧k m=some r:=by
 unfold layR at h
 split at h
 · rename_i c;exact⟨_,rfl,c,h⟩
 · cases h
def maxB (a b:UInt8):UInt8:=if a<b then b else a
def cntB (m:List UInt8)(c:UInt8):Nat:=m.foldl (λn x=>if x==c then n+1 else n) 0
def cmpB:List UInt8→List UInt8→Int
 |[],[]=>0
 |[],_::_=> -1
 |_::_,[]=>1
 |a::as,b::bs=>if a<b then -1 else if b<a then 1 else cmpB as bs
end Go.Ow
namespace Go.Ow
open Go.RowKit
structure MapIs {α:Type} (R:Rep α) (H:Heaplet) (es:Array MapEntry) (M:List (Int×α)):Prop where
  size:es.size=M.length
  here:∀i k y,M[i]? =some (k,y)→∃cs:List Value,es[i]? =some (MapEntry.mk (.int .i64 k) (.agg cs.toArray) i)∧R H cs y
  nodup:(M.map (·.1)).Nodup
theorem putM_new{α:Type}:∀{M:List (Int×α)} {k:Int} {y:α},(∀p∈M,p.1≠k)→putM M k y=M++ [(k,y)]
  |[],_,_,_=>rfl
  | p::r,k,y,h=>by
    simp only[putM,if_neg (h p (by simp)),List.cons_append]
    rw[putM_new (λq hq=>h q (by simp[hq]))]
theorem putM_old{α:Type}:∀{M:List (Int×α)} {k:Int} {y:α} {j:Nat} {z:α},(M.map (·.1)).Nodup→M[j]? =some (k,z)→putM M k y=M.set j (k,y)
  |[],_,_,_,_,_,h=>by simp at h
  |p::r,k,y,0,z,_,h=>by simp at h;subst h;simp[putM]
  | p::r,k,y,j+1,z,hn,h=>by
    simp only[List.map_cons,List.nodup_cons]at hn
    simp only[List.getElem?_cons_succ]at h
    have hne:p.1≠k:=λe=>hn.1 (by rw[e];exact List.mem_map.2 ⟨(k,z),List.mem_of_getElem? h,rfl⟩)
    simp only[putM,if_neg hne,List.set_cons_succ]
    rw[putM_old hn.2 h]
theorem MapIs.nil{α:Type}(R:Rep α)(H:Heaplet):MapIs R H #[] []:=⟨rfl,λi k y h=>by simp at h,by simp⟩
theorem MapIs.mono{α:Type}{R:Rep α}(hR:R.Mono){H H':Heaplet}(hle:Hle H H'){es:Array MapEntry}{M:List (Int×α)}(h:MapIs R H es M):MapIs R H' es M:=
 ⟨h.size,λi k y e=>by obtain⟨cs,h1,h2⟩:=h.here i k y e;exact⟨cs,h1,hR _ _ _ _ hle h2⟩,h.nodup⟩
theorem MapIs.entry{α:Type}{R:Rep α}{H:Heaplet}{es:Array MapEntry}{M:List (Int×α)}(h:MapIs R H es M){e:MapEntry}(he:e∈es.toList):
 ∃i k y,∃cs:List Value,M[i]? =some (k,y)∧es[i]? =some e∧e=MapEntry.mk (.int .i64 k) (.agg cs.toArray) i∧R H cs y:=by
 obtain⟨i,hi⟩:=List.mem_iff_getElem?.1 he
 have hi':es[i]? =some e:=by simpa using hi
 have hlt:i<M.length:=by rw[←h.size];exact(Array.getElem?_eq_some_iff.1 hi').1
 obtain⟨cs,h1,h2⟩:=h.here i (M[i]).1 (M[i]).2 (by simp[hlt])
 exact⟨i,(M[i]).1,(M[i]).2,cs,by simp[hlt],hi',by rw[hi']at h1;exact Option.some.inj h1,h2⟩
theorem MapIs.keys{α:Type}{R:Rep α}{H:Heaplet}{es:Array MapEntry}{M:List (Int×α)}(h:MapIs R H es M):∀e∈es.toList,MapKept.IsKey (.int .i64) e.key:=λe he=>by
 obtain⟨i,k,y,cs,-,-,rfl,-⟩:=h.entry he
 rfl
theorem MapIs.born{α:Type}{R:Rep α}{H:Heaplet}{es:Array MapEntry}{M:List (Int×α)}(h:MapIs R H es M):∀e∈es.toList,e.born<M.length:=λe he=>by
 obtain⟨i,k,y,cs,h1,-,rfl,-⟩:=h.entry he
 exact(List.getElem?_eq_some_iff.1 h1).1
theorem MapIs.bornAt{α:Type}{R:Rep α}{H:Heaplet}{es:Array MapEntry}{M:List (Int×α)}(h:MapIs R H es M):es.toList.map (·.born)=List.range M.length:=by
 refine List.ext_getElem? (λi=> ?_)
 rw[List.getElem?_map]
 by_cases hi:i<M.length
 · obtain⟨cs,h1,-⟩:=h.here i (M[i]).1 (M[i]).2 (by simp[hi])
   rw[Array.getElem?_toList,h1]
   simp[hi]
 · rw[Array.getElem?_toList,Array.getElem?_eq_none (by rw[h.size];omega)]
   simp[hi]
theorem MapIs.put{α:Type}{R:Rep α}{H:Heaplet}{es:Array MapEntry}{M:List (Int×α)}(h:MapIs R H es M){k:Int}{cs:List Value}{y:α}(hR:R H cs y):
 (∀e∈es.toList,e.key≠.int .i64 k)→MapIs R H (es.push (MapEntry.mk (.int .i64 k) (.agg cs.toArray) M.length)) (putM M k y):=λhn=>by
 have hM:∀p∈M,p.1≠k:=λp hp e=>by
  obtain⟨i,hi⟩:=List.mem_iff_getElem?.1 hp
  obtain⟨cs',h1,-⟩:=h.here i p.1 p.2 hi
  exact hn _ (Array.mem_toList_iff.2 (Array.mem_of_getElem? h1)) (by simp[e])
 rw[putM_new hM]
 refine⟨by simp[h.size],λi k' y' e=> ?_,?_⟩
 · rw [List.getElem?_append]at e
   split at e
   · obtain⟨cs',h1,h2⟩:=h.here i k' y' e
     refine⟨cs',?_,h2⟩
     have:=(Array.getElem?_eq_some_iff.1 h1).1
     rw[Array.getElem?_push_lt this,←h1,Array.getElem?_eq_getElem this]
   · rename_i hi
     have:i=M.length:=by
      rcases Nat.lt_or_ge 0 (i-M.length)with h'|h'
      · rw[List.getElem?_eq_none (by simp only[List.length_cons,List.length_nil];omega)]at e;cases e
      · omega
     subst this
     simp at e
     obtain⟨rfl,rfl⟩:=e
     exact⟨cs,by rw[←h.size];simp,hR⟩
 · rw[List.map_append]
   refine List.nodup_append.2 ⟨h.nodup,by simp,λa ha b hb=> ?_⟩
   simp at hb
   subst hb
   obtain⟨p,hp,rfl⟩:=List.mem_map.1 ha
   exact hM p hp
theorem MapIs.turn{α:Type}{R:Rep α}{H:Heaplet}{es:Array MapEntry}{M:List (Int×α)}(h:MapIs R H es M){k:Int}{cs:List Value}{y:α}(hR:R H cs y){j:Nat}{e:MapEntry}
 (hj:es[j]? =some e)(hk:e.key=.int .i64 k):MapIs R H (es.modify j λe=>{e with key:=.int .i64 k,val:=.agg cs.toArray}) (putM M k y)∧(putM M k y).length=M.length:=by
 obtain⟨i,k',z,cs',h1,h2,h3,-⟩:=h.entry (Array.mem_toList_iff.2 (Array.mem_of_getElem? hj))
 subst h3
 simp only[Value.int.injEq,true_and]at hk
 subst hk
 have hij:i=j:=by
  have hlt:j<M.length:=by rw[←h.size];exact(Array.getElem?_eq_some_iff.1 hj).1
  obtain⟨cs2,h4,-⟩:=h.here j (M[j]).1 (M[j]).2 (by simp[hlt])
  rw[hj]at h4
  simp only[Option.some.injEq,MapEntry.mk.injEq]at h4
  exact h4.2.2
 subst hij
 rw[putM_old h.nodup h1]
 have hlt:=(List.getElem?_eq_some_iff.1 h1).1
 refine⟨⟨by simp[h.size],λi' k'' y' e=> ?_,?_⟩,by simp⟩
 · rw[List.getElem?_set]at e
   split at e
   · rename_i hii
     subst hii
     simp only[hlt,if_true,Option.some.injEq,Prod.mk.injEq]at e
     obtain⟨rfl,rfl⟩:=e
     exact⟨cs,by rw[Array.getElem?_modify,if_pos rfl,h2];rfl,hR⟩
   · rename_i hii
     obtain⟨cs2,h4,h5⟩:=h.here i' k'' y' e
     exact⟨cs2,by rw[Array.getElem?_modify,if_neg hii];exact h4,h5⟩
 · rw [List.map_set]
   rw [show(M.map (·.1)).set i k'=M.map (·.1)from by
    refine List.ext_getElem? (λn=> ?_)
    rw[List.getElem?_set]
    split
    · rename_i hn;subst hn
      simp[hlt]
      have:=(List.getElem?_eq_some_iff.1 h1).2
      rw[this]
    · rfl]
   exact h.nodup
open Go.ChangeMaps (setBlock)
theorem Mem.setBlk{w:World}{H:Heaplet}{b:Nat}{o o':Obj}(ha:Agrees H w)(hb:w.heap[b]? =some o)(hap:∀q,H b q=none):
 Mem w H [b] [(b,o')] H (setBlock w b o'):=by
 have hlt:=(Array.getElem?_eq_some_iff.1 hb).1
 have ho:∀k,k≠b→(setBlock w b o').heap[k]? =w.heap[k]?:=λk hk=>(MapKept.heap_set (o':=o') hb).2 k hk
 refine⟨λb' off v e=> ?_,⟨?_,by simp[ids],λp hp off=> ?_⟩,⟨rfl,rfl,rfl,by simp[setBlock],Nat.le_refl _,λk hk hn=>ho k (by simpa using hn)⟩,λp hp=>.inl (by simp at hp;simp[hp]),Hle.refl _,λ_ _ _=>rfl,Mem.soft0⟩
 · have:=ha b' off v e
   rw[World.cell?_of_block (w:=w) (ho b' (λe'=>by subst e';rw[hap]at e;cases e))];exact this
 · intro p hp;simp at hp;subst hp
   exact(MapKept.heap_set (o':=o') hb).1
 · simp at hp;subst hp;exact hap off
variable{x:Cx}{ops:Array Oper}{Q:Exit→Act→World→Prop}{rest:List Oper}{l:Slots}{own:List Own}{H:Heaplet}
variable{ty:TypeId}{d:Nat}{pos:String}{aft:Array Edge}{v:Value}
theorem JL.mkMap{t:TypeId}(hd:Nat.blt d x.n=true)
 (h:∀b,x.w0.heap.size≤b→JL x ops Q rest ((d,.map (some b))::l) ([(b,.map #[] 0)]::own) H):JL x ops Q (⟨some d,.makeMap t none,ty,pos,aft,none⟩::rest) l own H:=
 JL.new (v':=λb=>.map (some b)) hd rfl (λρ w _ _ _ _ hρ=>by
  simp only[execOp]
  refine run_v ?_
  simp only[Instr.makeMap,Sem.run_bind,Sem.run_pure,Option.map,run_newObj_alloc,Result.andThen]) h
theorem JL.rangeMap (i:Nat){p:Operand}{t kt et:TypeId}{bm c:Nat}{es:Array MapEntry}(hu:x.P.underlying t=some (.map kt et))(h1:evo l p=some (.map (some bm)))
 (hi:own[i]? =some [(bm,.map es c)])(hd:Nat.blt d x.n=true)
 (h:∀b,x.w0.heap.size≤b→JL x ops Q rest ((d,.pointer (some ⟨b,0,none⟩))::l) ([(b,.mapIter (some bm) c #[] c)]::own) H):JL x ops Q (⟨some d,.range t p,ty,pos,aft,none⟩::rest) l own H:=λa w hh=>by
 simp only[wpLs,wanted_none,if_true]
 refine⟨λ_ _=>trivial,?_⟩
 have hb:=(own_here hh.mem hi).here (bm,.map es c) (by simp)
 have hr:(execOp a.eval ⟨some d,.range t p,ty,pos,aft,none⟩).run x.P w=.ok (.value (.pointer (some ⟨w.heap.size,0,none⟩))) (w.alloc (.mapIter (some bm) c #[] c)):=by
  simp only[execOp,eval_of hh h1]
  exact run_v (run_range_map w t kt et bm es c hu hb)
 rw[semAt_of rfl,hr]
 refine h w.heap.size hh.mem.kept.size _ _ (Holds.put (x:=x) (l:=l) ?_ hd _)
 exact⟨hh.size,hh.ds,hh.slots,by simpa using hh.mem.go0 (K':=[[(w.heap.size,_)]]) (by simpa using Mem.alloc hh.mem.agr _)⟩
theorem JL.mapUpd{α:Type}{R:Rep α}(i:Nat){HF:Heaplet}{p q s:Operand}{mt kt et:TypeId}{b:Nat}{es:Array MapEntry}{M:List (Int×α)}{k:Int}{cs:List Value}{y:α}
 (hu:x.P.underlying mt=some (.map kt et))(hk:x.P.underlying kt=some (.int .i64))(h1:evo l p=some (.map (some b)))(h2:evo l q=some (.int .i64 k))(h3:evo l s=some (.agg cs.toArray))
 (hi:own[i]? =some [(b,.map es M.length)])(hM:MapIs R HF es M)(hR:R HF cs y)
 (h:∀es',MapIs R HF es' (putM M k y)→JL x ops Q rest l (own.set i [(b,.map es' (putM M k y).length)]) H):
 JL x ops Q (⟨none,.mapUpdate mt p q s,ty,pos,aft,none⟩::rest) l own H:=λa w hh=>by
 simp only[wpLs,wanted_none,if_true]
 refine⟨λ_ _=>trivial,?_⟩
 have hb:=own_here hh.mem hi
 have hbk:=hb.here (b,.map es M.length) (by simp)
 have hap:∀o,H b o=none:=λo=>hb.apart (b,.map es M.length) (by simp) o
 have hkey:MapKept.IsKey (.int .i64) (.int .i64 k):=rfl
 have key:∃es',MapIs R HF es' (putM M k y)∧(execOp a.eval ⟨none,.mapUpdate mt p q s,ty,pos,aft,none⟩).run x.P w=.ok .skip (setBlock w b (.map es' (putM M k y).length)):=by
  simp only[execOp,eval_of hh h1,eval_of hh h2,eval_of hh h3]
  rcases MapKept.findNow_spec hkey es.toList 0 hM.keys with⟨g1,g2⟩|⟨j,e,g1,g2,g3⟩
  · have hput:=hM.put hR g2
    refine⟨_,hput,run_u ?_⟩
    simp only[Instr.mapUpdate,Sem.run_bind,run_underlying hu,MapKept.run_getObj_map hbk,MapKept.run_checkKey hk hkey,MapKept.run_findKey hk g1,MapKept.run_setObj_map _ hbk,Result.andThen,setBlock]
    rw[←hput.size];simp[hM.size]
  · have hj:es[j]? =some e:=by simpa using g2
    obtain⟨ht,hl⟩:=hM.turn hR hj g3
    refine⟨_,ht,run_u ?_⟩
    simp[Instr.mapUpdate,run_underlying hu,MapKept.run_getObj_map hbk,MapKept.run_checkKey hk hkey,MapKept.run_findKey hk g1,hj,g3,MapKept.run_keyThatStays hkey,MapKept.run_setObj_map _ hbk,Result.andThen,setBlock,hl]
 obtain⟨es',hes,hr⟩:=key
 rw[semAt_of rfl,hr]
 exact h es' hes _ _ ⟨hh.size,hh.ds,hh.slots,hh.mem.go1 hi (by simpa[ids]using Mem.setBlk hh.mem.agr hbk hap)⟩
theorem JL.nextMap{α:Type}{R:Rep α}(i j:Nat){HF:Heaplet}{p:Operand}{bi bm c0:Nat}{es:Array MapEntry}{M:List (Int×α)}{seen:Array Nat}
 (h1:evo l p=some (.pointer (some ⟨bi,0,none⟩)))(hi:own[i]? =some [(bi,.mapIter (some bm) M.length seen c0)])(hj:own[j]? =some [(bm,.map es M.length)])(hM:MapIs R HF es M)
 (hc:M.length≤c0)(hd:Nat.blt d x.n=true)
 (hend:(∀k,k<M.length→k∈seen.toList)→JL x ops Q rest ((d,.tuple #[.bool false])::l) own H)
 (hgo:∀n k y cs,M[n]? =some (k,y)→es[n]? =some (MapEntry.mk (.int .i64 k) (.agg cs.toArray) n)→n∉seen.toList→R HF cs y→
  JL x ops Q rest ((d,.tuple #[.bool true,.int .i64 k,.agg cs.toArray])::l) (own.set i [(bi,.mapIter (some bm) M.length (seen.push n) M.length)]) H):
 JL x ops Q (⟨some d,.next p false,ty,pos,aft,none⟩::rest) l own H:=λa w hh=>by
 simp only[wpLs,wanted_none,if_true]
 refine⟨λ_ _=>trivial,?_⟩
 have hb:=own_here hh.mem hi
 have hbi:=hb.here (bi,.mapIter (some bm) M.length seen c0) (by simp)
 have hbm:=(own_here hh.mem hj).here (bm,.map es M.length) (by simp)
 have hap:∀o,H bi o=none:=λo=>hb.apart (bi,.mapIter (some bm) M.length seen c0) (by simp) o
 rcases run_next_at (P:=x.P) w ty bi bm M.length c0 seen es M.length hbi hbm hM.born hc with⟨g1,g2⟩|⟨e,g1,w1,g2,g3⟩
 · have hr:(execOp a.eval ⟨some d,.next p false,ty,pos,aft,none⟩).run x.P w=.ok (.value (.tuple #[.bool false])) w:=by
    simp only[execOp,eval_of hh h1]
    exact run_v g2
   rw[semAt_of rfl,hr]
   refine hend (λk hk=> ?_) _ _ (hh.put hd _)
   obtain⟨cs,q1,-⟩:=hM.here k (M[k]).1 (M[k]).2 (by simp[hk])
   have hz:leftOf es seen= #[]:=Array.eq_empty_of_size_eq_zero g1
   have:=Array.filter_eq_empty_iff.1 hz _ (Array.mem_of_getElem? q1)
   simpa using this
 · have hr:(execOp a.eval ⟨some d,.next p false,ty,pos,aft,none⟩).run x.P w=.ok (.value (.tuple #[.bool true,e.key,e.val])) (setBlock w1 bi (.mapIter (some bm) M.length (seen.push e.born) M.length)):=by
    simp only[execOp,eval_of hh h1]
    exact run_v g3
   rw[semAt_of rfl,hr]
   have he:e∈es.toList∧e.born∉seen.toList:=by
    have:=g1
    simp[leftOf]at this
    exact⟨by simpa using this.1,by simpa using this.2⟩
   obtain⟨n,k,y,cs,q1,q2,rfl,q4⟩:=hM.entry he.1
   have hm1:Mem x.w0 x.H0 x.S own.flatten H w1:=by
    rcases g2 with rfl|rfl
    · exact hh.mem
    · exact hh.mem.drew
   have hbi1:w1.heap[bi]? =some (.mapIter (some bm) M.length seen c0):=by
    rcases g2 with rfl|rfl
    · exact hbi
    · exact hbi
   refine hgo n k y cs q1 q2 he.2 q4 _ _ (Holds.put (x:=x) (l:=l) ?_ hd _)
   exact⟨hh.size,hh.ds,hh.slots,hm1.go1 hi (by simpa[ids]using Mem.setBlk hm1.agr hbi1 hap)⟩
theorem JL.entryMap{α:Type}{R:Rep α}(i j:Nat){HF:Heaplet}{p:Operand}{bi bm n:Nat}{es:Array MapEntry}{M:List (Int×α)}{seen:Array Nat}{k:Int}{cs:List Value}
 (h1:evo l p=some (.pointer (some ⟨bi,0,none⟩)))(hi:own[i]? =some [(bi,.mapIter (some bm) M.length (seen.push n) M.length)])(hj:own[j]? =some [(bm,.map es M.length)])(hM:MapIs R HF es M)
 (he:es[n]? =some (MapEntry.mk (.int .i64 k) (.agg cs.toArray) n))(hd:Nat.blt d x.n=true)
 (h:JL x ops Q rest ((d,.tuple #[.int .i64 k,.agg cs.toArray])::l) own H):JL x ops Q (⟨some d,.entry p,ty,pos,aft,none⟩::rest) l own H:=
 JL.val hd rfl (λρ w _ _ _ _ hρ hm=>by
  simp only[execOp,hρ _ _ h1]
  have hbi:=hm.2 (bi,.mapIter (some bm) M.length (seen.push n) M.length) (List.mem_flatten.2 ⟨_,List.mem_of_getElem? hi,by simp⟩)
  have hbm:=hm.2 (bm,.map es M.length) (List.mem_flatten.2 ⟨_,List.mem_of_getElem? hj,by simp⟩)
  exact run_v (run_entry_at w bi bm M.length seen es M.length (MapEntry.mk (.int .i64 k) (.agg cs.toArray) n) hbi hbm (Array.mem_toList_iff.2 (Array.mem_of_getElem? he)) (by rw[hM.bornAt];exact List.nodup_range))) h
def MapOf{α:Type}(HF:Heaplet)(R:Rep α)(B n:Nat)(M:List (Int×α))(K:Own):Prop:=B≤n∧∃es,K= [(n,.map es M.length)]∧MapIs R HF es M
section mapOf
variable{α:Type}{R:Rep α}{HF:Heaplet}{B n:Nat}{M:List (Int×α)}{K:Own}
theorem MapOf.weak{B':Nat}(hB:B'≤B)(h:MapOf HF R B n M K):MapOf HF R B' n M K:=⟨Nat.le_trans hB h.1,h.2⟩
theorem MapOf.ge (h:MapOf HF R B n M K):∀p∈K,B≤p.1:=by
 obtain⟨h1,es,rfl,-⟩:=h
 intro p hp;simp at hp;subst hp;exact h1
theorem MapOf.base{B':Nat}(h:MapOf HF R B n M K)(hB:∀p∈K,B'≤p.1):MapOf HF R B' n M K:=by
 obtain⟨h1,es,rfl,h2⟩:=h
 exact⟨hB (n,.map es M.length) (by simp),es,rfl,h2⟩
theorem newM_ids{N:Nat}{S:List Nat}(h:MapOf HF R N n M K)(hS:∀i∈S,i<N):∀p∈K,p.1∉S:=λp hp hm=>by
 have:=h.ge p hp;have:=hS _ hm;omega
theorem MapOf.mono{H2:Heaplet}(h:MapOf HF R B n M K)(hR:R.Mono)(hle:Hle HF H2):MapOf H2 R B n M K:=by
 obtain⟨h1,es,rfl,h2⟩:=h
 exact⟨h1,es,rfl,h2.mono hR hle⟩
end mapOf
theorem MapOf.old{α:Type}{R:Rep α}{H H':Heaplet}{B n:Nat}{M:List (Int×α)}{K:Own}(h:MapOf (New H H') R B n M K)(hR:R.Mono):MapOf H' R B n M K:=h.mono hR (New.le H H')
theorem JL.mkMapF{α:Type}(HF:Heaplet)(R:Rep α){t:TypeId}(hd:Nat.blt d x.n=true)
 (h:∀b K,MapOf HF R x.w0.heap.size b [] K→JL x ops Q rest ((d,.map (some b))::l) (K::own) H):JL x ops Q (⟨some d,.makeMap t none,ty,pos,aft,none⟩::rest) l own H:=
 JL.mkMap hd (λb hb=>h b _ ⟨hb,_,rfl,MapIs.nil R HF⟩)
theorem JL.mapUpdF{α:Type}{R:Rep α}(i:Nat){HF:Heaplet}{p q s:Operand}{mt kt et:TypeId}{B n:Nat}{K:Own}{M:List (Int×α)}{k:Int}{cs:List Value}{y:α}
 (hu:x.P.underlying mt=some (.map kt et))(hk:x.P.underlying kt=some (.int .i64))(h1:evo l p=some (.map (some n)))(h2:evo l q=some (.int .i64 k))(h3:evo l s=some (.agg cs.toArray))
 (hi:own[i]? =some K)(hM:MapOf HF R B n M K)(hR:R HF cs y)
 (h:∀K',MapOf HF R B n (putM M k y) K'→JL x ops Q rest l (own.set i K') H):
 JL x ops Q (⟨none,.mapUpdate mt p q s,ty,pos,aft,none⟩::rest) l own H:=by
 obtain⟨g1,es,rfl,g2⟩:=hM
 exact JL.mapUpd i hu hk h1 h2 h3 hi g2 hR (λes' he=>h _ ⟨g1,es',rfl,he⟩)
theorem JL.rangeMapF{α:Type}{R:Rep α}(i:Nat){HF:Heaplet}{p:Operand}{t kt et:TypeId}{B n:Nat}{K:Own}{M:List (Int×α)}(hu:x.P.underlying t=some (.map kt et))(h1:evo l p=some (.map (some n)))
 (hi:own[i]? =some K)(hM:MapOf HF R B n M K)(hd:Nat.blt d x.n=true)
 (h:∀b es,K= [(n,.map es M.length)]→MapIs R HF es M→JL x ops Q rest ((d,.pointer (some ⟨b,0,none⟩))::l) ([(b,.mapIter (some n) M.length #[] M.length)]::own) H):JL x ops Q (⟨some d,.range t p,ty,pos,aft,none⟩::rest) l own H:=by
 obtain⟨g1,es,rfl,g2⟩:=hM
 exact JL.rangeMap i hu h1 hi hd (λb hb=>h b es rfl g2)
structure Laid {α β:Type} (f:α→β) (L:List β) (M:List (Int×α)) (S:List Nat) (B:List β):Prop where
  len:B.length=L.length
  laid:∀n k y,n∈S→M[n]? =some (k,y)→B[k.toNat]? =some (f y)
  same:∀j,(∀n k y,n∈S→M[n]? =some (k,y)→k.toNat≠j)→B[j]? =L[j]?
theorem Laid.start{α β:Type}(f:α→β)(L:List β)(M:List (Int×α)):Laid f L M [] L:=⟨rfl,λn k y h=>by simp at h,λj _=>rfl⟩
theorem key_unique{α:Type}{M:List (Int×α)}(hn:(M.map (·.1)).Nodup){i j:Nat}{k:Int}{y z:α}(h1:M[i]? =some (k,y))(h2:M[j]? =some (k,z)):i=j:=by
 have e1:(M.map (·.1))[i]? =some k:=by simp[h1]
 have e2:(M.map (·.1))[j]? =some k:=by simp[h2]
 exact(List.getElem?_inj (List.getElem?_eq_some_iff.1 e1).1 hn).1 (e1.trans e2.symm)
theorem Laid.step{α β:Type}{f:α→β}{L:List β}{M:List (Int×α)}{S:List Nat}{B:List β}(h:Laid f L M S B)(hn:(M.map (·.1)).Nodup)(hr:∀p∈M,0≤p.1∧p.1.toNat<L.length)
 {n:Nat}{k:Int}{y:α}(hM:M[n]? =some (k,y))(S':List Nat)(hS:∀q,q∈S'↔q∈S∨q=n):Laid f L M S' (B.set k.toNat (f y)):=by
 have hk:=hr _ (List.mem_of_getElem? hM)
 refine⟨by simp[h.len],λn' k' y' hn' hM'=> ?_,λj hj=> ?_⟩
 · rw [List.getElem?_set]
   split
   · rename_i e
     have hk':=hr _ (List.mem_of_getElem? hM')
     have:k=k':=by have:=hk.1;have:=hk'.1;simp only at*;omega
     subst this
     have:=key_unique hn hM hM'
     subst this
     rw[hM]at hM'
     simp at hM'
     subst hM'
     rw[if_pos (by rw[h.len];exact hk.2)]
   · rename_i e
     rcases(hS n').1 hn' with h'|h'
     · exact h.laid n' k' y' h' hM'
     · subst h'
       rw[hM]at hM'
       simp at hM'
       exact absurd (by rw[hM'.1]) e
 · rw[List.getElem?_set,if_neg (hj n k y ((hS n).2 (.inr rfl)) hM)]
   exact h.same j (λn' k' y' h1 h2=>hj n' k' y' ((hS n').2 (.inl h1)) h2)
theorem Laid.unique{α β:Type}{f:α→β}{L:List β}{M:List (Int×α)}{S S':List Nat}{B B':List β}(h:Laid f L M S B)(h':Laid f L M S' B')(hS:∀k,k<M.length→k∈S)(hS':∀k,k<M.length→k∈S'):B=B':=by
 refine List.ext_getElem? (λj=> ?_)
 by_cases c:∃(n:Nat) (k:Int) (y:α),M[n]? =some (k,y)∧k.toNat=j
 · obtain⟨n,k,y,h1,rfl⟩:=c
   have hlt:=(List.getElem?_eq_some_iff.1 h1).1
   rw[h.laid n k y (hS n hlt) h1,h'.laid n k y (hS' n hlt) h1]
 · rw[h.same j (λn k y _ h1 e=>c ⟨n,k,y,h1,e⟩),h'.same j (λn k y _ h1 e=>c ⟨n,k,y,h1,e⟩)]
theorem Laid.layM{α β:Type}(f:α→β)(L:List β)(M:List (Int×α))(hn:(M.map (·.1)).Nodup)(hr:∀p∈M,0≤p.1∧p.1.toNat<L.length):Laid f L M (List.range M.length) (layM f L M):=by
  have key:∀i,i≤M.length→Laid f L M (List.range i) ((M.take i).foldl (λL p=>L.set p.1.toNat (f p.2)) L):=by
    intro i
    induction i with
    |zero=>intro _;simpa using Laid.start f L M
    | succ i ih=>
      intro hi
      have hi':i<M.length:=hi
      have hM:M[i]? =some ((M[i]).1,(M[i]).2):=by rw[List.getElem?_eq_getElem hi']
      have:=(ih (by omega)).step hn hr hM (List.range (i+1)) (λq=>by rw[List.mem_range,List.mem_range];omega)
      rw[List.take_add_one,hM,List.foldl_append]
      exact this
  have:=key M.length (Nat.le_refl _)
  rwa[List.take_length]at this
theorem Laid.full{α β:Type}{f:α→β}{L:List β}{M:List (Int×α)}{S:List Nat}{B:List β}(h:Laid f L M S B)(hn:(M.map (·.1)).Nodup)(hr:∀p∈M,0≤p.1∧p.1.toNat<L.length)(hS:∀k,k<M.length→k∈S):
 B=Go.Ow.layM f L M:=h.unique (Laid.layM f L M hn hr) hS (λk hk=>by simpa using hk)
theorem nodup_len:∀(k:Nat) (l:List Nat),l.Nodup→(∀q∈l,q<k)→l.length≤k
  | 0,l,_,h=>by
    cases l with
    |nil=>simp
    |cons a l=>have:=h a (by simp);omega
  | k + 1,l,hn,h=>by
    by_cases c:k∈l
    · have h1:=nodup_len k (l.erase k) (hn.erase k) (λq hq=>by
        have:=(hn.mem_erase_iff).1 hq
        have:=h q this.2
        omega)
      rw[List.length_erase_of_mem c]at h1
      omega
    · have:=nodup_len k l hn (λq hq=>by
        have:=h q hq
        have:q≠k:=λe=>c (e▸hq)
        omega)
      omega
theorem seen_more{k n:Nat}{l:List Nat}(hn:l.Nodup)(h:∀q∈l,q<k)(hk:n<k)(hl:n∉l):l.length<k:=by
 have:=nodup_len k (n::l) (List.nodup_cons.2 ⟨hl,hn⟩) (λq hq=>by
  rcases List.mem_cons.1 hq with rfl|hq
  · exact hk
  · exact h q hq)
 rw[List.length_cons]at this
 omega
theorem lay_step{β:Type}{B:List β}{k:Int}{v:β}(h:0≤k∧k.toNat<B.length):(chk (0≤k∧k.toNat<B.length)<|setI B k v λm=>some m)=some (B.set k.toNat v):=by
 unfold chk setI;rw[if_pos h,if_pos h]
theorem R.max2b{p q:Operand}{a b:UInt8}{ts:Array TypeId}(h1:evo l p=some (.int .u8 (a.toNat:Int)))(h2:evo l q=some (.int .u8 (b.toNat:Int))):Runs x (.call ⟨.builtin .max,#[p,q],ts⟩) ty l own H (.int .u8 ((maxB a b).toNat:Int)):=λρ w _ _ _ _ hρ hm=>by
 have e3:Array.map ρ #[p,q]= #[.int .u8 (a.toNat:Int),.int .u8 (b.toNat:Int)]:=by simp[hρ _ _ h1,hρ _ _ h2]
 have e:((maxB a b).toNat:Int)=if(b.toNat:Int)>(a.toNat:Int)then(b.toNat:Int)else(a.toNat:Int):=by
  unfold maxB
  by_cases h:a<b
  · rw[if_pos h,if_pos (by have:=UInt8.lt_iff_toNat_lt.1 h;omega)]
  · rw[if_neg h,if_neg (by have:=mt UInt8.lt_iff_toNat_lt.2 h;omega)]
 rw[e]
 simp only[execOp,resolve,e3,Sem.run_bind,Sem.run_pure,Result.andThen,invoke,builtin,Builtin.max_,List.foldlM_cons,List.foldlM_nil,Builtin.max2]
end Go.Ow
namespace Go.Ow
open Go.RowKit
variable{x:Cx}{l:Slots}{own:List Own}{H:Heaplet}{ty:TypeId}
theorem bytesOf_toNat (m:List UInt8):Lib.bytesOf (m.map λb=>(b.toNat:Int))=m:=by
 unfold Lib.bytesOf
 rw[List.map_map]
 conv=>rhs;rw[←List.map_id m]
 refine List.map_congr_left (λb _=> ?_)
 simp
theorem run_bytesOf{P:Program}{w:World}{v:Value}{m:List UInt8}(hw:Agrees H w)(hs:IsSlice H RU8 1 v m):(Extern.Bytes.bytesOf v).run P w=.ok ⟨m.toArray⟩ w:=by
  obtain⟨ao,cap,rfl,h1,h2,h3,h4,h5⟩:=hs
  cases ao with
  | none=>
    have:m= []:=List.length_eq_zero_iff.1 (by have:=h4 rfl;omega)
    subst this;rfl
  | some a=>
    have hl:=Lib.run_loadBytesX (P:=P) w (m.map λb=>(b.toNat:Int)) a .empty (λj y hy=>by
      rw[List.getElem?_map]at hy
      cases hj:m[j]? with
      |none=>rw[hj]at hy;cases hy
      | some b=>
        rw[hj]at hy
        obtain rfl:=Option.some.inj hy
        obtain⟨bb,o,cs,e1,-,e3,e4⟩:=h5 j b hj
        obtain rfl:=Option.some.inj e1
        obtain rfl:cs= [.int .u8 (b.toNat:Int)]:=e3
        have:=hw _ _ _ (e4 0 _ rfl)
        rw[add_lit]
        simpa using this)
    rw[List.length_map,bytesOf_toNat]at hl
    show(Extern.Bytes.loadBytes a m.length .empty).run P w=_
    rw[hl]
    simp
theorem run_count{P:Program}{w:World}{v:Value}{m:List UInt8}{c:UInt8}(hw:Agrees H w)(hs:IsSlice H RU8 1 v m):
    (Extern.BytealgCount.count #[v,.int .u8 (c.toNat:Int)]).run P w=.ok (.int .i64 ((cntB m c:Nat):Int)) w:=by
  obtain⟨ao,cap,rfl,h1,h2,h3,h4,h5⟩:=hs
  have hb :(Extern.Bytes.bytesOf (.slice ao m.length cap)).run P w=.ok ⟨m.toArray⟩ w:=by
    cases ao with
    | none=>
      have:m= []:=List.length_eq_zero_iff.1 (by have:=h4 rfl;omega)
      subst this;rfl
    | some a=>
      have hl:=Lib.run_loadBytesX (P:=P) w (m.map λb=>(b.toNat:Int)) a .empty (λj y hy=>by
        rw[List.getElem?_map]at hy
        cases hj:m[j]? with
        |none=>rw[hj]at hy;cases hy
        | some b=>
          rw[hj]at hy
          obtain rfl:=Option.some.inj hy
          obtain⟨bb,o,cs,e1,-,e3,e4⟩:=h5 j b hj
          obtain rfl:=Option.some.inj e1
          obtain rfl:cs= [.int .u8 (b.toNat:Int)]:=e3
          have:=hw _ _ _ (e4 0 _ rfl)
          rw[add_lit]
          simpa using this)
      rw[List.length_map,bytesOf_toNat]at hl
      show(Extern.Bytes.loadBytes a m.length .empty).run P w=_
      rw[hl]
      simp
  change Sem.run P (do
    let b←Extern.Bytes.bytesOf (.slice ao m.length cap)
    let c'←Extern.Bytes.asByte (.int .u8 (c.toNat:Int))
    pure (goInt (b.foldl (λn x=>if x==c' then n+1 else n) (0:Nat)))) w=_
  simp only[Sem.run_bind,hb,Extern.Bytes.asByte,Sem.run_pure,Result.andThen]
  have:(c.toNat:Int).toNat.toUInt8=c:=by simp
  rw[this]
  congr 1
  unfold goInt cntB
  congr 1
  rw[Lib.foldl_data]
  suffices H:∀(l:List UInt8) (k:Nat),l.foldl (fun(n:Int) x=>if x==c then n+1 else n) (k:Int)=((l.foldl (λn x=>if x==c then n+1 else n) k:Nat):Int)from H m 0
  intro l
  induction l with
  |nil=>intro k;rfl
  | cons b l ih=>
    intro k
    simp only[List.foldl_cons]
    split
    · exact ih (k+1)
    · exact ih k
theorem R.countB {p q : Operand} {f : FuncId} {fn : Func} {m : List UInt8} {c : UInt8} {v : Value} {ts : Array TypeId} (hf : x.P.funcs[f]? = some fn) (hname : (fn.name == "runtime.NumGoroutine") = false) (hb : fn.body.isNone = true)
    (hn:Extern.findNext fn=none) (he:Extern.find fn=some Extern.BytealgCount.count) (h1:evo l p=some v) (hs:IsSlice H RU8 1 v m) (h2:evo l q=some (.int .u8 (c.toNat:Int))):
    Runs x (.call ⟨.value (.func f),#[p,q],ts⟩) ty l own H (.int .i64 ((cntB m c:Nat):Int)):=λρ w _ _ _ _ hρ hm=>by
  have e3:Array.map ρ #[p,q]= #[v,.int .u8 (c.toNat:Int)]:=by simp[hρ _ _ h1,hρ _ _ h2]
  have e1:ρ (.func f)=.func (.func f) #[] #[]:=hρ _ _ rfl
  simp only[execOp,resolve,e1,e3,Deferred.ofValue,Sem.run_bind,Sem.run_pure,Result.andThen,invoke]
  have:=run_callFunc_extern hf hname hb hn he #[v,.int .u8 (c.toNat:Int)] w
  rw[run_count hm.1 hs]at this
  simpa[Result.andThen]using this
end Go.Ow
namespace Go.Ow
open Go.RowKit
open Go.Lib
theorem digits_bytes:∀(n t:Nat) (acc:Array Value) (la:List UInt8),acc.toList=bvs la→∃L:List UInt8,(Extern.BytealgMakeNoZero.digits n t acc).toList=bvs L∧L.length=la.length+n
  |0,t,acc,la,h=>⟨la,h,rfl⟩
  | n +1,t,acc,la,h=>by
    obtain⟨L,h1,h2⟩:=digits_bytes n (t/256) (acc.push (.int .u8 (Int.ofNat (t%256)))) (la++ [UInt8.ofNat t]) (by
      rw[Array.toList_push,h]
      simp[bvs,UInt8.toNat_ofNat'])
    exact⟨L,h1,by rw[h2];simp;omega⟩
theorem run_mnz{P:Program}(w:World)(ps:Array TypeId)(t e:TypeId)(ht:P.underlying t=some (.slice e))(n:Nat)(hn:n≤281474976710656):
    ∃(cs:Array Value) (L:List UInt8),(Extern.BytealgMakeNoZero.makeNoZero ps #[t] #[.int .i64 n]).run P w=.ok (.slice (some ⟨w.heap.size,0,none⟩) n cs.size) (w.drew.drew.alloc (.cells cs e))∧n≤cs.size∧cs.size≤maxLen∧cs.toList=bvs L∧L.length=cs.size:=by
  have h1:¬(n:Int)<0:=by omega
  have h2:¬(281474976710656:Int)<(n:Int):=by omega
  obtain⟨B,hB⟩:∃B:Nat,(Extern.BytealgMakeNoZero.makeNoZero ps #[t] #[.int .i64 n]).run P w=.ok (.slice (some ⟨w.heap.size,0,none⟩) n (grownCap w n 0 e)) (w.drew.drew.alloc (.cells (Extern.BytealgMakeNoZero.digits (grownCap w n 0 e) B #[]) e)):=by
    obtain⟨q,hf,hdef⟩:∃q:Question,q.forced=false∧Extern.BytealgMakeNoZero.makeNoZero ps #[t] #[.int .i64 n]=
      (do
        let .slice elem ← underlying t | stuck "bytealg.MakeNoZero: slice type expected"
        if (n : Int) < 0 || (n : Int) > 2 ^ 48 then runtimePanic (.error "makeslice: len out of range")
        let cap←choose (.appendCap (n:Int).toNat 0 elem)
        askRoom cap
        let bytes←choose q
        let a←newRow elem (Extern.BytealgMakeNoZero.digits cap bytes #[])
        pure (.slice (some a) (n:Int).toNat cap)):=⟨_,rfl,rfl⟩
    refine⟨q.cut (w.tape (w.drawn+1) q),?_⟩
    rw[hdef]
    have ha:∀a b c,(Question.appendCap a b c).forced=false:=λ_ _ _=>rfl
    simp[run_underlying ht,h1,h2,ha,hf,newRow,size_digits,grownCap]
  obtain⟨L,g1,g2⟩:=digits_bytes (grownCap w n 0 e) B #[] [] rfl
  have hs:(Extern.BytealgMakeNoZero.digits (grownCap w n 0 e) B #[]).size=grownCap w n 0 e:=by rw[size_digits];simp
  refine⟨Extern.BytealgMakeNoZero.digits (grownCap w n 0 e) B #[],L,by rw[hs];exact hB,?_,?_,g1,?_⟩
  · rw[hs];exact grownCap_ge w n 0 e
  · rw[hs];exact grownCap_le_maxLen w n 0 e (by unfold maxLen;omega)
  · rw[g2,hs];simp
variable{x:Cx}{ops:Array Oper}{Q:Exit→Act→World→Prop}{rest:List Oper}{l:Slots}{own:List Own}{H HF:Heaplet}
variable{ty:TypeId}{d:Nat}{pos:String}{aft:Array Edge}
theorem JL.mkNZ {p : Operand} {f : FuncId} {fn : Func} {t E : TypeId} {N : Nat} {ts : Array TypeId} (hf : x.P.funcs[f]? = some fn) (hname : (fn.name == "runtime.NumGoroutine") = false) (hb : fn.body.isNone = true)
    (hn:Extern.findNext fn=none) (hu:x.P.underlying t=some (.slice E)) (he:Extern.find fn=some (Extern.BytealgMakeNoZero.makeNoZero fn.params #[t])) (h1:evo l p=some (.int .i64 (N:Int))) (hN:N≤LIM) (hd:Nat.blt d x.n=true)
    (h:∀ao cap L K',L.length=N→RowOf HF RU8 x.w0.heap.size E 1 (.slice ao N cap) L K'→JL x ops Q rest ((d,.slice ao N cap)::l) (K'::own) H):
    JL x ops Q (⟨some d,.call ⟨.value (.func f),#[p],ts⟩,ty,pos,aft,none⟩::rest) l own H:=λa w hh=>by
  simp only[wpLs,wanted_none,if_true]
  refine⟨λ_ _=>trivial,?_⟩
  obtain⟨cs,L,g1,g2,g3,g4,g5⟩:=run_mnz (P:=x.P) w fn.params t E hu N (by simp only[LIM]at hN;omega)
  have hrun:(execOp a.eval ⟨some d,.call ⟨.value (.func f),#[p],ts⟩,ty,pos,aft,none⟩).run x.P w=.ok (.value (.slice (some ⟨w.heap.size,0,none⟩) N cs.size)) (w.drew.drew.alloc (.cells cs E)):=by
    have e3:Array.map a.eval #[p]= #[.int .i64 (N:Int)]:=by simp[eval_of hh h1]
    have e1:a.eval (.func f)=.func (.func f) #[] #[]:=eval_of hh (o:=.func f) rfl
    simp only[execOp,resolve,e1,e3,Deferred.ofValue,Sem.run_bind,Sem.run_pure,Result.andThen,invoke]
    have:=run_callFunc_extern hf hname hb hn he #[.int .i64 (N:Int)] w
    rw[g1]at this
    simpa[Result.andThen]using this
  rw[semAt_of rfl,hrun]
  have hm2:Mem x.w0 x.H0 x.S own.flatten H w.drew.drew:=hh.mem.drew.drew
  refine h (some ⟨w.heap.size,0,none⟩) cs.size (L.take N) [(w.heap.size,.cells cs E (0,0))] (by rw[List.length_take];omega)
    ⟨bvs (L.take N),⟨by simp[bvs],.inr ⟨w.heap.size,cs.size,cs,by rw[List.length_take,Nat.min_eq_left (by omega)],rfl,hh.mem.kept.size,by rw[List.length_take];omega,g3,by simp,?_⟩⟩,Flat.bytes _,(Flat.bytes (H:=H) _).one' RU8.one⟩ _ _ (Holds.put (x:=x) (l:=l) ?_ hd _)
  · rw[g4];simp[bvs,List.map_take]
  · exact⟨hh.size,hh.ds,hh.slots,by simpa using hm2.go0 (K':=[[(w.heap.size,.cells cs E (0,0))]]) (by simpa using Mem.alloc hm2.agr (.cells cs E (0,0)))⟩
theorem RowOf.cutc{α:Type}{R:Rep α}{B size:Nat}{E:TypeId}{v:Value}{m m':List α}{K:Own}{b:Int}(h:RowOf HF R B E size v m K)(hm:m'=cut m 0 b)(hab:(0:Int)≤0∧0≤b∧b≤m.length):
 ∃v' cap ao',(∃ao,v=.slice ao m.length cap∧b≤cap∧v'=sliced ao (0:Int).toNat b.toNat b.toNat size)∧v'=.slice ao' m'.length m'.length∧RowOf HF R B E size v' m' K:=by
 have hp:=RowOf.pre h hm hab
 have hl:m'.length=b.toNat:=by subst hm;simp only[cut,List.length_take,List.length_drop];omega
 obtain⟨cl,⟨-,q⟩,-,-⟩:=h
 rcases q with⟨q1,q2,rfl⟩|⟨g,c,cur,q1,rfl,q3,q4,q5,q6,q7⟩
 · have hb:b=0:=by have:=hab.2.2;omega
   have hm0:m'= []:=List.length_eq_zero_iff.1 (by rw[hl,hb];rfl)
   subst hb hm0
   exact⟨_,0,none,⟨none,by rw[q1,q2],Int.le_refl _,rfl⟩,by simp[sliced],by
    have:sliced (none:Option Addr) (0:Int).toNat (0:Int).toNat (0:Int).toNat size=.slice none 0 0:=by simp[sliced]
    rw[this];exact RowOf.nil _ _ _ _ _⟩
 · have e3:∀c:Nat,sliced (some (⟨g,0,none⟩:Addr)) (0:Int).toNat b.toNat c size=.slice (some ⟨g,0,none⟩) b.toNat c:=λc=>by simp[sliced]
   obtain⟨v1,cap,-,-,⟨ao,e1,-,e2⟩,cells,⟨h0,h1⟩,hf,ho⟩:=hp
   rw[q1]at e1;simp only[Value.slice.injEq]at e1
   obtain⟨rfl,-,rfl⟩:=e1
   refine⟨_,c,some ⟨g,0,none⟩,⟨_,q1,by have:=hab.2.2;omega,rfl⟩,by rw[e3,hl],cells,⟨h0,.inr ⟨g,b.toNat,cur,by rw[e3,hl],rfl,q3,by omega,by have:=hab.2.2;omega,Nat.le_trans (Nat.mul_le_mul_right _ (by have:=hab.2.2;omega)) q6,?_⟩⟩,hf,ho⟩
   rcases h1 with⟨h1,-⟩|⟨g',c',cur',h1,h2,-,-,-,-,h7⟩
   · rw[e2,e3]at h1;cases h1
   · simp only[List.cons.injEq,Prod.mk.injEq,Obj.cells.injEq]at h2
     obtain⟨⟨-,rfl,-⟩,-⟩:=h2
     exact h7
end Go.Ow
namespace Go.Ow
open Go.RowKit
variable{x:Cx}{ops:Array Oper}{Q:Exit→Act→World→Prop}{rest:List Oper}{l:Slots}{own:List Own}{H HF:Heaplet}
variable{ty:TypeId}{d:Nat}{pos:String}{aft:Array Edge}
end Go.Ow
namespace Go.Ow
open Go.RowKit
variable{x:Cx}{ops:Array Oper}{Q:Exit→Act→World→Prop}{rest:List Oper}{l:Slots}{own:List Own}{H HF:Heaplet}
variable{ty:TypeId}{d:Nat}{pos:String}{aft:Array Edge}{p q:Operand}
theorem JC.tidy{c:Code}{l':Slots}{own':List Own}(hl:Sub l' l)(ho:own'=own)(h:JC x c Q l' own' H):JC x c Q l own H:=by
 subst ho;exact JC.sub hl h
theorem JC.tidyP{c:Code}{l':Slots}{own' rst:List Own}(hl:Sub l' l)(hp:own.flatten.Perm (own'.flatten++rst.flatten))(h:JC x c Q l' own' H):JC x c Q l own H:=λa w hh=>by
 have hh':=hh.sub hl
 exact h a w ⟨hh'.size,hh'.ds,hh'.slots,(hh'.mem.perm hp).sub (List.sublist_append_left _ _)⟩
end Go.Ow
namespace Go.Ow
open Go.RowKit
variable{x:Cx}{ops:Array Oper}{Q:Exit→Act→World→Prop}{rest:List Oper}{l:Slots}{own:List Own}{H HF:Heaplet}
variable{ty:TypeId}{d:Nat}{pos:String}{aft:Array Edge}{p q:Operand}{t:TypeId}
end Go.Ow
namespace Go.Ow
open Go.RowKit
variable{x:Cx}{ops:Array Oper}{Q:Exit→Act→World→Prop}{rest:List Oper}{l:Slots}{own:List Own}{H HF:Heaplet}
variable{ty:TypeId}{d:Nat}{pos:String}{aft:Array Edge}{p q:Operand}{t u:TypeId}
theorem bvs_get{m:List UInt8}{i:Nat}(h:i<m.length):(bvs m)[i]? =some (.int .u8 (m[i].toNat:Int)):=by
 unfold bvs;rw[List.getElem?_map,List.getElem?_eq_getElem h];rfl
theorem run_eqItems_bytes{P:Program}{w:World}{dd e:Nat}(hu:P.underlying e=some (.int .u8))(hs:shapeOf P e=some (false,1))(hc:P.cellsOf e=1)(as bs:List UInt8)(hl:bs.length=as.length):
    ∀(n k:Nat),k+n=as.length→(Op.eqItems (dd+1) e (P.cellsOf e) (bvs as).toArray (bvs bs).toArray (List.range' k n)).run P w=.ok (decide (as.drop k=bs.drop k)) w
  | 0,k,h=>by
    rw[List.drop_eq_nil_of_le (by omega),List.drop_eq_nil_of_le (by omega)]
    simp[Op.eqItems]
  | n + 1,k,h=>by
    have ha:k<as.length:=by omega
    have hb:k<bs.length:=by omega
    have h1:=run_part1 (P:=P) (cs:=(bvs as).toArray) (off:=k) hs (by simpa using bvs_get ha) w
    have h2:=run_part1 (P:=P) (cs:=(bvs bs).toArray) (off:=k) hs (by simpa using bvs_get hb) w
    have h3:=run_equalIn_int w dd e .u8 .u8 (as[k].toNat:Int) (bs[k].toNat:Int) hu
    have ih:=run_eqItems_bytes (w:=w) (dd:=dd) hu hs hc as bs hl n (k+1) (by omega)
    rw[List.range'_succ]
    simp only[Op.eqItems,Sem.run_bind,hc,Nat.mul_one,h1,h2,h3,Result.andThen]
    rw[hc]at ih
    rw[List.drop_eq_getElem_cons ha,List.drop_eq_getElem_cons hb]
    by_cases he:as[k]=bs[k]
    · have:((as[k].toNat:Int)==(bs[k].toNat:Int))=true:=by rw[he];simp
      rw[this]
      simp only[Bool.not_true,Bool.false_eq_true,if_false,ih,he,List.cons.injEq,true_and]
    · have:((as[k].toNat:Int)==(bs[k].toNat:Int))=false:=by
        rw[beq_eq_false_iff_ne];intro e;exact he (UInt8.toNat_inj.1 (by omega))
      simp only[this,Bool.not_false,if_true,Sem.run_pure,List.cons.injEq,he,false_and,decide_false]
theorem run_equalIn_bytes{P:Program}{w:World}{dd t e n:Nat}(ht:P.underlying t=some (.array n e))(hu:P.underlying e=some (.int .u8))(hs:shapeOf P e=some (false,1))(hc:P.cellsOf e=1)(as bs:List UInt8)(ha:as.length=n)(hb:bs.length=n):
 (Op.equalIn (dd+2) t (.agg (bvs as).toArray) (.agg (bvs bs).toArray)).run P w=.ok (decide (as=bs)) w:=by
 have hi:∃i,P.info? e=some i:=by
  unfold shapeOf at hs
  split at hs
  · rename_i d i h1 h2;exact⟨i,h2⟩
  · cases hs
 obtain⟨i,hi⟩:=hi
 rw[run_equalIn_array w (dd+1) (bvs as).toArray (bvs bs).toArray ht hi,List.range_eq_range',run_eqItems_bytes hu hs hc as bs (by omega) n 0 (by omega)]
 rfl
end Go.Ow
namespace Go.Ow
open Go.RowKit
variable{x:Cx}{ops:Array Oper}{Q:Exit→Act→World→Prop}{l:Slots}{own:List Own}{H:Heaplet}{so:List Own}{sH:Heaplet}
structure ASpec where
  i:Nat
  d:Nat
  T:TypeId
  z:Value
abbrev AM:=List (ASpec×Option Nat)
def AM.sl:AM→Slots
 |[]=> []
 |(s,some b)::r=>(s.d,.pointer (some ⟨b,0,none⟩))::AM.sl r
 |(s,none)::r=>AM.sl r
def AM.ow:AM→List Own
 |[]=> []
 |(s,some b)::r=> [(b,.cells s.z.cells s.T (0,0))]::AM.ow r
 |(s,none)::r=>AM.ow r
def AM.lst:AM→Array Bool→Array Bool
 |[],a=>a
 |(s,some _)::r,a=>AM.lst r (a.setIfInBounds s.i true)
 |(s,none)::r,a=>AM.lst r a
def AM.left:AM→Nat
 |[]=>0
 |(_,some _)::r=>AM.left r
 |(_,none)::r=>AM.left r+1
def AM.bs (m:AM):List Bool:=m.map (·.2.isSome)
def lstB:List ASpec→List Bool→Array Bool→Array Bool
 |s::r,true::bs,a=>lstB r bs (a.setIfInBounds s.i true)
 |_::r,false::bs,a=>lstB r bs a
 |_,_,a=>a
def undone:List ASpec→List Bool→List Nat
 |_::r,true::bs=>undone r bs
 |s::r,false::bs=>s.i::undone r bs
 |_,_=> []
def allB:Nat→List (List Bool)
 |0=> [[]]
 |n+1=>(allB n).flatMap λbs=> [true::bs,false::bs]
theorem allB_mem:∀(bs:List Bool),bs∈allB bs.length
  |[]=>by simp[allB]
  | b::bs=>by
    simp only[List.length_cons,allB,List.mem_flatMap]
    exact⟨bs,allB_mem bs,by cases b<;>simp⟩
theorem AM.lst_eq:∀(m:AM) (a:Array Bool),m.lst a=lstB (m.map (·.1)) m.bs a
 |[],_=>rfl
 |(s,some b)::r,a=>AM.lst_eq r _
 |(s,none)::r,a=>AM.lst_eq r _
theorem set_true_comm (a:Array Bool)(i j:Nat):(a.setIfInBounds i true).setIfInBounds j true=(a.setIfInBounds j true).setIfInBounds i true:=by
 by_cases h:i=j
 · subst h;rfl
 · exact Array.setIfInBounds_comm _ _ h
theorem AM.lst_set:∀(m:AM) (a:Array Bool) (k:Nat),(m.lst a).setIfInBounds k true=m.lst (a.setIfInBounds k true)
 |[],_,_=>rfl
 |(s,some b)::r,a,k=>by show(AM.lst r _).setIfInBounds k true=AM.lst r _;rw[AM.lst_set r,set_true_comm]
 |(s,none)::r,a,k=>AM.lst_set r a k
theorem AM.lst_none:∀(A:List ASpec) (a:Array Bool),AM.lst (A.map λs=>(s,none)) a=a
 |[],_=>rfl
 |s::r,a=>AM.lst_none r a
theorem AM.sl_none:∀(A:List ASpec),AM.sl (A.map λs=>(s,none))= []
 |[]=>rfl
 |s::r=>AM.sl_none r
theorem AM.ow_none:∀(A:List ASpec),AM.ow (A.map λs=>(s,none))= []
 |[]=>rfl
 |s::r=>AM.ow_none r
theorem AM.left_none:∀(A:List ASpec),AM.left (A.map λs=>(s,none))=A.length
 |[]=>rfl
 |s::r=>by show AM.left (r.map λs=>(s,none))+1=_;rw[AM.left_none r];rfl
theorem AM.split:∀(m:AM) (k:Nat),k∈undone (m.map (·.1)) m.bs→∃m1 m2 s,m=m1++(s,none)::m2∧s.i=k
  | (s,some b)::r,k,h=>by
    obtain⟨m1,m2,s',rfl,e⟩:=AM.split r k h
    exact⟨(s,some b)::m1,m2,s',rfl,e⟩
  | (s,none)::r,k,h=>by
    have h':k∈s.i::undone (r.map (·.1)) (AM.bs r):=h
    rcases List.mem_cons.1 h' with e|e
    · exact⟨[],r,s,rfl,e.symm⟩
    · obtain⟨m1,m2,s',rfl,e2⟩:=AM.split r k e
      exact⟨(s,none)::m1,m2,s',rfl,e2⟩
theorem AM.made_left:∀(m1 m2:AM) (s:ASpec) (b:Nat),(m1++(s,none)::m2).left=(m1++(s,some b)::m2).left+1
 |[],_,_,_=>rfl
 |(_,some _)::r,m2,s,b=>AM.made_left r m2 s b
 |(_,none)::r,m2,s,b=>by show AM.left (r++_)+1=AM.left (r++_)+1+1;rw[AM.made_left r m2 s b]
theorem AM.made_lst:∀(m1 m2:AM) (s:ASpec) (b:Nat) (a:Array Bool),(m1++(s,some b)::m2).lst a=(m1++(s,none)::m2).lst (a.setIfInBounds s.i true)
 |[],_,_,_,_=>rfl
 |(t,some _)::r,m2,s,b,a=>by show AM.lst (r++_) _=AM.lst (r++_) _;rw[AM.made_lst r m2 s b,set_true_comm]
 |(t,none)::r,m2,s,b,a=>AM.made_lst r m2 s b a
theorem AM.made_map:∀(m1 m2:AM) (s:ASpec) (b:Nat),(m1++(s,some b)::m2).map (·.1)=(m1++(s,none)::m2).map (·.1):=λm1 m2 s b=>by simp
theorem AM.made_ow:∀(m1 m2:AM) (s:ASpec) (b:Nat),(AM.ow (m1++(s,some b)::m2)).Perm ([(b,.cells s.z.cells s.T (0,0))]::AM.ow (m1++(s,none)::m2))
 |[],_,_,_=>List.Perm.refl _
 |(t,some c)::r,m2,s,b=>((AM.made_ow r m2 s b).cons _).trans (List.Perm.swap _ _ _)
 |(t,none)::r,m2,s,b=>AM.made_ow r m2 s b
theorem lk_app:∀(l t:Slots) (i:Nat),lk (l++t) i=match lk l i with|some v=>some v|none=>lk t i
  |[],_,_=>rfl
  | (k,v)::r,t,i=>by
    simp only[List.cons_append,lk]
    cases h:Nat.beq k i with
    |true=>rfl
    |false=>exact lk_app r t i
theorem lk_appL{l t:Slots}{i:Nat}{v:Value}(h:lk l i=some v):lk (l++t) i=some v:=by rw[lk_app,h]
theorem evo_app{l t:Slots}{o:Operand}{v:Value}(h:evo l o=some v):evo (l++t) o=some v:=by
 cases o with
 |tmp k=>exact lk_appL h
 |const u=>exact h
 |global g=>exact h
 |func f=>exact h
theorem AM.made_lk:∀(m1 m2:AM) (s:ASpec) (b:Nat) (i:Nat) (v:Value),((m1++(s,none)::m2).map (λp=>p.1.d)).Nodup→lk (AM.sl (m1++(s,some b)::m2)) i=some v→
    (i=s.d∧v=.pointer (some ⟨b,0,none⟩))∨(i≠s.d∧lk (AM.sl (m1++(s,none)::m2)) i=some v)
  | [],m2,s,b,i,v,hn,h=>by
    have h':lk ((s.d,.pointer (some ⟨b,0,none⟩))::AM.sl m2) i=some v:=h
    simp only[lk]at h'
    cases hb:Nat.beq s.d i with
    |true=>rw[hb]at h';simp at h';exact .inl ⟨(Nat.eq_of_beq_eq_true hb).symm,h'.symm⟩
    | false=>
      rw[hb]at h'
      exact .inr ⟨λe=>by subst e;simp at hb,h'⟩
  | (t,some c)::r,m2,s,b,i,v,hn,h=>by
    have h':lk ((t.d,.pointer (some ⟨c,0,none⟩))::AM.sl (r++(s,some b)::m2)) i=some v:=h
    have hn':t.d∉(r++(s,none)::m2).map (λp=>p.1.d)∧((r++(s,none)::m2).map (λp=>p.1.d)).Nodup:=by
      rw[List.cons_append,List.map_cons,List.nodup_cons]at hn;exact hn
    have hts:t.d≠s.d:=λe=>hn'.1 (by rw[e];simp)
    show _∨(_∧lk ((t.d,.pointer (some ⟨c,0,none⟩))::AM.sl (r++(s,none)::m2)) i=some v)
    simp only[lk]at h'⊢
    cases hb:Nat.beq t.d i with
    | true=>
      rw[hb]at h'
      have e:t.d=i:=Nat.eq_of_beq_eq_true hb
      exact .inr ⟨by rw[←e];exact hts,h'⟩
    |false=>rw[hb]at h';exact AM.made_lk r m2 s b i v hn'.2 h'
  | (t,none)::r,m2,s,b,i,v,hn,h=>by
    have hn':((r++(s,none)::m2).map (λp=>p.1.d)).Nodup:=by
      rw[List.cons_append,List.map_cons,List.nodup_cons]at hn;exact hn.2
    exact AM.made_lk r m2 s b i v hn' h
def AOk (x:Cx)(ops:Array Oper):List ASpec→Prop
 |[]=>True
 |s::r=>(∃ty pos aft,ops[s.i]? =some ⟨some s.d,.alloc s.T,ty,pos,aft,none⟩∧zeroOf x.P s.T=some s.z∧Nat.blt s.d x.n=true)∧AOk x ops r
theorem AOk.at{A:List ASpec}(h:AOk x ops A){s:ASpec}(hs:s∈A):∃ty pos aft,ops[s.i]? =some ⟨some s.d,.alloc s.T,ty,pos,aft,none⟩∧zeroOf x.P s.T=some s.z∧Nat.blt s.d x.n=true:=by
  induction A with
  |nil=>cases hs
  | cons t r ih=>
    rcases List.mem_cons.1 hs with rfl|h'
    · exact h.1
    · exact ih h.2 h'
def freeIn (l:Slots):List ASpec→Bool
 |[]=>true
 |s::r=>(lk l s.d).isNone&&r.all (λt=> !Nat.beq t.d s.d)&&freeIn l r
theorem freeIn.lk{A:List ASpec}(h:freeIn l A=true){s:ASpec}(hs:s∈A):lk l s.d=none:=by
  induction A with
  |nil=>cases hs
  | cons t r ih=>
    simp only[freeIn,Bool.and_eq_true]at h
    rcases List.mem_cons.1 hs with rfl|h'
    · simpa using h.1.1
    · exact ih h.2 h'
theorem freeIn.nodup{A:List ASpec}(h:freeIn l A=true):(A.map (·.d)).Nodup:=by
  induction A with
  |nil=>exact List.nodup_nil
  | cons t r ih=>
    simp only[freeIn,Bool.and_eq_true]at h
    rw[List.map_cons,List.nodup_cons]
    refine⟨λhm=> ?_,ih h.2⟩
    obtain⟨s,hs,e⟩:=List.mem_map.1 hm
    have:=List.all_eq_true.1 h.1.2 s hs
    simp[e]at this
def JAA (x:Cx)(ops:Array Oper)(Q:Exit→Act→World→Prop)(so:List Own)(sH:Heaplet)(A:List ASpec)(fuel:Nat)(listed:Array Bool)(l:Slots)(own:List Own)(H:Heaplet):Prop:=
 ∀m:AM,m.map (·.1)=A→(∀p∈m,∀b,p.2=some b→x.w0.heap.size≤b)→JA x ops Q so sH (fuel+m.left) (m.lst listed) (l++m.sl) (own++m.ow) H
def JOA (x:Cx)(ops:Array Oper)(Q:Exit→Act→World→Prop)(so:List Own)(sH:Heaplet)(A:List ASpec)(fuel:Nat)(listed:Array Bool)(i:Nat)(l:Slots)(own:List Own)(H:Heaplet):Prop:=
 ∀m:AM,m.map (·.1)=A→(∀p∈m,∀b,p.2=some b→x.w0.heap.size≤b)→JO x ops Q so sH (fuel+m.left) (m.lst listed) i (l++m.sl) (own++m.ow) H
theorem JAA.start (A:List ASpec){fuel N:Nat}{listed:Array Bool}(hN:fuel+A.length=N)(h:JAA x ops Q so sH A fuel listed l own H):JA x ops Q so sH N listed l own H:=by
 have:=h (A.map λs=>(s,none)) (by simp[Function.comp_def]) (λp hp b e=>by obtain⟨s,-,rfl⟩:=List.mem_map.1 hp;cases e)
 rw[AM.lst_none,AM.sl_none,AM.ow_none,AM.left_none,hN]at this
 simpa using this
theorem SubO.app:∀{so own:List Own} (t:List Own),SubO so own→SubO so (own++t)
  |[],_,_,_=>trivial
  | s::r,own,t,h=>by
    obtain⟨⟨i,hi⟩,h2⟩:=h
    refine⟨⟨i,?_⟩,SubO.app t h2⟩
    rw[List.getElem?_append_left (List.getElem?_eq_some_iff.1 hi).1];exact hi
theorem JN.slots{K:Act→World→Prop}{l':Slots}(h:∀i v,lk l' i=some v→lk l i=some v)(hk:JN x K l' own H):JN x K l own H:=λa w hh=>
 hk a w ⟨hh.size,hh.ds,λi v e=>hh.slots i v (h i v e),hh.mem⟩
theorem JOA.make{A:List ASpec}{F:Nat}{listed:Array Bool}(hA:AOk x ops A)(hle:Hle sH H)(hso:SubO so own)(hf:freeIn l A=true){m:AM}(hm:m.map (·.1)=A)(hb:∀p∈m,∀b,p.2=some b→x.w0.heap.size≤b)
    {k:Nat}(hk:k∈undone A m.bs)(ih:∀m':AM,m'.left<m.left→m'.map (·.1)=A→(∀p∈m',∀b,p.2=some b→x.w0.heap.size≤b)→JA x ops Q so sH (F+m'.left) (m'.lst listed) (l++m'.sl) (own++m'.ow) H):
    ∃f,F+m.left=f+1∧JO x ops Q so sH f (m.lst listed) k (l++m.sl) (own++m.ow) H:=by
  rw[←hm]at hk
  obtain⟨m1,m2,s,rfl,rfl⟩:=AM.split m k hk
  have hsA:s∈A:=by rw[←hm];simp
  obtain⟨ty,pos,aft,ho,hz,hd⟩:=hA.at hsA
  have hl:=AM.made_left m1 m2 s 0
  refine⟨F+AM.left (m1++(s,some 0)::m2),by omega,?_⟩
  refine JO.step ho trivial rfl (λK hK=> ?_)
  refine JL.alloc hz hd (λb hbb=> ?_)
  refine JL.nil ?_
  have hleft:AM.left (m1++(s,some b)::m2)=AM.left (m1++(s,some 0)::m2):=by
    have:=AM.made_left m1 m2 s b;omega
  have hmm:(m1++(s,some b)::m2).map (·.1)=A:=by rw[AM.made_map];exact hm
  have hJ:=ih (m1++(s,some b)::m2) (by omega) hmm (λp hp b' e=>by
    rcases List.mem_append.1 hp with h|h
    · exact hb p (by simp[h]) b' e
    · rcases List.mem_cons.1 h with rfl|h
      · simp at e;subst e;exact hbb
      · exact hb p (by simp[h]) b' e)
  rw[hleft,AM.made_lst,←AM.lst_set]at hJ
  have hnd:((m1++(s,none)::m2).map (λp=>p.1.d)).Nodup:=by
    have:=freeIn.nodup hf;rw[←hm,List.map_map]at this;exact this
  have hln:=freeIn.lk hf hsA
  have hsub:∀i v,lk (l++AM.sl (m1++(s,some b)::m2)) i=some v→lk ((s.d,.pointer (some ⟨b,0,none⟩))::(l++AM.sl (m1++(s,none)::m2))) i=some v:=λi v e=>by
    rw[lk_app]at e
    simp only[lk]
    cases hli:lk l i with
    | some u=>
      rw[hli]at e;simp at e;subst e
      have:Nat.beq s.d i=false:=by
        cases hbq:Nat.beq s.d i with
        |false=>rfl
        |true=>have:=Nat.eq_of_beq_eq_true hbq;rw[←this,hln]at hli;cases hli
      rw[this];exact lk_appL hli
    | none=>
      rw[hli]at e
      rcases AM.made_lk m1 m2 s b i v hnd e with⟨rfl,rfl⟩|⟨hne,h⟩
      · simp
      · have:Nat.beq s.d i=false:=by
          cases hbq:Nat.beq s.d i with
          |false=>rfl
          |true=>exact absurd (Nat.eq_of_beq_eq_true hbq).symm hne
        rw[this,lk_app,hli];exact h
  have hperm:([(b,Obj.cells s.z.cells s.T (0,0))]::(own++AM.ow (m1++(s,none)::m2))).flatten.Perm (own++AM.ow (m1++(s,some b)::m2)).flatten:=by
    refine List.Perm.flatten ?_
    refine List.Perm.trans ?_ ((AM.made_ow m1 m2 s b).symm.append_left own)
    exact List.perm_middle.symm
  refine JN.slots hsub (JN.perm hperm (hK _ _ _ ?_ hJ))
  exact stab_of hle (hso.app _)
theorem JAA.many{A:List ASpec}(R:List Nat){fuel:Nat}{listed:Array Bool}(hA:AOk x ops A)(hle:Hle sH H)(hso:SubO so own)(hf:freeIn l A=true)
    (hr:(allB A.length).all (λbs=> !(Region.ready .any ops (lstB A bs listed)).isEmpty&&(Region.ready .any ops (lstB A bs listed)).all (λk=>R.contains k ||(undone A bs).contains k))=true)
    (h:∀i∈R,JOA x ops Q so sH A fuel listed i l own H):JAA x ops Q so sH A (fuel+1) listed l own H:=by
  intro m
  obtain⟨n,hn⟩:∃n,n=m.left:=⟨_,rfl⟩
  induction n using Nat.strongRecOn generalizing m with
  | _ n ih=>
    intro hm hb a w hh
    have hmem:m.bs∈allB A.length:=by have:=allB_mem m.bs;rwa[show m.bs.length=A.length by rw[←hm];simp[AM.bs]]at this
    have h1:=List.all_eq_true.1 hr _ hmem
    simp only[Bool.and_eq_true]at h1
    have hlst:m.lst listed=lstB A m.bs listed:=by rw[AM.lst_eq,hm]
    rw[←hlst]at h1
    rw[show fuel+1+m.left=(fuel+m.left)+1 by omega]
    refine⟨λh0=> ?_,λk hk=> ?_⟩
    · rw[h0]at h1;simp at h1
    · have hk2:=List.all_eq_true.1 h1.2 k hk
      simp only[Bool.or_eq_true,List.contains_iff_mem]at hk2
      rcases hk2 with hk2|hk2
      · exact h k hk2 m hm hb a w hh
      · obtain⟨f,hf1,hJ⟩:=JOA.make (F:=fuel+1) (listed:=listed) (Q:=Q) hA hle hso hf hm hb hk2 (λm' hlt hm' hb'=>ih m'.left (by omega) m' rfl hm' hb')
        rw[show fuel+m.left=f by omega]
        exact hJ a w hh
def AllA:List ASpec→Nat→(AM→Prop)→Prop
 |[],_,P=>P []
 |s::r,N,P=>∀b,N≤b→AllA r N (λm=>P ((s,some b)::m))
theorem AllA.at:∀{A:List ASpec} {N:Nat} {P:AM→Prop},AllA A N P→∀m:AM,m.map (·.1)=A→m.left=0→(∀p∈m,∀b,p.2=some b→N≤b)→P m
  |[],_,_,h,[],_,_,_=>h
  | s::r,N,P,h,(t,some b)::m,hm,h0,hb=>by
    simp only[List.map_cons,List.cons.injEq]at hm
    obtain⟨rfl,hm⟩:=hm
    exact AllA.at (h b (hb (t,some b) (by simp) b rfl)) m hm h0 (λp hp=>hb p (by simp[hp]))
  |s::r,N,P,h,(t,none)::m,hm,h0,hb=>by cases h0
theorem left_undone:∀(m:AM),m.left≠0→m.bs.all id=false
 |[],h=>absurd rfl h
 |(_,some _)::r,h=>by have:=left_undone r h;simpa[AM.bs]using this
 |(_,none)::r,h=>rfl
theorem JAA.all{A:List ASpec}{fuel:Nat}{listed:Array Bool}(hA:AOk x ops A)(hle:Hle sH H)(hso:SubO so own)(hf:freeIn l A=true)
    (hr:(allB A.length).all (λbs=>bs.all id ||(!(Region.ready .any ops (lstB A bs listed)).isEmpty&&(Region.ready .any ops (lstB A bs listed)).all (λk=>(undone A bs).contains k)))=true)
    (h:AllA A x.w0.heap.size (λm=>JA x ops Q so sH fuel (m.lst listed) (l++m.sl) (own++m.ow) H)):JAA x ops Q so sH A fuel listed l own H:=by
  intro m
  obtain⟨n,hn⟩:∃n,n=m.left:=⟨_,rfl⟩
  induction n using Nat.strongRecOn generalizing m with
  | _ n ih=>
    intro hm hb
    by_cases h0:m.left=0
    · rw[h0];exact h.at m hm h0 hb
    intro a w hh
    have hmem:m.bs∈allB A.length:=by have:=allB_mem m.bs;rwa[show m.bs.length=A.length by rw[←hm];simp[AM.bs]]at this
    have h1:=List.all_eq_true.1 hr _ hmem
    rw[left_undone m h0]at h1
    simp only[Bool.false_or,Bool.and_eq_true]at h1
    have hlst:m.lst listed=lstB A m.bs listed:=by rw[AM.lst_eq,hm]
    rw[←hlst]at h1
    obtain⟨f,hf0⟩:∃f,fuel+m.left=f+1:=⟨fuel+m.left-1,by omega⟩
    rw[hf0]
    refine⟨λh0=> ?_,λk hk=> ?_⟩
    · rw[h0]at h1;simp at h1
    · have hk2:=List.all_eq_true.1 h1.2 k hk
      simp only[List.contains_iff_mem]at hk2
      obtain⟨f',hf1,hJ⟩:=JOA.make (F:=fuel) (listed:=listed) (Q:=Q) hA hle hso hf hm hb hk2 (λm' hlt hm' hb'=>ih m'.left (by omega) m' rfl hm' hb')
      rw[show f=f' by omega]
      exact hJ a w hh
inductive AppL {α:Type} (t:List α):List α→List α→Prop
  |nil:AppL t [] t
  |cons {a:α} {l1 l2:List α} (h:AppL t l1 l2):AppL t (a::l1) (a::l2)
theorem AppL.eq{α:Type}{t l1 l2:List α}(h:AppL t l1 l2):l2=l1++t:=by
 induction h with
 |nil=>rfl
 |cons _ ih=>rw[ih];rfl
theorem guard_app{t:Slots}{g:Option (Nat×Bool)}(h:guardYes ops l g):guardYes ops (l++t) g:=by
 cases g with
 |none=>trivial
 |some jb=>obtain⟨j,b⟩:=jb;obtain⟨k,oj,h1,h2,h3⟩:=h;exact⟨k,oj,h1,h2,lk_appL h3⟩
theorem JOA.step{A:List ASpec}{fuel i:Nat}{listed listed':Array Bool}{dst:Option Tmp}{op:Op}{ty:TypeId}{pos:String}{aft:Array Edge}{g:Option (Nat×Bool)}
 (ho:ops[i]? =some ⟨dst,op,ty,pos,aft,g⟩)(hg:guardYes ops l g)(hl:listed.setIfInBounds i true=listed')
 (h:∀(tl:Slots) (to:List Own) (K:Act→World→Prop),(∀{l' own' H' l2 own2},AppL tl l' l2→AppL to own' own2→(∀a w,Holds x l2 own2 H' a w→Stab so sH w)→JAA x ops Q so sH A fuel listed' l' own' H'→JN x K l2 own2 H')→
  JL x ops (λe a w=>match e with| .normal=>K a w|e=>Q e a w) [⟨dst,op,ty,pos,aft,none⟩] (l++tl) (own++to) H):
 JOA x ops Q so sH A fuel listed i l own H:=λm hm hb=>by
 refine JO.step ho (guard_app hg) rfl (λK hK=>h m.sl m.ow K (λ{l' own' H' l2 own2} e1 e2 hst hJ=> ?_))
 have e1:=e1.eq
 have e2:=e2.eq
 subst e1;subst e2
 refine hK _ _ _ hst ?_
 have:=hJ m hm hb
 rw[←hl,←AM.lst_set]at this
 exact this
theorem Runs.app{op:Op}{ty:TypeId}{v:Value}{t:Slots}(h:Runs x op ty l own H v):Runs x op ty (l++t) own H v:=λρ w d pos aft g hρ hs=>h ρ w d pos aft g (λo u e=>hρ o u (evo_app e)) hs
def TakeA (ops:Array Oper)(A:List ASpec)(listed:Array Bool)(i:Nat):Bool:=(allB A.length).all λbs=>(Region.ready .any ops (lstB A bs listed)).contains i&&Region.free .any ops (lstB A bs listed) i
theorem TakeA.take{A:List ASpec}{listed:Array Bool}{i:Nat}(h:TakeA ops A listed i=true){m:AM}(hm:m.map (·.1)=A):Take ops (m.lst listed) i (m.lst (listed.setIfInBounds i true)):=by
 have hmem:m.bs∈allB A.length:=by have:=allB_mem m.bs;rwa[show m.bs.length=A.length by rw[←hm];simp[AM.bs]]at this
 have h1:=List.all_eq_true.1 h _ hmem
 have hlst:m.lst listed=lstB A m.bs listed:=by rw[AM.lst_eq,hm]
 rw[←hlst]at h1
 simp only[Bool.and_eq_true]at h1
 exact⟨h1.1,h1.2,AM.lst_set _ _ _⟩
theorem JAA.val{A:List ASpec}{fuel i d:Nat}{listed listed':Array Bool}{op:Op}{ty:TypeId}{pos:String}{aft:Array Edge}{g:Option (Nat×Bool)}{v:Value}(hreg:Reg ops)(hc:Calm Q)
 (ho:ops[i]? =some ⟨some d,op,ty,pos,aft,g⟩)(ht:TakeA ops A listed i=true)(hl:listed.setIfInBounds i true=listed')(hg:guardYes ops l g)(hle:Hle sH H)(hso:SubO so own)(hr:Runs x op ty l so sH v)(hd:Nat.blt d x.n=true)
 (h:JAA x ops Q so sH A fuel listed' ((d,v)::l) own H):JAA x ops Q so sH A (fuel+1) listed l own H:=λm hm hb=>by
 rw[show fuel+1+m.left=(fuel+m.left)+1 by omega]
 subst hl
 exact JA.val hreg hc ho (TakeA.take ht hm) (guard_app hg) (stab_of hle (hso.app _)) hr.app hd (h m hm hb)
theorem JAA.one{A:List ASpec}{fuel i:Nat}{listed:Array Bool}(hA:AOk x ops A)(hle:Hle sH H)(hso:SubO so own)(hf:freeIn l A=true)
 (hr:(allB A.length).all (λbs=> !(Region.ready .any ops (lstB A bs listed)).isEmpty&&(Region.ready .any ops (lstB A bs listed)).all (λk=> [i].contains k ||(undone A bs).contains k))=true)
 (h:JOA x ops Q so sH A fuel listed i l own H):JAA x ops Q so sH A (fuel+1) listed l own H:=JAA.many [i] hA hle hso hf hr (λk hk=>by simp at hk;subst hk;exact h)
theorem JAA.two{A:List ASpec}{fuel i j:Nat}{listed:Array Bool}(hA:AOk x ops A)(hle:Hle sH H)(hso:SubO so own)(hf:freeIn l A=true)
 (hr:(allB A.length).all (λbs=> !(Region.ready .any ops (lstB A bs listed)).isEmpty&&(Region.ready .any ops (lstB A bs listed)).all (λk=> [i,j].contains k ||(undone A bs).contains k))=true)
 (h:JOA x ops Q so sH A fuel listed i l own H)(h':JOA x ops Q so sH A fuel listed j l own H):JAA x ops Q so sH A (fuel+1) listed l own H:=JAA.many [i,j] hA hle hso hf hr (λk hk=>by
 simp only[List.mem_cons,List.not_mem_nil,or_false]at hk
 rcases hk with rfl|rfl
 · exact h
 · exact h')
end Go.Ow
namespace Go.Ow
open Go.RowKit
variable{x:Cx}{ops:Array Oper}{Q:Exit→Act→World→Prop}{rest:List Oper}{l:Slots}{own:List Own}{H HF:Heaplet}
variable{ty:TypeId}{d:Nat}{pos:String}{aft:Array Edge}
end Go.Ow
namespace Go.Ow
open Go.RowKit
section orders
variable{F:Fence}{n:Nat}{P:Program}{md:Region.Mode}{ops:Array Oper}{Q:Exit→Act→World→Prop}{S:Array Bool→World→Prop}
def wpAT (F:Fence)(n:Nat)(P:Program)(md:Region.Mode)(ops:Array Oper)(Q:Exit→Act→World→Prop)(S:Array Bool→World→Prop):Nat→Array Bool→Act→World→Prop
  |0,listed,a,w=>Region.ready md ops listed= []∧Q .normal a w
  | fuel+1,listed,a,w=>(Region.ready md ops listed= []→Q .normal a w)∧
    ∀i∈Region.ready md ops listed,wpOpIn F n P ops Q i (λa' w'=>S (listed.setIfInBounds i true) w'∧wpAT F n P md ops Q S fuel (listed.setIfInBounds i true) a' w') a w
theorem wpAT_sound:∀(fuel:Nat) (listed:Array Bool) (a:Act) (w:World),wpAT F n P md ops Q S fuel listed a w→wpAnyIn F n P md ops Q fuel listed a w
 |0,_,_,_,h=>h
 |fuel+1,listed,a,w,h=>⟨h.1,λi hi=>wpOpIn_mono (λa' w' h'=>wpAT_sound fuel _ a' w' h'.2) (h.2 i hi)⟩
def hangs (md:Region.Mode)(ops:Array Oper)(i:Nat)(D:List Nat)(listed:Array Bool):Bool:=
 D.all λd=> !listed.getD d true&&(match ops[d]? with|none=>false|some o=>o.after.any λe=>Region.binds md e&&(e.on==i ||D.contains e.on))
theorem wpAT_first (hF:∀f,F.fn f){i:Nat}{oi:Oper}{v:Value}(hi:ops[i]? =some oi)(hsel:∀(j:Nat) (o:Oper) cs b,ops[j]? =some o→o.op≠.select cs b)
    (hdef:∀(j:Nat) (o:Oper),ops[j]? =some o→noDefer o.op=true)(hQ:∀c a w,Q (.panic c) (a.put oi.dst v) w→Q (.panic c) a w)(hmono:∀L j w,S L w→S (L.setIfInBounds j true) w)
    (hskip:∀L w,S (L.setIfInBounds i true) w→S L w){D:List Nat}{T:World→Prop}(hT:∀L w,(∀d∈D,L.getD d true=false)→S L w→T w):
    ∀ (fuel:Nat) (listed:Array Bool) (a:Act) (w:World),
      (∀j oj,ops[j]? =some oj→j≠i→listed.getD j true=false→(∀e∈oj.after,Region.binds md e=true→e.on≠i)→oi.apart ops oj=true)→
      hangs md ops i D listed=true→
      i∈Region.ready md ops listed→YieldsS P ops T oi v a→S listed w→
      wpAT F n P md ops Q S fuel (listed.setIfInBounds i true) (a.put oi.dst v) w→wpAT F n P md ops Q S (fuel+1) listed a w:=by
  have hDs:∀{listed:Array Bool},hangs md ops i D listed=true→∀d∈D,listed.getD d true=false:=λh d hd=>by
    have:=List.all_eq_true.1 h d hd
    rw[Bool.and_eq_true]at this
    simpa using this.1
  intro fuel
  induction fuel with
  | zero=>
    intro listed a w _ hD hr hy hS H
    refine⟨λh=>(by rw[h]at hr;cases hr),λj hj=> ?_⟩
    by_cases hji:j=i
    · subst hji;exact hy.op hF hi (hdef _ _ hi) (hT _ _ (hDs hD) hS) ⟨hmono _ _ _ hS,H⟩
    · have:=ready_mono hj hji
      rw[H.1]at this
      cases this
  | succ fuel ih=>
    intro listed a w hfree hD hr hy hS H
    refine⟨λh=>(by rw[h]at hr;cases hr),λj hj=> ?_⟩
    by_cases hji:j=i
    · subst hji;exact hy.op hF hi (hdef _ _ hi) (hT _ _ (hDs hD) hS) ⟨hmono _ _ _ hS,H⟩
    · have h1:=H.2 j (ready_mono hj hji)
      obtain⟨hjun,oj,hoj,hall⟩:=mem_ready.1 hj
      have h0:=(mem_ready.1 hr).1
      have hnot:∀e∈oj.after,Region.binds md e=true→e.on≠i:=λe he hb heq=>by
        have h1:=hall e he hb
        rw[heq]at h1
        rcases Nat.lt_or_ge i listed.size with h'|h'
        · simp[h']at h0 h1;rw[h0]at h1;cases h1
        · simp[Array.getElem?_eq_none h']at h1
      have hjD:j∉D:=λhjD=>by
        have:=List.all_eq_true.1 hD j hjD
        rw[Bool.and_eq_true,hoj]at this
        obtain⟨e,he,hb⟩:=Array.any_eq_true'.1 this.2
        rw[Bool.and_eq_true,Bool.or_eq_true]at hb
        rcases hb.2 with h|h
        · exact hnot e he hb.1 (by simpa using h)
        · have h2:=hDs hD e.on (by simpa using h)
          have h3:=hall e he hb.1
          rcases Nat.lt_or_ge e.on listed.size with h'|h'
          · simp[h']at h2 h3;rw[h2]at h3;cases h3
          · simp[Array.getElem?_eq_none h']at h3
      have hD':hangs md ops i D (listed.setIfInBounds j true)=true:=List.all_eq_true.2 λd hd=>by
        have:=List.all_eq_true.1 hD d hd
        rw[getD_set_ne true (λe=>hjD (by rw[e];exact hd))];exact this
      have h2:=wpOpIn_putS (S:=T) hF hoj (hfree j oj hoj hji hjun hnot) (λcs b=>hsel i oi cs b hi) (λcs b=>hsel j oj cs b hoj) (hdef j oj hoj) hQ hy h1
      have hfree':∀k ok,ops[k]? =some ok→k≠i→(listed.setIfInBounds j true).getD k true=false→
          (∀e∈ok.after,Region.binds md e=true→e.on≠i)→oi.apart ops ok=true:=λk ok hk hki hun hno=>by
        refine hfree k ok hk hki ?_ hno
        by_cases hjk:j=k
        · subst hjk;exact hjun
        · rw[getD_set_ne true hjk]at hun;exact hun
      refine wpOpIn_mono (λa' w' h3=> ?_) h2
      have hS':S (listed.setIfInBounds j true) w':=hskip _ _ (by rw[Array.setIfInBounds_comm _ _ hji];exact h3.2.1)
      refine⟨hS',ih (listed.setIfInBounds j true) a' w' hfree' hD' (ready_mono hr (Ne.symm hji)) h3.1 hS' ?_⟩
      rw[Array.setIfInBounds_comm _ _ hji]
      exact h3.2.2
end orders
variable{x:Cx}{ops:Array Oper}{K:Act→World→Prop}{l:Slots}{own:List Own}{H:Heaplet}
abbrev Segs:=List (Own×List Nat)
def SB (so:Segs)(sH:Heaplet)(L:Array Bool)(w:World):Prop:=Agrees sH w∧∀x∈so,(∃t∈x.2,L.getD t true=true)∨∀p∈x.1,w.heap[p.1]? =some p.2
theorem SB.mono{so:Segs}{sH:Heaplet}{L:Array Bool}{w:World}(j:Nat)(h:SB so sH L w):SB so sH (L.setIfInBounds j true) w:=by
 refine⟨h.1,λx hx=>(h.2 x hx).imp (fun⟨t,ht,e⟩=>⟨t,ht,?_⟩) id⟩
 by_cases c:j=t
 · subst c
   rcases Nat.lt_or_ge j L.size with h'|h'
   · simp[h']
   · simp[Array.getElem?_eq_none h']
 · rw[getD_set_ne true c];exact e
def noTurn (so:Segs)(i:Nat):Bool:=so.all λx=> !x.2.contains i
theorem SB.skip{so:Segs}{sH:Heaplet}{i:Nat}(hn:noTurn so i=true){L:Array Bool}{w:World}(h:SB so sH (L.setIfInBounds i true) w):SB so sH L w:=by
 refine⟨h.1,λx hx=>(h.2 x hx).imp (fun⟨t,ht,e⟩=>⟨t,ht,?_⟩) id⟩
 have:=List.all_eq_true.1 hn x hx
 have hne:i≠t:=λc=>by subst c;simp at this;exact this ht
 rw[getD_set_ne true hne]at e;exact e
def segsOf (D:List Nat):Segs→List Own
 |[]=> []
 |x::q=>cond (x.2.all λt=>D.contains t) (x.1::segsOf D q) (segsOf D q)
theorem SB.stab{so:Segs}{sH:Heaplet}{D:List Nat}{L:Array Bool}{w:World}(hD:∀d∈D,L.getD d true=false)(h:SB so sH L w):Stab (segsOf D so) sH w:=by
  refine⟨h.1,?_⟩
  have h2:=h.2
  clear h
  induction so with
  |nil=>intro p hp;simp[segsOf]at hp
  | cons y q ih=>
    have ihq:=ih (λx hx=>h2 x (List.mem_cons_of_mem _ hx))
    intro p hp
    unfold segsOf at hp
    cases e:(y.2.all λt=>D.contains t)with
    |false=>rw[e,cond_false]at hp;exact ihq p hp
    | true=>
      rw[e,cond_true,List.flatten_cons,List.mem_append]at hp
      rcases hp with hp|hp
      · rcases h2 y (List.mem_cons_self ..)with⟨t,ht,e2⟩|h3
        · have:=List.all_eq_true.1 e t ht
          rw[hD t (by simpa using this)]at e2;cases e2
        · exact h3 p hp
      · exact ihq p hp
def Kept':Segs→Array Bool→List Own→Prop
 |[],_,_=>True
 |x::q,L,own=>((x.2.any λt=>L.getD t true)=true∨∃i:Nat,own[i]? =some x.1)∧Kept' q L own
theorem Kept'.sb{so:Segs}{sH:Heaplet}{L:Array Bool}(hle:Hle sH H)(hk:Kept' so L own){a:Act}{w:World}(hh:Holds x l own H a w):SB so sH L w:=by
  refine⟨hh.mem.agr.le hle,?_⟩
  induction so with
  |nil=>intro y hy;cases hy
  | cons z q ih=>
    intro y hy
    rcases List.mem_cons.1 hy with rfl|hy
    · rcases hk.1 with h|⟨i,hi⟩
      · obtain⟨t,ht,e⟩:=List.any_eq_true.1 h;exact .inl ⟨t,ht,e⟩
      · exact .inr λp hp=>hh.mem.ok.here p (List.mem_flatten.2 ⟨_,List.mem_of_getElem? hi,hp⟩)
    · exact ih hk.2 y hy
theorem Kept'.mono{so:Segs}{L:Array Bool}(j:Nat)(hk:Kept' so L own):Kept' so (L.setIfInBounds j true) own:=by
  induction so with
  |nil=>trivial
  | cons z q ih=>
    refine⟨hk.1.imp (λh=> ?_) id,ih hk.2⟩
    obtain⟨t,ht,e⟩:=List.any_eq_true.1 h
    refine List.any_eq_true.2 ⟨t,ht,?_⟩
    by_cases c:j=t
    · subst c
      rcases Nat.lt_or_ge j L.size with h'|h'
      · simp[h']
      · simp[Array.getElem?_eq_none h']
    · rw[getD_set_ne true c];exact e
theorem kept0{so:Segs}{L:Array Bool}(ps:List Nat)(h:ps.map (λi=>own[i]?)=so.map λx=>some x.1):Kept' so L own:=by
  induction so generalizing ps with
  |nil=>trivial
  | cons z q ih=>
    cases ps with
    |nil=>cases h
    | cons p ps=>
      simp only[List.map_cons,List.cons.injEq]at h
      exact⟨.inr ⟨p,h.1⟩,ih ps h.2⟩
def picked (own:List Own):List Bool→List Nat→List (Option Own)
 |b::bs,p::ps=>cond b none own[p]? ::picked own bs ps
 |_,_=> []
def wanted':List Bool→Segs→List (Option Own)
 |b::bs,x::q=>cond b none (some x.1)::wanted' bs q
 |_,_=> []
theorem kept1{so:Segs}{L:Array Bool}(bs:List Bool)(ps:List Nat)(h1:so.map (λx=>x.2.any λt=>L.getD t true)=bs)(h:picked own bs ps=wanted' bs so):Kept' so L own:=by
  induction so generalizing ps bs with
  |nil=>trivial
  | cons z q ih=>
    subst h1
    cases ps with
    |nil=>cases h
    | cons p ps=>
      simp only[List.map_cons,picked,wanted',List.cons.injEq]at h
      refine⟨?_,ih _ ps rfl h.2⟩
      cases e:(z.2.any λt=>L.getD t true)with
      |true=>exact .inl rfl
      | false=>
        have h2:=h.1
        rw[e]at h2
        exact .inr ⟨p,h2⟩
def JB (x:Cx)(ops:Array Oper)(K:Act→World→Prop)(so:Segs)(sH:Heaplet)(fuel:Nat)(listed:Array Bool)(l:Slots)(own:List Own)(H:Heaplet):Prop:=
 Reg ops→Hle sH H→Kept' so listed own→∀a w,Holds x l own H a w→wpAT (Fw x.r) 0 x.P .any ops (onlyN K) (SB so sH) fuel listed a w
def JOB (x:Cx)(ops:Array Oper)(K:Act→World→Prop)(so:Segs)(sH:Heaplet)(fuel:Nat)(listed:Array Bool)(i:Nat)(l:Slots)(own:List Own)(H:Heaplet):Prop:=
 Reg ops→Hle sH H→Kept' so listed own→∀a w,Holds x l own H a w→
  wpOpIn (Fw x.r) 0 x.P ops (onlyN K) i (λa' w'=>SB so sH (listed.setIfInBounds i true) w'∧wpAT (Fw x.r) 0 x.P .any ops (onlyN K) (SB so sH) fuel (listed.setIfInBounds i true) a' w') a w
theorem JC.drawB{Q:Exit→Act→World→Prop}{so:Segs}(N:Nat){id:Nat}(hN:ops.size=N)(hm:x.P.follows .mixedOrders=true)(hreg:Reg ops)(hk:Kept' so (Array.replicate N false) own)
 (h:JB x ops (Q .normal) so H N (Array.replicate N false) l own H):JC x (.region id ops true) Q l own H:=λa w hh=>by
 subst hN
 refine wpIn_mono (Q:=onlyN (Q .normal)) (wpIn_region_any hm (wpAT_sound _ _ _ _ (h hreg (Hle.refl _) hk a w.drew ⟨hh.size,hh.ds,hh.slots,hh.mem.drew⟩))) ?_
 intro e a w hq
 cases e with
 |normal=>exact hq
 |exit id=>exact hq.elim
 |goto t=>exact hq.elim
 |ret=>exact hq.elim
 |panic c=>exact hq.elim
 |outgrown=>exact hq.elim
section
variable{so:Segs}{sH:Heaplet}{fuel i d:Nat}{listed listed':Array Bool}{op:Op}{ty:TypeId}{pos:String}{aft:Array Edge}{g:Option (Nat×Bool)}{v:Value}
theorem JB.val (D:List Nat)(ho:ops[i]? =some ⟨some d,op,ty,pos,aft,g⟩)(hr:Runs x op ty l (segsOf D so) sH v)
 (h:JB x ops K so sH fuel listed' ((d,v)::l) own H)
 (ht:Take ops listed i listed':=by exact⟨by kernel_rfl,by kernel_rfl,rfl⟩)(hg:guardYes ops l g:=by first|exact trivial|exact⟨_,_,rfl,rfl,rfl⟩)
 (hD:hangs .any ops i D listed=true:=by kernel_rfl)(hn:noTurn so i=true:=by rfl)(hd:Nat.blt d x.n=true:=by rfl):
 JB x ops K so sH (fuel+1) listed l own H:=λhreg hle hk a w hh=>by
 have hl:=ht.nxt
 subst hl
 exact wpAT_first (λ_=>trivial) ho (Region.noSelect_spec hreg.sel) hreg.noDefer (λc a' w' h'=>h') (λ_ j _ h=>h.mono j) (λ_ _ h=>h.skip hn) (D:=D) (T:=Stab (segsOf D so) sH) (λ_ _ hD h=>h.stab hD)
  fuel listed a w (Region.free_spec ho ht.free) hD (by simpa using ht.rdy)
  (.inl ⟨wanted_yes hh hg,λw' hw'=>hr a.eval w' (some d) pos aft g (λo u e=>eval_of hh e) hw'⟩) (hk.sb hle hh) (h hreg hle (hk.mono i) _ _ (hh.put hd v))
theorem JB.no{j t:Nat}{b b':Bool}{oj:Oper}(ho:ops[i]? =some ⟨some d,op,ty,pos,aft,some (j,b)⟩)(hj:ops[j]? =some oj)(htj:oj.dst=some t)(hb:lk l t=some (.bool b'))(hne:(b'==b)=false)
 (h:JB x ops K so sH fuel listed' ((d,undef)::l) own H)
 (ht:Take ops listed i listed':=by exact⟨by kernel_rfl,by kernel_rfl,rfl⟩)(hn:noTurn so i=true:=by rfl)(hd:Nat.blt d x.n=true:=by rfl):
 JB x ops K so sH (fuel+1) listed l own H:=λhreg hle hk a w hh=>by
 have hl:=ht.nxt
 subst hl
 have hw:Region.wanted ⟨some d,op,ty,pos,aft,some (j,b)⟩ (yielded ops a.tmps)=false:=by
  simp only[Region.wanted,yielded,hj,Option.bind_some,htj]
  have:=hh.slots t _ hb
  cases hs:a.tmps[t]? with
  |none=>simp[hs,undef]at this
  |some u=>simp[hs]at this;subst this;simpa using hne
 exact wpAT_first (λ_=>trivial) ho (Region.noSelect_spec hreg.sel) hreg.noDefer (λc a' w' h'=>h') (λ_ j _ h=>h.mono j) (λ_ _ h=>h.skip hn) (D:=[]) (T:=λ_=>True) (λ_ _ _ _=>trivial)
  fuel listed a w (Region.free_spec ho ht.free) rfl (by simpa using ht.rdy) (.inr ⟨hw,rfl⟩) (hk.sb hle hh) (h hreg hle (hk.mono i) _ _ (hh.put hd undef))
theorem JB.noU{j t:Nat}{b:Bool}{oj:Oper}(ho:ops[i]? =some ⟨some d,op,ty,pos,aft,some (j,b)⟩)(hj:ops[j]? =some oj)(htj:oj.dst=some t)(hb:lk l t=some undef)
 (h:JB x ops K so sH fuel listed' ((d,undef)::l) own H)
 (ht:Take ops listed i listed':=by exact⟨by kernel_rfl,by kernel_rfl,rfl⟩)(hn:noTurn so i=true:=by rfl)(hd:Nat.blt d x.n=true:=by rfl):
 JB x ops K so sH (fuel+1) listed l own H:=λhreg hle hk a w hh=>by
 have hl:=ht.nxt
 subst hl
 have hw:Region.wanted ⟨some d,op,ty,pos,aft,some (j,b)⟩ (yielded ops a.tmps)=false:=by
  simp only[Region.wanted,yielded,hj,Option.bind_some,htj]
  have:=hh.slots t _ hb
  cases hs:a.tmps[t]? with
  |none=>simp
  |some u=>simp[hs]at this;subst this;simp[undef]
 exact wpAT_first (λ_=>trivial) ho (Region.noSelect_spec hreg.sel) hreg.noDefer (λc a' w' h'=>h') (λ_ j _ h=>h.mono j) (λ_ _ h=>h.skip hn) (D:=[]) (T:=λ_=>True) (λ_ _ _ _=>trivial)
  fuel listed a w (Region.free_spec ho ht.free) rfl (by simpa using ht.rdy) (.inr ⟨hw,rfl⟩) (hk.sb hle hh) (h hreg hle (hk.mono i) _ _ (hh.put hd undef))
theorem JB.doneN (hr:Region.ready .any ops listed= [])(h:JN x K l own H):JB x ops K so sH fuel listed l own H:=λ_ _ _ a w hh=>by
 cases fuel with
 |zero=>exact⟨hr,h a w hh⟩
 |succ fuel=>exact⟨λ_=>h a w hh,by rw[hr];simp⟩
theorem JB.one (hr:Region.ready .any ops listed= [i])(h1:JOB x ops K so sH fuel listed i l own H):JB x ops K so sH (fuel+1) listed l own H:=λhreg hle hk a w hh=>by
 refine⟨λh0=>(by rw[hr]at h0;cases h0),λk hk'=> ?_⟩
 rw[hr]at hk';simp at hk';subst hk';exact h1 hreg hle hk a w hh
theorem JB.two{j:Nat}(hr:Region.ready .any ops listed= [i,j])(h1:JOB x ops K so sH fuel listed i l own H)(h2:JOB x ops K so sH fuel listed j l own H):
 JB x ops K so sH (fuel+1) listed l own H:=λhreg hle hk a w hh=>by
 refine⟨λh0=>(by rw[hr]at h0;cases h0),λk hk'=> ?_⟩
 rw[hr]at hk';simp at hk';rcases hk' with rfl|rfl
 · exact h1 hreg hle hk a w hh
 · exact h2 hreg hle hk a w hh
theorem JOB.step{dst:Option Tmp}(ho:ops[i]? =some ⟨dst,op,ty,pos,aft,g⟩)(hg:guardYes ops l g)(hl:listed.setIfInBounds i true=listed')
    (h:∀K':Act→World→Prop,(∀l' own' H',Hle sH H'→Kept' so listed' own'→JB x ops K so sH fuel listed' l' own' H'→JN x K' l' own' H')→
      JL x ops (λe a w=>match e with| .normal=>K' a w|e=>onlyN K e a w) [⟨dst,op,ty,pos,aft,none⟩] l own H):
    JOB x ops K so sH fuel listed i l own H:=λhreg hle hk a w hh=>by
  subst hl
  have:=h (λa' w'=>SB so sH (listed.setIfInBounds i true) w'∧wpAT (Fw x.r) 0 x.P .any ops (onlyN K) (SB so sH) fuel (listed.setIfInBounds i true) a' w')
    (λl' own' H' hle' hk' hJ a' w' hh'=>⟨hk'.sb hle' hh',hJ hreg hle' hk' a' w' hh'⟩) a w hh
  simp only[wpLs,wanted_none,if_true]at this
  unfold wpOpIn
  simp only[ho]
  rw[if_pos (wanted_yes hh hg)]
  refine⟨λ_ _=>trivial,?_⟩
  have h2:=this.2
  have es:∀(ρ:Operand→Value),Oper.semAt (Fw x.r).round ρ ⟨dst,op,ty,pos,aft,g⟩=Oper.semAt (Fw x.r).round ρ ⟨dst,op,ty,pos,aft,none⟩:=λρ=>by
    unfold Oper.semAt;cases(Fw x.r).round<;>cases op<;>rfl
  rw[es]
  generalize (Oper.semAt (Fw x.r).round a.eval ⟨dst,op,ty,pos,aft,none⟩).run x.P w=r at*
  cases r with
  | ok y w'=>
    cases y<;>simp only[Oper.uponIn]at h2⊢<;>first|exact h2|exact⟨h2.1,CallsIn.mono h2.2 (λe w'' he=>by cases e<;>exact he)⟩|exact⟨h2.1,RoundIn.mono h2.2 (λe w'' he=>by cases e<;>exact he)⟩
  |halt y w'=>cases y<;>simp only[Oper.uponIn]at h2⊢<;>exact h2
theorem JB.gSplit{t:Nat}{b:Bool}(hb:lk l t=some (.bool b))(ht:b=true→JB x ops K so sH fuel listed ((t,.bool true)::l) own H)
 (hf:b=false→JB x ops K so sH fuel listed ((t,.bool false)::l) own H):JB x ops K so sH fuel listed l own H:=λhreg hle hk a w hh=>by
 cases b with
 |true=>exact ht rfl hreg hle hk a w (hh.set hb rfl)
 |false=>exact hf rfl hreg hle hk a w (hh.set hb rfl)
end
end Go.Ow
namespace Go.Ow
open Go.RowKit
variable{x:Cx}{ops:Array Oper}{Q:Exit→Act→World→Prop}{rest:List Oper}{l:Slots}{own:List Own}{H HF:Heaplet}
end Go.Ow
namespace Go.Ow
open Go.RowKit
structure Tab where
  shp:List (Nat×(Bool×Nat))
  fof:List (Nat×(Nat×Nat))
  zer:List (Nat×Value)
  plc:List (Nat×List (Nat×Nat))
def tl{β:Type}(i:Nat):List (Nat×β)→Option β
 |[]=>none
 |(k,v)::r=>bif Nat.beq k i then some v else tl i r
def tl2 (i j:Nat):List (Nat×(Nat×Nat))→Option Nat
 |[]=>none
 |(k,q,v)::r=>bif Nat.beq k i&&Nat.beq q j then some v else tl2 i j r
def Each{α:Type}(p:α→Prop):List α→Prop
 |[]=>True
 |a::r=>p a∧Each p r
structure Tab.Ok (tb:Tab) (P:Program):Prop where
  shp:Each (λe=>shapeOf P e.1=some e.2) tb.shp
  fof:Each (λe=>fieldOff P e.1 e.2.1=some e.2.2) tb.fof
  zer:Each (λe=>zeroOf P e.1=some e.2) tb.zer
  plc:Each (λe=>placesOf P e.1=some e.2) tb.plc
theorem tl_ok{β:Type}{p:Nat→β→Prop}{i:Nat}{v:β}:∀{l:List (Nat×β)},Each (λe=>p e.1 e.2) l→tl i l=some v→p i v
  |[],_,h=>by cases h
  | (k,u)::r,h,e=>by
    simp only[tl]at e
    cases hb:Nat.beq k i with
    |true=>rw[hb]at e;have:=Nat.eq_of_beq_eq_true hb;subst this;cases e;exact h.1
    |false=>rw[hb]at e;exact tl_ok h.2 e
theorem tl2_ok{p:Nat→Nat→Nat→Prop}{i j v:Nat}:∀{l:List (Nat×(Nat×Nat))},Each (λe=>p e.1 e.2.1 e.2.2) l→tl2 i j l=some v→p i j v
  |[],_,h=>by cases h
  | (k,q,u)::r,h,e=>by
    simp only[tl2]at e
    cases hb:Nat.beq k i with
    | true=>
      cases hc:Nat.beq q j with
      |true=>rw[hb,hc]at e;have:=Nat.eq_of_beq_eq_true hb;have:=Nat.eq_of_beq_eq_true hc;subst_vars;cases e;exact h.1
      |false=>rw[hb,hc]at e;exact tl2_ok h.2 e
    |false=>rw[hb]at e;exact tl2_ok h.2 e
def evs (l:Slots):List Operand→Option (List Value)
  |[]=>some []
  | o ::r=>match evo l o with
    | some v=>match evs l r with
      |some vs=>some (v::vs)
      |none=>none
    |none=>none
theorem evs_ok{l:Slots}:∀{os:List Operand} {vs:List Value},evs l os=some vs→os.mapM (evo l)=some vs
  |[],vs,h=>by simp[evs]at h;simp[h]
  | o ::r,vs,h=>by
    simp only[evs]at h
    split at h
    · rename_i v hv
      split at h
      · rename_i us hu
        cases h;simp[List.mapM_cons,hv,evs_ok hu]
      · cases h
    · cases h
def evp (l:Slots):List (Nat×Operand)→Option (List (Nat×Value))
  |[]=>some []
  | (k,o)::r=>match evo l o with
    | some v=>match evp l r with
      |some vs=>some ((k,v)::vs)
      |none=>none
    |none=>none
theorem evp_ok{l:Slots}:∀{os:List (Nat×Operand)} {vs:List (Nat×Value)},evp l os=some vs→os.mapM (λp=>(evo l p.2).map (λu=>(p.1,u)))=some vs
  |[],vs,h=>by simp[evp]at h;simp[h]
  | (k,o)::r,vs,h=>by
    simp only[evp]at h
    split at h
    · rename_i v hv
      split at h
      · rename_i us hu
        cases h;simp[List.mapM_cons,hv,evp_ok hu]
      · cases h
    · cases h
def spine{α β:Type}:List α→(List α→Option β)→Option β
 |[],k=>k []
 |a::r,k=>spine r (λr'=>k (a::r'))
theorem spine_eq{α β:Type}:∀(l:List α) (k:List α→Option β),spine l k=k l
 |[],_=>rfl
 |a::r,k=>by unfold spine;rw[spine_eq r]
def binI (op:BinOp)(m n:Int):Option Value:=match op with
 | .add=>some (.int .i64 (w64 (m+n)))
 | .sub=>some (.int .i64 (w64 (m-n)))
 | .mul=>some (.int .i64 (w64 (m*n)))
 | .lss=>some (.bool (decide (m<n)))
 | .leq=>some (.bool (decide (m≤n)))
 | .gtr=>some (.bool (decide (n<m)))
 | .geq=>some (.bool (decide (n≤m)))
 | .eql=>some (.bool (decide (m=n)))
 | .neq=>some (.bool (!decide (m=n)))
 |_=>none
def vop (tb :Tab)(own:List Own)(l:Slots)(hs:List Nat):Op→Option (Value×List Nat×List Nat×List Nat)
  | .move o=>match evo l o with
    |some v=>some (v,hs,[],[])
    |none=>none
  | .assign o=>match evo l o with
    |some v=>some (v,hs,[],[])
    |none=>none
  | .nilCheck o=>match evo l o with
    |some (.pointer (some a))=>some (.pointer (some a),hs,[],[])
    |_=>none
  | .pick c a b=>match evo l c with
    | some (.bool true)=>match evo l a with
      |some v=>some (v,hs,[],[])
      |none=>none
    | some (.bool false)=>match evo l b with
      |some v=>some (v,hs,[],[])
      |none=>none
    |_=>none
  | .unOp .not _ o=>match evo l o with
    |some (.bool b)=>some (.bool (!b),hs,[],[])
    |_=>none
  | .extract o i=>match evo l o with
    | some (.tuple vs)=>match vs.toList[i]? with
      |some v=>some (v,hs,[],[])
      |none=>none
    |_=>none
  | .binOp op _ a b _=>match evo l a with
    | some (.int .i64 m)=>match evo l b with
      | some (.int .i64 n)=>match binI op m n with
        |some v=>some (v,hs,[],[])
        |none=>none
      |_=>none
    |_=>none
  | .fieldAddr S o k=>match evo l o with
    | some (.pointer (some ⟨b,q,none⟩))=>match tl2 S k tb.fof with
      |some n=>some (.pointer (some ⟨b,q+n,none⟩),hs,[],[])
      |none=>none
    |_=>none
  | .load T o=>match evo l o with
    | some (.pointer (some ⟨b,q,none⟩))=>match hs with
      | i ::hs'=>match own[i]? with
        | some [(b',.cells cur t fr)]=>match tl T tb.shp with
          | some (false,_)=>match cur.toList[q]? with
            |some v=>some (v,hs',[b],[b'])
            |none=>none
          | some (true,n)=>spine ((cur.toList.drop q).take n) λvs=>
            bif Nat.beq vs.length n then some (.agg vs.toArray,hs',[b],[b'])else none
          |none=>none
        |_=>none
      |[]=>none
    |_=>none
  | .makeFunc fn fs cs=>match evs l fs.toList with
    | some vf=>match evs l cs.toList with
      |some vc=>some (.func fn vf.toArray vc.toArray,hs,[],[])
      |none=>none
    |none=>none
  | .build T parts=>match evp l parts.toList with
    | some vs=>match tl T tb.zer with
      | some z=>match tl T tb.plc with
        |some places=>bif vs.all (fitsP places z.cells.toList.length)then spine (setP places z.cells.toList vs) λcs=>some (.agg cs.toArray,hs,[],[])else none
        |none=>none
      |none=>none
    |none=>none
  |_=>none
theorem vop_noDefer{tb:Tab}{own:List Own}{l:Slots}{hs:List Nat}{op:Op}{r:Value×List Nat×List Nat×List Nat}(h:vop tb own l hs op=some r):noDefer op=true:=by
 cases op<;>first|rfl|(simp[vop]at h)
theorem vop_ok{x:Cx}{tb:Tab}(ht:tb.Ok x.P){own:List Own}{l:Slots}{H:Heaplet}{hs hs' e1 e2:List Nat}{op:Op}{ty:TypeId}{v:Value}
    (h:vop tb own l hs op=some (v,hs',e1,e2))(he:e1=e2):Runs x op ty l own H v:=by
  unfold vop at h
  split at h
  · split at h<;>first|cases h|skip
    rename_i hv;exact R.move hv
  · split at h<;>first|cases h|skip
    rename_i hv;exact R.assign hv
  · split at h<;>first|cases h|skip
    rename_i hv;exact R.nilCheck hv
  · split at h
    · rename_i hc;split at h<;>first|cases h|skip
      rename_i hv;exact R.pickT hc hv
    · rename_i hc;split at h<;>first|cases h|skip
      rename_i hv;exact R.pickF hc hv
    · cases h
  · split at h<;>first|cases h|skip
    rename_i hv;exact R.not hv
  · split at h
    · rename_i hv;split at h<;>first|cases h|skip
      rename_i hi;exact R.extract hv (by simpa using hi)
    · cases h
  · split at h
    · rename_i h1
      split at h
      · rename_i h2
        split at h
        · rename_i h3
          cases h
          unfold binI at h3
          split at h3<;>first|(cases h3;done)|skip
          · cases h3;exact R.add_i h1 h2
          · cases h3;exact R.sub_i h1 h2
          · cases h3;exact R.mul_i h1 h2
          · cases h3;exact R.lss_i h1 h2
          · cases h3;exact R.leq_i h1 h2
          · cases h3;exact R.gtr_i h1 h2
          · cases h3;exact R.geq_i h1 h2
          · cases h3;exact R.eql_i h1 h2
          · cases h3;exact R.neq_i h1 h2
        · cases h
      · cases h
    · cases h
  · split at h
    · rename_i h1
      split at h
      · rename_i h2
        cases h
        exact R.fa (tl2_ok (p:=λa b c=>fieldOff x.P a b=some c) ht.fof h2) h1
      · cases h
    · cases h
  · split at h
    · rename_i h1
      split at h
      · split at h
        · rename_i h2
          split at h
          · rename_i h3
            split at h
            · rename_i h4
              cases h
              have hb:=List.cons.inj he
              rw[←hb.1]at h2
              exact R.ldo _ (tl_ok (p:=λa b=>shapeOf x.P a=some b) ht.shp h3) h1 h2 h4
            · cases h
          · rename_i h3
            rw[spine_eq]at h
            cases hb:Nat.beq (List.length (List.take _ (List.drop _ _))) _ with
            | true=>
              rw[hb]at h
              cases h
              have hb':=List.cons.inj he
              rw[←hb'.1]at h2
              exact R.ldoN _ (tl_ok (p:=λa b=>shapeOf x.P a=some b) ht.shp h3) h1 h2 rfl (Nat.eq_of_beq_eq_true hb)
            |false=>rw[hb]at h;cases h
          · cases h
        · cases h
      · cases h
    · cases h
  · split at h
    · rename_i h1
      split at h
      · rename_i h2
        cases h
        exact R.func (evs_ok h1) (evs_ok h2)
      · cases h
    · cases h
  · split at h
    · rename_i h1
      split at h
      · rename_i h2
        split at h
        · rename_i h3
          cases hb:List.all _ (fitsP _ _)with
          | true=>
            rw[hb]at h
            rw[cond_true,spine_eq]at h
            cases h
            exact R.bldP (tl_ok (p:=λa b=>zeroOf x.P a=some b) ht.zer h2) (tl_ok (p:=λa b=>placesOf x.P a=some b) ht.plc h3) (evp_ok h1) hb rfl
          |false=>rw[hb]at h;cases h
        · cases h
      · cases h
    · cases h
  · cases h
inductive Cf where
  |c (c:Code)
  |l (ops:Array Oper) (rest:List Oper)
  |n (e:Exit)
inductive KK where
  |s (d:Code)
  |b (id:Nat)
  |k (K:Act→World→Prop)
@[reducible] def den (x:Cx):List KK→(Exit→Act→World→Prop)→(Exit→Act→World→Prop)
  |[],Q=>Q
  | .s d::ks,Q=>Exit.then (d.wpIn (Fw x.r) 0 x.P (den x ks Q)) (den x ks Q)
  | .b id::ks,Q=>Exit.inBlock id (den x ks Q)
  | .k K::ks,Q=>Exit.then K (den x ks Q)
structure RS where
  cf:Cf
  ks:List KK
  l:Slots
  o:List Own
  hs:List Nat
  e1:List Nat
  e2:List Nat
def Goal (x:Cx)(Q:Exit→Act→World→Prop)(H:Heaplet)(s:RS):Prop:=match s.cf with
 | .c c=>JC x c (den x s.ks Q) s.l s.o H
 | .l ops rest=>JL x ops (den x s.ks Q) rest s.l s.o H
 | .n e=>JN x (den x s.ks Q e) s.l s.o H
def setK{β:Type}:List Own→Nat→Own→(List Own→Option β)→Option β
 |[],_,_,_=>none
 |_::r,0,s,k=>k (s::r)
 |a::r,i+1,s,k=>setK r i s (λr'=>k (a::r'))
theorem setK_eq{β:Type}:∀{own:List Own} {i:Nat} {s:Own} {k:List Own→Option β} {r:β},setK own i s k=some r→k (own.set i s)=some r
 |[],_,_,_,_,h=>by cases h
 |_::_,0,_,_,_,h=>h
 |a::r,i+1,s,k,_,h=>setK_eq (own:=r) (i:=i) (k:=λr'=>k (a::r')) h
def mstep (tb : Tab)(N:Nat):RS→Option RS
  |⟨.c .skip,ks,l,o,hs,e1,e2⟩=>some ⟨.n .normal,ks,l,o,hs,e1,e2⟩
  |⟨.c .ret,ks,l,o,hs,e1,e2⟩=>some ⟨.n .ret,ks,l,o,hs,e1,e2⟩
  |⟨.c (.exit id),ks,l,o,hs,e1,e2⟩=>some ⟨.n (.exit id),ks,l,o,hs,e1,e2⟩
  |⟨.c (.seq c d),ks,l,o,hs,e1,e2⟩=>some ⟨.c c,.s d::ks,l,o,hs,e1,e2⟩
  |⟨.c (.block id c),ks,l,o,hs,e1,e2⟩=>some ⟨.c c,.b id::ks,l,o,hs,e1,e2⟩
  |⟨.c (.region _ ops false),ks,l,o,hs,e1,e2⟩=>some ⟨.l ops ops.toList,ks,l,o,hs,e1,e2⟩
  | ⟨.c (.cond c a b),ks,l,o,hs,e1,e2⟩=>match evo l c with
    |some (.bool true)=>some ⟨.c a,ks,l,o,hs,e1,e2⟩
    |some (.bool false)=>some ⟨.c b,ks,l,o,hs,e1,e2⟩
    |_=>none
  |⟨.n .normal,.s d::ks,l,o,hs,e1,e2⟩=>some ⟨.c d,ks,l,o,hs,e1,e2⟩
  |⟨.n .normal,.b _::ks,l,o,hs,e1,e2⟩=>some ⟨.n .normal,ks,l,o,hs,e1,e2⟩
  |⟨.n .ret,.s _::ks,l,o,hs,e1,e2⟩=>some ⟨.n .ret,ks,l,o,hs,e1,e2⟩
  |⟨.n .ret,.b _::ks,l,o,hs,e1,e2⟩=>some ⟨.n .ret,ks,l,o,hs,e1,e2⟩
  |⟨.n (.exit id),.s _::ks,l,o,hs,e1,e2⟩=>some ⟨.n (.exit id),ks,l,o,hs,e1,e2⟩
  |⟨.n .ret,.k _::ks,l,o,hs,e1,e2⟩=>some ⟨.n .ret,ks,l,o,hs,e1,e2⟩
  |⟨.n (.exit id),.k _::ks,l,o,hs,e1,e2⟩=>some ⟨.n (.exit id),ks,l,o,hs,e1,e2⟩
  |⟨.n (.exit id'),.b id::ks,l,o,hs,e1,e2⟩=>bif Nat.beq id' id then some ⟨.n .normal,ks,l,o,hs,e1,e2⟩else some ⟨.n (.exit id'),ks,l,o,hs,e1,e2⟩
  |⟨.l ops [],ks,l,o,hs,e1,e2⟩=>some ⟨.n .normal,ks,l,o,hs,e1,e2⟩
  | ⟨.l ops (⟨some d,op,ty,pos,aft,none⟩::rest),ks,l,o,hs,e1,e2⟩=>match vop tb o l hs op with
    |some (v,hs',f1,f2)=>bif Nat.blt d N then some ⟨.l ops rest,ks,(d,v)::l,o,hs',f1++e1,f2++e2⟩else none
    |none=>none
  | ⟨.l ops (⟨none,.store T p q,ty,pos,aft,none⟩::rest),ks,l,o,hs,e1,e2⟩=>match evo l p with
    | some (.pointer (some ⟨b,k,none⟩))=>match evo l q with
      | some v=>match hs with
        | i ::hs'=>match o[i]? with
          | some [(b',.cells cur t (0,0))]=>match tl T tb.shp with
            | some (_,n)=>bif Nat.beq v.cells.toList.length n&&(v.cells.toList.all (·.oneCell')&&Nat.ble (k+n) cur.toList.length)then
                spine (cur.toList.take k++v.cells.toList++cur.toList.drop (k+n)) λcs=>setK o i [(b',.cells cs.toArray t (0,0))] λo'=>some ⟨.l ops rest,ks,l,o',hs',b::e1,b'::e2⟩
              else none
            |none=>none
          |_=>none
        |[]=>none
      |none=>none
    |_=>none
  | ⟨.l ops (⟨dst,op,ty,pos,aft,some (j,b)⟩::rest),ks,l,o,hs,e1,e2⟩=>match ops.toList[j]? with
    | some oj=>match oj.dst with
      | some t=>match lk l t with
        | some (.bool true)=>bif b then some ⟨.l ops (⟨dst,op,ty,pos,aft,none⟩::rest),ks,l,o,hs,e1,e2⟩else match dst with
          |some d=>bif Nat.blt d N then some ⟨.l ops rest,ks,(d,undef)::l,o,hs,e1,e2⟩else none
          |none=>none
        | some (.bool false)=>bif b then(match dst with
          |some d=>bif Nat.blt d N then some ⟨.l ops rest,ks,(d,undef)::l,o,hs,e1,e2⟩else none
          |none=>none)else some ⟨.l ops (⟨dst,op,ty,pos,aft,none⟩::rest),ks,l,o,hs,e1,e2⟩
        | some (.tuple ⟨[]⟩)=>match dst with
          |some d=>bif Nat.blt d N then some ⟨.l ops rest,ks,(d,undef)::l,o,hs,e1,e2⟩else none
          |none=>none
        |_=>none
      |none=>none
    |none=>none
  |_=>none
theorem vop_len{tb:Tab}{own:List Own}{l:Slots}{hs hs' e1 e2:List Nat}{op:Op}{v:Value}(h:vop tb own l hs op=some (v,hs',e1,e2)):e1.length=e2.length:=by
  cases op with
  | load T o=>
    simp only[vop]at h
    repeat' (first|(split at h)|(cases h;done))
    all_goals first|(cases h;rfl)|(cases h;done)|skip
    rw[spine_eq]at h
    cases hb:Nat.beq (List.length (List.take _ (List.drop _ _))) _<;>rw[hb]at h<;>cases h
    rfl
  | build T ps=>
    simp only[vop]at h
    repeat' (first|(split at h)|(cases h;done))
    all_goals first|(cases h;done)|skip
    cases hb:List.all _ (fitsP _ _)with
    |true=>rw[hb]at h;rw[cond_true,spine_eq]at h;cases h;rfl
    |false=>rw[hb]at h;cases h
  | unOp q t p=>
    cases q<;>simp only[vop]at h
    all_goals first
      |(cases h;done)
      | (split at h
         · cases h;rfl
         · cases h)
  | _=>
    simp only[vop]at h
    repeat' (first|(split at h)|(cases h;done))
    all_goals first|(cases h;rfl)|(cases h;done)
theorem mstep_ok{x:Cx}{tb:Tab}(ht:tb.Ok x.P){Q:Exit→Act→World→Prop}{H:Heaplet}{s s':RS}(h:mstep tb x.n s=some s')(he:s'.e1=s'.e2):
    s.e1=s.e2∧(Goal x Q H s'→Goal x Q H s):=by
  unfold mstep at h
  split at h
  · cases h;exact⟨he,JC.skip⟩
  · cases h;exact⟨he,JC.ret⟩
  · cases h;exact⟨he,JC.exit⟩
  · cases h;exact⟨he,JC.seq⟩
  · cases h;exact⟨he,JC.block⟩
  · cases h;exact⟨he,JC.region⟩
  · split at h
    · rename_i hc;cases h;exact⟨he,JC.condT hc⟩
    · rename_i hc;cases h;exact⟨he,JC.condF hc⟩
    · cases h
  · cases h;exact⟨he,JN.next⟩
  · cases h;exact⟨he,JN.blkN⟩
  · cases h;exact⟨he,JN.passR⟩
  · cases h;exact⟨he,JN.blkR⟩
  · cases h;exact⟨he,JN.passX⟩
  · cases h;exact⟨he,JN.passR⟩
  · cases h;exact⟨he,JN.passX⟩
  · rename_i id' id ks l o hs e1 e2
    cases hb:Nat.beq id' id with
    |true=>rw[hb]at h;cases h;have:=Nat.eq_of_beq_eq_true hb;subst this;exact⟨he,JN.exitSame⟩
    |false=>rw[hb]at h;cases h;exact⟨he,JN.exitOther hb⟩
  · cases h;exact⟨he,JL.nil⟩
  · split at h
    · rename_i hv
      cases hb:Nat.blt _ x.n with
      | true=>
        rw[hb]at h;cases h
        have hl:=vop_len hv
        obtain⟨h1,h2⟩:=List.append_inj he hl
        exact⟨h2,λg=>JL.val hb (vop_noDefer hv) (vop_ok ht hv h1) g⟩
      |false=>rw[hb]at h;cases h
    · cases h
  · split at h
    · rename_i h1
      split at h
      · rename_i h2
        split at h
        · split at h
          · rename_i h3
            split at h
            · rename_i h4
              cases hb:(Nat.beq _ _&&(List.all _ (λz:Value=>z.oneCell')&&Nat.ble _ _))with
              | true=>
                rw[hb,cond_true,spine_eq]at h
                have h5:=setK_eq h
                cases h5
                obtain⟨c1,c2⟩:=List.cons.inj he
                rw[←c1]at h3
                rw[Bool.and_eq_true,Bool.and_eq_true]at hb
                refine⟨c2,λg=>JL.store _ (tl_ok (p:=λa b=>shapeOf x.P a=some b) ht.shp h4) h1 h2 h3 (by simpa using Nat.eq_of_beq_eq_true hb.1) hb.2.1 (by simpa using Nat.le_of_ble_eq_true hb.2.2) ?_⟩
                rw[c1];exact g
              |false=>rw[hb]at h;cases h
            · cases h
          · cases h
        · cases h
      · cases h
    · cases h
  · split at h
    · rename_i hj
      split at h
      · rename_i hd
        split at h
        · rename_i hk
          rename_i b _ _ _ _ _ _ _ _ _ _ _ _
          cases b with
          |true=>cases h;exact⟨he,JL.gYes (by simpa using hj) hd hk⟩
          | false=>
            rw[cond_false]at h
            split at h<;>first|(cases h;done)|skip
            cases hb:Nat.blt _ x.n with
            |true=>rw[hb]at h;cases h;exact⟨he,JL.gNo (by simpa using hj) hd hk rfl hb⟩
            |false=>rw[hb]at h;cases h
        · rename_i hk
          rename_i b _ _ _ _ _ _ _ _ _ _ _ _
          cases b with
          |false=>cases h;exact⟨he,JL.gYes (by simpa using hj) hd hk⟩
          | true=>
            rw[cond_true]at h
            split at h<;>first|(cases h;done)|skip
            cases hb:Nat.blt _ x.n with
            |true=>rw[hb]at h;cases h;exact⟨he,JL.gNo (by simpa using hj) hd hk rfl hb⟩
            |false=>rw[hb]at h;cases h
        · rename_i hk
          split at h<;>first|(cases h;done)|skip
          cases hb:Nat.blt _ x.n with
          |true=>rw[hb]at h;cases h;exact⟨he,JL.gNoU (by simpa using hj) hd hk hb⟩
          |false=>rw[hb]at h;cases h
        · cases h
      · cases h
    · cases h
  · cases h
def mrun (tb:Tab)(N:Nat):Nat→RS→Option RS
  |0,s=>some s
  | k+1,s=>match mstep tb N s with
    |some s'=>mrun tb N k s'
    |none=>none
theorem mrun_ok{x:Cx}{tb:Tab}(ht:tb.Ok x.P){Q:Exit→Act→World→Prop}{H:Heaplet}:∀{k:Nat} {s s':RS},mrun tb x.n k s=some s'→s'.e1=s'.e2→
    s.e1=s.e2∧(Goal x Q H s'→Goal x Q H s)
  |0,s,s',h,he=>by cases h;exact⟨he,id⟩
  | k +1,s,s',h,he=>by
    simp only[mrun]at h
    split at h
    · rename_i h1
      obtain⟨e1,g1⟩:=mrun_ok ht (k:=k) h he
      obtain⟨e2,g2⟩:=mstep_ok ht (H:=H) (Q:=Q) h1 e1
      exact⟨e2,λg=>g2 (g1 g)⟩
    · cases h
section runs
variable{x:Cx}{tb:Tab}{Q:Exit→Act→World→Prop}{l l':Slots}{own own':List Own}{H:Heaplet}{ks':List KK}{E:List Nat}{c c':Code}{ops ops':Array Oper}{rest rest':List Oper}{e e':Exit}
variable{d0 d1 d2:Code}{i0 i1 i2:Nat}{k0 k1 k2:Act→World→Prop}
theorem Run.cc (hs:List Nat)(k:Nat)(ht:tb.Ok x.P)(h:mrun tb x.n k ⟨.c c,[],l,own,hs,[],[]⟩=some ⟨.c c',ks',l',own',[],E,E⟩)(g:JC x c' (den x ks' Q) l' own' H):JC x c Q l own H:=(mrun_ok (Q:=Q) ht h rfl).2 g
theorem Run.ccz (hs:List Nat)(k:Nat)(ht:tb.Ok x.P)(h:mrun tb x.n k ⟨.c c,[],l,own,hs,[],[]⟩=some ⟨.c c',[],l',own',[],E,E⟩)(g:JC x c' Q l' own' H):JC x c Q l own H:=(mrun_ok (Q:=Q) ht h rfl).2 g
theorem Run.cl (hs:List Nat)(k:Nat)(ht:tb.Ok x.P)(h:mrun tb x.n k ⟨.c c,[],l,own,hs,[],[]⟩=some ⟨.l ops' rest',ks',l',own',[],E,E⟩)(g:JL x ops' (den x ks' Q) rest' l' own' H):JC x c Q l own H:=(mrun_ok (Q:=Q) ht h rfl).2 g
theorem Run.clz (hs:List Nat)(k:Nat)(ht:tb.Ok x.P)(h:mrun tb x.n k ⟨.c c,[],l,own,hs,[],[]⟩=some ⟨.l ops' rest',[],l',own',[],E,E⟩)(g:JL x ops' Q rest' l' own' H):JC x c Q l own H:=(mrun_ok (Q:=Q) ht h rfl).2 g
theorem Run.cnz (hs:List Nat)(k:Nat)(ht:tb.Ok x.P)(h:mrun tb x.n k ⟨.c c,[],l,own,hs,[],[]⟩=some ⟨.n e',[],l',own',[],E,E⟩)(g:JN x (Q e') l' own' H):JC x c Q l own H:=(mrun_ok (Q:=Q) ht h rfl).2 g
theorem Run.llz (hs:List Nat)(k:Nat)(ht:tb.Ok x.P)(h:mrun tb x.n k ⟨.l ops rest,[],l,own,hs,[],[]⟩=some ⟨.l ops' rest',[],l',own',[],E,E⟩)(g:JL x ops' Q rest' l' own' H):JL x ops Q rest l own H:=(mrun_ok (Q:=Q) ht h rfl).2 g
theorem Run.lnz (hs:List Nat)(k:Nat)(ht:tb.Ok x.P)(h:mrun tb x.n k ⟨.l ops rest,[],l,own,hs,[],[]⟩=some ⟨.n e',[],l',own',[],E,E⟩)(g:JN x (Q e') l' own' H):JL x ops Q rest l own H:=(mrun_ok (Q:=Q) ht h rfl).2 g
theorem Run.cc_s (hs:List Nat)(k:Nat)(ht:tb.Ok x.P)(h:mrun tb x.n k ⟨.c c,[.s d0],l,own,hs,[],[]⟩=some ⟨.c c',ks',l',own',[],E,E⟩)(g:JC x c' (den x ks' Q) l' own' H):JC x c (Exit.then (d0.wpIn (Fw x.r) 0 x.P Q) Q) l own H:=(mrun_ok (Q:=Q) ht h rfl).2 g
theorem Run.ccz_s (hs:List Nat)(k:Nat)(ht:tb.Ok x.P)(h:mrun tb x.n k ⟨.c c,[.s d0],l,own,hs,[],[]⟩=some ⟨.c c',[],l',own',[],E,E⟩)(g:JC x c' Q l' own' H):JC x c (Exit.then (d0.wpIn (Fw x.r) 0 x.P Q) Q) l own H:=(mrun_ok (Q:=Q) ht h rfl).2 g
theorem Run.cl_s (hs:List Nat)(k:Nat)(ht:tb.Ok x.P)(h:mrun tb x.n k ⟨.c c,[.s d0],l,own,hs,[],[]⟩=some ⟨.l ops' rest',ks',l',own',[],E,E⟩)(g:JL x ops' (den x ks' Q) rest' l' own' H):JC x c (Exit.then (d0.wpIn (Fw x.r) 0 x.P Q) Q) l own H:=(mrun_ok (Q:=Q) ht h rfl).2 g
theorem Run.clz_s (hs:List Nat)(k:Nat)(ht:tb.Ok x.P)(h:mrun tb x.n k ⟨.c c,[.s d0],l,own,hs,[],[]⟩=some ⟨.l ops' rest',[],l',own',[],E,E⟩)(g:JL x ops' Q rest' l' own' H):JC x c (Exit.then (d0.wpIn (Fw x.r) 0 x.P Q) Q) l own H:=(mrun_ok (Q:=Q) ht h rfl).2 g
theorem Run.cnz_s (hs:List Nat)(k:Nat)(ht:tb.Ok x.P)(h:mrun tb x.n k ⟨.c c,[.s d0],l,own,hs,[],[]⟩=some ⟨.n e',[],l',own',[],E,E⟩)(g:JN x (Q e') l' own' H):JC x c (Exit.then (d0.wpIn (Fw x.r) 0 x.P Q) Q) l own H:=(mrun_ok (Q:=Q) ht h rfl).2 g
theorem Run.lc_s (hs:List Nat)(k:Nat)(ht:tb.Ok x.P)(h:mrun tb x.n k ⟨.l ops rest,[.s d0],l,own,hs,[],[]⟩=some ⟨.c c',ks',l',own',[],E,E⟩)(g:JC x c' (den x ks' Q) l' own' H):JL x ops (Exit.then (d0.wpIn (Fw x.r) 0 x.P Q) Q) rest l own H:=(mrun_ok (Q:=Q) ht h rfl).2 g
theorem Run.lcz_s (hs:List Nat)(k:Nat)(ht:tb.Ok x.P)(h:mrun tb x.n k ⟨.l ops rest,[.s d0],l,own,hs,[],[]⟩=some ⟨.c c',[],l',own',[],E,E⟩)(g:JC x c' Q l' own' H):JL x ops (Exit.then (d0.wpIn (Fw x.r) 0 x.P Q) Q) rest l own H:=(mrun_ok (Q:=Q) ht h rfl).2 g
theorem Run.ll_s (hs:List Nat)(k:Nat)(ht:tb.Ok x.P)(h:mrun tb x.n k ⟨.l ops rest,[.s d0],l,own,hs,[],[]⟩=some ⟨.l ops' rest',ks',l',own',[],E,E⟩)(g:JL x ops' (den x ks' Q) rest' l' own' H):JL x ops (Exit.then (d0.wpIn (Fw x.r) 0 x.P Q) Q) rest l own H:=(mrun_ok (Q:=Q) ht h rfl).2 g
theorem Run.llz_s (hs:List Nat)(k:Nat)(ht:tb.Ok x.P)(h:mrun tb x.n k ⟨.l ops rest,[.s d0],l,own,hs,[],[]⟩=some ⟨.l ops' rest',[],l',own',[],E,E⟩)(g:JL x ops' Q rest' l' own' H):JL x ops (Exit.then (d0.wpIn (Fw x.r) 0 x.P Q) Q) rest l own H:=(mrun_ok (Q:=Q) ht h rfl).2 g
theorem Run.lnz_s (hs:List Nat)(k:Nat)(ht:tb.Ok x.P)(h:mrun tb x.n k ⟨.l ops rest,[.s d0],l,own,hs,[],[]⟩=some ⟨.n e',[],l',own',[],E,E⟩)(g:JN x (Q e') l' own' H):JL x ops (Exit.then (d0.wpIn (Fw x.r) 0 x.P Q) Q) rest l own H:=(mrun_ok (Q:=Q) ht h rfl).2 g
theorem Run.nc_s (hs:List Nat)(k:Nat)(ht:tb.Ok x.P)(h:mrun tb x.n k ⟨.n e,[.s d0],l,own,hs,[],[]⟩=some ⟨.c c',ks',l',own',[],E,E⟩)(g:JC x c' (den x ks' Q) l' own' H):JN x ((Exit.then (d0.wpIn (Fw x.r) 0 x.P Q) Q) e) l own H:=(mrun_ok (Q:=Q) ht h rfl).2 g
theorem Run.ncz_s (hs:List Nat)(k:Nat)(ht:tb.Ok x.P)(h:mrun tb x.n k ⟨.n e,[.s d0],l,own,hs,[],[]⟩=some ⟨.c c',[],l',own',[],E,E⟩)(g:JC x c' Q l' own' H):JN x ((Exit.then (d0.wpIn (Fw x.r) 0 x.P Q) Q) e) l own H:=(mrun_ok (Q:=Q) ht h rfl).2 g
theorem Run.nl_s (hs:List Nat)(k:Nat)(ht:tb.Ok x.P)(h:mrun tb x.n k ⟨.n e,[.s d0],l,own,hs,[],[]⟩=some ⟨.l ops' rest',ks',l',own',[],E,E⟩)(g:JL x ops' (den x ks' Q) rest' l' own' H):JN x ((Exit.then (d0.wpIn (Fw x.r) 0 x.P Q) Q) e) l own H:=(mrun_ok (Q:=Q) ht h rfl).2 g
theorem Run.nlz_s (hs:List Nat)(k:Nat)(ht:tb.Ok x.P)(h:mrun tb x.n k ⟨.n e,[.s d0],l,own,hs,[],[]⟩=some ⟨.l ops' rest',[],l',own',[],E,E⟩)(g:JL x ops' Q rest' l' own' H):JN x ((Exit.then (d0.wpIn (Fw x.r) 0 x.P Q) Q) e) l own H:=(mrun_ok (Q:=Q) ht h rfl).2 g
theorem Run.nnz_s (hs:List Nat)(k:Nat)(ht:tb.Ok x.P)(h:mrun tb x.n k ⟨.n e,[.s d0],l,own,hs,[],[]⟩=some ⟨.n e',[],l',own',[],E,E⟩)(g:JN x (Q e') l' own' H):JN x ((Exit.then (d0.wpIn (Fw x.r) 0 x.P Q) Q) e) l own H:=(mrun_ok (Q:=Q) ht h rfl).2 g
theorem Run.cnz_k (hs:List Nat)(k:Nat)(ht:tb.Ok x.P)(h:mrun tb x.n k ⟨.c c,[.k k0],l,own,hs,[],[]⟩=some ⟨.n e',[],l',own',[],E,E⟩)(g:JN x (Q e') l' own' H):JC x c (Exit.then k0 Q) l own H:=(mrun_ok (Q:=Q) ht h rfl).2 g
theorem Run.cnz_kb (hs:List Nat)(k:Nat)(ht:tb.Ok x.P)(h:mrun tb x.n k ⟨.c c,[.k k0,.b i1],l,own,hs,[],[]⟩=some ⟨.n e',[],l',own',[],E,E⟩)(g:JN x (Q e') l' own' H):JC x c (Exit.then k0 (Exit.inBlock i1 Q)) l own H:=(mrun_ok (Q:=Q) ht h rfl).2 g
theorem Run.nnz_kb (hs:List Nat)(k:Nat)(ht:tb.Ok x.P)(h:mrun tb x.n k ⟨.n e,[.k k0,.b i1],l,own,hs,[],[]⟩=some ⟨.n e',[],l',own',[],E,E⟩)(g:JN x (Q e') l' own' H):JN x ((Exit.then k0 (Exit.inBlock i1 Q)) e) l own H:=(mrun_ok (Q:=Q) ht h rfl).2 g
theorem Run.cnz_sk (hs:List Nat)(k:Nat)(ht:tb.Ok x.P)(h:mrun tb x.n k ⟨.c c,[.s d0,.k k1],l,own,hs,[],[]⟩=some ⟨.n e',[],l',own',[],E,E⟩)(g:JN x (Q e') l' own' H):JC x c (Exit.then (d0.wpIn (Fw x.r) 0 x.P (Exit.then k1 Q)) (Exit.then k1 Q)) l own H:=(mrun_ok (Q:=Q) ht h rfl).2 g
theorem Run.lnz_sk (hs:List Nat)(k:Nat)(ht:tb.Ok x.P)(h:mrun tb x.n k ⟨.l ops rest,[.s d0,.k k1],l,own,hs,[],[]⟩=some ⟨.n e',[],l',own',[],E,E⟩)(g:JN x (Q e') l' own' H):JL x ops (Exit.then (d0.wpIn (Fw x.r) 0 x.P (Exit.then k1 Q)) (Exit.then k1 Q)) rest l own H:=(mrun_ok (Q:=Q) ht h rfl).2 g
theorem Run.cc_bs (hs:List Nat)(k:Nat)(ht:tb.Ok x.P)(h:mrun tb x.n k ⟨.c c,[.b i0,.s d1],l,own,hs,[],[]⟩=some ⟨.c c',ks',l',own',[],E,E⟩)(g:JC x c' (den x ks' Q) l' own' H):JC x c (Exit.inBlock i0 (Exit.then (d1.wpIn (Fw x.r) 0 x.P Q) Q)) l own H:=(mrun_ok (Q:=Q) ht h rfl).2 g
theorem Run.cl_bs (hs:List Nat)(k:Nat)(ht:tb.Ok x.P)(h:mrun tb x.n k ⟨.c c,[.b i0,.s d1],l,own,hs,[],[]⟩=some ⟨.l ops' rest',ks',l',own',[],E,E⟩)(g:JL x ops' (den x ks' Q) rest' l' own' H):JC x c (Exit.inBlock i0 (Exit.then (d1.wpIn (Fw x.r) 0 x.P Q) Q)) l own H:=(mrun_ok (Q:=Q) ht h rfl).2 g
theorem Run.clz_bs (hs:List Nat)(k:Nat)(ht:tb.Ok x.P)(h:mrun tb x.n k ⟨.c c,[.b i0,.s d1],l,own,hs,[],[]⟩=some ⟨.l ops' rest',[],l',own',[],E,E⟩)(g:JL x ops' Q rest' l' own' H):JC x c (Exit.inBlock i0 (Exit.then (d1.wpIn (Fw x.r) 0 x.P Q) Q)) l own H:=(mrun_ok (Q:=Q) ht h rfl).2 g
theorem Run.cnz_bs (hs:List Nat)(k:Nat)(ht:tb.Ok x.P)(h:mrun tb x.n k ⟨.c c,[.b i0,.s d1],l,own,hs,[],[]⟩=some ⟨.n e',[],l',own',[],E,E⟩)(g:JN x (Q e') l' own' H):JC x c (Exit.inBlock i0 (Exit.then (d1.wpIn (Fw x.r) 0 x.P Q) Q)) l own H:=(mrun_ok (Q:=Q) ht h rfl).2 g
theorem Run.llz_bs (hs:List Nat)(k:Nat)(ht:tb.Ok x.P)(h:mrun tb x.n k ⟨.l ops rest,[.b i0,.s d1],l,own,hs,[],[]⟩=some ⟨.l ops' rest',[],l',own',[],E,E⟩)(g:JL x ops' Q rest' l' own' H):JL x ops (Exit.inBlock i0 (Exit.then (d1.wpIn (Fw x.r) 0 x.P Q) Q)) rest l own H:=(mrun_ok (Q:=Q) ht h rfl).2 g
theorem Run.lnz_bs (hs:List Nat)(k:Nat)(ht:tb.Ok x.P)(h:mrun tb x.n k ⟨.l ops rest,[.b i0,.s d1],l,own,hs,[],[]⟩=some ⟨.n e',[],l',own',[],E,E⟩)(g:JN x (Q e') l' own' H):JL x ops (Exit.inBlock i0 (Exit.then (d1.wpIn (Fw x.r) 0 x.P Q) Q)) rest l own H:=(mrun_ok (Q:=Q) ht h rfl).2 g
theorem Run.nl_bs (hs:List Nat)(k:Nat)(ht:tb.Ok x.P)(h:mrun tb x.n k ⟨.n e,[.b i0,.s d1],l,own,hs,[],[]⟩=some ⟨.l ops' rest',ks',l',own',[],E,E⟩)(g:JL x ops' (den x ks' Q) rest' l' own' H):JN x ((Exit.inBlock i0 (Exit.then (d1.wpIn (Fw x.r) 0 x.P Q) Q)) e) l own H:=(mrun_ok (Q:=Q) ht h rfl).2 g
theorem Run.nlz_bs (hs:List Nat)(k:Nat)(ht:tb.Ok x.P)(h:mrun tb x.n k ⟨.n e,[.b i0,.s d1],l,own,hs,[],[]⟩=some ⟨.l ops' rest',[],l',own',[],E,E⟩)(g:JL x ops' Q rest' l' own' H):JN x ((Exit.inBlock i0 (Exit.then (d1.wpIn (Fw x.r) 0 x.P Q) Q)) e) l own H:=(mrun_ok (Q:=Q) ht h rfl).2 g
theorem Run.nnz_bs (hs:List Nat)(k:Nat)(ht:tb.Ok x.P)(h:mrun tb x.n k ⟨.n e,[.b i0,.s d1],l,own,hs,[],[]⟩=some ⟨.n e',[],l',own',[],E,E⟩)(g:JN x (Q e') l' own' H):JN x ((Exit.inBlock i0 (Exit.then (d1.wpIn (Fw x.r) 0 x.P Q) Q)) e) l own H:=(mrun_ok (Q:=Q) ht h rfl).2 g
theorem Run.cnz_kk (hs:List Nat)(k:Nat)(ht:tb.Ok x.P)(h:mrun tb x.n k ⟨.c c,[.k k0,.k k1],l,own,hs,[],[]⟩=some ⟨.n e',[],l',own',[],E,E⟩)(g:JN x (Q e') l' own' H):JC x c (Exit.then k0 (Exit.then k1 Q)) l own H:=(mrun_ok (Q:=Q) ht h rfl).2 g
theorem Run.nnz_kk (hs:List Nat)(k:Nat)(ht:tb.Ok x.P)(h:mrun tb x.n k ⟨.n e,[.k k0,.k k1],l,own,hs,[],[]⟩=some ⟨.n e',[],l',own',[],E,E⟩)(g:JN x (Q e') l' own' H):JN x ((Exit.then k0 (Exit.then k1 Q)) e) l own H:=(mrun_ok (Q:=Q) ht h rfl).2 g
theorem Run.cnz_bk (hs:List Nat)(k:Nat)(ht:tb.Ok x.P)(h:mrun tb x.n k ⟨.c c,[.b i0,.k k1],l,own,hs,[],[]⟩=some ⟨.n e',[],l',own',[],E,E⟩)(g:JN x (Q e') l' own' H):JC x c (Exit.inBlock i0 (Exit.then k1 Q)) l own H:=(mrun_ok (Q:=Q) ht h rfl).2 g
theorem Run.lnz_b (hs:List Nat)(k:Nat)(ht:tb.Ok x.P)(h:mrun tb x.n k ⟨.l ops rest,[.b i0],l,own,hs,[],[]⟩=some ⟨.n e',[],l',own',[],E,E⟩)(g:JN x (Q e') l' own' H):JL x ops (Exit.inBlock i0 Q) rest l own H:=(mrun_ok (Q:=Q) ht h rfl).2 g
theorem Run.lnz_sbk (hs:List Nat)(k:Nat)(ht:tb.Ok x.P)(h:mrun tb x.n k ⟨.l ops rest,[.s d0,.b i1,.k k2],l,own,hs,[],[]⟩=some ⟨.n e',[],l',own',[],E,E⟩)(g:JN x (Q e') l' own' H):JL x ops (Exit.then (d0.wpIn (Fw x.r) 0 x.P (Exit.inBlock i1 (Exit.then k2 Q))) (Exit.inBlock i1 (Exit.then k2 Q))) rest l own H:=(mrun_ok (Q:=Q) ht h rfl).2 g
theorem Run.nnz_sbk (hs:List Nat)(k:Nat)(ht:tb.Ok x.P)(h:mrun tb x.n k ⟨.n e,[.s d0,.b i1,.k k2],l,own,hs,[],[]⟩=some ⟨.n e',[],l',own',[],E,E⟩)(g:JN x (Q e') l' own' H):JN x ((Exit.then (d0.wpIn (Fw x.r) 0 x.P (Exit.inBlock i1 (Exit.then k2 Q))) (Exit.inBlock i1 (Exit.then k2 Q))) e) l own H:=(mrun_ok (Q:=Q) ht h rfl).2 g
theorem Run.llz_sbs (hs:List Nat)(k:Nat)(ht:tb.Ok x.P)(h:mrun tb x.n k ⟨.l ops rest,[.s d0,.b i1,.s d2],l,own,hs,[],[]⟩=some ⟨.l ops' rest',[],l',own',[],E,E⟩)(g:JL x ops' Q rest' l' own' H):JL x ops (Exit.then (d0.wpIn (Fw x.r) 0 x.P (Exit.inBlock i1 (Exit.then (d2.wpIn (Fw x.r) 0 x.P Q) Q))) (Exit.inBlock i1 (Exit.then (d2.wpIn (Fw x.r) 0 x.P Q) Q))) rest l own H:=(mrun_ok (Q:=Q) ht h rfl).2 g
theorem Run.cnz_kkb (hs:List Nat)(k:Nat)(ht:tb.Ok x.P)(h:mrun tb x.n k ⟨.c c,[.k k0,.k k1,.b i2],l,own,hs,[],[]⟩=some ⟨.n e',[],l',own',[],E,E⟩)(g:JN x (Q e') l' own' H):JC x c (Exit.then k0 (Exit.then k1 (Exit.inBlock i2 Q))) l own H:=(mrun_ok (Q:=Q) ht h rfl).2 g
theorem Run.nnz_kkb (hs:List Nat)(k:Nat)(ht:tb.Ok x.P)(h:mrun tb x.n k ⟨.n e,[.k k0,.k k1,.b i2],l,own,hs,[],[]⟩=some ⟨.n e',[],l',own',[],E,E⟩)(g:JN x (Q e') l' own' H):JN x ((Exit.then k0 (Exit.then k1 (Exit.inBlock i2 Q))) e) l own H:=(mrun_ok (Q:=Q) ht h rfl).2 g
end runs
end Go.Ow
