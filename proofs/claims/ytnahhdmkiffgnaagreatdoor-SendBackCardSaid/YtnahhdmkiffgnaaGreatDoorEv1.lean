import Derived.Test.YtnahhdmkiffgnaaGreatDoorOwMf
/-
  What is proved here: a function without arguments whose result is known, by value, is computed at once: its result is laid as memory that is only read.
-/
set_option linter.unusedSimpArgs false
set_option linter.unusedVariables false
namespace Go.Ev
open Go Go.Ow Go.RowKit
variable{P:Program}{m:Mp}{h:Hp}{S:Nat→Prop}{w0 w:World}
inductive DV where
  |v (x:Value)
  |s (n sz:Nat) (cs:List DV)
inductive TV where
  |a (cs:List DV)
  |d (x:DV)
noncomputable section
variable{β:Type}
def lyV (d:DV):Hp→(Value→Hp→Option β)→Option β:=
  DV.rec (motive_1:=λ_=>Hp→(Value→Hp→Option β)→Option β) (motive_2:=λ_=>Hp→(List Value→Hp→Option β)→Option β)
    (λx h k=>Bool.rec none (k x h) (flat1 x)) (λn sz _ ih h k=>ih h λvs h=>fN (Nat.mul n sz) λq=>Bool.rec none (h.push (.im q vs sz) λb h=>k (.slice (some ⟨b,0,none⟩) n UNK) h) (Nat.beq vs.length q))
    (λh k=>k [] h) (λ_ _ ih ihs h k=>ih h λv h=>ihs h λvs h=>k (v::vs) h) d
def lyVs (ds:List DV):Hp→(List Value→Hp→Option β)→Option β:=
  DV.rec_1 (motive_1:=λ_=>Hp→(Value→Hp→Option β)→Option β) (motive_2:=λ_=>Hp→(List Value→Hp→Option β)→Option β)
    (λx h k=>Bool.rec none (k x h) (flat1 x)) (λn sz _ ih h k=>ih h λvs h=>fN (Nat.mul n sz) λq=>Bool.rec none (h.push (.im q vs sz) λb h=>k (.slice (some ⟨b,0,none⟩) n UNK) h) (Nat.beq vs.length q))
    (λh k=>k [] h) (λ_ _ ih ihs h k=>ih h λv h=>ihs h λvs h=>k (v::vs) h) ds
def lyT1 (t:TV)(h:Hp)(k:Value→Hp→Option β):Option β:=TV.rec (λcs=>lyVs cs h λus h=>k (.agg ⟨us⟩) h) (λx=>lyV x h k) t
def lyTs (l:List TV):Hp→(List Value→Hp→Option β)→Option β:=List.rec (λh k=>k [] h) (λt _ ih h k=>lyT1 t h λv h=>ih h λvs h=>k (v::vs) h) l
def nK (T:List TV):Phi:=λvs h=>List.rec (lyTs T h λus h=>some (.tuple ⟨us⟩,h)) (λ_ _ _=>none) vs
def szB (P:Program)(h:Hp)(b:Nat):Option Nat:=oB (h.get b) λbl=>Blk.rec (λ_ _ t=>szT P t) (λ_ _ _ z=>some z) (λ_ _ z=>some z) (λ_=>none) (λ_ _ _ _ _ _ _ _ _=>none) bl
def rdVl (f:Value→(DV→Option β)→Option β)(l:List Value)(k:List DV→Option β):Option β:=List.rec (λk=>k []) (λc _ ih k=>f c λd=>ih λds=>k (d::ds)) l k
def szO (P:Program)(h:Hp)(b:Nat):Option Nat:=oB (h.get b) λbl=>Blk.rec (λ_ _ t=>szT P t) (λ_ _ _ z=>some z) (λ_ _ _=>none) (λ_=>none) (λ_ _ _ _ _ _ _ _ _=>none) bl
def rdV1 (z:Nat→Option Nat)(h:Hp)(f:Value→(DV→Option β)→Option β)(v:Value)(k:DV→Option β):Option β:=match v with
  | .slice (some a) _ _=>oB (z a.block) λsz=>rdS h v sz λn cs=>rdVl f cs λds=>k (.s n sz ds)
  |_=>Bool.rec none (k (.v v)) (flat1 v)
def rdV (z:Nat→Option Nat)(h:Hp)(n:Nat):Value→(DV→Option β)→Option β:=Nat.rec (λv k=>Bool.rec none (k (.v v)) (flat1 v)) (λ_ ih v k=>rdV1 z h ih v k) n
def rdT1 (z:Nat→Option Nat)(h:Hp)(v:Value)(k:TV→Option β):Option β:=match v with
  | .agg ⟨cs⟩=>rdVl (rdV z h 4) cs λds=>k (.a ds)
  |_=>rdV z h 4 v λd=>k (.d d)
def rdTs (z:Nat→Option Nat)(h:Hp)(l:List Value)(k:List TV→Option β):Option β:=List.rec (λk=>k []) (λv _ ih k=>rdT1 z h v λt=>ih λts=>k (t::ts)) l k
def rdRv (z:Nat→Option Nat)(h:Hp)(v:Value):Option (List TV):=match v with
  | .tuple ⟨us⟩=>rdTs z h us some
  |_=>none
def rdR (P:Program)(r:Option (Value×Hp)):Option (List TV):=oB r λp=>rdRv (szB P p.2) p.2 p.1
def rdRo (P:Program)(r:Option (Value×Hp)):Option (List TV):=oB r λp=>rdRv (szO P p.2) p.2 p.1
end
mutual
def DW (w:World)(N:Nat):DV→Value→Prop
  | .v x,u=>u=x∧flat1 x=true
  | .s n sz cs,u=>∃b o c us,u=.slice (some ⟨b,o,none⟩) n c∧N≤b∧b<w.heap.size∧n≤c∧c≤9223372036854775807∧us.length=n*sz∧(∀j v,us[j]? =some v→w.cell? ⟨b,o+j,none⟩=some v)∧DWs w N cs us
def DWs (w:World)(N:Nat):List DV→List Value→Prop
  |[],us=>us= []
  |d::ds,us=>∃u us',us=u::us'∧DW w N d u∧DWs w N ds us'
end
def TW (w:World)(N:Nat):TV→Value→Prop
  | .a ds,u=>∃us,u=.agg ⟨us⟩∧DWs w N ds us
  | .d x,u=>DW w N x u
def TWs (w:World)(N:Nat):List TV→List Value→Prop
  |[],us=>us= []
  |t::ts,us=>∃u us',us=u::us'∧TW w N t u∧TWs w N ts us'
def Laid (S:Nat→Prop)(w0 w:World)(N:Nat)(m:Mp)(h:Hp)(u:Value)(v:Value)(m':Mp)(h':Hp):Prop:=Ext h.nx m m'∧h.nx≤h'.nx∧NewR m' h' S w0 w N∧bel h'.nx v∧inst m' v=u
mutual
theorem lyV_ok{β:Type}{N:Nat}{x:β}:∀{d:DV} {u:Value} {m:Mp} {h:Hp} {k:Value→Hp→Option β},lyV d h k=some x→NewR m h S w0 w N→DW w N d u→∃v m' h',k v h'=some x∧Laid S w0 w N m h u v m' h'
  | .v y,u,m,h,k,e,r,hd=>by
    obtain⟨h1,h2⟩:=bT (show(Bool.rec none (k y h) (flat1 y):Option β)=some x from e)
    simp only[DW]at hd
    obtain⟨rfl,_⟩:=hd
    exact⟨_,m,h,h2,Ext.refl _ _,Nat.le_refl _,r,bel_flat1 h1 _,inst_flat1 h1 _⟩
  | .s n sz cs,u,m,h,k,e,r,hd=>by
    simp only[DW]at hd
    obtain⟨b,o,c,us,rfl,hN,hlt,hc1,hc2,hl,hcell,hd⟩:=hd
    obtain⟨vs,m1,h1,e1,x1,n1,r1,b1,i1⟩:=lyVs_ok (show lyVs cs h (λvs h=>fN (Nat.mul n sz) λq=>Bool.rec none (h.push (.im q vs sz) λb h=>k (.slice (some ⟨b,0,none⟩) n UNK) h) (Nat.beq vs.length q))=some x from e) r hd
    rw[fN_eq]at e1
    obtain⟨hq,e1⟩:=bT e1
    have hq:vs.length=n*sz:=Nat.eq_of_beq_eq_true hq
    obtain⟨h2,e2,hnx,hg⟩:=push_some e1
    have r2:=r1.im (h':=h2) (mb:=⟨b,o,c,sz,hc2⟩) hnx hg hN hlt hq.symm rfl (by show vs.length≤c*sz;rw[hq];exact Nat.mul_le_mul_right sz hc1) b1 (λj v ej=>by
      refine hcell j (inst m1 v) ?_
      rw[←i1,List.getElem?_map,ej];rfl)
    refine⟨_,_,h2,e2,x1.trans (upd_ext _ _ _) n1,by rw[hnx];omega,r2,bel_slice.2 (by rw[hnx];omega),?_⟩
    rw[inst_slice,iCap_unk,upd_same]
    simp
theorem lyVs_ok{β:Type}{N:Nat}{x:β}:∀{ds:List DV} {us:List Value} {m:Mp} {h:Hp} {k:List Value→Hp→Option β},lyVs ds h k=some x→NewR m h S w0 w N→DWs w N ds us→∃vs m' h',k vs h'=some x∧Ext h.nx m m'∧h.nx≤h'.nx∧NewR m' h' S w0 w N∧(∀v∈vs,bel h'.nx v)∧vs.map (inst m')=us
  | [],us,m,h,k,e,r,hd=>by
    simp only[DWs]at hd
    subst hd
    exact⟨[],m,h,e,Ext.refl _ _,Nat.le_refl _,r,(λv hv=>by cases hv),rfl⟩
  | d::ds,us,m,h,k,e,r,hd=>by
    simp only[DWs]at hd
    obtain⟨u,us',rfl,hd1,hd2⟩:=hd
    obtain⟨v,m1,h1,e1,x1,n1,r1,b1,i1⟩:=lyV_ok (show lyV d h (λv h=>lyVs ds h λvs h=>k (v::vs) h)=some x from e) r hd1
    obtain⟨vs,m2,h2,e2,x2,n2,r2,b2,i2⟩:=lyVs_ok e1 r1 hd2
    refine⟨_,m2,h2,e2,x1.trans x2 n1,Nat.le_trans n1 n2,r2,λy hy=> ?_,by rw[List.map_cons,i2,inst_ext x2 v b1,i1]⟩
    rcases List.mem_cons.1 hy with rfl|hy
    · exact bel_mono n2 _ b1
    · exact b2 y hy
end
theorem lyT1_ok{β:Type}{N:Nat}{x:β}{t:TV}{u:Value}{m:Mp}{h:Hp}{k:Value→Hp→Option β}(e:lyT1 t h k=some x)(r:NewR m h S w0 w N)(hd:TW w N t u):∃v m' h',k v h'=some x∧Laid S w0 w N m h u v m' h':=by
  cases t with
  | a cs=>
    obtain⟨us,rfl,hd⟩:=hd
    obtain⟨vs,m1,h1,e1,x1,n1,r1,b1,i1⟩:=lyVs_ok (show lyVs cs h (λus h=>k (.agg ⟨us⟩) h)=some x from e) r hd
    exact⟨_,m1,h1,e1,x1,n1,r1,bel_agg.2 b1,by rw[inst_agg,i1]⟩
  |d y=>exact lyV_ok (show lyV y h k=some x from e) r hd
theorem lyTs_ok{β:Type}{N:Nat}{x:β}:∀{ts:List TV} {us:List Value} {m:Mp} {h:Hp} {k:List Value→Hp→Option β},lyTs ts h k=some x→NewR m h S w0 w N→TWs w N ts us→∃vs m' h',k vs h'=some x∧Ext h.nx m m'∧h.nx≤h'.nx∧NewR m' h' S w0 w N∧(∀v∈vs,bel h'.nx v)∧vs.map (inst m')=us
  | [],us,m,h,k,e,r,hd=>by
    have hd:us= []:=hd
    subst hd
    exact⟨[],m,h,e,Ext.refl _ _,Nat.le_refl _,r,(λv hv=>by cases hv),rfl⟩
  | t::ts,us,m,h,k,e,r,hd=>by
    obtain⟨u,us',rfl,hd1,hd2⟩:=hd
    obtain⟨v,m1,h1,e1,x1,n1,r1,b1,i1⟩:=lyT1_ok (show lyT1 t h (λv h=>lyTs ts h λvs h=>k (v::vs) h)=some x from e) r hd1
    obtain⟨vs,m2,h2,e2,x2,n2,r2,b2,i2⟩:=lyTs_ok e1 r1 hd2
    refine⟨_,m2,h2,e2,x1.trans x2 n1,Nat.le_trans n1 n2,r2,λy hy=> ?_,by rw[List.map_cons,i2,inst_ext x2 v b1,i1]⟩
    rcases List.mem_cons.1 hy with rfl|hy
    · exact bel_mono n2 _ b1
    · exact b2 y hy
theorem rdVl_ok{β:Type}{x:β}{N:Nat}{n:Nat}{f:Value→(DV→Option β)→Option β}(hf:∀{v:Value} {k:DV→Option β},f v k=some x→bel n v→∃d,k d=some x∧DW w N d (inst m v)):
    ∀{l:List Value} {k:List DV→Option β},rdVl f l k=some x→(∀v∈l,bel n v)→∃ds,k ds=some x∧DWs w N ds (l.map (inst m))
  |[],k,e,hb=>⟨[],e,by simp only[DWs,List.map_nil]⟩
  | c::l,k,e,hb=>by
    obtain⟨d,e1,h1⟩:=hf (show f c (λd=>rdVl f l λds=>k (d::ds))=some x from e) (hb c (by simp))
    obtain⟨ds,e2,h2⟩:=rdVl_ok hf e1 (λv hv=>hb v (by simp[hv]))
    exact⟨_,e2,by simp only[DWs,List.map_cons];exact⟨_,_,rfl,h1,h2⟩⟩
theorem rdV_flat{β:Type}{x:β}{N:Nat}{v:Value}{k:DV→Option β}(e:(Bool.rec none (k (.v v)) (flat1 v):Option β)=some x):∃d,k d=some x∧DW w N d (inst m v):=by
  obtain⟨h1,h2⟩:=bT e
  exact⟨_,h2,by simp only[DW];exact⟨inst_flat1 h1 _,h1⟩⟩
theorem rdV_ok{β:Type}{x:β}{z:Nat→Option Nat}{N:Nat}(r:Rel m h S w0 w)(hz:∀b sz,z b=some sz→∃bl,h.t.get b=some bl∧N≤(m b).blk):∀{n:Nat} {v:Value} {k:DV→Option β},rdV z h n v k=some x→bel h.nx v→∃d,k d=some x∧DW w N d (inst m v)
  |0,v,k,e,hb=>rdV_flat e
  | n + 1,v,k,e,hb=>by
    have e:rdV1 z h (rdV z h n) v k=some x:=e
    unfold rdV1 at e
    split at e
    · rename_i a n' c' e0
      obtain⟨b,o,s⟩:=a
      obtain⟨sz,h1,h2⟩:=oB_some e
      obtain⟨bl,h3,h4⟩:=hz _ _ h1
      obtain⟨q,cs,h5,a1,a2,ao,cap,a3,a4,a5,a6,a7,a8⟩:=rdS_ok h2 r
      obtain⟨ds,h6,h7⟩:=rdVl_ok (λe hb=>rdV_ok r hz e hb) h5 a2
      refine⟨_,h6,?_⟩
      simp only[inst,Option.map_some,Value.slice.injEq]at a3
      obtain⟨rfl,rfl,a3⟩:=a3
      rcases a8 with⟨a8,_⟩|⟨b',o',a8,a9⟩
      · cases a8
      · cases a8
        simp only[DW,inst,Option.map_some]
        refine⟨(m b).blk,(m b).base+o,cap,cs.map (inst m),by rw[a3];rfl,h4,(r.br b bl h3).2.lt,a4,by unfold maxLen at a5;omega,by rw[List.length_map];exact a1,λj v ej=> ?_,h7⟩
        rw[List.getElem?_map]at ej
        cases hj:cs[j]? with
        |none=>rw[hj]at ej;cases ej
        |some y=>rw[hj]at ej;cases ej;exact a9 j y hj
    · exact rdV_flat e
theorem rdT1_ok{β:Type}{x:β}{z:Nat→Option Nat}{N:Nat}(r:Rel m h S w0 w)(hz:∀b sz,z b=some sz→∃bl,h.t.get b=some bl∧N≤(m b).blk){v:Value}{k:TV→Option β}(e:rdT1 z h v k=some x)(hb:bel h.nx v):∃t,k t=some x∧TW w N t (inst m v):=by
  unfold rdT1 at e
  split at e
  · obtain⟨ds,h1,h2⟩:=rdVl_ok (λe hb=>rdV_ok r hz e hb) e (bel_agg.1 hb)
    exact⟨_,h1,_,inst_agg _ _,h2⟩
  · obtain⟨d,h1,h2⟩:=rdV_ok r hz e hb
    exact⟨_,h1,h2⟩
theorem rdTs_ok{β:Type}{x:β}{z:Nat→Option Nat}{N:Nat}(r:Rel m h S w0 w)(hz:∀b sz,z b=some sz→∃bl,h.t.get b=some bl∧N≤(m b).blk):∀{l:List Value} {k:List TV→Option β},rdTs z h l k=some x→(∀v∈l,bel h.nx v)→∃ts,k ts=some x∧TWs w N ts (l.map (inst m))
  |[],k,e,hb=>⟨[],e,rfl⟩
  | v::l,k,e,hb=>by
    obtain⟨t,e1,h1⟩:=rdT1_ok r hz (show rdT1 z h v (λt=>rdTs z h l λts=>k (t::ts))=some x from e) (hb v (by simp))
    obtain⟨ts,e2,h2⟩:=rdTs_ok r hz e1 (λv hv=>hb v (by simp[hv]))
    exact⟨_,e2,_,_,rfl,h1,h2⟩
theorem szB_get{b sz:Nat}(e:szB P h b=some sz):∃bl,h.t.get b=some bl:=by
  obtain⟨bl,h3,_⟩:=oB_some (show oB (h.get b) _=some sz from e)
  exact⟨bl,h3⟩
theorem szB_ok (r:Rel m h (λ_=>False) w0 w)(b sz:Nat)(e:szB P h b=some sz):∃bl,h.t.get b=some bl∧w0.heap.size≤(m b).blk:=by
  obtain⟨bl,h3⟩:=szB_get e
  exact⟨bl,h3,by rcases r.fresh b bl h3 with q|q|⟨_,q⟩<;>first|exact q.elim|exact q⟩
theorem nK_ok{N:Nat1}{G:FuncId→Nat}(hm:P.follows .mixedOrders=true)(hE:EnP P)(hN:∀f g,N f=some g→SFn P f g){n d:Nat}{f:FuncId}{T:List TV}(e:rdR P ((ev P N G n).f f [] ⟨full d,0⟩)=some T)(hf:Enters P f):SFn P f (nK T):=
  .of hf (λvs h v h' e' m S w0 w r hb=>by
    cases vs with
    |cons=>cases e'
    | nil=>
      have e':lyTs T h (λus h=>some (Value.tuple ⟨us⟩,h))=some (v,h'):=e'
      obtain⟨⟨v1,h1⟩,e1,e2⟩:=oB_some (show oB _ _=some T from e)
      obtain⟨_,C⟩:=(ev_ok hm hE hN n).2.1 f [] ⟨full d,0⟩ v1 h1 e1
      show CallsIn Fence.wide 0 P f _ w _
      refine CallsIn.mono (C (λ_=>⟨0,0,0,1,Nat.zero_le _⟩) _ w w (rel0 d w) (λu hu=>by cases hu)) ?_
      rintro e3 w' ⟨m1,x1,n1,r1,b1,rfl⟩
      have hk:Kept [] w w':=⟨r1.os,r1.tape,r1.output,r1.size,r1.drawn,λk hk _=>r1.keep k hk (λq=>q)⟩
      have e2:rdRv (szB P h1) h1 v1=some T:=e2
      unfold rdRv at e2
      split at e2
      · rename_i us
        obtain⟨ts,e4,h4⟩:=rdTs_ok r1 (szB_ok r1) e2 (bel_tuple.1 b1)
        cases e4
        obtain⟨vs,m2,h2,e5,x2,n2,r2,b2,i2⟩:=lyTs_ok e' (NewR.of r hk) h4
        cases e5
        exact⟨m2,x2,n2,r2.rel,bel_tuple.2 b2,by rw[inst_tuple,inst_tuple,i2]⟩
      · cases e2)
theorem szO_ok (r:Rel m h (λk=>w0.heap.size≤k) w0 w)(b sz:Nat)(e:szO P h b=some sz):∃bl,h.t.get b=some bl∧w0.heap.size≤(m b).blk:=by
  obtain⟨bl,h3,h4⟩:=oB_some (show oB (h.get b) _=some sz from e)
  have h3:h.t.get b=some bl:=h3
  refine⟨bl,h3,?_⟩
  rcases r.fresh b bl h3 with q|q|⟨q,_⟩
  · exact q
  · exact q
  · cases bl with
    |im=>cases h4
    |_=>cases q
noncomputable section
def eqD (a:DV):DV→Bool:=
  DV.rec (motive_1:=λ_=>DV→Bool) (motive_2:=λ_=>List DV→Bool) (λx b=>DV.rec (motive_1:=λ_=>Bool) (motive_2:=λ_=>Bool) (λy=>same1 x y) (λ_ _ _ _=>false) false (λ_ _ _ _=>false) b)
    (λn sz _ ih b=>DV.casesOn b (λ_=>false) (λn' sz' cs'=>Bool.rec false (ih cs') (and (Nat.beq n n') (Nat.beq sz sz'))))
    (λl=>List.rec true (λ_ _ _=>false) l) (λ_ _ ih ihs l=>List.rec false (λd ds _=>Bool.rec false (ihs ds) (ih d)) l) a
def eqDs (a:List DV):List DV→Bool:=
  DV.rec_1 (motive_1:=λ_=>DV→Bool) (motive_2:=λ_=>List DV→Bool) (λx b=>DV.rec (motive_1:=λ_=>Bool) (motive_2:=λ_=>Bool) (λy=>same1 x y) (λ_ _ _ _=>false) false (λ_ _ _ _=>false) b)
    (λn sz _ ih b=>DV.casesOn b (λ_=>false) (λn' sz' cs'=>Bool.rec false (ih cs') (and (Nat.beq n n') (Nat.beq sz sz'))))
    (λl=>List.rec true (λ_ _ _=>false) l) (λ_ _ ih ihs l=>List.rec false (λd ds _=>Bool.rec false (ihs ds) (ih d)) l) a
def eqT1 (a b:TV):Bool:=TV.rec (λcs=>TV.rec (λds=>eqDs cs ds) (λ_=>false) b) (λx=>TV.rec (λ_=>false) (λy=>eqD x y) b) a
def eqTs (a:List TV):List TV→Bool:=List.rec (λl=>List.rec true (λ_ _ _=>false) l) (λt _ ih l=>List.rec false (λu us _=>Bool.rec false (ih us) (eqT1 t u)) l) a
def nM (P:Program)(A T:List TV):Phi:=λvs h=>rdTs (szB P h) h vs λts=>Bool.rec none (lyTs T h λus h=>some (.tuple ⟨us⟩,h)) (eqTs A ts)
end
theorem bF{b c:Bool}(h:(Bool.rec false b c:Bool)=true):c=true∧b=true:=by cases c;cases h;exact⟨rfl,h⟩
mutual
theorem eqD_eq:∀{a b:DV},eqD a b=true→a=b
  | .v x,b,e=>by
    cases b with
    |v y=>rw[same1_eq (show same1 x y=true from e)]
    |s=>cases e
  | .s n sz cs,b,e=>by
    cases b with
    |v y=>cases e
    | s n' sz' cs'=>
      obtain⟨h1,h2⟩:=bF (show(Bool.rec false (eqDs cs cs') (and (Nat.beq n n') (Nat.beq sz sz')):Bool)=true from e)
      rw[Bool.and_eq_true]at h1
      rw[Nat.eq_of_beq_eq_true h1.1,Nat.eq_of_beq_eq_true h1.2,eqDs_eq h2]
theorem eqDs_eq:∀{a b:List DV},eqDs a b=true→a=b
  | [],b,e=>by
    cases b with
    |nil=>rfl
    |cons=>cases e
  | d ::ds,b,e=>by
    cases b with
    |nil=>cases e
    | cons d' ds'=>
      obtain⟨h1,h2⟩:=bF (show(Bool.rec false (eqDs ds ds') (eqD d d'):Bool)=true from e)
      rw[eqD_eq h1,eqDs_eq h2]
end
theorem eqT1_eq{a b:TV}(e:eqT1 a b=true):a=b:=by
  cases a<;>cases b<;>first|(cases e;done)|skip
  · rw[eqDs_eq e]
  · rw[eqD_eq e]
theorem eqTs_eq:∀{a b:List TV},eqTs a b=true→a=b
  | [],b,e=>by
    cases b with
    |nil=>rfl
    |cons=>cases e
  | t ::ts,b,e=>by
    cases b with
    |nil=>cases e
    | cons u us=>
      obtain⟨h1,h2⟩:=bF (show(Bool.rec false (eqTs ts us) (eqT1 t u):Bool)=true from e)
      rw[eqT1_eq h1,eqTs_eq h2]
theorem nM_ok{N:Nat1}{G:FuncId→Nat}(hm:P.follows .mixedOrders=true)(hE:EnP P)(hN:∀f g,N f=some g→SFn P f g){n d:Nat}{f:FuncId}{A T:List TV}(e:lyTs A ⟨full d,0⟩ (λvs h=>rdRo P ((ev P N G n).f f vs h))=some T)(hf:Enters P f):SFn P f (nM P A T):=
  .of hf (λvs h v h' e' m S w0 w r hb=>by
    obtain⟨ts,e1,h1⟩:=rdTs_ok (N:=0) r (λb sz q=>by obtain⟨bl,q⟩:=szB_get q;exact⟨bl,q,Nat.zero_le _⟩) (show rdTs (szB P h) h vs _=some (v,h')from e') hb
    obtain⟨h2,e2⟩:=bT e1
    obtain rfl:=eqTs_eq h2
    have hn:∀i,Ht.get (full d) i=none:=Ht.full_get d
    have r0:NewR (λ_=>⟨0,0,0,1,Nat.zero_le _⟩) ⟨full d,0⟩ (λk=>w.heap.size≤k) w w 0:=by
      refine⟨⟨λi b e=> ?_,λi j b c e=> ?_,λi b e=> ?_,rfl,rfl,rfl,Nat.le_refl _,Nat.le_refl _,λ_ _ _=>rfl⟩,.inr λk=>Nat.le_add_right _ _,λi c e=> ?_⟩<;>(rw[hn]at e;cases e)
    obtain⟨vc,mc,hc,e3,_,_,rc,bc,ic⟩:=lyTs_ok e r0 h1
    obtain⟨⟨v1,h3⟩,e4,e5⟩:=oB_some (show oB _ _=some T from e3)
    obtain⟨_,C⟩:=(ev_ok hm hE hN n).2.1 f vc hc v1 h3 e4
    have C':=C mc _ w w rc.rel bc
    rw[ic]at C'
    show CallsIn Fence.wide 0 P f _ w _
    refine CallsIn.mono C' ?_
    rintro e6 w' ⟨m1,x1,n1,r1,b1,rfl⟩
    have hk:Kept [] w w':=⟨r1.os,r1.tape,r1.output,r1.size,r1.drawn,λk hk _=>r1.keep k hk (Nat.not_le_of_lt hk)⟩
    have e5:rdRv (szO P h3) h3 v1=some T:=e5
    unfold rdRv at e5
    split at e5
    · rename_i us
      obtain⟨ts,e7,h4⟩:=rdTs_ok r1 (szO_ok r1) e5 (bel_tuple.1 b1)
      cases e7
      obtain⟨vs',m2,h5,e8,x2,n2,r2,b2,i2⟩:=lyTs_ok e2 (NewR.of r hk) h4
      cases e8
      exact⟨m2,x2,n2,r2.rel,bel_tuple.2 b2,by rw[inst_tuple,inst_tuple,i2]⟩
    · cases e5)
end Go.Ev
namespace Go.Ev
open Go
def vi (k:IntKind)(n:Nat):DV:=.v (.int k (.ofNat n))
def ib (k:IntKind)(l:List Nat)(z:Nat):List DV:=l.map (vi k)++List.replicate z (vi k 0)
def nl:DV:=.v (.slice none 0 0)
def rp (n:Nat)(d:DV):List DV:=List.replicate n d
end Go.Ev
