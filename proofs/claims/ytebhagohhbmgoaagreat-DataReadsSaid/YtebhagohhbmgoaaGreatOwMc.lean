import Derived.Test.YtebhagohhbmgoaaGreatOwMb
import Derived.KernelRfl
import Derived.Test.YtebhagohhbmgoaaGreatOwMa
/-
  What is proved here: many steps in one: a function that carries out control, and operations that compute or touch own blocks; over the rules of before.
-/
set_option linter.unusedSimpArgs false
set_option linter.unusedVariables false
namespace Go.Ow
open Go.RowKit
structure Tab where
  shp:List (Nat×(Bool×Nat))
  fof:List (Nat×(Nat×Nat))
  zer:List (Nat×Value)
  plc:List (Nat×List (Nat×Nat))
def tl{β:Type}(i:Nat):List (Nat×β)→Option β
 |[]=>none
 |(k,v)::r=>bif Nat.beq k i then some v else tl i r
def tl2 (i j:Nat):List (Nat×(Nat×Nat))→Option Nat
 |[]=>none
 |(k,q,v)::r=>bif Nat.beq k i&&Nat.beq q j then some v else tl2 i j r
def Each{α:Type}(p:α→Prop):List α→Prop
 |[]=>True
 |a::r=>p a∧Each p r
structure Tab.Ok (tb:Tab) (P:Program):Prop where
  shp:Each (λe=>shapeOf P e.1=some e.2) tb.shp
  fof:Each (λe=>fieldOff P e.1 e.2.1=some e.2.2) tb.fof
  zer:Each (λe=>zeroOf P e.1=some e.2) tb.zer
  plc:Each (λe=>placesOf P e.1=some e.2) tb.plc
theorem tl_ok{β:Type}{p:Nat→β→Prop}{i:Nat}{v:β}:∀{l:List (Nat×β)},Each (λe=>p e.1 e.2) l→tl i l=some v→p i v
  |[],_,h=>by cases h
  | (k,u)::r,h,e=>by
    simp only[tl]at e
    cases hb:Nat.beq k i with
    |true=>rw[hb]at e;have:=Nat.eq_of_beq_eq_true hb;subst this;cases e;exact h.1
    |false=>rw[hb]at e;exact tl_ok h.2 e
theorem tl2_ok{p:Nat→Nat→Nat→Prop}{i j v:Nat}:∀{l:List (Nat×(Nat×Nat))},Each (λe=>p e.1 e.2.1 e.2.2) l→tl2 i j l=some v→p i j v
  |[],_,h=>by cases h
  | (k,q,u)::r,h,e=>by
    simp only[tl2]at e
    cases hb:Nat.beq k i with
    | true=>
      cases hc:Nat.beq q j with
      |true=>rw[hb,hc]at e;have:=Nat.eq_of_beq_eq_true hb;have:=Nat.eq_of_beq_eq_true hc;subst_vars;cases e;exact h.1
      |false=>rw[hb,hc]at e;exact tl2_ok h.2 e
    |false=>rw[hb]at e;exact tl2_ok h.2 e
def evs (l:Slots):List Operand→Option (List Value)
  |[]=>some []
  | o ::r=>match evo l o with
    | some v=>match evs l r with
      |some vs=>some (v::vs)
      |none=>none
    |none=>none
theorem evs_ok{l:Slots}:∀{os:List Operand} {vs:List Value},evs l os=some vs→os.mapM (evo l)=some vs
  |[],vs,h=>by simp[evs]at h;simp[h]
  | o ::r,vs,h=>by
    simp only[evs]at h
    split at h
    · rename_i v hv
      split at h
      · rename_i us hu
        cases h;simp[List.mapM_cons,hv,evs_ok hu]
      · cases h
    · cases h
def evp (l:Slots):List (Nat×Operand)→Option (List (Nat×Value))
  |[]=>some []
  | (k,o)::r=>match evo l o with
    | some v=>match evp l r with
      |some vs=>some ((k,v)::vs)
      |none=>none
    |none=>none
theorem evp_ok{l:Slots}:∀{os:List (Nat×Operand)} {vs:List (Nat×Value)},evp l os=some vs→os.mapM (λp=>(evo l p.2).map (λu=>(p.1,u)))=some vs
  |[],vs,h=>by simp[evp]at h;simp[h]
  | (k,o)::r,vs,h=>by
    simp only[evp]at h
    split at h
    · rename_i v hv
      split at h
      · rename_i us hu
        cases h;simp[List.mapM_cons,hv,evp_ok hu]
      · cases h
    · cases h
def spine{α β:Type}:List α→(List α→Option β)→Option β
 |[],k=>k []
 |a::r,k=>spine r (λr'=>k (a::r'))
theorem spine_eq{α β:Type}:∀(l:List α) (k:List α→Option β),spine l k=k l
 |[],_=>rfl
 |a::r,k=>by unfold spine;rw[spine_eq r]
def binI (op:BinOp)(m n:Int):Option Value:=match op with
 | .add=>some (.int .i64 (w64 (m+n)))
 | .sub=>some (.int .i64 (w64 (m-n)))
 | .mul=>some (.int .i64 (w64 (m*n)))
 | .lss=>some (.bool (decide (m<n)))
 | .leq=>some (.bool (decide (m≤n)))
 | .gtr=>some (.bool (decide (n<m)))
 | .geq=>some (.bool (decide (n≤m)))
 | .eql=>some (.bool (decide (m=n)))
 | .neq=>some (.bool (!decide (m=n)))
 |_=>none
def vop (tb :Tab)(own:List Own)(l:Slots)(hs:List Nat):Op→Option (Value×List Nat×List Nat×List Nat)
  | .move o=>match evo l o with
    |some v=>some (v,hs,[],[])
    |none=>none
  | .assign o=>match evo l o with
    |some v=>some (v,hs,[],[])
    |none=>none
  | .nilCheck o=>match evo l o with
    |some (.pointer (some a))=>some (.pointer (some a),hs,[],[])
    |_=>none
  | .pick c a b=>match evo l c with
    | some (.bool true)=>match evo l a with
      |some v=>some (v,hs,[],[])
      |none=>none
    | some (.bool false)=>match evo l b with
      |some v=>some (v,hs,[],[])
      |none=>none
    |_=>none
  | .unOp .not _ o=>match evo l o with
    |some (.bool b)=>some (.bool (!b),hs,[],[])
    |_=>none
  | .extract o i=>match evo l o with
    | some (.tuple vs)=>match vs.toList[i]? with
      |some v=>some (v,hs,[],[])
      |none=>none
    |_=>none
  | .binOp op _ a b _=>match evo l a with
    | some (.int .i64 m)=>match evo l b with
      | some (.int .i64 n)=>match binI op m n with
        |some v=>some (v,hs,[],[])
        |none=>none
      |_=>none
    |_=>none
  | .fieldAddr S o k=>match evo l o with
    | some (.pointer (some ⟨b,q,none⟩))=>match tl2 S k tb.fof with
      |some n=>some (.pointer (some ⟨b,q+n,none⟩),hs,[],[])
      |none=>none
    |_=>none
  | .load T o=>match evo l o with
    | some (.pointer (some ⟨b,q,none⟩))=>match hs with
      | i ::hs'=>match own[i]? with
        | some [(b',.cells cur t fr)]=>match tl T tb.shp with
          | some (false,_)=>match cur.toList[q]? with
            |some v=>some (v,hs',[b],[b'])
            |none=>none
          | some (true,n)=>spine ((cur.toList.drop q).take n) λvs=>
            bif Nat.beq vs.length n then some (.agg vs.toArray,hs',[b],[b'])else none
          |none=>none
        |_=>none
      |[]=>none
    |_=>none
  | .makeFunc fn fs cs=>match evs l fs.toList with
    | some vf=>match evs l cs.toList with
      |some vc=>some (.func fn vf.toArray vc.toArray,hs,[],[])
      |none=>none
    |none=>none
  | .build T parts=>match evp l parts.toList with
    | some vs=>match tl T tb.zer with
      | some z=>match tl T tb.plc with
        |some places=>bif vs.all (fitsP places z.cells.toList.length)then spine (setP places z.cells.toList vs) λcs=>some (.agg cs.toArray,hs,[],[])else none
        |none=>none
      |none=>none
    |none=>none
  |_=>none
theorem vop_noDefer{tb:Tab}{own:List Own}{l:Slots}{hs:List Nat}{op:Op}{r:Value×List Nat×List Nat×List Nat}(h:vop tb own l hs op=some r):noDefer op=true:=by
 cases op<;>first|rfl|(simp[vop]at h)
theorem vop_ok{x:Cx}{tb:Tab}(ht:tb.Ok x.P){own:List Own}{l:Slots}{H:Heaplet}{hs hs' e1 e2:List Nat}{op:Op}{ty:TypeId}{v:Value}
    (h:vop tb own l hs op=some (v,hs',e1,e2))(he:e1=e2):Runs x op ty l own H v:=by
  unfold vop at h
  split at h
  · split at h<;>first|cases h|skip
    rename_i hv;exact ZW hv
  · split at h<;>first|cases h|skip
    rename_i hv;exact R.assign hv
  · split at h<;>first|cases h|skip
    rename_i hv;exact R.nilCheck hv
  · split at h
    · rename_i hc;split at h<;>first|cases h|skip
      rename_i hv;exact R.pickT hc hv
    · rename_i hc;split at h<;>first|cases h|skip
      rename_i hv;exact R.pickF hc hv
    · cases h
  · split at h<;>first|cases h|skip
    rename_i hv;exact R.not hv
  · split at h
    · rename_i hv;split at h<;>first|cases h|skip
      rename_i hi;exact R.extract hv (by simpa using hi)
    · cases h
  · split at h
    · rename_i h1
      split at h
      · rename_i h2
        split at h
        · rename_i h3
          cases h
          unfold binI at h3
          split at h3<;>first|(cases h3;done)|skip
          · cases h3;exact R.add_i h1 h2
          · cases h3;exact R.sub_i h1 h2
          · cases h3;exact R.mul_i h1 h2
          · cases h3;exact R.lss_i h1 h2
          · cases h3;exact R.leq_i h1 h2
          · cases h3;exact R.gtr_i h1 h2
          · cases h3;exact R.geq_i h1 h2
          · cases h3;exact R.eql_i h1 h2
          · cases h3;exact R.neq_i h1 h2
        · cases h
      · cases h
    · cases h
  · split at h
    · rename_i h1
      split at h
      · rename_i h2
        cases h
        exact R.fa (tl2_ok (p:=λa b c=>fieldOff x.P a b=some c) ht.fof h2) h1
      · cases h
    · cases h
  · split at h
    · rename_i h1
      split at h
      · split at h
        · rename_i h2
          split at h
          · rename_i h3
            split at h
            · rename_i h4
              cases h
              have hb:=List.cons.inj he
              rw[←hb.1]at h2
              exact R.ldo _ (tl_ok (p:=λa b=>shapeOf x.P a=some b) ht.shp h3) h1 h2 h4
            · cases h
          · rename_i h3
            rw[spine_eq]at h
            cases hb:Nat.beq (List.length (List.take _ (List.drop _ _))) _ with
            | true=>
              rw[hb]at h
              cases h
              have hb':=List.cons.inj he
              rw[←hb'.1]at h2
              exact R.ldoN _ (tl_ok (p:=λa b=>shapeOf x.P a=some b) ht.shp h3) h1 h2 rfl (Nat.eq_of_beq_eq_true hb)
            |false=>rw[hb]at h;cases h
          · cases h
        · cases h
      · cases h
    · cases h
  · split at h
    · rename_i h1
      split at h
      · rename_i h2
        cases h
        exact R.func (evs_ok h1) (evs_ok h2)
      · cases h
    · cases h
  · split at h
    · rename_i h1
      split at h
      · rename_i h2
        split at h
        · rename_i h3
          cases hb:List.all _ (fitsP _ _)with
          | true=>
            rw[hb]at h
            rw[cond_true,spine_eq]at h
            cases h
            exact R.bldP (tl_ok (p:=λa b=>zeroOf x.P a=some b) ht.zer h2) (tl_ok (p:=λa b=>placesOf x.P a=some b) ht.plc h3) (evp_ok h1) hb rfl
          |false=>rw[hb]at h;cases h
        · cases h
      · cases h
    · cases h
  · cases h
inductive Cf where
  |c (c:Code)
  |l (ops:Array Oper) (rest:List Oper)
  |n (e:Exit)
inductive KK where
  |s (d:Code)
  |b (id:Nat)
  |k (K:Act→World→Prop)
@[reducible] def den (x:Cx):List KK→(Exit→Act→World→Prop)→(Exit→Act→World→Prop)
  |[],Q=>Q
  | .s d::ks,Q=>Exit.then (d.wpIn (Fw x.r) 0 x.P (den x ks Q)) (den x ks Q)
  | .b id::ks,Q=>Exit.inBlock id (den x ks Q)
  | .k K::ks,Q=>Exit.then K (den x ks Q)
structure RS where
  cf:Cf
  ks:List KK
  l:Slots
  o:List Own
  hs:List Nat
  e1:List Nat
  e2:List Nat
def Goal (x:Cx)(Q:Exit→Act→World→Prop)(H:Heaplet)(s:RS):Prop:=match s.cf with
 | .c c=>JC x c (den x s.ks Q) s.l s.o H
 | .l ops rest=>JL x ops (den x s.ks Q) rest s.l s.o H
 | .n e=>JN x (den x s.ks Q e) s.l s.o H
def setK{β:Type}:List Own→Nat→Own→(List Own→Option β)→Option β
 |[],_,_,_=>none
 |_::r,0,s,k=>k (s::r)
 |a::r,i+1,s,k=>setK r i s (λr'=>k (a::r'))
theorem setK_eq{β:Type}:∀{own:List Own} {i:Nat} {s:Own} {k:List Own→Option β} {r:β},setK own i s k=some r→k (own.set i s)=some r
 |[],_,_,_,_,h=>by cases h
 |_::_,0,_,_,_,h=>h
 |a::r,i+1,s,k,_,h=>setK_eq (own:=r) (i:=i) (k:=λr'=>k (a::r')) h
def mstep (tb : Tab)(N:Nat):RS→Option RS
  |⟨.c .skip,ks,l,o,hs,e1,e2⟩=>some ⟨.n .normal,ks,l,o,hs,e1,e2⟩
  |⟨.c .ret,ks,l,o,hs,e1,e2⟩=>some ⟨.n .ret,ks,l,o,hs,e1,e2⟩
  |⟨.c (.exit id),ks,l,o,hs,e1,e2⟩=>some ⟨.n (.exit id),ks,l,o,hs,e1,e2⟩
  |⟨.c (.seq c d),ks,l,o,hs,e1,e2⟩=>some ⟨.c c,.s d::ks,l,o,hs,e1,e2⟩
  |⟨.c (.block id c),ks,l,o,hs,e1,e2⟩=>some ⟨.c c,.b id::ks,l,o,hs,e1,e2⟩
  |⟨.c (.region _ ops false),ks,l,o,hs,e1,e2⟩=>some ⟨.l ops ops.toList,ks,l,o,hs,e1,e2⟩
  | ⟨.c (.cond c a b),ks,l,o,hs,e1,e2⟩=>match evo l c with
    |some (.bool true)=>some ⟨.c a,ks,l,o,hs,e1,e2⟩
    |some (.bool false)=>some ⟨.c b,ks,l,o,hs,e1,e2⟩
    |_=>none
  |⟨.n .normal,.s d::ks,l,o,hs,e1,e2⟩=>some ⟨.c d,ks,l,o,hs,e1,e2⟩
  |⟨.n .normal,.b _::ks,l,o,hs,e1,e2⟩=>some ⟨.n .normal,ks,l,o,hs,e1,e2⟩
  |⟨.n .ret,.s _::ks,l,o,hs,e1,e2⟩=>some ⟨.n .ret,ks,l,o,hs,e1,e2⟩
  |⟨.n .ret,.b _::ks,l,o,hs,e1,e2⟩=>some ⟨.n .ret,ks,l,o,hs,e1,e2⟩
  |⟨.n (.exit id),.s _::ks,l,o,hs,e1,e2⟩=>some ⟨.n (.exit id),ks,l,o,hs,e1,e2⟩
  |⟨.n .ret,.k _::ks,l,o,hs,e1,e2⟩=>some ⟨.n .ret,ks,l,o,hs,e1,e2⟩
  |⟨.n (.exit id),.k _::ks,l,o,hs,e1,e2⟩=>some ⟨.n (.exit id),ks,l,o,hs,e1,e2⟩
  |⟨.n (.exit id'),.b id::ks,l,o,hs,e1,e2⟩=>bif Nat.beq id' id then some ⟨.n .normal,ks,l,o,hs,e1,e2⟩else some ⟨.n (.exit id'),ks,l,o,hs,e1,e2⟩
  |⟨.l ops [],ks,l,o,hs,e1,e2⟩=>some ⟨.n .normal,ks,l,o,hs,e1,e2⟩
  | ⟨.l ops (⟨some d,op,ty,pos,aft,none⟩::rest),ks,l,o,hs,e1,e2⟩=>match vop tb o l hs op with
    |some (v,hs',f1,f2)=>bif Nat.blt d N then some ⟨.l ops rest,ks,(d,v)::l,o,hs',f1++e1,f2++e2⟩else none
    |none=>none
  | ⟨.l ops (⟨none,.store T p q,ty,pos,aft,none⟩::rest),ks,l,o,hs,e1,e2⟩=>match evo l p with
    | some (.pointer (some ⟨b,k,none⟩))=>match evo l q with
      | some v=>match hs with
        | i ::hs'=>match o[i]? with
          | some [(b',.cells cur t (0,0))]=>match tl T tb.shp with
            | some (_,n)=>bif Nat.beq v.cells.toList.length n&&(v.cells.toList.all (·.oneCell')&&Nat.ble (k+n) cur.toList.length)then
                spine (cur.toList.take k++v.cells.toList++cur.toList.drop (k+n)) λcs=>setK o i [(b',.cells cs.toArray t (0,0))] λo'=>some ⟨.l ops rest,ks,l,o',hs',b::e1,b'::e2⟩
              else none
            |none=>none
          |_=>none
        |[]=>none
      |none=>none
    |_=>none
  | ⟨.l ops (⟨dst,op,ty,pos,aft,some (j,b)⟩::rest),ks,l,o,hs,e1,e2⟩=>match ops.toList[j]? with
    | some oj=>match oj.dst with
      | some t=>match lk l t with
        | some (.bool true)=>bif b then some ⟨.l ops (⟨dst,op,ty,pos,aft,none⟩::rest),ks,l,o,hs,e1,e2⟩else match dst with
          |some d=>bif Nat.blt d N then some ⟨.l ops rest,ks,(d,undef)::l,o,hs,e1,e2⟩else none
          |none=>none
        | some (.bool false)=>bif b then(match dst with
          |some d=>bif Nat.blt d N then some ⟨.l ops rest,ks,(d,undef)::l,o,hs,e1,e2⟩else none
          |none=>none)else some ⟨.l ops (⟨dst,op,ty,pos,aft,none⟩::rest),ks,l,o,hs,e1,e2⟩
        | some (.tuple ⟨[]⟩)=>match dst with
          |some d=>bif Nat.blt d N then some ⟨.l ops rest,ks,(d,undef)::l,o,hs,e1,e2⟩else none
          |none=>none
        |_=>none
      |none=>none
    |none=>none
  |_=>none
theorem vop_len{tb:Tab}{own:List Own}{l:Slots}{hs hs' e1 e2:List Nat}{op:Op}{v:Value}(h:vop tb own l hs op=some (v,hs',e1,e2)):e1.length=e2.length:=by
  cases op with
  | load T o=>
    simp only[vop]at h
    repeat' (first|(split at h)|(cases h;done))
    all_goals first|(cases h;rfl)|(cases h;done)|skip
    rw[spine_eq]at h
    cases hb:Nat.beq (List.length (List.take _ (List.drop _ _))) _<;>rw[hb]at h<;>cases h
    rfl
  | build T ps=>
    simp only[vop]at h
    repeat' (first|(split at h)|(cases h;done))
    all_goals first|(cases h;done)|skip
    cases hb:List.all _ (fitsP _ _)with
    |true=>rw[hb]at h;rw[cond_true,spine_eq]at h;cases h;rfl
    |false=>rw[hb]at h;cases h
  | unOp q t p=>
    cases q<;>simp only[vop]at h
    all_goals first
      |(cases h;done)
      | (split at h
         · cases h;rfl
         · cases h)
  | _=>
    simp only[vop]at h
    repeat' (first|(split at h)|(cases h;done))
    all_goals first|(cases h;rfl)|(cases h;done)
theorem mstep_ok{x:Cx}{tb:Tab}(ht:tb.Ok x.P){Q:Exit→Act→World→Prop}{H:Heaplet}{s s':RS}(h:mstep tb x.n s=some s')(he:s'.e1=s'.e2):
    s.e1=s.e2∧(Goal x Q H s'→Goal x Q H s):=by
  unfold mstep at h
  split at h
  · cases h;exact⟨he,JC.skip⟩
  · cases h;exact⟨he,JC.ret⟩
  · cases h;exact⟨he,JC.exit⟩
  · cases h;exact⟨he,JC.seq⟩
  · cases h;exact⟨he,JC.block⟩
  · cases h;exact⟨he,JC.region⟩
  · split at h
    · rename_i hc;cases h;exact⟨he,JC.condT hc⟩
    · rename_i hc;cases h;exact⟨he,JC.condF hc⟩
    · cases h
  · cases h;exact⟨he,Zw⟩
  · cases h;exact⟨he,JN.blkN⟩
  · cases h;exact⟨he,JN.passR⟩
  · cases h;exact⟨he,JN.blkR⟩
  · cases h;exact⟨he,JN.passX⟩
  · cases h;exact⟨he,JN.passR⟩
  · cases h;exact⟨he,JN.passX⟩
  · rename_i id' id ks l o hs e1 e2
    cases hb:Nat.beq id' id with
    |true=>rw[hb]at h;cases h;have:=Nat.eq_of_beq_eq_true hb;subst this;exact⟨he,JN.exitSame⟩
    |false=>rw[hb]at h;cases h;exact⟨he,JN.exitOther hb⟩
  · cases h;exact⟨he,JL.nil⟩
  · split at h
    · rename_i hv
      cases hb:Nat.blt _ x.n with
      | true=>
        rw[hb]at h;cases h
        have hl:=vop_len hv
        obtain⟨h1,h2⟩:=List.append_inj he hl
        exact⟨h2,λg=>ZA hb (vop_noDefer hv) (vop_ok ht hv h1) g⟩
      |false=>rw[hb]at h;cases h
    · cases h
  · split at h
    · rename_i h1
      split at h
      · rename_i h2
        split at h
        · split at h
          · rename_i h3
            split at h
            · rename_i h4
              cases hb:(Nat.beq _ _&&(List.all _ (λz:Value=>z.oneCell')&&Nat.ble _ _))with
              | true=>
                rw[hb,cond_true,spine_eq]at h
                have h5:=setK_eq h
                cases h5
                obtain⟨c1,c2⟩:=List.cons.inj he
                rw[←c1]at h3
                rw[Bool.and_eq_true,Bool.and_eq_true]at hb
                refine⟨c2,λg=>JL.store _ (tl_ok (p:=λa b=>shapeOf x.P a=some b) ht.shp h4) h1 h2 h3 (by simpa using Nat.eq_of_beq_eq_true hb.1) hb.2.1 (by simpa using Nat.le_of_ble_eq_true hb.2.2) ?_⟩
                rw[c1];exact g
              |false=>rw[hb]at h;cases h
            · cases h
          · cases h
        · cases h
      · cases h
    · cases h
  · split at h
    · rename_i hj
      split at h
      · rename_i hd
        split at h
        · rename_i hk
          rename_i b _ _ _ _ _ _ _ _ _ _ _ _
          cases b with
          |true=>cases h;exact⟨he,Zq (by simpa using hj) hd hk⟩
          | false=>
            rw[cond_false]at h
            split at h<;>first|(cases h;done)|skip
            cases hb:Nat.blt _ x.n with
            |true=>rw[hb]at h;cases h;exact⟨he,JL.gNo (by simpa using hj) hd hk rfl hb⟩
            |false=>rw[hb]at h;cases h
        · rename_i hk
          rename_i b _ _ _ _ _ _ _ _ _ _ _ _
          cases b with
          |false=>cases h;exact⟨he,Zq (by simpa using hj) hd hk⟩
          | true=>
            rw[cond_true]at h
            split at h<;>first|(cases h;done)|skip
            cases hb:Nat.blt _ x.n with
            |true=>rw[hb]at h;cases h;exact⟨he,JL.gNo (by simpa using hj) hd hk rfl hb⟩
            |false=>rw[hb]at h;cases h
        · rename_i hk
          split at h<;>first|(cases h;done)|skip
          cases hb:Nat.blt _ x.n with
          |true=>rw[hb]at h;cases h;exact⟨he,JL.gNoU (by simpa using hj) hd hk hb⟩
          |false=>rw[hb]at h;cases h
        · cases h
      · cases h
    · cases h
  · cases h
def mrun (tb:Tab)(N:Nat):Nat→RS→Option RS
  |0,s=>some s
  | k+1,s=>match mstep tb N s with
    |some s'=>mrun tb N k s'
    |none=>none
theorem Zk{x:Cx}{tb:Tab}(ht:tb.Ok x.P){Q:Exit→Act→World→Prop}{H:Heaplet}:∀{k:Nat} {s s':RS},mrun tb x.n k s=some s'→s'.e1=s'.e2→
    s.e1=s.e2∧(Goal x Q H s'→Goal x Q H s)
  |0,s,s',h,he=>by cases h;exact⟨he,id⟩
  | k +1,s,s',h,he=>by
    simp only[mrun]at h
    split at h
    · rename_i h1
      obtain⟨e1,g1⟩:=Zk ht (k:=k) h he
      obtain⟨e2,g2⟩:=mstep_ok ht (H:=H) (Q:=Q) h1 e1
      exact⟨e2,λg=>g2 (g1 g)⟩
    · cases h
section runs
variable{x:Cx}{tb:Tab}{Q:Exit→Act→World→Prop}{l l':Slots}{own own':List Own}{H:Heaplet}{ks':List KK}{E:List Nat}{c c':Code}{ops ops':Array Oper}{rest rest':List Oper}{e e':Exit}
variable{d0 d1 d2:Code}{i0 i1 i2:Nat}{k0 k1 k2:Act→World→Prop}
theorem Run.cc (hs:List Nat)(k:Nat)(ht:tb.Ok x.P)(h:mrun tb x.n k ⟨.c c,[],l,own,hs,[],[]⟩=some ⟨.c c',ks',l',own',[],E,E⟩)(g:JC x c' (den x ks' Q) l' own' H):JC x c Q l own H:=(Zk (Q:=Q) ht h rfl).2 g
theorem Run.ccz (hs:List Nat)(k:Nat)(ht:tb.Ok x.P)(h:mrun tb x.n k ⟨.c c,[],l,own,hs,[],[]⟩=some ⟨.c c',[],l',own',[],E,E⟩)(g:JC x c' Q l' own' H):JC x c Q l own H:=(Zk (Q:=Q) ht h rfl).2 g
theorem Run.cl (hs:List Nat)(k:Nat)(ht:tb.Ok x.P)(h:mrun tb x.n k ⟨.c c,[],l,own,hs,[],[]⟩=some ⟨.l ops' rest',ks',l',own',[],E,E⟩)(g:JL x ops' (den x ks' Q) rest' l' own' H):JC x c Q l own H:=(Zk (Q:=Q) ht h rfl).2 g
theorem Run.clz (hs:List Nat)(k:Nat)(ht:tb.Ok x.P)(h:mrun tb x.n k ⟨.c c,[],l,own,hs,[],[]⟩=some ⟨.l ops' rest',[],l',own',[],E,E⟩)(g:JL x ops' Q rest' l' own' H):JC x c Q l own H:=(Zk (Q:=Q) ht h rfl).2 g
theorem Run.cnz (hs:List Nat)(k:Nat)(ht:tb.Ok x.P)(h:mrun tb x.n k ⟨.c c,[],l,own,hs,[],[]⟩=some ⟨.n e',[],l',own',[],E,E⟩)(g:JN x (Q e') l' own' H):JC x c Q l own H:=(Zk (Q:=Q) ht h rfl).2 g
theorem Run.llz (hs:List Nat)(k:Nat)(ht:tb.Ok x.P)(h:mrun tb x.n k ⟨.l ops rest,[],l,own,hs,[],[]⟩=some ⟨.l ops' rest',[],l',own',[],E,E⟩)(g:JL x ops' Q rest' l' own' H):JL x ops Q rest l own H:=(Zk (Q:=Q) ht h rfl).2 g
theorem Run.lnz (hs:List Nat)(k:Nat)(ht:tb.Ok x.P)(h:mrun tb x.n k ⟨.l ops rest,[],l,own,hs,[],[]⟩=some ⟨.n e',[],l',own',[],E,E⟩)(g:JN x (Q e') l' own' H):JL x ops Q rest l own H:=(Zk (Q:=Q) ht h rfl).2 g
theorem Run.cc_s (hs:List Nat)(k:Nat)(ht:tb.Ok x.P)(h:mrun tb x.n k ⟨.c c,[.s d0],l,own,hs,[],[]⟩=some ⟨.c c',ks',l',own',[],E,E⟩)(g:JC x c' (den x ks' Q) l' own' H):JC x c (Exit.then (d0.wpIn (Fw x.r) 0 x.P Q) Q) l own H:=(Zk (Q:=Q) ht h rfl).2 g
theorem Run.ccz_s (hs:List Nat)(k:Nat)(ht:tb.Ok x.P)(h:mrun tb x.n k ⟨.c c,[.s d0],l,own,hs,[],[]⟩=some ⟨.c c',[],l',own',[],E,E⟩)(g:JC x c' Q l' own' H):JC x c (Exit.then (d0.wpIn (Fw x.r) 0 x.P Q) Q) l own H:=(Zk (Q:=Q) ht h rfl).2 g
theorem Run.cl_s (hs:List Nat)(k:Nat)(ht:tb.Ok x.P)(h:mrun tb x.n k ⟨.c c,[.s d0],l,own,hs,[],[]⟩=some ⟨.l ops' rest',ks',l',own',[],E,E⟩)(g:JL x ops' (den x ks' Q) rest' l' own' H):JC x c (Exit.then (d0.wpIn (Fw x.r) 0 x.P Q) Q) l own H:=(Zk (Q:=Q) ht h rfl).2 g
theorem Run.clz_s (hs:List Nat)(k:Nat)(ht:tb.Ok x.P)(h:mrun tb x.n k ⟨.c c,[.s d0],l,own,hs,[],[]⟩=some ⟨.l ops' rest',[],l',own',[],E,E⟩)(g:JL x ops' Q rest' l' own' H):JC x c (Exit.then (d0.wpIn (Fw x.r) 0 x.P Q) Q) l own H:=(Zk (Q:=Q) ht h rfl).2 g
theorem Run.cnz_s (hs:List Nat)(k:Nat)(ht:tb.Ok x.P)(h:mrun tb x.n k ⟨.c c,[.s d0],l,own,hs,[],[]⟩=some ⟨.n e',[],l',own',[],E,E⟩)(g:JN x (Q e') l' own' H):JC x c (Exit.then (d0.wpIn (Fw x.r) 0 x.P Q) Q) l own H:=(Zk (Q:=Q) ht h rfl).2 g
theorem Run.lc_s (hs:List Nat)(k:Nat)(ht:tb.Ok x.P)(h:mrun tb x.n k ⟨.l ops rest,[.s d0],l,own,hs,[],[]⟩=some ⟨.c c',ks',l',own',[],E,E⟩)(g:JC x c' (den x ks' Q) l' own' H):JL x ops (Exit.then (d0.wpIn (Fw x.r) 0 x.P Q) Q) rest l own H:=(Zk (Q:=Q) ht h rfl).2 g
theorem Run.lcz_s (hs:List Nat)(k:Nat)(ht:tb.Ok x.P)(h:mrun tb x.n k ⟨.l ops rest,[.s d0],l,own,hs,[],[]⟩=some ⟨.c c',[],l',own',[],E,E⟩)(g:JC x c' Q l' own' H):JL x ops (Exit.then (d0.wpIn (Fw x.r) 0 x.P Q) Q) rest l own H:=(Zk (Q:=Q) ht h rfl).2 g
theorem Run.ll_s (hs:List Nat)(k:Nat)(ht:tb.Ok x.P)(h:mrun tb x.n k ⟨.l ops rest,[.s d0],l,own,hs,[],[]⟩=some ⟨.l ops' rest',ks',l',own',[],E,E⟩)(g:JL x ops' (den x ks' Q) rest' l' own' H):JL x ops (Exit.then (d0.wpIn (Fw x.r) 0 x.P Q) Q) rest l own H:=(Zk (Q:=Q) ht h rfl).2 g
theorem Run.llz_s (hs:List Nat)(k:Nat)(ht:tb.Ok x.P)(h:mrun tb x.n k ⟨.l ops rest,[.s d0],l,own,hs,[],[]⟩=some ⟨.l ops' rest',[],l',own',[],E,E⟩)(g:JL x ops' Q rest' l' own' H):JL x ops (Exit.then (d0.wpIn (Fw x.r) 0 x.P Q) Q) rest l own H:=(Zk (Q:=Q) ht h rfl).2 g
theorem Run.lnz_s (hs:List Nat)(k:Nat)(ht:tb.Ok x.P)(h:mrun tb x.n k ⟨.l ops rest,[.s d0],l,own,hs,[],[]⟩=some ⟨.n e',[],l',own',[],E,E⟩)(g:JN x (Q e') l' own' H):JL x ops (Exit.then (d0.wpIn (Fw x.r) 0 x.P Q) Q) rest l own H:=(Zk (Q:=Q) ht h rfl).2 g
theorem Run.nc_s (hs:List Nat)(k:Nat)(ht:tb.Ok x.P)(h:mrun tb x.n k ⟨.n e,[.s d0],l,own,hs,[],[]⟩=some ⟨.c c',ks',l',own',[],E,E⟩)(g:JC x c' (den x ks' Q) l' own' H):JN x ((Exit.then (d0.wpIn (Fw x.r) 0 x.P Q) Q) e) l own H:=(Zk (Q:=Q) ht h rfl).2 g
theorem Run.nl_s (hs:List Nat)(k:Nat)(ht:tb.Ok x.P)(h:mrun tb x.n k ⟨.n e,[.s d0],l,own,hs,[],[]⟩=some ⟨.l ops' rest',ks',l',own',[],E,E⟩)(g:JL x ops' (den x ks' Q) rest' l' own' H):JN x ((Exit.then (d0.wpIn (Fw x.r) 0 x.P Q) Q) e) l own H:=(Zk (Q:=Q) ht h rfl).2 g
theorem Run.nlz_s (hs:List Nat)(k:Nat)(ht:tb.Ok x.P)(h:mrun tb x.n k ⟨.n e,[.s d0],l,own,hs,[],[]⟩=some ⟨.l ops' rest',[],l',own',[],E,E⟩)(g:JL x ops' Q rest' l' own' H):JN x ((Exit.then (d0.wpIn (Fw x.r) 0 x.P Q) Q) e) l own H:=(Zk (Q:=Q) ht h rfl).2 g
theorem Run.nnz_s (hs:List Nat)(k:Nat)(ht:tb.Ok x.P)(h:mrun tb x.n k ⟨.n e,[.s d0],l,own,hs,[],[]⟩=some ⟨.n e',[],l',own',[],E,E⟩)(g:JN x (Q e') l' own' H):JN x ((Exit.then (d0.wpIn (Fw x.r) 0 x.P Q) Q) e) l own H:=(Zk (Q:=Q) ht h rfl).2 g
theorem Run.cnz_k (hs:List Nat)(k:Nat)(ht:tb.Ok x.P)(h:mrun tb x.n k ⟨.c c,[.k k0],l,own,hs,[],[]⟩=some ⟨.n e',[],l',own',[],E,E⟩)(g:JN x (Q e') l' own' H):JC x c (Exit.then k0 Q) l own H:=(Zk (Q:=Q) ht h rfl).2 g
theorem Run.cnz_kb (hs:List Nat)(k:Nat)(ht:tb.Ok x.P)(h:mrun tb x.n k ⟨.c c,[.k k0,.b i1],l,own,hs,[],[]⟩=some ⟨.n e',[],l',own',[],E,E⟩)(g:JN x (Q e') l' own' H):JC x c (Exit.then k0 (Exit.inBlock i1 Q)) l own H:=(Zk (Q:=Q) ht h rfl).2 g
theorem Run.nnz_kb (hs:List Nat)(k:Nat)(ht:tb.Ok x.P)(h:mrun tb x.n k ⟨.n e,[.k k0,.b i1],l,own,hs,[],[]⟩=some ⟨.n e',[],l',own',[],E,E⟩)(g:JN x (Q e') l' own' H):JN x ((Exit.then k0 (Exit.inBlock i1 Q)) e) l own H:=(Zk (Q:=Q) ht h rfl).2 g
theorem Run.cnz_sk (hs:List Nat)(k:Nat)(ht:tb.Ok x.P)(h:mrun tb x.n k ⟨.c c,[.s d0,.k k1],l,own,hs,[],[]⟩=some ⟨.n e',[],l',own',[],E,E⟩)(g:JN x (Q e') l' own' H):JC x c (Exit.then (d0.wpIn (Fw x.r) 0 x.P (Exit.then k1 Q)) (Exit.then k1 Q)) l own H:=(Zk (Q:=Q) ht h rfl).2 g
theorem Run.lnz_sk (hs:List Nat)(k:Nat)(ht:tb.Ok x.P)(h:mrun tb x.n k ⟨.l ops rest,[.s d0,.k k1],l,own,hs,[],[]⟩=some ⟨.n e',[],l',own',[],E,E⟩)(g:JN x (Q e') l' own' H):JL x ops (Exit.then (d0.wpIn (Fw x.r) 0 x.P (Exit.then k1 Q)) (Exit.then k1 Q)) rest l own H:=(Zk (Q:=Q) ht h rfl).2 g
theorem Run.nnz_sk (hs:List Nat)(k:Nat)(ht:tb.Ok x.P)(h:mrun tb x.n k ⟨.n e,[.s d0,.k k1],l,own,hs,[],[]⟩=some ⟨.n e',[],l',own',[],E,E⟩)(g:JN x (Q e') l' own' H):JN x ((Exit.then (d0.wpIn (Fw x.r) 0 x.P (Exit.then k1 Q)) (Exit.then k1 Q)) e) l own H:=(Zk (Q:=Q) ht h rfl).2 g
theorem Run.cc_bs (hs:List Nat)(k:Nat)(ht:tb.Ok x.P)(h:mrun tb x.n k ⟨.c c,[.b i0,.s d1],l,own,hs,[],[]⟩=some ⟨.c c',ks',l',own',[],E,E⟩)(g:JC x c' (den x ks' Q) l' own' H):JC x c (Exit.inBlock i0 (Exit.then (d1.wpIn (Fw x.r) 0 x.P Q) Q)) l own H:=(Zk (Q:=Q) ht h rfl).2 g
theorem Run.cl_bs (hs:List Nat)(k:Nat)(ht:tb.Ok x.P)(h:mrun tb x.n k ⟨.c c,[.b i0,.s d1],l,own,hs,[],[]⟩=some ⟨.l ops' rest',ks',l',own',[],E,E⟩)(g:JL x ops' (den x ks' Q) rest' l' own' H):JC x c (Exit.inBlock i0 (Exit.then (d1.wpIn (Fw x.r) 0 x.P Q) Q)) l own H:=(Zk (Q:=Q) ht h rfl).2 g
theorem Run.clz_bs (hs:List Nat)(k:Nat)(ht:tb.Ok x.P)(h:mrun tb x.n k ⟨.c c,[.b i0,.s d1],l,own,hs,[],[]⟩=some ⟨.l ops' rest',[],l',own',[],E,E⟩)(g:JL x ops' Q rest' l' own' H):JC x c (Exit.inBlock i0 (Exit.then (d1.wpIn (Fw x.r) 0 x.P Q) Q)) l own H:=(Zk (Q:=Q) ht h rfl).2 g
theorem Run.llz_bs (hs:List Nat)(k:Nat)(ht:tb.Ok x.P)(h:mrun tb x.n k ⟨.l ops rest,[.b i0,.s d1],l,own,hs,[],[]⟩=some ⟨.l ops' rest',[],l',own',[],E,E⟩)(g:JL x ops' Q rest' l' own' H):JL x ops (Exit.inBlock i0 (Exit.then (d1.wpIn (Fw x.r) 0 x.P Q) Q)) rest l own H:=(Zk (Q:=Q) ht h rfl).2 g
theorem Run.lnz_bs (hs:List Nat)(k:Nat)(ht:tb.Ok x.P)(h:mrun tb x.n k ⟨.l ops rest,[.b i0,.s d1],l,own,hs,[],[]⟩=some ⟨.n e',[],l',own',[],E,E⟩)(g:JN x (Q e') l' own' H):JL x ops (Exit.inBlock i0 (Exit.then (d1.wpIn (Fw x.r) 0 x.P Q) Q)) rest l own H:=(Zk (Q:=Q) ht h rfl).2 g
theorem Run.nl_bs (hs:List Nat)(k:Nat)(ht:tb.Ok x.P)(h:mrun tb x.n k ⟨.n e,[.b i0,.s d1],l,own,hs,[],[]⟩=some ⟨.l ops' rest',ks',l',own',[],E,E⟩)(g:JL x ops' (den x ks' Q) rest' l' own' H):JN x ((Exit.inBlock i0 (Exit.then (d1.wpIn (Fw x.r) 0 x.P Q) Q)) e) l own H:=(Zk (Q:=Q) ht h rfl).2 g
theorem Run.nlz_bs (hs:List Nat)(k:Nat)(ht:tb.Ok x.P)(h:mrun tb x.n k ⟨.n e,[.b i0,.s d1],l,own,hs,[],[]⟩=some ⟨.l ops' rest',[],l',own',[],E,E⟩)(g:JL x ops' Q rest' l' own' H):JN x ((Exit.inBlock i0 (Exit.then (d1.wpIn (Fw x.r) 0 x.P Q) Q)) e) l own H:=(Zk (Q:=Q) ht h rfl).2 g
theorem Run.nnz_bs (hs:List Nat)(k:Nat)(ht:tb.Ok x.P)(h:mrun tb x.n k ⟨.n e,[.b i0,.s d1],l,own,hs,[],[]⟩=some ⟨.n e',[],l',own',[],E,E⟩)(g:JN x (Q e') l' own' H):JN x ((Exit.inBlock i0 (Exit.then (d1.wpIn (Fw x.r) 0 x.P Q) Q)) e) l own H:=(Zk (Q:=Q) ht h rfl).2 g
theorem Run.cnz_kk (hs:List Nat)(k:Nat)(ht:tb.Ok x.P)(h:mrun tb x.n k ⟨.c c,[.k k0,.k k1],l,own,hs,[],[]⟩=some ⟨.n e',[],l',own',[],E,E⟩)(g:JN x (Q e') l' own' H):JC x c (Exit.then k0 (Exit.then k1 Q)) l own H:=(Zk (Q:=Q) ht h rfl).2 g
theorem Run.nnz_kk (hs:List Nat)(k:Nat)(ht:tb.Ok x.P)(h:mrun tb x.n k ⟨.n e,[.k k0,.k k1],l,own,hs,[],[]⟩=some ⟨.n e',[],l',own',[],E,E⟩)(g:JN x (Q e') l' own' H):JN x ((Exit.then k0 (Exit.then k1 Q)) e) l own H:=(Zk (Q:=Q) ht h rfl).2 g
theorem Run.cnz_bk (hs:List Nat)(k:Nat)(ht:tb.Ok x.P)(h:mrun tb x.n k ⟨.c c,[.b i0,.k k1],l,own,hs,[],[]⟩=some ⟨.n e',[],l',own',[],E,E⟩)(g:JN x (Q e') l' own' H):JC x c (Exit.inBlock i0 (Exit.then k1 Q)) l own H:=(Zk (Q:=Q) ht h rfl).2 g
theorem Run.cnz_b (hs:List Nat)(k:Nat)(ht:tb.Ok x.P)(h:mrun tb x.n k ⟨.c c,[.b i0],l,own,hs,[],[]⟩=some ⟨.n e',[],l',own',[],E,E⟩)(g:JN x (Q e') l' own' H):JC x c (Exit.inBlock i0 Q) l own H:=(Zk (Q:=Q) ht h rfl).2 g
theorem Run.lnz_b (hs:List Nat)(k:Nat)(ht:tb.Ok x.P)(h:mrun tb x.n k ⟨.l ops rest,[.b i0],l,own,hs,[],[]⟩=some ⟨.n e',[],l',own',[],E,E⟩)(g:JN x (Q e') l' own' H):JL x ops (Exit.inBlock i0 Q) rest l own H:=(Zk (Q:=Q) ht h rfl).2 g
theorem Run.lnz_sbk (hs:List Nat)(k:Nat)(ht:tb.Ok x.P)(h:mrun tb x.n k ⟨.l ops rest,[.s d0,.b i1,.k k2],l,own,hs,[],[]⟩=some ⟨.n e',[],l',own',[],E,E⟩)(g:JN x (Q e') l' own' H):JL x ops (Exit.then (d0.wpIn (Fw x.r) 0 x.P (Exit.inBlock i1 (Exit.then k2 Q))) (Exit.inBlock i1 (Exit.then k2 Q))) rest l own H:=(Zk (Q:=Q) ht h rfl).2 g
theorem Run.nnz_sbk (hs:List Nat)(k:Nat)(ht:tb.Ok x.P)(h:mrun tb x.n k ⟨.n e,[.s d0,.b i1,.k k2],l,own,hs,[],[]⟩=some ⟨.n e',[],l',own',[],E,E⟩)(g:JN x (Q e') l' own' H):JN x ((Exit.then (d0.wpIn (Fw x.r) 0 x.P (Exit.inBlock i1 (Exit.then k2 Q))) (Exit.inBlock i1 (Exit.then k2 Q))) e) l own H:=(Zk (Q:=Q) ht h rfl).2 g
theorem Run.llz_sbs (hs:List Nat)(k:Nat)(ht:tb.Ok x.P)(h:mrun tb x.n k ⟨.l ops rest,[.s d0,.b i1,.s d2],l,own,hs,[],[]⟩=some ⟨.l ops' rest',[],l',own',[],E,E⟩)(g:JL x ops' Q rest' l' own' H):JL x ops (Exit.then (d0.wpIn (Fw x.r) 0 x.P (Exit.inBlock i1 (Exit.then (d2.wpIn (Fw x.r) 0 x.P Q) Q))) (Exit.inBlock i1 (Exit.then (d2.wpIn (Fw x.r) 0 x.P Q) Q))) rest l own H:=(Zk (Q:=Q) ht h rfl).2 g
theorem Run.lnz_sbs (hs:List Nat)(k:Nat)(ht:tb.Ok x.P)(h:mrun tb x.n k ⟨.l ops rest,[.s d0,.b i1,.s d2],l,own,hs,[],[]⟩=some ⟨.n e',[],l',own',[],E,E⟩)(g:JN x (Q e') l' own' H):JL x ops (Exit.then (d0.wpIn (Fw x.r) 0 x.P (Exit.inBlock i1 (Exit.then (d2.wpIn (Fw x.r) 0 x.P Q) Q))) (Exit.inBlock i1 (Exit.then (d2.wpIn (Fw x.r) 0 x.P Q) Q))) rest l own H:=(Zk (Q:=Q) ht h rfl).2 g
theorem Run.nlz_sbs (hs:List Nat)(k:Nat)(ht:tb.Ok x.P)(h:mrun tb x.n k ⟨.n e,[.s d0,.b i1,.s d2],l,own,hs,[],[]⟩=some ⟨.l ops' rest',[],l',own',[],E,E⟩)(g:JL x ops' Q rest' l' own' H):JN x ((Exit.then (d0.wpIn (Fw x.r) 0 x.P (Exit.inBlock i1 (Exit.then (d2.wpIn (Fw x.r) 0 x.P Q) Q))) (Exit.inBlock i1 (Exit.then (d2.wpIn (Fw x.r) 0 x.P Q) Q))) e) l own H:=(Zk (Q:=Q) ht h rfl).2 g
theorem Run.cnz_kkb (hs:List Nat)(k:Nat)(ht:tb.Ok x.P)(h:mrun tb x.n k ⟨.c c,[.k k0,.k k1,.b i2],l,own,hs,[],[]⟩=some ⟨.n e',[],l',own',[],E,E⟩)(g:JN x (Q e') l' own' H):JC x c (Exit.then k0 (Exit.then k1 (Exit.inBlock i2 Q))) l own H:=(Zk (Q:=Q) ht h rfl).2 g
theorem Run.nnz_kkb (hs:List Nat)(k:Nat)(ht:tb.Ok x.P)(h:mrun tb x.n k ⟨.n e,[.k k0,.k k1,.b i2],l,own,hs,[],[]⟩=some ⟨.n e',[],l',own',[],E,E⟩)(g:JN x (Q e') l' own' H):JN x ((Exit.then k0 (Exit.then k1 (Exit.inBlock i2 Q))) e) l own H:=(Zk (Q:=Q) ht h rfl).2 g
theorem Run.cnz_kbk (hs:List Nat)(k:Nat)(ht:tb.Ok x.P)(h:mrun tb x.n k ⟨.c c,[.k k0,.b i1,.k k2],l,own,hs,[],[]⟩=some ⟨.n e',[],l',own',[],E,E⟩)(g:JN x (Q e') l' own' H):JC x c (Exit.then k0 (Exit.inBlock i1 (Exit.then k2 Q))) l own H:=(Zk (Q:=Q) ht h rfl).2 g
end runs
end Go.Ow
namespace Go.Ow
open Go.RowKit
class MonoC {α:Type} (R:Rep α):Prop where
  h:R.Mono
instance:MonoC RU8:=⟨RU8.mono⟩
instance:MonoC RU32:=⟨RU32.mono⟩
instance:MonoC RU64:=⟨RU64.mono⟩
instance:MonoC RInt:=⟨RInt.mono⟩
instance:MonoC RBool:=⟨RBool.mono⟩
instance:MonoC RStr:=⟨RStr.mono⟩
instance{α:Type}{R:Rep α}{n:Nat} [h:MonoC R]:MonoC (RSl R n):=⟨RSl.mono h.h⟩
instance:MonoC R_Call:=⟨R_Call.mono⟩
instance:MonoC R_Change:=⟨R_Change.mono⟩
instance:MonoC R_Deed:=⟨R_Deed.mono⟩
instance:MonoC R_Disk:=⟨R_Disk.mono⟩
instance:MonoC R_Entry:=⟨R_Entry.mono⟩
instance:MonoC R_Info:=⟨R_Info.mono⟩
instance:MonoC R_Label:=⟨R_Label.mono⟩
instance:MonoC R_Line:=⟨R_Line.mono⟩
instance:MonoC R_Object:=⟨R_Object.mono⟩
instance:MonoC R_Pair:=⟨R_Pair.mono⟩
instance:MonoC R_Part:=⟨R_Part.mono⟩
instance:MonoC R_Pool:=⟨R_Pool.mono⟩
instance:MonoC R_Ptr:=⟨R_Ptr.mono⟩
instance:MonoC R_Reply:=⟨R_Reply.mono⟩
instance:MonoC R_Signer:=⟨R_Signer.mono⟩
instance:MonoC R_Store:=⟨R_Store.mono⟩
instance:MonoC R_Stream:=⟨R_Stream.mono⟩
instance:MonoC R_Write:=⟨R_Write.mono⟩
instance:MonoC R_WriteO:=⟨R_WriteO.mono⟩
inductive Sp:Type 1 where
  |i (n:Int)
  |b (x:Bool)
  |w8 (x:UInt8)
  |w32 (x:UInt32)
  |w64 (x:UInt64)
  |s (l:List UInt8)
  |st (c:Nat)
  |fv (f:Nat)
  |cx {α:Type} (N:Bool) (R:Rep α) (hR:MonoC R) (n:Nat) (m:List α)
  |sx {α:Type} (N:Bool) (R:Rep α) (hR:MonoC R) (n:Nat) (m:List α)
  |rx {α:Type} (N:Bool) (R:Rep α) (hR:MonoC R) (E n:Nat) (m:List α)
@[reducible] def Sp.sl {α:Type} (N:Bool) (R:Rep α) [h:MonoC R] (n:Nat) (m:List α):Sp:=.sx N R h n m
@[reducible] def Sp.cl {α:Type} (N:Bool) (R:Rep α) [h:MonoC R] (n:Nat) (m:List α):Sp:=.cx N R h n m
@[reducible] def Sp.row {α:Type} (N:Bool) (R:Rep α) [h:MonoC R] (E n:Nat) (m:List α):Sp:=.rx N R h E n m
def sp_Disk (N:Bool)(x:Disk):List Sp:=[.st 2,.sl N (RSl RU8 1) 1 x.Blocks,.sl N R_Write 2 x.Waits]
def sp_Ptr (N:Bool)(x:Ptr):List Sp:=[.st 5,.i x.At,.w32 x.Birth,.w32 x.Iv,.w32 x.Tag,.w32 x.Sum]
def sp_Object (N:Bool)(x:Object):List Sp:=[.st 4,.w8 x.Kind,.i x.Links,.i x.Size,.sl N R_Ptr 5 x.Data]
def sp_Line (N:Bool)(x:Line):List Sp:=[.st 13,.i x.Id,.w8 x.Kind,.i x.Owner,.i x.Prev,.w32 x.Txg,.w32 x.Guid,.i x.Key,.i x.Root.At,.w32 x.Root.Birth,.w32 x.Root.Iv,.w32 x.Root.Tag,.w32 x.Root.Sum,.sl N R_Ptr 5 x.Dead]
def sp_Store (N:Bool)(x:Store):List Sp:=[.st 5,.sl N (RSl RU8 1) 1 x.Disk.Blocks,.sl N R_Write 2 x.Disk.Waits,.sl N RU8 1 x.Space,.w32 x.Epoch,.w32 x.Count]
def sp_Change (N:Bool)(x:Change):List Sp:=[.st 12,.i x.Set,.i x.Obj,.i x.Index,.w8 x.Kind,.i x.Links,.i x.Size,.sl N RU8 1 x.Data,.i x.Laid.At,.w32 x.Laid.Birth,.w32 x.Laid.Iv,.w32 x.Laid.Tag,.w32 x.Laid.Sum]
def sp_Pool (N:Bool)(x:Pool):List Sp:=[.st 19,.sl N (RSl RU8 1) 1 x.Store.Disk.Blocks,.sl N R_Write 2 x.Store.Disk.Waits,.sl N RU8 1 x.Store.Space,.w32 x.Store.Epoch,.w32 x.Store.Count,.w32 x.Gen,.i x.Root.At,.w32 x.Root.Birth,.w32 x.Root.Iv,.w32 x.Root.Tag,.w32 x.Root.Sum,.sl N RInt 1 x.MetaL,.sl N R_Line 13 x.Lines,.sl N (RSl RU8 1) 1 x.Keys,.sl N (RSl RU8 1) 1 x.Loaded,.sl N R_Change 12 x.Changes,.i x.Logged,.i x.NextId,.w32 x.NextGuid]
def takeK:Nat→List Value→(List Value→List Value→Prop)→Prop
 |0,vs,k=>k [] vs
 |c+1,v::vs,k=>takeK c vs (λa b=>k (v::a) b)
 |_+1,[],k=>k [] []
theorem takeK_eq:∀(c:Nat) (vs:List Value) (k:List Value→List Value→Prop),takeK c vs k→k (vs.take c) (vs.drop c)
 |0,vs,k,h=>h
 |c+1,[],k,h=>h
 |c+1,v::vs,k,h=>takeK_eq c vs (λa b=>k (v::a) b) h
def fl:List Sp→List Value→List Value
 |[],_=> []
 | .st c::as,.agg cs::vs=>.agg ((fl as (cs.toList++vs)).take c).toArray::(fl as (cs.toList++vs)).drop c
 | .st _::_,_=> []
 | .sx .. ::as,v::vs=>v::fl as vs
 | .cx .. ::as,v::vs=>v::fl as vs
 | .fv f::as,_::vs=>.func (.func f) #[] #[]::fl as vs
 | .rx .. ::as,v::vs=>v::fl as vs
 | .i n::as,_::vs=>.int .i64 n::fl as vs
 | .b x::as,_::vs=>.bool x::fl as vs
 | .w8 x::as,_::vs=>.int .u8 (x.toNat:Int)::fl as vs
 | .w32 x::as,_::vs=>.int .u32 (x.toNat:Int)::fl as vs
 | .w64 x::as,_::vs=>.int .u64 (x.toNat:Int)::fl as vs
 | .s x::as,_::vs=>.string (Ow.bs x)::fl as vs
 |_::_,[]=> []
theorem fl_st{c:Nat}{as:List Sp}{cs:Array Value}{vs:List Value}(h:fl (.st c::as) (.agg cs::vs)=.agg cs::vs):
 fl as (cs.toList++vs)=cs.toList++vs∧(cs.toList++vs).take c=cs.toList∧(cs.toList++vs).drop c=vs:=by
 simp only[fl]at h
 obtain⟨h1,h2⟩:=List.cons.inj h
 have h3:=congrArg Array.toList (Value.agg.inj h1)
 rw[List.toList_toArray]at h3
 have h4:fl as (cs.toList++vs)=cs.toList++vs:=by
  conv=>lhs;rw[←List.take_append_drop c (fl as (cs.toList++vs)),h3,h2]
 exact⟨h4,by rw[←h4];exact h3,by rw[←h4];exact h2⟩
def Ent (H:Heaplet):List Sp→(List Value→Prop)→Prop
 |[],k=>k []
 | .st c::as,k=>Ent H as (λvs=>takeK c vs (λa b=>k (.agg a.toArray::b)))
 | .sx _ R hR n m::as,k=>∀(ao:Option Addr) (ln cap:Nat),IsSlice H R n (.slice ao ln cap) m→Ent H as (λvs=>k (.slice ao ln cap::vs))
 | .rx .. ::as,k=>True
 | .cx .. ::as,k=>True
 | .fv f::as,k=>Ent H as (λvs=>k (.func (.func f) #[] #[]::vs))
 | .i n::as,k=>Ent H as (λvs=>k (.int .i64 n::vs))
 | .b x::as,k=>Ent H as (λvs=>k (.bool x::vs))
 | .w8 x::as,k=>Ent H as (λvs=>k (.int .u8 (x.toNat:Int)::vs))
 | .w32 x::as,k=>Ent H as (λvs=>k (.int .u32 (x.toNat:Int)::vs))
 | .w64 x::as,k=>Ent H as (λvs=>k (.int .u64 (x.toNat:Int)::vs))
 | .s x::as,k=>Ent H as (λvs=>k (.string (Ow.bs x)::vs))
def Fit (H:Heaplet):List Sp→List Value→Prop
 |[],_=>True
 | .st _::as,.agg cs::vs=>Fit H as (cs.toList++vs)
 | .st _::_,_=>False
 | .sx _ R hR n m::as,v::vs=>IsSlice H R n v m∧Fit H as vs
 | .rx .. ::_,_=>False
 | .cx .. ::_,_=>False
 | .fv _::as,_::vs=>Fit H as vs
 | .i _::as,_::vs=>Fit H as vs
 | .b _::as,_::vs=>Fit H as vs
 | .w8 _::as,_::vs=>Fit H as vs
 | .w32 _::as,_::vs=>Fit H as vs
 | .w64 _::as,_::vs=>Fit H as vs
 | .s _::as,_::vs=>Fit H as vs
 |_::_,[]=>False
theorem ent_fit{H:Heaplet}:∀{as:List Sp} {vs:List Value} {k:List Value→Prop},Ent H as k→fl as vs=vs→Fit H as vs→k vs
  |[],vs,k,h,e,_=>by simp only[fl]at e;rw[←e];exact h
  | .st c::as,[],k,h,e,f=>f.elim
  | .st c::as,v::vs,k,h,e,f=>by
    cases v<;>first|exact f.elim|skip
    rename_i cs
    obtain⟨e1,e2,e3⟩:=fl_st e
    have:=takeK_eq _ _ _ (ent_fit (as:=as) (k:=λvs=>takeK c vs (λa b=>k (.agg a.toArray::b))) h e1 f)
    rw[e2,e3]at this
    simpa using this
  | .rx .. ::as,[],k,h,e,f=>f.elim
  | .rx .. ::as,_::_,k,h,e,f=>f.elim
  | .cx .. ::as,[],k,h,e,f=>f.elim
  | .cx .. ::as,_::_,k,h,e,f=>f.elim
  | .fv _::as,[],k,h,e,f=>f.elim
  | .fv _::as,_::vs,k,h,e,f=>by obtain⟨e1,e2⟩:=List.cons.inj e;subst e1;exact ent_fit (k:=λvs=>k (_::vs)) h e2 f
  | .sx _ R hR n m::as,[],k,h,e,f=>f.elim
  | .sx _ R hR n m::as,v::vs,k,h,e,f=>by
    obtain⟨ao,cap,rfl⟩:=IsSlice.val f.1
    exact ent_fit (as:=as) (k:=λvs=>k (_::vs)) (h ao m.length cap f.1) (List.cons.inj e).2 f.2
  | .i _::as,[],k,h,e,f=>f.elim
  | .i _::as,_::vs,k,h,e,f=>by obtain⟨e1,e2⟩:=List.cons.inj e;subst e1;exact ent_fit (k:=λvs=>k (_::vs)) h e2 f
  | .b _::as,[],k,h,e,f=>f.elim
  | .b _::as,_::vs,k,h,e,f=>by obtain⟨e1,e2⟩:=List.cons.inj e;subst e1;exact ent_fit (k:=λvs=>k (_::vs)) h e2 f
  | .w8 _::as,[],k,h,e,f=>f.elim
  | .w8 _::as,_::vs,k,h,e,f=>by obtain⟨e1,e2⟩:=List.cons.inj e;subst e1;exact ent_fit (k:=λvs=>k (_::vs)) h e2 f
  | .w32 _::as,[],k,h,e,f=>f.elim
  | .w32 _::as,_::vs,k,h,e,f=>by obtain⟨e1,e2⟩:=List.cons.inj e;subst e1;exact ent_fit (k:=λvs=>k (_::vs)) h e2 f
  | .w64 _::as,[],k,h,e,f=>f.elim
  | .w64 _::as,_::vs,k,h,e,f=>by obtain⟨e1,e2⟩:=List.cons.inj e;subst e1;exact ent_fit (k:=λvs=>k (_::vs)) h e2 f
  | .s _::as,[],k,h,e,f=>f.elim
  | .s _::as,_::vs,k,h,e,f=>by obtain⟨e1,e2⟩:=List.cons.inj e;subst e1;exact ent_fit (k:=λvs=>k (_::vs)) h e2 f
def HN:Bool→Heaplet→Heaplet→Heaplet
 |true,H0,H=>New H0 H
 |false,_,H=>H
def Out (H0 H:Heaplet):List Sp→List Value→List Own→Prop
 |[],_,Ks=>Ks= []
 | .st _::bs,.agg cs::vs,Ks=>Out H0 H bs (cs.toList++vs) Ks
 | .st _::_,_,_=>False
 | .sx N R hR n m::bs,v::vs,Ks=>IsSlice (HN N H0 H) R n v m∧Out H0 H bs vs Ks
 | .rx N R hR E n m::bs,v::vs,K::Ks=>(∃B,RowOf (HN N H0 H) R B E n v m K)∧Out H0 H bs vs Ks
 | .rx .. ::_,_::_,[]=>False
 | .cx N R hR n m::bs,v::vs,Ks=>((∃ao ln,v=.slice ao ln ln)∧IsSlice (HN N H0 H) R n v m)∧Out H0 H bs vs Ks
 | .fv _::_,_,_=>False
 | .i _::bs,_::vs,Ks=>Out H0 H bs vs Ks
 | .b _::bs,_::vs,Ks=>Out H0 H bs vs Ks
 | .w8 _::bs,_::vs,Ks=>Out H0 H bs vs Ks
 | .w32 _::bs,_::vs,Ks=>Out H0 H bs vs Ks
 | .w64 _::bs,_::vs,Ks=>Out H0 H bs vs Ks
 | .s _::bs,_::vs,Ks=>Out H0 H bs vs Ks
 |_::_,[],_=>False
def Bnd (H0 H:Heaplet)(B:Nat)(own:List Own):List Sp→(List Value→List Own→Prop)→Prop
 |[],k=>k [] own
 | .st c::bs,k=>Bnd H0 H B own bs (λvs o=>takeK c vs (λa b=>k (.agg a.toArray::b) o))
 | .sx true R hR n m::bs,k=>∀(ao:Option Addr) (ln cap:Nat),IsSlice (New H0 H) R n (.slice ao ln cap) m→Bnd H0 H B own bs (λvs o=>k (.slice ao ln cap::vs) o)
 | .sx false R hR n m::bs,k=>∀(ao:Option Addr) (ln cap:Nat),IsSlice H R n (.slice ao ln cap) m→Bnd H0 H B own bs (λvs o=>k (.slice ao ln cap::vs) o)
 | .rx true R hR E n m::bs,k=>∀(ao:Option Addr) (ln cap:Nat) (K:Own),RowOf (New H0 H) R B E n (.slice ao ln cap) m K→Bnd H0 H B own bs (λvs o=>k (.slice ao ln cap::vs) (K::o))
 | .rx false R hR E n m::bs,k=>∀(ao:Option Addr) (ln cap:Nat) (K:Own),RowOf H R B E n (.slice ao ln cap) m K→Bnd H0 H B own bs (λvs o=>k (.slice ao ln cap::vs) (K::o))
 | .cx true R hR n m::bs,k=>∀(ao:Option Addr) (ln:Nat),IsSlice (New H0 H) R n (.slice ao ln ln) m→Bnd H0 H B own bs (λvs o=>k (.slice ao ln ln::vs) o)
 | .cx false R hR n m::bs,k=>∀(ao:Option Addr) (ln:Nat),IsSlice H R n (.slice ao ln ln) m→Bnd H0 H B own bs (λvs o=>k (.slice ao ln ln::vs) o)
 | .fv _::bs,k=>True
 | .i n::bs,k=>Bnd H0 H B own bs (λvs o=>k (.int .i64 n::vs) o)
 | .b x::bs,k=>Bnd H0 H B own bs (λvs o=>k (.bool x::vs) o)
 | .w8 x::bs,k=>Bnd H0 H B own bs (λvs o=>k (.int .u8 (x.toNat:Int)::vs) o)
 | .w32 x::bs,k=>Bnd H0 H B own bs (λvs o=>k (.int .u32 (x.toNat:Int)::vs) o)
 | .w64 x::bs,k=>Bnd H0 H B own bs (λvs o=>k (.int .u64 (x.toNat:Int)::vs) o)
 | .s x::bs,k=>Bnd H0 H B own bs (λvs o=>k (.string (Ow.bs x)::vs) o)
theorem bnd_out{H0 H1 H:Heaplet}{B:Nat}{own:List Own}(hle:Hle H0 H1):∀{bs:List Sp} {vs:List Value} {Ks:List Own} {k:List Value→List Own→Prop},
    Bnd H0 H B own bs k→fl bs vs=vs→Out H1 H bs vs Ks→(∀p∈Ks.flatten,B≤p.1)→k vs (Ks++own)
  |[],vs,Ks,k,h,e,f,hB=>by simp only[fl]at e;rw[←e,show Ks= []from f];exact h
  | .st c::bs,[],Ks,k,h,e,f,hB=>f.elim
  | .st c::bs,v::vs,Ks,k,h,e,f,hB=>by
    cases v<;>first|exact f.elim|skip
    rename_i cs
    obtain⟨e1,e2,e3⟩:=fl_st e
    have:=takeK_eq _ _ _ (bnd_out hle (k:=λvs o=>takeK c vs (λa b=>k (.agg a.toArray::b) o)) h e1 f hB)
    rw[e2,e3]at this
    simpa using this
  | .sx N R hR n m::bs,[],Ks,k,h,e,f,hB=>f.elim
  | .sx true R hR n m::bs,v::vs,Ks,k,h,e,f,hB=>by
    obtain⟨ao,cap,rfl⟩:=IsSlice.val f.1
    exact bnd_out hle (k:=λvs o=>k (_::vs) o) (h ao m.length cap (IsSlice.mono hR.h (New.call hle) f.1)) (List.cons.inj e).2 f.2 hB
  | .sx false R hR n m::bs,v::vs,Ks,k,h,e,f,hB=>by
    obtain⟨ao,cap,rfl⟩:=IsSlice.val f.1
    exact bnd_out hle (k:=λvs o=>k (_::vs) o) (h ao m.length cap f.1) (List.cons.inj e).2 f.2 hB
  | .rx N R hR E n m::bs,[],Ks,k,h,e,f,hB=>f.elim
  | .rx N R hR E n m::bs,v::vs,[],k,h,e,f,hB=>f.elim
  | .rx true R hR E n m::bs,v::vs,K::Ks,k,h,e,f,hB=>by
    obtain⟨⟨B',f1⟩,f2⟩:=f
    obtain⟨ao,cap,rfl⟩:=RowOf.val f1
    have f3:=RowOf.base (RowOf.mono hR.h (New.call hle) f1) (λp hp=>hB p (by simp[hp]))
    exact bnd_out hle (k:=λvs o=>k (_::vs) (K::o)) (h ao m.length cap K f3) (List.cons.inj e).2 f2 (λp hp=>hB p (by rw[List.flatten_cons];exact List.mem_append_right _ hp))
  | .rx false R hR E n m::bs,v::vs,K::Ks,k,h,e,f,hB=>by
    obtain⟨⟨B',f1⟩,f2⟩:=f
    obtain⟨ao,cap,rfl⟩:=RowOf.val f1
    have f3:=RowOf.base f1 (λp hp=>hB p (by simp[hp]))
    exact bnd_out hle (k:=λvs o=>k (_::vs) (K::o)) (h ao m.length cap K f3) (List.cons.inj e).2 f2 (λp hp=>hB p (by rw[List.flatten_cons];exact List.mem_append_right _ hp))
  | .fv _::bs,[],Ks,k,h,e,f,hB=>f.elim
  | .fv _::bs,_::_,Ks,k,h,e,f,hB=>f.elim
  | .cx N R hR n m::bs,[],Ks,k,h,e,f,hB=>f.elim
  | .cx true R hR n m::bs,v::vs,Ks,k,h,e,f,hB=>by
    obtain⟨⟨⟨ao,ln,rfl⟩,f1⟩,f2⟩:=f
    exact bnd_out hle (k:=λvs o=>k (_::vs) o) (h ao ln (IsSlice.mono hR.h (New.call hle) f1)) (List.cons.inj e).2 f2 hB
  | .cx false R hR n m::bs,v::vs,Ks,k,h,e,f,hB=>by
    obtain⟨⟨⟨ao,ln,rfl⟩,f1⟩,f2⟩:=f
    exact bnd_out hle (k:=λvs o=>k (_::vs) o) (h ao ln f1) (List.cons.inj e).2 f2 hB
  | .i _::bs,[],Ks,k,h,e,f,hB=>f.elim
  | .i _::bs,_::vs,Ks,k,h,e,f,hB=>by obtain⟨e1,e2⟩:=List.cons.inj e;subst e1;exact bnd_out hle (k:=λvs o=>k (_::vs) o) h e2 f hB
  | .b _::bs,[],Ks,k,h,e,f,hB=>f.elim
  | .b _::bs,_::vs,Ks,k,h,e,f,hB=>by obtain⟨e1,e2⟩:=List.cons.inj e;subst e1;exact bnd_out hle (k:=λvs o=>k (_::vs) o) h e2 f hB
  | .w8 _::bs,[],Ks,k,h,e,f,hB=>f.elim
  | .w8 _::bs,_::vs,Ks,k,h,e,f,hB=>by obtain⟨e1,e2⟩:=List.cons.inj e;subst e1;exact bnd_out hle (k:=λvs o=>k (_::vs) o) h e2 f hB
  | .w32 _::bs,[],Ks,k,h,e,f,hB=>f.elim
  | .w32 _::bs,_::vs,Ks,k,h,e,f,hB=>by obtain⟨e1,e2⟩:=List.cons.inj e;subst e1;exact bnd_out hle (k:=λvs o=>k (_::vs) o) h e2 f hB
  | .w64 _::bs,[],Ks,k,h,e,f,hB=>f.elim
  | .w64 _::bs,_::vs,Ks,k,h,e,f,hB=>by obtain⟨e1,e2⟩:=List.cons.inj e;subst e1;exact bnd_out hle (k:=λvs o=>k (_::vs) o) h e2 f hB
  | .s _::bs,[],Ks,k,h,e,f,hB=>f.elim
  | .s _::bs,_::vs,Ks,k,h,e,f,hB=>by obtain⟨e1,e2⟩:=List.cons.inj e;subst e1;exact bnd_out hle (k:=λvs o=>k (_::vs) o) h e2 f hB
def PostC{ρ:Type}(q:Bool)(H:Heaplet)(B:ρ→List Sp)(r:ρ)(u:Value)(K:List Own)(H':Heaplet):Prop:=∃vs,u=pack vs∧fl (B r) vs=vs∧Out H H' (B r) vs K∧(q=true→H'=H)
def Con{ρ:Type}(P:Program)(f:FuncId)(q:Bool)(As:List Sp)(o:Option ρ)(B:ρ→List Sp):Prop:=
 ∀H,Ent H As (λvs=>∀r,o=some r→Does P f vs.toArray [] H (PostC q H B r))
theorem Con.does{ρ:Type}{P:Program}{f:FuncId}{q:Bool}{As:List Sp}{o:Option ρ}{B:ρ→List Sp}{H:Heaplet}{vs:List Value}{r:ρ}
 (C:Con P f q As o B)(e:fl As vs=vs)(h:Fit H As vs)(hr:o=some r):Does P f vs.toArray [] H (PostC q H B r):=ent_fit (C H) e h r hr
section rules
variable{x:Cx}{ops:Array Oper}{Q:Exit→Act→World→Prop}{rest:List Oper}{l:Slots}{own:List Own}{H:Heaplet}{ty:TypeId}{d:Nat}{pos:String}{aft:Array Edge}
def prep (l:Slots)(c:Operand)(as:List Operand)(d N:Nat):Option (Nat×List Value):=match evo l c with
  | some (.func (.func f) ⟨[]⟩ ⟨[]⟩)=>match evs l as with
    |some vs=>bif Nat.blt d N then some (f,vs)else none
    |none=>none
  |_=>none
theorem prep_ok{l:Slots}{c:Operand}{as:List Operand}{d N f:Nat}{vs:List Value}(h:prep l c as d N=some (f,vs)):
 evo l c=some (.func (.func f) #[] #[])∧as.mapM (evo l)=some vs∧Nat.blt d N=true:=by
 unfold prep at h
 split at h
 · rename_i h1
   split at h
   · rename_i h2
     cases hb:Nat.blt d N with
     |true=>rw[hb]at h;cases h;exact⟨h1,evs_ok h2,rfl⟩
     |false=>rw[hb]at h;cases h
   · cases h
 · cases h
variable{ρ β:Type}{o:Option ρ}{k:ρ→Option β}{c:Operand}{as:Array Operand}{ts:Array TypeId}{f:FuncId}{vs:List Value}{As:List Sp}{B:ρ→List Sp}
theorem JL.con'{y:ρ}(hy:o=some y)(he:Enters x.P f)(hp:prep l c as.toList d x.n=some (f,vs))(C:Con x.P f false As o B)(e:fl As vs=vs)(hA:Fit H As vs)
 (h:∀H',Hle H H'→Bnd x.H0 H' x.w0.heap.size own (B y) (λus o'=>JL x ops Q rest ((d,pack us)::l) o' H')):
 JL x ops Q (⟨some d,.call ⟨.value c,as,ts⟩,ty,pos,aft,none⟩::rest) l own H:=λa w hh=>by
 obtain⟨h1,h2,h3⟩:=prep_ok hp
 refine JL.call he h1 h2 (C.does e hA hy) h3 (λv K' H' hR hle hf=> ?_) a w hh
 obtain⟨us,rfl,e2,ho,-⟩:=hR
 exact bnd_out hh.mem.le (k:=λus o'=>JL x ops Q rest ((d,pack us)::l) o' H') (h H' hle) e2 ho hf
theorem Zv{r':β}(hx:Option.bind o k=some r')(he:Enters x.P f)(hp:prep l c as.toList d x.n=some (f,vs))(C:Con x.P f false As o B)(e:fl As vs=vs)(hA:Fit H As vs)
 (h:∀y,o=some y→k y=some r'→∀H',Hle H H'→Bnd x.H0 H' x.w0.heap.size own (B y) (λus o'=>JL x ops Q rest ((d,pack us)::l) o' H')):
 JL x ops Q (⟨some d,.call ⟨.value c,as,ts⟩,ty,pos,aft,none⟩::rest) l own H:=by
 obtain⟨y,hy,hk⟩:=ZU hx
 exact JL.con' hy he hp C e hA (h y hy hk)
theorem JL.conQ'{y:ρ}(hy:o=some y)(he:Enters x.P f)(hp:prep l c as.toList d x.n=some (f,vs))(C:Con x.P f true As o B)(e:fl As vs=vs)(hA:Fit H As vs)
 (h:Bnd x.H0 H x.w0.heap.size own (B y) (λus o'=>JL x ops Q rest ((d,pack us)::l) o' H)):
 JL x ops Q (⟨some d,.call ⟨.value c,as,ts⟩,ty,pos,aft,none⟩::rest) l own H:=λa w hh=>by
 obtain⟨h1,h2,h3⟩:=prep_ok hp
 refine JL.call he h1 h2 (C.does e hA hy) h3 (λv K' H' hR hle hf=> ?_) a w hh
 obtain⟨us,rfl,e2,ho,hq⟩:=hR
 have:=hq rfl
 subst this
 exact bnd_out hh.mem.le (k:=λus o'=>JL x ops Q rest ((d,pack us)::l) o' _) h e2 ho hf
theorem ZI{r':β}(hx:Option.bind o k=some r')(he:Enters x.P f)(hp:prep l c as.toList d x.n=some (f,vs))(C:Con x.P f true As o B)(e:fl As vs=vs)(hA:Fit H As vs)
 (h:∀y,o=some y→k y=some r'→Bnd x.H0 H x.w0.heap.size own (B y) (λus o'=>JL x ops Q rest ((d,pack us)::l) o' H)):
 JL x ops Q (⟨some d,.call ⟨.value c,as,ts⟩,ty,pos,aft,none⟩::rest) l own H:=by
 obtain⟨y,hy,hk⟩:=ZU hx
 exact JL.conQ' hy he hp C e hA (h y hy hk)
def Cst:List Sp→Prop
 |[]=>True
 | .sx .. ::_=>False
 | .cx .. ::_=>False
 | .rx _ R _ _ _ _::bs=>R.Const∧Cst bs
 |_::bs=>Cst bs
theorem cst_out{H0 H H2 H3:Heaplet}:∀{bs:List Sp} {vs:List Value} {Ks:List Own},Cst bs→Out H0 H bs vs Ks→Out H2 H3 bs vs Ks
 |[],_,_,_,f=>f
 | .st _::bs,[],_,_,f=>f.elim
 | .st _::bs,v::vs,_,hc,f=>by cases v<;>first|exact f.elim|exact cst_out (bs:=bs) hc f
 | .sx .. ::_,_,_,hc,_=>hc.elim
 | .cx .. ::_,_,_,hc,_=>hc.elim
 | .fv _::_,[],_,_,f=>f.elim
 | .fv _::_,_::_,_,_,f=>f.elim
 | .rx .. ::_,[],_,_,f=>f.elim
 | .rx .. ::_,_::_,[],_,f=>f.elim
 | .rx .. ::bs,_::_,_::_,hc,f=>⟨⟨f.1.choose,RowOf.const hc.1 f.1.choose_spec⟩,cst_out (bs:=bs) hc.2 f.2⟩
 | .i _::_,[],_,_,f=>f.elim
 | .i _::bs,_::_,_,hc,f=>cst_out (bs:=bs) hc f
 | .b _::_,[],_,_,f=>f.elim
 | .b _::bs,_::_,_,hc,f=>cst_out (bs:=bs) hc f
 | .w8 _::_,[],_,_,f=>f.elim
 | .w8 _::bs,_::_,_,hc,f=>cst_out (bs:=bs) hc f
 | .w32 _::_,[],_,_,f=>f.elim
 | .w32 _::bs,_::_,_,hc,f=>cst_out (bs:=bs) hc f
 | .w64 _::_,[],_,_,f=>f.elim
 | .w64 _::bs,_::_,_,hc,f=>cst_out (bs:=bs) hc f
 | .s _::_,[],_,_,f=>f.elim
 | .s _::bs,_::_,_,hc,f=>cst_out (bs:=bs) hc f
theorem JL.conL'{q:Bool}{y:ρ}(hy:o=some y)(he:Enters x.P f)(hp:prep l c as.toList d x.n=some (f,vs))(C:Con x.P f q As o B)(e:fl As vs=vs)(hA:∀H2,Hle H H2→Lent own H2→Fit H2 As vs)(hc:Cst (B y))
 (h:Bnd x.H0 H x.w0.heap.size own (B y) (λus o'=>JL x ops Q rest ((d,pack us)::l) o' H)):
 JL x ops Q (⟨some d,.call ⟨.value c,as,ts⟩,ty,pos,aft,none⟩::rest) l own H:=λa w hh=>by
 obtain⟨h1,h2,h3⟩:=prep_ok hp
 refine JL.callL3 (R:=λH2=>PostC q H2 B y) he h1 h2 (λH2 h4 h5=>C.does e (hA H2 h4 h5) hy) h3 (λH2 v K' H' hR hf=> ?_) a w hh
 obtain⟨us,rfl,e2,ho,-⟩:=hR
 exact bnd_out (Hle.refl _) (k:=λus o'=>JL x ops Q rest ((d,pack us)::l) o' H) h e2 (cst_out hc ho) hf
theorem JL.conL{q:Bool}{r':β}(hx:Option.bind o k=some r')(he:Enters x.P f)(hp:prep l c as.toList d x.n=some (f,vs))(C:Con x.P f q As o B)(e:fl As vs=vs)(hA:∀H2,Hle H H2→Lent own H2→Fit H2 As vs)(hc:∀y,Cst (B y))
 (h:∀y,o=some y→k y=some r'→Bnd x.H0 H x.w0.heap.size own (B y) (λus o'=>JL x ops Q rest ((d,pack us)::l) o' H)):
 JL x ops Q (⟨some d,.call ⟨.value c,as,ts⟩,ty,pos,aft,none⟩::rest) l own H:=by
 obtain⟨y,hy,hk⟩:=ZU hx
 exact JL.conL' hy he hp C e hA (hc y) (h y hy hk)
def rets (l:Slots):List ResultVar→Option (List Value)
  |[]=>some []
  | .tmp t::r=>match lk l t with
    | some v=>match rets l r with
      |some vs=>some (v::vs)
      |none=>none
    |none=>none
  | .cell .. ::_=>none
theorem rets_ok{P:Program}{l:Slots}{own:List Own}:∀{rs:List ResultVar} {vs:List Value},rets l rs=some vs→Res P l own rs vs
  |[],vs,h=>by simp[rets]at h;rw[h];exact rfl
  | .tmp t::r,vs,h=>by
    simp only[rets]at h
    split at h
    · rename_i h1
      split at h
      · rename_i h2;cases h;exact Zs h1 (rets_ok h2)
      · cases h
    · cases h
  | .cell .. ::_,_,h=>by cases h
def pickL:List Nat→List Own→Option (List Own×List Own)
  |[],own=>some ([],own)
  | i ::is,own=>match own[i]? with
    | some s=>match pickL is (own.eraseIdx i)with
      |some (K,r)=>some (s::K,r)
      |none=>none
    |none=>none
theorem pickL_ok:∀{is:List Nat} {own K r:List Own},pickL is own=some (K,r)→own.flatten.Perm (K.flatten++r.flatten)
  |[],own,K,r,h=>by cases h;exact ZT
  | i ::is,own,K,r,h=>by
    simp only[pickL]at h
    split at h
    · rename_i h1
      split at h
      · rename_i h2;cases h;exact Ze i h1 (pickL_ok h2)
      · cases h
    · cases h
def outp (l:Slots)(own:List Own)(rs:List ResultVar)(e:Exit)(ds:List Deferred)(is:List Nat):Option (List Value×List Own):=match ds with
  | []=>match e with
    | .ret=>match rets l rs,pickL is own with
      |some vs,some (K,_)=>some (vs,K)
      |_,_=>none
    | .normal=>match rets l rs,pickL is own with
      |some vs,some (K,_)=>some (vs,K)
      |_,_=>none
    |_=>none
  |_=>none
theorem outp_ok{P:Program}{l:Slots}{own:List Own}{rs:List ResultVar}{e:Exit}{ds:List Deferred}{is:List Nat}{vs:List Value}{K:List Own}(h:outp l own rs e ds is=some (vs,K)):
 ds= []∧(e=.ret∨e=.normal)∧Res P l own rs vs∧∃r:List Own,own.flatten.Perm (K.flatten++r.flatten):=by
 unfold outp at h
 split at h
 · split at h
   · split at h
     · rename_i h1 h2;cases h;exact⟨rfl,.inl rfl,rets_ok h1,_,pickL_ok h2⟩
     · cases h
   · split at h
     · rename_i h1 h2;cases h;exact⟨rfl,.inr rfl,rets_ok h1,_,pickL_ok h2⟩
     · cases h
   · cases h
 · cases h
variable{fn:Func}{ex:Exit}{z r:ρ}{Ks:List Own}
theorem Zj (is:List Nat)(ho:outp l own fn.results.toList ex x.ds is=some (vs,Ks))(hx:some z=some r)(hs:fl (B z) vs=vs)(hf:Out x.H0 H (B z) vs Ks):
 JN x (Ret x fn (PostC false x.H0 B r) ex) l own H:=by
 obtain⟨h1,h2,h3,q,h4⟩:=outp_ok (P:=x.P) ho
 obtain rfl:=Option.some.inj hx
 exact Zm h2 (by simp) h1 h3 h4 ⟨vs,rfl,hs,hf,λh=>by cases h⟩
theorem ZD (is:List Nat)(ho:outp l own fn.results.toList ex x.ds is=some (vs,Ks))(hx:some z=some r)(hs:fl (B z) vs=vs)(hf:Out x.H0 x.H0 (B z) vs Ks):
 JN x (Ret x fn (PostC true x.H0 B r) ex) l own x.H0:=by
 obtain⟨h1,h2,h3,q,h4⟩:=outp_ok (P:=x.P) ho
 obtain rfl:=Option.some.inj hx
 exact Zm h2 (by simp) h1 h3 h4 ⟨vs,rfl,hs,hf,λh=>rfl⟩
theorem JN.conM{x0:Cx}{own2:List Own}(Ds is:List Nat)(hp:own.flatten.Perm ((marked Ds).flatten++own2.flatten))(h4:x.P=x0.P∧x.w0=x0.w0∧x.H0=x0.H0∧x.S=x0.S)(hd:x.ds=Ds.map mark)
 (ho:outp l own2 fn.results.toList ex [] is=some (vs,Ks))(hx:some z=some r)(hs:fl (B z) vs=vs)(hf:Out x0.H0 H (B z) vs Ks):
 JN x (RetM x0 fn (PostC false x0.H0 B r) ex) l own H:=by
 obtain⟨h1,h2,h3,q,h5⟩:=outp_ok (P:=x.P) ho
 obtain rfl:=Option.some.inj hx
 exact JN.outMP Ds h2 h4 hd (by simp) hp h3 h5 ⟨vs,rfl,hs,hf,λh=>by cases h⟩
end rules
def Exo (H0 H:Heaplet):List Sp→(List Value→List Own→Prop)→Prop
 |[],k=>k [] []
 | .st c::bs,k=>Exo H0 H bs (λvs o=>takeK c vs (λa b=>k (.agg a.toArray::b) o))
 | .sx true R hR n m::bs,k=>∃(ao:Option Addr) (ln cap:Nat),IsSlice (New H0 H) R n (.slice ao ln cap) m∧Exo H0 H bs (λvs o=>k (.slice ao ln cap::vs) o)
 | .sx false R hR n m::bs,k=>∃(ao:Option Addr) (ln cap:Nat),IsSlice H R n (.slice ao ln cap) m∧Exo H0 H bs (λvs o=>k (.slice ao ln cap::vs) o)
 | .rx true R hR E n m::bs,k=>∃(ao:Option Addr) (ln cap:Nat) (K:Own),RowOf (New H0 H) R 0 E n (.slice ao ln cap) m K∧Exo H0 H bs (λvs o=>k (.slice ao ln cap::vs) (K::o))
 | .rx false R hR E n m::bs,k=>∃(ao:Option Addr) (ln cap:Nat) (K:Own),RowOf H R 0 E n (.slice ao ln cap) m K∧Exo H0 H bs (λvs o=>k (.slice ao ln cap::vs) (K::o))
 | .cx true R hR n m::bs,k=>∃(ao:Option Addr) (ln:Nat),IsSlice (New H0 H) R n (.slice ao ln ln) m∧Exo H0 H bs (λvs o=>k (.slice ao ln ln::vs) o)
 | .cx false R hR n m::bs,k=>∃(ao:Option Addr) (ln:Nat),IsSlice H R n (.slice ao ln ln) m∧Exo H0 H bs (λvs o=>k (.slice ao ln ln::vs) o)
 | .fv _::_,_=>False
 | .i n::bs,k=>Exo H0 H bs (λvs o=>k (.int .i64 n::vs) o)
 | .b x::bs,k=>Exo H0 H bs (λvs o=>k (.bool x::vs) o)
 | .w8 x::bs,k=>Exo H0 H bs (λvs o=>k (.int .u8 (x.toNat:Int)::vs) o)
 | .w32 x::bs,k=>Exo H0 H bs (λvs o=>k (.int .u32 (x.toNat:Int)::vs) o)
 | .w64 x::bs,k=>Exo H0 H bs (λvs o=>k (.int .u64 (x.toNat:Int)::vs) o)
 | .s x::bs,k=>Exo H0 H bs (λvs o=>k (.string (Ow.bs x)::vs) o)
theorem takeK_of{c:Nat}:∀{vs:List Value} {k:List Value→List Value→Prop},k (vs.take c) (vs.drop c)→takeK c vs k:=by
  induction c with
  |zero=>intro vs k h;exact h
  | succ c ih=>
    intro vs k h
    cases vs with
    |nil=>exact h
    |cons v vs=>exact ih (k:=λa b=>k (v::a) b) h
theorem exo_out{H0 H:Heaplet}:∀{bs:List Sp} {vs:List Value} {Ks:List Own} {k:List Value→List Own→Prop},fl bs vs=vs→Out H0 H bs vs Ks→k vs Ks→Exo H0 H bs k
  |[],vs,Ks,k,e,f,h=>by simp only[fl]at e;rw[←e,show Ks= []from f]at h;exact h
  | .st c::bs,[],Ks,k,e,f,h=>f.elim
  | .st c::bs,v::vs,Ks,k,e,f,h=>by
    cases v<;>first|exact f.elim|skip
    rename_i cs
    obtain⟨e1,e2,e3⟩:=fl_st e
    refine exo_out (bs:=bs) (k:=λvs o=>takeK c vs (λa b=>k (.agg a.toArray::b) o)) e1 f (takeK_of ?_)
    rw[e2,e3];simpa using h
  | .sx N R hR n m::bs,[],Ks,k,e,f,h=>f.elim
  | .sx true R hR n m::bs,v::vs,Ks,k,e,f,h=>by
    obtain⟨ao,cap,rfl⟩:=IsSlice.val f.1
    exact⟨ao,_,cap,f.1,exo_out (bs:=bs) (k:=λvs o=>k (_::vs) o) (List.cons.inj e).2 f.2 h⟩
  | .sx false R hR n m::bs,v::vs,Ks,k,e,f,h=>by
    obtain⟨ao,cap,rfl⟩:=IsSlice.val f.1
    exact⟨ao,_,cap,f.1,exo_out (bs:=bs) (k:=λvs o=>k (_::vs) o) (List.cons.inj e).2 f.2 h⟩
  | .rx N R hR E n m::bs,[],Ks,k,e,f,h=>f.elim
  | .rx N R hR E n m::bs,v::vs,[],k,e,f,h=>f.elim
  | .rx true R hR E n m::bs,v::vs,K::Ks,k,e,f,h=>by
    obtain⟨⟨B',f1⟩,f2⟩:=f
    obtain⟨ao,cap,rfl⟩:=RowOf.val f1
    exact⟨ao,_,cap,K,RowOf.weak (Nat.zero_le _) f1,exo_out (bs:=bs) (k:=λvs o=>k (_::vs) (K::o)) (List.cons.inj e).2 f2 h⟩
  | .rx false R hR E n m::bs,v::vs,K::Ks,k,e,f,h=>by
    obtain⟨⟨B',f1⟩,f2⟩:=f
    obtain⟨ao,cap,rfl⟩:=RowOf.val f1
    exact⟨ao,_,cap,K,RowOf.weak (Nat.zero_le _) f1,exo_out (bs:=bs) (k:=λvs o=>k (_::vs) (K::o)) (List.cons.inj e).2 f2 h⟩
  | .fv _::bs,[],Ks,k,e,f,h=>f.elim
  | .fv _::bs,_::_,Ks,k,e,f,h=>f.elim
  | .cx N R hR n m::bs,[],Ks,k,e,f,h=>f.elim
  | .cx true R hR n m::bs,v::vs,Ks,k,e,f,h=>by
    obtain⟨⟨⟨ao,ln,rfl⟩,f1⟩,f2⟩:=f
    exact⟨ao,ln,f1,exo_out (bs:=bs) (k:=λvs o=>k (_::vs) o) (List.cons.inj e).2 f2 h⟩
  | .cx false R hR n m::bs,v::vs,Ks,k,e,f,h=>by
    obtain⟨⟨⟨ao,ln,rfl⟩,f1⟩,f2⟩:=f
    exact⟨ao,ln,f1,exo_out (bs:=bs) (k:=λvs o=>k (_::vs) o) (List.cons.inj e).2 f2 h⟩
  | .i _::bs,[],Ks,k,e,f,h=>f.elim
  | .i _::bs,_::vs,Ks,k,e,f,h=>by obtain⟨e1,e2⟩:=List.cons.inj e;subst e1;exact exo_out (bs:=bs) (k:=λvs o=>k (_::vs) o) e2 f h
  | .b _::bs,[],Ks,k,e,f,h=>f.elim
  | .b _::bs,_::vs,Ks,k,e,f,h=>by obtain⟨e1,e2⟩:=List.cons.inj e;subst e1;exact exo_out (bs:=bs) (k:=λvs o=>k (_::vs) o) e2 f h
  | .w8 _::bs,[],Ks,k,e,f,h=>f.elim
  | .w8 _::bs,_::vs,Ks,k,e,f,h=>by obtain⟨e1,e2⟩:=List.cons.inj e;subst e1;exact exo_out (bs:=bs) (k:=λvs o=>k (_::vs) o) e2 f h
  | .w32 _::bs,[],Ks,k,e,f,h=>f.elim
  | .w32 _::bs,_::vs,Ks,k,e,f,h=>by obtain⟨e1,e2⟩:=List.cons.inj e;subst e1;exact exo_out (bs:=bs) (k:=λvs o=>k (_::vs) o) e2 f h
  | .w64 _::bs,[],Ks,k,e,f,h=>f.elim
  | .w64 _::bs,_::vs,Ks,k,e,f,h=>by obtain⟨e1,e2⟩:=List.cons.inj e;subst e1;exact exo_out (bs:=bs) (k:=λvs o=>k (_::vs) o) e2 f h
  | .s _::bs,[],Ks,k,e,f,h=>f.elim
  | .s _::bs,_::vs,Ks,k,e,f,h=>by obtain⟨e1,e2⟩:=List.cons.inj e;subst e1;exact exo_out (bs:=bs) (k:=λvs o=>k (_::vs) o) e2 f h
def QQ:Bool→Heaplet→Heaplet→Prop
 |true,H,H'=>H=H'
 |false,_,_=>True
theorem Con.doesX{ρ:Type}{P:Program}{f:FuncId}{q:Bool}{As:List Sp}{o:Option ρ}{B:ρ→List Sp}{H:Heaplet}{vs:List Value}{r:ρ}
 (C:Con P f q As o B)(e:fl As vs=vs)(h:Fit H As vs)(hr:o=some r):Does P f vs.toArray [] H (λu K' H'=>Exo H H' (B r) (λus Ks=>u=pack us∧K'=Ks∧QQ q H H')):=
 (C.does e h hr).mono λv K' H' ⟨us,e1,e2,e3,e4⟩=>exo_out e2 e3 ⟨e1,rfl,by cases q with|true=>exact(e4 rfl).symm|false=>trivial⟩
def numK:List Nat→List Value→(Slots→Prop)→Prop
 |n::ns,v::vs,k=>numK ns vs (λl=>k ((n,v)::l))
 |_,_,k=>k []
theorem numK_eq:∀(ns:List Nat) (vs:List Value) (k:Slots→Prop),numK ns vs k→k (ns.zip vs)
 |[],vs,k,h=>by simpa[numK]using h
 |n::ns,[],k,h=>h
 |n::ns,v::vs,k,h=>numK_eq ns vs (λl=>k ((n,v)::l)) h
theorem lk_zip:∀(vs:List Value) (k n i:Nat) (v:Value),lk ((List.range' k n).zip vs) i=some v→k≤i∧vs[i-k]? =some v
  |[],k,n,i,v,h=>by simp[lk]at h
  |u::vs,k,0,i,v,h=>by simp[lk]at h
  | u ::vs,k,n+1,i,v,h=>by
    simp only[List.range'_succ,List.zip_cons_cons,lk]at h
    cases hb:Nat.beq k i with
    | true=>
      have e:k=i:=Nat.eq_of_beq_eq_true hb
      subst e;rw[hb]at h;simp at h;subst h;simp
    | false=>
      have ne:k≠i:=by intro e;subst e;simp at hb
      rw[hb]at h
      obtain⟨h1,h2⟩:=lk_zip vs (k+1) n i v h
      refine⟨by omega,?_⟩
      rw[show i-k=(i-(k+1))+1 by omega];simpa using h2
theorem enter_slots{vs:List Value}{N i:Nat}{v:Value}(hn:vs.length≤N)(e:lk ((List.range' 0 24).zip vs) i=some v):((vs.toArray++Array.replicate (N-vs.toArray.size) undef)[i]?).getD undef=v:=by
 obtain⟨_,h2⟩:=lk_zip vs 0 24 i v e
 have hi:i<vs.length:=by
  rcases Nat.lt_or_ge i vs.length with h'|h'
  · exact h'
  · simp[List.getElem?_eq_none h']at h2
 have h3:vs[i]=v:=by simpa[List.getElem?_eq_getElem hi]using h2
 have:i<(vs.toArray++Array.replicate (N-vs.toArray.size) undef).size:=by simp;omega
 simp only[Array.getElem?_eq_getElem this,Option.getD_some]
 rw[Array.getElem_append_left (by simpa using hi)]
 simpa using h3
theorem Does.enterC{P:Program}{f:FuncId}{fn:Func}{c:Code}{vs:List Value}{H:Heaplet}{R:Value→List Own→Heaplet→Prop}
 (hf:P.funcs[f]? =some fn)(hb:fn.body=some c)(hn:Nat.ble vs.length fn.ntmps=true)
 (h:numK [0,1,2,3,4,5,6,7,8,9,10,11,12,13,14,15,16,17,18,19,20,21,22,23] vs (λl=>∀w,
  JC {P:=P,r:=none,n:=fn.ntmps,w0:=w,H0:=H,S:=[],ds:=[]} c (Ret {P:=P,r:=none,n:=fn.ntmps,w0:=w,H0:=H,S:=[],ds:=[]} fn R) l [] H)):Does P f vs.toArray [] H R:=λw ha hk=>by
 have hn:=Nat.le_of_ble_eq_true hn
 have h:=numK_eq _ _ _ h
 refine callsIn_of_wp hf hb trivial ?_
 refine h w _ w ⟨?_,rfl,λi v e=>enter_slots hn e,⟨ha,hk,Kept.refl _ _,λp hp=>.inl (List.mem_map_of_mem hp),Hle.refl _,λ_ _ _=>rfl,Mem.soft0⟩⟩
 simp;omega
theorem Does.enterMC{P:Program}{f:FuncId}{fn:Func}{c:Code}{vs:List Value}{H:Heaplet}{R:Value→List Own→Heaplet→Prop}
 (hf:P.funcs[f]? =some fn)(hb:fn.body=some c)(hn:Nat.ble vs.length fn.ntmps=true)
 (h:numK [0,1,2,3,4,5,6,7,8,9,10,11,12,13,14,15,16,17,18,19,20,21,22,23] vs (λl=>∀w,
  JC {P:=P,r:=none,n:=fn.ntmps,w0:=w,H0:=H,S:=[],ds:=[]} c (RetM {P:=P,r:=none,n:=fn.ntmps,w0:=w,H0:=H,S:=[],ds:=[]} fn R) l [] H)):Does P f vs.toArray [] H R:=λw ha hk=>by
 have hn:=Nat.le_of_ble_eq_true hn
 have h:=numK_eq _ _ _ h
 refine callsIn_of_wp_marks hf hb trivial ?_
 refine h w _ w ⟨?_,rfl,λi v e=>enter_slots hn e,⟨ha,hk,Kept.refl _ _,λp hp=>.inl (List.mem_map_of_mem hp),Hle.refl _,λ_ _ _=>rfl,Mem.soft0⟩⟩
 simp;omega
section ways
variable{α:Type}{A B:Option α}{r:α}{x:Cx}{ops:Array Oper}{Q:Exit→Act→World→Prop}{K:Act→World→Prop}{rest:List Oper}{l:Slots}{own:List Own}{H sH:Heaplet}{b:Bool}
theorem ZG{c:Tmp}{d e:Code}(hx:_root_.cond b A B=some r)(hc:lk l c=some (.bool b))(ht:b=true→A=some r→JC x d Q ((c,.bool true)::l) own H)(hf:b=false→B=some r→JC x e Q ((c,.bool false)::l) own H):
 JC x (.cond (.tmp c) d e) Q l own H:=JC.condB hc (λh=>ht h (cond_t h hx)) (λh=>hf h (cond_f h hx))
theorem ZQ (t:Nat)(hx:_root_.cond b A B=some r)(hb:lk l t=some (.bool b))(ht:b=true→A=some r→JL x ops Q rest ((t,.bool true)::l) own H)
 (hf:b=false→B=some r→JL x ops Q rest ((t,.bool false)::l) own H):JL x ops Q rest l own H:=JL.gSplit hb (λh=>ht h (cond_t h hx)) (λh=>hf h (cond_f h hx))
theorem JB.gX{so:Segs}{fuel:Nat}{listed:Array Bool}{KK:Act→World→Prop}(t:Nat)(hx:_root_.cond b A B=some r)(hb:lk l t=some (.bool b))(ht:b=true→A=some r→JB x ops KK so sH fuel listed ((t,.bool true)::l) own H)
 (hf:b=false→B=some r→JB x ops KK so sH fuel listed ((t,.bool false)::l) own H):JB x ops KK so sH fuel listed l own H:=JB.gSplit hb (λh=>ht h (cond_t h hx)) (λh=>hf h (cond_f h hx))
end ways
section many
variable{x:Cx}{ops:Array Oper}{K:Act→World→Prop}{l l':Slots}{own:List Own}{H sH:Heaplet}{so:Segs}
def markAll (listed:Array Bool):List Nat→Array Bool
 |[]=>listed
 |i::is=>markAll (listed.setIfInBounds i true) is
def okAll (ops:Array Oper)(listed:Array Bool):List Nat→Bool
 |[]=>true
 |i::is=>(Region.free .any ops listed i&&(Region.ready .any ops listed).contains i)&&okAll ops (listed.setIfInBounds i true) is
def gate (ops:List Oper)(l:Slots):Option (Nat×Bool)→Option Bool
  |none=>some true
  | some (j,b)=>match ops[j]? with
    | some oj=>match oj.dst with
      | some t=>match lk l t with
        |some (.bool true)=>some b
        |some (.bool false)=>bif b then some false else some true
        |some (.tuple ⟨[]⟩)=>some false
        |_=>none
      |none=>none
    |none=>none
def valAll (tb:Tab)(N:Nat)(ops:List Oper)(own:List Own):List Nat→Slots→List Nat→List Nat→List Nat→Option (Slots×List Nat×List Nat×List Nat)
  |[],l,hs,e1,e2=>some (l,hs,e1,e2)
  | i ::is,l,hs,e1,e2=>match ops[i]? with
    | some ⟨some d,op,ty,pos,aft,g⟩=>bif Nat.blt d N then match gate ops l g with
        | some true=>match vop tb own l hs op with
          |some (v,hs',f1,f2)=>valAll tb N ops own is ((d,v)::l) hs' (f1++e1) (f2++e2)
          |none=>none
        |some false=>valAll tb N ops own is ((d,undef)::l) hs e1 e2
        |none=>none
      else none
    |_=>none
theorem valAll_len{tb:Tab}{N:Nat}{os:List Oper}{own:List Own}:∀{is:List Nat} {l l':Slots} {hs hs' e1 e2 f1 f2:List Nat},valAll tb N os own is l hs e1 e2=some (l',hs',f1,f2)→∃a b,a.length=b.length∧f1=a++e1∧f2=b++e2
  |[],_,_,_,_,_,_,_,_,h=>by cases h;exact⟨[],[],rfl,rfl,rfl⟩
  | i ::is,l,l',hs,hs',e1,e2,f1,f2,h=>by
    simp only[valAll]at h
    split at h
    · rename_i d op ty pos aft g _
      cases hb:Nat.blt d N with
      |false=>rw[hb]at h;cases h
      | true=>
        rw[hb,cond_true]at h
        split at h
        · split at h
          · rename_i v1 hs1 g1 g2 hv
            obtain⟨a,b,h1,h2,h3⟩:=valAll_len h
            have h4:=vop_len hv
            exact⟨a++g1,b++g2,by rw[List.length_append,List.length_append,h1,h4],by rw[h2,List.append_assoc],by rw[h3,List.append_assoc]⟩
          · cases h
        · exact valAll_len h
        · cases h
    · cases h
theorem gate_yes{l:Slots}{g:Option (Nat×Bool)}(h:gate ops.toList l g=some true):guardYes ops l g:=by
  cases g with
  |none=>trivial
  | some g=>
    obtain⟨j,b⟩:=g
    simp only[gate]at h
    split at h
    · rename_i h1
      split at h
      · rename_i h2
        split at h
        · rename_i h3;cases h;exact⟨_,_,by simpa using h1,h2,h3⟩
        · rename_i h3
          cases b with
          |true=>cases h
          |false=>exact⟨_,_,by simpa using h1,h2,h3⟩
        · cases h
        · cases h
      · cases h
    · cases h
theorem JB.run' {tb:Tab}(ht:tb.Ok x.P):∀{is:List Nat} {listed:Array Bool} {l l':Slots} {hs hs' e1 e2 f1 f2:List Nat} {fuel:Nat},okAll ops listed is=true→is.all (noTurn so)=true→
    valAll tb x.n ops.toList (segsOf [] so) is l hs e1 e2=some (l',hs',f1,f2)→f1=f2→e1.length=e2.length→JB x ops K so sH fuel (markAll listed is) l' own H→JB x ops K so sH (fuel+is.length) listed l own H
  |[],_,_,_,_,_,_,_,_,_,_,_,_,h,_,_,g=>by cases h;exact g
  | i ::is,listed,l,l',hs,hs',e1,e2,f1,f2,fuel,hok,hnt,h,he,hl,gg=>by
    simp only[valAll]at h
    simp only[okAll,Bool.and_eq_true]at hok
    simp only[List.all_cons,Bool.and_eq_true]at hnt
    split at h
    · rename_i d op ty pos aft g ho
      have ho':ops[i]? =some ⟨some d,op,ty,pos,aft,g⟩:=by simpa using ho
      cases hb:Nat.blt d x.n with
      |false=>rw[hb]at h;cases h
      | true=>
        rw[hb,cond_true]at h
        split at h
        · rename_i hg
          split at h
          · rename_i v1 hs1 g1 g2 hv
            have hlen:=vop_len hv
            obtain⟨a,b,h1,h2,h3⟩:=valAll_len h
            have e:a++(g1++e1)=b++(g2++e2):=by rw[←h2,←h3,he]
            have e':=(List.append_inj e h1).2
            obtain⟨e'',_⟩:=List.append_inj e' hlen
            exact JB.val [] ho' (vop_ok ht hv e'') (JB.run' ht hok.2 hnt.2 h he (by simp[hlen,hl]) gg) ⟨hok.1.2,hok.1.1,rfl⟩ (gate_yes hg) rfl hnt.1 hb
          · cases h
        · rename_i hg
          cases g with
          |none=>cases hg
          | some g=>
            obtain⟨j,bq⟩:=g
            simp only[gate]at hg
            split at hg
            · rename_i h1
              split at hg
              · rename_i h2
                split at hg
                · rename_i h3;cases hg
                  exact JB.no ho' (by simpa using h1) h2 h3 rfl (JB.run' ht hok.2 hnt.2 h he hl gg) ⟨hok.1.2,hok.1.1,rfl⟩ hnt.1 hb
                · rename_i h3
                  cases bq with
                  |true=>exact JB.no ho' (by simpa using h1) h2 h3 rfl (JB.run' ht hok.2 hnt.2 h he hl gg) ⟨hok.1.2,hok.1.1,rfl⟩ hnt.1 hb
                  |false=>cases hg
                · rename_i h3
                  exact JB.noU ho' (by simpa using h1) h2 h3 (JB.run' ht hok.2 hnt.2 h he hl gg) ⟨hok.1.2,hok.1.1,rfl⟩ hnt.1 hb
                · cases hg
              · cases hg
            · cases hg
        · cases h
    · cases h
theorem JB.run{tb:Tab}{F:Nat}{listed:Array Bool}{E:List Nat}(n:Nat)(is hs:List Nat)(ht:tb.Ok x.P)(hv:valAll tb x.n ops.toList (segsOf [] so) is l hs [] []=some (l',[],E,E))
 (h:JB x ops K so sH (F-n) (markAll listed is) l' own H)(hok:okAll ops listed is=true:=by kernel_rfl)(hnt:is.all (noTurn so)=true:=by rfl)(hn:(Nat.beq is.length n&&Nat.ble n F)=true:=by rfl):
 JB x ops K so sH F listed l own H:=by
 rw[Bool.and_eq_true]at hn
 have h1:=Nat.eq_of_beq_eq_true hn.1
 have h2:=Nat.le_of_ble_eq_true hn.2
 have:=JB.run' ht hok hnt hv rfl rfl h
 rw[h1,Nat.sub_add_cancel h2]at this
 exact this
end many
section cells
variable{x:Cx}{l:Slots}{own:List Own}{H:Heaplet}{vs:List Value}{ρ:Type}{B:ρ→List Sp}{fn:Func}{ex:Exit}{z r:ρ}{Ks:List Own}
def retC (tb:Tab)(l:Slots)(own:List Own):List ResultVar→List Nat→Option (List Value×List Nat×List Nat)
  |[],_=>some ([],[],[])
  | .tmp t::r,hs=>match lk l t with
    | some v=>match retC tb l own r hs with
      |some (vs,e1,e2)=>some (v::vs,e1,e2)
      |none=>none
    |none=>none
  | .cell t T::r,i::hs=>match lk l t with
    | some (.pointer (some ⟨b,0,none⟩))=>match own[i]? with
      | some [(b',.cells cur tt fr)]=>match tl T tb.shp with
        | some (true,n)=>bif Nat.beq n cur.toList.length then match retC tb l own r hs with
            |some (vs,e1,e2)=>some (.agg cur::vs,b::e1,b'::e2)
            |none=>none
          else none
        | some (false,_)=>match cur.toList[0]? with
          | some v=>match retC tb l own r hs with
            |some (vs,e1,e2)=>some (v::vs,b::e1,b'::e2)
            |none=>none
          |none=>none
        |none=>none
      |_=>none
    |_=>none
  | .cell .. ::_,[]=>none
theorem retC_ok{P:Program}{tb:Tab}(ht:tb.Ok P):∀{rs:List ResultVar} {hs:List Nat} {vs:List Value} {e1 e2:List Nat},retC tb l own rs hs=some (vs,e1,e2)→e1=e2→Res P l own rs vs
  |[],_,_,_,_,h,_=>by cases h;exact rfl
  | .tmp t::r,hs,vs,e1,e2,h,he=>by
    simp only[retC]at h
    split at h
    · rename_i h1
      split at h
      · rename_i h2;cases h;exact Zs h1 (retC_ok ht h2 he)
      · cases h
    · cases h
  | .cell t T::r,[],vs,e1,e2,h,he=>by cases h
  | .cell t T ::r,i::hs,vs,e1,e2,h,he=>by
    simp only[retC]at h
    split at h
    · rename_i h1
      split at h
      · rename_i h2
        split at h
        · rename_i n h3
          rename_i b _ _ cur _ _ _
          cases hb:Nat.beq n (Array.toList cur).length with
          | true=>
            rw[hb,cond_true]at h
            split at h
            · rename_i h4
              cases h
              obtain⟨c1,c2⟩:=List.cons.inj he
              subst c1
              have:=Nat.eq_of_beq_eq_true hb
              exact Res.cellN i h1 h2 (by rw[←this];exact tl_ok (p:=λa b=>shapeOf P a=some b) ht.shp h3) (retC_ok ht h4 c2)
            · cases h
          |false=>rw[hb]at h;cases h
        · rename_i n h3
          split at h
          · rename_i h5
            split at h
            · rename_i h4
              cases h
              obtain⟨c1,c2⟩:=List.cons.inj he
              subst c1
              exact Res.cell1 i h1 h2 (tl_ok (p:=λa b=>shapeOf P a=some b) ht.shp h3) h5 (retC_ok ht h4 c2)
            · cases h
          · cases h
        · cases h
      · cases h
    · cases h
def outc (tb:Tab)(l:Slots)(own:List Own)(rs:List ResultVar)(e:Exit)(ds:List Deferred)(hs is:List Nat):Option (List Value×List Own×List Nat×List Nat):=match ds with
  | []=>match e with
    | .ret=>match retC tb l own rs hs,pickL is own with
      |some (vs,e1,e2),some (K,_)=>some (vs,K,e1,e2)
      |_,_=>none
    | .normal=>match retC tb l own rs hs,pickL is own with
      |some (vs,e1,e2),some (K,_)=>some (vs,K,e1,e2)
      |_,_=>none
    |_=>none
  |_=>none
theorem outc_ok{P:Program}{tb:Tab}(ht:tb.Ok P){rs:List ResultVar}{e:Exit}{ds:List Deferred}{hs is:List Nat}{K:List Own}{E:List Nat}(h:outc tb l own rs e ds hs is=some (vs,K,E,E)):
 ds= []∧(e=.ret∨e=.normal)∧Res P l own rs vs∧∃r:List Own,own.flatten.Perm (K.flatten++r.flatten):=by
 unfold outc at h
 split at h
 · split at h
   · split at h
     · rename_i h1 h2;cases h;exact⟨rfl,.inl rfl,retC_ok ht h1 rfl,_,pickL_ok h2⟩
     · cases h
   · split at h
     · rename_i h1 h2;cases h;exact⟨rfl,.inr rfl,retC_ok ht h1 rfl,_,pickL_ok h2⟩
     · cases h
   · cases h
 · cases h
variable{tb:Tab}{E:List Nat}
theorem Zo (hs is:List Nat)(ht:tb.Ok x.P)(ho:outc tb l own fn.results.toList ex x.ds hs is=some (vs,Ks,E,E))(hx:some z=some r)(hv:fl (B z) vs=vs)(hf:Out x.H0 H (B z) vs Ks):
 JN x (Ret x fn (PostC false x.H0 B r) ex) l own H:=by
 obtain⟨h1,h2,h3,q,h4⟩:=outc_ok ht ho
 obtain rfl:=Option.some.inj hx
 exact Zm h2 (by simp) h1 h3 h4 ⟨vs,rfl,hv,hf,λh=>by cases h⟩
theorem JN.conCQ (hs is:List Nat)(ht:tb.Ok x.P)(ho:outc tb l own fn.results.toList ex x.ds hs is=some (vs,Ks,E,E))(hx:some z=some r)(hv:fl (B z) vs=vs)(hf:Out x.H0 x.H0 (B z) vs Ks):
 JN x (Ret x fn (PostC true x.H0 B r) ex) l own x.H0:=by
 obtain⟨h1,h2,h3,q,h4⟩:=outc_ok ht ho
 obtain rfl:=Option.some.inj hx
 exact Zm h2 (by simp) h1 h3 h4 ⟨vs,rfl,hv,hf,λh=>rfl⟩
theorem JN.conCM{x0:Cx}{own2:List Own}(Ds hs is:List Nat)(ht:tb.Ok x.P)(hp:own.flatten.Perm ((marked Ds).flatten++own2.flatten))(h4:x.P=x0.P∧x.w0=x0.w0∧x.H0=x0.H0∧x.S=x0.S)(hd:x.ds=Ds.map mark)
 (ho:outc tb l own2 fn.results.toList ex [] hs is=some (vs,Ks,E,E))(hx:some z=some r)(hv:fl (B z) vs=vs)(hf:Out x0.H0 H (B z) vs Ks):
 JN x (RetM x0 fn (PostC false x0.H0 B r) ex) l own H:=by
 obtain⟨h1,h2,h3,q,h5⟩:=outc_ok ht ho
 obtain rfl:=Option.some.inj hx
 exact JN.outMP Ds h2 h4 hd (by simp) hp h3 h5 ⟨vs,rfl,hv,hf,λh=>by cases h⟩
end cells
section cuts
variable{x:Cx}{Q:Exit→Act→World→Prop}{l l0 l':Slots}{own o0 o':List Own}{H g':Heaplet}{c:Code}{τ β:Type}{o:Option τ}{k:τ→Option β}{r:β}
def selL (l:Slots):List Nat→Option Slots
  |[]=>some []
  | i ::is=>match lk l i with
    | some v=>match selL l is with
      |some q=>some ((i,v)::q)
      |none=>none
    |none=>none
def selO (own:List Own):List Nat→Option (List Own)
  |[]=>some []
  | i ::is=>match own[i]? with
    | some s=>match selO own is with
      |some q=>some (s::q)
      |none=>none
    |none=>none
def keysOf:Slots→List Nat
 |[]=> []
 |(k,_)::r=>k::keysOf r
theorem selL_sub{l:Slots}:∀{l':Slots},selL l (keysOf l')=some l'→Sub l' l
  |[],_=>trivial
  | (k,v)::q,h=>by
    simp only[keysOf,selL]at h
    split at h
    · rename_i h1
      split at h
      · rename_i h2
        have h3:=Option.some.inj h
        obtain⟨h4,h5⟩:=List.cons.inj h3
        simp only[Prod.mk.injEq,true_and]at h4
        subst h4;subst h5
        exact⟨h1,selL_sub h2⟩
      · cases h
    · cases h
theorem ZO (hx:Option.bind o k=some r)(ks js:List Nat)(hs:selL l ks=some l0)(ho:selO own js=some o0)(I:τ→Slots→List Own→Slots→List Own→Heaplet→Prop)
 (h2:∀t,o=some t→k t=some r→∀l o g,I t l0 o0 l o g→JN x (Q .normal) l o g)
 (h1:∀t,k t=some r→o=some t→JC x c (Exit.then (HoldsI x (I t l0 o0)) Q) l own H):JC x c Q l own H:=by
 obtain⟨t,ht,hk⟩:=ZU hx
 exact JC.cut (I t l0 o0) (h2 t ht hk) (h1 t hk ht)
theorem ZC{I:Slots→List Own→Heaplet→Prop}(hI:I l' o' g')(hl:selL l (keysOf l')=some l')(ho:o'=own)(hg:g'=H):
 JN x (Exit.then (HoldsI x I) Q .normal) l own H:=JN.cut hI (selL_sub hl) ho hg
theorem ZS{σ:Type}{body:σ→Option (σ ⊕ τ)}{s0:σ}{t:τ}{lh:Slots}(ks js:List Nat)(hs:selL l ks=some l0)(ho:selO own js=some o0)(I:Slots→List Own→σ→Slots→List Own→Heaplet→Prop)
 (hx:Go.Ow.loop body s0=some t)(h0:I l0 o0 s0 lh own H)(hl:selL l (keysOf lh)=some lh)
 (round:∀n s l o g,I l0 o0 s l o g→∀q,body s=some q→Stp body n t q→JC x c (Exit.then (HoldsI x (λl o g=>∃s,I l0 o0 s l o g∧run body n s=some t)) Q) l o g):JC x (.loop c) Q l own H:=by
 refine JC.loopI (λn l o g=>∃s,I l0 o0 s l o g∧run body n s=some t) FUEL ?_ ⟨s0,h0,hx⟩ (selL_sub hl) ?_
 · rintro l o g ⟨s,_,h⟩;exact run_zero h
 · rintro n l o g ⟨s,hI,hr⟩
   obtain⟨q,h1,h2⟩:=run_some hr
   exact round n s l o g hI q h1 h2
end cuts
end Go.Ow
namespace Go.Ow
open Go.RowKit
def R_data_place:Rep data_place:=λH cs x=>cs= [.int .i64 x.set,.int .i64 x.obj,.int .i64 x.index]
theorem R_data_place.mono:R_data_place.Mono:=λ_ _ _ _ _ h=>h
instance:MonoC R_data_place:=⟨R_data_place.mono⟩
def sp_data_place (N:Bool)(x:data_place):List Sp:=[.st 3,.i x.set,.i x.obj,.i x.index]
def PE (size:Nat)(vs:Value)(e:Option Int)(u:Value):Prop:=match e with
 |none=>u=.pointer none
 |some i=>∃b o,u=.pointer (some ⟨b,o,none⟩)∧ElemAt vs size i b o
theorem ElemAt.one{v:Value}{n:Nat}{i:Int}{b o b' o':Nat}(h:ElemAt v n i b o)(h':ElemAt v n i b' o'):b=b'∧o=o':=by
 obtain⟨_,o0,len,cap,e,e2,_⟩:=h
 obtain⟨_,o0',len',cap',e',e2',_⟩:=h'
 rw[e]at e'
 simp only[Value.slice.injEq,Option.some.injEq,Addr.mk.injEq]at e'
 obtain⟨⟨rfl,rfl,-⟩,-,-⟩:=e'
 exact⟨rfl,by rw[e2,e2']⟩
theorem PE.elem{α:Type}{R:Rep α}{n:Nat}{v u:Value}{m:List α}{e:Option Int}{i:Int}{y:α}{HF:Heaplet}(hp:PE n v e u)(hi:e=some i)(hS:IsSlice HF R n v m)(hA:Nth m i y):
 ∃b o cs,u=.pointer (some ⟨b,o,none⟩)∧R HF cs y∧cs.length=n∧∀j u,cs[j]? =some u→HF b (o+j)=some u:=by
 subst hi
 obtain⟨b,o,rfl,hE⟩:=hp
 obtain⟨b',o',cs,hE',h1,h2,h3⟩:=IsSlice.elem hS hA
 obtain⟨rfl,rfl⟩:=hE.one hE'
 exact⟨b,o,cs,rfl,h1,h2,h3⟩
section rules
variable{x:Cx}{l:Slots}{own:List Own}{H:Heaplet}{ty t u:TypeId}{p q:Operand}{v:Value}{e:Option Int}{n:Nat}{vs:Value}
theorem R.nilO{a:Addr}(h1:evo l p=some v)(hv:v=.pointer (some a)):Runs x (.nilCheck p) ty l own H (.pointer (some a)):=by subst hv;exact R.nilCheck h1
theorem run_eqNil{P:Program}{w:World}{t E:TypeId}{a:Option Addr}(hu:P.underlying t=some (.pointer E)):(Op.equal t (.pointer a) (.pointer none)).run P w=.ok a.isNone w:=by
 have key:∀k,(Op.equalIn (k+1) t (.pointer a) (.pointer none)).run P w=.ok a.isNone w:=λk=>by
  unfold Op.equalIn
  rw[Sem.run_bind,run_underlying hu]
  cases a<;>rfl
 exact key 9999
theorem PE.nil (hp:PE n vs e v):∃a:Option Addr,v=.pointer a∧a.isNone=e.isNone:=by
 cases e with
 |none=>exact⟨none,hp,rfl⟩
 |some i=>obtain⟨b,o,rfl,_⟩:=hp;exact⟨_,rfl,rfl⟩
theorem R.eqlNP{E:TypeId}(hu:x.P.underlying t=some (.pointer E))(h1:evo l p=some v)(h2:evo l q=some (.pointer none))(hp:PE n vs e v):Runs x (.binOp .eql t p q u) ty l own H (.bool e.isNone):=by
 obtain⟨a,rfl,ha⟩:=hp.nil
 rw[←ha]
 exact λρ w _ _ _ _ hρ hm=>by
  have:=run_eqNil (P:=x.P) (w:=w) (a:=a) hu
  simp[execOp,hρ _ _ h1,hρ _ _ h2,eqGuard,binOp,go_sem,this]
theorem R.toStrR{s E e:TypeId}{lb:List UInt8}{B:Nat}{K:Own}{HF:Heaplet}(i:Nat)(hs:x.P.underlying s=some (.slice e))(he:x.P.underlying e=some (.int .u8))(ht:x.P.underlying t=some .string)(h1:evo l p=some v)
 (hi:own[i]? =some K)(hB:RowOf HF RU8 B E 1 v lb K):Runs x (.convert s t p) ty l own H (.string (bs lb)):=by
 obtain⟨cells,⟨h0,h1'⟩,hf,ho⟩:=hB
 rw[hf.of_u8]at h0 h1'
 rcases h1' with⟨rfl,h3,h4⟩|⟨g,cap,cur,rfl,e2,e3,e4,e5,e6,e7⟩
 · have:lb= []:=List.length_eq_zero_iff.1 h3
   subst this
   exact λρ w _ _ _ _ hρ hm=>by
    simp only[execOp,hρ _ _ h1]
    exact run_v (run_toStr hs he ht ⟨none,0,rfl,.inl rfl⟩)
 · subst e2
   exact λρ w _ _ _ _ hρ hm=>by
    simp only[execOp,hρ _ _ h1]
    have hg:=hm.2 (g,.cells cur E (0,0)) (List.mem_flatten.2 ⟨_,List.mem_of_getElem? hi,by simp⟩)
    refine run_v (run_toStr hs he ht ⟨_,cap,rfl,.inr ⟨g,0,rfl,λj u hj=> ?_⟩⟩)
    rw[Nat.zero_add,cell_of_row w g j cur E (0,0) hg]
    rw[←e7,List.getElem?_take]at hj
    split at hj
    · simpa using hj
    · cases hj
def spn{α:Type}:List α→Option (List α)
  |[]=>some []
  | a::r=>match spn r with
    |some q=>some (a::q)
    |none=>none
theorem spn_eq{α:Type}:∀{l q:List α},spn l=some q→q=l
  |[],q,h=>by cases h;rfl
  | a::r,q,h=>by
    simp only[spn]at h
    split at h
    · rename_i h1;cases h;rw[spn_eq h1]
    · cases h
theorem Zz{T b o n:Nat}{cs:List Value}(k:Nat){vs:List Value}(hs:shapeOf x.P T=some (true,n))(h1:evo l p=some (.pointer (some ⟨b,o+k,none⟩)))(ha:∀j u,cs[j]? =some u→H b (o+j)=some u)
 (hv:spn ((cs.drop k).take n)=some vs)(hn:vs.length=n):Runs x (.load T p) ty l own H (.agg vs.toArray):=R.ldHE k hs h1 ha (spn_eq hv) hn
variable{ops:Array Oper}{Q:Exit→Act→World→Prop}{rest:List Oper}{HF:Heaplet}{d:Nat}{pos:String}{aft:Array Edge}
theorem JL.appW{α:Type}{R:Rep α}(i:Nat){tx E:TypeId}{z y:Value}{size bytes B:Nat}{ls ms rs:List α}{K:Own}(hu:x.P.underlying t=some (.slice E))(he:eInfo x.P E=some (z,size,bytes))
 (h1:evo l p=some v)(hi:own[i]? =some K)(hr:RowOf HF R B E size v ls K)(h2:evo l q=some y)(hs:SrcF x H HF own R size tx y ms)
 (hrs:rs=ls++ms)(hl:ls.length+ms.length≤140737488355328)(hb:Nat.ble bytes 1=true)(hB:B≤x.w0.heap.size)(hd:Nat.blt d x.n=true)
 (h:∀v' K',RowOf HF R B E size v' rs K'→JL x ops Q rest ((d,v')::l) (own.set i K') H):
 JL x ops Q (⟨some d,.call ⟨.builtin .append,#[p,q],#[t,tx]⟩,ty,pos,aft,none⟩::rest) l own H:=λa w hh=>by
 subst hrs
 simp only[wpLs,Zp,if_true]
 refine⟨λ_ _=>trivial,?_⟩
 obtain⟨cells,hrow,hf,hone⟩:=hr
 obtain⟨news,hfn,honen,hsrc⟩:=hs
 obtain⟨v',K',w',hrun,hrow',hm⟩:=append_row (ty:=ty) hu he hh.mem.agr (own_here hh.mem hi) hrow (hsrc w hh.mem) (by simp only[maxLen];omega) (Nat.le_trans (Nat.mul_le_mul_left _ (Nat.le_of_ble_eq_true hb)) (by omega)) (Nat.le_trans hB hh.mem.kept.size)
 have hrun':(execOp a.eval ⟨some d,.call ⟨.builtin .append,#[p,q],#[t,tx]⟩,ty,pos,aft,none⟩).run x.P w=.ok (.value v') w':=by
  have e1:=Zn hh h1
  have e2:=Zn hh h2
  have:(execOp a.eval ⟨some d,.call ⟨.builtin .append,#[p,q],#[t,tx]⟩,ty,pos,aft,none⟩).run x.P w=((Builtin.append_ #[t,tx] ty #[v,y]).run x.P w).andThen (λr w''=>.ok (.value r) w''):=by
   generalize a.eval=ρ at e1 e2
   have e3:Array.map ρ #[p,q]= #[v,y]:=by simp[e1,e2]
   simp only[execOp,resolve,e3,Sem.run_bind,Sem.run_pure,Result.andThen,invoke,builtin]
  rw[this,hrun];rfl
 rw[Zy rfl,hrun']
 exact h v' K' ⟨cells++news,by simpa using hrow',Flat.append hfn hf,λu hu=>(List.mem_append.1 hu).elim (hone u) (honen u)⟩ _ _
  (Holds.put (x:=x) (l:=l) ⟨hh.size,hh.ds,hh.slots,hh.mem.go1 hi hm⟩ hd v')
end rules
end Go.Ow
namespace Go.Ow
def dev_cut (p_1:List Int):Option (List (List UInt8)):=if(∀n∈p_1,0≤n)∧(p_1.map Int.toNat).sum≤LIM∧p_1.length≤LIM then some (p_1.map λn=>List.replicate n.toNat 0)else none
def dev_place (p_1:Int):Option Bool:=
 some (decide ((u64i p_1)<(256:UInt64)))
def dev_Check_l2 (p_1:Disk)(s_18:Bool×Nat):Option ((Bool×Nat) ⊕ Bool):=
 cond (decide (((s_18.2:Nat):Int)<(p_1.Waits.length:Int))) (idx p_1.Waits ((s_18.2:Nat):Int) λy_22=>cond s_18.1 (Option.bind (dev_place y_22.At) λx_35=>cond x_35 (some (.inl (decide ((y_22.Data.length:Int)=256),s_18.2+1))) (some (.inl (false,s_18.2+1)))) (some (.inl (false,s_18.2+1)))) (some (.inr s_18.1))
def dev_Check_l1 (p_1:Disk)(s_12:Bool×Nat):Option ((Bool×Nat) ⊕ Bool):=
 cond (decide (((s_12.2:Nat):Int)<(p_1.Blocks.length:Int))) (idx p_1.Blocks ((s_12.2:Nat):Int) λy_16=>cond s_12.1 (some (.inl (decide ((y_16.length:Int)=256),s_12.2+1))) (some (.inl (false,s_12.2+1)))) (some (.inr s_12.1))
def dev_Check (p_1:Disk):Option Int:=
 Option.bind (cond (decide ((p_1.Blocks.length:Int)=256)) (some (decide ((p_1.Waits.length:Int)≤4096))) (some false)) (λt_5=>Option.bind (loop (dev_Check_l1 p_1) (t_5,0)) (λt_9=>Option.bind (loop (dev_Check_l2 p_1) (t_9,0)) (λt_15=>cond t_15 (some 0) (some 8))))
def slices_Max_byte_l1 (p_1:List UInt8)(s_16:UInt8×Nat):Option ((UInt8×Nat) ⊕ UInt8):=
 cond (decide (((s_16.2:Nat):Int)<(p_1.length:Int))) (idx p_1 ((s_16.2:Nat):Int) λy_20=>some (.inl (maxB s_16.1 y_20,s_16.2+1))) (some (.inr s_16.1))
def slices_Max_byte (p_1:List UInt8):Option UInt8:=
 cond (decide ((p_1.length:Int)<1)) (none) (idx p_1 0 λy_4=>Option.bind (loop (slices_Max_byte_l1 p_1) (y_4,1)) (λt_13=>some t_13))
def unicode_utf8_RuneCount (p_0:List UInt8):Option Int:=none
def bytes_Index (p_0:List UInt8)(p_1:List UInt8):Option Int:=none
def bytes_Count_l1 (p_3:List UInt8)(s_22:List UInt8×Int):Option ((List UInt8×Int) ⊕ Int):=
 Option.bind (bytes_Index s_22.1 p_3) λx_26=>cond (decide (x_26=(-1))) (some (.inr s_22.2)) (slc s_22.1 (w64 (x_26+(p_3.length:Int))) (s_22.1.length:Int) λm_30=>some (.inl (m_30,w64 (s_22.2+1))))
def bytes_Count (p_1:List UInt8)(p_3:List UInt8):Option Int:=
 cond (decide ((p_3.length:Int)=0)) (Option.bind (unicode_utf8_RuneCount p_1) λx_6=>some (w64 (x_6+1))) (cond (decide ((p_3.length:Int)=1)) (idx p_3 0 λy_10=>some ((cntB p_1 y_10:Nat):Int)) (Option.bind (loop (bytes_Count_l1 p_3) (p_1,0)) (λt_19=>some t_19)))
def space_Check (p_1:List UInt8):Option Int:=
 cond (!decide ((p_1.length:Int)=256)) (some 8) (Option.bind (slices_Max_byte p_1) λx_4=>cond (decide ((2:UInt8)<x_4)) (some 8) (slc p_1 0 12 λm_8=>Option.bind (bytes_Count m_8 ([(1:UInt8)])) λx_16=>cond (!decide (x_16=12)) (some 8) (some 0)))
def store_Check (p_1:Store):Option Int:=
 Option.bind (dev_Check (Disk.mk p_1.Disk.Blocks p_1.Disk.Waits)) λx_6=>cond (!decide (x_6=0)) (some 8) (Option.bind (space_Check p_1.Space) λx_10=>cond (!decide (x_10=0)) (some 8) (cond (decide (p_1.Epoch<(1:UInt32))) (some 8) (cond (decide ((65535:UInt32)<p_1.Epoch)) (some 8) (cond (decide ((65535:UInt32)<p_1.Count)) (some 8) (some 0)))))
def code_sized (p_1:Int):Option Bool:=
 Option.bind (cond (decide (0<p_1)) (some (decide (p_1≤4))) (some false)) (λt_2=>some t_2)
def code_Put_l1 (p_2:Int)(s_13:Int×List UInt8):Option ((Int×List UInt8) ⊕ (List UInt8)):=
 cond (decide ((s_13.2.length:Int)<p_2)) (app s_13.2 ([u8i s_13.1]) λq_19=>some (.inl (w64 (s_13.1.tdiv 256),q_19))) (some (.inr s_13.2))
def code_Put (p_1:Int)(p_2:Int):Option (List UInt8×Int):=
 Option.bind (code_sized p_2) λx_3=>cond (!x_3) (some (([]:List UInt8),2)) (cond (decide (p_1<0)) (some (([]:List UInt8),2)) (chk (0≤(w64 (8*p_2)))<|cond (decide ((sli 1 (w64 (8*p_2)))≤p_1)) (some (([]:List UInt8),2)) (Option.bind (loop (code_Put_l1 p_2) (p_1,([]:List UInt8))) (λt_10=>some (t_10,0)))))
def cipher_pieces (p_1:List UInt8)(p_3:UInt32):Option (List UInt8×List UInt8):=
 Option.bind (code_Put (p_3.toNat:Int) 4) λx_5=>some (p_1,x_5.1)
def slices_Grow_byte (p_1:Int):Option (List UInt8):=
 cond (decide (p_1<0)) (none) (Option.bind (cond (decide (0<(w64 (p_1-0)))) (mks (w64 (p_1-0)) (0:UInt8) λq_9=>slc q_9 0 0 λm_13=>some m_13) (some ([]:List UInt8))) (λt_3=>some t_3))
def slices_Concat_byte_l2 (p_1:List (List UInt8))(s_16:List UInt8×Nat):Option ((List UInt8×Nat) ⊕ (List UInt8)):=
 cond (decide (((s_16.2:Nat):Int)<(p_1.length:Int))) (idx p_1 ((s_16.2:Nat):Int) λy_21=>app s_16.1 y_21 λq_32=>some (.inl (q_32,s_16.2+1))) (some (.inr s_16.1))
def slices_Concat_byte_l1 (p_1:List (List UInt8))(s_6:Int×Nat):Option ((Int×Nat) ⊕ Int):=
 cond (decide (((s_6.2:Nat):Int)<(p_1.length:Int))) (idx p_1 ((s_6.2:Nat):Int) λy_10=>cond (decide ((w64 (s_6.1+(y_10.length:Int)))<0)) (none) (some (.inl (w64 (s_6.1+(y_10.length:Int)),s_6.2+1)))) (some (.inr s_6.1))
def slices_Concat_byte (p_1:List (List UInt8)):Option (List UInt8):=
 Option.bind (loop (slices_Concat_byte_l1 p_1) (0,0)) (λt_3=>Option.bind (slices_Grow_byte t_3) λx_9=>Option.bind (loop (slices_Concat_byte_l2 p_1) (x_9,0)) (λt_13=>some t_13))
def slices_Clone_byte (p_1:List UInt8):Option (List UInt8):=app [] p_1 λq=>some q
def slices_Clip_byte (p_1:List UInt8):Option (List UInt8):=
 slc p_1 0 (p_1.length:Int) λm_3=>some m_3
def slices_Chunk_byte (p_1:List UInt8)(p_2:Int):Option Unit:=if 1≤p_2∧p_2≤1099511627776∧p_1.length≤LIM then some ()else none
def slices_Backward_byte (p_1:List UInt8):Option Unit:=some ()
def code_Get_r1 (y_28:Nat×UInt8)(s_27:Int):Option (Int ⊕ Unit):=
 some (.inl (w64 ((w64 (256*s_27))+(y_28.2.toNat:Int))))
def code_Get (p_1:List UInt8)(p_3:Int)(p_4:Int):Option (Int×Int):=
 Option.bind (code_sized p_4) λx_5=>Option.bind (cond (!x_5) (some true) (cond (decide (p_3<0)) (some true) (some (decide ((p_1.length:Int)<p_3))))) (λt_8=>cond t_8 (some (0,2)) (cond (decide ((p_1.length:Int)<(w64 (p_3+p_4)))) (some (0,8)) (slc p_1 p_3 (w64 (p_3+p_4)) λm_16=>Option.bind (slices_Backward_byte m_16) λx_20=>Option.bind (forL code_Get_r1 (bwd m_16 m_16.length) 0) (λt_24=>Sum.elim (λs_27=>some (s_27,0)) (λ_=>none) t_24))))
def mix_number (p_1:List UInt8):Option UInt32:=
 Option.bind (code_Get p_1 0 4) λx_3=>some (u32i x_3.1)
def math_bits_RotateLeft32 (p_1:UInt32)(p_2:Int):Option UInt32:=
 some ((sl32 p_1 ((((u64i p_2)&&&(31:UInt64)).toNat:Int)).toNat) |||(sr32 p_1 ((((32:UInt64)-((u64i p_2)&&&(31:UInt64))).toNat:Int)).toNat))
def mix_words_turned_1 (p_1:Int)(p_2:Int)(p_4:A4 UInt32):Option (A4 UInt32):=
 Option.bind (math_bits_RotateLeft32 (p_4.e3^^^(p_4.e0+p_4.e1)) p_1) λx_5=>Option.bind (math_bits_RotateLeft32 (p_4.e1^^^(p_4.e2+x_5)) p_2) λx_8=>some (A4.mk (p_4.e0+p_4.e1) x_8 (p_4.e2+x_5) x_5)
def mix_words_turned (p_1:A4 UInt32):Option (A4 UInt32):=
 Option.bind (mix_words_turned_1 15 11 p_1) λx_4=>Option.bind (mix_words_turned_1 9 6 x_4) λx_7=>some x_7
def mix_words_often_l1 (p_2:Int)(s_8:UInt32×UInt32×UInt32×UInt32×Int):Option ((UInt32×UInt32×UInt32×UInt32×Int) ⊕ (UInt32×UInt32×UInt32×UInt32)):=
 cond (decide (s_8.2.2.2.2<p_2)) (Option.bind (mix_words_turned (A4.mk s_8.1 s_8.2.1 s_8.2.2.1 s_8.2.2.2.1)) λx_12=>some (.inl (x_12.e0,x_12.e1,x_12.e2,x_12.e3,w64 (s_8.2.2.2.2+1)))) (some (.inr (s_8.1,s_8.2.1,s_8.2.2.1,s_8.2.2.2.1)))
def mix_words_often (p_1:A4 UInt32)(p_2:Int):Option (A4 UInt32):=
 Option.bind (loop (mix_words_often_l1 p_2) (p_1.e0,p_1.e1,p_1.e2,p_1.e3,0)) (λt_5=>some (A4.mk t_5.1 t_5.2.1 t_5.2.2.1 t_5.2.2.2))
def mix_four_r2 (y_36:List UInt8)(s_35:UInt32×UInt32×UInt32×UInt32):Option ((UInt32×UInt32×UInt32×UInt32) ⊕ Unit):=
 Option.bind (slc y_36 0 4 λm_45=>Option.bind (mix_number m_45) λx_49=>some (s_35.1^^^x_49)) (λt_42=>slc y_36 4 (y_36.length:Int) λm_56=>Option.bind (mix_number m_56) λx_60=>Option.bind (mix_words_often (A4.mk t_42 s_35.2.1 (s_35.2.2.1^^^x_60) s_35.2.2.2) 4) λx_63=>some (.inl (x_63.e0,x_63.e1,x_63.e2,x_63.e3)))
def mix_four_l1 (s_22:List UInt8):Option ((List UInt8) ⊕ (List UInt8)):=
 cond (!decide (((s_22.length:Int).tmod 8)=0)) (app s_22 ([(0:UInt8)]) λq_28=>some (.inl q_28)) (some (.inr s_22))
def mix_four (p_1:List UInt8):Option (A4 UInt32):=
 Option.bind (slices_Clone_byte p_1) λx_5=>Option.bind (slices_Clip_byte x_5) λx_10=>app x_10 ([(1:UInt8)]) λq_15=>Option.bind (loop mix_four_l1 q_15) (λt_19=>Option.bind (slices_Chunk_byte t_19 8) λx_28=>Option.bind (forL mix_four_r2 (chunks (8:Int).toNat t_19.length t_19) ((1:UInt32),(2:UInt32),(3:UInt32),(4:UInt32))) (λt_32=>Sum.elim (λs_35=>Option.bind (mix_words_often (A4.mk s_35.1 (s_35.2.1^^^(u32i (p_1.length:Int))) s_35.2.2.1 s_35.2.2.2) 8) λx_42=>some x_42) (λ_=>none) t_32))
def mix_Key_l1 (x_3:A4 UInt32)(s_9:List UInt8×Nat):Option ((List UInt8×Nat) ⊕ (List UInt8)):=
 cond (decide (((s_9.2:Nat):Int)<4)) (idx x_3.l ((s_9.2:Nat):Int) λy_14=>Option.bind (code_Put (y_14.toNat:Int) 4) λx_16=>app s_9.1 x_16.1 λq_20=>some (.inl (q_20,s_9.2+1))) (some (.inr s_9.1))
def mix_Key (p_1:List UInt8):Option (List UInt8):=
 Option.bind (mix_four p_1) λx_3=>Option.bind (loop (mix_Key_l1 x_3) (([]:List UInt8),0)) (λt_6=>some t_6)
def cipher_pieces_1_l1{σ τ:Type}(p_1:(List UInt8)→σ→Option (σ ⊕ τ))(p_4:List UInt8)(p_7:List UInt8)(s_12:σ×Int):Option ((σ×Int) ⊕ τ):=
 Option.bind (code_Put s_12.2 4) λx_18=>Option.bind (slices_Concat_byte ([p_4,p_7,x_18.1])) λx_27=>Option.bind (mix_Key x_27) λx_35=>Option.bind (p_1 x_35 s_12.1) λout_41=>Sum.elim (λs_43=>some (.inl (s_43,w64 (s_12.2+1)))) (λt_44=>some (.inr t_44)) out_41
def cipher_pieces_1{σ τ:Type}(p_1:(List UInt8)→σ→Option (σ ⊕ τ))(p_2:σ)(p_4:List UInt8)(p_7:List UInt8):Option (σ ⊕ τ):=
 Option.bind (loop (cipher_pieces_1_l1 p_1 p_4 p_7) (p_2,0)) (λt_9=>some (.inr (t_9)))
def cipher_Stream_r1 (p_4:Int)(y_25:List UInt8)(s_24:List UInt8):Option ((List UInt8) ⊕ (List UInt8)):=
 cond (decide (p_4≤(s_24.length:Int))) (some (.inr s_24)) (app s_24 y_25 λq_37=>some (.inl q_37))
def cipher_Stream (p_1:List UInt8)(p_3:UInt32)(p_4:Int):Option (List UInt8×Int):=
 cond (!decide ((p_1.length:Int)=16)) (some (([]:List UInt8),2)) (cond (decide (p_4<0)) (some (([]:List UInt8),2)) (cond (decide (4096<p_4)) (some (([]:List UInt8),2)) (Option.bind (cipher_pieces p_1 p_3) λx_10=>Option.bind (Option.bind (cipher_pieces_1 (cipher_Stream_r1 p_4) ([]:List UInt8) x_10.1 x_10.2) (λt_21=>Sum.elim (λs_24=>some s_24) (λt_21e0=>some t_21e0) t_21)) (λt_17=>slc t_17 0 p_4 λm_45=>Option.bind (slices_Clone_byte m_45) λx_49=>some (x_49,0)))))
def cipher_Turn_l1 (p_4:List UInt8)(s_15:List UInt8×Nat):Option ((List UInt8×Nat) ⊕ (List UInt8)):=
 cond (decide (((s_15.2:Nat):Int)<(p_4.length:Int))) (idx p_4 ((s_15.2:Nat):Int) λy_20=>idx s_15.1 ((s_15.2:Nat):Int) λy_29=>chk (0≤((s_15.2:Nat):Int)∧((s_15.2:Nat):Int).toNat<s_15.1.length)<|setI s_15.1 ((s_15.2:Nat):Int) (y_29^^^y_20) λm_44=>some (.inl (m_44,s_15.2+1))) (some (.inr s_15.1))
def cipher_Turn (p_1:List UInt8)(p_3:UInt32)(p_4:List UInt8):Option (List UInt8×Int):=
 cond (!decide ((p_1.length:Int)=16)) (some (([]:List UInt8),2)) (cond (decide (4096<(p_4.length:Int))) (some (([]:List UInt8),3)) (Option.bind (cipher_Stream p_1 p_3 (p_4.length:Int)) λx_8=>Option.bind (loop (cipher_Turn_l1 p_4) (x_8.1,0)) (λt_12=>some (t_12,x_8.2))))
def seal_turned (p_1:List UInt8)(p_3:UInt32)(p_4:List UInt8):Option (List UInt8×Int):=
 Option.bind (cond (decide ((p_1.length:Int)=16)) (cond (decide (256<(p_4.length:Int))) (some (.inr ())) (some (.inl ()))) (some (.inl ()))) (λt_6=>Sum.elim (λt_6a=>Option.bind (cipher_Turn p_1 p_3 p_4) λx_11=>some (x_11.1,x_11.2)) (λt_6b=>some (([]:List UInt8),3)) t_6)
def mac_inner (p_1:List (List UInt8)):Option (List UInt8):=
 Option.bind (slices_Concat_byte p_1) λx_3=>Option.bind (mix_Key x_3) λx_10=>some x_10
def mix_Sum (p_1:List UInt8):Option UInt32:=
 Option.bind (mix_four p_1) λx_3=>some x_3.e0
def mac_Tag (p_1:List UInt8)(p_3:List UInt8):Option (UInt32×Int):=
 cond (!decide ((p_1.length:Int)=16)) (some ((0:UInt32),2)) (Option.bind (mac_inner ([p_1,[(1:UInt8)],p_3])) λx_13=>Option.bind (slices_Concat_byte ([p_1,[(2:UInt8)],x_13])) λx_24=>Option.bind (mix_Sum x_24) λx_32=>some (x_32,0))
def seal_tagged (p_1:List UInt8)(p_3:UInt32)(p_4:List UInt8):Option (UInt32×Int):=
 Option.bind (code_Put (p_3.toNat:Int) 4) λx_6=>cond (!decide (x_6.2=0)) (some ((0:UInt32),x_6.2)) (Option.bind (slices_Concat_byte ([x_6.1,p_4])) λx_16=>Option.bind (mac_Tag p_1 x_16) λx_24=>some (x_24.1,x_24.2))
def bytes_Clone (p_1:List UInt8):Option (List UInt8):=app [] p_1 λq=>some q
def dev_Twin_l3 (p_1:Disk)(s_30:List Write×Nat):Option ((List Write×Nat) ⊕ (List Write)):=
 cond (decide (((s_30.2:Nat):Int)<(p_1.Waits.length:Int))) (idx p_1.Waits ((s_30.2:Nat):Int) λy_36=>Option.bind (bytes_Clone y_36.Data) λx_48=>app s_30.1 ([Write.mk y_36.At x_48]) λq_54=>some (.inl (q_54,s_30.2+1))) (some (.inr s_30.1))
def dev_Twin_l2 (p_1:Disk)(s_22:List (List UInt8)×Nat):Option ((List (List UInt8)×Nat) ⊕ (List (List UInt8))):=
 cond (decide (((s_22.2:Nat):Int)<(p_1.Blocks.length:Int))) (idx p_1.Blocks ((s_22.2:Nat):Int) λy_27=>idx s_22.1 ((s_22.2:Nat):Int) λy_38=>chk (y_27.length=y_38.length)<|setI s_22.1 ((s_22.2:Nat):Int) y_27 λm_51=>some (.inl (m_51,s_22.2+1))) (some (.inr s_22.1))
def dev_Twin_l1 (p_1:Disk)(s_9:List Int×Nat):Option ((List Int×Nat) ⊕ (List Int)):=
 cond (decide (((s_9.2:Nat):Int)<(p_1.Blocks.length:Int))) (idx p_1.Blocks ((s_9.2:Nat):Int) λy_14=>app s_9.1 ([(y_14.length:Int)]) λq_26=>some (.inl (q_26,s_9.2+1))) (some (.inr s_9.1))
def dev_Twin (p_1:Disk):Option Disk:=
 Option.bind (loop (dev_Twin_l1 p_1) (([]:List Int),0)) (λt_6=>Option.bind (dev_cut t_6) λx_15=>Option.bind (loop (dev_Twin_l2 p_1) (x_15,0)) (λt_19=>Option.bind (loop (dev_Twin_l3 p_1) (([]:List Write),0)) (λt_27=>some (Disk.mk t_19 t_27))))
def ptr_Check (p_1:Ptr):Option Int:=
 cond (decide (p_1.At=0)&&(decide (p_1.Birth=(0:UInt32))&&(decide (p_1.Iv=(0:UInt32))&&(decide (p_1.Tag=(0:UInt32))&&(decide (p_1.Sum=(0:UInt32))&&true))))) (some 0) (cond (decide (p_1.At<12)) (some 8) (cond (decide (256≤p_1.At)) (some 8) (cond (decide (p_1.Birth<(1:UInt32))) (some 8) (cond (decide ((16777215:UInt32)<p_1.Birth)) (some 8) (some 0)))))
def slices_Clone_byte_L (p_1:List (List UInt8)):Option (List (List UInt8)):=app [] p_1 λq=>some q
def dev_all (p_1:Int):Option Bool:=
 some true
def dev_lasts_l1 (p_1:Disk)(s_9:(List (Int×Write))×Nat):Option (((List (Int×Write))×Nat) ⊕ (List (Int×Write))):=
 cond (decide (((s_9.2:Nat):Int)<(p_1.Waits.length:Int))) (idx p_1.Waits ((s_9.2:Nat):Int) λy_14=>Option.bind (dev_all ((s_9.2:Nat):Int)) λx_26=>cond x_26 (some (.inl ((putM s_9.1 y_14.At y_14),s_9.2+1))) (some (.inl (s_9.1,s_9.2+1)))) (some (.inr s_9.1))
def dev_lasts (p_1:Disk):Option (List (Int×Write)):=
 Option.bind (loop (dev_lasts_l1 p_1) (([]:List (Int×Write)),0)) (λt_6=>some t_6)
def dev_left (p_1:Disk):Option Disk:=
 Option.bind (Option.bind (slices_Clone_byte_L p_1.Blocks) λx_9=>some x_9) (λt_6=>Option.bind (dev_lasts (Disk.mk t_6 p_1.Waits)) λx_22=>layR (λy:Write=>y.Data) t_6 x_22 λm_30=>Option.bind (dev_Twin (Disk.mk m_30 ([]:List Write))) λx_50=>some x_50)
def dev_Read_1 (p_2:Disk):Option (Disk×Disk):=
 Option.bind (dev_left p_2) λx_6=>some (x_6,p_2)
def dev_guarded_v2 (p_1:Disk)(p_4:Bool)(p_6:Disk):Option (Disk×Int×Disk):=
 Option.bind (dev_Check p_1) λx_11=>cond (!decide (x_11=0)) (some (Disk.mk ([]:List (List UInt8)) ([]:List Write),x_11,p_6)) (cond (!p_4) (some (Disk.mk ([]:List (List UInt8)) ([]:List Write),2,p_6)) (Option.bind (dev_Read_1 p_6) λx_16=>some (x_16.1,0,x_16.2)))
def dev_Read (p_1:Disk)(p_4:Int):Option (List UInt8×Int):=
 Option.bind (Option.bind (dev_place p_4) λx_9=>Option.bind (dev_guarded_v2 p_1 x_9 p_1) λx_12=>some (x_12.1.Blocks,x_12.1.Waits,x_12.2.1)) (λt_6=>cond (!decide (t_6.2.2=0)) (some (([]:List UInt8),t_6.2.2)) (idx t_6.1 p_4 λy_25=>some (y_25,0)))
def store_Look (p_1:Store)(p_5:Ptr):Option (List UInt8×Int):=
 Option.bind (store_Check p_1) λx_8=>cond (!decide (x_8=0)) (some (([]:List UInt8),8)) (Option.bind (ptr_Check p_5) λx_12=>cond (!decide (x_12=0)) (some (([]:List UInt8),8)) (cond (decide (p_5.At=0)&&(decide (p_5.Birth=(0:UInt32))&&(decide (p_5.Iv=(0:UInt32))&&(decide (p_5.Tag=(0:UInt32))&&(decide (p_5.Sum=(0:UInt32))&&true))))) (some (([]:List UInt8),6)) (Option.bind (dev_Read (Disk.mk p_1.Disk.Blocks p_1.Disk.Waits) p_5.At) λx_17=>Option.bind (cond (decide (x_17.2=0)) (Option.bind (mix_Sum x_17.1) λx_25=>cond (!decide (x_25=p_5.Sum)) (some (([]:List UInt8),130)) (some (x_17.1,x_17.2))) (some (x_17.1,x_17.2))) (λt_21=>some (t_21.1,t_21.2)))))
def seal_Open (p_1:List UInt8)(p_3:UInt32)(p_4:List UInt8)(p_6:UInt32):Option (List UInt8×Int):=
 Option.bind (seal_turned p_1 p_3 p_4) λx_7=>cond (!decide (x_7.2=0)) (some (([]:List UInt8),x_7.2)) (Option.bind (seal_tagged p_1 p_3 p_4) λx_12=>cond (!decide (x_12.2=0)) (some (([]:List UInt8),131)) (cond (!decide (x_12.1=p_6)) (some (([]:List UInt8),131)) (some (x_7.1,0))))
def store_Open (p_1:Store)(p_5:Ptr)(p_6:List UInt8):Option (List UInt8×Int):=
 Option.bind (store_Look p_1 p_5) λx_10=>cond (!decide (x_10.2=0)) (some (([]:List UInt8),x_10.2)) (cond (!decide ((p_6.length:Int)=16)) (some (([]:List UInt8),3)) (Option.bind (seal_Open p_6 p_5.Iv x_10.1 p_5.Tag) λx_16=>cond (!decide (x_16.2=0)) (some (([]:List UInt8),131)) (some (x_16.1,0))))
def ref09_Great_l2 (p_1:Disk)(s_22:Int×Nat):Option ((Int×Nat) ⊕ Int):=
 cond (decide (((s_22.2:Nat):Int)<(p_1.Waits.length:Int))) (cond (decide (s_22.1<2000000)) (idx p_1.Waits ((s_22.2:Nat):Int) λy_27=>some (.inl (w64 (s_22.1+(y_27.Data.length:Int)),s_22.2+1))) (some (.inr s_22.1))) (some (.inr s_22.1))
def ref09_Great_l1 (p_1:Disk)(s_16:Int×Nat):Option ((Int×Nat) ⊕ Int):=
 cond (decide (((s_16.2:Nat):Int)<(p_1.Blocks.length:Int))) (cond (decide (s_16.1<2000000)) (idx p_1.Blocks ((s_16.2:Nat):Int) λy_21=>some (.inl (w64 (s_16.1+(y_21.length:Int)),s_16.2+1))) (some (.inr s_16.1))) (some (.inr s_16.1))
def ref09_Great (p_1:Disk):Option Bool:=
 Option.bind (cond (decide (500<(p_1.Blocks.length:Int))) (some (.inr ())) (cond (decide (500<(p_1.Waits.length:Int))) (cond (decide ((p_1.Waits.length:Int)<4096)) (some (.inr ())) (cond (decide (4106<(p_1.Waits.length:Int))) (some (.inr ())) (some (.inl ())))) (cond (decide (4106<(p_1.Waits.length:Int))) (some (.inr ())) (some (.inl ()))))) (λt_5=>Sum.elim (λt_5a=>Option.bind (loop (ref09_Great_l1 p_1) (0,0)) (λt_13=>Option.bind (loop (ref09_Great_l2 p_1) (t_13,0)) (λt_19=>some (decide (2000000≤t_19))))) (λt_5b=>some true) t_5)
def ref13_Great (p_1:Store):Option Bool:=
 Option.bind (Option.bind (ref09_Great (Disk.mk p_1.Disk.Blocks p_1.Disk.Waits)) λx_9=>cond x_9 (some true) (some (decide (10000<(p_1.Space.length:Int))))) (λt_6=>some t_6)
end Go.Ow
namespace Go.Ow
theorem run_go{σ τ:Type}{body:σ→Option (σ ⊕ τ)}{n:Nat}{s s':σ}(h:body s=some (.inl s')):run body (n+1) s=run body n s':=by
 show Option.bind (body s) _=_
 rw[h];rfl
end Go.Ow
namespace Go.Ow
end Go.Ow
namespace Go.Ow
def obj_Check_1 (p_1:Int)(p_2:Int)(p_3:Int):Option Bool:=
 Option.bind (cond (decide (p_2≤p_1)) (some (decide (p_1≤p_3))) (some false)) (λt_4=>some t_4)
def obj_Check_2 (p_1:Ptr):Option Bool:=
 Option.bind (ptr_Check p_1) λx_3=>some (!decide (x_3=0))
def slices_IndexFunc_Ptr_l1 (p_1:List Ptr)(s_6:Nat):Option (Nat ⊕ (Unit ⊕ Int)):=
 cond (decide (((s_6:Nat):Int)<(p_1.length:Int))) (idx p_1 ((s_6:Nat):Int) λy_10=>Option.bind (obj_Check_2 y_10) λx_19=>cond x_19 (some (.inr (.inr ((s_6:Nat):Int)))) (some (.inl (s_6+1)))) (some (.inr (.inl ())))
def slices_IndexFunc_Ptr (p_1:List Ptr):Option Int:=
 Option.bind (loop (slices_IndexFunc_Ptr_l1 p_1) 0) (λt_3=>Sum.elim (λt_3a=>some (-1)) (λt_3b=>some t_3b) t_3)
def slices_ContainsFunc_Ptr (p_1:List Ptr):Option Bool:=
 Option.bind (slices_IndexFunc_Ptr p_1) λx_3=>some (decide (0≤x_3))
def obj_Check (p_1:Object):Option Int:=
 Option.bind (obj_Check_1 (p_1.Kind.toNat:Int) 1 7) λx_4=>cond (!x_4) (some 8) (Option.bind (obj_Check_1 p_1.Links 0 255) λx_8=>cond (!x_8) (some 8) (Option.bind (obj_Check_1 p_1.Size 0 3840) λx_12=>cond (!x_12) (some 8) (cond (!decide ((p_1.Data.length:Int)=15)) (some 8) (Option.bind (slices_ContainsFunc_Ptr p_1.Data) λx_17=>cond x_17 (some 8) (some 0)))))
def ptr_sizes:Option (A5 Int):=
 some (A5.mk 1 3 4 4 4)
def ptr_Read_l1 (p_1:List UInt8)(x_6:A5 Int)(s_12:Int×Int×Int×Int×Int×Int×Nat):Option ((Int×Int×Int×Int×Int×Int×Nat) ⊕ (Int×Int×Int×Int×Int)):=
 cond (decide (((s_12.2.2.2.2.2.2:Nat):Int)<5)) (idx x_6.l ((s_12.2.2.2.2.2.2:Nat):Int) λy_17=>Option.bind (code_Get p_1 s_12.2.2.2.2.2.1 y_17) λx_19=>chk (0≤((s_12.2.2.2.2.2.2:Nat):Int)∧((s_12.2.2.2.2.2.2:Nat):Int).toNat<5)<|A5.setI (A5.mk s_12.1 s_12.2.1 s_12.2.2.1 s_12.2.2.2.1 s_12.2.2.2.2.1) ((s_12.2.2.2.2.2.2:Nat):Int) x_19.1 λm_23=>some (.inl (m_23.e0,m_23.e1,m_23.e2,m_23.e3,m_23.e4,w64 (s_12.2.2.2.2.2.1+y_17),s_12.2.2.2.2.2.2+1))) (some (.inr (s_12.1,s_12.2.1,s_12.2.2.1,s_12.2.2.2.1,s_12.2.2.2.2.1)))
def ptr_Read (p_1:List UInt8):Option (Ptr×Int):=
 cond (!decide ((p_1.length:Int)=16)) (some (Ptr.mk 0 (0:UInt32) (0:UInt32) (0:UInt32) (0:UInt32),3)) (Option.bind (ptr_sizes) λx_6=>Option.bind (loop (ptr_Read_l1 p_1 x_6) (0,0,0,0,0,0,0)) (λt_9=>Option.bind (ptr_Check (Ptr.mk t_9.1 (u32i t_9.2.1) (u32i t_9.2.2.1) (u32i t_9.2.2.2.1) (u32i t_9.2.2.2.2))) λx_17=>cond (!decide (x_17=0)) (some (Ptr.mk 0 (0:UInt32) (0:UInt32) (0:UInt32) (0:UInt32),x_17)) (some (Ptr.mk t_9.1 (u32i t_9.2.1) (u32i t_9.2.2.1) (u32i t_9.2.2.2.1) (u32i t_9.2.2.2.2),0))))
def ptr_Rows_r1 (y_14:List UInt8)(s_13:List Ptr):Option ((List Ptr) ⊕ Int):=
 Option.bind (ptr_Read y_14) λx_21=>cond (!decide (x_21.2=0)) (some (.inr x_21.2)) (app s_13 ([x_21.1]) λq_27=>some (.inl q_27))
def ptr_Rows (p_1:List UInt8):Option (List Ptr×Int):=
 cond (!decide ((p_1.length:Int)=256)) (some (([]:List Ptr),3)) (Option.bind (slices_Chunk_byte p_1 16) λx_6=>Option.bind (forL ptr_Rows_r1 (chunks (16:Int).toNat p_1.length p_1) ([]:List Ptr)) (λt_10=>Sum.elim (λs_13=>some (s_13,0)) (λt_10e0=>some (([]:List Ptr),t_10e0)) t_10))
def set_Ptrs (p_1:Store)(p_5:Ptr):Option (List Ptr×Int):=
 Option.bind (store_Check p_1) λx_8=>cond (!decide (x_8=0)) (some (([]:List Ptr),8)) (Option.bind (ptr_Check p_5) λx_12=>cond (!decide (x_12=0)) (some (([]:List Ptr),8)) (cond (decide (p_5.At=0)&&(decide (p_5.Birth=(0:UInt32))&&(decide (p_5.Iv=(0:UInt32))&&(decide (p_5.Tag=(0:UInt32))&&(decide (p_5.Sum=(0:UInt32))&&true))))) (mks 16 (Ptr.mk 0 (0:UInt32) (0:UInt32) (0:UInt32) (0:UInt32)) λx_19=>some (x_19,0)) (Option.bind (store_Look p_1 p_5) λx_21=>cond (!decide (x_21.2=0)) (some (([]:List Ptr),x_21.2)) (Option.bind (ptr_Rows x_21.1) λx_26=>cond (!decide (x_26.2=0)) (some (([]:List Ptr),8)) (some (x_26.1,0))))))
def obj_Read (p_1:List UInt8):Option (Object×Int):=
 cond (!decide ((p_1.length:Int)=256)) (some (Object.mk (0:UInt8) 0 0 ([]:List Ptr),3)) (A16.first 0 p_1 λm_5=>slc p_1 16 (p_1.length:Int) λm_14=>app m_14 (List.replicate 16 (0:UInt8)) λq_18=>Option.bind (ptr_Rows q_18) λx_25=>cond (!decide (x_25.2=0)) (some (Object.mk (0:UInt8) 0 0 ([]:List Ptr),8)) (cond (!decide (([m_5.e4,m_5.e5,m_5.e6,m_5.e7,m_5.e8,m_5.e9,m_5.e10,m_5.e11,m_5.e12,m_5.e13,m_5.e14,m_5.e15]:List UInt8)= [(0:UInt8),(0:UInt8),(0:UInt8),(0:UInt8),(0:UInt8),(0:UInt8),(0:UInt8),(0:UInt8),(0:UInt8),(0:UInt8),(0:UInt8),(0:UInt8)])) (some (Object.mk (0:UInt8) 0 0 ([]:List Ptr),8)) (Option.bind (code_Get p_1 2 2) λx_32=>slc x_25.1 0 15 λm_36=>Option.bind (obj_Check (Object.mk m_5.e0 (m_5.e1.toNat:Int) x_32.1 m_36)) λx_40=>cond (!decide (x_40=0)) (some (Object.mk (0:UInt8) 0 0 ([]:List Ptr),8)) (some (Object.mk m_5.e0 (m_5.e1.toNat:Int) x_32.1 m_36,0)))))
def set_one (p_1:Store)(p_5:Ptr):Option (Object×Int):=
 Option.bind (store_Look p_1 p_5) λx_9=>cond (!decide (x_9.2=0)) (some (Object.mk (0:UInt8) 0 0 ([]:List Ptr),x_9.2)) (Option.bind (obj_Read x_9.1) λx_14=>cond (!decide (x_14.2=0)) (some (Object.mk (0:UInt8) 0 0 ([]:List Ptr),8)) (some (x_14.1,0)))
def set_Object (p_1:Store)(p_5:Ptr)(p_6:Int):Option (Object×Int):=
 Option.bind (store_Check p_1) λx_10=>cond (!decide (x_10=0)) (some (Object.mk (0:UInt8) 0 0 ([]:List Ptr),8)) (Option.bind (ptr_Check p_5) λx_14=>cond (!decide (x_14=0)) (some (Object.mk (0:UInt8) 0 0 ([]:List Ptr),8)) (cond (decide (p_6<0)) (some (Object.mk (0:UInt8) 0 0 ([]:List Ptr),2)) (cond (decide (16≤p_6)) (some (Object.mk (0:UInt8) 0 0 ([]:List Ptr),2)) (Option.bind (set_Ptrs p_1 p_5) λx_20=>cond (!decide (x_20.2=0)) (some (Object.mk (0:UInt8) 0 0 ([]:List Ptr),x_20.2)) (idx x_20.1 p_6 λy_25=>Option.bind (set_one p_1 y_25) λx_36=>some (x_36.1,x_36.2))))))
def cmp_isNaN_int (p_1:Int):Option Bool:=
 some (!decide (p_1=p_1))
def cmp_Compare_int (p_1:Int)(p_2:Int):Option Int:=
 Option.bind (cmp_isNaN_int p_1) λx_3=>Option.bind (cmp_isNaN_int p_2) λx_6=>cond x_3 (cond x_6 (some 0) (some (-1))) (cond x_6 (some 1) (cond (decide (p_1<p_2)) (some (-1)) (cond (decide (p_2<p_1)) (some 1) (some 0))))
def dead_order (p_1:Ptr)(p_2:Ptr):Option Int:=
 Option.bind (cmp_Compare_int p_1.At p_2.At) λx_5=>some x_5
def dead_Check_l1 (p_1:List Ptr)(s_7:Nat):Option (Nat ⊕ (Unit ⊕ Unit)):=
 cond (decide (((s_7:Nat):Int)<(p_1.length:Int))) (idx p_1 ((s_7:Nat):Int) λy_11=>cond (decide (y_11.At=0)&&(decide (y_11.Birth=(0:UInt32))&&(decide (y_11.Iv=(0:UInt32))&&(decide (y_11.Tag=(0:UInt32))&&(decide (y_11.Sum=(0:UInt32))&&true))))) (some (.inr (.inr ()))) (Option.bind (ptr_Check y_11) λx_22=>cond (!decide (x_22=0)) (some (.inr (.inr ()))) (cond (decide (0<((s_7:Nat):Int))) (idx p_1 (w64 (((s_7:Nat):Int)-1)) λy_27=>Option.bind (dead_order y_27 y_11) λx_36=>cond (decide (0≤x_36)) (some (.inr (.inr ()))) (some (.inl (s_7+1)))) (some (.inl (s_7+1)))))) (some (.inr (.inl ())))
def dead_Check (p_1:List Ptr):Option Int:=
 cond (decide (240<(p_1.length:Int))) (some 8) (Option.bind (loop (dead_Check_l1 p_1) 0) (λt_4=>Sum.elim (λt_4a=>some 0) (λt_4b=>some 8) t_4))
end Go.Ow
namespace Go.Ow
def ref09_Twin_l2 (p_1:Disk)(s_44:List WriteO×Nat):Option ((List WriteO×Nat) ⊕ (List WriteO)):=
 cond (decide (((s_44.2:Nat):Int)<(p_1.Waits.length:Int))) (idx p_1.Waits ((s_44.2:Nat):Int) λy_50=>idx s_44.1 ((s_44.2:Nat):Int) λy_61=>setI s_44.1 ((s_44.2:Nat):Int) (WriteO.mk y_50.At y_61.Data) λm_74=>idx p_1.Waits ((s_44.2:Nat):Int) λy_78=>idx m_74 ((s_44.2:Nat):Int) λy_89=>chkN y_89.Data<|app ([]:List UInt8) y_78.Data λq_104=>idx m_74 ((s_44.2:Nat):Int) λy_108=>setI m_74 ((s_44.2:Nat):Int) (WriteO.mk y_108.At (some q_104)) λm_122=>some (.inl (m_122,s_44.2+1))) (some (.inr s_44.1))
def ref09_Twin_l1 (p_1:Disk)(s_34:List (Option (List UInt8))×Nat):Option ((List (Option (List UInt8))×Nat) ⊕ (List (Option (List UInt8)))):=
 cond (decide (((s_34.2:Nat):Int)<(p_1.Blocks.length:Int))) (idx p_1.Blocks ((s_34.2:Nat):Int) λy_40=>idx s_34.1 ((s_34.2:Nat):Int) λy_51=>chkN y_51<|app ([]:List UInt8) y_40 λq_66=>chk (0≤((s_34.2:Nat):Int)∧((s_34.2:Nat):Int).toNat<s_34.1.length)<|setI s_34.1 ((s_34.2:Nat):Int) (some q_66) λm_75=>some (.inl (m_75,s_34.2+1))) (some (.inr s_34.1))
def ref09_Twin (p_1:Disk):Option Disk:=
 Option.bind (mks (p_1.Blocks.length:Int) (none:Option (List UInt8)) λx_11=>mks (p_1.Waits.length:Int) (WriteO.mk 0 (none:Option (List UInt8))) λx_15=>some (x_11,x_15)) (λt_6=>Option.bind (loop (ref09_Twin_l1 p_1) (t_6.1,0)) (λt_31=>Option.bind (loop (ref09_Twin_l2 p_1) (t_6.2,0)) (λt_41=>some (Disk.mk ((t_31).map (λy=>y.getD [])) ((t_41).map WriteO.w)))))
def ref13_Twin (p_1:Store):Option Store:=
 Option.bind (ref09_Twin (Disk.mk p_1.Disk.Blocks p_1.Disk.Waits)) λx_7=>app ([]:List UInt8) p_1.Space λq_13=>some (Store.mk (Disk.mk x_7.Blocks x_7.Waits) q_13 p_1.Epoch p_1.Count)
def ref09_place (p_1:Int):Option Bool:=
 Option.bind (cond (decide (0≤p_1)) (some (decide (p_1<256))) (some false)) (λt_2=>some t_2)
def ref09_May_l2 (p_1:Disk)(s_14:Int×Nat):Option ((Int×Nat) ⊕ Int):=
 cond (decide (((s_14.2:Nat):Int)<(p_1.Waits.length:Int))) (cond (decide (((s_14.2:Nat):Int)≤4096)) (idx p_1.Waits ((s_14.2:Nat):Int) λy_19=>cond (!decide ((y_19.Data.length:Int)=256)) (some (.inl (w64 (s_14.1+1),s_14.2+1))) (idx p_1.Waits ((s_14.2:Nat):Int) λy_31=>Option.bind (ref09_place y_31.At) λx_42=>cond (!x_42) (some (.inl (w64 (s_14.1+1),s_14.2+1))) (some (.inl (s_14.1,s_14.2+1))))) (some (.inr s_14.1))) (some (.inr s_14.1))
def ref09_May_l1 (p_1:Disk)(s_8:Int×Nat):Option ((Int×Nat) ⊕ Int):=
 cond (decide (((s_8.2:Nat):Int)<(p_1.Blocks.length:Int))) (cond (decide (((s_8.2:Nat):Int)≤256)) (idx p_1.Blocks ((s_8.2:Nat):Int) λy_13=>cond (!decide ((y_13.length:Int)=256)) (some (.inl (w64 (s_8.1+1),s_8.2+1))) (some (.inl (s_8.1,s_8.2+1)))) (some (.inr s_8.1))) (some (.inr s_8.1))
def ref09_May (p_1:Disk):Option Bool:=
 Option.bind (loop (ref09_May_l1 p_1) (0,0)) (λt_5=>Option.bind (loop (ref09_May_l2 p_1) (t_5,0)) (λt_11=>Option.bind (cond (decide (t_11=0)) (cond (decide ((p_1.Blocks.length:Int)=256)) (some (decide ((p_1.Waits.length:Int)≤4096))) (some false)) (some false)) (λt_17=>some t_17)))
def ref12_May_l1 (p_1:List UInt8)(s_7:Nat):Option (Nat ⊕ (Unit ⊕ Unit)):=
 cond (decide (((s_7:Nat):Int)<256)) (idx p_1 ((s_7:Nat):Int) λy_11=>cond (decide ((2:UInt8)<y_11)) (some (.inr (.inr ()))) (cond (decide (((s_7:Nat):Int)<12)) (idx p_1 ((s_7:Nat):Int) λy_22=>cond (!decide (y_22=(1:UInt8))) (some (.inr (.inr ()))) (some (.inl (s_7+1)))) (some (.inl (s_7+1))))) (some (.inr (.inl ())))
def ref12_May (p_1:List UInt8):Option Bool:=
 cond (!decide ((p_1.length:Int)=256)) (some false) (Option.bind (loop (ref12_May_l1 p_1) 0) (λt_4=>Sum.elim (λt_4a=>some true) (λt_4b=>some false) t_4))
def ref13_May (p_1:Store):Option Bool:=
 Option.bind (Option.bind (ref09_May (Disk.mk p_1.Disk.Blocks p_1.Disk.Waits)) λx_9=>cond x_9 (Option.bind (ref12_May p_1.Space) λx_13=>cond x_13 (cond (decide ((1:UInt32)≤p_1.Epoch)) (cond (decide (p_1.Epoch≤(65535:UInt32))) (some (decide (p_1.Count≤(65535:UInt32)))) (some false)) (some false)) (some false)) (some false)) (λt_6=>some t_6)
def ref10_None (p_1:Ptr):Option Bool:=
 some (decide (p_1.At=0)&&(decide (p_1.Birth=(0:UInt32))&&(decide (p_1.Iv=(0:UInt32))&&(decide (p_1.Tag=(0:UInt32))&&(decide (p_1.Sum=(0:UInt32))&&true)))))
def ref10_May (p_1:Ptr):Option Bool:=
 Option.bind (Option.bind (ref10_None p_1) λx_6=>cond x_6 (some true) (cond (decide (12≤p_1.At)) (cond (decide (p_1.At<256)) (cond (decide ((1:UInt32)≤p_1.Birth)) (some (decide (p_1.Birth≤(16777215:UInt32)))) (some false)) (some false)) (some false))) (λt_3=>some t_3)
def ref15_may (p_1:Store)(p_5:Ptr):Option Bool:=
 Option.bind (Option.bind (ref13_May p_1) λx_11=>cond x_11 (Option.bind (ref10_May p_5) λx_15=>some x_15) (some false)) (λt_8=>some t_8)
def ref09_last_l1 (p_1:Disk)(p_4:List Bool)(p_6:Int)(s_11:Int):Option (Int ⊕ Int):=
 Option.bind (cond (decide (0≤s_11)) (idx p_1.Waits s_11 λy_18=>cond (decide (y_18.At=p_6)) (cond (decide ((p_4.length:Int)=0)) (some (.inr ())) (idx p_4 s_11 λy_31=>cond (!y_31) (some (.inl ())) (some (.inr ())))) (some (.inl ()))) (some (.inr ()))) (λt_14=>Sum.elim (λt_14a=>some (.inl (w64 (s_11-1)))) (λt_14b=>some (.inr s_11)) t_14)
def ref09_last (p_1:Disk)(p_4:List Bool)(p_6:Int):Option Int:=
 Option.bind (loop (ref09_last_l1 p_1 p_4 p_6) (w64 ((p_1.Waits.length:Int)-1))) (λt_8=>some t_8)
def ref09_left (p_1:Disk)(p_4:List Bool)(p_6:Int):Option (List UInt8):=
 Option.bind (ref09_last p_1 p_4 p_6) λx_8=>cond (decide (x_8<0)) (idx p_1.Blocks p_6 λy_12=>app ([]:List UInt8) y_12 λq_24=>some q_24) (idx p_1.Waits x_8 λy_28=>app ([]:List UInt8) y_28.Data λq_40=>some q_40)
def ref09_Seen (p_1:Disk)(p_4:Int):Option (List UInt8):=
 Option.bind (ref09_left p_1 ([]:List Bool) p_4) λx_6=>some x_6
def ref02_byteAt (p_1:List UInt8)(p_3:Int):Option UInt32:=
 cond (decide (p_3<(p_1.length:Int))) (idx p_1 p_3 λy_5=>some y_5.toUInt32) (cond (decide (p_3=(p_1.length:Int))) (some (1:UInt32)) (some (0:UInt32)))
def ref02_word (p_1:List UInt8)(p_3:Int):Option UInt32:=
 Option.bind (ref02_byteAt p_1 p_3) λx_4=>Option.bind (ref02_byteAt p_1 (w64 (p_3+1))) λx_7=>Option.bind (ref02_byteAt p_1 (w64 (p_3+2))) λx_10=>Option.bind (ref02_byteAt p_1 (w64 (p_3+3))) λx_13=>some (((x_4+((256:UInt32)*x_7))+((65536:UInt32)*x_10))+((16777216:UInt32)*x_13))
def ref02_plus (p_1:UInt32)(p_2:UInt32):Option UInt32:=
 some (u32i ((w64 ((p_1.toNat:Int)+(p_2.toNat:Int))).tmod 4294967296))
def ref02_left_l1 (p_2:Int)(s_6:Int×Int):Option ((Int×Int) ⊕ Int):=
 cond (decide (s_6.2<p_2)) (some (.inl (w64 (((w64 (s_6.1*2)).tmod 4294967296)+(w64 ((w64 (s_6.1*2)).tdiv 4294967296))),w64 (s_6.2+1)))) (some (.inr s_6.1))
def ref02_left (p_1:UInt32)(p_2:Int):Option UInt32:=
 Option.bind (loop (ref02_left_l1 p_2) ((p_1.toNat:Int),0)) (λt_3=>some (u32i t_3))
def ref02_Turn (p_1:A4 UInt32):Option (A4 UInt32):=
 Option.bind (ref02_plus p_1.e0 p_1.e1) λx_4=>Option.bind (ref02_left (p_1.e3^^^x_4) 15) λx_7=>Option.bind (ref02_plus p_1.e2 x_7) λx_10=>Option.bind (ref02_left (p_1.e1^^^x_10) 11) λx_13=>Option.bind (ref02_plus x_4 x_13) λx_16=>Option.bind (ref02_left (x_7^^^x_16) 9) λx_19=>Option.bind (ref02_plus x_10 x_19) λx_22=>Option.bind (ref02_left (x_13^^^x_22) 6) λx_25=>some (A4.mk x_16 x_25 x_22 x_19)
def ref02_Four_l1 (p_1:List UInt8)(s_8:UInt32×UInt32×UInt32×UInt32×Int):Option ((UInt32×UInt32×UInt32×UInt32×Int) ⊕ (UInt32×UInt32×UInt32×UInt32)):=
 cond (decide (s_8.2.2.2.2≤(p_1.length:Int))) (Option.bind (Option.bind (ref02_word p_1 s_8.2.2.2.2) λx_15=>some (s_8.1^^^x_15)) (λt_12=>Option.bind (Option.bind (ref02_word p_1 (w64 (s_8.2.2.2.2+4))) λx_24=>some (s_8.2.2.1^^^x_24)) (λt_21=>Option.bind (ref02_Turn (A4.mk t_12 s_8.2.1 t_21 s_8.2.2.2.1)) λx_30=>Option.bind (ref02_Turn x_30) λx_33=>Option.bind (ref02_Turn x_33) λx_36=>Option.bind (ref02_Turn x_36) λx_39=>some (.inl (x_39.e0,x_39.e1,x_39.e2,x_39.e3,w64 (s_8.2.2.2.2+8)))))) (some (.inr (s_8.1,s_8.2.1,s_8.2.2.1,s_8.2.2.2.1)))
def ref02_Four (p_1:List UInt8):Option (A4 UInt32):=
 Option.bind (loop (ref02_Four_l1 p_1) ((1:UInt32),(2:UInt32),(3:UInt32),(4:UInt32),0)) (λt_5=>Option.bind (ref02_Turn (A4.mk t_5.1 (t_5.2.1^^^(u32i (p_1.length:Int))) t_5.2.2.1 t_5.2.2.2)) λx_11=>Option.bind (ref02_Turn x_11) λx_14=>Option.bind (ref02_Turn x_14) λx_17=>Option.bind (ref02_Turn x_17) λx_20=>Option.bind (ref02_Turn x_20) λx_23=>Option.bind (ref02_Turn x_23) λx_26=>Option.bind (ref02_Turn x_26) λx_29=>Option.bind (ref02_Turn x_29) λx_32=>some x_32)
def ref02_Sum (p_1:List UInt8):Option UInt32:=
 Option.bind (ref02_Four p_1) λx_3=>some x_3.e0
def ref13_Seen (p_1:Store)(p_5:Ptr):Option (List UInt8×Int):=
 Option.bind (ref10_None p_5) λx_8=>cond x_8 (some (([]:List UInt8),6)) (Option.bind (ref09_Seen (Disk.mk p_1.Disk.Blocks p_1.Disk.Waits) p_5.At) λx_12=>Option.bind (ref02_Sum x_12) λx_19=>cond (!decide (x_19=p_5.Sum)) (some (([]:List UInt8),130)) (app ([]:List UInt8) x_12 λq_23=>some (q_23,0)))
def ref10_Get_l1 (p_1:List UInt8)(s_6:UInt32×Int):Option ((UInt32×Int) ⊕ UInt32):=
 cond (decide (0≤s_6.2)) (idx p_1 s_6.2 λy_10=>some (.inl (((256:UInt32)*s_6.1)+y_10.toUInt32,w64 (s_6.2-1)))) (some (.inr s_6.1))
def ref10_Get (p_1:List UInt8):Option UInt32:=
 Option.bind (loop (ref10_Get_l1 p_1) ((0:UInt32),w64 ((p_1.length:Int)-1))) (λt_3=>some t_3)
def ref10_Read (p_1:List UInt8):Option (Ptr×Int):=
 cond (!decide ((p_1.length:Int)=16)) (some (Ptr.mk 0 (0:UInt32) (0:UInt32) (0:UInt32) (0:UInt32),3)) (idx p_1 0 λy_5=>slc p_1 1 4 λm_14=>slc p_1 4 8 λm_18=>slc p_1 8 12 λm_22=>slc p_1 12 16 λm_26=>Option.bind (ref10_Get m_14) λx_32=>Option.bind (ref10_Get m_18) λx_37=>Option.bind (ref10_Get m_22) λx_42=>Option.bind (ref10_Get m_26) λx_47=>Option.bind (ref10_May (Ptr.mk (y_5.toNat:Int) x_32 x_37 x_42 x_47)) λx_51=>cond (!x_51) (some (Ptr.mk 0 (0:UInt32) (0:UInt32) (0:UInt32) (0:UInt32),8)) (some (Ptr.mk (y_5.toNat:Int) x_32 x_37 x_42 x_47,0)))
def ref10_Rows_l1 (p_1:List UInt8)(s_7:List Ptr×Nat):Option ((List Ptr×Nat) ⊕ ((List Ptr) ⊕ Int)):=
 cond (decide (((s_7.2:Nat):Int)<16)) (slc p_1 (w64 (16*((s_7.2:Nat):Int))) (w64 ((w64 (16*((s_7.2:Nat):Int)))+16)) λm_12=>Option.bind (ref10_Read m_12) λx_16=>cond (!decide (x_16.2=0)) (some (.inr (.inr x_16.2))) (app s_7.1 ([x_16.1]) λq_22=>some (.inl (q_22,s_7.2+1)))) (some (.inr (.inl s_7.1)))
def ref10_Rows (p_1:List UInt8):Option (List Ptr×Int):=
 cond (!decide ((p_1.length:Int)=256)) (some (([]:List Ptr),3)) (Option.bind (loop (ref10_Rows_l1 p_1) (([]:List Ptr),0)) (λt_4=>Sum.elim (λt_4a=>some (t_4a,0)) (λt_4b=>some (([]:List Ptr),t_4b)) t_4))
def ref15_Row (p_1:Store)(p_5:Ptr):Option (List Ptr×Int):=
 Option.bind (ref10_None p_5) λx_8=>cond x_8 (mks 16 (Ptr.mk 0 (0:UInt32) (0:UInt32) (0:UInt32) (0:UInt32)) λx_14=>some (x_14,0)) (Option.bind (ref13_Seen p_1 p_5) λx_16=>cond (!decide (x_16.2=0)) (some (([]:List Ptr),x_16.2)) (Option.bind (ref10_Rows x_16.1) λx_24=>cond (!decide (x_24.2=0)) (some (([]:List Ptr),8)) (some (x_24.1,0))))
def ref14_May_l1 (p_1:Object)(s_14:Nat):Option (Nat ⊕ (Unit ⊕ Unit)):=
 cond (decide (((s_14:Nat):Int)<15)) (idx p_1.Data ((s_14:Nat):Int) λy_18=>Option.bind (ref10_May y_18) λx_27=>cond (!x_27) (some (.inr (.inr ()))) (some (.inl (s_14+1)))) (some (.inr (.inl ())))
def ref14_May (p_1:Object):Option Bool:=
 cond (decide (p_1.Kind<(1:UInt8))) (some false) (cond (decide ((7:UInt8)<p_1.Kind)) (some false) (cond (decide (p_1.Links<0)) (some false) (cond (decide (255<p_1.Links)) (some false) (cond (decide (p_1.Size<0)) (some false) (cond (decide (3840<p_1.Size)) (some false) (cond (!decide ((p_1.Data.length:Int)=15)) (some false) (Option.bind (loop (ref14_May_l1 p_1) 0) (λt_11=>Sum.elim (λt_11a=>some true) (λt_11b=>some false) t_11))))))))
def ref10_Number_l1 (p_2:Int)(s_6:UInt32×List UInt8×Int):Option ((UInt32×List UInt8×Int) ⊕ (List UInt8)):=
 cond (decide (s_6.2.2<p_2)) (app s_6.2.1 ([(s_6.1%(256:UInt32)).toUInt8]) λq_12=>some (.inl (s_6.1/(256:UInt32),q_12,w64 (s_6.2.2+1)))) (some (.inr s_6.2.1))
def ref10_Number (p_1:UInt32)(p_2:Int):Option (List UInt8):=
 Option.bind (loop (ref10_Number_l1 p_2) (p_1,([]:List UInt8),0)) (λt_3=>some t_3)
def ref10_Bytes (p_1:Ptr):Option (List UInt8):=
 Option.bind (Option.bind (ref10_Number p_1.Birth 3) λx_7=>app ([u8i p_1.At]) x_7 λq_11=>some q_11) (λt_3=>Option.bind (ref10_Number p_1.Iv 4) λx_16=>app t_3 x_16 λq_20=>Option.bind (ref10_Number p_1.Tag 4) λx_24=>app q_20 x_24 λq_28=>Option.bind (ref10_Number p_1.Sum 4) λx_32=>app q_28 x_32 λq_36=>some q_36)
def ref14_Block_l1 (p_1:Object)(s_15:List UInt8×Nat):Option ((List UInt8×Nat) ⊕ (List UInt8)):=
 cond (decide (((s_15.2:Nat):Int)<15)) (idx p_1.Data ((s_15.2:Nat):Int) λy_20=>Option.bind (ref10_Bytes y_20) λx_29=>app s_15.1 x_29 λq_33=>some (.inl (q_33,s_15.2+1))) (some (.inr s_15.1))
def ref14_Block (p_1:Object):Option (List UInt8):=
 mks 12 (0:UInt8) λz_7=>app ([p_1.Kind,u8i p_1.Links,u8i (p_1.Size.tmod 256),u8i (w64 (p_1.Size.tdiv 256))]) z_7 λq_8=>Option.bind (loop (ref14_Block_l1 p_1) (q_8,0)) (λt_12=>some t_12)
def ref14_Read_l1 (p_1:List UInt8)(s_45:List Ptr×Nat):Option ((List Ptr×Nat) ⊕ ((List Ptr) ⊕ Unit)):=
 cond (decide (((s_45.2:Nat):Int)<15)) (slc p_1 (w64 (16+(w64 (16*((s_45.2:Nat):Int))))) (w64 (32+(w64 (16*((s_45.2:Nat):Int))))) λm_50=>Option.bind (ref10_Read m_50) λx_54=>cond (!decide (x_54.2=0)) (some (.inr (.inr ()))) (app s_45.1 ([x_54.1]) λq_60=>some (.inl (q_60,s_45.2+1)))) (some (.inr (.inl s_45.1)))
def ref14_Read (p_1:List UInt8):Option (Object×Int):=
 cond (!decide ((p_1.length:Int)=256)) (some (Object.mk (0:UInt8) 0 0 ([]:List Ptr),3)) (idx p_1 0 λy_5=>idx p_1 1 λy_14=>idx p_1 2 λy_23=>idx p_1 3 λy_32=>Option.bind (loop (ref14_Read_l1 p_1) (([]:List Ptr),0)) (λt_42=>Sum.elim (λt_42a=>Option.bind (ref14_May (Object.mk y_5 (y_14.toNat:Int) (w64 ((y_23.toNat:Int)+(w64 (256*(y_32.toNat:Int))))) t_42a)) λx_53=>cond (!x_53) (some (Object.mk (0:UInt8) 0 0 ([]:List Ptr),8)) (Option.bind (ref14_Block (Object.mk y_5 (y_14.toNat:Int) (w64 ((y_23.toNat:Int)+(w64 (256*(y_32.toNat:Int))))) t_42a)) λx_59=>cond (!decide (x_59=p_1)) (some (Object.mk (0:UInt8) 0 0 ([]:List Ptr),8)) (some (Object.mk y_5 (y_14.toNat:Int) (w64 ((y_23.toNat:Int)+(w64 (256*(y_32.toNat:Int))))) t_42a,0)))) (λt_42b=>some (Object.mk (0:UInt8) 0 0 ([]:List Ptr),8)) t_42))
def ref15_One (p_1:Store)(p_5:Ptr):Option (Object×Int):=
 Option.bind (ref13_Seen p_1 p_5) λx_9=>cond (!decide (x_9.2=0)) (some (Object.mk (0:UInt8) 0 0 ([]:List Ptr),x_9.2)) (Option.bind (ref14_Read x_9.1) λx_15=>cond (!decide (x_15.2=0)) (some (Object.mk (0:UInt8) 0 0 ([]:List Ptr),8)) (some (x_15.1,0)))
def ref15_Object (p_1:Store)(p_5:Ptr)(p_6:Int):Option (Object×Int):=
 Option.bind (ref15_may p_1 p_5) λx_10=>cond (!x_10) (some (Object.mk (0:UInt8) 0 0 ([]:List Ptr),8)) (cond (decide (p_6<0)) (some (Object.mk (0:UInt8) 0 0 ([]:List Ptr),2)) (cond (decide (16≤p_6)) (some (Object.mk (0:UInt8) 0 0 ([]:List Ptr),2)) (Option.bind (ref15_Row p_1 p_5) λx_16=>cond (!decide (x_16.2=0)) (some (Object.mk (0:UInt8) 0 0 ([]:List Ptr),x_16.2)) (idx x_16.1 p_6 λy_21=>Option.bind (ref15_One p_1 y_21) λx_32=>some (x_32.1,x_32.2)))))
def ref10_Same_l1 (p_1:List Ptr)(p_3:List Ptr)(s_9:Nat):Option (Nat ⊕ (Unit ⊕ Unit)):=
 cond (decide (((s_9:Nat):Int)<(p_1.length:Int))) (idx p_1 ((s_9:Nat):Int) λy_13=>idx p_3 ((s_9:Nat):Int) λy_22=>cond (!(decide (y_13.At=y_22.At)&&(decide (y_13.Birth=y_22.Birth)&&(decide (y_13.Iv=y_22.Iv)&&(decide (y_13.Tag=y_22.Tag)&&(decide (y_13.Sum=y_22.Sum)&&true)))))) (some (.inr (.inr ()))) (some (.inl (s_9+1)))) (some (.inr (.inl ())))
def ref10_Same (p_1:List Ptr)(p_3:List Ptr):Option Bool:=
 cond (!decide ((p_1.length:Int)=(p_3.length:Int))) (some false) (Option.bind (loop (ref10_Same_l1 p_1 p_3) 0) (λt_6=>Sum.elim (λt_6a=>some true) (λt_6b=>some false) t_6))
def ref09_Same_l2 (p_1:Disk)(p_4:Disk)(s_20:Int×Nat):Option ((Int×Nat) ⊕ Int):=
 cond (decide (((s_20.2:Nat):Int)<(p_1.Waits.length:Int))) (idx p_1.Waits ((s_20.2:Nat):Int) λy_24=>idx p_4.Waits ((s_20.2:Nat):Int) λy_36=>cond (!decide (y_24.At=y_36.At)) (some (.inl (w64 (s_20.1+1),s_20.2+1))) (cond (!decide (y_24.Data=y_36.Data)) (some (.inl (w64 (s_20.1+1),s_20.2+1))) (some (.inl (s_20.1,s_20.2+1))))) (some (.inr s_20.1))
def ref09_Same_l1 (p_1:Disk)(p_4:Disk)(s_14:Int×Nat):Option ((Int×Nat) ⊕ Int):=
 cond (decide (((s_14.2:Nat):Int)<(p_1.Blocks.length:Int))) (idx p_1.Blocks ((s_14.2:Nat):Int) λy_18=>idx p_4.Blocks ((s_14.2:Nat):Int) λy_29=>cond (!decide (y_18=y_29)) (some (.inl (w64 (s_14.1+1),s_14.2+1))) (some (.inl (s_14.1,s_14.2+1)))) (some (.inr s_14.1))
def ref09_Same (p_1:Disk)(p_4:Disk):Option Bool:=
 cond (!decide ((p_1.Blocks.length:Int)=(p_4.Blocks.length:Int))) (some false) (cond (!decide ((p_1.Waits.length:Int)=(p_4.Waits.length:Int))) (some false) (Option.bind (loop (ref09_Same_l1 p_1 p_4) (0,0)) (λt_11=>Option.bind (loop (ref09_Same_l2 p_1 p_4) (t_11,0)) (λt_17=>some (decide (t_17=0))))))
def ref13_Same (p_1:Store)(p_5:Store):Option Bool:=
 Option.bind (Option.bind (ref09_Same (Disk.mk p_1.Disk.Blocks p_1.Disk.Waits) (Disk.mk p_5.Disk.Blocks p_5.Disk.Waits)) λx_14=>cond x_14 (cond (decide (p_1.Space=p_5.Space)) (cond (decide (p_1.Epoch=p_5.Epoch)) (some (decide (p_1.Count=p_5.Count))) (some false)) (some false)) (some false)) (λt_11=>some t_11)
end Go.Ow
namespace Go.Ow
def ref06_asked (p_1:List UInt8)(p_3:List UInt8):Option Int:=
 cond (!decide ((p_1.length:Int)=16)) (some 2) (cond (decide (256<(p_3.length:Int))) (some 3) (some 0))
def ref01_Room_b (rec_0:Int→Option Int)(p_1:Int):Option Int:=
 cond (decide (p_1=0)) (some 1) (Option.bind (rec_0 (w64 (p_1-1))) λx_3=>some (w64 (256*x_3)))
def ref01_Room_n:Nat→Int→Option Int
 |0,_=>none
 |n+1,p_1=>ref01_Room_b (ref01_Room_n n) p_1
def ref01_Room (p_1:Int):Option Int:=ref01_Room_n FUEL p_1
def ref01_Bytes_l1 (p_1:Int)(p_2:Int)(s_10:List UInt8×Int):Option ((List UInt8×Int) ⊕ (List UInt8)):=
 cond (decide (s_10.2<p_2)) (Option.bind (ref01_Room s_10.2) λx_15=>chk (x_15≠0)<|chk (0≤s_10.2∧s_10.2.toNat<s_10.1.length)<|setI s_10.1 s_10.2 (u8i ((w64 (p_1.tdiv x_15)).tmod 256)) λm_23=>some (.inl (m_23,w64 (s_10.2+1)))) (some (.inr s_10.1))
def ref01_Bytes (p_1:Int)(p_2:Int):Option (List UInt8):=
 mks p_2 (0:UInt8) λx_5=>Option.bind (loop (ref01_Bytes_l1 p_1 p_2) (x_5,0)) (λt_7=>some t_7)
def ref02_Key_l1 (s_10:List UInt8×Nat)(s_20:UInt32×Int):Option ((UInt32×Int) ⊕ UInt32):=
 cond (decide (s_20.2<(((s_10.2:Nat):Int).tmod 4))) (some (.inl (s_20.1/(256:UInt32),w64 (s_20.2+1)))) (some (.inr s_20.1))
def ref02_Key_l2 (x_3:A4 UInt32)(s_10:List UInt8×Nat):Option ((List UInt8×Nat) ⊕ (List UInt8)):=
 cond (decide (((s_10.2:Nat):Int)<16)) (idx x_3.l (w64 (((s_10.2:Nat):Int).tdiv 4)) λy_15=>Option.bind (loop (ref02_Key_l1 s_10) (y_15,0)) (λt_17=>app s_10.1 ([(t_17%(256:UInt32)).toUInt8]) λq_24=>some (.inl (q_24,s_10.2+1)))) (some (.inr s_10.1))
def ref02_Key (p_1:List UInt8):Option (List UInt8):=
 Option.bind (ref02_Four p_1) λx_3=>Option.bind (loop (ref02_Key_l2 x_3) (([]:List UInt8),0)) (λt_7=>some t_7)
def ref05_Bytes_l1 (p_1:List UInt8)(p_3:UInt32)(p_4:Int)(s_8:List UInt8×Int):Option ((List UInt8×Int) ⊕ (List UInt8)):=
 cond (decide ((w64 (16*s_8.2))<p_4)) (app ([]:List UInt8) p_1 λq_14=>Option.bind (ref01_Bytes (p_3.toNat:Int) 4) λx_18=>app q_14 x_18 λq_22=>Option.bind (ref01_Bytes s_8.2 4) λx_26=>app q_22 x_26 λq_30=>Option.bind (ref02_Key q_30) λx_37=>app s_8.1 x_37 λq_42=>some (.inl (q_42,w64 (s_8.2+1)))) (some (.inr s_8.1))
def ref05_Bytes (p_1:List UInt8)(p_3:UInt32)(p_4:Int):Option (List UInt8):=
 Option.bind (loop (ref05_Bytes_l1 p_1 p_3 p_4) (([]:List UInt8),0)) (λt_5=>slc t_5 0 p_4 λm_14=>some m_14)
def ref05_Turned_l1 (p_4:List UInt8)(x_6:List UInt8)(s_13:List UInt8×Nat):Option ((List UInt8×Nat) ⊕ (List UInt8)):=
 cond (decide (((s_13.2:Nat):Int)<(p_4.length:Int))) (idx p_4 ((s_13.2:Nat):Int) λy_18=>idx x_6 ((s_13.2:Nat):Int) λy_27=>app s_13.1 ([y_18^^^y_27]) λq_37=>some (.inl (q_37,s_13.2+1))) (some (.inr s_13.1))
def ref05_Turned (p_1:List UInt8)(p_3:UInt32)(p_4:List UInt8):Option (List UInt8):=
 Option.bind (ref05_Bytes p_1 p_3 (p_4.length:Int)) λx_6=>Option.bind (loop (ref05_Turned_l1 p_4 x_6) (([]:List UInt8),0)) (λt_10=>some t_10)
def ref03_Inner (p_1:List UInt8)(p_3:List UInt8):Option (List UInt8):=
 app ([]:List UInt8) p_1 λq_6=>app q_6 ([(1:UInt8)]) λq_11=>app q_11 p_3 λq_15=>Option.bind (ref02_Key q_15) λx_22=>some x_22
def ref03_Of (p_1:List UInt8)(p_3:List UInt8):Option UInt32:=
 app ([]:List UInt8) p_1 λq_6=>app q_6 ([(2:UInt8)]) λq_11=>Option.bind (ref03_Inner p_1 p_3) λx_15=>app q_11 x_15 λq_19=>Option.bind (ref02_Sum q_19) λx_26=>some x_26
def ref06_Tag (p_1:List UInt8)(p_3:UInt32)(p_4:List UInt8):Option UInt32:=
 Option.bind (ref01_Bytes (p_3.toNat:Int) 4) λx_6=>app x_6 p_4 λq_10=>Option.bind (ref03_Of p_1 q_10) λx_17=>some x_17
end Go.Ow
namespace Go.Ow
def ref06_Open (p_1:List UInt8)(p_3:UInt32)(p_4:List UInt8)(p_6:UInt32):Option (List UInt8×Int):=
 Option.bind (ref06_asked p_1 p_4) λx_7=>cond (!decide (x_7=0)) (some (([]:List UInt8),x_7)) (Option.bind (ref06_Tag p_1 p_3 p_4) λx_11=>cond (!decide (x_11=p_6)) (some (([]:List UInt8),131)) (Option.bind (ref05_Turned p_1 p_3 p_4) λx_15=>some (x_15,0)))
def ref13_Opened (p_1:Store)(p_5:Ptr)(p_6:List UInt8):Option (List UInt8×Int):=
 Option.bind (ref13_Seen p_1 p_5) λx_10=>cond (!decide (x_10.2=0)) (some (([]:List UInt8),x_10.2)) (cond (!decide ((p_6.length:Int)=16)) (some (([]:List UInt8),3)) (Option.bind (ref06_Open p_6 p_5.Iv x_10.1 p_5.Tag) λx_19=>cond (!decide (x_19.2=0)) (some (([]:List UInt8),131)) (some (x_19.1,0))))
def ref13_Open (p_1:Store)(p_5:Ptr)(p_6:List UInt8):Option (List UInt8×Int):=
 Option.bind (ref13_May p_1) λx_10=>cond (!x_10) (some (([]:List UInt8),8)) (Option.bind (ref10_May p_5) λx_14=>cond (!x_14) (some (([]:List UInt8),8)) (Option.bind (ref13_Opened p_1 p_5 p_6) λx_18=>some (x_18.1,x_18.2)))
def bytes_Equal (p_1:List UInt8)(p_3:List UInt8):Option Bool:=
 some (decide (p_1=p_3))
end Go.Ow
namespace Go.Ow
def ref17_Great_l4 (p_1:Pool)(s_37:Int×Nat):Option ((Int×Nat) ⊕ Int):=
 cond (decide (((s_37.2:Nat):Int)<(p_1.Loaded.length:Int))) (idx p_1.Loaded ((s_37.2:Nat):Int) λy_41=>some (.inl (w64 (s_37.1+(w64 ((min (y_41.length:Int) 1000000).tdiv 16))),s_37.2+1))) (some (.inr s_37.1))
def ref17_Great_l3 (p_1:Pool)(s_31:Int×Nat):Option ((Int×Nat) ⊕ Int):=
 cond (decide (((s_31.2:Nat):Int)<(p_1.Keys.length:Int))) (idx p_1.Keys ((s_31.2:Nat):Int) λy_35=>some (.inl (w64 (s_31.1+(w64 ((min (y_35.length:Int) 1000000).tdiv 24))),s_31.2+1))) (some (.inr s_31.1))
def ref17_Great_l2 (p_1:Pool)(s_25:Int×Nat):Option ((Int×Nat) ⊕ Int):=
 cond (decide (((s_25.2:Nat):Int)<(p_1.Changes.length:Int))) (idx p_1.Changes ((s_25.2:Nat):Int) λy_29=>some (.inl (w64 (s_25.1+(w64 ((min (y_29.Data.length:Int) 1000000).tdiv 256))),s_25.2+1))) (some (.inr s_25.1))
def ref17_Great_l1 (p_1:Pool)(s_19:Int×Nat):Option ((Int×Nat) ⊕ Int):=
 cond (decide (((s_19.2:Nat):Int)<(p_1.Lines.length:Int))) (idx p_1.Lines ((s_19.2:Nat):Int) λy_23=>some (.inl (w64 (s_19.1+(min (y_23.Dead.length:Int) 100000)),s_19.2+1))) (some (.inr s_19.1))
def ref17_Great (p_1:Pool):Option Bool:=
 Option.bind (ref13_Great (Store.mk (Disk.mk p_1.Store.Disk.Blocks p_1.Store.Disk.Waits) p_1.Store.Space p_1.Store.Epoch p_1.Store.Count)) λx_11=>cond x_11 (some true) (cond (decide (1000<(w64 ((w64 ((w64 ((w64 ((p_1.MetaL.length:Int)+(p_1.Lines.length:Int)))+(p_1.Keys.length:Int)))+(p_1.Loaded.length:Int)))+(p_1.Changes.length:Int))))) (some true) (Option.bind (loop (ref17_Great_l1 p_1) (w64 ((w64 ((w64 ((w64 ((p_1.MetaL.length:Int)+(p_1.Lines.length:Int)))+(p_1.Keys.length:Int)))+(p_1.Loaded.length:Int)))+(p_1.Changes.length:Int)),0)) (λt_16=>Option.bind (loop (ref17_Great_l2 p_1) (t_16,0)) (λt_22=>Option.bind (loop (ref17_Great_l3 p_1) (t_22,0)) (λt_28=>Option.bind (loop (ref17_Great_l4 p_1) (t_28,0)) (λt_34=>some (decide (5000<t_34))))))))
def ref17_twins_l1 (p_1:List (List UInt8))(s_6:List (List UInt8)×Nat):Option ((List (List UInt8)×Nat) ⊕ (List (List UInt8))):=
 cond (decide (((s_6.2:Nat):Int)<(p_1.length:Int))) (idx p_1 ((s_6.2:Nat):Int) λy_12=>appN 140737488355328 ([]:List UInt8) y_12 λq_24=>app s_6.1 ([q_24]) λq_30=>some (.inl (q_30,s_6.2+1))) (some (.inr s_6.1))
def ref17_twins (p_1:List (List UInt8)):Option (List (List UInt8)):=
 Option.bind (loop (ref17_twins_l1 p_1) (([]:List (List UInt8)),0)) (λt_3=>some t_3)
def ref17_Twin_l2 (s_54:List Change×Nat):Option ((List Change×Nat) ⊕ (List Change)):=
 cond (decide (((s_54.2:Nat):Int)<(s_54.1.length:Int))) (idx s_54.1 ((s_54.2:Nat):Int) λy_60=>appN 140737488355328 ([]:List UInt8) y_60.Data λq_74=>idx s_54.1 ((s_54.2:Nat):Int) λy_78=>setI s_54.1 ((s_54.2:Nat):Int) (Change.mk y_78.Set y_78.Obj y_78.Index y_78.Kind y_78.Links y_78.Size q_74 (Ptr.mk y_78.Laid.At y_78.Laid.Birth y_78.Laid.Iv y_78.Laid.Tag y_78.Laid.Sum)) λm_92=>some (.inl (m_92,s_54.2+1))) (some (.inr s_54.1))
def ref17_Twin_l1 (s_31:List Line×Nat):Option ((List Line×Nat) ⊕ (List Line)):=
 cond (decide (((s_31.2:Nat):Int)<(s_31.1.length:Int))) (idx s_31.1 ((s_31.2:Nat):Int) λy_37=>app ([]:List Ptr) y_37.Dead λq_51=>idx s_31.1 ((s_31.2:Nat):Int) λy_55=>setI s_31.1 ((s_31.2:Nat):Int) (Line.mk y_55.Id y_55.Kind y_55.Owner y_55.Prev y_55.Txg y_55.Guid y_55.Key (Ptr.mk y_55.Root.At y_55.Root.Birth y_55.Root.Iv y_55.Root.Tag y_55.Root.Sum) q_51) λm_69=>some (.inl (m_69,s_31.2+1))) (some (.inr s_31.1))
def ref17_Twin (p_1:Pool):Option Pool:=
 Option.bind (ref13_Twin (Store.mk (Disk.mk p_1.Store.Disk.Blocks p_1.Store.Disk.Waits) p_1.Store.Space p_1.Store.Epoch p_1.Store.Count)) λx_12=>app ([]:List Int) p_1.MetaL λq_19=>app ([]:List Line) p_1.Lines λq_24=>Option.bind (loop ref17_Twin_l1 (q_24,0)) (λt_28=>Option.bind (ref17_twins p_1.Keys) λx_38=>Option.bind (ref17_twins p_1.Loaded) λx_42=>app ([]:List Change) p_1.Changes λq_47=>Option.bind (loop ref17_Twin_l2 (q_47,0)) (λt_51=>some (Pool.mk (Store.mk (Disk.mk x_12.Disk.Blocks x_12.Disk.Waits) x_12.Space x_12.Epoch x_12.Count) p_1.Gen (Ptr.mk p_1.Root.At p_1.Root.Birth p_1.Root.Iv p_1.Root.Tag p_1.Root.Sum) q_19 t_28 x_38 x_42 t_51 p_1.Logged p_1.NextId p_1.NextGuid)))
def txg_line_1 (p_1:Line)(p_3:Int):Option Int:=
 Option.bind (cmp_Compare_int p_1.Id p_3) λx_5=>some x_5
def slices_BinarySearchFunc_int_l1 (p_1:List Line)(p_3:Int)(s_7:Int×Int):Option ((Int×Int) ⊕ Int):=
 cond (decide (s_7.1<s_7.2)) (idx p_1 (w64 ((sr64 (u64i (w64 (s_7.1+s_7.2))) (((1:UInt64).toNat:Int)).toNat).toNat:Int)) λy_11=>Option.bind (txg_line_1 y_11 p_3) λx_22=>cond (decide (x_22<0)) (some (.inl (w64 ((w64 ((sr64 (u64i (w64 (s_7.1+s_7.2))) (((1:UInt64).toNat:Int)).toNat).toNat:Int))+1),s_7.2))) (some (.inl (s_7.1,w64 ((sr64 (u64i (w64 (s_7.1+s_7.2))) (((1:UInt64).toNat:Int)).toNat).toNat:Int))))) (some (.inr s_7.1))
def slices_BinarySearchFunc_int (p_1:List Line)(p_3:Int):Option (Int×Bool):=
 Option.bind (loop (slices_BinarySearchFunc_int_l1 p_1 p_3) (0,(p_1.length:Int))) (λt_4=>Option.bind (cond (decide (t_4<(p_1.length:Int))) (idx p_1 t_4 λy_14=>Option.bind (txg_line_1 y_14 p_3) λx_25=>some (decide (x_25=0))) (some false)) (λt_10=>some (t_4,t_10)))
def txg_line (p_1:List Line)(p_3:Int):Option (Option Int):=
 Option.bind (slices_BinarySearchFunc_int p_1 p_3) λx_4=>cond (!x_4.2) (some (none:Option Int)) (idx p_1 x_4.1 λy_8=>some (some x_4.1))
def txg_kin (p_1:List Line)(p_3:Line):Option Bool:=
 Option.bind (txg_line p_1 p_3.Owner) λx_6=>Option.bind (txg_line p_1 p_3.Prev) λx_10=>Option.bind (cond x_6.isNone (some (.inr false)) (Option.bind (x_6) λi_18=>idx p_1 i_18 λy_20=>cond (!decide (y_20.Kind=(1:UInt8))) (some (.inr false)) (cond (decide (p_3.Kind=(1:UInt8))) (cond (!decide (p_3.Owner=p_3.Id)) (some (.inr false)) (cond (decide (p_3.Prev=0)) (some (.inr true)) (cond x_10.isNone (some (.inr false)) (Option.bind (x_10) λi_36=>idx p_1 i_36 λy_38=>cond (!decide (y_38.Kind=(2:UInt8))) (some (.inr false)) (Option.bind (x_10) λi_50=>idx p_1 i_50 λy_52=>cond (!decide (y_52.Key=p_3.Key)) (some (.inr false)) (some (.inl ()))))))) (cond (decide (p_3.Prev=0)) (some (.inr true)) (cond x_10.isNone (some (.inr false)) (Option.bind (x_10) λi_66=>idx p_1 i_66 λy_68=>cond (!decide (y_68.Kind=(2:UInt8))) (some (.inr false)) (Option.bind (x_10) λi_80=>idx p_1 i_80 λy_82=>cond (!decide (y_82.Key=p_3.Key)) (some (.inr false)) (some (.inl ()))))))))) (λt_14=>Sum.elim (λt_14a=>Option.bind (Option.bind (x_10) λi_97=>idx p_1 i_97 λy_99=>cond (decide (y_99.Txg<p_3.Txg)) (some true) (Option.bind (x_10) λi_111=>idx p_1 i_111 λy_113=>cond (decide (y_113.Txg=p_3.Txg)) (some (decide (p_3.Kind=(1:UInt8)))) (some false))) (λt_94=>some t_94)) (λt_14b=>some t_14b) t_14)
def txg_mayLines_l2 (p_1:List Line)(s_13:Nat):Option (Nat ⊕ (Unit ⊕ Unit)):=
 cond (decide (((s_13:Nat):Int)<(p_1.length:Int))) (idx p_1 ((s_13:Nat):Int) λy_17=>cond (decide ((16777215:UInt32)<y_17.Txg)) (some (.inr (.inr ()))) (cond (decide (y_17.Key<0)) (some (.inr (.inr ()))) (cond (decide (8≤y_17.Key)) (some (.inr (.inr ()))) (Option.bind (ptr_Check (Ptr.mk y_17.Root.At y_17.Root.Birth y_17.Root.Iv y_17.Root.Tag y_17.Root.Sum)) λx_32=>cond (!decide (x_32=0)) (some (.inr (.inr ()))) (Option.bind (dead_Check y_17.Dead) λx_36=>cond (!decide (x_36=0)) (some (.inr (.inr ()))) (Option.bind (txg_kin p_1 y_17) λx_40=>cond (!x_40) (some (.inr (.inr ()))) (some (.inl (s_13+1))))))))) (some (.inr (.inl ())))
def txg_mayLines_l1 (p_1:List Line)(s_7:Nat):Option (Nat ⊕ (Unit ⊕ Unit)):=
 cond (decide (((s_7:Nat):Int)<(p_1.length:Int))) (idx p_1 ((s_7:Nat):Int) λy_11=>cond (decide (y_11.Id<1)) (some (.inr (.inr ()))) (cond (decide (255<y_11.Id)) (some (.inr (.inr ()))) (cond (decide (0<((s_7:Nat):Int))) (idx p_1 (w64 (((s_7:Nat):Int)-1)) λy_26=>cond (decide (y_11.Id≤y_26.Id)) (some (.inr (.inr ()))) (cond (!decide (y_11.Kind=(1:UInt8))) (cond (!decide (y_11.Kind=(2:UInt8))) (some (.inr (.inr ()))) (some (.inl (s_7+1)))) (some (.inl (s_7+1))))) (cond (!decide (y_11.Kind=(1:UInt8))) (cond (!decide (y_11.Kind=(2:UInt8))) (some (.inr (.inr ()))) (some (.inl (s_7+1)))) (some (.inl (s_7+1))))))) (some (.inr (.inl ())))
def txg_mayLines (p_1:List Line):Option Bool:=
 cond (decide (16<(p_1.length:Int))) (some false) (Option.bind (loop (txg_mayLines_l1 p_1) 0) (λt_4=>Sum.elim (λt_4a=>Option.bind (loop (txg_mayLines_l2 p_1) 0) (λt_10=>Sum.elim (λt_10a=>some true) (λt_10b=>some false) t_10)) (λt_4b=>some false) t_4))
def txg_mayKeys_1 (p_1:List UInt8)(p_4:Int):Option (Bool×Int):=
 Option.bind (cond (decide (0<(p_1.length:Int))) (cond (!decide ((p_1.length:Int)=p_4)) (some true) (cond (decide (p_4=24)) (mks p_4 (0:UInt8) λx_13=>Option.bind (bytes_Equal p_1 x_13) λx_18=>some x_18) (some false))) (some false)) (λt_5=>some (t_5,p_4))
def slices_IndexFunc_byte_l1 (p_1:List (List UInt8))(s_8:Int×Nat):Option ((Int×Nat) ⊕ (Int ⊕ (Int×Int))):=
 cond (decide (((s_8.2:Nat):Int)<(p_1.length:Int))) (idx p_1 ((s_8.2:Nat):Int) λy_12=>Option.bind (txg_mayKeys_1 y_12 s_8.1) λx_23=>cond x_23.1 (some (.inr (.inr (x_23.2,((s_8.2:Nat):Int))))) (some (.inl (x_23.2,s_8.2+1)))) (some (.inr (.inl s_8.1)))
def slices_IndexFunc_byte (p_1:List (List UInt8))(p_4:Int):Option (Int×Int):=
 Option.bind (loop (slices_IndexFunc_byte_l1 p_1) (p_4,0)) (λt_5=>Sum.elim (λt_5a=>some ((-1),t_5a)) (λt_5b=>some (t_5b.2,t_5b.1)) t_5)
def slices_ContainsFunc_byte (p_1:List (List UInt8))(p_4:Int):Option (Bool×Int):=
 Option.bind (slices_IndexFunc_byte p_1 p_4) λx_5=>some (decide (0≤x_5.1),x_5.2)
def txg_mayKeys (p_1:List (List UInt8))(p_3:Int):Option Bool:=
 Option.bind (cond (decide ((p_1.length:Int)=8)) (Option.bind (slices_ContainsFunc_byte p_1 p_3) λx_9=>some (!x_9.1)) (some false)) (λt_5=>some t_5)
def txg_mayChange (p_1:Change):Option Bool:=
 Option.bind (cond (decide (p_1.Kind=(0:UInt8))) (cond (decide (p_1.Links=0)) (some (decide (p_1.Size=0))) (some false)) (some false)) (λt_4=>cond (decide (p_1.Obj<0)) (some false) (cond (decide (16≤p_1.Obj)) (some false) (cond (decide (p_1.Index<0)) (some false) (cond (decide (15<p_1.Index)) (some false) (cond (decide (p_1.Index=15)) (Option.bind (cond (decide (p_1.Kind≤(7:UInt8))) (cond (decide (0≤(min p_1.Links p_1.Size))) (cond (decide (p_1.Links≤255)) (some (decide (p_1.Size≤3840))) (some false)) (some false)) (some false)) (λt_14=>Option.bind (cond t_14 (cond (decide ((p_1.Data.length:Int)=0)) (cond (decide (p_1.Laid.At=0)&&(decide (p_1.Laid.Birth=(0:UInt32))&&(decide (p_1.Laid.Iv=(0:UInt32))&&(decide (p_1.Laid.Tag=(0:UInt32))&&(decide (p_1.Laid.Sum=(0:UInt32))&&true))))) (cond (decide ((0:UInt8)<p_1.Kind)) (some true) (some t_4)) (some false)) (some false)) (some false)) (λt_20=>some t_20))) (Option.bind (cond t_4 (cond (decide ((p_1.Data.length:Int)=0)) (Option.bind (ptr_Check (Ptr.mk p_1.Laid.At p_1.Laid.Birth p_1.Laid.Iv p_1.Laid.Tag p_1.Laid.Sum)) λx_32=>some (decide (x_32=0))) (cond (decide ((p_1.Data.length:Int)=256)) (Option.bind (ptr_Check (Ptr.mk p_1.Laid.At p_1.Laid.Birth p_1.Laid.Iv p_1.Laid.Tag p_1.Laid.Sum)) λx_36=>some (decide (x_36=0))) (some false))) (some false)) (λt_27=>some t_27)))))))
def cmp_Or_int_l1 (p_1:List Int)(s_6:Nat):Option (Nat ⊕ (Unit ⊕ Int)):=
 cond (decide (((s_6:Nat):Int)<(p_1.length:Int))) (idx p_1 ((s_6:Nat):Int) λy_10=>cond (!decide (y_10=0)) (some (.inr (.inr y_10))) (some (.inl (s_6+1)))) (some (.inr (.inl ())))
def cmp_Or_int (p_1:List Int):Option Int:=
 Option.bind (loop (cmp_Or_int_l1 p_1) 0) (λt_3=>Sum.elim (λt_3a=>some 0) (λt_3b=>some t_3b) t_3)
def txg_order (p_1:Change)(p_3:Change):Option Int:=
 Option.bind (cmp_Compare_int p_1.Set p_3.Set) λx_7=>Option.bind (cmp_Compare_int p_1.Obj p_3.Obj) λx_10=>Option.bind (cmp_Compare_int p_1.Index p_3.Index) λx_13=>Option.bind (cmp_Or_int ([x_7,x_10,x_13])) λx_20=>some x_20
def txg_Check_1 (p_1:Line)(p_4:Pool):Option (Bool×Pool):=
 Option.bind (cond (decide (p_4.NextId≤p_1.Id)) (some true) (some (decide (p_4.NextGuid≤p_1.Guid)))) (λt_14=>some (t_14,p_4))
def slices_IndexFunc_Line_l1 (p_1:List Line)(s_16:Pool×Nat):Option ((Pool×Nat) ⊕ (Pool ⊕ (Pool×Int))):=
 cond (decide (((s_16.2:Nat):Int)<(p_1.length:Int))) (idx p_1 ((s_16.2:Nat):Int) λy_28=>Option.bind (txg_Check_1 y_28 s_16.1) λx_39=>cond x_39.1 (some (.inr (.inr (x_39.2,((s_16.2:Nat):Int))))) (some (.inl (x_39.2,s_16.2+1)))) (some (.inr (.inl s_16.1)))
def slices_IndexFunc_Line (p_1:List Line)(p_4:Pool):Option (Int×Pool):=
 Option.bind (loop (slices_IndexFunc_Line_l1 p_1) (p_4,0)) (λt_13=>Sum.elim (λt_13a=>some ((-1),t_13a)) (λt_13b=>some (t_13b.2,t_13b.1)) t_13)
def slices_ContainsFunc_Line (p_1:List Line)(p_4:Pool):Option (Bool×Pool):=
 Option.bind (slices_IndexFunc_Line p_1 p_4) λx_13=>some (decide (0≤x_13.1),x_13.2)
def txg_Check_l2 (p_1:Pool)(s_46:Nat):Option (Nat ⊕ (Unit ⊕ Unit)):=
 cond (decide (((s_46:Nat):Int)<(p_1.Changes.length:Int))) (idx p_1.Changes ((s_46:Nat):Int) λy_50=>Option.bind (txg_line p_1.Lines y_50.Set) λx_62=>cond x_62.isNone (some (.inr (.inr ()))) (Option.bind (x_62) λi_67=>idx p_1.Lines i_67 λy_69=>cond (!decide (y_69.Kind=(1:UInt8))) (some (.inr (.inr ()))) (Option.bind (txg_mayChange y_50) λx_81=>cond (!x_81) (some (.inr (.inr ()))) (cond (decide (0<((s_46:Nat):Int))) (idx p_1.Changes (w64 (((s_46:Nat):Int)-1)) λy_86=>Option.bind (txg_order y_86 y_50) λx_97=>cond (decide (0≤x_97)) (some (.inr (.inr ()))) (some (.inl (s_46+1)))) (some (.inl (s_46+1))))))) (some (.inr (.inl ())))
def txg_Check_l1 (p_1:Pool)(s_24:Nat):Option (Nat ⊕ (Unit ⊕ Unit)):=
 cond (decide (((s_24:Nat):Int)<(p_1.MetaL.length:Int))) (idx p_1.MetaL ((s_24:Nat):Int) λy_28=>cond (decide (y_28<12)) (some (.inr (.inr ()))) (cond (decide (256≤y_28)) (some (.inr (.inr ()))) (cond (decide (0<((s_24:Nat):Int))) (idx p_1.MetaL (w64 (((s_24:Nat):Int)-1)) λy_40=>cond (decide (y_28≤y_40)) (some (.inr (.inr ()))) (idx p_1.Store.Space y_28 λy_50=>cond (!decide (y_50=(1:UInt8))) (some (.inr (.inr ()))) (some (.inl (s_24+1))))) (idx p_1.Store.Space y_28 λy_60=>cond (!decide (y_60=(1:UInt8))) (some (.inr (.inr ()))) (some (.inl (s_24+1))))))) (some (.inr (.inl ())))
def txg_Check (p_1:Pool):Option Int:=
 Option.bind (store_Check (Store.mk (Disk.mk p_1.Store.Disk.Blocks p_1.Store.Disk.Waits) p_1.Store.Space p_1.Store.Epoch p_1.Store.Count)) λx_11=>cond (!decide (x_11=0)) (some 8) (cond (decide ((16777215:UInt32)<p_1.Gen)) (some 8) (Option.bind (ptr_Check (Ptr.mk p_1.Root.At p_1.Root.Birth p_1.Root.Iv p_1.Root.Tag p_1.Root.Sum)) λx_16=>cond (!decide (x_16=0)) (some 8) (cond (!((decide (p_1.Root.At=0)&&(decide (p_1.Root.Birth=(0:UInt32))&&(decide (p_1.Root.Iv=(0:UInt32))&&(decide (p_1.Root.Tag=(0:UInt32))&&(decide (p_1.Root.Sum=(0:UInt32))&&true)))))==(decide (p_1.Gen=(0:UInt32))))) (some 8) (Option.bind (loop (txg_Check_l1 p_1) 0) (λt_21=>Sum.elim (λt_21a=>Option.bind (txg_mayLines p_1.Lines) λx_27=>cond (!x_27) (some 8) (Option.bind (txg_mayKeys p_1.Keys 24) λx_31=>cond (!x_31) (some 8) (Option.bind (txg_mayKeys p_1.Loaded 16) λx_35=>cond (!x_35) (some 8) (cond (decide (p_1.Logged<0)) (some 8) (cond (decide (8<p_1.Logged)) (some 8) (cond (decide (p_1.NextId<1)) (some 8) (cond (decide (256<p_1.NextId)) (some 8) (Option.bind (loop (txg_Check_l2 p_1) 0) (λt_43=>Sum.elim (λt_43a=>Option.bind (slices_ContainsFunc_Line p_1.Lines p_1) λx_49=>cond x_49.1 (some 8) (some 0)) (λt_43b=>some 8) t_43))))))))) (λt_21b=>some 8) t_21)))))
def data_find_1 (p_1:Line)(p_4:Int):Option (Bool×Int):=
 some (decide (p_1.Id=p_4),p_4)
def slices_IndexFunc_Line_v2_l1 (p_1:List Line)(s_8:Int×Nat):Option ((Int×Nat) ⊕ (Int ⊕ (Int×Int))):=
 cond (decide (((s_8.2:Nat):Int)<(p_1.length:Int))) (idx p_1 ((s_8.2:Nat):Int) λy_12=>Option.bind (data_find_1 y_12 s_8.1) λx_23=>cond x_23.1 (some (.inr (.inr (x_23.2,((s_8.2:Nat):Int))))) (some (.inl (x_23.2,s_8.2+1)))) (some (.inr (.inl s_8.1)))
def slices_IndexFunc_Line_v2 (p_1:List Line)(p_4:Int):Option (Int×Int):=
 Option.bind (loop (slices_IndexFunc_Line_v2_l1 p_1) (p_4,0)) (λt_5=>Sum.elim (λt_5a=>some ((-1),t_5a)) (λt_5b=>some (t_5b.2,t_5b.1)) t_5)
def data_find (p_1:Pool)(p_10:Int):Option (Line×Int):=
 Option.bind (txg_Check p_1) λx_14=>cond (!decide (x_14=0)) (some (Line.mk 0 (0:UInt8) 0 0 (0:UInt32) (0:UInt32) 0 (Ptr.mk 0 (0:UInt32) (0:UInt32) (0:UInt32) (0:UInt32)) ([]:List Ptr),x_14)) (Option.bind (slices_IndexFunc_Line_v2 p_1.Lines p_10) λx_18=>cond (decide (x_18.1<0)) (some (Line.mk 0 (0:UInt8) 0 0 (0:UInt32) (0:UInt32) 0 (Ptr.mk 0 (0:UInt32) (0:UInt32) (0:UInt32) (0:UInt32)) ([]:List Ptr),6)) (idx p_1.Lines x_18.1 λy_22=>some (y_22,0)))
def slices_Chunk_int (p_1:List Int)(p_2:Int):Option Unit:=if 1≤p_2∧p_2≤1099511627776∧p_1.length≤LIM then some ()else none
def data_within_r1 (y_12:List Int)(s_11:Unit):Option (Unit ⊕ Unit):=
 idx y_12 0 λy_18=>cond (decide (y_18<0)) (some (.inr ())) (idx y_12 0 λy_28=>idx y_12 1 λy_37=>cond (decide (y_37≤y_28)) (some (.inr ())) (some (.inl ())))
def data_within (p_1:List Int):Option Bool:=
 Option.bind (slices_Chunk_int p_1 2) λx_4=>Option.bind (forL data_within_r1 (chunks (2:Int).toNat p_1.length p_1) ()) (λt_8=>Sum.elim (λs_11=>some true) (λt_8e0=>some false) t_8)
def data_order (p_1:Change)(p_3:data_place):Option Int:=
 Option.bind (cmp_Compare_int p_1.Set p_3.set) λx_6=>Option.bind (cmp_Compare_int p_1.Obj p_3.obj) λx_9=>Option.bind (cmp_Compare_int p_1.Index p_3.index) λx_12=>Option.bind (cmp_Or_int ([x_6,x_9,x_12])) λx_19=>some x_19
def slices_BinarySearchFunc_place_l1 (p_1:List Change)(p_3:data_place)(s_8:Int×Int):Option ((Int×Int) ⊕ Int):=
 cond (decide (s_8.1<s_8.2)) (idx p_1 (w64 ((sr64 (u64i (w64 (s_8.1+s_8.2))) (((1:UInt64).toNat:Int)).toNat).toNat:Int)) λy_12=>Option.bind (data_order y_12 p_3) λx_23=>cond (decide (x_23<0)) (some (.inl (w64 ((w64 ((sr64 (u64i (w64 (s_8.1+s_8.2))) (((1:UInt64).toNat:Int)).toNat).toNat:Int))+1),s_8.2))) (some (.inl (s_8.1,w64 ((sr64 (u64i (w64 (s_8.1+s_8.2))) (((1:UInt64).toNat:Int)).toNat).toNat:Int))))) (some (.inr s_8.1))
def slices_BinarySearchFunc_place (p_1:List Change)(p_3:data_place):Option (Int×Bool):=
 Option.bind (loop (slices_BinarySearchFunc_place_l1 p_1 p_3) (0,(p_1.length:Int))) (λt_5=>Option.bind (cond (decide (t_5<(p_1.length:Int))) (idx p_1 t_5 λy_15=>Option.bind (data_order y_15 p_3) λx_26=>some (decide (x_26=0))) (some false)) (λt_11=>some (t_5,t_11)))
def data_change (p_1:Pool)(p_10:data_place):Option (Change×Bool):=
 Option.bind (slices_BinarySearchFunc_place p_1.Changes p_10) λx_14=>cond (!x_14.2) (some (Change.mk 0 0 0 (0:UInt8) 0 0 ([]:List UInt8) (Ptr.mk 0 (0:UInt32) (0:UInt32) (0:UInt32) (0:UInt32)),false)) (idx p_1.Changes x_14.1 λy_18=>some (y_18,true))
def data_rooted (p_1:Pool)(p_10:Line)(p_12:Int):Option (Object×Int):=
 Option.bind (set_Object (Store.mk (Disk.mk p_1.Store.Disk.Blocks p_1.Store.Disk.Waits) p_1.Store.Space p_1.Store.Epoch p_1.Store.Count) (Ptr.mk p_10.Root.At p_10.Root.Birth p_10.Root.Iv p_10.Root.Tag p_10.Root.Sum) p_12) λx_16=>cond (decide (x_16.2=6)) (mks 15 (Ptr.mk 0 (0:UInt32) (0:UInt32) (0:UInt32) (0:UInt32)) λx_24=>some (Object.mk (0:UInt8) 0 0 x_24,0)) (some (x_16.1,x_16.2))
def data_head (p_1:Pool)(p_10:Line)(p_12:Int):Option (Change×Int):=
 Option.bind (data_change p_1 (data_place.mk p_10.Id p_12 15)) λx_16=>Option.bind (cond (!x_16.2) (Option.bind (data_rooted p_1 p_10 p_12) λx_24=>cond (!decide (x_24.2=0)) (some (.inr x_24.2)) (some (.inl (Change.mk 0 0 0 x_24.1.Kind x_24.1.Links x_24.1.Size ([]:List UInt8) (Ptr.mk 0 (0:UInt32) (0:UInt32) (0:UInt32) (0:UInt32)))))) (some (.inl x_16.1))) (λt_20=>Sum.elim (λt_20a=>cond (decide (t_20a.Kind=(0:UInt8))) (some (Change.mk 0 0 0 (0:UInt8) 0 0 ([]:List UInt8) (Ptr.mk 0 (0:UInt32) (0:UInt32) (0:UInt32) (0:UInt32)),6)) (some (t_20a,0))) (λt_20b=>some (Change.mk 0 0 0 (0:UInt8) 0 0 ([]:List UInt8) (Ptr.mk 0 (0:UInt32) (0:UInt32) (0:UInt32) (0:UInt32)),t_20b)) t_20)
def data_Read (p_1:Pool)(p_10:Int)(p_11:Int)(p_12:Int):Option (List UInt8×Int):=
 Option.bind (data_find p_1 p_10) λx_14=>cond (!decide (x_14.2=0)) (some (([]:List UInt8),x_14.2)) (Option.bind (data_within ([p_11,16,p_12,15])) λx_24=>cond (!x_24) (some (([]:List UInt8),2)) (idx p_1.Loaded x_14.1.Key λy_27=>cond (decide ((y_27.length:Int)=0)) (some (([]:List UInt8),200)) (Option.bind (data_head p_1 x_14.1 p_11) λx_39=>cond (!decide (x_39.2=0)) (some (([]:List UInt8),x_39.2)) (Option.bind (data_change p_1 (data_place.mk p_10 p_11 p_12)) λx_45=>Option.bind (cond x_45.2 (cond (decide (0<(x_45.1.Data.length:Int))) (Option.bind (bytes_Clone x_45.1.Data) λx_56=>some (.inr (x_56,0))) (cond (!x_45.2) (Option.bind (data_rooted p_1 x_14.1 p_11) λx_61=>cond (!decide (x_61.2=0)) (some (.inr (([]:List UInt8),x_61.2))) (idx x_61.1.Data p_12 λy_67=>some (.inl y_67))) (some (.inl (Ptr.mk x_45.1.Laid.At x_45.1.Laid.Birth x_45.1.Laid.Iv x_45.1.Laid.Tag x_45.1.Laid.Sum))))) (cond (!x_45.2) (Option.bind (data_rooted p_1 x_14.1 p_11) λx_77=>cond (!decide (x_77.2=0)) (some (.inr (([]:List UInt8),x_77.2))) (idx x_77.1.Data p_12 λy_83=>some (.inl y_83))) (some (.inl (Ptr.mk x_45.1.Laid.At x_45.1.Laid.Birth x_45.1.Laid.Iv x_45.1.Laid.Tag x_45.1.Laid.Sum))))) (λt_51=>Sum.elim (λt_51a=>cond (decide (t_51a.At=0)&&(decide (t_51a.Birth=(0:UInt32))&&(decide (t_51a.Iv=(0:UInt32))&&(decide (t_51a.Tag=(0:UInt32))&&(decide (t_51a.Sum=(0:UInt32))&&true))))) (mks 256 (0:UInt8) λx_98=>some (x_98,0)) (Option.bind (store_Open (Store.mk (Disk.mk p_1.Store.Disk.Blocks p_1.Store.Disk.Waits) p_1.Store.Space p_1.Store.Epoch p_1.Store.Count) t_51a y_27) λx_100=>some (x_100.1,x_100.2))) (λt_51b=>some (t_51b.1,t_51b.2)) t_51)))))
def ref16_one (p_1:Ptr):Option Bool:=
 Option.bind (Option.bind (ref10_May p_1) λx_6=>cond x_6 (Option.bind (ref10_None p_1) λx_10=>some (!x_10)) (some false)) (λt_3=>some t_3)
def ref16_May_l1 (p_1:List Ptr)(s_7:Nat):Option (Nat ⊕ (Unit ⊕ Unit)):=
 cond (decide (((s_7:Nat):Int)<(p_1.length:Int))) (idx p_1 ((s_7:Nat):Int) λy_11=>Option.bind (ref16_one y_11) λx_20=>cond (!x_20) (some (.inr (.inr ()))) (cond (decide (0<((s_7:Nat):Int))) (idx p_1 ((s_7:Nat):Int) λy_25=>idx p_1 (w64 (((s_7:Nat):Int)-1)) λy_34=>cond (decide (y_25.At≤y_34.At)) (some (.inr (.inr ()))) (some (.inl (s_7+1)))) (some (.inl (s_7+1))))) (some (.inr (.inl ())))
def ref16_May (p_1:List Ptr):Option Bool:=
 cond (decide (240<(p_1.length:Int))) (some false) (Option.bind (loop (ref16_May_l1 p_1) 0) (λt_4=>Sum.elim (λt_4a=>some true) (λt_4b=>some false) t_4))
def ref17_Line_l1 (p_1:List Line)(p_3:Int)(s_7:Nat):Option (Nat ⊕ (Unit ⊕ Int)):=
 cond (decide (((s_7:Nat):Int)<(p_1.length:Int))) (idx p_1 ((s_7:Nat):Int) λy_11=>cond (decide (y_11.Id=p_3)) (some (.inr (.inr ((s_7:Nat):Int)))) (some (.inl (s_7+1)))) (some (.inr (.inl ())))
def ref17_Line (p_1:List Line)(p_3:Int):Option Int:=
 Option.bind (loop (ref17_Line_l1 p_1 p_3) 0) (λt_4=>Sum.elim (λt_4a=>some (-1)) (λt_4b=>some t_4b) t_4)
def ref17_kin (p_1:List Line)(p_3:Line):Option Bool:=
 Option.bind (ref17_Line p_1 p_3.Owner) λx_6=>Option.bind (cond (decide (x_6<0)) (some (.inr ())) (idx p_1 x_6 λy_13=>cond (!decide (y_13.Kind=(1:UInt8))) (some (.inr ())) (cond (decide (p_3.Kind=(1:UInt8))) (cond (!decide (p_3.Owner=p_3.Id)) (some (.inr ())) (some (.inl ()))) (some (.inl ()))))) (λt_9=>Sum.elim (λt_9a=>cond (decide (p_3.Prev=0)) (some true) (Option.bind (ref17_Line p_1 p_3.Prev) λx_28=>cond (decide (x_28<0)) (some false) (idx p_1 x_28 λy_32=>cond (!decide (y_32.Kind=(2:UInt8))) (some false) (idx p_1 x_28 λy_44=>cond (!decide (y_44.Key=p_3.Key)) (some false) (Option.bind (idx p_1 x_28 λy_59=>cond (decide (y_59.Txg<p_3.Txg)) (some true) (idx p_1 x_28 λy_71=>cond (decide (y_71.Txg=p_3.Txg)) (some (decide (p_3.Kind=(1:UInt8)))) (some false))) (λt_56=>some t_56)))))) (λt_9b=>some false) t_9)
def ref17_mayLines_l1 (p_1:List Line)(s_7:Nat):Option (Nat ⊕ (Unit ⊕ Unit)):=
 cond (decide (((s_7:Nat):Int)<(p_1.length:Int))) (idx p_1 ((s_7:Nat):Int) λy_11=>Option.bind (cond (decide (y_11.Id<1)) (some (.inr ())) (cond (decide (255<y_11.Id)) (some (.inr ())) (cond (decide (0<((s_7:Nat):Int))) (idx p_1 (w64 (((s_7:Nat):Int)-1)) λy_29=>cond (decide (y_11.Id≤y_29.Id)) (some (.inr ())) (cond (!decide (y_11.Kind=(1:UInt8))) (cond (!decide (y_11.Kind=(2:UInt8))) (some (.inr ())) (cond (decide ((16777215:UInt32)<y_11.Txg)) (some (.inr ())) (cond (decide (y_11.Key<0)) (some (.inr ())) (cond (decide (8≤y_11.Key)) (some (.inr ())) (some (.inl ())))))) (cond (decide ((16777215:UInt32)<y_11.Txg)) (some (.inr ())) (cond (decide (y_11.Key<0)) (some (.inr ())) (cond (decide (8≤y_11.Key)) (some (.inr ())) (some (.inl ()))))))) (cond (!decide (y_11.Kind=(1:UInt8))) (cond (!decide (y_11.Kind=(2:UInt8))) (some (.inr ())) (cond (decide ((16777215:UInt32)<y_11.Txg)) (some (.inr ())) (cond (decide (y_11.Key<0)) (some (.inr ())) (cond (decide (8≤y_11.Key)) (some (.inr ())) (some (.inl ())))))) (cond (decide ((16777215:UInt32)<y_11.Txg)) (some (.inr ())) (cond (decide (y_11.Key<0)) (some (.inr ())) (cond (decide (8≤y_11.Key)) (some (.inr ())) (some (.inl ()))))))))) (λt_23=>Sum.elim (λt_23a=>Option.bind (ref10_May (Ptr.mk y_11.Root.At y_11.Root.Birth y_11.Root.Iv y_11.Root.Tag y_11.Root.Sum)) λx_57=>cond (!x_57) (some (.inr (.inr ()))) (Option.bind (ref16_May y_11.Dead) λx_61=>cond (!x_61) (some (.inr (.inr ()))) (Option.bind (ref17_kin p_1 y_11) λx_65=>cond (!x_65) (some (.inr (.inr ()))) (some (.inl (s_7+1)))))) (λt_23b=>some (.inr (.inr ()))) t_23)) (some (.inr (.inl ())))
def ref17_mayLines (p_1:List Line):Option Bool:=
 cond (decide (16<(p_1.length:Int))) (some false) (Option.bind (loop (ref17_mayLines_l1 p_1) 0) (λt_4=>Sum.elim (λt_4a=>some true) (λt_4b=>some false) t_4))
def ref17_noughts_l1 (p_1:List UInt8)(s_6:Nat):Option (Nat ⊕ (Unit ⊕ Unit)):=
 cond (decide (((s_6:Nat):Int)<(p_1.length:Int))) (idx p_1 ((s_6:Nat):Int) λy_10=>cond (!decide (y_10=(0:UInt8))) (some (.inr (.inr ()))) (some (.inl (s_6+1)))) (some (.inr (.inl ())))
def ref17_noughts (p_1:List UInt8):Option Bool:=
 Option.bind (loop (ref17_noughts_l1 p_1) 0) (λt_3=>Sum.elim (λt_3a=>some true) (λt_3b=>some false) t_3)
def ref17_mayKeys_l1 (p_1:List (List UInt8))(p_3:Int)(s_8:Nat):Option (Nat ⊕ (Unit ⊕ Unit)):=
 cond (decide (((s_8:Nat):Int)<8)) (idx p_1 ((s_8:Nat):Int) λy_12=>cond (!decide ((y_12.length:Int)=0)) (idx p_1 ((s_8:Nat):Int) λy_24=>cond (!decide ((y_24.length:Int)=p_3)) (some (.inr (.inr ()))) (idx p_1 ((s_8:Nat):Int) λy_36=>cond (decide ((y_36.length:Int)=24)) (idx p_1 ((s_8:Nat):Int) λy_48=>Option.bind (ref17_noughts y_48) λx_59=>cond x_59 (some (.inr (.inr ()))) (some (.inl (s_8+1)))) (some (.inl (s_8+1))))) (idx p_1 ((s_8:Nat):Int) λy_63=>cond (decide ((y_63.length:Int)=24)) (idx p_1 ((s_8:Nat):Int) λy_75=>Option.bind (ref17_noughts y_75) λx_86=>cond x_86 (some (.inr (.inr ()))) (some (.inl (s_8+1)))) (some (.inl (s_8+1))))) (some (.inr (.inl ())))
def ref17_mayKeys (p_1:List (List UInt8))(p_3:Int):Option Bool:=
 cond (!decide ((p_1.length:Int)=8)) (some false) (Option.bind (loop (ref17_mayKeys_l1 p_1 p_3) 0) (λt_5=>Sum.elim (λt_5a=>some true) (λt_5b=>some false) t_5))
def ref17_MayChange (p_1:Change):Option Bool:=
 cond (decide (p_1.Obj<0)) (some false) (cond (decide (15<p_1.Obj)) (some false) (cond (decide (p_1.Index<0)) (some false) (cond (decide (15<p_1.Index)) (some false) (cond (decide (p_1.Index=15)) (Option.bind (cond (decide ((p_1.Data.length:Int)=0)) (Option.bind (ref10_None (Ptr.mk p_1.Laid.At p_1.Laid.Birth p_1.Laid.Iv p_1.Laid.Tag p_1.Laid.Sum)) λx_13=>some x_13) (some false)) (λt_9=>Option.bind (cond t_9 (cond (decide (p_1.Kind≤(7:UInt8))) (cond (decide (0≤p_1.Links)) (cond (decide (p_1.Links≤255)) (cond (decide (0≤p_1.Size)) (cond (decide (p_1.Size≤3840)) (cond (decide ((0:UInt8)<p_1.Kind)) (some true) (cond (decide (p_1.Links=0)) (some (decide (p_1.Size=0))) (some false))) (some false)) (some false)) (some false)) (some false)) (some false)) (some false)) (λt_16=>some t_16))) (cond (!decide (p_1.Kind=(0:UInt8))) (some false) (cond (!decide (p_1.Links=0)) (some false) (cond (!decide (p_1.Size=0)) (some false) (Option.bind (cond (decide ((p_1.Data.length:Int)=0)) (Option.bind (ref10_May (Ptr.mk p_1.Laid.At p_1.Laid.Birth p_1.Laid.Iv p_1.Laid.Tag p_1.Laid.Sum)) λx_34=>some x_34) (cond (decide ((p_1.Data.length:Int)=256)) (Option.bind (ref10_May (Ptr.mk p_1.Laid.At p_1.Laid.Birth p_1.Laid.Iv p_1.Laid.Tag p_1.Laid.Sum)) λx_38=>some x_38) (some false))) (λt_30=>some t_30)))))))))
def ref17_place (p_1:Change):Option Int:=
 some (w64 ((w64 ((w64 ((w64 (p_1.Set*16))+p_1.Obj))*16))+p_1.Index))
def ref17_mayChanges_l1 (p_1:Pool)(s_14:Nat):Option (Nat ⊕ (Unit ⊕ Unit)):=
 cond (decide (((s_14:Nat):Int)<(p_1.Changes.length:Int))) (idx p_1.Changes ((s_14:Nat):Int) λy_18=>Option.bind (ref17_Line p_1.Lines y_18.Set) λx_30=>cond (decide (x_30<0)) (some (.inr (.inr ()))) (idx p_1.Lines x_30 λy_34=>cond (!decide (y_34.Kind=(1:UInt8))) (some (.inr (.inr ()))) (Option.bind (ref17_MayChange y_18) λx_46=>cond (!x_46) (some (.inr (.inr ()))) (cond (decide (0<((s_14:Nat):Int))) (idx p_1.Changes (w64 (((s_14:Nat):Int)-1)) λy_51=>Option.bind (ref17_place y_18) λx_62=>Option.bind (ref17_place y_51) λx_65=>cond (decide (x_62≤x_65)) (some (.inr (.inr ()))) (some (.inl (s_14+1)))) (some (.inl (s_14+1))))))) (some (.inr (.inl ())))
def ref17_mayChanges (p_1:Pool):Option Bool:=
 Option.bind (loop (ref17_mayChanges_l1 p_1) 0) (λt_11=>Sum.elim (λt_11a=>some true) (λt_11b=>some false) t_11)
def ref17_May_l2 (p_1:Pool)(s_53:Nat):Option (Nat ⊕ (Unit ⊕ Unit)):=
 cond (decide (((s_53:Nat):Int)<(p_1.Lines.length:Int))) (idx p_1.Lines ((s_53:Nat):Int) λy_57=>cond (decide (p_1.NextId≤y_57.Id)) (some (.inr (.inr ()))) (idx p_1.Lines ((s_53:Nat):Int) λy_69=>cond (decide (p_1.NextGuid≤y_69.Guid)) (some (.inr (.inr ()))) (some (.inl (s_53+1))))) (some (.inr (.inl ())))
def ref17_May_l1 (p_1:Pool)(s_27:Nat):Option (Nat ⊕ (Unit ⊕ Unit)):=
 cond (decide (((s_27:Nat):Int)<(p_1.MetaL.length:Int))) (idx p_1.MetaL ((s_27:Nat):Int) λy_31=>cond (decide (y_31<12)) (some (.inr (.inr ()))) (cond (decide (255<y_31)) (some (.inr (.inr ()))) (cond (decide (0<((s_27:Nat):Int))) (idx p_1.MetaL (w64 (((s_27:Nat):Int)-1)) λy_43=>cond (decide (y_31≤y_43)) (some (.inr (.inr ()))) (idx p_1.Store.Space y_31 λy_53=>cond (!decide (y_53=(1:UInt8))) (some (.inr (.inr ()))) (some (.inl (s_27+1))))) (idx p_1.Store.Space y_31 λy_63=>cond (!decide (y_63=(1:UInt8))) (some (.inr (.inr ()))) (some (.inl (s_27+1))))))) (some (.inr (.inl ())))
def ref17_May (p_1:Pool):Option Bool:=
 Option.bind (ref13_May (Store.mk (Disk.mk p_1.Store.Disk.Blocks p_1.Store.Disk.Waits) p_1.Store.Space p_1.Store.Epoch p_1.Store.Count)) λx_11=>cond (!x_11) (some false) (cond (decide ((16777215:UInt32)<p_1.Gen)) (some false) (Option.bind (ref10_May (Ptr.mk p_1.Root.At p_1.Root.Birth p_1.Root.Iv p_1.Root.Tag p_1.Root.Sum)) λx_16=>cond (!x_16) (some false) (Option.bind (ref10_None (Ptr.mk p_1.Root.At p_1.Root.Birth p_1.Root.Iv p_1.Root.Tag p_1.Root.Sum)) λx_20=>cond (!(x_20==(decide (p_1.Gen=(0:UInt32))))) (some false) (Option.bind (loop (ref17_May_l1 p_1) 0) (λt_24=>Sum.elim (λt_24a=>Option.bind (ref17_mayLines p_1.Lines) λx_30=>cond (!x_30) (some false) (Option.bind (ref17_mayKeys p_1.Keys 24) λx_34=>cond (!x_34) (some false) (Option.bind (ref17_mayKeys p_1.Loaded 16) λx_38=>cond (!x_38) (some false) (Option.bind (ref17_mayChanges p_1) λx_42=>cond (!x_42) (some false) (cond (decide (p_1.Logged<0)) (some false) (cond (decide (8<p_1.Logged)) (some false) (cond (decide (p_1.NextId<1)) (some false) (cond (decide (256<p_1.NextId)) (some false) (Option.bind (loop (ref17_May_l2 p_1) 0) (λt_50=>Sum.elim (λt_50a=>some true) (λt_50b=>some false) t_50)))))))))) (λt_24b=>some false) t_24)))))
def ref20_Asked (p_1:Pool)(p_10:Int):Option (Int×Int):=
 Option.bind (ref17_May p_1) λx_12=>cond (!x_12) (some (0,8)) (Option.bind (ref17_Line p_1.Lines p_10) λx_16=>cond (decide (x_16<0)) (some (0,6)) (some (x_16,0)))
def ref20_Change_l1 (p_1:List Change)(p_3:Int)(p_4:Int)(p_5:Int)(s_10:Nat):Option (Nat ⊕ (Unit ⊕ Change)):=
 cond (decide (((s_10:Nat):Int)<(p_1.length:Int))) (idx p_1 ((s_10:Nat):Int) λy_14=>cond (decide (y_14.Set=p_3)) (idx p_1 ((s_10:Nat):Int) λy_26=>cond (decide (y_26.Obj=p_4)) (idx p_1 ((s_10:Nat):Int) λy_38=>cond (decide (y_38.Index=p_5)) (idx p_1 ((s_10:Nat):Int) λy_50=>some (.inr (.inr y_50))) (some (.inl (s_10+1)))) (some (.inl (s_10+1)))) (some (.inl (s_10+1)))) (some (.inr (.inl ())))
def ref20_Change (p_1:List Change)(p_3:Int)(p_4:Int)(p_5:Int):Option (Change×Bool):=
 Option.bind (loop (ref20_Change_l1 p_1 p_3 p_4 p_5) 0) (λt_7=>Sum.elim (λt_7a=>some (Change.mk 0 0 0 (0:UInt8) 0 0 ([]:List UInt8) (Ptr.mk 0 (0:UInt32) (0:UInt32) (0:UInt32) (0:UInt32)),false)) (λt_7b=>some (t_7b,true)) t_7)
def ref20_rooted (p_1:Pool)(p_10:Int)(p_11:Int):Option (Object×Int):=
 idx p_1.Lines p_10 λy_14=>Option.bind (ref15_Object (Store.mk (Disk.mk p_1.Store.Disk.Blocks p_1.Store.Disk.Waits) p_1.Store.Space p_1.Store.Epoch p_1.Store.Count) (Ptr.mk y_14.Root.At y_14.Root.Birth y_14.Root.Iv y_14.Root.Tag y_14.Root.Sum) p_11) λx_27=>cond (decide (x_27.2=6)) (mks 15 (Ptr.mk 0 (0:UInt32) (0:UInt32) (0:UInt32) (0:UInt32)) λx_35=>some (Object.mk (0:UInt8) 0 0 x_35,0)) (some (x_27.1,x_27.2))
def ref20_got (p_1:Pool)(p_10:Int)(p_11:Int):Option (Change×Int):=
 idx p_1.Lines p_10 λy_14=>Option.bind (ref20_Change p_1.Changes y_14.Id p_11 15) λx_27=>Option.bind (cond (!x_27.2) (Option.bind (ref20_rooted p_1 p_10 p_11) λx_36=>cond (!decide (x_36.2=0)) (some (.inr x_36.2)) (some (.inl (Change.mk 0 0 0 x_36.1.Kind x_36.1.Links x_36.1.Size ([]:List UInt8) (Ptr.mk 0 (0:UInt32) (0:UInt32) (0:UInt32) (0:UInt32)))))) (some (.inl x_27.1))) (λt_32=>Sum.elim (λt_32a=>cond (decide (t_32a.Kind=(0:UInt8))) (some (Change.mk 0 0 0 (0:UInt8) 0 0 ([]:List UInt8) (Ptr.mk 0 (0:UInt32) (0:UInt32) (0:UInt32) (0:UInt32)),6)) (some (t_32a,0))) (λt_32b=>some (Change.mk 0 0 0 (0:UInt8) 0 0 ([]:List UInt8) (Ptr.mk 0 (0:UInt32) (0:UInt32) (0:UInt32) (0:UInt32)),t_32b)) t_32)
def ref20_Read (p_1:Pool)(p_10:Int)(p_11:Int)(p_12:Int):Option (List UInt8×Int):=
 Option.bind (ref20_Asked p_1 p_10) λx_14=>cond (!decide (x_14.2=0)) (some (([]:List UInt8),x_14.2)) (cond (decide (p_11<0)) (some (([]:List UInt8),2)) (cond (decide (16≤p_11)) (some (([]:List UInt8),2)) (cond (decide (p_12<0)) (some (([]:List UInt8),2)) (cond (decide (15≤p_12)) (some (([]:List UInt8),2)) (idx p_1.Lines x_14.1 λy_22=>idx p_1.Loaded y_22.Key λy_33=>cond (decide ((y_33.length:Int)=0)) (some (([]:List UInt8),200)) (Option.bind (ref20_got p_1 x_14.1 p_11) λx_45=>cond (!decide (x_45.2=0)) (some (([]:List UInt8),x_45.2)) (Option.bind (ref20_Change p_1.Changes p_10 p_11 p_12) λx_51=>Option.bind (cond x_51.2 (cond (decide (0<(x_51.1.Data.length:Int))) (app ([]:List UInt8) x_51.1.Data λq_63=>some (.inr q_63)) (some (.inl ()))) (some (.inl ()))) (λt_57=>Sum.elim (λt_57a=>Option.bind (cond (!x_51.2) (Option.bind (ref20_rooted p_1 x_14.1 p_11) λx_72=>cond (!decide (x_72.2=0)) (some (.inr x_72.2)) (idx x_72.1.Data p_12 λy_78=>some (.inl y_78))) (some (.inl (Ptr.mk x_51.1.Laid.At x_51.1.Laid.Birth x_51.1.Laid.Iv x_51.1.Laid.Tag x_51.1.Laid.Sum)))) (λt_68=>Sum.elim (λt_68a=>Option.bind (ref10_None t_68a) λx_91=>cond x_91 (mks 256 (0:UInt8) λx_97=>some (x_97,0)) (Option.bind (ref13_Opened (Store.mk (Disk.mk p_1.Store.Disk.Blocks p_1.Store.Disk.Waits) p_1.Store.Space p_1.Store.Epoch p_1.Store.Count) t_68a y_33) λx_99=>some (x_99.1,x_99.2))) (λt_68b=>some (([]:List UInt8),t_68b)) t_68)) (λt_57b=>some (t_57b,0)) t_57))))))))
def data_Get (p_1:Pool)(p_10:Int)(p_11:Int):Option (UInt8×Int×Int×Int):=
 Option.bind (data_find p_1 p_10) λx_13=>Option.bind (cond (decide (x_13.2=0)) (Option.bind (data_within ([p_11,16])) λx_26=>cond (!x_26) (some 2) (some x_13.2)) (some x_13.2)) (λt_18=>cond (!decide (t_18=0)) (some ((0:UInt8),0,0,t_18)) (Option.bind (data_head p_1 x_13.1 p_11) λx_30=>some (x_30.1.Kind,x_30.1.Links,x_30.1.Size,x_30.2)))
def ref20_Get (p_1:Pool)(p_10:Int)(p_11:Int):Option (UInt8×Int×Int×Int):=
 Option.bind (ref20_Asked p_1 p_10) λx_13=>cond (!decide (x_13.2=0)) (some ((0:UInt8),0,0,x_13.2)) (cond (decide (p_11<0)) (some ((0:UInt8),0,0,2)) (cond (decide (16≤p_11)) (some ((0:UInt8),0,0,2)) (Option.bind (ref20_got p_1 x_13.1 p_11) λx_19=>some (x_19.1.Kind,x_19.1.Links,x_19.1.Size,x_19.2))))
def ref12_Same_l1 (p_1:List Int)(p_3:List Int)(s_9:Nat):Option (Nat ⊕ (Unit ⊕ Unit)):=
 cond (decide (((s_9:Nat):Int)<(p_1.length:Int))) (idx p_1 ((s_9:Nat):Int) λy_13=>idx p_3 ((s_9:Nat):Int) λy_22=>cond (!decide (y_13=y_22)) (some (.inr (.inr ()))) (some (.inl (s_9+1)))) (some (.inr (.inl ())))
def ref12_Same (p_1:List Int)(p_3:List Int):Option Bool:=
 cond (!decide ((p_1.length:Int)=(p_3.length:Int))) (some false) (Option.bind (loop (ref12_Same_l1 p_1 p_3) 0) (λt_6=>Sum.elim (λt_6a=>some true) (λt_6b=>some false) t_6))
def ref17_SameLine (p_1:Line)(p_3:Line):Option Bool:=
 Option.bind (cond (decide (p_1.Id=p_3.Id)) (cond (decide (p_1.Kind=p_3.Kind)) (cond (decide (p_1.Owner=p_3.Owner)) (cond (decide (p_1.Prev=p_3.Prev)) (cond (decide (p_1.Txg=p_3.Txg)) (cond (decide (p_1.Guid=p_3.Guid)) (cond (decide (p_1.Key=p_3.Key)) (cond (decide (p_1.Root.At=p_3.Root.At)&&(decide (p_1.Root.Birth=p_3.Root.Birth)&&(decide (p_1.Root.Iv=p_3.Root.Iv)&&(decide (p_1.Root.Tag=p_3.Root.Tag)&&(decide (p_1.Root.Sum=p_3.Root.Sum)&&true))))) (Option.bind (ref10_Same p_1.Dead p_3.Dead) λx_18=>some x_18) (some false)) (some false)) (some false)) (some false)) (some false)) (some false)) (some false)) (some false)) (λt_7=>some t_7)
def ref17_SameChange (p_1:Change)(p_3:Change):Option Bool:=
 Option.bind (Option.bind (ref17_place p_1) λx_10=>Option.bind (ref17_place p_3) λx_13=>cond (decide (x_10=x_13)) (cond (decide (p_1.Set=p_3.Set)) (cond (decide (p_1.Obj=p_3.Obj)) (cond (decide (p_1.Kind=p_3.Kind)) (cond (decide (p_1.Links=p_3.Links)) (cond (decide (p_1.Size=p_3.Size)) (cond (decide (p_1.Data=p_3.Data)) (some (decide (p_1.Laid.At=p_3.Laid.At)&&(decide (p_1.Laid.Birth=p_3.Laid.Birth)&&(decide (p_1.Laid.Iv=p_3.Laid.Iv)&&(decide (p_1.Laid.Tag=p_3.Laid.Tag)&&(decide (p_1.Laid.Sum=p_3.Laid.Sum)&&true)))))) (some false)) (some false)) (some false)) (some false)) (some false)) (some false)) (some false)) (λt_7=>some t_7)
def ref17_sameTexts_l1 (p_1:List (List UInt8))(p_3:List (List UInt8))(s_9:Nat):Option (Nat ⊕ (Unit ⊕ Unit)):=
 cond (decide (((s_9:Nat):Int)<(p_1.length:Int))) (idx p_1 ((s_9:Nat):Int) λy_13=>idx p_3 ((s_9:Nat):Int) λy_24=>cond (!decide (y_13=y_24)) (some (.inr (.inr ()))) (some (.inl (s_9+1)))) (some (.inr (.inl ())))
def ref17_sameTexts (p_1:List (List UInt8))(p_3:List (List UInt8)):Option Bool:=
 cond (!decide ((p_1.length:Int)=(p_3.length:Int))) (some false) (Option.bind (loop (ref17_sameTexts_l1 p_1 p_3) 0) (λt_6=>Sum.elim (λt_6a=>some true) (λt_6b=>some false) t_6))
def ref17_Same_l2 (p_1:Pool)(p_10:Pool)(s_42:Nat):Option (Nat ⊕ (Unit ⊕ Unit)):=
 cond (decide (((s_42:Nat):Int)<(p_1.Changes.length:Int))) (idx p_1.Changes ((s_42:Nat):Int) λy_46=>idx p_10.Changes ((s_42:Nat):Int) λy_57=>Option.bind (ref17_SameChange y_46 y_57) λx_68=>cond (!x_68) (some (.inr (.inr ()))) (some (.inl (s_42+1)))) (some (.inr (.inl ())))
def ref17_Same_l1 (p_1:Pool)(p_10:Pool)(s_36:Nat):Option (Nat ⊕ (Unit ⊕ Unit)):=
 cond (decide (((s_36:Nat):Int)<(p_1.Lines.length:Int))) (idx p_1.Lines ((s_36:Nat):Int) λy_40=>idx p_10.Lines ((s_36:Nat):Int) λy_51=>Option.bind (ref17_SameLine y_40 y_51) λx_62=>cond (!x_62) (some (.inr (.inr ()))) (some (.inl (s_36+1)))) (some (.inr (.inl ())))
def ref17_Same (p_1:Pool)(p_10:Pool):Option Bool:=
 Option.bind (ref13_Same (Store.mk (Disk.mk p_1.Store.Disk.Blocks p_1.Store.Disk.Waits) p_1.Store.Space p_1.Store.Epoch p_1.Store.Count) (Store.mk (Disk.mk p_10.Store.Disk.Blocks p_10.Store.Disk.Waits) p_10.Store.Space p_10.Store.Epoch p_10.Store.Count)) λx_21=>cond (!x_21) (some false) (cond (!decide (p_1.Gen=p_10.Gen)) (some false) (cond (!(decide (p_1.Root.At=p_10.Root.At)&&(decide (p_1.Root.Birth=p_10.Root.Birth)&&(decide (p_1.Root.Iv=p_10.Root.Iv)&&(decide (p_1.Root.Tag=p_10.Root.Tag)&&(decide (p_1.Root.Sum=p_10.Root.Sum)&&true)))))) (some false) (Option.bind (ref12_Same p_1.MetaL p_10.MetaL) λx_27=>cond (!x_27) (some false) (cond (!decide ((p_1.Lines.length:Int)=(p_10.Lines.length:Int))) (some false) (cond (!decide ((p_1.Changes.length:Int)=(p_10.Changes.length:Int))) (some false) (Option.bind (loop (ref17_Same_l1 p_1 p_10) 0) (λt_33=>Sum.elim (λt_33a=>Option.bind (loop (ref17_Same_l2 p_1 p_10) 0) (λt_39=>Sum.elim (λt_39a=>Option.bind (Option.bind (ref17_sameTexts p_1.Keys p_10.Keys) λx_48=>cond x_48 (Option.bind (ref17_sameTexts p_1.Loaded p_10.Loaded) λx_52=>cond x_52 (cond (decide (p_1.Logged=p_10.Logged)) (cond (decide (p_1.NextId=p_10.NextId)) (some (decide (p_1.NextGuid=p_10.NextGuid))) (some false)) (some false)) (some false)) (some false)) (λt_45=>some t_45)) (λt_39b=>some false) t_39)) (λt_33b=>some false) t_33)))))))
def law20_DataReads_l1 (s_57:List UInt8×Nat):Option ((List UInt8×Nat) ⊕ Unit):=
 cond (decide (((s_57.2:Nat):Int)<(s_57.1.length:Int))) (idx s_57.1 ((s_57.2:Nat):Int) λy_62=>chk (0≤((s_57.2:Nat):Int)∧((s_57.2:Nat):Int).toNat<s_57.1.length)<|setI s_57.1 ((s_57.2:Nat):Int) (y_62+(1:UInt8)) λm_77=>some (.inl (m_77,s_57.2+1))) (some (.inr ()))
def law20_DataReads (p_1:Pool)(p_10:Int)(p_11:Int)(p_12:Int):Option Bool:=
 Option.bind (ref17_Great p_1) λx_14=>cond x_14 (some true) (Option.bind (ref17_Twin p_1) λx_18=>Option.bind (data_Read x_18 p_10 p_11 p_12) λx_33=>Option.bind (ref20_Read p_1 p_10 p_11 p_12) λx_36=>Option.bind (data_Get x_18 p_10 p_11) λx_43=>Option.bind (ref20_Get p_1 p_10 p_11) λx_45=>cond (!decide (x_33.1=x_36.1)) (some false) (cond (!decide (x_33.2=x_36.2)) (some false) (cond (!decide (x_43.1=x_45.1)) (some false) (cond (!decide (x_43.2.1=x_45.2.1)) (some false) (cond (!decide (x_43.2.2.1=x_45.2.2.1)) (some false) (cond (!decide (x_43.2.2.2=x_45.2.2.2)) (some false) (Option.bind (loop law20_DataReads_l1 (x_33.1,0)) (λt_54=>Option.bind (ref17_Same x_18 p_1) λx_64=>some x_64))))))))
end Go.Ow
namespace Go.Ow
variable{α σ ρ τ:Type}
def goesOn (st:ρ→σ):ρ ⊕ τ→Option (σ ⊕ τ)
 | .inl r=>some (.inl (st r))
 | .inr t=>some (.inr t)
def ends (fin:ρ→τ):ρ ⊕ τ→Option τ
 | .inl r=>some (fin r)
 | .inr t=>some t
theorem loop_each (l:List α)(st:Nat→ρ→σ){body:σ→Option (σ ⊕ τ)}(f:α→ρ→Option (ρ ⊕ τ))(fin:ρ→τ)(I:Nat→ρ→Prop)
    (step:∀i (h:i<l.length) r,I i r→body (st i r)=Option.bind (f l[i] r) (goesOn (st (i+1))))(inv:∀i (h:i<l.length) r r',I i r→f l[i] r=some (.inl r')→I (i+1) r')
    (stop:∀r,I l.length r→body (st l.length r)=some (.inr (fin r)))(hl:l.length<FUEL){r0:ρ}(h0:I 0 r0):
    loop body (st 0 r0)=Option.bind (forL f l r0) (ends fin):=by
  have key:∀(k i:Nat) (r:ρ) (n:Nat),i+k=l.length→k<n→I i r→run body n (st i r)=Option.bind (forL f (l.drop i) r) (ends fin):=by
    intro k
    induction k with
    | zero=>
      intro i r n hi hn hI
      obtain rfl:i=l.length:=by omega
      obtain⟨n,rfl⟩:∃m,n=m+1:=⟨n-1,by omega⟩
      show Option.bind (body (st l.length r)) _=_
      rw[stop r hI,List.drop_length];rfl
    | succ k ih=>
      intro i r n hi hn hI
      have hlt:i<l.length:=by omega
      obtain⟨n,rfl⟩:∃m,n=m+1:=⟨n-1,by omega⟩
      show Option.bind (body (st i r)) _=_
      rw[step i hlt r hI,List.drop_eq_getElem_cons hlt]
      show _=Option.bind (Option.bind (f l[i] r) _) _
      cases hf:f l[i] r with
      |none=>rfl
      | some o=>
        cases o with
        |inl r'=>exact ih (i+1) r' n (by omega) (by omega) (inv i hlt r r' hI hf)
        |inr t=>rfl
  have:=key l.length 0 r0 FUEL (by omega) hl h0
  simpa[loop]using this
theorem loop_each' (l:List α)(st:Nat→ρ→σ){body:σ→Option (σ ⊕ τ)}(f:α→ρ→Option (ρ ⊕ τ))(fin:ρ→τ)
 (step:∀i (h:i<l.length) r,body (st i r)=Option.bind (f l[i] r) (goesOn (st (i+1))))(stop:∀r,body (st l.length r)=some (.inr (fin r)))(hl:l.length<FUEL)(r0:ρ):
 loop body (st 0 r0)=Option.bind (forL f l r0) (ends fin):=
 loop_each l st f fin (λ_ _=>True) (λi h r _=>step i h r) (λ_ _ _ _ _ _=>trivial) (λr _=>stop r) hl trivial
theorem forL_map (g:ρ→α→ρ):∀(l:List α) (r:ρ),forL (λy r=>some (.inl (g r y):ρ ⊕ τ)) l r=some (.inl (l.foldl g r))
 |[],r=>rfl
 |y::l,r=>by rw[forL_cons (s':=g r y) rfl,forL_map g l];rfl
theorem lt_fuel{n m:Nat}(h:n≤m)(hm:Nat.blt m FUEL=true):n<FUEL:=Nat.lt_of_le_of_lt h (by simpa using hm)
theorem cI{n m:Nat}{β:Type}{a b:β}:(bif decide ((n:Int)<(m:Int))then a else b)=if n<m then a else b:=by
 by_cases h:n<m
 · rw[if_pos h,decide_eq_true (by omega)];rfl
 · rw[if_neg h,decide_eq_false (by omega)];rfl
end Go.Ow
namespace Go.Ow
def okW (w:Write):Bool:=decide (0≤w.At∧w.At<256)&&decide (w.Data.length=256)
def OKD (d:Disk):Prop:=d.Blocks.length=256∧d.Waits.length≤4096∧(∀b∈d.Blocks,b.length=256)∧∀w∈d.Waits,okW w=true
instance (d:Disk):Decidable (OKD d):=by unfold OKD;infer_instance
structure Sized (d:Disk):Prop where
  blocks:d.Blocks.length≤9223372036854775807
  waits:d.Waits.length≤9223372036854775807
  at':∀w∈d.Waits,InI64 w.At
theorem dev_place_eq{n:Int}(h:InI64 n):dev_place n=some (decide (0≤n∧n<256)):=by
 unfold dev_place u64i
 congr 1
 apply decide_eq_decide.2
 rw[UInt64.lt_iff_toNat_lt,UInt64.toNat_ofNat']
 obtain⟨h1,h2⟩:=h
 show _%18446744073709551616<(256:UInt64).toNat↔_
 rw[show(256:UInt64).toNat=256 from rfl]
 omega
theorem small_lt{n:Nat}(h:n≤9223372036854775807):n<FUEL:=Nat.lt_of_le_of_lt h (by decide)
theorem check_l1 (d:Disk)(ok:Bool)(h:d.Blocks.length≤9223372036854775807):loop (dev_Check_l1 d) (ok,0)=some (ok&&d.Blocks.all λb=>decide (b.length=256)):=by
 rw[loop_each' d.Blocks (λi (r:Bool)=>(r,i)) (λb r=>some (.inl (r&&decide (b.length=256)))) (λr=>r) (λi hi r=> ?_) (λr=> ?_) (small_lt h) ok,forL_map]
 · show some _=some _
   congr 1
   generalize d.Blocks=l
   induction l generalizing ok with
   |nil=>simp
   |cons b l ih=>simp only[List.foldl_cons,ih,List.all_cons,Bool.and_assoc]
 · unfold dev_Check_l1
   rw[cI,if_pos hi,ZN _ hi]
   cases r
   · rfl
   · simp only[cond_true,Option.bind_some,goesOn,Bool.true_and]
     rw[show decide ((d.Blocks[i].length:Int)=256)=decide (d.Blocks[i].length=256)from decide_eq_decide.2 (by omega)]
 · unfold dev_Check_l1
   rw[cI,if_neg (by omega)]
theorem check_l2 (d:Disk)(ok:Bool)(h:Sized d):loop (dev_Check_l2 d) (ok,0)=some (ok&&d.Waits.all okW):=by
 rw[loop_each' d.Waits (λi (r:Bool)=>(r,i)) (λw r=>some (.inl (r&&(okW w)))) (λr=>r) (λi hi r=> ?_) (λr=> ?_) (small_lt h.waits) ok,forL_map]
 · show some _=some _
   congr 1
   generalize d.Waits=l
   induction l generalizing ok with
   |nil=>simp
   |cons b l ih=>simp only[List.foldl_cons,ih,List.all_cons,Bool.and_assoc]
 · unfold dev_Check_l2
   rw[cI,if_pos hi,ZN _ hi]
   cases r
   · rfl
   · simp only[cond_true,Option.bind_some,goesOn,Bool.true_and]
     rw[dev_place_eq (h.at' _ (List.getElem_mem hi))]
     unfold okW
     by_cases c:0≤d.Waits[i].At∧d.Waits[i].At<256
     · rw[decide_eq_true c]
       simp only[Option.bind_some,cond_true,Bool.true_and]
       rw[show decide ((d.Waits[i].Data.length:Int)=256)=decide (d.Waits[i].Data.length=256)from decide_eq_decide.2 (by omega)]
     · rw[decide_eq_false c]
       rfl
 · unfold dev_Check_l2
   rw[cI,if_neg (by omega)]
theorem dev_Check_eq{d:Disk}(h:Sized d):dev_Check d=some (if OKD d then 0 else 8):=by
 unfold dev_Check
 rw [show(bif decide ((d.Blocks.length:Int)=256)then some (decide ((d.Waits.length:Int)≤4096))else some false)=some (decide (d.Blocks.length=256)&&decide (d.Waits.length≤4096))from by
  by_cases c:d.Blocks.length=256
  · rw[decide_eq_true (show(d.Blocks.length:Int)=256 by omega),decide_eq_true c]
    simp only[cond_true,Bool.true_and]
    congr 1
    simp only[decide_eq_decide];omega
  · rw[decide_eq_false (show¬(d.Blocks.length:Int)=256 by omega),decide_eq_false c];rfl]
 simp only[Option.bind_some]
 rw[check_l1 d _ h.blocks]
 simp only[Option.bind_some]
 rw[check_l2 d _ h]
 simp only[Option.bind_some]
 by_cases c:OKD d
 · rw[if_pos c]
   obtain⟨c1,c2,c3,c4⟩:=c
   rw[show(decide (d.Blocks.length=256)&&decide (d.Waits.length≤4096)&&(d.Blocks.all λb=>decide (b.length=256))&&d.Waits.all okW)=true from by
    simp only[Bool.and_eq_true,decide_eq_true_eq,List.all_eq_true];exact⟨⟨⟨c1,c2⟩,c3⟩,c4⟩]
   rfl
 · rw[if_neg c]
   rw[show(decide (d.Blocks.length=256)&&decide (d.Waits.length≤4096)&&(d.Blocks.all λb=>decide (b.length=256))&&d.Waits.all okW)=false from by
    rw[Bool.eq_false_iff];intro e
    simp only[Bool.and_eq_true,decide_eq_true_eq,List.all_eq_true]at e
    exact c ⟨e.1.1.1,e.1.1.2,e.1.2,e.2⟩]
   rfl
structure Mid (d:Disk):Prop where
  blocks:d.Blocks.length≤1000
  waits:d.Waits.length≤5000
  eb:∀b∈d.Blocks,b.length≤1000
  ew:∀w∈d.Waits,w.Data.length≤1000
theorem OKD.mid{d:Disk}(h:OKD d):Mid d:=⟨by rw[h.1];omega,by have:=h.2.1;omega,λb hb=>by rw[h.2.2.1 b hb];omega,λw hw=>by
 have:=h.2.2.2 w hw
 simp only[okW,Bool.and_eq_true,decide_eq_true_eq]at this
 omega⟩
theorem OKD.sized{d:Disk}(h:OKD d):Sized d:=⟨by rw[h.1];omega,by have:=h.2.1;omega,λw hw=>by
 have:=h.2.2.2 w hw
 simp only[okW,Bool.and_eq_true,decide_eq_true_eq]at this
 exact⟨by omega,by omega⟩⟩
theorem sum_le_mul{l:List Nat}{k:Nat}(h:∀x∈l,x≤k):l.sum≤l.length*k:=by
  induction l with
  |nil=>simp
  | cons x l ih=>
    have:=h x (by simp);have:=ih (λy hy=>h y (by simp[hy]))
    simp only[List.sum_cons,List.length_cons,Nat.add_mul,Nat.one_mul];omega
theorem twin_l1 (d:Disk)(h:d.Blocks.length≤1000):loop (dev_Twin_l1 d) (([]:List Int),0)=some (d.Blocks.map λb=>(b.length:Int)):=by
 rw[loop_each d.Blocks (λi (r:List Int)=>(r,i)) (λb r=>some (.inl (r++ [(b.length:Int)]))) (λr=>r) (λi r=>r.length=i) (λi hi r hr=> ?_) (λi hi r r' hr e=> ?_) (λr _=> ?_) (small_lt (by omega)) rfl,forL_map]
 · show some _=some _
   congr 1
   suffices H:∀(l:List (List UInt8)) (a:List Int),l.foldl (λr b=>r++ [(b.length:Int)]) a=a++l.map λb=>(b.length:Int) by simpa using H d.Blocks []
   intro l
   induction l with
   |nil=>simp
   |cons b l ih=>intro a;simp[ih]
 · unfold dev_Twin_l1
   rw[cI,if_pos hi,ZN _ hi,Zr (by simp only[List.length_cons,List.length_nil,LIM];omega)]
   rfl
 · simp only[Option.some.injEq,Sum.inl.injEq]at e;subst e;simp[hr]
 · unfold dev_Twin_l1
   rw[cI,if_neg (by omega)]
theorem dev_cut_eq (bs:List (List UInt8))(h:bs.length≤1000)(hb:∀b∈bs,b.length≤1000):dev_cut (bs.map λb=>(b.length:Int))=some (bs.map λb=>List.replicate b.length 0):=by
 unfold dev_cut
 have e1:(bs.map λb=>(b.length:Int)).map Int.toNat=bs.map List.length:=by rw[List.map_map];rfl
 have e2:=sum_le_mul (l:=bs.map List.length) (k:=1000) (λx hx=>by obtain⟨b,h1,rfl⟩:=List.mem_map.1 hx;exact hb b h1)
 rw[List.length_map]at e2
 rw[if_pos ⟨λn hn=>by obtain⟨b,_,rfl⟩:=List.mem_map.1 hn;omega,by rw[e1];simp only[LIM];omega,by simp only[List.length_map,LIM];omega⟩,List.map_map]
 rfl
theorem twin_l2 (d:Disk)(h:d.Blocks.length≤1000):loop (dev_Twin_l2 d) (d.Blocks.map (λb=>List.replicate b.length (0:UInt8)),0)=some d.Blocks:=by
 obtain⟨t,h1,h2⟩:=loop_rule (body:=dev_Twin_l2 d) (λs=>s.2≤d.Blocks.length∧s.1=d.Blocks.take s.2++(d.Blocks.drop s.2).map (λb=>List.replicate b.length (0:UInt8))) (λs=>d.Blocks.length-s.2) (λt=>t=d.Blocks) (by
  rintro⟨r,i⟩ ⟨hi,hr⟩
  simp only at hi hr
  subst hr
  unfold dev_Twin_l2
  dsimp only
  rw[cI]
  rcases Nat.lt_or_ge i d.Blocks.length with hlt|hge
  · left
    have hl:(d.Blocks.take i++(d.Blocks.drop i).map (λb=>List.replicate b.length (0:UInt8))).length=d.Blocks.length:=by simp;omega
    have hg:(d.Blocks.take i++(d.Blocks.drop i).map (λb=>List.replicate b.length (0:UInt8)))[i]'(by omega)=List.replicate d.Blocks[i].length 0:=by
     rw[List.getElem_append_right (by simp;omega)]
     simp[Nat.min_eq_left (Nat.le_of_lt hlt)]
    rw[if_pos hlt,ZN _ hlt,ZN _ (by omega),chk_eq (by rw[hg];simp),setI_eq (by omega) (by simpa using(by omega:i<(d.Blocks.take i++(d.Blocks.drop i).map (λb=>List.replicate b.length (0:UInt8))).length))]
    refine⟨_,rfl,⟨hlt,?_⟩,by simp only;omega⟩
    simp only[Int.toNat_natCast]
    rw[List.set_append_right _ _ (by simp only[List.length_take];omega),List.drop_eq_getElem_cons hlt]
    simp only[List.map_cons,List.length_take,Nat.min_eq_left (Nat.le_of_lt hlt),Nat.sub_self,List.set_cons_zero]
    rw[List.take_add_one,List.getElem?_eq_getElem hlt]
    simp only[Option.toList_some,List.append_assoc,List.singleton_append]
  · right
    rw[if_neg (by omega)]
    refine⟨_,rfl,?_⟩
    rw[List.take_of_length_le hge,List.drop_of_length_le hge];simp) (s:=(d.Blocks.map (λb=>List.replicate b.length (0:UInt8)),0)) ⟨Nat.zero_le _,by simp⟩ (small_lt (by simp only;omega))
 rw[h1,h2]
theorem bytes_Clone_eq{l:List UInt8}(h:l.length≤1000):bytes_Clone l=some l:=by
 unfold bytes_Clone;rw[Zr (by simp only[List.length_nil,LIM];omega)];rfl
theorem twin_l3 (d:Disk)(h:d.Waits.length≤5000)(hw:∀w∈d.Waits,w.Data.length≤1000):loop (dev_Twin_l3 d) (([]:List Write),0)=some d.Waits:=by
 rw[loop_each d.Waits (λi (r:List Write)=>(r,i)) (λb r=>some (.inl (r++ [b]))) (λr=>r) (λi r=>r.length=i) (λi hi r hr=> ?_) (λi hi r r' hr e=> ?_) (λr _=> ?_) (small_lt (by omega)) rfl,forL_map]
 · show some _=some _
   congr 1
   suffices H:∀(l:List Write) (a:List Write),l.foldl (λr b=>r++ [b]) a=a++l by simpa using H d.Waits []
   intro l
   induction l with
   |nil=>simp
   |cons b l ih=>intro a;simp[ih]
 · unfold dev_Twin_l3
   rw[cI,if_pos hi,ZN _ hi,bytes_Clone_eq (hw _ (List.getElem_mem hi))]
   simp only[Option.bind_some]
   rw[Zr (by simp only[List.length_cons,List.length_nil,LIM];omega)]
   rfl
 · simp only[Option.some.injEq,Sum.inl.injEq]at e;subst e;simp[hr]
 · unfold dev_Twin_l3
   rw[cI,if_neg (by omega)]
theorem dev_Twin_eq{d:Disk}(h:Mid d):dev_Twin d=some d:=by
 unfold dev_Twin
 rw[twin_l1 d h.blocks]
 simp only[Option.bind_some]
 rw[dev_cut_eq _ h.blocks h.eb]
 simp only[Option.bind_some]
 rw[twin_l2 d h.blocks]
 simp only[Option.bind_some]
 rw[twin_l3 d h.waits h.ew]
 rfl
end Go.Ow
namespace Go.Ow
def noD:Disk:=⟨[],[]⟩
theorem inI64_of{n:Int}(h:0≤n∧n<256):InI64 n:=⟨by omega,by omega⟩
def layW (B:List (List UInt8))(ws:List Write):List (List UInt8):=ws.foldl (λB w=>B.set w.At.toNat w.Data) B
def KeysOk (M:List (Int×Write)):Prop:=(M.map (·.1)).Nodup∧∀p∈M,0≤p.1
theorem mem_putM{M:List (Int×Write)}{k:Int}{y:Write}{p:Int×Write}(h:p∈putM M k y):p∈M∨p=(k,y):=by
  induction M with
  |nil=>simp[putM]at h;exact .inr h
  | cons q r ih=>
    simp only[putM]at h
    split at h
    · rcases List.mem_cons.1 h with h'|h'
      · exact .inr h'
      · exact .inl (by simp[h'])
    · rcases List.mem_cons.1 h with h'|h'
      · exact .inl (by simp[h'])
      · exact(ih h').imp (λz=>by simp[z]) id
theorem keys_putM{M:List (Int×Write)}{k:Int}{y:Write}(h:(M.map (·.1)).Nodup):((putM M k y).map (·.1)).Nodup:=by
  induction M with
  |nil=>simp[putM]
  | cons q r ih=>
    simp only[List.map_cons,List.nodup_cons]at h
    simp only[putM]
    split
    · rename_i e
      simp only[List.map_cons,List.nodup_cons];rw[←e];exact h
    · rename_i e
      simp only[List.map_cons,List.nodup_cons]
      refine⟨λhm=> ?_,ih h.2⟩
      obtain⟨p,hp,hpe⟩:=List.mem_map.1 hm
      rcases mem_putM hp with h'|h'
      · exact h.1 (List.mem_map.2 ⟨p,h',hpe⟩)
      · subst h';exact e hpe.symm
theorem KeysOk.put{M:List (Int×Write)}{k:Int}{y:Write}(h:KeysOk M)(hk:0≤k):KeysOk (putM M k y):=
 ⟨keys_putM h.1,λp hp=>(mem_putM hp).elim (h.2 p) (λe=>by subst e;exact hk)⟩
theorem layM_set{M:List (Int×Write)}{L:List (List UInt8)}{j:Nat}{v:List UInt8}(h:∀p∈M,p.1.toNat≠j):
    layM (λy:Write=>y.Data) (L.set j v) M=(layM (λy:Write=>y.Data) L M).set j v:=by
  unfold layM
  induction M generalizing L with
  |nil=>rfl
  | cons p r ih=>
    simp only[List.foldl_cons]
    rw[List.set_comm _ _ (λe=>h p (by simp) e.symm),ih (λq hq=>h q (by simp[hq]))]
theorem layM_put{M:List (Int×Write)}{L:List (List UInt8)}{k:Int}{y:Write}(h:KeysOk M)(hk:0≤k):
    layM (λy:Write=>y.Data) L (putM M k y)=(layM (λy:Write=>y.Data) L M).set k.toNat y.Data:=by
  induction M generalizing L with
  |nil=>rfl
  | cons p r ih=>
    obtain⟨h1,h2⟩:=h
    simp only[List.map_cons,List.nodup_cons]at h1
    simp only[putM]
    split
    · rename_i e
      have hr:∀q∈r,q.1.toNat≠k.toNat:=λq hq e'=>h1.1 (List.mem_map.2 ⟨q,hq,by have:=h2 q (by simp[hq]);omega⟩)
      show layM _ (L.set k.toNat y.Data) r=(layM _ (L.set p.1.toNat p.2.Data) r).set k.toNat y.Data
      rw[←layM_set hr,e,List.set_set]
    · exact ih ⟨h1.2,λq hq=>h2 q (by simp[hq])⟩
def lastM (ws:List Write):List (Int×Write):=ws.foldl (λM w=>putM M w.At w) []
theorem lastM_snoc (ws:List Write)(w:Write):lastM (ws++ [w])=putM (lastM ws) w.At w:=by simp[lastM]
theorem lastM_spec (ws:List Write)(L:List (List UInt8))(h:∀w∈ws,0≤w.At):KeysOk (lastM ws)∧layM (λy:Write=>y.Data) L (lastM ws)=layW L ws∧∀p∈lastM ws,∃w∈ws,p.1=w.At:=by
  suffices H:∀(n:Nat) (ws:List Write),ws.length=n→(∀w∈ws,0≤w.At)→KeysOk (lastM ws)∧layM (λy:Write=>y.Data) L (lastM ws)=layW L ws∧∀p∈lastM ws,∃w∈ws,p.1=w.At from H _ ws rfl h
  intro n
  induction n with
  |zero=>intro ws hn _;obtain rfl:=List.length_eq_zero_iff.1 hn;exact⟨⟨by simp[lastM],by simp[lastM]⟩,rfl,by simp[lastM]⟩
  | succ n ih=>
    intro ws hn h
    obtain⟨ws',w,rfl⟩:∃a b,ws=a++ [b]:=⟨ws.dropLast,ws.getLast (by intro e;subst e;simp at hn),(List.dropLast_concat_getLast _).symm⟩
    obtain⟨h1,h2,h3⟩:=ih ws' (by simpa using hn) (λw hw=>h w (by simp[hw]))
    have hw:=h w (by simp)
    rw[lastM_snoc]
    refine⟨h1.put hw,?_,λp hp=> ?_⟩
    · rw[layM_put h1 hw,h2];simp[layW]
    · rcases mem_putM hp with h'|h'
      · obtain⟨w',a,b⟩:=h3 p h';exact⟨w',by simp[a],b⟩
      · subst h';exact⟨w,by simp,rfl⟩
theorem layW_length (B:List (List UInt8))(ws:List Write):(layW B ws).length=B.length:=by
 unfold layW
 induction ws generalizing B with
 |nil=>rfl
 |cons w ws ih=>simp only[List.foldl_cons,ih,List.length_set]
theorem layW_all{B:List (List UInt8)}{ws:List Write}(h:∀b∈B,b.length=256)(hw:∀w∈ws,w.Data.length=256):∀b∈layW B ws,b.length=256:=by
  unfold layW
  induction ws generalizing B with
  |nil=>exact h
  | cons w ws ih=>
    simp only[List.foldl_cons]
    refine ih (λb hb=> ?_) (λw' hw'=>hw w' (by simp[hw']))
    rcases List.mem_or_eq_of_mem_set hb with h'|h'
    · exact h b h'
    · rw[h'];exact hw w (by simp)
theorem okW_at{w:Write}(h:okW w=true):0≤w.At∧w.At<256:=by
 simp only[okW,Bool.and_eq_true,decide_eq_true_eq]at h;exact h.1
theorem okW_data{w:Write}(h:okW w=true):w.Data.length=256:=by
 simp only[okW,Bool.and_eq_true,decide_eq_true_eq]at h;exact h.2
theorem clone45{l:List (List UInt8)}(h:l.length≤1000):slices_Clone_byte_L l=some l:=by
 unfold slices_Clone_byte_L;rw[Zr (by simp only[List.length_nil,LIM];omega)];rfl
theorem lasts_loop (d:Disk)(h:d.Waits.length≤5000):dev_lasts d=some (lastM d.Waits):=by
 unfold dev_lasts
 rw[loop_each' d.Waits (λi (r:List (Int×Write))=>(r,i)) (λw r=>some (.inl (putM r w.At w))) (λr=>r) (λi hi r=> ?_) (λr=> ?_) (small_lt (by omega)) [],forL_map]
 · rfl
 · unfold dev_lasts_l1
   rw[cI,if_pos hi,ZN _ hi]
   rfl
 · unfold dev_lasts_l1
   rw[cI,if_neg (by omega)]
def seenB (d:Disk):List (List UInt8):=layW d.Blocks d.Waits
theorem okd_lay{d:Disk}(h:OKD d)(ws:List Write)(hw:∀w∈ws,w∈d.Waits):OKD ⟨layW d.Blocks ws,[]⟩:=
 ⟨by simp only[layW_length];exact h.1,by simp,layW_all h.2.2.1 (λw hw'=>okW_data (h.2.2.2 w (hw w hw'))),by simp⟩
theorem lay_range{d:Disk}(h:OKD d){ws:List Write}(hw:∀w∈ws,w∈d.Waits):∀p∈lastM ws,0≤p.1∧p.1.toNat<d.Blocks.length:=λp hp=>by
 obtain⟨w,h1,h2⟩:=(lastM_spec ws [] (λw hw'=>(okW_at (h.2.2.2 w (hw w hw'))).1)).2.2 p hp
 have:=okW_at (h.2.2.2 w (hw w h1))
 rw[h2,h.1];omega
theorem dev_left_eq{d:Disk}(h:OKD d):dev_left d=some ⟨seenB d,[]⟩:=by
 unfold dev_left
 rw[clone45 h.mid.blocks]
 simp only[Option.bind_some]
 rw[lasts_loop _ h.mid.waits]
 simp only[Option.bind_some]
 unfold layR
 rw[if_pos (lay_range h (λw hw=>hw)),(lastM_spec d.Waits d.Blocks (λw hw=>(okW_at (h.2.2.2 w hw)).1)).2.1]
 dsimp only
 rw[dev_Twin_eq (okd_lay h d.Waits (λw hw=>hw)).mid]
 rfl
theorem guarded2_eq{d:Disk}(h:Sized d)(is:Bool):dev_guarded_v2 d is d=some (if OKD d then(if is=true then(⟨seenB d,[]⟩,0,d)else(noD,2,d))else(noD,8,d)):=by
 unfold dev_guarded_v2
 rw[dev_Check_eq h]
 simp only[Option.bind_some]
 by_cases c:OKD d
 · rw[if_pos c,if_pos c]
   cases is
   · rfl
   · unfold dev_Read_1;rw[dev_left_eq c];rfl
 · rw[if_neg c,if_neg c];rfl
theorem seenB_length{d:Disk}(h:OKD d):(seenB d).length=256:=by unfold seenB;rw[layW_length];exact h.1
theorem dev_Read_eq{d:Disk}(h:OKD d){i:Nat}(hi:i<256):dev_Read d (i:Int)=some ((seenB d)[i]'(by rw[seenB_length h];exact hi),0):=by
 unfold dev_Read
 rw[dev_place_eq (inI64_of (by omega))]
 simp only[Option.bind_some]
 rw[guarded2_eq h.sized,if_pos h,decide_eq_true (show 0≤(i:Int)∧(i:Int)<256 by omega),if_pos rfl]
 simp only[Option.bind_some,decide_true,Bool.not_true,cond_false]
 rw[ZN _ (by rw[seenB_length h];exact hi)]
end Go.Ow
