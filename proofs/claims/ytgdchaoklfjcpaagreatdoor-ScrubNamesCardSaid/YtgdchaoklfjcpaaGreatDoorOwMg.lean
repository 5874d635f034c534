import Derived.Test.YtgdchaoklfjcpaaGreatDoorOwSo
import Derived.Shelf.SortG.AssemblyIn
import Derived.Shelf.SortG.SortNone
import Derived.Sort.OwnSortedInts
import Derived.Test.YtgdchaoklfjcpaaGreatDoorOwMa
import Derived.Test.YtgdchaoklfjcpaaGreatDoorOwMf
import Derived.Test.YtgdchaoklfjcpaaGreatDoorOwMb
/- rules, proved -/
set_option linter.unusedSimpArgs false
set_option linter.unusedVariables false
namespace Go.Ow
open Go.Shelf Go.RowKit Go.Lib Go.Sort Go.Proofs
variable{P:Program}{ρ:Ren}
def sortI (l:List Int):List Int:=l.mergeSort λx y=>decide (x<=y)
theorem Gn (l:List Int):(sortI l).length=l.length:=List.length_mergeSort _
theorem ZIk (l:List Int):(l.map λx=> [Value.int .i64 x]).flatten=l.map (Value.int .i64):=by
 induction l with
 |nil=>rfl
 |cons a r i=>rw[Tp,TP,i];rfl
theorem ZGY (L:SlLaysN.n53 P ρ){HF H:Heaplet}{B:Nat}{E:TypeId}{v:Value}{l:List Int}{K:Own}(Z:RowOf HF RInt B E 1 v l K)(hn:l.length<4611686018427387904):
 Does P (ρ.f 53) #[v] [K] H (λu K' H'=>∃F,u=.tuple #[]/\K'= [F]/\H=H'/\RowOf HF RInt B E 1 v (sortI l) F/\(∀p∈F,p.1∈ids K)):=by
 obtain⟨cells,⟨U,z⟩,G,hone⟩:=Z;have V:∀(H:Heaplet) cs (x:Int),RInt H cs x↔cs= [Value.int .i64 x]:=λ_ _ _=>Iff.rfl;intro w W k;rcases z with⟨rfl,I,rfl⟩|⟨b,cap,cur,rfl,rfl,hB,X,J,M,s⟩
 . obtain rfl:l= []:=TT.1 I;refine CallsIn.mono (callsIn_wide.2<|AnyG.slices_Sort_int_none L none 0 w) ?_;rintro e w' ⟨rfl,rfl⟩;refine⟨_,[[]],H,rfl,⟨[],rfl,rfl,rfl,?_,by simp⟩,?_⟩
   . rw[show sortI []= []from by simp[sortI]];exact RowOf.nil _ _ _ _ _
   . have:=Mem.same (H:=H) W k;simpa using this
 . have d:=ZCR V G;rw[ZIk]at d;subst d;have N:w.heap[b]? =some (.cells cur E (0,0)):=k.here (b,.cells cur E (0,0)) (by simp);have q:b<w.heap.size:=(TV.1 N).1;have hH:Go.Sort.Holds (Value.int .i64) w b 0 l.toArray:=holds_of_blockI N (by simpa using s);refine CallsIn.mono (callsIn_wide.2<|calls_of_every_depth λD=>AnySG.slices_Sort_int_in L D b 0 cap l w hH q hn) ?_;rintro e w' ⟨rfl,m,os,rfl⟩;rw[show(l.mergeSort λx y=>decide (x<=y))=sortI l from rfl];have O:=Gn l;obtain⟨i,h⟩:∃c,c=putCells (Value.int .i64) 0 (sortI l).toArray cur:=⟨_,rfl⟩;have Q:i.size=cur.size:=(by rw[h];simp[putCells]);have a:∀j,j<w.heap.size->(grow (putRow (Value.int .i64) (Sort.ahead w m) b 0 (sortI l).toArray) os).heap[j]? =if b=j then some (.cells i E (0,0))else w.heap[j]?:=λj R=>by
    split
    . rename_i e;subst e;rw[h];exact heap_sortedI _ N
    . rename_i t;exact(grownBy_sortedI (w:=w) (g:=b) (n:=m) (os:=os) (sortI l).toArray).block j R λe=>t<|by simpa using e.symm
   refine⟨_,[[(b,.cells i E (0,0))]],H,rfl,⟨_,rfl,rfl,rfl,⟨(sortI l).map<|Value.int .i64,⟨?_,.inr ⟨b,cap,i,by rw[O],rfl,hB,by omega,J,by rw[Q];exact M,?_⟩⟩,?_,?_⟩,by simp[ids]⟩,?_⟩
   . simp
   . rw[SY,h];exact take_putCellsI cur _<|by omega
   . rw[<-ZIk];exact Jn V (λ_=>rfl) _
   . intro u hu;obtain⟨x,_,rfl⟩:=T7.1 hu;rfl
   . have A:=λo=>k.apart (b,.cells cur E (0,0)) (by simp) o;refine⟨λC o v' e=> ?_,⟨?_,by simp[ids],λp r o=> ?_⟩,⟨rfl,rfl,rfl,?_,?_,?_⟩,λp r=>.inl (by simp at r;simp[r,ids]),Rz _,λ_ _ _=>rfl,PF⟩
     . have t:b≠C:=λhb=>(by subst hb;rw[A]at e;cases e);have h0:=W _ _ _ e;have S:C<w.heap.size:=by
        unfold World.cell? at h0;cases Y:w.heap[C]? with
        |none=>simp[Y]at h0
        |some o=>exact(TV.1 Y).1
       unfold World.cell? at h0|-;simp only[a C S,TK t];exact h0
     . intro p r;simp at r;subst r;rw[a b q,TJ rfl]
     . simp at r;subst r;exact A o
     . simp[grow,putRow,mapBlock,Sort.ahead]
     . show w.drawn<=w.drawn+m;omega
     . intro j R T;rw[a j R,TK λe=>T<|by simp[ids,e]]
end Go.Ow
namespace Go.Ow
def insO{α:Type}(l:List α)(i:Int)(v:List α):Option (List α):=match v with
 |[x]=>if 0<=i/\i<=(l.length:Int)/\l.length+1<=LIM then some (l.take i.toNat++x::l.drop i.toNat)else none
 |_=>none
noncomputable def putI (x:Int) (l:List Int):List Int:=List.rec [x] (λy r i=>cond (decide (x<=y)) (x::y::r) (y::i)) l
noncomputable def ZCL (l:List Int):List Int:=List.rec [] (λx _ i=>putI x i) l
theorem ZIt (x:Int)(l:List Int):List.Perm (putI x l) (x::l):=by
  induction l with
  |nil=>exact Sk _
  | cons y r i=>
    show List.Perm (cond (decide (x<=y)) (x::y::r) (y::putI x r)) _;cases decide (x<=y)
    . exact(List.Perm.cons y i).trans<|List.Perm.swap x y r
    . exact Sk _
theorem ZLb (l:List Int):List.Perm (ZCL l) l:=by
 induction l with
 |nil=>exact Sk _
 |cons x r i=>exact(ZIt x _).trans<|List.Perm.cons x i
theorem ZEq (x:Int):∀{l:List Int},l.Pairwise (· <= ·)->(putI x l).Pairwise (· <= ·)
  |[],_=>List.pairwise_singleton _ _
  | y ::r,h=>by
    show List.Pairwise _ (cond (decide (x<=y)) (x::y::r) (y::putI x r));obtain⟨h1,h2⟩:=List.pairwise_cons.1 h;cases b:decide (x<=y)with
    | true=>
      have b:=TO b;exact List.pairwise_cons.2 ⟨λz a=>by
        rcases Ta.1 a with rfl|a
        . exact b
        . exact Int.le_trans b<|h1 z a,h⟩
    | false=>
      have b:=of_decide_eq_false b;exact List.pairwise_cons.2 ⟨λz a=>by
        rcases Ta.1 ((ZIt x r).mem_iff.1 a)with rfl|a
        . omega
        . exact h1 z a,ZEq x h2⟩
theorem ZIY (l:List Int):(ZCL l).Pairwise (· <= ·):=by
 induction l with
 |nil=>exact List.Pairwise.nil
 |cons x r i=>exact ZEq x i
theorem ZKo (l:List Int):sortI l=ZCL l:=
 List.Perm.eq_of_pairwise (le:=(· <= ·)) (λa b _ _ h1 h2=>Int.le_antisymm h1 h2) ((List.pairwise_mergeSort (le:=λx y:Int=>decide (x<=y)) (λa b c h1 h2=>by simp at*;omega) (λa b=>by simp;omega) l).imp λh=>by simpa using h) (ZIY l) ((List.mergeSort_perm l _).trans (ZLb l).symm)
noncomputable def ZJa (l:List Int):Option (List Int):=if l.length<=LIM then some (ZCL l)else none
noncomputable section
def pcL{σ τ:Type}(q:Int->Int->Option (List UInt8×Int))(f:List (List UInt8)->Option (List UInt8))(g:List UInt8->Option (List UInt8))(p:(List UInt8)->σ->Option (σ ⊕ τ))(d:List UInt8)(e:List UInt8)(s:σ×Int):Option ((σ×Int) ⊕ τ):=
 Option.bind (q s.2 4) λx=>Option.bind (f ([d,e,x.1])) λa=>Option.bind (g a) λb=>Option.bind (p b s.1) λo=>Sum.elim (λc=>some<|.inl (c,w64 (s.2+1))) (λt=>some<|.inr t) o
def pcP{σ τ:Type}(q:Int->Int->Option (List UInt8×Int))(d:List (List UInt8)->Option (List UInt8))(e:List UInt8->Option (List UInt8))(p:(List UInt8)->σ->Option (σ ⊕ τ))(a:σ)(b:List UInt8)(c:List UInt8):Option (σ ⊕ τ):=
 Option.bind (loop (pcL q d e p b c) (a,0)) λt=>some<|.inr (t)
def rwL (a:Ptr->Option (List UInt8×Int))(p:List Ptr)(s:List UInt8×Nat):Option ((List UInt8×Nat) ⊕ ((List UInt8) ⊕ Int)):=
 cond (decide<|((s.2:Nat):Int)<(p.length:Int)) (idx p ((s.2:Nat):Int) λy=>Option.bind (a y) λx=>cond (!decide (x.2=0)) (some<|.inr<|.inr x.2)<|appN 256 s.1 x.1 λq=>some<|.inl (q,s.2+1)) (some<|.inr<|.inl s.1)
def rwP (q:Ptr->Option (List UInt8×Int))(p:List Ptr):Option (List UInt8×Int):=
 cond (decide<|16<(p.length:Int)) (some (([]:List UInt8),4)) (Option.bind (loop (rwL q p) (([]:List UInt8),0)) λb=>Sum.elim (λt=>extO 256 t 256 λm=>some (m,0)) (λa=>some (([]:List UInt8),a)) b)
end
def incM (B:List Int)(M:List (Int×Unit)):List (Int×Int):=M.map λp=>(p.1,w64<|B.getD p.1.toNat 0+1)
variable{α σ ρ τ:Type}
def ZJ6 (st:ρ->σ):ρ ⊕ τ->Option (σ ⊕ τ)
 | .inl r=>some (.inl<|st r)
 | .inr t=>some<|.inr t
def ends (f:ρ->τ):ρ ⊕ τ->Option τ
 | .inl r=>some (f r)
 | .inr t=>some t
theorem ZEH (l:List α)(st:Nat->ρ->σ){body:σ->Option (σ ⊕ τ)}(f:α->ρ->Option (ρ ⊕ τ))(a:ρ->τ)(I:Nat->ρ->Prop)
    (step:∀i (h:i<l.length) r,I i r->body (st i r)=Option.bind (f l[i] r) (ZJ6<|st (i+1)))(e:∀i (h:i<l.length) r c,I i r->f l[i] r=some (.inl c)->I (i+1) c)
    (s:∀r,I l.length r->body (st l.length r)=some (.inr<|a r))(j:l.length<FUEL){d:ρ}(h0:I 0 d):
    loop body (st 0 d)=Option.bind (forL f l d) (ends a):=by
  have g:∀(k i:Nat) (r:ρ) (n:Nat),i+k=l.length->k<n->I i r->run body n (st i r)=Option.bind (forL f (l.drop i) r) (ends a):=by
    intro k;induction k with
    | zero=>
      intro i r n hi hn hI;obtain rfl:i=l.length:=(by omega);obtain⟨n,rfl⟩:∃m,n=m+1:=⟨n-1,by omega⟩;show Option.bind (body<|st l.length r) _=_;rw[s r hI,List.drop_length];rfl
    | succ k p=>
      intro i r n hi hn hI;have b:i<l.length:=(by omega);obtain⟨n,rfl⟩:∃m,n=m+1:=⟨n-1,by omega⟩;show Option.bind (body<|st i r) _=_;rw[step i b r hI,Ss b];show _=Option.bind (Option.bind (f l[i] r) _) _;cases q:f l[i] r with
      |none=>rfl
      | some o=>
        cases o with
        |inl c=>exact p (i+1) c n (by omega) (by omega) (e i b r c hI q)
        |inr t=>rfl
  have:=g l.length 0 d FUEL (by omega) j h0;simpa[loop]using this
theorem ZB7 (l:List α)(st:Nat->ρ->σ){body:σ->Option (σ ⊕ τ)}(f:α->ρ->Option (ρ ⊕ τ))(a:ρ->τ)
 (step:∀i (h:i<l.length) r,body (st i r)=Option.bind (f l[i] r) (ZJ6<|st (i+1)))(s:∀r,body (st l.length r)=some (.inr<|a r))(c:l.length<FUEL)(b:ρ):
 loop body (st 0 b)=Option.bind (forL f l b) (ends a):=
 ZEH l st f a (λ_ _=>True) (λi h r _=>step i h r) (λ_ _ _ _ _ _=>trivial) (λr _=>s r) c trivial
theorem GV (g:ρ->α->ρ):∀(l:List α) (r:ρ),forL (λy r=>some (.inl (g r y):ρ ⊕ τ)) l r=some (.inl<|l.foldl g r)
 |[],r=>rfl
 |y::l,r=>by rw[ZOc (s':=g r y) rfl,GV g l];rfl
theorem cI{n m:Nat}{c:Type}{a b:c}:(bif decide ((n:Int)<(m:Int))then a else b)=if n<m then a else b:=by
 by_cases h:n<m
 . rw[TJ h,Rk<|by omega];rfl
 . rw[TK h,decide_eq_false<|by omega];rfl
noncomputable section
def Wk (e:Disk)(b:Int)(p:Int)(a:UInt8):Option (Disk×Disk×Int×Int×UInt8):=
 Option.bind (XD e) λx=>idx x.Blocks b λy=>idx y p λc=>chk (0<=p/\p.toNat<y.length)<|setI y p (c^^^a) λd=>setI x.Blocks b d λm=>some (Disk.mk m x.Waits,Disk.mk m x.Waits,b,p,a)
def QN (e:Disk)(f:Bool)(d:Disk)(p:Int)(a:Int)(b:UInt8):Option (Disk×Int×Disk×Int×Int×UInt8):=
 Option.bind (Gu e) λc=>cond (!decide (c=0)) (some (Disk.mk ([]:List (List UInt8)) ([]:List Write),c,d,p,a,b))<|cond (!f) (some (Disk.mk ([]:List (List UInt8)) ([]:List Write),2,d,p,a,b))<|Option.bind (Wk d p a b) λx=>some (x.1,0,x.2.1,x.2.2.1,x.2.2.2.1,x.2.2.2.2)
def XP (p:Disk)(b:Int)(c:Int)(d:UInt8):Option (Disk×Int):=
 Option.bind (Option.bind (Ku b) λe=>cond e (Option.bind (Ku c) λf=>Option.bind (QN p f p b c d) λx=>some (x.1,x.2.1))<|Option.bind (QN p false p b c d) λa=>some (a.1,a.2.1)) λt=>some (t.1,t.2)
def UT (p:Pool)(s:List Int×Nat):Option ((List Int×Nat) ⊕ (List Int)):=
 cond (decide<|((s.2:Nat):Int)<(p.Changes.length:Int)) (idx p.Changes ((s.2:Nat):Int) λy=>cond (!(decide (y.Laid.At=0)&&(decide (y.Laid.Birth=(0:UInt32))&&(decide (y.Laid.Iv=(0:UInt32))&&(decide (y.Laid.Tag=(0:UInt32))&&(decide (y.Laid.Sum=(0:UInt32))&&true)))))) (idx s.1 y.Laid.At λa=>chk (0<=y.Laid.At/\y.Laid.At.toNat<s.1.length)<|setI s.1 y.Laid.At (w64 (a+1)) λm=>some<|.inl (m,s.2+1))<|some<|.inl (s.1,s.2+1)) (some<|.inr s.1)
def UV (x:List Ptr×Int)(s:(List (Int×Unit))×Nat):Option (((List (Int×Unit))×Nat) ⊕ (List (Int×Unit))):=
 cond (decide<|((s.2:Nat):Int)<(x.1.length:Int)) (idx x.1 ((s.2:Nat):Int) λy=>some<|.inl ((putM s.1 y.At ()),s.2+1)) (some<|.inr s.1)
def UU (q:Store->Ptr->UInt32->Option (List Ptr×Int))(p:Pool)(s:List Int×Nat):Option ((List Int×Nat) ⊕ ((List Int) ⊕ Int)):=
 cond (decide<|((s.2:Nat):Int)<(p.Lines.length:Int)) (idx p.Lines ((s.2:Nat):Int) λy=>Option.bind (q (Store.mk (Disk.mk p.Store.Disk.Blocks p.Store.Disk.Waits) p.Store.Space p.Store.Epoch p.Store.Count) (Ptr.mk y.Root.At y.Root.Birth y.Root.Iv y.Root.Tag y.Root.Sum) (0:UInt32)) λx=>cond (!decide (x.2=0)) (some<|.inr<|.inr x.2)<|Option.bind (loop (UV x) (([]:List (Int×Unit)),0)) λt=>layR id s.1 (incM s.1 t) λm=>some<|.inl (m,s.2+1)) (some<|.inr<|.inl s.1)
def UW (p:Pool)(s:List Int×Nat):Option ((List Int×Nat) ⊕ (List Int)):=
 cond (decide<|((s.2:Nat):Int)<(p.MetaL.length:Int)) (idx p.MetaL ((s.2:Nat):Int) λy=>idx s.1 y λa=>chk (0<=y/\y.toNat<s.1.length)<|setI s.1 y (w64 (a+1)) λm=>some<|.inl (m,s.2+1)) (some<|.inr s.1)
def UX (s:List Int×Nat):Option ((List Int×Nat) ⊕ (List Int)):=
 cond (decide<|((s.2:Nat):Int)<12) (chk (0<=((s.2:Nat):Int)/\((s.2:Nat):Int).toNat<s.1.length)<|setI s.1 ((s.2:Nat):Int) 1 λm=>some<|.inl (m,s.2+1)) (some<|.inr s.1)
def KC (q:Pool->Option Int)(a:Store->Ptr->UInt32->Option (List Ptr×Int))(p:Pool):Option (List Int×Int):=
 Option.bind (q p) λx=>cond (!decide (x=0)) (some (([]:List Int),x))<|mks 256 0 λc=>Option.bind (loop UX (c,0)) λd=>Option.bind (loop (UW p) (d,0)) λe=>Option.bind (loop ((UU a) p) (e,0)) λf=>Sum.elim (λt=>Option.bind (loop (UT p) (t,0)) λg=>some (g,0)) (λb=>some (([]:List Int),b)) f
def Wy (r:Ptr->Int->Pool->(List (Int×Unit))->Option (List (Int×Unit)))(p:Pool)(t:(Int×List Ptr×Int))(s:(List (Int×Unit))×Nat):Option (((List (Int×Unit))×Nat) ⊕ (List (Int×Unit))):=
 cond (decide<|((s.2:Nat):Int)<(t.2.1.length:Int)) (idx t.2.1 ((s.2:Nat):Int) λy=>Option.bind (r y t.2.2 p s.1) λx=>some<|.inl (x,s.2+1)) (some<|.inr s.1)
def KM (q:Store->Ptr->Option (List UInt8×Int))(a:(List UInt8)->Option (List Ptr×Int))(b:(List UInt8)->Option (Object×Int))(r:Ptr->Int->Pool->(List (Int×Unit))->Option (List (Int×Unit)))(p:Ptr)(g:Int)(c:Pool)(d:List (Int×Unit)):Option (List (Int×Unit)):=
 cond (decide (p.At=0)&&(decide (p.Birth=(0:UInt32))&&(decide (p.Iv=(0:UInt32))&&(decide (p.Tag=(0:UInt32))&&(decide (p.Sum=(0:UInt32))&&true))))) (some d) (Option.bind (q (Store.mk (Disk.mk c.Store.Disk.Blocks c.Store.Disk.Waits) c.Store.Space c.Store.Epoch c.Store.Count) p) λx=>Option.bind (cond (!decide (x.2=0)) (some (x.2,([]:List Ptr),0))<|cond (decide (g=1)) (Option.bind (a x.1) λe=>some (e.2,e.1,2))<|cond (decide (g=2)) (Option.bind (b x.1) λf=>some (f.2,f.1.Data,0))<|some (x.2,([]:List Ptr),0)) λt=>cond (!decide (t.1=0)) (some<|putM d p.At ())<|Option.bind (loop (Wy r c t) (d,0)) λh=>some h)
def Yt (q:Store->Ptr->Option (List UInt8×Int))(a:(List UInt8)->Option (List Ptr×Int))(b:(List UInt8)->Option (Object×Int)):Nat->Ptr->Int->Pool->(List (Int×Unit))->Option (List (Int×Unit))
 |0,_,_,_,_=>none
 |n+1,c,d,e,p=>(KM q a b) ((Yt q a b) n) c d e p
def Qi (q:Store->Ptr->Option (List UInt8×Int))(a:(List UInt8)->Option (List Ptr×Int))(b:(List UInt8)->Option (Object×Int))(c:Ptr)(d:Int)(e:Pool)(p:List (Int×Unit)):Option (List (Int×Unit)):=(Yt q a b) FUEL c d e p
def JE (q:Store->Ptr->Option (List UInt8×Int))(a:(List UInt8)->Option (List Ptr×Int))(b:(List UInt8)->Option (Object×Int))(p:Pool)(s:(List (Int×Unit))×Nat):Option (((List (Int×Unit))×Nat) ⊕ (List (Int×Unit))):=
 cond (decide<|((s.2:Nat):Int)<(p.Changes.length:Int)) (idx p.Changes ((s.2:Nat):Int) λy=>Option.bind ((Qi q a b) (Ptr.mk y.Laid.At y.Laid.Birth y.Laid.Iv y.Laid.Tag y.Laid.Sum) 0 p s.1) λx=>some<|.inl (x,s.2+1)) (some<|.inr s.1)
def JF (q:Store->Ptr->Option (List UInt8×Int))(a:(List UInt8)->Option (List Ptr×Int))(b:(List UInt8)->Option (Object×Int))(p:Pool)(s:(List (Int×Unit))×Nat):Option (((List (Int×Unit))×Nat) ⊕ (List (Int×Unit))):=
 cond (decide<|((s.2:Nat):Int)<(p.Lines.length:Int)) (idx p.Lines ((s.2:Nat):Int) λy=>Option.bind ((Qi q a b) (Ptr.mk y.Root.At y.Root.Birth y.Root.Iv y.Root.Tag y.Root.Sum) 1 p s.1) λx=>some<|.inl (x,s.2+1)) (some<|.inr s.1)
def Kr (c:Pool->Option Int)(q:Store->Ptr->Option (List UInt8×Int))(a:(List UInt8)->Option (List Ptr×Int))(b:(List UInt8)->Option (Object×Int))(p:Pool):Option (List Int×Int):=
 Option.bind (c p) λx=>cond (!decide (x=0)) (some (([]:List Int),x))<|Option.bind ((Qi q a b) (Ptr.mk p.Root.At p.Root.Birth p.Root.Iv p.Root.Tag p.Root.Sum) 0 p ([]:List (Int×Unit))) λd=>Option.bind (loop ((JF q a b) p) (d,0)) λe=>Option.bind (loop ((JE q a b) p) (e,0)) λt=>chk (t.length<=LIM)<|some ((ZCL<|t.map (·.1)),0)
def Gt (p:Store)(a:Ptr)(b:UInt32)(c:Int):Option ((Int×UInt32×UInt32×UInt32×UInt32×UInt32×List (List UInt8)×List Write×List UInt8×UInt32×UInt32)×Int):=
 some ((a.At,a.Birth,a.Iv,a.Tag,a.Sum,b,p.Disk.Blocks,p.Disk.Waits,p.Space,p.Epoch,p.Count),c)
def U9{σ τ:Type}(p:Ptr->σ->Option (σ ⊕ τ))(b:UInt32)(x:Object×Int)(s:σ×Nat):Option ((σ×Nat) ⊕ (σ ⊕ τ)):=
 cond (decide<|((s.2:Nat):Int)<(x.1.Data.length:Int)) (idx x.1.Data ((s.2:Nat):Int) λy=>cond (decide (b<y.Birth)) (Option.bind (p y s.1) λo=>Sum.elim (λa=>some<|.inl (a,s.2+1)) (λt=>some<|.inr<|.inr t) o)<|some<|.inl ((s.1),s.2+1)) (some<|.inr<|.inl (s.1))
def U8{σ τ:Type}(q:Store->Ptr->Option (Object×Int))(p:Ptr->σ->Option (σ ⊕ τ))(c:UInt32)(g:Store)(a:List Ptr×Int)(s:σ×Int×Nat):Option ((σ×Int×Nat) ⊕ ((σ×Int) ⊕ ((σ ⊕ τ)×Int))):=
 cond (decide<|((s.2.2:Nat):Int)<(a.1.length:Int)) (idx a.1 ((s.2.2:Nat):Int) λy=>cond (decide (y.Birth<=c)) (some<|.inl ((s.1),s.2.1,s.2.2+1))<|Option.bind (q g y) λx=>cond (!decide (x.2=0)) (some<|.inr<|.inr (.inl (s.1),x.2))<|Option.bind (p y s.1) λo=>Sum.elim (λd=>Option.bind (loop (U9 p c x) (d,0)) λe=>Sum.elim (λt=>some<|.inl ((t),x.2,s.2.2+1)) (λb=>some<|.inr<|.inr (.inr (b),x.2)) e) (λf=>some<|.inr<|.inr (.inr f,x.2)) o) (some<|.inr<|.inl ((s.1),s.2.1))
def US{σ τ:Type}(q:Store->Ptr->Option (List Ptr×Int))(a:Store->Ptr->Option (Object×Int))(d:Ptr->σ->Option (σ ⊕ τ))(p:σ)(c:Ptr)(e:UInt32)(f:Store)(g:Int):Option ((σ ⊕ τ)×Int):=
 cond (decide (c.Birth<=e)) (some (.inl p,g)) (Option.bind (q f c) λx=>cond (!decide (x.2=0)) (some (.inl p,x.2))<|Option.bind (d c p) λo=>Sum.elim (λs=>Option.bind (loop ((U8 a) d e f x) (s,x.2,0)) λh=>Sum.elim (λt=>some (.inl (t.1),t.2)) (λb=>some (b.1,b.2)) h) (λi=>some (.inr i,x.2)) o)
def YL (y:Ptr)(s:List Ptr):Option ((List Ptr) ⊕ Unit):=
 app s ([y]) λq=>some<|.inl q
def XW (q:Store->Ptr->Option (List Ptr×Int))(a:Store->Ptr->Option (Object×Int))(e:List Ptr)(p:Ptr)(b:UInt32)(c:Store)(d:Int):Option (List Ptr×Ptr×UInt32×Store×Int):=
 Option.bind ((US q a) YL e p b c d) λt=>Sum.elim (λs=>some (s,p,b,c,t.2)) (λ_=>none) t.1
def QG (q:Store->Ptr->Option (List Ptr×Int))(a:Store->Ptr->Option (Object×Int))(b:Ptr)(c:UInt32)(d:Store)(p:Int):Option (List Ptr×Ptr×UInt32×Store×Int):=
 Option.bind ((XW q a) ([]:List Ptr) b c d p) λx=>some (x.1,x.2.1,x.2.2.1,x.2.2.2.1,x.2.2.2.2)
def JD (q:Store->Option Int)(a:Ptr->Option Int)(b:Store->Ptr->Option (List Ptr×Int))(c:Store->Ptr->Option (Object×Int))(p:Store)(e:Ptr)(g:UInt32):Option (List Ptr×Int):=
 Option.bind (q p) λh=>cond (!decide (h=0)) (some (([]:List Ptr),8))<|Option.bind (a e) λf=>cond (!decide (f=0)) (some (([]:List Ptr),8))<|Option.bind (Gt p e g 0) λx=>Option.bind ((QG b c) (Ptr.mk x.1.1 x.1.2.1 x.1.2.2.1 x.1.2.2.2.1 x.1.2.2.2.2.1) x.1.2.2.2.2.2.1 (Store.mk (Disk.mk x.1.2.2.2.2.2.2.1 x.1.2.2.2.2.2.2.2.1) x.1.2.2.2.2.2.2.2.2.1 x.1.2.2.2.2.2.2.2.2.2.1 x.1.2.2.2.2.2.2.2.2.2.2) x.2) λd=>cond (!decide (d.2.2.2.2=0)) (some (([]:List Ptr),d.2.2.2.2))<|some (d.1,0)
end
open Go.Pv (agree nilq Y4 backR)
set_option maxRecDepth 20000
noncomputable section
def lenLe{α:Type}(l:List α):Nat->Bool:=List.rec (λ_=>true) (λ_ _ i n=>Nat.rec false (λm _=>i m) n) l
def lenEq{α:Type}(l:List α):Nat->Bool:=List.rec (λn=>Nat.beq n 0) (λ_ _ i n=>Nat.rec false (λm _=>i m) n) l
def allQ{α:Type}(p:α->Bool)(l:List α):Bool:=List.rec true (λa _ i=>Bool.rec false i (p a)) l
def midQ (d:Disk):Bool:=Bool.and (Bool.and (lenLe d.Blocks 1000)<|allQ (λb=>lenLe b 1000) d.Blocks)<|Bool.and (lenLe d.Waits 5000)<|allQ (λw=>lenLe w.Data 1000) d.Waits
def twinF (d:Disk):Option Disk:=cond (midQ d) (some d)<|XD d
def okdQ (d:Disk):Bool:=Bool.and (Bool.and (lenEq d.Blocks 256)<|allQ (λb=>lenEq b 256) d.Blocks)<|Bool.and (lenLe d.Waits 4096)<|allQ (λw=>Bool.and (decide (0<=w.At/\w.At<256))<|lenEq w.Data 256) d.Waits
def layF (bs:List (List UInt8))(ws:List Write):List (List UInt8):=List.rec (λbs=>bs) (λw _ i bs=>i (bs.set w.At.toNat w.Data)) ws bs
def leftF (d:Disk):Option Disk:=cond (okdQ d) (some ⟨layF d.Blocks d.Waits,[]⟩)<|QY d
def cmpP (x y:Ptr):Int:=if x.At<y.At then -1 else if y.At<x.At then 1 else 0
def ZMU (l:List Ptr):Option (List Ptr):=if l.length<=LIM then some (sortL cmpP l)else none
def ZIi:Option (List UInt8):=(X5 [(1:UInt8)] 12).bind λx=>mks 244 (0:UInt8) λm=>app x m λa=>some a
def VW:Option Store:=(UY).bind λx=>(ZIi).bind λa=>some<|Store.mk x a 1 0
def ZCp:Option Pool:=(VW).bind λx=>mks 8 [] λm=>mks 8 [] λa=>some<|Pool.mk x 0 (Ptr.mk 0 0 0 0 0) [] [] m a [] 0 1 1
def Y8 (a:Int):Option Bool:=some<|decide<|u64i a<256
def W9 (a:Disk)(x:Bool×Nat):Option ((Bool×Nat) ⊕ Bool):=cond (decide<|(x.2:Int)<(a.Blocks.length:Int)) (idx a.Blocks (x.2:Int) λy=>cond x.1 (some<|.inl (decide<|(y.length:Int)=256,x.2+1))<|some<|.inl (false,x.2+1))<|some<|.inr x.1
def W8 (a:Disk)(x:Bool×Nat):Option ((Bool×Nat) ⊕ Bool):=cond (decide<|(x.2:Int)<(a.Waits.length:Int)) (idx a.Waits (x.2:Int) λy=>cond x.1 ((Y8 y.At).bind λb=>cond b (some<|.inl (decide<|(y.Data.length:Int)=256,x.2+1))<|some<|.inl (false,x.2+1))<|some<|.inl (false,x.2+1))<|some<|.inr x.1
def WS (a:Disk):Option Int:=Option.bind (α:=Bool) (cond (decide<|(a.Blocks.length:Int)=256) (some<|decide<|(a.Waits.length:Int)<=4096)<|some false)<|λx=>(loop (W9 a) (x,0)).bind λb=>(loop (W8 a) (b,0)).bind λc=>cond c (some 0)<|some 8
def Vl (a:Disk):Option Int:=cond (okdQ a) (some 0)<|WS a
def ZBs (a:List UInt8)(x:UInt8×Nat):Option ((UInt8×Nat) ⊕ UInt8):=cond (decide<|(x.2:Int)<(a.length:Int)) (idx a (x.2:Int) λy=>some<|.inl (maxB x.1 y,x.2+1))<|some<|.inr x.1
def BY (a:List UInt8):Option UInt8:=cond (decide<|(a.length:Int)<1) (none)<|idx a 0 λy=>(loop (ZBs a) (y,1)).bind λx=>some x
def Bs (a:List UInt8)(b:UInt8):Option Int:=some<|Lib.indexByte a b
def ZAH (a:List UInt8)(b:List UInt8):Option Bool:=some<|decide (a=b)
def ZAG (a:List UInt8)(b:List UInt8):Option Int:=cond (decide<|(b.length:Int)=0) (some 0)<|cond (decide<|(b.length:Int)=1) (idx b 0 λy=>(Bs a y).bind λx=>some x)<|cond (decide<|(b.length:Int)=(a.length:Int)) ((ZAH b a).bind λc=>cond c (some 0)<|some (-1))<|cond (decide<|(a.length:Int)<(b.length:Int)) (some (-1)) (none)
def ZHu (b:List UInt8)(x:List UInt8×Int):Option ((List UInt8×Int) ⊕ Int):=(ZAG x.1 b).bind λa=>cond (decide<|a=(-1)) (some<|.inr x.2)<|slc x.1 (w64<|a+(b.length:Int)) (x.1.length:Int) λm=>some<|.inl (m,w64 (x.2+1))
def ZAI (a:List UInt8)(b:List UInt8):Option Int:=cond (decide<|(b.length:Int)=0) (none)<|cond (decide<|(b.length:Int)=1) (idx b 0 λy=>some (cntB a y:Int))<|(loop (ZHu b) (a,0)).bind λx=>some x
def V8 (a:List UInt8):Option Int:=Option.bind (α:=Bool) (cond (!(decide<|(a.length:Int)=256)) (some true)<|(BY a).bind λx=>cond (decide (2<x)) (some true)<|slc a 0 12 λm=>(ZAI m [(1:UInt8)]).bind λb=>some<|!(decide (b=12)))<|λc=>cond c (some 8)<|some 0
def XB (a:Store):Option Int:=Option.bind (α:=Bool) ((Vl a.Disk).bind λx=>cond (!(decide (x=0))) (some true)<|(V8 a.Space).bind λb=>cond (!(decide (b=0))) (some true)<|cond (decide (a.Epoch<1)) (some true)<|cond (decide (65535<a.Epoch)) (some true)<|some<|decide (65535<a.Count))<|λc=>cond c (some 8)<|some 0
def YP (a:Ptr):Option Int:=cond (decide (a.At=0)&&(decide (a.Birth=0)&&(decide (a.Iv=0)&&(decide (a.Tag=0)&&(decide (a.Sum=0)&&true))))) (some 0)<|Option.bind (α:=Bool) (cond (decide (a.At<12)) (some true)<|cond (decide (256<=a.At)) (some true)<|cond (decide (a.Birth<1)) (some true)<|some<|decide (16777215<a.Birth))<|λx=>cond x (some 8)<|some 0
def V0 (a:Int):Option Bool:=some<|!(decide (a=a))
def Zs (a:Int)(b:Int):Option Int:=(V0 a).bind λc=>(V0 b).bind λx=>cond c (cond x (some 0)<|some (-1))<|cond x (some 1)<|cond (decide (a<b)) (some (-1))<|cond (decide (b<a)) (some 1)<|some 0
def Uh (a:Ptr)(b:Ptr):Option Int:=(Zs a.At b.At).bind λx=>some x
def ZId (a:List Ptr)(x:Nat):Option (Nat ⊕ (Unit ⊕ Unit)):=cond (decide<|(x:Int)<(a.length:Int)) (idx a (x:Int) λy=>Option.bind (α:=Bool) (cond (decide (y.At=0)&&(decide (y.Birth=0)&&(decide (y.Iv=0)&&(decide (y.Tag=0)&&(decide (y.Sum=0)&&true))))) (some true)<|(YP y).bind λb=>cond (!(decide (b=0))) (some true)<|cond (decide<|0<(x:Int)) (idx a (w64<|(x:Int)-1) λc=>(Uh c y).bind λd=>some<|decide (0<=d))<|some false)<|λe=>cond e (some<|.inr<|.inl ())<|some<|.inl (x+1))<|some<|.inr<|.inr ()
def Ui (a:List Ptr):Option Int:=cond (decide<|240<(a.length:Int)) (some 8)<|Option.bind (loop (ZId a) 0)<|Sum.elim (λx=>some 8) λb=>some 0
def UL (a:Line)(b:Int):Option Int:=(Zs a.Id b).bind λx=>some x
def QR (a:List Line)(b:Int)(x:Int×Int):Option ((Int×Int) ⊕ Int):=cond (decide (x.1<x.2)) (chk (0<=(1:Int))<|idx a (w64 ((sr64 (u64i<|w64 (x.1+x.2)) 1).toNat:Int)) λy=>(UL y b).bind λc=>cond (decide (c<0)) (some<|.inl (w64<|(w64 ((sr64 (u64i<|w64 (x.1+x.2)) 1).toNat:Int))+1,x.2))<|some<|.inl (x.1,w64 ((sr64 (u64i<|w64 (x.1+x.2)) 1).toNat:Int)))<|some<|.inr x.1
def Yf (a:List Line)(b:Int):Option (Int×Bool):=(loop (QR a b) (0,(a.length:Int))).bind λx=>cond (decide<|x<(a.length:Int)) (idx a x λy=>(UL y b).bind λc=>some (x,decide (c=0)))<|some (x,false)
def ZCo (a:List Line)(b:Int):Option (Option Line):=(Yf a b).bind λx=>cond (!x.2) (some none)<|idx a x.1 λy=>some<|some y
def ZNN (a:List Line)(b:Line):Option Bool:=(ZCo a b.Owner).bind λc=>(ZCo a b.Prev).bind λx=>Option.bind (α:=Bool) (cond c.isNone (some true)<|Option.bind c λy=>cond (!(decide (y.Kind=1))) (some true)<|cond (decide (b.Kind=1)) (some<|!(decide (b.Owner=b.Id)))<|some false)<|λd=>cond d (some false)<|cond (decide (b.Prev=0)) (some true)<|Option.bind (α:=Bool) (cond x.isNone (some true)<|Option.bind x λe=>cond (!(decide (e.Kind=2))) (some true)<|Option.bind x λf=>some<|!(decide (f.Key=b.Key)))<|λg=>cond g (some false)<|Option.bind x λh=>cond (decide (h.Txg<b.Txg)) (some true)<|Option.bind x λi=>cond (decide (i.Txg=b.Txg)) (some<|decide (b.Kind=1))<|some false
def ZFb (a:List Line)(x:Nat):Option (Nat ⊕ (Unit ⊕ Unit)):=cond (decide<|(x:Int)<(a.length:Int)) (idx a (x:Int) λy=>Option.bind (α:=Bool) (cond (decide (y.Id<1)) (some true)<|cond (decide (255<y.Id)) (some true)<|cond (decide<|0<(x:Int)) (idx a (w64<|(x:Int)-1) λb=>cond (decide (y.Id<=b.Id)) (some true)<|cond (!(decide (y.Kind=1))) (some<|!(decide (y.Kind=2)))<|some false)<|cond (!(decide (y.Kind=1))) (some<|!(decide (y.Kind=2)))<|some false)<|λc=>cond c (some<|.inr<|.inl ())<|some<|.inl (x+1))<|some<|.inr<|.inr ()
def ZFa (a:List Line)(x:Nat):Option (Nat ⊕ (Unit ⊕ Unit)):=cond (decide<|(x:Int)<(a.length:Int)) (idx a (x:Int) λy=>Option.bind (α:=Bool) (cond (decide (16777215<y.Txg)) (some true)<|cond (decide (y.Key<0)) (some true)<|cond (decide (8<=y.Key)) (some true)<|(YP y.Root).bind λe=>cond (!(decide (e=0))) (some true)<|(Ui y.Dead).bind λb=>cond (!(decide (b=0))) (some true)<|(ZNN a y).bind λc=>some (!c))<|λd=>cond d (some<|.inr<|.inl ())<|some<|.inl (x+1))<|some<|.inr<|.inr ()
def ZCn (a:List Line):Option Bool:=cond (decide<|16<(a.length:Int)) (some false)<|Option.bind (loop (ZFb a) 0)<|Sum.elim (λc=>some false) λd=>Option.bind (loop (ZFa a) 0)<|Sum.elim (λx=>some false) λb=>some true
def ZAv (a:List UInt8)(b:Int):Option (Bool×Int):=cond (decide<|0<(a.length:Int)) (cond (!(decide<|(a.length:Int)=b)) (some (true,b))<|cond (decide (b=24)) (mks b (0:UInt8) λm=>(ZAH a m).bind λx=>some (x,b))<|some (false,b))<|some (false,b)
def ZAj (a:List (List UInt8))(x:Int×Int):Option ((Int×Int) ⊕ ((Int×Int) ⊕ Int)):=cond (decide<|x.2<(a.length:Int)) (idx a x.2 λy=>(ZAv y x.1).bind λb=>cond b.1 (some<|.inr<|.inl (b.2,x.2))<|some<|.inl (b.2,w64 (x.2+1)))<|some<|.inr<|.inr x.1
def J9 (a:List (List UInt8))(b:Int):Option (Int×Int):=Option.bind (loop (ZAj a) (b,0))<|Sum.elim (λx=>some (x.2,x.1)) λc=>some ((-1),c)
def Wv (a:List (List UInt8))(b:Int):Option (Bool×Int):=(J9 a b).bind λx=>some (decide (0<=x.1),x.2)
def DB (a:List (List UInt8))(b:Int):Option Bool:=cond (decide<|(a.length:Int)=8) ((Wv a b).bind λx=>some (!x.1))<|some false
def ZAw (a:Change):Option Bool:=Option.bind (α:=Bool) (cond (decide (a.Kind=0)) (cond (decide (a.Links=0)) (some<|decide (a.Size=0))<|some false)<|some false)<|λx=>Option.bind (α:=Bool) (cond (decide (a.Obj<0)) (some true)<|cond (decide (16<=a.Obj)) (some true)<|cond (decide (a.Index<0)) (some true)<|some<|decide (15<a.Index))<|λb=>cond b (some false)<|cond (decide (a.Index=15)) (Option.bind (α:=Bool) (cond (decide (a.Kind<=7)) (cond (decide<|0<=min a.Links a.Size) (cond (decide (a.Links<=255)) (some<|decide (a.Size<=3840))<|some false)<|some false)<|some false)<|λc=>Option.bind (α:=Bool) (cond c (cond (decide<|(a.Data.length:Int)=0) (cond (decide (a.Laid.At=0)&&(decide (a.Laid.Birth=0)&&(decide (a.Laid.Iv=0)&&(decide (a.Laid.Tag=0)&&(decide (a.Laid.Sum=0)&&true))))) (cond (decide (0<a.Kind)) (some true)<|some x)<|some false)<|some false)<|some false)<|λd=>some d)<|cond x (cond (decide<|(a.Data.length:Int)=0) ((YP a.Laid).bind λe=>some<|decide (e=0))<|cond (decide<|(a.Data.length:Int)=256) ((YP a.Laid).bind λf=>some<|decide (f=0))<|some false)<|some false
def ZIe (a:List Int)(x:Nat):Option (Nat ⊕ (Int ⊕ Unit)):=cond (decide<|(x:Int)<(a.length:Int)) (idx a (x:Int) λy=>cond (!(decide (y=0))) (some<|.inr<|.inl y)<|some<|.inl (x+1))<|some<|.inr<|.inr ()
def ZCZ (a:List Int):Option Int:=Option.bind (loop (ZIe a) 0)<|Sum.elim (λx=>some x) λb=>some 0
def ZIf (a:Change)(b:Change):Option Int:=(Zs a.Set b.Set).bind λx=>(Zs a.Obj b.Obj).bind λc=>(Zs a.Index b.Index).bind λd=>(ZCZ [x,c,d]).bind λe=>some e
def ZEh (a:Line)(b:Pool):Option (Bool×Pool):=cond (decide (b.NextId<=a.Id)) (some (true,b))<|some (decide (b.NextGuid<=a.Guid),b)
def Wj (a:List Line)(x:Pool×Int):Option ((Pool×Int) ⊕ ((Pool×Int) ⊕ Pool)):=cond (decide<|x.2<(a.length:Int)) (idx a x.2 λy=>(ZEh y x.1).bind λb=>cond b.1 (some<|.inr<|.inl (b.2,x.2))<|some<|.inl (b.2,w64 (x.2+1)))<|some<|.inr<|.inr x.1
def Qp (a:List Line)(b:Pool):Option (Int×Pool):=Option.bind (loop (Wj a) (b,0))<|Sum.elim (λx=>some (x.2,x.1)) λc=>some ((-1),c)
def X4 (a:List Line)(b:Pool):Option (Bool×Pool):=(Qp a b).bind λx=>some (decide (0<=x.1),x.2)
def ZJY (a:Pool)(x:Nat):Option (Nat ⊕ (Unit ⊕ Unit)):=cond (decide<|(x:Int)<(a.MetaL.length:Int)) (idx a.MetaL (x:Int) λy=>Option.bind (α:=Bool) (cond (decide (y<12)) (some true)<|cond (decide (256<=y)) (some true)<|cond (decide<|0<(x:Int)) (idx a.MetaL (w64<|(x:Int)-1) λb=>cond (decide (y<=b)) (some true)<|idx a.Store.Space y λc=>some<|!(decide (c=1)))<|idx a.Store.Space y λd=>some<|!(decide (d=1)))<|λe=>cond e (some<|.inr<|.inl ())<|some<|.inl (x+1))<|some<|.inr<|.inr ()
def ZJX (a:Pool)(x:Nat):Option (Nat ⊕ (Unit ⊕ Unit)):=cond (decide<|(x:Int)<(a.Changes.length:Int)) (idx a.Changes (x:Int) λy=>(ZCo a.Lines y.Set).bind λb=>Option.bind (α:=Bool) (cond b.isNone (some true)<|Option.bind b λc=>cond (!(decide (c.Kind=1))) (some true)<|(ZAw y).bind λd=>cond (!d) (some true)<|cond (decide<|0<(x:Int)) (idx a.Changes (w64<|(x:Int)-1) λe=>(ZIf e y).bind λf=>some<|decide (0<=f))<|some false)<|λg=>cond g (some<|.inr<|.inl ())<|some<|.inl (x+1))<|some<|.inr<|.inr ()
def VV (a:Pool):Option Int:=Option.bind (α:=Bool) ((XB a.Store).bind λf=>cond (!(decide (f=0))) (some true)<|cond (decide (16777215<a.Gen)) (some true)<|(YP a.Root).bind λg=>cond (!(decide (g=0))) (some true)<|some<|!((decide (a.Root.At=0)&&(decide (a.Root.Birth=0)&&(decide (a.Root.Iv=0)&&(decide (a.Root.Tag=0)&&(decide (a.Root.Sum=0)&&true)))))==(decide (a.Gen=0))))<|λh=>cond h (some 8)<|Option.bind (loop (ZJY a) 0)<|Sum.elim (λi=>some 8) λj=>Option.bind (α:=Bool) ((ZCn a.Lines).bind λx=>cond (!x) (some true)<|(DB a.Keys 24).bind λb=>cond (!b) (some true)<|(DB a.Loaded 16).bind λc=>cond (!c) (some true)<|cond (decide (a.Logged<0)) (some true)<|cond (decide (8<a.Logged)) (some true)<|cond (decide (a.NextId<1)) (some true)<|some<|decide (256<a.NextId))<|λd=>cond d (some 8)<|Option.bind (loop (ZJX a) 0)<|Sum.elim (λk=>some 8) λl=>(X4 a.Lines a).bind λe=>cond e.1 (some 8)<|some 0
def YI (a:List UInt8):Option (List UInt8):=app [] a λm=>some m
def ZBq (a:Store):Option Store:=(twinF a.Disk).bind λx=>(YI a.Space).bind λb=>some<|Store.mk x b a.Epoch a.Count
def Va (a:List Int):Option (List Int):=app [] a λm=>some m
def QE (a:List Line):Option (List Line):=app [] a λm=>some m
def YE (a:List Change):Option (List Change):=app [] a λm=>some m
def XC (a:List Ptr):Option (List Ptr):=app [] a λm=>some m
def W4 (a:List (List UInt8)):Option (List<|List UInt8):=app [] a λm=>some m
def ZKm (c:List Line)(x:Disk×UInt32×UInt32×UInt32×Ptr×List Line×List (List UInt8)×List (List UInt8)×Int×Int×UInt32×Int):Option ((Disk×UInt32×UInt32×UInt32×Ptr×List Line×List (List UInt8)×List (List UInt8)×Int×Int×UInt32×Int) ⊕ (Disk×UInt32×UInt32×UInt32×Ptr×List Line×List (List UInt8)×List (List UInt8)×Int×Int×UInt32)):=cond (decide<|x.2.2.2.2.2.2.2.2.2.2.2<(c.length:Int)) (chk (0<=x.2.2.2.2.2.2.2.2.2.2.2/\x.2.2.2.2.2.2.2.2.2.2.2.toNat<x.2.2.2.2.2.1.length)<|idx x.2.2.2.2.2.1 x.2.2.2.2.2.2.2.2.2.2.2 λa=>(XC a.Dead).bind λb=>chk (0<=x.2.2.2.2.2.2.2.2.2.2.2/\x.2.2.2.2.2.2.2.2.2.2.2.toNat<x.2.2.2.2.2.1.length)<|idx x.2.2.2.2.2.1 x.2.2.2.2.2.2.2.2.2.2.2 λy=>setI x.2.2.2.2.2.1 x.2.2.2.2.2.2.2.2.2.2.2 (Line.mk y.Id y.Kind y.Owner y.Prev y.Txg y.Guid y.Key y.Root b) λm=>some<|.inl (x.1,x.2.1,x.2.2.1,x.2.2.2.1,x.2.2.2.2.1,m,x.2.2.2.2.2.2.1,x.2.2.2.2.2.2.2.1,x.2.2.2.2.2.2.2.2.1,x.2.2.2.2.2.2.2.2.2.1,x.2.2.2.2.2.2.2.2.2.2.1,w64 (x.2.2.2.2.2.2.2.2.2.2.2+1)))<|some<|.inr (x.1,x.2.1,x.2.2.1,x.2.2.2.1,x.2.2.2.2.1,x.2.2.2.2.2.1,x.2.2.2.2.2.2.1,x.2.2.2.2.2.2.2.1,x.2.2.2.2.2.2.2.2.1,x.2.2.2.2.2.2.2.2.2.1,x.2.2.2.2.2.2.2.2.2.2.1)
def ZKl (c:List Change)(x:Disk×UInt32×UInt32×UInt32×Ptr×List (List UInt8)×List (List UInt8)×List Change×Int×Int×UInt32×Int):Option ((Disk×UInt32×UInt32×UInt32×Ptr×List (List UInt8)×List (List UInt8)×List Change×Int×Int×UInt32×Int) ⊕ (Disk×UInt32×UInt32×UInt32×Ptr×List (List UInt8)×List (List UInt8)×List Change×Int×Int×UInt32)):=cond (decide<|x.2.2.2.2.2.2.2.2.2.2.2<(c.length:Int)) (chk (0<=x.2.2.2.2.2.2.2.2.2.2.2/\x.2.2.2.2.2.2.2.2.2.2.2.toNat<x.2.2.2.2.2.2.2.1.length)<|idx x.2.2.2.2.2.2.2.1 x.2.2.2.2.2.2.2.2.2.2.2 λa=>(YI a.Data).bind λb=>chk (0<=x.2.2.2.2.2.2.2.2.2.2.2/\x.2.2.2.2.2.2.2.2.2.2.2.toNat<x.2.2.2.2.2.2.2.1.length)<|idx x.2.2.2.2.2.2.2.1 x.2.2.2.2.2.2.2.2.2.2.2 λy=>setI x.2.2.2.2.2.2.2.1 x.2.2.2.2.2.2.2.2.2.2.2 (Change.mk y.Set y.Obj y.Index y.Kind y.Links y.Size b y.Laid) λm=>some<|.inl (x.1,x.2.1,x.2.2.1,x.2.2.2.1,x.2.2.2.2.1,x.2.2.2.2.2.1,x.2.2.2.2.2.2.1,m,x.2.2.2.2.2.2.2.2.1,x.2.2.2.2.2.2.2.2.2.1,x.2.2.2.2.2.2.2.2.2.2.1,w64 (x.2.2.2.2.2.2.2.2.2.2.2+1)))<|some<|.inr (x.1,x.2.1,x.2.2.1,x.2.2.2.1,x.2.2.2.2.1,x.2.2.2.2.2.1,x.2.2.2.2.2.2.1,x.2.2.2.2.2.2.2.1,x.2.2.2.2.2.2.2.2.1,x.2.2.2.2.2.2.2.2.2.1,x.2.2.2.2.2.2.2.2.2.2.1)
def ZKk (a:List (List UInt8))(x:Disk×UInt32×UInt32×UInt32×Ptr×List (List UInt8)×Int×Int×UInt32×Int):Option ((Disk×UInt32×UInt32×UInt32×Ptr×List (List UInt8)×Int×Int×UInt32×Int) ⊕ (Disk×UInt32×UInt32×UInt32×Ptr×List (List UInt8)×Int×Int×UInt32)):=cond (decide<|x.2.2.2.2.2.2.2.2.2<(a.length:Int)) (chk (0<=x.2.2.2.2.2.2.2.2.2/\x.2.2.2.2.2.2.2.2.2.toNat<x.2.2.2.2.2.1.length)<|idx x.2.2.2.2.2.1 x.2.2.2.2.2.2.2.2.2 λy=>(YI y).bind λb=>chk (0<=x.2.2.2.2.2.2.2.2.2/\x.2.2.2.2.2.2.2.2.2.toNat<x.2.2.2.2.2.1.length)<|setI x.2.2.2.2.2.1 x.2.2.2.2.2.2.2.2.2 b λm=>some<|.inl (x.1,x.2.1,x.2.2.1,x.2.2.2.1,x.2.2.2.2.1,m,x.2.2.2.2.2.2.1,x.2.2.2.2.2.2.2.1,x.2.2.2.2.2.2.2.2.1,w64 (x.2.2.2.2.2.2.2.2.2+1)))<|some<|.inr (x.1,x.2.1,x.2.2.1,x.2.2.2.1,x.2.2.2.2.1,x.2.2.2.2.2.1,x.2.2.2.2.2.2.1,x.2.2.2.2.2.2.2.1,x.2.2.2.2.2.2.2.2.1)
def ZKj (a:List (List UInt8))(x:Disk×UInt32×UInt32×UInt32×Ptr×List (List UInt8)×Int×Int×UInt32×Int):Option ((Disk×UInt32×UInt32×UInt32×Ptr×List (List UInt8)×Int×Int×UInt32×Int) ⊕ (Disk×UInt32×UInt32×UInt32×Ptr×List (List UInt8)×Int×Int×UInt32)):=cond (decide<|x.2.2.2.2.2.2.2.2.2<(a.length:Int)) (chk (0<=x.2.2.2.2.2.2.2.2.2/\x.2.2.2.2.2.2.2.2.2.toNat<x.2.2.2.2.2.1.length)<|idx x.2.2.2.2.2.1 x.2.2.2.2.2.2.2.2.2 λy=>(YI y).bind λb=>chk (0<=x.2.2.2.2.2.2.2.2.2/\x.2.2.2.2.2.2.2.2.2.toNat<x.2.2.2.2.2.1.length)<|setI x.2.2.2.2.2.1 x.2.2.2.2.2.2.2.2.2 b λm=>some<|.inl (x.1,x.2.1,x.2.2.1,x.2.2.2.1,x.2.2.2.2.1,m,x.2.2.2.2.2.2.1,x.2.2.2.2.2.2.2.1,x.2.2.2.2.2.2.2.2.1,w64 (x.2.2.2.2.2.2.2.2.2+1)))<|some<|.inr (x.1,x.2.1,x.2.2.1,x.2.2.2.1,x.2.2.2.2.1,x.2.2.2.2.2.1,x.2.2.2.2.2.2.1,x.2.2.2.2.2.2.2.1,x.2.2.2.2.2.2.2.2.1)
def V6 (a:Pool):Option Pool:=(ZBq a.Store).bind λg=>(Va a.MetaL).bind λj=>(QE a.Lines).bind λh=>(YE a.Changes).bind λi=>(loop (ZKm h) (g.Disk,g.Epoch,g.Count,a.Gen,a.Root,h,a.Keys,a.Loaded,a.Logged,a.NextId,a.NextGuid,0)).bind λx=>(loop (ZKl i) (x.1,x.2.1,x.2.2.1,x.2.2.2.1,x.2.2.2.2.1,x.2.2.2.2.2.2.1,x.2.2.2.2.2.2.2.1,i,x.2.2.2.2.2.2.2.2.1,x.2.2.2.2.2.2.2.2.2.1,x.2.2.2.2.2.2.2.2.2.2,0)).bind λb=>(W4 b.2.2.2.2.2.1).bind λe=>(W4 b.2.2.2.2.2.2.1).bind λf=>(loop (ZKk e) (b.1,b.2.1,b.2.2.1,b.2.2.2.1,b.2.2.2.2.1,e,b.2.2.2.2.2.2.2.2.1,b.2.2.2.2.2.2.2.2.2.1,b.2.2.2.2.2.2.2.2.2.2,0)).bind λc=>(loop (ZKj f) (c.1,c.2.1,c.2.2.1,c.2.2.2.1,c.2.2.2.2.1,f,c.2.2.2.2.2.2.1,c.2.2.2.2.2.2.2.1,c.2.2.2.2.2.2.2.2,0)).bind λd=>some<|Pool.mk (Store.mk d.1 g.Space d.2.1 d.2.2.1) d.2.2.2.1 d.2.2.2.2.1 j x.2.2.2.2.2.1 c.2.2.2.2.2.1 d.2.2.2.2.2.1 b.2.2.2.2.2.2.2.1 d.2.2.2.2.2.2.1 d.2.2.2.2.2.2.2.1 d.2.2.2.2.2.2.2.2
def V5 (a:Change)(b:Int)(c:List Line):Option (Bool×List Line×Int):=idx c b λy=>some (!(decide (a.Set=y.Id)),c,b)
def Y2 (a:List Change)(x:Int×Int×List Line):Option ((Int×Int×List Line) ⊕ ((Int×Int×List Line) ⊕ (Int×List Line))):=cond (decide<|x.2.1<(a.length:Int)) (chk (0<=x.2.1/\x.2.1.toNat<a.length)<|idx a x.2.1 λy=>(V5 y x.1 x.2.2).bind λb=>cond b.1 (some<|.inr<|.inl (b.2.2,x.2.1,b.2.1))<|some<|.inl (b.2.2,w64 (x.2.1+1),b.2.1))<|some<|.inr<|.inr (x.1,x.2.2)
def Z1 (a:List Change)(b:Int)(c:List Line):Option (Int×List Change×List Line×Int):=Option.bind (loop (Y2 a) (b,0,c))<|Sum.elim (λx=>some (x.2.1,a,x.2.2,x.1)) λd=>some ((-1),a,d.2,d.1)
def XQ (x:Int×List Change×Int×Int×List Line):Option ((Int×List Change×Int×Int×List Line) ⊕ (Int×List Change×Int×List Line)):=cond (decide<|x.2.2.2.1<(x.2.1.length:Int)) (chk (0<=x.2.2.2.1/\x.2.2.2.1.toNat<x.2.1.length)<|idx x.2.1 x.2.2.2.1 λy=>(V5 y x.1 x.2.2.2.2).bind λa=>Option.bind (α:=(List Change×Int)) (cond (!a.1) (chk (0<=x.2.2.1/\x.2.2.1.toNat<x.2.1.length)<|setI x.2.1 x.2.2.1 y λm=>some (m,w64 (x.2.2.1+1)))<|some (x.2.1,x.2.2.1))<|λb=>some<|.inl (a.2.2,b.1,b.2,w64 (x.2.2.2.1+1),a.2.1))<|some<|.inr (x.1,x.2.1,x.2.2.1,x.2.2.2.2)
def Za (a:List Change)(b:Int)(c:List Line):Option (List Change×List Line×Int):=(Z1 a b c).bind λx=>cond (decide<|x.1=(-1)) (some (x.2.1,x.2.2.1,x.2.2.2))<|(loop (XQ) (x.2.2.2,x.2.1,x.1,w64 (x.1+1),x.2.2.1)).bind λd=>chk (0<=d.2.2.1/\d.2.2.1<=(d.2.1.length:Int))<|slc (clr d.2.1 d.2.2.1.toNat d.2.1.length<|Change.mk 0 0 0 0 0 0 []<|Ptr.mk 0 0 0 0 0) 0 d.2.2.1 λm=>some (m,d.2.2.2,d.1)
def ZHg (a:Disk):Option (Disk×Disk):=(leftF a).bind λx=>some (x,a)
def WR (a:Disk)(b:Bool)(c:Disk):Option (Disk×Int×Disk):=(Vl a).bind λx=>cond (!(decide (x=0))) (some (Disk.mk [] [],x,c))<|cond (!b) (some (Disk.mk [] [],2,c))<|(ZHg c).bind λd=>some (d.1,0,d.2)
def ZDW (a:Disk)(b:Int):Option (List UInt8×Int):=Option.bind (α:=(Disk×Int×Disk)) ((Y8 b).bind λd=>(WR a d a).bind λc=>some (c.2.2,c.2.1,c.1))<|λx=>cond (!(decide (x.2.1=0))) (some ([],x.2.1))<|idx x.2.2.Blocks b λy=>some (y,0)
def Z6 (a:List UInt8):Option (List UInt8):=app [] a λm=>some m
def Vb (a:List UInt8):Option (List UInt8):=chk ((a.length:Int)=(a.length:Int))<|slc a 0 (a.length:Int) λm=>some m
def QM (a:List UInt8)(b:Int):Option (List UInt8×Int):=cond (decide (b<1)) (none)<|some (a,b)
def ZCY (a:Int):Option Bool:=cond (decide (0<a)) (some<|decide (a<=4))<|some false
def WG (a:List UInt8):Option (List UInt8):=some a
def ZL4 (y:Int×UInt8)(x:Int):Option (Int ⊕ Unit):=some<|.inl<|w64<|(w64 (256*x))+(y.2.toNat:Int)
def VB (a:List UInt8)(b:Int)(c:Int):Option (Int×Int):=(ZCY c).bind λx=>Option.bind (α:=Bool) (cond (!x) (some true)<|Option.bind (α:=Bool) (cond (decide (b<0)) (some true)<|some<|decide<|(a.length:Int)<b)<|λd=>some d)<|λe=>cond e (some (0,2))<|cond (decide<|(a.length:Int)<w64 (b+c)) (some (0,8))<|slc a b (w64 (b+c)) λm=>(WG m).bind λf=>Option.bind (backR f (ZL4) 0)<|Sum.elim (λg=>some (g,0)) λ_=>none
def ZB5 (a:List UInt8):Option UInt32:=(VB a 0 4).bind λx=>some<|u32i x.1
def Xv (a:UInt32)(b:Int):Option UInt32:=chk (0<=(((u64i b)&&&(31:UInt64)).toNat:Int))<|chk (0<=(((32:UInt64)-((u64i b)&&&(31:UInt64))).toNat:Int))<|some ((sl32 a ((((u64i b)&&&(31:UInt64)).toNat:Int)).toNat) |||(sr32 a ((((32:UInt64)-((u64i b)&&&(31:UInt64))).toNat:Int)).toNat))
def KO (a:Int)(b:Int)(c:UInt32)(d:UInt32)(e:UInt32)(f:UInt32):Option (UInt32×UInt32×UInt32×UInt32):=(Xv (f^^^(c+d)) a).bind λx=>(Xv (d^^^(e+x)) b).bind λg=>some (c+d,g,e+x,x)
def GO (a:UInt32)(b:UInt32)(c:UInt32)(d:UInt32):Option (UInt32×UInt32×UInt32×UInt32):=(KO 15 11 a b c d).bind λx=>(KO 9 6 x.1 x.2.1 x.2.2.1 x.2.2.2).bind λe=>some (e.1,e.2.1,e.2.2.1,e.2.2.2)
def ZB4 (e:Int)(x:UInt32×UInt32×UInt32×UInt32×Int):Option ((UInt32×UInt32×UInt32×UInt32×Int) ⊕ (UInt32×UInt32×UInt32×UInt32)):=cond (decide (x.2.2.2.2<e)) ((GO x.1 x.2.1 x.2.2.1 x.2.2.2.1).bind λa=>some<|.inl (a.1,a.2.1,a.2.2.1,a.2.2.2,w64 (x.2.2.2.2+1)))<|some<|.inr (x.1,x.2.1,x.2.2.1,x.2.2.2.1)
def KE (a:UInt32)(b:UInt32)(c:UInt32)(d:UInt32)(e:Int):Option (UInt32×UInt32×UInt32×UInt32):=(loop (ZB4 e) (a,b,c,d,0)).bind λx=>some (x.1,x.2.1,x.2.2.1,x.2.2.2)
def ZEv (x:List UInt8):Option (List UInt8 ⊕ List UInt8):=cond (!(decide<|(x.length:Int).tmod 8=0)) (app x [(0:UInt8)] λm=>some<|.inl m)<|some<|.inr x
def ZEu (y:List UInt8)(a:UInt32×UInt32×UInt32×UInt32):Option ((UInt32×UInt32×UInt32×UInt32) ⊕ Unit):=slc y 0 4 λm=>(ZB5 m).bind λb=>slc y 4 (y.length:Int) λc=>(ZB5 c).bind λd=>(KE (a.1^^^b) a.2.1 (a.2.2.1^^^d) a.2.2.2 4).bind λx=>some<|.inl (x.1,x.2.1,x.2.2.1,x.2.2.2)
def ZGz (a:List UInt8):Option (UInt32×UInt32×UInt32×UInt32):=(Z6 a).bind λd=>(Vb d).bind λe=>chk (0< [(1:UInt8)].length)<|app e [(1:UInt8)] λm=>(loop (ZEv) m).bind λf=>(QM f 8).bind λc=>Option.bind (Y4 c.1 c.2 (ZEu) ((1:UInt32),(2:UInt32),(3:UInt32),(4:UInt32)))<|Sum.elim (λx=>(KE x.1 (x.2.1^^^(u32i (a.length:Int))) x.2.2.1 x.2.2.2 8).bind λb=>some (b.1,b.2.1,b.2.2.1,b.2.2.2)) λ_=>none
def ZC7 (a:List UInt8):Option UInt32:=(ZGz a).bind λx=>some x.1
def Gl (a:Store)(b:Ptr):Option (List UInt8×Int):=Option.bind (α:=Bool) ((XB a).bind λd=>cond (!(decide (d=0))) (some true)<|(YP b).bind λe=>some<|!(decide (e=0)))<|λf=>cond f (some ([],8))<|cond (decide (b.At=0)&&(decide (b.Birth=0)&&(decide (b.Iv=0)&&(decide (b.Tag=0)&&(decide (b.Sum=0)&&true))))) (some ([],6))<|(ZDW a.Disk b.At).bind λx=>Option.bind (α:=Bool) (cond (decide (x.2=0)) ((ZC7 x.1).bind λg=>some<|!(decide (g=b.Sum)))<|some false)<|λh=>Option.bind (α:=(List UInt8×Int)) (cond h (some ([],130))<|some (x.1,x.2))<|λc=>some (c.1,c.2)
def ZD3:Option Unit:=some ()
def ZGi (a:List UInt8):Option (Ptr×Int):=cond (!(decide<|(a.length:Int)=16)) (some (Ptr.mk 0 0 0 0 0,3))<|(ZD3).bind λg=>(VB a 0 1).bind λx=>(VB a 1 3).bind λb=>(VB a 4 4).bind λc=>(VB a 8 4).bind λd=>(VB a 12 4).bind λe=>(YP<|Ptr.mk x.1 (u32i b.1) (u32i c.1) (u32i d.1)<|u32i e.1).bind λf=>cond (!(decide (f=0))) (some (Ptr.mk 0 0 0 0 0,f))<|some (Ptr.mk x.1 (u32i b.1) (u32i c.1) (u32i d.1)<|u32i e.1,0)
def ZKz (y:List UInt8)(a:List Ptr):Option (List Ptr ⊕ Int):=(ZGi y).bind λx=>cond (!(decide (x.2=0))) (some<|.inr x.2)<|app a [x.1] λm=>some<|.inl m
def ZGh (a:List UInt8):Option (List Ptr×Int):=cond (!(decide<|(a.length:Int)=256)) (some ([],3))<|(QM a 16).bind λx=>Option.bind (Y4 x.1 x.2 (ZKz) [])<|Sum.elim (λb=>some (b,0)) λc=>some ([],c)
def ZCv (a:Store)(b:Ptr):Option (List Ptr×Int):=Option.bind (α:=Bool) ((XB a).bind λd=>cond (!(decide (d=0))) (some true)<|(YP b).bind λe=>some<|!(decide (e=0)))<|λf=>cond f (some ([],8))<|cond (decide (b.At=0)&&(decide (b.Birth=0)&&(decide (b.Iv=0)&&(decide (b.Tag=0)&&(decide (b.Sum=0)&&true))))) (mks 16 (Ptr.mk 0 0 0 0 0) λm=>some (m,0))<|(Gl a b).bind λx=>cond (!(decide (x.2=0))) (some ([],x.2))<|(ZGh x.1).bind λc=>cond (!(decide (c.2=0))) (some ([],8))<|some (c.1,0)
def UK (a:Change)(b:Int):Option (Bool×Int):=some (!(decide (a.Obj=b)),b)
def Kg (a:List Change)(x:Int×Int):Option ((Int×Int) ⊕ ((Int×Int) ⊕ Int)):=cond (decide<|x.2<(a.length:Int)) (idx a x.2 λy=>(UK y x.1).bind λb=>cond b.1 (some<|.inr<|.inl (b.2,x.2))<|some<|.inl (b.2,w64 (x.2+1)))<|some<|.inr<|.inr x.1
def XT (a:List Change)(b:Int):Option (Int×Int):=Option.bind (loop (Kg a) (b,0))<|Sum.elim (λx=>some (x.2,x.1)) λc=>some ((-1),c)
def QV (a:List UInt8)(b:Int):Option (List UInt8×Int):=cond (decide (b<1)) (none)<|some (a,b)
def ZGg (y:List UInt8)(a:List Ptr):Option (List Ptr ⊕ Int):=(ZGi y).bind λx=>cond (!(decide (x.2=0))) (some<|.inr x.2)<|app a [x.1] λm=>some<|.inl m
def DN (a:List UInt8):Option (List Ptr×Int):=cond (!(decide<|(a.length:Int)=256)) (some ([],3))<|(QV a 16).bind λx=>Option.bind (Y4 x.1 x.2 (ZGg) [])<|Sum.elim (λb=>some (b,0)) λc=>some ([],c)
def Qc (a:Int)(b:Int)(c:Int):Option Bool:=cond (decide (b<=a)) (some<|decide (a<=c))<|some false
def DV (a:Ptr):Option Bool:=(YP a).bind λx=>some<|!(decide (x=0))
def W3 (a:List Ptr)(x:Nat):Option (Nat ⊕ (Nat ⊕ Unit)):=cond (decide<|(x:Int)<(a.length:Int)) (chk (0<=(x:Int)/\(x:Int).toNat<a.length)<|idx a (x:Int) λy=>(DV y).bind λb=>cond b (some<|.inr<|.inl x)<|some<|.inl (x+1))<|some<|.inr<|.inr ()
def Q1 (a:List Ptr):Option (Int×List Ptr):=Option.bind (loop (W3 a) 0)<|Sum.elim (λx=>some ((x:Int),a)) λb=>some ((-1),a)
def QL (a:List Ptr):Option (Bool×List Ptr):=(Q1 a).bind λx=>some (decide (0<=x.1),x.2)
def ZEA (a:Object):Option (Int×List Ptr):=Option.bind (α:=(Object×Bool)) ((Qc (a.Kind.toNat:Int) 1 7).bind λc=>cond (!c) (some (a,true))<|(Qc a.Links 0 255).bind λd=>cond (!d) (some (a,true))<|(Qc a.Size 0 3840).bind λe=>cond (!e) (some (a,true))<|cond (!(decide<|(a.Data.length:Int)=15)) (some (a,true))<|(QL a.Data).bind λb=>some (Object.mk a.Kind a.Links a.Size b.2,b.1))<|λx=>cond x.2 (some (8,x.1.Data))<|some (0,x.1.Data)
def DU (a:List UInt8):Option (Object×Int):=cond (!(decide<|(a.length:Int)=256)) (some (Object.mk 0 0 0 [],3))<|idx a 0 λo=>idx a 1 λp=>idx a 2 λv=>idx a 3 λw=>idx a 4 λq=>idx a 5 λr=>idx a 6 λs=>idx a 7 λt=>idx a 8 λu=>idx a 9 λy=>idx a 10 λd=>idx a 11 λe=>idx a 12 λf=>idx a 13 λg=>idx a 14 λh=>idx a 15 λi=>chk ((a.length:Int)=(a.length:Int))<|slc a 16 (a.length:Int) λj=>mks 16 (0:UInt8) λm=>chk (0<m.length)<|app j m λk=>(DN k).bind λb=>Option.bind (α:=Bool) (cond (!(decide (b.2=0))) (some true)<|some<|!(decide<|[q,r,s,t,u,y,d,e,f,g,h,i]= [(0:UInt8),(0:UInt8),(0:UInt8),(0:UInt8),(0:UInt8),(0:UInt8),(0:UInt8),(0:UInt8),(0:UInt8),(0:UInt8),(0:UInt8),(0:UInt8)]))<|λl=>cond l (some (Object.mk 0 0 0 [],8))<|(VB a 2 2).bind λn=>Option.bind (α:=Object) (chk (0<=(15:Int)/\15<=(b.1.length:Int))<|some (Object.mk o (p.toNat:Int) n.1<|b.1.take 15))<|λx=>(ZEA x).bind λc=>cond (!(decide (c.1=0))) (some (Object.mk 0 0 0 [],8))<|some (Object.mk x.Kind x.Links x.Size c.2,0)
def ZJd (a:Store)(b:Ptr):Option (Object×Int):=(Gl a b).bind λx=>cond (!(decide (x.2=0))) (some (Object.mk 0 0 0 [],x.2))<|(DU x.1).bind λc=>cond (!(decide (c.2=0))) (some (Object.mk 0 0 0 [],8))<|some (c.1,0)
def Vc (a:Store)(b:Ptr)(c:Int):Option (Object×Int):=Option.bind (α:=Bool) ((XB a).bind λe=>cond (!(decide (e=0))) (some true)<|(YP b).bind λf=>some<|!(decide (f=0)))<|λg=>cond g (some (Object.mk 0 0 0 [],8))<|Option.bind (α:=Bool) (cond (decide (c<0)) (some true)<|some<|decide (16<=c))<|λh=>cond h (some (Object.mk 0 0 0 [],2))<|(ZCv a b).bind λx=>cond (!(decide (x.2=0))) (some (Object.mk 0 0 0 [],x.2))<|chk (0<=c/\c.toNat<x.1.length)<|idx x.1 c λy=>(ZJd a y).bind λd=>some (d.1,d.2)
def UO (a:List UInt8)(b:Int):Option (List UInt8×Int):=(V8 a).bind λc=>cond (!(decide (c=0))) (some ([],8))<|Option.bind (α:=Bool) (cond (decide (b<12)) (some true)<|some<|decide (256<=b))<|λd=>cond d (some ([],2))<|idx a b λy=>cond (!(decide (y=1))) (some ([],6))<|(YI a).bind λx=>chk (0<=b/\b.toNat<x.length)<|setI x b (2:UInt8) λm=>some (m,0)
def Xr (a:List Line)(b:Int)(x:Int×Int):Option ((Int×Int) ⊕ Int):=cond (decide (x.1<x.2)) (chk (0<=(1:Int))<|chk (0<=w64 ((sr64 (u64i<|w64 (x.1+x.2)) 1).toNat:Int)/\(w64 ((sr64 (u64i<|w64 (x.1+x.2)) 1).toNat:Int)).toNat<a.length)<|idx a (w64 ((sr64 (u64i<|w64 (x.1+x.2)) 1).toNat:Int)) λy=>(UL y b).bind λc=>cond (decide (c<0)) (some<|.inl (w64<|(w64 ((sr64 (u64i<|w64 (x.1+x.2)) 1).toNat:Int))+1,x.2))<|some<|.inl (x.1,w64 ((sr64 (u64i<|w64 (x.1+x.2)) 1).toNat:Int)))<|some<|.inr x.1
def YV (a:List Line)(b:Int):Option (Int×Bool×List Line):=(loop (Xr a b) (0,(a.length:Int))).bind λx=>cond (decide<|x<(a.length:Int)) (chk (0<=x/\x.toNat<a.length)<|idx a x λy=>(UL y b).bind λc=>some (x,decide (c=0),a))<|some (x,false,a)
def ZEg (a:List Line)(b:Int):Option (Option Int×List Line):=(YV a b).bind λx=>cond (!x.2.1) (some (none,x.2.2))<|chk (0<=x.1/\x.1.toNat<x.2.2.length)<|some (some x.1,x.2.2)
def ZES (a:List Ptr)(x:Nat):Option (Nat ⊕ (Unit ⊕ Unit)):=cond (decide<|(x:Int)<(a.length:Int)) (chk (0<=(x:Int)/\(x:Int).toNat<a.length)<|idx a (x:Int) λy=>Option.bind (α:=Bool) (cond (decide (y.At=0)&&(decide (y.Birth=0)&&(decide (y.Iv=0)&&(decide (y.Tag=0)&&(decide (y.Sum=0)&&true))))) (some true)<|(YP y).bind λb=>cond (!(decide (b=0))) (some true)<|cond (decide<|0<(x:Int)) (chk (0<=w64 ((x:Int)-1)/\(w64<|(x:Int)-1).toNat<a.length)<|idx a (w64<|(x:Int)-1) λc=>(Uh c y).bind λd=>some<|decide (0<=d))<|some false)<|λe=>cond e (some<|.inr<|.inl ())<|some<|.inl (x+1))<|some<|.inr<|.inr ()
def Vy (a:List Ptr):Option (Int×List Ptr):=cond (decide<|240<(a.length:Int)) (some (8,a))<|Option.bind (loop (ZES a) 0)<|Sum.elim (λx=>some (8,a)) λb=>some (0,a)
def Jk (a:List (List Ptr))(x:Int×Int):Option ((Int×Int) ⊕ Int):=cond (decide<|x.2<(a.length:Int)) (chk (0<=x.2/\x.2.toNat<a.length)<|idx a x.2 λy=>cond (decide<|w64 (x.1+(y.length:Int))<0) (none)<|some<|.inl (w64<|x.1+(y.length:Int),w64 (x.2+1)))<|some<|.inr x.1
def Jj (a:List (List Ptr))(x:List Ptr×Int):Option ((List Ptr×Int) ⊕ List Ptr):=cond (decide<|x.2<(a.length:Int)) (chk (0<=x.2/\x.2.toNat<a.length)<|idx a x.2 λy=>app x.1 y λm=>some<|.inl (m,w64 (x.2+1)))<|some<|.inr x.1
def QD (a:List (List Ptr)):Option (List Ptr×List (List Ptr)):=(loop (Jk a) (0,0)).bind λx=>(Ys x).bind λb=>(loop (Jj a) (b,0)).bind λc=>some (c,a)
def Yb (a:List Ptr):Option (List Ptr×List Ptr):=app [] a λm=>some (m,a)
def Dt (a:Ptr)(b:Ptr):Option Bool:=some<|decide (a.At=b.At)
def WE (x:List Ptr×Int×Int×Int):Option ((List Ptr×Int×Int×Int) ⊕ (List Ptr×Int)):=cond (decide<|x.2.2.2<(x.1.length:Int)-x.2.2.1) (chk (0<=x.2.2.2/\x.2.2.2<(x.1.length:Int)-x.2.2.1)<|idx x.1 (x.2.2.1+x.2.2.2) λy=>chk (0<=w64 (x.2.2.2-1)/\(w64 (x.2.2.2-1))<(x.1.length:Int)-x.2.2.1)<|idx x.1 (x.2.2.1+(w64 (x.2.2.2-1))) λb=>(Dt y b).bind λc=>Option.bind (α:=(List Ptr×Int×Int)) (cond (!c) (chk (0<=x.2.2.2/\x.2.2.2<(x.1.length:Int)-x.2.2.1)<|idx x.1 (x.2.2.1+x.2.2.2) λd=>chk (0<=x.2.1/\x.2.1.toNat<x.1.length)<|setI x.1 x.2.1 d λm=>some (m,w64 (x.2.1+1),x.2.2.1))<|some (x.1,x.2.1,x.2.2.1))<|λa=>some<|.inl (a.1,a.2.1,a.2.2,w64 (x.2.2.2+1)))<|some<|.inr (x.1,x.2.1)
abbrev WD:=@WE
def V9 (x:List Ptr×Int):Option ((List Ptr×Int) ⊕ (List Ptr ⊕ List Ptr)):=cond (decide<|x.2<(x.1.length:Int)) (chk (0<=x.2/\x.2.toNat<x.1.length)<|idx x.1 x.2 λy=>chk (0<=w64 (x.2-1)/\(w64 (x.2-1)).toNat<x.1.length)<|idx x.1 (w64 (x.2-1)) λb=>(Dt y b).bind λc=>cond c (chk (0<=x.2/\x.2<=(x.1.length:Int))<|(loop (WD) (x.1,x.2,x.2,1)).bind λa=>chk (0<=a.2/\a.2<=(a.1.length:Int))<|slc (clr a.1 a.2.toNat a.1.length<|Ptr.mk 0 0 0 0 0) 0 a.2 λm=>some<|.inr<|.inl m)<|some<|.inl (x.1,w64 (x.2+1)))<|some<|.inr<|.inr x.1
def Yr (a:List Ptr):Option (List Ptr):=cond (decide<|(a.length:Int)<2) (some a)<|Option.bind (loop (V9) (a,1))<|Sum.elim (λx=>some x) λb=>some b
def ZE8 (q:(List Ptr)->Option Int)(e:(List Ptr)->Option (Int×List Ptr))(f:(List<|List Ptr)->Option (List Ptr×List (List Ptr)))(g:(List Ptr)->Option (List Ptr))(h:(List Ptr)->Option (List Ptr×List Ptr))(i:(List Ptr)->Option (List Ptr))(a:List Ptr)(b:List Ptr):Option (List Ptr×Int):=Option.bind (α:=(List Ptr×Bool)) ((q a).bind λj=>cond (!(decide (j=0))) (some (b,true))<|(e b).bind λc=>some (c.2,!(decide (c.1=0))))<|λd=>cond d.2 (some ([],8))<|(f [a,d.1]).bind λk=>(g k.1).bind λl=>(h l).bind λx=>(i x.1).bind λm=>cond (decide<|(m.length:Int)<(x.2.length:Int)) (some ([],2))<|cond (decide<|240<(x.2.length:Int)) (some ([],9))<|some (x.2,0)
def ZJE (a:List Ptr)(b:List Ptr):Option (List Ptr×Int):=ZE8 Ui Vy QD ZMU Yb Yr a b
def ZLx (a:List Ptr)(b:Ptr):Option (List Ptr×Int):=(Vy [b]).bind λc=>cond (!(decide (c.1=0))) (some ([],8))<|(ZJE a [b]).bind λx=>some (x.1,x.2)
def Qz (a:Int)(b:Ptr)(c:Pool×UInt32×Int):Option (Pool×UInt32×Int):=Option.bind (α:=Bool) (cond (!(decide (c.2.2=0))) (some true)<|some<|decide (b.At=0)&&(decide (b.Birth=0)&&(decide (b.Iv=0)&&(decide (b.Tag=0)&&(decide (b.Sum=0)&&true)))))<|λk=>cond k (some c)<|idx c.1.Lines a λl=>(ZEg c.1.Lines l.Prev).bind λf=>Option.bind (α:=UInt32) (cond (!f.1.isNone) (Option.bind f.1 λn=>idx f.2 n λo=>some o.Txg)<|some (0:UInt32))<|λp=>Option.bind (α:=(Store×UInt32×Ptr×List Line×List Change×Int×Int×UInt32×UInt32×Int×Int)) (cond (decide (p<b.Birth)) ((UO c.1.Store.Space b.At).bind λh=>Option.bind (α:=(Store×UInt32×Ptr×List Change×Int×Int×UInt32×UInt32×Int)) (cond (decide (h.2=0)) (some (Store.mk c.1.Store.Disk h.1 c.1.Store.Epoch c.1.Store.Count,c.1.Gen,c.1.Root,c.1.Changes,c.1.Logged,c.1.NextId,c.1.NextGuid,c.2.1,c.2.2))<|some (c.1.Store,c.1.Gen,c.1.Root,c.1.Changes,c.1.Logged,c.1.NextId,c.1.NextGuid,c.2.1,c.2.2))<|λe=>some (e.1,e.2.1,e.2.2.1,f.2,e.2.2.2.1,e.2.2.2.2.1,e.2.2.2.2.2.1,e.2.2.2.2.2.2.1,e.2.2.2.2.2.2.2.1,e.2.2.2.2.2.2.2.2,h.2))<|idx f.2 a λi=>(ZLx i.Dead b).bind λg=>Option.bind (α:=(Store×UInt32×Ptr×List Line×List Change×Int×Int×UInt32×UInt32×Int)) (cond (decide (g.2=0)) (idx f.2 a λy=>setI f.2 a (Line.mk y.Id y.Kind y.Owner y.Prev y.Txg y.Guid y.Key y.Root g.1) λm=>some (c.1.Store,c.1.Gen,c.1.Root,m,c.1.Changes,c.1.Logged,c.1.NextId,c.1.NextGuid,c.2.1,c.2.2))<|some (c.1.Store,c.1.Gen,c.1.Root,f.2,c.1.Changes,c.1.Logged,c.1.NextId,c.1.NextGuid,c.2.1,c.2.2))<|λd=>some (d.1,d.2.1,d.2.2.1,d.2.2.2.1,d.2.2.2.2.1,d.2.2.2.2.2.1,d.2.2.2.2.2.2.1,d.2.2.2.2.2.2.2.1,d.2.2.2.2.2.2.2.2.1,d.2.2.2.2.2.2.2.2.2,g.2))<|λx=>Option.bind (α:=Bool) (cond (decide (x.2.2.2.2.2.2.2.2.2.2=0)) (some true)<|some<|decide (x.2.2.2.2.2.2.2.2.2.2=9))<|λj=>cond j (some (Pool.mk x.1 x.2.1 x.2.2.1 c.1.MetaL x.2.2.2.1 c.1.Keys c.1.Loaded x.2.2.2.2.1 x.2.2.2.2.2.1 x.2.2.2.2.2.2.1 x.2.2.2.2.2.2.2.1,(x.2.2.2.2.2.2.2.2.1,x.2.2.2.2.2.2.2.2.2.2)))<|some (Pool.mk x.1 x.2.1 x.2.2.1 c.1.MetaL x.2.2.2.1 c.1.Keys c.1.Loaded x.2.2.2.2.1 x.2.2.2.2.2.1 x.2.2.2.2.2.2.1 x.2.2.2.2.2.2.2.1,(x.2.2.2.2.2.2.2.2.1,8))
def ZGT (d:List (List UInt8))(x:Int×Nat):Option ((Int×Nat) ⊕ (Unit ⊕ Unit)):=cond (decide<|(x.2:Int)<(d.length:Int)) (idx d (x.2:Int) λy=>cond (!(decide<|(y.length:Int)=x.1)) (some<|.inr<|.inl ())<|some<|.inl (256,x.2+1))<|some<|.inr<|.inr ()
def DG (a:Store)(b:UInt32)(c:Int)(d:List (List UInt8)):Option Int:=(XB a).bind λx=>cond (!(decide (x=0))) (some x)<|Option.bind (α:=Bool) (cond (decide (b<1)) (some true)<|some<|decide (16777215<b))<|λe=>cond e (some 2)<|Option.bind (loop (ZGT d) (c,0))<|Sum.elim (λf=>some 3) λg=>some 0
def ZL3 (b:Int)(x:Int×List UInt8):Option ((Int×List UInt8) ⊕ List UInt8):=cond (decide<|(x.2.length:Int)<b) (app x.2 [u8i x.1] λm=>some<|.inl (w64<|x.1.tdiv 256,m))<|some<|.inr x.2
def Zz (a:Int)(b:Int):Option (List UInt8×Int):=Option.bind (α:=Bool) ((ZCY b).bind λx=>cond (!x) (some true)<|cond (decide (a<0)) (some true)<|chk (0<=w64 (8*b))<|some (decide<|sli 1 (w64 (8*b))<=a))<|λc=>cond c (some ([],2))<|(loop (ZL3 b) (a,[])).bind λd=>some (d,0)
def ZBI (a:List UInt8)(b:UInt32):Option (List UInt8×List UInt8):=(Zz (b.toNat:Int) 4).bind λx=>some (a,x.1)
def ZEW (c:Int)(y:List UInt8)(x:List UInt8):Option (List UInt8 ⊕ List UInt8):=cond (decide<|c<=(x.length:Int)) (some<|.inr x)<|app x y λm=>some<|.inl m
def Be (p:List UInt8->List UInt8->Go.Pv.Rn (List UInt8))(a:List UInt8)(b:UInt32)(c:Int):Option (List UInt8×Int):=Option.bind (α:=Bool) (cond (!(decide<|(a.length:Int)=16)) (some true)<|cond (decide (c<0)) (some true)<|some<|decide (4096<c))<|λe=>cond e (some ([],2))<|(ZBI a b).bind λd=>Option.bind (p d.1 d.2 _ _ (ZEW c) [])<|Sum.elim (λf=>slc f 0 c λg=>(Z6 g).bind λh=>some (h,0)) λi=>slc i 0 c λm=>(Z6 m).bind λx=>some (x,0)
def Bu (a:List (List UInt8))(x:Int×Int):Option ((Int×Int) ⊕ Int):=cond (decide<|x.2<(a.length:Int)) (idx a x.2 λy=>cond (decide<|w64 (x.1+(y.length:Int))<0) (none)<|some<|.inl (w64<|x.1+(y.length:Int),w64 (x.2+1)))<|some<|.inr x.1
def Bt (a:List (List UInt8))(x:List UInt8×Int):Option ((List UInt8×Int) ⊕ List UInt8):=cond (decide<|x.2<(a.length:Int)) (idx a x.2 λy=>app x.1 y λm=>some<|.inl (m,w64 (x.2+1)))<|some<|.inr x.1
def Zf (a:List (List UInt8)):Option (List UInt8):=(loop (Bu a) (0,0)).bind λx=>(Yg x).bind λb=>(loop (Bt a) (b,0)).bind λc=>some c
def ZAV (a:List UInt8):Option (List UInt8):=(ZGz a).bind λx=>(Zz (x.1.toNat:Int) 4).bind λb=>app [] b.1 λm=>(Zz (x.2.1.toNat:Int) 4).bind λc=>app m c.1 λd=>(Zz (x.2.2.1.toNat:Int) 4).bind λe=>app d e.1 λf=>(Zz (x.2.2.2.toNat:Int) 4).bind λg=>app f g.1 λh=>some h
def pcR (k f:List UInt8):Go.Pv.Rn (List UInt8):=λ_ _ b s=>pcP Zz Zf ZAV b s k f
def ZBJ (a:List UInt8)(b:UInt32)(c:Int):Option (List UInt8×Int):=Be pcR a b c
def ZHn (c:List UInt8)(x:List UInt8×Int):Option ((List UInt8×Int) ⊕ List UInt8):=cond (decide<|x.2<(c.length:Int)) (idx c x.2 λy=>chk (0<=x.2/\x.2.toNat<x.1.length)<|idx x.1 x.2 λa=>chk (0<=x.2/\x.2.toNat<x.1.length)<|setI x.1 x.2 (a^^^y) λm=>some<|.inl (m,w64 (x.2+1)))<|some<|.inr x.1
def ZFD (a:List UInt8)(b:UInt32)(c:List UInt8):Option (List UInt8×Int):=cond (!(decide<|(a.length:Int)=16)) (some ([],2))<|cond (decide<|4096<(c.length:Int)) (some ([],3))<|(ZBJ a b (c.length:Int)).bind λx=>(loop (ZHn c) (x.1,0)).bind λd=>some (d,x.2)
def ZEl (a:List UInt8)(b:UInt32)(c:List UInt8):Option (List UInt8×Int):=Option.bind (α:=Bool) (cond (decide<|(a.length:Int)=16) (some<|decide<|256<(c.length:Int))<|some false)<|λd=>cond d (some ([],3))<|(ZFD a b c).bind λx=>some (x.1,x.2)
def ZEG (a:List (List UInt8)):Option (List UInt8):=(Zf a).bind λx=>(ZAV x).bind λb=>some b
def ZIx (q:(List<|List UInt8)->Option (List UInt8))(c:(List<|List UInt8)->Option (List UInt8))(d:(List UInt8)->Option UInt32)(a:List UInt8)(b:List UInt8):Option (UInt32×Int):=cond (!(decide<|(a.length:Int)=16)) (some ((0:UInt32),2))<|(q [a,[(1:UInt8)],b]).bind λx=>(c [a,[(2:UInt8)],x]).bind λe=>(d e).bind λf=>some (f,0)
def ZGB (a:List UInt8)(b:List UInt8):Option (UInt32×Int):=ZIx ZEG Zf ZC7 a b
def ZA1 (q:Int->Int->Option (List UInt8×Int))(e:(List<|List UInt8)->Option (List UInt8))(f:(List UInt8)->(List UInt8)->Option (UInt32×Int))(a:List UInt8)(b:UInt32)(c:List UInt8):Option (UInt32×Int):=(q (b.toNat:Int) 4).bind λx=>cond (!(decide (x.2=0))) (some ((0:UInt32),x.2))<|(e [x.1,c]).bind λg=>(f a g).bind λd=>some (d.1,d.2)
def ZEm (a:List UInt8)(b:UInt32)(c:List UInt8):Option (UInt32×Int):=ZA1 Zz Zf ZGB a b c
def ZIm (a:List UInt8)(b:UInt32)(c:List UInt8):Option (List UInt8×UInt32×Int):=(ZEl a b c).bind λx=>cond (!(decide (x.2=0))) (some ([],(0:UInt32),x.2))<|(ZEm a b x.1).bind λd=>some (x.1,d.1,d.2)
def ZGW (a:List UInt8):Option (List UInt8):=some a
def ZFe (b:List UInt8)(x:Int):Option (Int ⊕ ((Int×Int) ⊕ Int)):=cond (decide<|x<(b.length:Int)) (idx b x λy=>cond (decide (y=0)) (some<|.inr<|.inl (x,x))<|some<|.inl<|w64 (x+1))<|some<|.inr<|.inr x
def ZCr (a:Int)(b:List UInt8):Option (Int×Int×List UInt8):=Option.bind (loop (ZFe b)<|w64 (a+1))<|Sum.elim (λx=>some (x.2,x.1,b)) λc=>some ((-1),c,b)
def ZGX (a:List UInt8):Option (List UInt8×Int×Int):=(V8 a).bind λb=>cond (!(decide (b=0))) (some ([],0,b))<|(ZGW a).bind λd=>(ZCr (-1) d).bind λx=>cond (decide (x.1<0)) (some ([],0,9))<|(YI a).bind λc=>chk (0<=x.1/\x.1.toNat<c.length)<|setI c x.1 (1:UInt8) λm=>some (m,x.1,0)
def ZE6 (a:Disk):Option (Disk×Disk):=some (a,a)
def VA (a:Disk)(b:Bool)(c:Disk):Option (Disk×Int×Disk):=(Vl a).bind λx=>cond (!(decide (x=0))) (some (Disk.mk [] [],x,c))<|cond (!b) (some (Disk.mk [] [],2,c))<|(ZE6 c).bind λd=>some (d.1,0,d.2)
def QF (a:List Write):Option (List Write):=chk ((a.length:Int)=(a.length:Int))<|slc a 0 (a.length:Int) λm=>some m
def GW (a:Disk)(b:Int)(c:List UInt8):Option (Disk×Int):=Option.bind (α:=(Disk×Int)) ((Y8 b).bind λg=>(VA a g a).bind λf=>some (f.2.2,f.2.1))<|λx=>cond (!(decide (x.2=0))) (some (Disk.mk [] [],x.2))<|cond (!(decide<|(c.length:Int)=256)) (some (Disk.mk [] [],3))<|cond (decide<|(x.1.Waits.length:Int)=4096) (some (Disk.mk [] [],9))<|(QF x.1.Waits).bind λd=>chk (0< [Write.mk b c].length)<|app d [Write.mk b c] λm=>(twinF<|Disk.mk x.1.Blocks m).bind λe=>some (e,0)
def DF (g:{f:Type}->Option f->Option f->Option f)(a:Store)(b:Ptr)(c:List UInt8):Option (Store×Ptr×Int):=(fun(u:_->_)=>(ZGX a.Space).bind λx=>cond (!(decide (x.2.2=0))) (u x.2.2)<|(GW a.Disk x.2.1 c).bind λe=>cond (!(decide (e.2=0))) (u e.2)<|Option.bind (α:=(Disk×UInt32×UInt32)) (g (some (e.1,a.Epoch,a.Count))<|some (e.1,a.Epoch,a.Count))<|λd=>(ZC7 c).bind λh=>g (some (Store.mk d.1 x.1 d.2.1 d.2.2,Ptr.mk x.2.1 b.Birth b.Iv b.Tag h,0))<|some (Store.mk d.1 x.1 d.2.1 d.2.2,Ptr.mk x.2.1 b.Birth b.Iv b.Tag h,0)) λx=>some (Store.mk (Disk.mk [] []) [] 0 0,Ptr.mk 0 0 0 0 0,x)
def J5 (a:Store)(b:Ptr)(c:List UInt8):Option (Store×Ptr×Int):=DF (λa _=>a) a b c
def ZGU (a:Store)(b:UInt32)(c:List UInt8)(d:List UInt8):Option (Store×Ptr×Int):=(DG a b 16 [c,d]).bind λf=>cond (!(decide (f=0))) (some (Store.mk (Disk.mk [] []) [] 0 0,Ptr.mk 0 0 0 0 0,f))<|cond (decide (a.Count=65535)) (some (Store.mk (Disk.mk [] []) [] 0 0,Ptr.mk 0 0 0 0 0,132))<|chk (0<=(16:Int))<|(ZIm c ((sl32 a.Epoch 16) |||(a.Count+(1:UInt32))) d).bind λx=>cond (!(decide (x.2.2=0))) (some (Store.mk (Disk.mk [] []) [] 0 0,Ptr.mk 0 0 0 0 0,x.2.2))<|(J5 (Store.mk a.Disk a.Space a.Epoch<|a.Count+(1:UInt32)) (Ptr.mk 0 b ((sl32 a.Epoch 16) |||(a.Count+(1:UInt32))) x.2.1 0) x.1).bind λe=>some (e.1,e.2.1,e.2.2)
def Jh (a:Int)(b:Ptr)(c:Change)(d:Pool×UInt32×Int):Option (Ptr×(Pool×UInt32×Int)):=(Qz a b d).bind λx=>Option.bind (α:=Bool) (cond (!(decide (x.2.2=0))) (some true)<|cond (decide<|(c.Data.length:Int)=0) (some true)<|some<|!(decide (c.Laid.At=0)&&(decide (c.Laid.Birth=0)&&(decide (c.Laid.Iv=0)&&(decide (c.Laid.Tag=0)&&(decide (c.Laid.Sum=0)&&true))))))<|λg=>cond g (some (c.Laid,x))<|idx x.1.Lines a λy=>chk (0<=y.Key/\y.Key.toNat<x.1.Loaded.length)<|idx x.1.Loaded y.Key λf=>cond (decide<|(f.length:Int)=0) (some (Ptr.mk 0 0 0 0 0,(x.1,(x.2.1,200))))<|(ZGU x.1.Store x.2.1 f c.Data).bind λe=>some (e.2.1,(Pool.mk e.1 x.1.Gen x.1.Root x.1.MetaL x.1.Lines x.1.Keys x.1.Loaded x.1.Changes x.1.Logged x.1.NextId x.1.NextGuid,(x.2.1,e.2.2)))
def VZ (a:List Ptr)(x:Nat):Option (Nat ⊕ (Nat ⊕ Unit)):=cond (decide<|(x:Int)<(a.length:Int)) (idx a (x:Int) λy=>(DV y).bind λb=>cond b (some<|.inr<|.inl x)<|some<|.inl (x+1))<|some<|.inr<|.inr ()
def QK (a:List Ptr):Option Int:=Option.bind (loop (VZ a) 0)<|Sum.elim (λx=>some (x:Int)) λb=>some (-1)
def XV (a:List Ptr):Option Bool:=(QK a).bind λx=>some<|decide (0<=x)
def ZC3 (a:Object):Option Int:=Option.bind (α:=Bool) ((Qc (a.Kind.toNat:Int) 1 7).bind λx=>cond (!x) (some true)<|(Qc a.Links 0 255).bind λb=>cond (!b) (some true)<|(Qc a.Size 0 3840).bind λc=>cond (!c) (some true)<|cond (!(decide<|(a.Data.length:Int)=15)) (some true)<|(XV a.Data).bind λd=>some d)<|λe=>cond e (some 8)<|some 0
def Ve (a:Ptr):Option (List UInt8×Int):=(YP a).bind λc=>cond (!(decide (c=0))) (some ([],c))<|(ZD3).bind λk=>(Zz a.At 1).bind λd=>app [] d.1 λe=>(Zz (a.Birth.toNat:Int) 3).bind λf=>app e f.1 λg=>(Zz (a.Iv.toNat:Int) 4).bind λh=>app g h.1 λi=>(Zz (a.Tag.toNat:Int) 4).bind λj=>app i j.1 λm=>(Zz (a.Sum.toNat:Int) 4).bind λx=>app m x.1 λb=>some (b,0)
def ZC1 (a:List Ptr):Option (List UInt8×Int):=rwP Ve a
def ZIu (a:Object):Option (List UInt8×Int):=(ZC3 a).bind λu=>cond (!(decide (u=0))) (some ([],u))<|(Zz a.Size 2).bind λv=>app [a.Kind,u8i a.Links] v.1 λc=>cpyO [(0:UInt8),(0:UInt8),(0:UInt8),(0:UInt8),(0:UInt8),(0:UInt8),(0:UInt8),(0:UInt8),(0:UInt8),(0:UInt8),(0:UInt8),(0:UInt8),(0:UInt8),(0:UInt8),(0:UInt8),(0:UInt8)] 0 (16:Int) c λm=>idx m 0 λy=>idx m 1 λd=>idx m 2 λe=>idx m 3 λf=>idx m 4 λg=>idx m 5 λh=>idx m 6 λi=>idx m 7 λj=>idx m 8 λk=>idx m 9 λl=>idx m 10 λn=>idx m 11 λo=>idx m 12 λp=>idx m 13 λq=>idx m 14 λr=>idx m 15 λs=>(ZC1 a.Data).bind λx=>cond (!(decide (x.2=0))) (some ([],x.2))<|slc x.1 0 240 λb=>chk (0<b.length)<|app [y,d,e,f,g,h,i,j,k,l,n,o,p,q,r,s] b λt=>some (t,0)
def ZIh (a:Store)(b:UInt32)(c:UInt32)(d:UInt32)(e:List UInt8):Option (Store×Ptr×Int):=(DG a b 256 [e]).bind λf=>cond (!(decide (f=0))) (some (Store.mk (Disk.mk [] []) [] 0 0,Ptr.mk 0 0 0 0 0,f))<|(J5 a (Ptr.mk 0 b c d 0) e).bind λx=>some (x.1,x.2.1,x.2.2)
def ZDy (a:Store)(b:UInt32)(c:List UInt8):Option (Store×Ptr×Int):=(ZIh a b (0:UInt32) (0:UInt32) c).bind λx=>some (x.1,x.2.1,x.2.2)
def Kk (a:List UInt8)(b:Pool×UInt32×Int):Option (Ptr×(Pool×UInt32×Int)):=cond (decide (b.2.2=0)) ((ZDy b.1.Store b.2.1 a).bind λx=>some (x.2.1,(Pool.mk x.1 b.1.Gen b.1.Root b.1.MetaL b.1.Lines b.1.Keys b.1.Loaded b.1.Changes b.1.Logged b.1.NextId b.1.NextGuid,(b.2.1,x.2.2))))<|some (Ptr.mk 0 0 0 0 0,b)
def XA (g:{f:Type}->Option f->Option f->Option f)(d:List Change)(x:(Pool×UInt32×Int)×Ptr×Object×Int×Int):Option (((Pool×UInt32×Int)×Ptr×Object×Int×Int) ⊕ (((Pool×UInt32×Int)×Ptr×Object) ⊕ ((Pool×UInt32×Int)×Ptr×Object×Int))):=(fun(i:_->_->_->_)=>(fun(e:_->_->_->_)=>(fun(u:_->_->_)=>(fun(j:_->_->_->_)=>cond (decide<|x.2.2.2.2<(d.length:Int)) (idx d x.2.2.2.2 λy=>cond (!(decide (x.1.2.2=0))) (some<|.inr<|.inl (x.1,Ptr.mk 0 0 0 0 0,x.2.2.1))<|cond (decide (y.Index=15)) (g (g (u x y)<|g (u x y)<|u x y)<|g (g (u x y)<|u x y)<|g (g (u x y)<|u x y)<|u x y)<|chk (0<=y.Index/\y.Index.toNat<x.2.2.1.Data.length)<|idx x.2.2.1.Data y.Index λa=>g (g (e x a y)<|e x a y)<|g (g (e x a y)<|e x a y)<|(Jh x.2.2.2.1 a y x.1).bind λb=>g (j y x b)<|j y x b)<|some<|.inr<|.inr (x.1,x.2.1,x.2.2.1,x.2.2.2.1)) λy x b=>chk (0<=y.Index/\y.Index.toNat<x.2.2.1.Data.length)<|setI x.2.2.1.Data y.Index b.1 λh=>some<|i b.2 x h) λx y=>some<|.inl (x.1,x.2.1,Object.mk y.Kind y.Links y.Size x.2.2.1.Data,x.2.2.2.1,w64 (x.2.2.2.2+1))) λx a y=>(Jh x.2.2.2.1 a y x.1).bind λc=>chk (0<=y.Index/\y.Index.toNat<x.2.2.1.Data.length)<|setI x.2.2.1.Data y.Index c.1 λm=>some<|i c.2 x m) λc x m=>.inl (c,x.2.1,Object.mk x.2.2.1.Kind x.2.2.1.Links x.2.2.1.Size m,x.2.2.2.1,w64 (x.2.2.2.2+1))
def Y9 (g:{b:Type}->Option b->Option b->Option b)(a:(Pool×UInt32×Int)×Ptr×Object×Int)(x:(Pool×UInt32×Int)×Int×Int):Option (((Pool×UInt32×Int)×Int×Int) ⊕ (Pool×UInt32×Int)):=cond (decide<|x.2.2<(a.2.2.1.Data.length:Int)) (chk (0<=x.2.2/\x.2.2.toNat<a.2.2.1.Data.length)<|idx a.2.2.1.Data x.2.2 λy=>(Qz x.2.1 y x.1).bind λc=>some<|.inl (c,x.2.1,w64 (x.2.2+1)))<|some<|.inr x.1
def Ki (g:{k:Type}->Option k->Option k->Option k)(a:Int)(b:Ptr)(c:Ptr)(d:List Change)(e:Pool×UInt32×Int):Option (Ptr×(Pool×UInt32×Int)):=mks 15 (Ptr.mk 0 0 0 0 0) λo=>Option.bind (α:=(Store×UInt32×Ptr×List Change×Int×Int×UInt32×UInt32×Int×Object)) (cond (!(decide (c.At=0)&&(decide (c.Birth=0)&&(decide (c.Iv=0)&&(decide (c.Tag=0)&&(decide (c.Sum=0)&&true)))))) (idx d 0 λy=>(Vc e.1.Store b y.Obj).bind λn=>some (e.1.Store,e.1.Gen,e.1.Root,e.1.Changes,e.1.Logged,e.1.NextId,e.1.NextGuid,e.2.1,n.2,n.1))<|some (e.1.Store,e.1.Gen,e.1.Root,e.1.Changes,e.1.Logged,e.1.NextId,e.1.NextGuid,e.2.1,e.2.2,Object.mk 0 0 0 o))<|λf=>Option.bind (loop (XA g d) ((Pool.mk f.1 f.2.1 f.2.2.1 e.1.MetaL e.1.Lines e.1.Keys e.1.Loaded f.2.2.2.1 f.2.2.2.2.1 f.2.2.2.2.2.1 f.2.2.2.2.2.2.1,(f.2.2.2.2.2.2.2.1,f.2.2.2.2.2.2.2.2.1)),Ptr.mk 0 0 0 0 0,f.2.2.2.2.2.2.2.2.2,a,0))<|Sum.elim (λh=>some (h.2.1,h.1)) λx=>(Qz x.2.2.2 c x.1).bind λi=>cond (decide (x.2.2.1.Kind=0)) ((loop (Y9 g x) (i,x.2.2.2,0)).bind λl=>some (Ptr.mk 0 0 0 0 0,l))<|(ZIu x.2.2.1).bind λm=>(Kk m.1 i).bind λj=>some (j.1,j.2)
def KA (a:Int)(b:Ptr)(c:Ptr)(d:List Change)(e:Pool×UInt32×Int):Option (Ptr×(Pool×UInt32×Int)):=Ki (λa _=>a) a b c d e
def UJ (a:Ptr):Option Bool:=some<|!(decide (a.At=0)&&(decide (a.Birth=0)&&(decide (a.Iv=0)&&(decide (a.Tag=0)&&(decide (a.Sum=0)&&true)))))
def VY (a:List Ptr)(x:Nat):Option (Nat ⊕ (Nat ⊕ Unit)):=cond (decide<|(x:Int)<(a.length:Int)) (idx a (x:Int) λy=>(UJ y).bind λb=>cond b (some<|.inr<|.inl x)<|some<|.inl (x+1))<|some<|.inr<|.inr ()
def QJ (a:List Ptr):Option Int:=Option.bind (loop (VY a) 0)<|Sum.elim (λx=>some (x:Int)) λb=>some (-1)
def XU (a:List Ptr):Option Bool:=(QJ a).bind λx=>some<|decide (0<=x)
def Y1 (g:{f:Type}->Option f->Option f->Option f)(x:(Pool×UInt32×Int)×Int×List Change×List Ptr):Option (((Pool×UInt32×Int)×Int×List Change×List Ptr) ⊕ ((Pool×UInt32×Int)×Int×List Ptr)):=(fun(u:_->_->_->_->_->_)=>Option.bind (α:=Bool) (cond (decide<|0<(x.2.2.1.length:Int)) (some<|decide (x.1.2.2=0))<|some false)<|λj=>cond j (idx x.2.2.1 0 λk=>(XT x.2.2.1 k.Obj).bind λa=>Option.bind (α:=Int) (cond (decide (a.1<0)) (some (x.2.2.1.length:Int))<|some a.1)<|λb=>Option.bind (α:=((Pool×UInt32×Int)×Int×List Ptr)) (idx x.1.1.Lines x.2.1 λy=>chk (0<=a.2/\a.2.toNat<x.2.2.2.length)<|idx x.2.2.2 a.2 λc=>chk (b=b)<|slc x.2.2.1 0 b λm=>g (u x y c m a)<|u x y c m a)<|λd=>slc x.2.2.1 b (x.2.2.1.length:Int) λh=>some<|.inl (d.1,d.2.1,h,d.2.2))<|some<|.inr (x.1,x.2.1,x.2.2.2)) λx y c m a=>(KA x.2.1 y.Root c m x.1).bind λe=>chk (0<=a.2/\a.2.toNat<x.2.2.2.length)<|setI x.2.2.2 a.2 e.1 λi=>some (e.2,x.2.1,i)
def Xp (g:{i:Type}->Option i->Option i->Option i)(a:Int)(b:List Change)(c:Pool×UInt32×Int):Option (Pool×UInt32×Int):=(fun(u:_->_->_)=>Option.bind (α:=Bool) (cond (!(decide (c.2.2=0))) (some true)<|some<|decide<|(b.length:Int)=0)<|λo=>cond o (some c)<|idx c.1.Lines a λp=>(ZCv c.1.Store p.Root).bind λh=>cond (!(decide (h.2=0))) (some (c.1,(c.2.1,h.2)))<|(loop (Y1 g) ((c.1,(c.2.1,h.2)),a,b,h.1)).bind λe=>idx e.1.1.Lines e.2.1 λj=>(Qz e.2.1 j.Root e.1).bind λx=>idx x.1.Lines e.2.1 λy=>setI x.1.Lines e.2.1 (Line.mk y.Id y.Kind y.Owner y.Prev y.Txg y.Guid y.Key (Ptr.mk 0 0 0 0 0) y.Dead) λm=>(XU e.2.2).bind λk=>cond k ((ZC1 e.2.2).bind λl=>(Kk l.1<|u x m).bind λd=>idx d.2.1.Lines e.2.1 λf=>setI d.2.1.Lines e.2.1 (Line.mk f.Id f.Kind f.Owner f.Prev f.Txg f.Guid f.Key d.1 f.Dead) λn=>some (Pool.mk d.2.1.Store d.2.1.Gen d.2.1.Root d.2.1.MetaL n d.2.1.Keys d.2.1.Loaded d.2.1.Changes d.2.1.Logged d.2.1.NextId d.2.1.NextGuid,d.2.2))<|some<|u x m) λx m=>(Pool.mk x.1.Store x.1.Gen x.1.Root x.1.MetaL m x.1.Keys x.1.Loaded x.1.Changes x.1.Logged x.1.NextId x.1.NextGuid,x.2)
def VU (a:Int)(b:List Change)(c:Pool×UInt32×Int):Option (Pool×UInt32×Int):=Xp (λa _=>a) a b c
abbrev VN:=@Xp
def Z4 (a:Int)(b:List Change)(c:Pool×UInt32×Int):Option (Pool×UInt32×Int):=VN (λa _=>a) a b c
def WF (a:List Ptr)(b:Int):Option (List Ptr×Int):=cond (decide (b<1)) (none)<|some (a,b)
def ZCX (a:List Ptr)(b:Store)(c:UInt32)(d:Ptr)(e:Int)(f:List Int):Option (Store×UInt32×Ptr×Int×List Int):=(ZC1 a).bind λg=>(ZDy b c g.1).bind λx=>cond (decide (x.2.2=0)) (app f [x.2.1.At] λm=>some (x.1,c,x.2.1,x.2.2,m))<|some (x.1,c,x.2.1,x.2.2,f)
def Vx (g:{c:Type}->Option c->Option c->Option c)(y:List Ptr)(a:Store×UInt32×Store×Ptr×List Int×Int×List Ptr):Option ((Store×UInt32×Store×Ptr×List Int×Int×List Ptr) ⊕ (Store×UInt32×Store×Ptr×Int×List Ptr)):=(fun(u:_->_)=>(ZCX y a.1 a.2.1 a.2.2.2.1 a.2.2.2.2.2.1 a.2.2.2.2.1).bind λx=>cond (!(decide (x.2.2.2.1=0))) (Option.bind (α:=(Store×Ptr×Int)) (g (u x.2.2.2.1)<|g (u x.2.2.2.1)<|g (u x.2.2.2.1)<|u x.2.2.2.1)<|λb=>some<|.inr (x.1,x.2.1,b.1,b.2.1,b.2.2,a.2.2.2.2.2.2))<|app a.2.2.2.2.2.2 [x.2.2.1] λm=>some<|.inl (x.1,x.2.1,a.2.2.1,x.2.2.1,x.2.2.2.2,x.2.2.2.1,m)) λx=>some (Store.mk (Disk.mk [] []) [] 0 0,Ptr.mk 0 0 0 0 0,x)
def ZCW (g:{i:Type}->Option i->Option i->Option i)(a:Store)(b:UInt32)(c:List Ptr):Option (Store×Ptr×List Int×Int):=(fun(h:_->_)=>(fun(u:_->_)=>Option.bind (α:=Bool) ((XB a).bind λk=>cond (!(decide (k=0))) (some true)<|(Ui c).bind λl=>some<|!(decide (l=0)))<|λm=>cond m (some (Store.mk (Disk.mk [] []) [] 0 0,Ptr.mk 0 0 0 0 0,[],8))<|Option.bind (α:=Bool) (cond (decide (b<1)) (some true)<|some<|decide (16777215<b))<|λn=>cond n (some (Store.mk (Disk.mk [] []) [] 0 0,Ptr.mk 0 0 0 0 0,[],2))<|cond (decide<|(c.length:Int)=0) ((ZBq a).bind λo=>some (o,Ptr.mk 0 0 0 0 0,[],0))<|(WF c 16).bind λj=>Option.bind (Y4 j.1 j.2 (Vx g) (a,b,Store.mk (Disk.mk [] []) [] 0 0,Ptr.mk 0 0 0 0 0,[],0,[]))<|Sum.elim (λd=>(ZCX d.2.2.2.2.2.2 d.1 d.2.1 d.2.2.2.1 d.2.2.2.2.2.1 d.2.2.2.2.1).bind λx=>cond (!(decide (x.2.2.2.1=0))) (Option.bind (α:=(Store×Ptr×Int)) (g (h x.2.2.2.1)<|g (h x.2.2.2.1)<|g (h x.2.2.2.1)<|h x.2.2.2.1)<|λe=>some (e.1,e.2.1,[],e.2.2))<|g (g (u x)<|g (u x)<|u x)<|g (g (u x)<|u x)<|g (g (u x)<|u x)<|u x) λf=>some (f.2.2.1,f.2.2.2.1,[],f.2.2.2.2.1)) λx=>some (x.1,x.2.2.1,x.2.2.2.2,0)) λx=>some (Store.mk (Disk.mk [] []) [] 0 0,Ptr.mk 0 0 0 0 0,x)
def Dr (a:Store)(b:UInt32)(c:List Ptr):Option (Store×Ptr×List Int×Int):=ZCW (λa _=>a) a b c
def ZAO:Option (List Int):=some [1,1,1,1,3,4,1]
def ZMP (a:List Int)(b:List Int)(x:List UInt8×Nat):Option ((List UInt8×Nat) ⊕ List UInt8):=cond (decide<|(x.2:Int)<(b.length:Int)) (idx b (x.2:Int) λy=>idx a (x.2:Int) λc=>(Zz y c).bind λd=>app x.1 d.1 λm=>some<|.inl (m,x.2+1))<|some<|.inr x.1
def ZCm (a:List Int)(b:List Int):Option (List UInt8):=(loop (ZMP a b) ([],0)).bind λx=>some x
def Yq (a:List UInt8)(b:Int):Option (List UInt8):=mks (w64<|b-(a.length:Int)) (0:UInt8) λm=>app a m λc=>some c
def Wh (q:Ptr->Option (List UInt8×Int))(c:Option (List Int))(d:(List Int)->(List Int)->Option (List UInt8))(e:(List<|List UInt8)->Option (List UInt8))(f:(List UInt8)->Int->Option (List UInt8))(a:Line)(b:Ptr):Option (List UInt8):=(q a.Root).bind λx=>(q b).bind λg=>Option.bind (α:=List UInt8) ((c).bind λh=>(d h [a.Id,(a.Kind.toNat:Int),a.Owner,a.Prev,(a.Txg.toNat:Int),(a.Guid.toNat:Int),a.Key]).bind λi=>some i)<|λj=>(e [j,x.1,g.1]).bind λk=>(f k 48).bind λl=>some l
def Vs (a:Line)(b:Ptr):Option (List UInt8):=Wh Ve ZAO ZCm Zf Yq a b
def QH (g:{h:Type}->Option h->Option h->Option h)(a:List UInt8)(b:List Int)(c:List UInt8)(d:Pool×UInt32×Int):Option (List Int×List UInt8×(Pool×UInt32×Int)):=(fun(u:_->_->_->_->_)=>(Kk a d).bind λx=>(Ve x.1).bind λe=>Option.bind (α:=(List Int×List UInt8)) (g (g (u b x c e.1)<|u b x c e.1)<|u b x c e.1)<|λf=>some (f.1,f.2,(Pool.mk x.2.1.Store x.2.1.Gen x.1 x.2.1.MetaL x.2.1.Lines x.2.1.Keys x.2.1.Loaded x.2.1.Changes x.2.1.Logged x.2.1.NextId x.2.1.NextGuid,x.2.2))) λb x c e=>app b [x.1.At] λm=>app c e λi=>some (m,i)
def KB (a:List UInt8)(b:List Int)(c:List UInt8)(d:Pool×UInt32×Int):Option (List Int×List UInt8×(Pool×UInt32×Int)):=QH (λa _=>a) a b c d
def ZDt (a:List (List UInt8))(x:List UInt8×Nat):Option ((List UInt8×Nat) ⊕ List UInt8):=cond (decide<|(x.2:Int)<(a.length:Int)) (idx a (x.2:Int) λy=>app x.1 y λm=>(Yq m<|w64<|(x.2+1:Int)*24).bind λb=>some<|.inl (b,x.2+1))<|some<|.inr x.1
def ZAx (a:List (List UInt8)):Option (List UInt8):=(loop (ZDt a) ([],0)).bind λx=>(Yq x 256).bind λb=>some b
abbrev ZFZ:=@Kk
abbrev V4:=@QH
def Xo (a:List UInt8)(b:List Int)(c:List UInt8)(d:Pool×UInt32×Int):Option (List Int×List UInt8×(Pool×UInt32×Int)):=V4 (λa _=>a) a b c d
def Xn (g:{c:Type}->Option c->Option c->Option c)(a:Pool×UInt32×Int)(x:Store×UInt32×Ptr×List Change×Int×Int×UInt32×UInt32×Int×Int):Option ((Store×UInt32×Ptr×List Change×Int×Int×UInt32×UInt32×Int×Int) ⊕ ((Store×UInt32×Ptr×List Change×Int×Int×UInt32×UInt32×Int) ⊕ (Store×UInt32×Ptr×List Change×Int×Int×UInt32×UInt32×Int))):=(fun(u:_->_->_)=>(fun(d:_->_)=>cond (decide<|x.2.2.2.2.2.2.2.2.2<(a.1.MetaL.length:Int)) (chk (0<=x.2.2.2.2.2.2.2.2.2/\x.2.2.2.2.2.2.2.2.2.toNat<a.1.MetaL.length)<|idx a.1.MetaL x.2.2.2.2.2.2.2.2.2 λy=>cond (!(decide (x.2.2.2.2.2.2.2.2.1=0))) (some<|.inr<|.inl<|d x)<|g ((UO x.1.Space y).bind λb=>some<|u x b)<|(UO x.1.Space y).bind λe=>g (some<|u x e)<|some<|u x e)<|some<|.inr<|.inr<|d x) λx=>(x.1,x.2.1,x.2.2.1,x.2.2.2.1,x.2.2.2.2.1,x.2.2.2.2.2.1,x.2.2.2.2.2.2.1,x.2.2.2.2.2.2.2.1,x.2.2.2.2.2.2.2.2.1)) λx b=>.inl (Store.mk x.1.Disk b.1 x.1.Epoch x.1.Count,x.2.1,x.2.2.1,x.2.2.2.1,x.2.2.2.2.1,x.2.2.2.2.2.1,x.2.2.2.2.2.2.1,x.2.2.2.2.2.2.2.1,b.2,w64 (x.2.2.2.2.2.2.2.2.2+1))
def Xm (g:{f:Type}->Option f->Option f->Option f)(a:Pool×UInt32×Int)(x:Store×UInt32×Ptr×List Change×Int×Int×UInt32×UInt32×Int×List Int×List UInt8×Int):Option ((Store×UInt32×Ptr×List Change×Int×Int×UInt32×UInt32×Int×List Int×List UInt8×Int) ⊕ (Store×UInt32×Ptr×List Change×Int×Int×UInt32×UInt32×Int×List Int×List UInt8)):=(fun(u:_->_->_)=>cond (decide<|x.2.2.2.2.2.2.2.2.2.2.2<(a.1.Lines.length:Int)) (chk (0<=x.2.2.2.2.2.2.2.2.2.2.2/\x.2.2.2.2.2.2.2.2.2.2.2.toNat<a.1.Lines.length)<|idx a.1.Lines x.2.2.2.2.2.2.2.2.2.2.2 λy=>Option.bind (α:=(Store×UInt32×Ptr×List Change×Int×Int×UInt32×UInt32×Int×Ptr×List Int)) (cond (decide (x.2.2.2.2.2.2.2.2.1=0)) (Option.bind (α:=(Store×UInt32×Ptr×List Change×Int×Int×UInt32×UInt32×Int×Ptr×List Int)) (g ((Dr x.1 x.2.2.2.2.2.2.2.1 y.Dead).bind λd=>some<|u d x)<|(Dr x.1 x.2.2.2.2.2.2.2.1 y.Dead).bind λe=>g (some<|u e x)<|g (some<|u e x)<|some<|u e x)<|λb=>some (b.1,b.2.1,b.2.2.1,b.2.2.2.1,b.2.2.2.2.1,b.2.2.2.2.2.1,b.2.2.2.2.2.2.1,b.2.2.2.2.2.2.2.1,b.2.2.2.2.2.2.2.2.1,b.2.2.2.2.2.2.2.2.2.1,b.2.2.2.2.2.2.2.2.2.2))<|some (x.1,x.2.1,x.2.2.1,x.2.2.2.1,x.2.2.2.2.1,x.2.2.2.2.2.1,x.2.2.2.2.2.2.1,x.2.2.2.2.2.2.2.1,x.2.2.2.2.2.2.2.2.1,Ptr.mk 0 0 0 0 0,[]))<|λc=>app x.2.2.2.2.2.2.2.2.2.1 c.2.2.2.2.2.2.2.2.2.2 λm=>(Vs y c.2.2.2.2.2.2.2.2.2.1).bind λh=>app x.2.2.2.2.2.2.2.2.2.2.1 h λi=>some<|.inl (c.1,c.2.1,c.2.2.1,c.2.2.2.1,c.2.2.2.2.1,c.2.2.2.2.2.1,c.2.2.2.2.2.2.1,c.2.2.2.2.2.2.2.1,c.2.2.2.2.2.2.2.2.1,m,i,w64 (x.2.2.2.2.2.2.2.2.2.2.2+1)))<|some<|.inr (x.1,x.2.1,x.2.2.1,x.2.2.2.1,x.2.2.2.2.1,x.2.2.2.2.2.1,x.2.2.2.2.2.2.1,x.2.2.2.2.2.2.2.1,x.2.2.2.2.2.2.2.2.1,x.2.2.2.2.2.2.2.2.2.1,x.2.2.2.2.2.2.2.2.2.2.1)) λd x=>(d.1,x.2.1,x.2.2.1,x.2.2.2.1,x.2.2.2.2.1,x.2.2.2.2.2.1,x.2.2.2.2.2.2.1,x.2.2.2.2.2.2.2.1,d.2.2.2,d.2.1,d.2.2.1)
def Xl (g:{b:Type}->Option b->Option b->Option b)(y:List UInt8)(x:(Pool×UInt32×Int)×List Int×List UInt8):Option (((Pool×UInt32×Int)×List Int×List UInt8) ⊕ Unit):=(Z6 y).bind λc=>(Yq c 256).bind λd=>(KB d x.2.1 x.2.2 x.1).bind λa=>some<|.inl (a.2.2,a.1,a.2.1)
def Wg (g:{t:Type}->Option t->Option t->Option t)(a:Pool×UInt32×Int):Option (Pool×UInt32×Int):=(fun(v:_->_->_)=>(fun(w:_->_->_)=>(fun(u:_->_->_)=>(fun(y:_->_->_)=>(fun(I:_->_)=>(fun(J:_->_->_)=>Option.bind (loop (Xn g a) (a.1.Store,a.1.Gen,a.1.Root,a.1.Changes,a.1.Logged,a.1.NextId,a.1.NextGuid,a.2.1,a.2.2,0))<|Sum.elim (λj=>some (Pool.mk j.1 j.2.1 j.2.2.1 a.1.MetaL a.1.Lines a.1.Keys a.1.Loaded j.2.2.2.1 j.2.2.2.2.1 j.2.2.2.2.2.1 j.2.2.2.2.2.2.1,j.2.2.2.2.2.2.2)) λh=>(loop (Xm g a) (h.1,h.2.1,h.2.2.1,h.2.2.2.1,h.2.2.2.2.1,h.2.2.2.2.2.1,h.2.2.2.2.2.2.1,h.2.2.2.2.2.2.2.1,h.2.2.2.2.2.2.2.2,[],[],0)).bind λb=>(Yq b.2.2.2.2.2.2.2.2.2.2<|max (b.2.2.2.2.2.2.2.2.2.2.length:Int) 1).bind λz=>(QM z 240).bind λq=>Option.bind (Y4 q.1 q.2 (Xl g) ((Pool.mk b.1 b.2.1 b.2.2.1 a.1.MetaL a.1.Lines a.1.Keys a.1.Loaded b.2.2.2.1 b.2.2.2.2.1 b.2.2.2.2.2.1 b.2.2.2.2.2.2.1,(b.2.2.2.2.2.2.2.1,b.2.2.2.2.2.2.2.2.1)),b.2.2.2.2.2.2.2.2.2.1,[]))<|Sum.elim (λd=>(Yq d.2.2 64).bind λi=>Option.bind (α:=((Pool×UInt32×Int)×List Int×List UInt8)) (g (J d i)<|J d i)<|λx=>Option.bind (α:=List UInt8) (g (I x)<|I x)<|λe=>Option.bind (α:=((Pool×UInt32×Int)×List Int×List UInt8)) (g (g (w e x)<|w e x)<|g ((Yq e 16).bind λf=>g (y f x)<|g (y f x)<|app f x.2.2 λm=>g (u m x)<|u m x)<|g (w e x)<|(Yq e 16).bind λr=>g (y r x)<|app r x.2.2 λs=>g (u s x)<|u s x)<|λc=>(ZJa c.2.1).bind λA=>some (Pool.mk c.1.1.Store c.1.1.Gen c.1.1.Root A c.1.1.Lines c.1.1.Keys c.1.1.Loaded c.1.1.Changes c.1.1.Logged c.1.1.NextId c.1.1.NextGuid,c.1.2)) λ_=>none) λd i=>(ZAx d.1.1.Keys).bind λB=>(Xo B d.2.1 i d.1).bind λk=>some (k.2.2,k.1,k.2.1)) λx=>(ZCm [1,2,4,1] [82,x.1.1.NextId,(x.1.1.NextGuid.toNat:Int),(x.1.1.Lines.length:Int)]).bind λC=>some C) λf x=>app f x.2.2 λD=>(Yq D 256).bind λE=>Option.bind (v E x) λl=>some (l.2.2,l.1,l.2.1)) λm x=>(Yq m 256).bind λF=>Option.bind (v F x) λn=>some (n.2.2,n.1,n.2.1)) λe x=>(Yq e 16).bind λG=>app G x.2.2 λH=>(Yq H 256).bind λo=>Option.bind (v o x) λp=>some (p.2.2,p.1,p.2.1)) λo x=>Xo o x.2.1 x.2.2 x.1
def Qy (a:Pool×UInt32×Int):Option (Pool×UInt32×Int):=Wg (λa _=>a) a
def Gj (d:(Pool×UInt32×Int))(x:(Pool×UInt32×Int)×Int):Option (((Pool×UInt32×Int)×Int) ⊕ (Pool×UInt32×Int)):=cond (decide<|x.2<(d.1.Lines.length:Int)) (chk (0<=x.2/\x.2.toNat<x.1.1.Lines.length)<|(YE x.1.1.Changes).bind λb=>(Za b x.2 x.1.1.Lines).bind λa=>(Z4 x.2 a.1 (Pool.mk x.1.1.Store x.1.1.Gen x.1.1.Root x.1.1.MetaL a.2.1 x.1.1.Keys x.1.1.Loaded x.1.1.Changes x.1.1.Logged x.1.1.NextId x.1.1.NextGuid,x.1.2)).bind λc=>some<|.inl (c,w64 (x.2+1)))<|some<|.inr x.1
def ZAP (a:Pool):Option (Pool×UInt32×Int):=(VV a).bind λd=>Option.bind (α:=Bool) (cond (decide (d=0)) (some<|decide (a.Gen=16777215))<|some false)<|λf=>Option.bind (α:=(Pool×UInt32×Int)) (cond f (some (Pool.mk (Store.mk (Disk.mk [] []) [] 0 0) 0 (Ptr.mk 0 0 0 0 0) [] [] [] [] [] 0 0 0,((0:UInt32),9)))<|some (Pool.mk (Store.mk (Disk.mk [] []) [] 0 0) 0 (Ptr.mk 0 0 0 0 0) [] [] [] [] [] 0 0 0,((0:UInt32),d)))<|λx=>cond (!(decide (x.2.2=0))) (some x)<|Option.bind (α:=(Pool×UInt32×Int)) ((V6 a).bind λg=>some (g,(a.Gen+(1:UInt32),x.2.2)))<|λe=>(loop (Gj e) (e,0)).bind λb=>(Qy b).bind λc=>some c
def ZLu (a:Disk):Option (Disk×Disk):=(leftF a).bind λx=>some (x,a)
abbrev Do:=@WR
def ZER (a:Disk):Option (Disk×Int):=(Do a true a).bind λx=>some (x.1,x.2.1)
def ZI1 (a:Label):Option Bool:=cond (decide (1<=a.Gen)) (cond (decide (a.Gen<=16777215)) (cond (decide (1<=a.Epoch)) (cond (decide (a.Epoch<=65535)) (cond (!(decide (a.Root.At=0)&&(decide (a.Root.Birth=0)&&(decide (a.Root.Iv=0)&&(decide (a.Root.Tag=0)&&(decide (a.Root.Sum=0)&&true)))))) ((YP a.Root).bind λx=>some<|decide (x=0))<|some false)<|some false)<|some false)<|some false)<|some false
def ZHB (a:UInt32):Option Int:=some ((a%(4:UInt32)).toNat:Int)
def QU (a:List UInt8):Option (List UInt8×List UInt8):=app [] a λm=>some (m,a)
abbrev Wx:=@Vb
abbrev ZGy:=@ZEv
abbrev ZGx:=@ZEu
def ZEt (a:List UInt8):Option (UInt32×UInt32×UInt32×UInt32×List UInt8):=(QU a).bind λc=>(Wx c.1).bind λe=>chk (0< [(1:UInt8)].length)<|app e [(1:UInt8)] λm=>(loop (ZGy) m).bind λf=>(QV f 8).bind λd=>Option.bind (Y4 d.1 d.2 (ZGx) ((1:UInt32),(2:UInt32),(3:UInt32),(4:UInt32)))<|Sum.elim (λx=>(KE x.1 (x.2.1^^^(u32i (c.2.length:Int))) x.2.2.1 x.2.2.2 8).bind λb=>some (b.1,b.2.1,b.2.2.1,b.2.2.2,c.2)) λ_=>none
def ZG0 (a:List UInt8):Option (UInt32×List UInt8):=(ZEt a).bind λx=>some (x.1,x.2.2.2.2)
def ZEw (a:Label):Option (List UInt8):=(Zz (a.Gen.toNat:Int) 4).bind λc=>(Zz (a.Epoch.toNat:Int) 4).bind λd=>(Ve a.Root).bind λe=>app [(67:UInt8)] c.1 λf=>app f d.1 λg=>app g e.1 λh=>(ZG0 h).bind λx=>(Zz (x.1.toNat:Int) 4).bind λi=>app x.2 i.1 λj=>mks 227 (0:UInt8) λm=>app j m λb=>some b
def ZI2 (a:Disk)(b:Label):Option (Disk×Int):=(Vl a).bind λx=>cond (!(decide (x=0))) (some (Disk.mk [] [],x))<|(ZI1 b).bind λd=>cond (!d) (some (Disk.mk [] [],8))<|(ZHB b.Gen).bind λe=>(ZEw b).bind λf=>(GW a e f).bind λc=>some (c.1,c.2)
def DA (a:Pool×UInt32×Int):Option (Pool×UInt32×Int):=Option.bind (α:=(Store×UInt32×Ptr×List (List UInt8)×List Change×Int×Int×UInt32×UInt32×Int)) (cond (decide (a.2.2=0)) ((ZER a.1.Store.Disk).bind λb=>some (Store.mk b.1 a.1.Store.Space a.1.Store.Epoch a.1.Store.Count,a.1.Gen,a.1.Root,a.1.Keys,a.1.Changes,a.1.Logged,a.1.NextId,a.1.NextGuid,a.2.1,b.2))<|some (a.1.Store,a.1.Gen,a.1.Root,a.1.Keys,a.1.Changes,a.1.Logged,a.1.NextId,a.1.NextGuid,a.2.1,a.2.2))<|λx=>cond (decide (x.2.2.2.2.2.2.2.2.2=0)) ((ZI2 x.1.Disk<|Label.mk x.2.2.2.2.2.2.2.2.1 x.1.Epoch x.2.2.1).bind λc=>some (Pool.mk (Store.mk c.1 x.1.Space x.1.Epoch x.1.Count) x.2.1 x.2.2.1 a.1.MetaL a.1.Lines x.2.2.2.1 a.1.Loaded x.2.2.2.2.1 x.2.2.2.2.2.1 x.2.2.2.2.2.2.1 x.2.2.2.2.2.2.2.1,(x.2.2.2.2.2.2.2.2.1,c.2)))<|some (Pool.mk x.1 x.2.1 x.2.2.1 a.1.MetaL a.1.Lines x.2.2.2.1 a.1.Loaded x.2.2.2.2.1 x.2.2.2.2.2.1 x.2.2.2.2.2.2.1 x.2.2.2.2.2.2.2.1,x.2.2.2.2.2.2.2.2)
def ZEZ (a:List UInt8)(b:List UInt8)(c:List UInt8)(g:Int)(x:List UInt8×Int×Int×Int):Option ((List UInt8×Int×Int×Int) ⊕ (List UInt8×Int×Int)):=cond (decide (x.2.2.2<g)) (slc a x.2.2.1 (a.length:Int) λh=>(ZAG h b).bind λf=>chk (0<=x.2.1/\x.2.1<=(x.1.length:Int))<|slc a x.2.2.1 (w64 (x.2.2.1+f)) λm=>cpyO x.1 x.2.1 (x.1.length:Int) m λd=>chk (0<=w64 (x.2.1+(min (m.length:Int)<|(x.1.length:Int)-x.2.1))/\(w64<|x.2.1+(min (m.length:Int)<|(x.1.length:Int)-x.2.1))<=(d.length:Int))<|cpyO d (w64<|x.2.1+(min (m.length:Int)<|(x.1.length:Int)-x.2.1)) (d.length:Int) c λe=>some<|.inl (e,w64<|(w64<|x.2.1+(min (m.length:Int)<|(x.1.length:Int)-x.2.1))+(min (c.length:Int)<|(d.length:Int)-(w64<|x.2.1+(min (m.length:Int)<|(x.1.length:Int)-x.2.1))),w64<|(w64 (x.2.2.1+f))+(b.length:Int),w64 (x.2.2.2+1)))<|some<|.inr (x.1,x.2.1,x.2.2.1)
def ZEY (a:List UInt8)(b:Int)(x:Int×Nat×Nat):Option ((Int×Nat×Nat) ⊕ (Int×Nat)):=cond (decide<|(x.2.2:Int)<w64 (b-1)) (slc a (x.2.1:Int) (a.length:Int) λm=>none)<|some<|.inr (x.1,x.2.1)
def ZBg (a:List UInt8)(b:List UInt8)(c:List UInt8)(d:Int):Option (List UInt8):=Option.bind (α:=Int) (cond (!(decide (d=0))) ((ZAI a b).bind λn=>some n)<|some 0)<|λh=>cond (decide (h=0)) (app [] a λo=>some o)<|Option.bind (α:=Bool) (cond (decide (d<0)) (some true)<|some<|decide (h<d))<|λp=>Option.bind (α:=Int) (cond p (some h)<|some d)<|λi=>mks (w64<|(a.length:Int)+(w64<|i*(w64<|(c.length:Int)-(b.length:Int)))) (0:UInt8) λm=>Option.bind (α:=(List UInt8×Int×Int)) (cond (decide<|0<(b.length:Int)) ((loop (ZEZ a b c i) (m,0,0,0)).bind λe=>some (e.1,e.2.1,e.2.2))<|chk (0<=(0:Int)/\0<=(m.length:Int))<|cpyO m 0 (m.length:Int) c λj=>(loop (ZEY a i) (w64<|0+(min (c.length:Int)<|(m.length:Int)-0),0,0)).bind λf=>some (j,f.1,(f.2:Int)))<|λx=>chk (0<=x.2.1/\x.2.1<=(x.1.length:Int))<|slc a x.2.2 (a.length:Int) λg=>cpyO x.1 x.2.1 (x.1.length:Int) g λk=>slc k 0 (w64<|x.2.1+(min (g.length:Int)<|(x.1.length:Int)-x.2.1)) λl=>some l
def Gf (a:List UInt8)(b:List UInt8)(c:List UInt8):Option (List UInt8):=(ZBg a b c (-1)).bind λx=>some x
def ZCs (a:List UInt8):Option (List UInt8×Int):=(V8 a).bind λx=>cond (!(decide (x=0))) (some ([],x))<|(Gf a [(2:UInt8)] [(0:UInt8)]).bind λb=>some (b,0)
def ZAu (a:Pool×UInt32×Int):Option (Pool×UInt32×Int):=Option.bind (α:=(Store×UInt32×Ptr×List (List UInt8)×List Change×Int×Int×UInt32×UInt32×Int)) (cond (decide (a.2.2=0)) ((ZER a.1.Store.Disk).bind λc=>some (Store.mk c.1 a.1.Store.Space a.1.Store.Epoch a.1.Store.Count,a.1.Gen,a.1.Root,a.1.Keys,a.1.Changes,a.1.Logged,a.1.NextId,a.1.NextGuid,a.2.1,c.2))<|some (a.1.Store,a.1.Gen,a.1.Root,a.1.Keys,a.1.Changes,a.1.Logged,a.1.NextId,a.1.NextGuid,a.2.1,a.2.2))<|λx=>Option.bind (α:=(Store×UInt32×Ptr×List (List UInt8)×List Change×Int×Int×UInt32×UInt32×Int)) (cond (decide (x.2.2.2.2.2.2.2.2.2=0)) ((ZCs x.1.Space).bind λd=>some (Store.mk x.1.Disk d.1 x.1.Epoch x.1.Count,x.2.1,x.2.2.1,x.2.2.2.1,x.2.2.2.2.1,x.2.2.2.2.2.1,x.2.2.2.2.2.2.1,x.2.2.2.2.2.2.2.1,x.2.2.2.2.2.2.2.2.1,d.2))<|some (x.1,x.2.1,x.2.2.1,x.2.2.2.1,x.2.2.2.2.1,x.2.2.2.2.2.1,x.2.2.2.2.2.2.1,x.2.2.2.2.2.2.2.1,x.2.2.2.2.2.2.2.2.1,x.2.2.2.2.2.2.2.2.2))<|λb=>some (Pool.mk b.1 b.2.2.2.2.2.2.2.2.1 b.2.2.1 a.1.MetaL a.1.Lines b.2.2.2.1 a.1.Loaded [] 0 b.2.2.2.2.2.2.1 b.2.2.2.2.2.2.2.1,b.2.2.2.2.2.2.2.2)
def Gk (g:{b:Type}->Option b->Option b->Option b)(a:Pool):Option (Pool×Int):=(fun(u:_->_)=>(ZAP a).bind λd=>(DA d).bind λe=>(ZAu e).bind λx=>cond (!(decide (x.2.2=0))) (Option.bind (α:=(Pool×Int)) (g (u x.2.2)<|u x.2.2)<|λc=>some (c.1,c.2))<|some (x.1,0)) λx=>some (Pool.mk (Store.mk (Disk.mk [] []) [] 0 0) 0 (Ptr.mk 0 0 0 0 0) [] [] [] [] [] 0 0 0,x)
def UN (a:Pool):Option (Pool×Int):=Gk (λa _=>a) a
def ZFY (e:Int->Int->Option (List UInt8×Int))(q:(List UInt8)->Option (List UInt8))(b:(List<|List UInt8)->Option (List UInt8))(a:List UInt8)(x:List UInt8×Int):Option ((List UInt8×Int) ⊕ List UInt8):=cond (decide (x.2<32)) (chk (a.length<=LIM)<|(b [x.1,[u8i x.2],a]).bind λc=>(q c).bind λd=>some<|.inl (d,w64 (x.2+1)))<|some<|.inr x.1
def B9 (q:Int->Int->Option (List UInt8×Int))(c:(List UInt8)->Option (List UInt8))(d:(List<|List UInt8)->Option (List UInt8))(a:List UInt8)(b:UInt32):Option (List UInt8×Int):=cond (decide<|64<(a.length:Int)) (some ([],3))<|(q (b.toNat:Int) 4).bind λx=>chk (a.length<=LIM)<|app a x.1 λm=>(c m).bind λe=>(loop (ZFY q c d a) (e,0)).bind λf=>some (f,0)
def ZCk (a:List UInt8)(b:UInt32):Option (List UInt8×Int):=B9 Zz ZAV Zf a b
def ZDs (a:List UInt8):Option (UInt8×UInt8×UInt8×UInt8×UInt8×UInt8×UInt8×UInt8×UInt8×UInt8×UInt8×UInt8×UInt8×UInt8×UInt8×UInt8):=(Z6 a).bind λk=>app k [(1:UInt8)] λm=>(ZAV m).bind λx=>idx x 0 λl=>idx x 1 λn=>idx x 2 λo=>idx x 3 λp=>idx x 4 λq=>idx x 5 λr=>idx x 6 λy=>idx x 7 λb=>idx x 8 λc=>idx x 9 λd=>idx x 10 λe=>idx x 11 λf=>idx x 12 λg=>idx x 13 λh=>idx x 14 λi=>idx x 15 λj=>some (l,n,o,p,q,r,y,b,c,d,e,f,g,h,i,j)
def ZAt (a:UInt8)(b:UInt8)(c:UInt8)(d:UInt8)(e:UInt8)(f:UInt8)(g:UInt8)(h:UInt8)(j:UInt8)(k:UInt8)(l:UInt8)(p:UInt8)(q:UInt8)(r:UInt8)(t:UInt8)(u:UInt8)(v:UInt8)(F:UInt8)(z:UInt8)(i:UInt8)(m:UInt8)(n:UInt8)(o:UInt8)(s:UInt8)(w:UInt8)(x:UInt8)(y:UInt8)(A:UInt8)(B:UInt8)(C:UInt8)(D:UInt8)(E:UInt8):Option (UInt8×UInt8×UInt8×UInt8×UInt8×UInt8×UInt8×UInt8×UInt8×UInt8×UInt8×UInt8×UInt8×UInt8×UInt8×UInt8):=some (a^^^v,b^^^F,c^^^z,d^^^i,e^^^m,f^^^n,g^^^o,h^^^s,j^^^w,k^^^x,l^^^y,p^^^A,q^^^B,r^^^C,t^^^D,u^^^E)
def ZEe (a:List UInt8)(b:List UInt8):Option (List UInt8):=(ZGB a b).bind λx=>(Zz (x.1.toNat:Int) 4).bind λc=>(Z6 b).bind λd=>app d c.1 λm=>some m
def B8 (g:{w:Type}->Option w->Option w->Option w)(a:List UInt8)(b:List UInt8)(c:UInt32):Option (List UInt8×Int):=(fun(z:_->_->_)=>(fun(A:_->_->_->_->_->_->_->_->_->_->_->_->_->_->_->_->_->_)=>(ZCk a c).bind λo=>cond (!(decide (o.2=0))) (some ([],o.2))<|cond (!(decide<|(b.length:Int)=16)) (some ([],2))<|(Zz (c.toNat:Int) 4).bind λG=>Option.bind (α:=(List UInt8×UInt8×UInt8×UInt8×UInt8×UInt8×UInt8×UInt8×UInt8×UInt8×UInt8×UInt8×UInt8×UInt8×UInt8×UInt8×UInt8)) (idx b 0 λp=>idx b 1 λq=>idx b 2 λr=>idx b 3 λs=>idx b 4 λt=>idx b 5 λu=>idx b 6 λv=>idx b 7 λy=>idx b 8 λf=>idx b 9 λh=>idx b 10 λi=>idx b 11 λj=>idx b 12 λk=>idx b 13 λl=>idx b 14 λm=>idx b 15 λn=>g ((ZDs o.1).bind λx=>g (Option.bind (A p q r s t u v y f h i j k l m n x) λd=>some<|z o.1 d)<|Option.bind (A p q r s t u v y f h i j k l m n x) λB=>some<|z o.1 B)<|(ZDs o.1).bind λC=>Option.bind (A p q r s t u v y f h i j k l m n C) λD=>some<|z o.1 D)<|λe=>app G.1 [e.2.1,e.2.2.1,e.2.2.2.1,e.2.2.2.2.1,e.2.2.2.2.2.1,e.2.2.2.2.2.2.1,e.2.2.2.2.2.2.2.1,e.2.2.2.2.2.2.2.2.1,e.2.2.2.2.2.2.2.2.2.1,e.2.2.2.2.2.2.2.2.2.2.1,e.2.2.2.2.2.2.2.2.2.2.2.1,e.2.2.2.2.2.2.2.2.2.2.2.2.1,e.2.2.2.2.2.2.2.2.2.2.2.2.2.1,e.2.2.2.2.2.2.2.2.2.2.2.2.2.2.1,e.2.2.2.2.2.2.2.2.2.2.2.2.2.2.2.1,e.2.2.2.2.2.2.2.2.2.2.2.2.2.2.2.2] λE=>(ZEe e.1 E).bind λF=>some (F,0)) λp q r s t u v y f h i j k l m n x=>ZAt p q r s t u v y f h i j k l m n x.1 x.2.1 x.2.2.1 x.2.2.2.1 x.2.2.2.2.1 x.2.2.2.2.2.1 x.2.2.2.2.2.2.1 x.2.2.2.2.2.2.2.1 x.2.2.2.2.2.2.2.2.1 x.2.2.2.2.2.2.2.2.2.1 x.2.2.2.2.2.2.2.2.2.2.1 x.2.2.2.2.2.2.2.2.2.2.2.1 x.2.2.2.2.2.2.2.2.2.2.2.2.1 x.2.2.2.2.2.2.2.2.2.2.2.2.2.1 x.2.2.2.2.2.2.2.2.2.2.2.2.2.2.1 x.2.2.2.2.2.2.2.2.2.2.2.2.2.2.2) λo d=>(o,d.1,d.2.1,d.2.2.1,d.2.2.2.1,d.2.2.2.2.1,d.2.2.2.2.2.1,d.2.2.2.2.2.2.1,d.2.2.2.2.2.2.2.1,d.2.2.2.2.2.2.2.2.1,d.2.2.2.2.2.2.2.2.2.1,d.2.2.2.2.2.2.2.2.2.2.1,d.2.2.2.2.2.2.2.2.2.2.2.1,d.2.2.2.2.2.2.2.2.2.2.2.2.1,d.2.2.2.2.2.2.2.2.2.2.2.2.2.1,d.2.2.2.2.2.2.2.2.2.2.2.2.2.2.1,d.2.2.2.2.2.2.2.2.2.2.2.2.2.2.2)
def ZAN (a:List UInt8)(b:List UInt8)(c:UInt32):Option (List UInt8×Int):=B8 (λa _=>a) a b c
def ZBH (a:List UInt8):Option Bool:=some<|decide<|(a.length:Int)=0
def Gp (a:List (List UInt8))(x:Nat):Option (Nat ⊕ (Nat ⊕ Unit)):=cond (decide<|(x:Int)<(a.length:Int)) (idx a (x:Int) λy=>(ZBH y).bind λb=>cond b (some<|.inr<|.inl x)<|some<|.inl (x+1))<|some<|.inr<|.inr ()
def Wu (a:List (List UInt8)):Option Int:=Option.bind (loop (Gp a) 0)<|Sum.elim (λx=>some (x:Int)) λb=>some (-1)
def Jq (g:{k:Type}->Option k->Option k->Option k)(a:Pool)(b:List UInt8)(c:List UInt8):Option (Pool×Int×Int):=(λu=>(λl=>(fun(n:_->_)=>(fun(s:_->_->_->_)=>(fun(t:_->_->_->_->_)=>(VV a).bind λj=>cond (!(decide (j=0))) (n j)<|cond (!(decide<|(c.length:Int)=16)) (some (Pool.mk l 0 u [] [] [] [] [] 0 0 0,0,3))<|(ZAN b c a.NextGuid).bind λh=>cond (!(decide (h.2=0))) (n h.2)<|(Wu a.Keys).bind λe=>Option.bind (α:=Bool) (cond (decide<|(a.Lines.length:Int)=16) (some true)<|cond (decide (255<a.NextId)) (some true)<|cond (decide (4294967293<a.NextGuid)) (some true)<|some<|decide (e<0))<|λv=>cond v (some (Pool.mk l 0 u [] [] [] [] [] 0 0 0,0,9))<|(V6 a).bind λd=>Option.bind (α:=(Disk×UInt32×UInt32×UInt32×Ptr×List (List UInt8)×List (List UInt8)×Int×Int×UInt32)) (g ((YI c).bind λw=>chk (0<=e/\e.toNat<d.Keys.length)<|setI d.Keys e h.1 λo=>chk (0<=e/\e.toNat<d.Loaded.length)<|setI d.Loaded e w λm=>some<|s d o m)<|(YI c).bind λf=>chk (0<=e/\e.toNat<d.Keys.length)<|g (t d e h.1 f) (t d e h.1 f))<|λx=>app d.Lines [Line.mk x.2.2.2.2.2.2.2.2.1 1 x.2.2.2.2.2.2.2.2.1 0 x.2.2.2.1 x.2.2.2.2.2.2.2.2.2 e u []] λp=>(UN<|Pool.mk (Store.mk x.1 d.Store.Space x.2.1 x.2.2.1) x.2.2.2.1 x.2.2.2.2.1 d.MetaL p x.2.2.2.2.2.1 x.2.2.2.2.2.2.1 d.Changes x.2.2.2.2.2.2.2.1 (w64 (x.2.2.2.2.2.2.2.2.1+1))<|x.2.2.2.2.2.2.2.2.2+(2:UInt32)).bind λi=>cond (!(decide (i.2=0))) (n i.2)<|some (i.1,x.2.2.2.2.2.2.2.2.1,0)) λd e h f=>setI d.Keys e h λq=>chk (0<=e/\e.toNat<d.Loaded.length)<|setI d.Loaded e f λr=>some<|s d q r) λd o m=>(d.Store.Disk,d.Store.Epoch,d.Store.Count,d.Gen,d.Root,o,m,d.Logged,d.NextId,d.NextGuid)) λj=>some (Pool.mk l 0 u [] [] [] [] [] 0 0 0,0,j))<|Store.mk (Disk.mk [] []) [] 0 0)<|Ptr.mk 0 0 0 0 0
def WT (a:Pool)(b:List UInt8)(c:List UInt8):Option (Pool×Int×Int):=Jq (λa _=>a) a b c
def ZFA (a:Line)(b:Int):Option (Bool×Int):=some (decide (a.Id=b),b)
def VL (a:List Line)(x:Int×Int):Option ((Int×Int) ⊕ ((Int×Int) ⊕ Int)):=cond (decide<|x.2<(a.length:Int)) (idx a x.2 λy=>(ZFA y x.1).bind λb=>cond b.1 (some<|.inr<|.inl (b.2,x.2))<|some<|.inl (b.2,w64 (x.2+1)))<|some<|.inr<|.inr x.1
def X3 (a:List Line)(b:Int):Option (Int×Int):=Option.bind (loop (VL a) (b,0))<|Sum.elim (λx=>some (x.2,x.1)) λc=>some ((-1),c)
def ZEU (a:Pool)(b:Int):Option (Line×Int):=(VV a).bind λx=>cond (!(decide (x=0))) (some (Line.mk 0 0 0 0 0 0 0 (Ptr.mk 0 0 0 0 0) [],x))<|(X3 a.Lines b).bind λc=>cond (decide (c.1<0)) (some (Line.mk 0 0 0 0 0 0 0 (Ptr.mk 0 0 0 0 0) [],6))<|idx a.Lines c.1 λy=>some (y,0)
def Du (a:Pool)(b:Int):Option (Line×Int):=(ZEU a b).bind λx=>Option.bind (α:=Bool) (cond (decide (x.2=0)) (some<|decide (x.1.Kind=2))<|some false)<|λc=>Option.bind (α:=Int) (cond c (some 202)<|some x.2)<|λd=>some (x.1,d)
def GA (a:List Int)(b:Int):Option (List Int×Int):=cond (decide (b<1)) (none)<|some (a,b)
def ZHi (y:List Int)(d:Unit):Option (Unit ⊕ Unit):=Option.bind (α:=Bool) (idx y 0 λa=>cond (decide (a<0)) (some true)<|idx y 0 λb=>idx y 1 λc=>some<|decide (c<=b))<|λx=>cond x (some<|.inr ())<|some<|.inl ()
def Dv (a:List Int):Option Bool:=(GA a 2).bind λx=>Option.bind (Y4 x.1 x.2 (ZHi) ())<|Sum.elim (λb=>some true) λc=>some false
def Uk (a:Change)(b:Int×Int×Int):Option Int:=(Zs a.Set b.1).bind λx=>(Zs a.Obj b.2.1).bind λc=>(Zs a.Index b.2.2).bind λd=>(ZCZ [x,c,d]).bind λe=>some e
def Y3 (a:List Change)(b:Int×Int×Int)(x:Int×Int):Option ((Int×Int) ⊕ Int):=cond (decide (x.1<x.2)) (chk (0<=(1:Int))<|idx a (w64 ((sr64 (u64i<|w64 (x.1+x.2)) 1).toNat:Int)) λy=>(Uk y b).bind λc=>cond (decide (c<0)) (some<|.inl (w64<|(w64 ((sr64 (u64i<|w64 (x.1+x.2)) 1).toNat:Int))+1,x.2))<|some<|.inl (x.1,w64 ((sr64 (u64i<|w64 (x.1+x.2)) 1).toNat:Int)))<|some<|.inr x.1
def YD (a:List Change)(b:Int×Int×Int):Option (Int×Bool):=(loop (Y3 a b) (0,(a.length:Int))).bind λx=>cond (decide<|x<(a.length:Int)) (idx a x λy=>(Uk y b).bind λc=>some (x,decide (c=0)))<|some (x,false)
def ZFB (a:Pool)(b:Int×Int×Int):Option (Change×Bool):=(YD a.Changes b).bind λx=>cond (!x.2) (some (Change.mk 0 0 0 0 0 0 []<|Ptr.mk 0 0 0 0 0,false))<|idx a.Changes x.1 λy=>some (y,true)
def Dw (a:Pool)(b:Line)(c:Int):Option (Object×Int):=(Vc a.Store b.Root c).bind λx=>cond (decide (x.2=6)) (mks 15 (Ptr.mk 0 0 0 0 0) λm=>some (Object.mk 0 0 0 m,0))<|some (x.1,x.2)
def ZET (a:Pool)(b:Line)(c:Int):Option (Change×Int):=(ZFB a (b.Id,(c,15))).bind λd=>Option.bind (α:=(Change×Int) ⊕ Change) (cond (!d.2) ((Dw a b c).bind λx=>cond (!(decide (x.2=0))) (some<|.inl (Change.mk 0 0 0 0 0 0 []<|Ptr.mk 0 0 0 0 0,x.2))<|some<|.inr<|Change.mk 0 0 0 x.1.Kind x.1.Links x.1.Size []<|Ptr.mk 0 0 0 0 0)<|some<|.inr d.1)<|Sum.elim (λe=>some (e.1,e.2)) λf=>cond (decide (f.Kind=0)) (some (Change.mk 0 0 0 0 0 0 []<|Ptr.mk 0 0 0 0 0,6))<|some (f,0)
def VX (a:Store)(b:Ptr):Option (Store×Int):=Option.bind (α:=Bool) ((XB a).bind λc=>cond (!(decide (c=0))) (some true)<|(YP b).bind λd=>some<|!(decide (d=0)))<|λe=>cond e (some (Store.mk (Disk.mk [] []) [] 0 0,8))<|cond (decide (b.At=0)&&(decide (b.Birth=0)&&(decide (b.Iv=0)&&(decide (b.Tag=0)&&(decide (b.Sum=0)&&true))))) (some (Store.mk (Disk.mk [] []) [] 0 0,6))<|(UO a.Space b.At).bind λx=>cond (!(decide (x.2=0))) (some (Store.mk (Disk.mk [] []) [] 0 0,x.2))<|(twinF a.Disk).bind λf=>some (Store.mk f x.1 a.Epoch a.Count,0)
def Yn (a:List Change)(b:Int×Int×Int)(x:Int×Int):Option ((Int×Int) ⊕ Int):=cond (decide (x.1<x.2)) (chk (0<=(1:Int))<|chk (0<=w64 ((sr64 (u64i<|w64 (x.1+x.2)) 1).toNat:Int)/\(w64 ((sr64 (u64i<|w64 (x.1+x.2)) 1).toNat:Int)).toNat<a.length)<|idx a (w64 ((sr64 (u64i<|w64 (x.1+x.2)) 1).toNat:Int)) λy=>(Uk y b).bind λc=>cond (decide (c<0)) (some<|.inl (w64<|(w64 ((sr64 (u64i<|w64 (x.1+x.2)) 1).toNat:Int))+1,x.2))<|some<|.inl (x.1,w64 ((sr64 (u64i<|w64 (x.1+x.2)) 1).toNat:Int)))<|some<|.inr x.1
def ZJ (a:List Change)(b:Int×Int×Int):Option (Int×Bool×List Change):=(loop (Yn a b) (0,(a.length:Int))).bind λx=>cond (decide<|x<(a.length:Int)) (chk (0<=x/\x.toNat<a.length)<|idx a x λy=>(Uk y b).bind λc=>some (x,decide (c=0),a))<|some (x,false,a)
def ZHj (a:Pool)(b:Int×Int×Int):Option (Change×Bool×List UInt8×List Int×List Line×List (List UInt8)×List (List UInt8)×List Change):=(ZJ a.Changes b).bind λx=>cond (!x.2.1) (some (Change.mk 0 0 0 0 0 0 []<|Ptr.mk 0 0 0 0 0,false,a.Store.Space,a.MetaL,a.Lines,a.Keys,a.Loaded,x.2.2))<|chk (0<=x.1/\x.1.toNat<x.2.2.length)<|idx x.2.2 x.1 λy=>some (y,true,a.Store.Space,a.MetaL,a.Lines,a.Keys,a.Loaded,x.2.2)
def Yj (a:Int)(b:Bool)(c:Change)(d:Int)(e:Pool):Option (Int×Bool×Change×Int×Pool):=cond (!(decide (a=0))) (some (a,b,c,d,e))<|cond b (chk (0<=d/\d.toNat<e.Changes.length)<|setI e.Changes d c λm=>some (a,b,c,d,Pool.mk e.Store e.Gen e.Root e.MetaL e.Lines e.Keys e.Loaded m e.Logged e.NextId e.NextGuid))<|Option.bind ((insO (α:=Change)) e.Changes d [c]) λx=>some (a,b,c,d,Pool.mk e.Store e.Gen e.Root e.MetaL e.Lines e.Keys e.Loaded x e.Logged e.NextId e.NextGuid)
def YX (a:Int)(b:Bool)(c:Change)(d:Int)(e:Pool):Option (Int×Bool×Change×Int×Pool):=cond (!(decide (a=0))) (some (a,b,c,d,e))<|cond b (chk (0<=d/\d.toNat<e.Changes.length)<|setI e.Changes d c λm=>some (a,b,c,d,Pool.mk e.Store e.Gen e.Root e.MetaL e.Lines e.Keys e.Loaded m e.Logged e.NextId e.NextGuid))<|Option.bind ((insO (α:=Change)) e.Changes d [c]) λx=>some (a,b,c,d,Pool.mk e.Store e.Gen e.Root e.MetaL e.Lines e.Keys e.Loaded x e.Logged e.NextId e.NextGuid)
def GX (a:Change)(b:Pool):Option (Int×Pool):=Option.bind (α:=(Disk×UInt32×UInt32×UInt32×Ptr×List Change×Int×Int×UInt32×Int×Bool)) ((ZJ b.Changes (a.Set,(a.Obj,a.Index))).bind λh=>some (b.Store.Disk,b.Store.Epoch,b.Store.Count,b.Gen,b.Root,h.2.2,b.Logged,b.NextId,b.NextGuid,h.1,h.2.1))<|λx=>Option.bind (α:=Bool) (cond x.2.2.2.2.2.2.2.2.2.2 (chk (0<=x.2.2.2.2.2.2.2.2.2.1/\x.2.2.2.2.2.2.2.2.2.1.toNat<x.2.2.2.2.2.1.length)<|idx x.2.2.2.2.2.1 x.2.2.2.2.2.2.2.2.2.1 λy=>some<|!(decide (y.Laid.At=0)&&(decide (y.Laid.Birth=0)&&(decide (y.Laid.Iv=0)&&(decide (y.Laid.Tag=0)&&(decide (y.Laid.Sum=0)&&true))))))<|some false)<|λj=>cond j (Option.bind (α:=(Store×UInt32×Ptr×Int×Int×UInt32×Int×Store)) (chk (0<=x.2.2.2.2.2.2.2.2.2.1/\x.2.2.2.2.2.2.2.2.2.1.toNat<x.2.2.2.2.2.1.length)<|idx x.2.2.2.2.2.1 x.2.2.2.2.2.2.2.2.2.1 λi=>(VX (Store.mk x.1 b.Store.Space x.2.1 x.2.2.1) i.Laid).bind λd=>some (Store.mk x.1 b.Store.Space x.2.1 x.2.2.1,x.2.2.2.1,x.2.2.2.2.1,x.2.2.2.2.2.2.1,x.2.2.2.2.2.2.2.1,x.2.2.2.2.2.2.2.2.1,d.2,d.1))<|λc=>cond (!(decide (c.2.2.2.2.2.2.1=0))) ((Yj c.2.2.2.2.2.2.1 x.2.2.2.2.2.2.2.2.2.2 a x.2.2.2.2.2.2.2.2.2.1<|Pool.mk c.1 c.2.1 c.2.2.1 b.MetaL b.Lines b.Keys b.Loaded x.2.2.2.2.2.1 c.2.2.2.1 c.2.2.2.2.1 c.2.2.2.2.2.1).bind λe=>some (e.1,e.2.2.2.2))<|(YX 0 x.2.2.2.2.2.2.2.2.2.2 a x.2.2.2.2.2.2.2.2.2.1<|Pool.mk c.2.2.2.2.2.2.2 c.2.1 c.2.2.1 b.MetaL b.Lines b.Keys b.Loaded x.2.2.2.2.2.1 c.2.2.2.1 c.2.2.2.2.1 c.2.2.2.2.2.1).bind λf=>some (f.1,f.2.2.2.2))<|(YX 0 x.2.2.2.2.2.2.2.2.2.2 a x.2.2.2.2.2.2.2.2.2.1<|Pool.mk (Store.mk x.1 b.Store.Space x.2.1 x.2.2.1) x.2.2.2.1 x.2.2.2.2.1 b.MetaL b.Lines b.Keys b.Loaded x.2.2.2.2.2.1 x.2.2.2.2.2.2.1 x.2.2.2.2.2.2.2.1 x.2.2.2.2.2.2.2.2.1).bind λg=>some (g.1,g.2.2.2.2)
def Ul (a:Pool)(b:Int×Int×Int):Option (Change×Bool×List Int×List Line×List (List UInt8)×List (List UInt8)×List Change):=(ZJ a.Changes b).bind λx=>cond (!x.2.1) (some (Change.mk 0 0 0 0 0 0 []<|Ptr.mk 0 0 0 0 0,false,a.MetaL,a.Lines,a.Keys,a.Loaded,x.2.2))<|chk (0<=x.1/\x.1.toNat<x.2.2.length)<|idx x.2.2 x.1 λy=>some (y,true,a.MetaL,a.Lines,a.Keys,a.Loaded,x.2.2)
def Qe (a:Change)(b:Pool):Option (Int×Pool):=Option.bind (α:=(Store×UInt32×Ptr×List Change×Int×Int×UInt32×Int×Bool)) ((ZJ b.Changes (a.Set,(a.Obj,a.Index))).bind λh=>some (b.Store,b.Gen,b.Root,h.2.2,b.Logged,b.NextId,b.NextGuid,h.1,h.2.1))<|λx=>Option.bind (α:=Bool) (cond x.2.2.2.2.2.2.2.2 (chk (0<=x.2.2.2.2.2.2.2.1/\x.2.2.2.2.2.2.2.1.toNat<x.2.2.2.1.length)<|idx x.2.2.2.1 x.2.2.2.2.2.2.2.1 λy=>some<|!(decide (y.Laid.At=0)&&(decide (y.Laid.Birth=0)&&(decide (y.Laid.Iv=0)&&(decide (y.Laid.Tag=0)&&(decide (y.Laid.Sum=0)&&true))))))<|some false)<|λj=>cond j (Option.bind (α:=(Int×Store)) (chk (0<=x.2.2.2.2.2.2.2.1/\x.2.2.2.2.2.2.2.1.toNat<x.2.2.2.1.length)<|idx x.2.2.2.1 x.2.2.2.2.2.2.2.1 λi=>(VX x.1 i.Laid).bind λd=>some (d.2,d.1))<|λc=>cond (!(decide (c.1=0))) ((Yj c.1 x.2.2.2.2.2.2.2.2 a x.2.2.2.2.2.2.2.1<|Pool.mk x.1 x.2.1 x.2.2.1 b.MetaL b.Lines b.Keys b.Loaded x.2.2.2.1 x.2.2.2.2.1 x.2.2.2.2.2.1 x.2.2.2.2.2.2.1).bind λe=>some (e.1,e.2.2.2.2))<|(YX 0 x.2.2.2.2.2.2.2.2 a x.2.2.2.2.2.2.2.1<|Pool.mk c.2 x.2.1 x.2.2.1 b.MetaL b.Lines b.Keys b.Loaded x.2.2.2.1 x.2.2.2.2.1 x.2.2.2.2.2.1 x.2.2.2.2.2.2.1).bind λf=>some (f.1,f.2.2.2.2))<|(Yj 0 x.2.2.2.2.2.2.2.2 a x.2.2.2.2.2.2.2.1<|Pool.mk x.1 x.2.1 x.2.2.1 b.MetaL b.Lines b.Keys b.Loaded x.2.2.2.1 x.2.2.2.2.1 x.2.2.2.2.2.1 x.2.2.2.2.2.2.1).bind λg=>some (g.1,g.2.2.2.2)
def Vm (b:Object)(c:Line)(d:Int)(x:Pool×Int):Option ((Pool×Int) ⊕ ((Pool×Int) ⊕ Pool)):=cond (decide<|x.2<(b.Data.length:Int)) (chk (0<=x.2/\x.2.toNat<b.Data.length)<|idx b.Data x.2 λy=>Option.bind (α:=(Pool×Bool)) ((Ul x.1 (c.Id,(d,x.2))).bind λa=>some (Pool.mk x.1.Store x.1.Gen x.1.Root a.2.2.1 a.2.2.2.1 a.2.2.2.2.1 a.2.2.2.2.2.1 a.2.2.2.2.2.2 x.1.Logged x.1.NextId x.1.NextGuid,a.2.1))<|λf=>Option.bind (α:=Bool) (cond (!f.2) (some<|decide (y.At=0)&&(decide (y.Birth=0)&&(decide (y.Iv=0)&&(decide (y.Tag=0)&&(decide (y.Sum=0)&&true)))))<|some false)<|λg=>cond g (some<|.inl (f.1,w64 (x.2+1)))<|(Qe (Change.mk c.Id d x.2 0 0 0 []<|Ptr.mk 0 0 0 0 0) f.1).bind λe=>cond (!(decide (e.1=0))) (some<|.inr<|.inl (e.2,e.1))<|some<|.inl (e.2,w64 (x.2+1)))<|some<|.inr<|.inr x.1
def Vz (a:Pool)(b:Object)(c:Line)(d:Int):Option (Int×Pool×Object×Line×Int):=Option.bind (loop (Vm b c d) (a,0))<|Sum.elim (λf=>some (f.2,f.1,b,c,d)) λe=>(Qe (Change.mk c.Id d 15 0 0 0 []<|Ptr.mk 0 0 0 0 0) e).bind λx=>some (x.1,x.2,b,c,d)
def ZJG (a:Pool)(b:Object)(c:Line)(d:Int):Option (Pool×Int×Object×Line×Int):=(V6 a).bind λe=>(Vz e b c d).bind λx=>cond (!(decide (x.1=0))) (some (Pool.mk (Store.mk (Disk.mk [] []) [] 0 0) 0 (Ptr.mk 0 0 0 0 0) [] [] [] [] [] 0 0 0,x.1,x.2.2.1,x.2.2.2.1,x.2.2.2.2))<|some (x.2.1,0,x.2.2.1,x.2.2.2.1,x.2.2.2.2)
def ZE9 (a:Pool)(b:Line)(c:Int):Option (Pool×Int):=(ZET a b c).bind λd=>cond (!(decide (d.2=0))) (some (Pool.mk (Store.mk (Disk.mk [] []) [] 0 0) 0 (Ptr.mk 0 0 0 0 0) [] [] [] [] [] 0 0 0,d.2))<|(Dw a b c).bind λx=>cond (!(decide (x.2=0))) (some (Pool.mk (Store.mk (Disk.mk [] []) [] 0 0) 0 (Ptr.mk 0 0 0 0 0) [] [] [] [] [] 0 0 0,x.2))<|(ZJG a x.1 b c).bind λe=>some (e.1,e.2.1)
def ZHk (a:Pool)(b:Int)(c:Int)(d:UInt8)(e:Int)(f:Int):Option (Int×Pool×Int×Int×UInt8×Int×Int):=(GX (Change.mk b c 15 d e f []<|Ptr.mk 0 0 0 0 0) a).bind λx=>some (x.1,x.2,b,c,d,e,f)
def ZDY (a:Pool)(b:Int)(c:Int)(d:UInt8)(e:Int)(f:Int):Option (Pool×Int×Int×Int×UInt8×Int×Int):=(V6 a).bind λg=>(ZHk g b c d e f).bind λx=>cond (!(decide (x.1=0))) (some (Pool.mk (Store.mk (Disk.mk [] []) [] 0 0) 0 (Ptr.mk 0 0 0 0 0) [] [] [] [] [] 0 0 0,x.1,x.2.2.1,x.2.2.2.1,x.2.2.2.2.1,x.2.2.2.2.2.1,x.2.2.2.2.2.2))<|some (x.2.1,0,x.2.2.1,x.2.2.2.1,x.2.2.2.2.1,x.2.2.2.2.2.1,x.2.2.2.2.2.2)
def ZHl (a:Pool)(b:Int)(c:Int)(d:UInt8)(e:Int)(f:Int):Option (Pool×Int):=(Du a b).bind λx=>cond (!(decide (x.2=0))) (some (Pool.mk (Store.mk (Disk.mk [] []) [] 0 0) 0 (Ptr.mk 0 0 0 0 0) [] [] [] [] [] 0 0 0,x.2))<|Option.bind (α:=Bool) ((Dv [c,16,(d.toNat:Int),8,e,256,f,3841]).bind λi=>cond (!i) (some true)<|cond (decide (d=0)) (some<|decide<|0<w64 (e+f))<|some false)<|λj=>cond j (some (Pool.mk (Store.mk (Disk.mk [] []) [] 0 0) 0 (Ptr.mk 0 0 0 0 0) [] [] [] [] [] 0 0 0,2))<|idx a.Loaded x.1.Key λy=>cond (decide<|(y.length:Int)=0) (some (Pool.mk (Store.mk (Disk.mk [] []) [] 0 0) 0 (Ptr.mk 0 0 0 0 0) [] [] [] [] [] 0 0 0,200))<|cond (decide (d=0)) ((ZE9 a x.1 c).bind λg=>some (g.1,g.2))<|(ZDY a b c d e f).bind λh=>some (h.1,h.2.1)
def ZFC (a:Pool)(b:Change):Option (Int×Pool×Change):=(GX b a).bind λx=>some (x.1,x.2,b)
def ZDX (a:Pool)(b:Change):Option (Pool×Int×Change):=(V6 a).bind λc=>(ZFC c b).bind λx=>cond (!(decide (x.1=0))) (some (Pool.mk (Store.mk (Disk.mk [] []) [] 0 0) 0 (Ptr.mk 0 0 0 0 0) [] [] [] [] [] 0 0 0,x.1,x.2.2))<|some (x.2.1,0,x.2.2)
def ZEV (a:Pool)(b:Int)(c:Int)(d:Int)(e:List UInt8):Option (Pool×Int):=(Du a b).bind λx=>cond (!(decide (x.2=0))) (some (Pool.mk (Store.mk (Disk.mk [] []) [] 0 0) 0 (Ptr.mk 0 0 0 0 0) [] [] [] [] [] 0 0 0,x.2))<|(Dv [c,16,d,15]).bind λh=>cond (!h) (some (Pool.mk (Store.mk (Disk.mk [] []) [] 0 0) 0 (Ptr.mk 0 0 0 0 0) [] [] [] [] [] 0 0 0,2))<|cond (decide<|256<(e.length:Int)) (some (Pool.mk (Store.mk (Disk.mk [] []) [] 0 0) 0 (Ptr.mk 0 0 0 0 0) [] [] [] [] [] 0 0 0,3))<|idx a.Loaded x.1.Key λy=>cond (decide<|(y.length:Int)=0) (some (Pool.mk (Store.mk (Disk.mk [] []) [] 0 0) 0 (Ptr.mk 0 0 0 0 0) [] [] [] [] [] 0 0 0,200))<|(ZET a x.1 c).bind λf=>cond (!(decide (f.2=0))) (some (Pool.mk (Store.mk (Disk.mk [] []) [] 0 0) 0 (Ptr.mk 0 0 0 0 0) [] [] [] [] [] 0 0 0,f.2))<|Option.bind (α:=Change) (cond (decide<|0<(e.length:Int)) (mks 256 (0:UInt8) λm=>cpyO m 0 (m.length:Int) e λi=>some<|Change.mk b c d 0 0 0 i<|Ptr.mk 0 0 0 0 0)<|some<|Change.mk b c d 0 0 0 []<|Ptr.mk 0 0 0 0 0)<|λj=>(ZDX a j).bind λg=>some (g.1,g.2.1)
def ZJH (a:Pool)(b:Int):Option (Line×Int):=(ZEU a b).bind λx=>(XC x.1.Dead).bind λc=>some (Line.mk x.1.Id x.1.Kind x.1.Owner x.1.Prev x.1.Txg x.1.Guid x.1.Key x.1.Root c,x.2)
def ZEi (a:Line)(b:Int):Option (Bool×Int):=some (decide (a.Id=b),b)
def VK (a:List Line)(x:Int×Int):Option ((Int×Int) ⊕ ((Int×Int) ⊕ Int)):=cond (decide<|x.2<(a.length:Int)) (chk (0<=x.2/\x.2.toNat<a.length)<|idx a x.2 λy=>(ZEi y x.1).bind λb=>cond b.1 (some<|.inr<|.inl (b.2,x.2))<|some<|.inl (b.2,w64 (x.2+1)))<|some<|.inr<|.inr x.1
def X2 (a:List Line)(b:Int):Option (Int×List Line×Int):=Option.bind (loop (VK a) (b,0))<|Sum.elim (λx=>some (x.2,a,x.1)) λc=>some ((-1),a,c)
abbrev ZAz:=@Gk
def DD (a:Pool):Option (Pool×Int):=ZAz (λa _=>a) a
def DJ (g:{o:Type}->Option o->Option o->Option o)(a:Pool)(b:Int):Option (Pool×Int×Int):=(fun(u:_->_->_->_)=>(fun(j:_->_->_->_->_)=>(fun(w:_->_->_)=>(fun(p:_->_->_->_->_)=>(λq=>(λr=>(fun(s:_->_)=>(fun(k:_->_->_->_->_)=>(fun(u8:_->_->_->_->_)=>(fun(z:_->_->_->_->_)=>(ZJH a b).bind λl=>cond (!(decide (l.2=0))) (s l.2)<|cond (decide (l.1.Kind=2)) (some (Pool.mk r 0 q [] [] [] [] [] 0 0 0,0,202))<|Option.bind (α:=Bool) (cond (decide<|(a.Lines.length:Int)=16) (some true)<|cond (decide (255<a.NextId)) (some true)<|some<|decide (4294967293<a.NextGuid))<|λA=>cond A (some (Pool.mk r 0 q [] [] [] [] [] 0 0 0,0,9))<|(UN a).bind λx=>cond (!(decide (x.2=0))) (s x.2)<|(X2 x.1.Lines b).bind λc=>chk (0<=c.1/\c.1.toNat<c.2.1.length)<|idx c.2.1 c.1 λy=>Option.bind (α:=Line) (g (g (g (u x c.2.2 y)<|k g x c.2.2 y)<|g (k g x c.2.2 y)<|u8 g x c.2.2 y)<|g (g (g (u x c.2.2 y)<|k g x c.2.2 y)<|g (j g x c.2.2 y)<|z g x c.2.2 y)<|g (u8 g x c.2.2 y)<|g (u8 g x c.2.2 y)<|g (z g x c.2.2 y)<|g (p g x c.2.2 y)<|g (p g x c.2.2 y)<|g (g (j g x c.2.2 y)<|u x c.2.2 y)<|g (g (u x c.2.2 y)<|u x c.2.2 y)<|u x c.2.2 y)<|λB=>Option.bind (α:=(Store×UInt32×Ptr×List Line×List (List UInt8)×Int×Int×UInt32)) (g (w c x)<|w c x)<|λd=>app d.2.2.2.1 [B] λt=>(DD<|Pool.mk d.1 d.2.1 d.2.2.1 x.1.MetaL t d.2.2.2.2.1 x.1.Loaded x.1.Changes d.2.2.2.2.2.1 (w64 (d.2.2.2.2.2.2.1+1))<|d.2.2.2.2.2.2.2+(2:UInt32)).bind λi=>cond (!(decide (i.2=0))) (s i.2)<|some (i.1,x.1.NextId,0)) λg x c y=>g (k g x c y)<|g (g (u x c y)<|u x c y)<|g (j g x c y)<|u x c y) λg x c y=>g (k g x c y)<|g (j g x c y)<|p g x c y) λg x c y=>g (u x c y)<|j g x c y) λl=>some (Pool.mk r 0 q [] [] [] [] [] 0 0 0,0,l))<|Store.mk (Disk.mk [] []) [] 0 0)<|Ptr.mk 0 0 0 0 0) λg x c y=>g (j g x c y)<|g (g (u x c y)<|u x c y)<|g (g (u x c y)<|u x c y)<|u x c y) λc x=>idx c.2.1 c.1 λh=>setI c.2.1 c.1 (Line.mk h.Id h.Kind h.Owner x.1.NextId h.Txg h.Guid h.Key h.Root h.Dead) λm=>idx m c.1 λe=>setI m c.1 (Line.mk e.Id e.Kind e.Owner e.Prev x.1.Gen e.Guid e.Key e.Root e.Dead) λn=>idx n c.1 λf=>setI n c.1 (Line.mk f.Id f.Kind f.Owner f.Prev f.Txg f.Guid f.Key f.Root []) λv=>some (x.1.Store,x.1.Gen,x.1.Root,v,x.1.Keys,x.1.Logged,x.1.NextId,x.1.NextGuid)) λg x c y=>g (u x c y)<|g (u x c y)<|u x c y) λx c y=>some<|Line.mk x.1.NextId 2 c y.Prev x.1.Gen x.1.NextGuid y.Key y.Root y.Dead
def J7 (a:Pool)(b:Int):Option (Pool×Int×Int):=DJ (λa _=>a) a b
def law28_one:Option (Pool×Bool):=(ZCp).bind λe=>(UN e).bind λa=>mks 16 (0:UInt8) λm=>(WT a.1 [(97:UInt8)] m).bind λb=>(ZHl b.1 1 0 (1:UInt8) 1 5).bind λc=>chk (0< [(97:UInt8),(98:UInt8),(99:UInt8)].length)<|(ZEV c.1 1 0 0 [(97:UInt8),(98:UInt8),(99:UInt8)]).bind λd=>(J7 d.1 1).bind λx=>cond (decide (a.2=0)) (cond (decide (b.2.2=0)) (cond (decide (c.2=0)) (cond (decide (d.2=0)) (cond (decide (x.2.2=0)) (some (x.1,decide (x.2.1=2)))<|some (x.1,false))<|some (x.1,false))<|some (x.1,false))<|some (x.1,false))<|some (x.1,false)
def ZIl (a:Store)(b:Ptr)(c:UInt32):Option (List Ptr×Int):=JD XB YP ZCv ZJd a b c
def Q2 (a:Pool):Option (List Int×Int):=KC VV ZIl a
def Kn (a:Pool):Option (List Int×Int):=Kr VV Gl ZGh DU a
def law28_alive:Option Bool:=(law28_one).bind λa=>cond (!a.2) (some false)<|(Q2 a.1).bind λx=>(Kn a.1).bind λb=>cond (decide (x.2=0)) (cond (decide (b.2=0)) (cond (decide<|(x.1.length:Int)=256) (idx a.1.Lines 0 λy=>idx x.1 y.Root.At λc=>cond (decide (c=2)) (idx x.1 3 λd=>cond (decide (d=1)) (idx x.1 255 λe=>cond (decide (e=0)) (some<|decide<|(b.1.length:Int)=0)<|some false)<|some false)<|some false)<|some false)<|some false)<|some false
def law28_ScrubNames_p (q:Option Bool)(h:Option (Pool×Bool))(i:Store->Ptr->Int->Option (Object×Int))(j:Disk->Int->Int->UInt8->Option (Disk×Int))(k:Pool->Option (List Int×Int))(l:Pool->Option (List Int×Int)):Option Bool:=(q).bind λm=>cond (!m) (some false)<|(h).bind λx=>Option.bind (α:=(Int×Object)) (chk (0<=(0:Int)/\(0:Int).toNat<x.1.Lines.length)<|idx x.1.Lines 0 λn=>(i x.1.Store n.Root 0).bind λf=>some (f.2,f.1))<|λb=>Option.bind (α:=Bool) (cond (!(decide (b.1=0))) (some true)<|some<|!(decide<|(b.2.Data.length:Int)=15))<|λo=>cond o (some false)<|Option.bind (α:=(Int×Disk)) (chk (0<=(0:Int)/\(0:Int).toNat<b.2.Data.length)<|idx b.2.Data 0 λp=>(j x.1.Store.Disk p.At 9 (1:UInt8)).bind λg=>some (g.2,g.1))<|λc=>(k<|Pool.mk (Store.mk c.2 x.1.Store.Space x.1.Store.Epoch x.1.Store.Count) x.1.Gen x.1.Root x.1.MetaL x.1.Lines x.1.Keys x.1.Loaded x.1.Changes x.1.Logged x.1.NextId x.1.NextGuid).bind λa=>(l<|Pool.mk (Store.mk (Disk.mk [] []) [] 0 0) 0 (Ptr.mk 0 0 0 0 0) [] [] [] [] [] 0 0 0).bind λd=>cond (decide (c.1=0)) (cond (decide (a.2=0)) (cond (decide<|(a.1.length:Int)=1) (idx a.1 0 λy=>chk (0<=(0:Int)/\(0:Int).toNat<b.2.Data.length)<|idx b.2.Data 0 λe=>cond (decide (y=e.At)) (some<|decide (d.2=8))<|some false)<|some false)<|some false)<|some false
def law28_ScrubNames:Option Bool:=law28_ScrubNames_p law28_alive law28_one Vc XP Kn Q2
end
set_option maxRecDepth 20000
noncomputable section
def ZDu:Option Pool:=(fun(u:_->_->_->_)=>agree ((VW).bind λx=>agree (mks 8 [] λa=>mks 8 [] λb=>some<|u x a b)<|mks 8 [] λl=>mks 8 [] λn=>some<|u x n l)<|agree (mks 8 [] λk=>agree ((VW).bind λc=>mks 8 [] λd=>some<|u c k d)<|mks 8 [] λe=>(VW).bind λf=>some<|u f k e)<|mks 8 [] λm=>agree ((VW).bind λg=>mks 8 [] λh=>some<|u g h m)<|mks 8 [] λi=>(VW).bind λj=>some<|u j i m) λx a b=>Pool.mk x 0 (Ptr.mk 0 0 0 0 0) [] [] a b [] 0 1 1
def ZBh (a:List UInt8):Option (List UInt8):=nilq a (some [])<|app [] a λm=>some m
def UP (a:List Int):Option (List Int):=nilq a (some [])<|app [] a λm=>some m
def KS (a:List Line):Option (List Line):=nilq a (some [])<|app [] a λm=>some m
def Qr (a:List Change):Option (List Change):=nilq a (some [])<|app [] a λm=>some m
def Km (a:List Ptr):Option (List Ptr):=nilq a (some [])<|app [] a λm=>some m
def DL (a:List (List UInt8)):Option (List<|List UInt8):=nilq a (some [])<|app [] a λm=>some m
def ZCU (a:Disk)(b:Int):Option (List UInt8×Int):=(fun(u:_->_->_)=>(fun(e:_->_->_)=>Option.bind (α:=(Disk×Int×Disk)) (agree ((Y8 b).bind λd=>agree (agree (u a d)<|u a d)<|u a d)<|agree (agree ((Y8 b).bind λh=>agree (u a h)<|u a h)<|e b a)<|agree (e b a)<|e b a)<|λx=>cond (!(decide (x.2.1=0))) (some ([],x.2.1))<|idx x.2.2.Blocks b λy=>some (y,0)) λb a=>(Y8 b).bind λf=>(WR a f a).bind λc=>some (c.2.2,c.2.1,c.1)) λa d=>(WR a d a).bind λg=>some (g.2.2,g.2.1,g.1)
def Ww (a:List UInt8):Option (List UInt8):=nilq a (some [])<|app [] a λm=>some m
def ZB0 (a:List UInt8):Option (Object×Int):=(fun(u:_->_->_->_->_)=>cond (!(decide<|(a.length:Int)=256)) (some (Object.mk 0 0 0 [],3))<|idx a 0 λy=>idx a 1 λd=>idx a 2 λw=>idx a 3 λz=>idx a 4 λq=>idx a 5 λr=>idx a 6 λs=>idx a 7 λt=>idx a 8 λv=>idx a 9 λf=>idx a 10 λg=>idx a 11 λh=>idx a 12 λi=>idx a 13 λj=>idx a 14 λk=>idx a 15 λl=>chk ((a.length:Int)=(a.length:Int))<|slc a 16 (a.length:Int) λn=>mks 16 (0:UInt8) λm=>chk (0<m.length)<|app n m λo=>(DN o).bind λx=>Option.bind (α:=Bool) (cond (!(decide (x.2=0))) (some true)<|some<|!(decide<|[q,r,s,t,v,f,g,h,i,j,k,l]= [(0:UInt8),(0:UInt8),(0:UInt8),(0:UInt8),(0:UInt8),(0:UInt8),(0:UInt8),(0:UInt8),(0:UInt8),(0:UInt8),(0:UInt8),(0:UInt8)]))<|λp=>cond p (some (Object.mk 0 0 0 [],8))<|(VB a 2 2).bind λb=>Option.bind (α:=Object) (agree (agree (u x y d b.1)<|u x y d b.1)<|agree (agree (u x y d b.1)<|u x y d b.1)<|chk (0<=(15:Int)/\15<=(x.1.length:Int))<|agree (some<|Object.mk y (d.toNat:Int) b.1<|x.1.take 15) (some<|Object.mk y (d.toNat:Int) b.1<|x.1.take 15))<|λc=>(ZEA c).bind λe=>cond (!(decide (e.1=0))) (some (Object.mk 0 0 0 [],8))<|some (Object.mk c.Kind c.Links c.Size e.2,0)) λx y d b=>chk (0<=(15:Int)/\15<=(x.1.length:Int))<|some (Object.mk y (d.toNat:Int) b<|x.1.take 15)
def Qq (a:List Ptr):Option (List Ptr×List Ptr):=nilq a (some ([],a))<|app [] a λm=>some (m,a)
def Dp (a:Disk)(b:Int)(c:List UInt8):Option (Disk×Int):=(fun(u:_->_->_)=>(fun(f:_->_->_)=>(fun(j:_->_->_->_)=>Option.bind (α:=(Disk×Int)) (agree ((Y8 b).bind λd=>agree (agree (u a d)<|u a d)<|u a d)<|agree (agree ((Y8 b).bind λk=>agree (u a k)<|u a k)<|f b a)<|agree (f b a)<|f b a)<|λx=>cond (!(decide (x.2=0))) (some (Disk.mk [] [],x.2))<|cond (!(decide<|(c.length:Int)=256)) (some (Disk.mk [] [],3))<|cond (decide<|(x.1.Waits.length:Int)=4096) (some (Disk.mk [] [],9))<|agree (j x b c)<|j x b c) λx b c=>(QF x.1.Waits).bind λg=>chk (0< [Write.mk b c].length)<|app g [Write.mk b c] λm=>(twinF<|Disk.mk x.1.Blocks m).bind λh=>some (h,0)) λb a=>(Y8 b).bind λi=>(VA a i a).bind λe=>some (e.2.2,e.2.1)) λa d=>(VA a d a).bind λl=>some (l.2.2,l.2.1)
def DE (a:Store)(b:Ptr)(c:List UInt8):Option (Store×Ptr×Int):=DF agree a b c
def Kh (a:Int)(b:Ptr)(c:Ptr)(d:List Change)(e:Pool×UInt32×Int):Option (Ptr×(Pool×UInt32×Int)):=Ki agree a b c d e
def KL (a:Int)(b:List Change)(c:Pool×UInt32×Int):Option (Pool×UInt32×Int):=Xp agree a b c
def VM (a:Int)(b:List Change)(c:Pool×UInt32×Int):Option (Pool×UInt32×Int):=VN agree a b c
def ZCV (a:Store)(b:UInt32)(c:List Ptr):Option (Store×Ptr×List Int×Int):=ZCW agree a b c
def QI (q:Ptr->Option (List UInt8×Int))(c:Option (List Int))(d:(List Int)->(List Int)->Option (List UInt8))(e:(List<|List UInt8)->Option (List UInt8))(f:(List UInt8)->Int->Option (List UInt8))(a:Line)(b:Ptr):Option (List UInt8):=(fun(u:_->_)=>(q a.Root).bind λx=>(q b).bind λg=>Option.bind (α:=List UInt8) (agree (u a)<|u a)<|λh=>(e [h,x.1,g.1]).bind λi=>(f i 48).bind λj=>some j) λa=>(c).bind λk=>(d k [a.Id,(a.Kind.toNat:Int),a.Owner,a.Prev,(a.Txg.toNat:Int),(a.Guid.toNat:Int),a.Key]).bind λl=>some l
def Wi (a:Line)(b:Ptr):Option (List UInt8):=QI Ve ZAO ZCm Zf Yq a b
def Kj (a:List UInt8)(b:List Int)(c:List UInt8)(d:Pool×UInt32×Int):Option (List Int×List UInt8×(Pool×UInt32×Int)):=QH agree a b c d
def V3 (a:List UInt8)(b:List Int)(c:List UInt8)(d:Pool×UInt32×Int):Option (List Int×List UInt8×(Pool×UInt32×Int)):=V4 agree a b c d
def We (a:Pool×UInt32×Int):Option (Pool×UInt32×Int):=Wg agree a
def UM (o:(Pool×UInt32×Int))(x:(Pool×UInt32×Int)×Int):Option (((Pool×UInt32×Int)×Int) ⊕ (Pool×UInt32×Int)):=(fun(u:_->_->_)=>(fun(g:_->_->_)=>(fun(h:_->_)=>(fun(i:_->_)=>(fun(j:_->_->_)=>(fun(n:_->_->_)=>cond (decide<|x.2<(o.1.Lines.length:Int)) (chk (0<=x.2/\x.2.toNat<x.1.1.Lines.length)<|agree (agree (i x)<|i x) (agree (Option.bind (h x) λa=>agree (j a x)<|agree (j a x)<|n a x)<|agree (i x)<|Option.bind (h x) λe=>agree (j e x)<|n e x))<|some<|.inr x.1) λa x=>Option.bind (g a x) λc=>(Z4 c.2.2 c.1<|u x c.2.1).bind λk=>some<|.inl (k,w64 (x.2+1))) λa x=>Option.bind (g a x) λf=>(Z4 x.2 f.1<|u x f.2.1).bind λl=>some<|.inl (l,w64 (x.2+1))) λx=>Option.bind (h x) λd=>Option.bind (g d x) λb=>(Z4 x.2 b.1<|u x b.2.1).bind λm=>some<|.inl (m,w64 (x.2+1))) λx=>YE x.1.1.Changes) λd x=>Za d x.2 x.1.1.Lines) λx b=>(Pool.mk x.1.1.Store x.1.1.Gen x.1.1.Root x.1.1.MetaL b x.1.1.Keys x.1.1.Loaded x.1.1.Changes x.1.1.Logged x.1.1.NextId x.1.1.NextGuid,x.1.2)
def DC (a:Pool):Option (Pool×UInt32×Int):=(λu=>(λd=>(VV a).bind λe=>Option.bind (α:=Bool) (cond (decide (e=0)) (some<|decide (a.Gen=16777215))<|some false)<|λh=>Option.bind (α:=(Pool×UInt32×Int)) (cond h (some (Pool.mk d 0 u [] [] [] [] [] 0 0 0,((0:UInt32),9)))<|some (Pool.mk d 0 u [] [] [] [] [] 0 0 0,((0:UInt32),e)))<|λx=>cond (!(decide (x.2.2=0))) (some x)<|Option.bind (α:=(Pool×UInt32×Int)) (agree ((V6 a).bind λf=>agree (some (f,(a.Gen+(1:UInt32),x.2.2)))<|some (f,(a.Gen+(1:UInt32),x.2.2)))<|(V6 a).bind λi=>some (i,(a.Gen+(1:UInt32),x.2.2)))<|λg=>(loop (UM g) (g,0)).bind λb=>(Qy b).bind λc=>some c)<|Store.mk (Disk.mk [] []) [] 0 0)<|Ptr.mk 0 0 0 0 0
def Kl (a:List UInt8):Option (List UInt8×List UInt8):=nilq a (some ([],a))<|app [] a λm=>some (m,a)
def ZBp (a:Pool):Option (Pool×Int):=Gk agree a
def B7 (a:List UInt8)(b:List UInt8)(c:UInt32):Option (List UInt8×Int):=B8 agree a b c
def Jp (a:Pool)(b:List UInt8)(c:List UInt8):Option (Pool×Int×Int):=Jq agree a b c
def Uj (a:Int)(b:Bool)(c:Change)(d:Int)(e:Pool):Option (Int×Bool×Change×Int×Pool):=(fun(u:_->_->_->_->_->_)=>cond (!(decide (a=0))) (some (a,b,c,d,e))<|cond b (chk (0<=d/\d.toNat<e.Changes.length)<|setI e.Changes d c λm=>some (a,b,c,d,Pool.mk e.Store e.Gen e.Root e.MetaL e.Lines e.Keys e.Loaded m e.Logged e.NextId e.NextGuid))<|agree (u e d c a b)<|agree (u e d c a b)<|u e d c a b) λe d c a b=>Option.bind ((insO (α:=Change)) e.Changes d [c]) λx=>some (a,b,c,d,Pool.mk e.Store e.Gen e.Root e.MetaL e.Lines e.Keys e.Loaded x e.Logged e.NextId e.NextGuid)
def Wn (a:Int)(b:Bool)(c:Change)(d:Int)(e:Pool):Option (Int×Bool×Change×Int×Pool):=(fun(u:_->_->_->_->_->_)=>cond (!(decide (a=0))) (some (a,b,c,d,e))<|cond b (chk (0<=d/\d.toNat<e.Changes.length)<|setI e.Changes d c λm=>some (a,b,c,d,Pool.mk e.Store e.Gen e.Root e.MetaL e.Lines e.Keys e.Loaded m e.Logged e.NextId e.NextGuid))<|agree (u e d c a b)<|agree (u e d c a b)<|u e d c a b) λe d c a b=>Option.bind ((insO (α:=Change)) e.Changes d [c]) λx=>some (a,b,c,d,Pool.mk e.Store e.Gen e.Root e.MetaL e.Lines e.Keys e.Loaded x e.Logged e.NextId e.NextGuid)
def Dx (a:Change)(b:Pool):Option (Int×Pool):=(fun(j:_->_->_)=>(fun(k:_->_->_)=>(fun(u:_->_->_)=>(fun(l:_->_->_->_)=>Option.bind (α:=(Disk×UInt32×UInt32×UInt32×Ptr×List Change×Int×Int×UInt32×Int×Bool)) (agree (Option.bind (k b a) λd=>agree (some<|j b d)<|some<|j b d)<|agree (agree (u b a)<|u b a)<|agree (u b a)<|u b a)<|λx=>Option.bind (α:=Bool) (cond x.2.2.2.2.2.2.2.2.2.2 (chk (0<=x.2.2.2.2.2.2.2.2.2.1/\x.2.2.2.2.2.2.2.2.2.1.toNat<x.2.2.2.2.2.1.length)<|idx x.2.2.2.2.2.1 x.2.2.2.2.2.2.2.2.2.1 λe=>some<|!(decide (e.Laid.At=0)&&(decide (e.Laid.Birth=0)&&(decide (e.Laid.Iv=0)&&(decide (e.Laid.Tag=0)&&(decide (e.Laid.Sum=0)&&true))))))<|some false)<|λm=>cond m (Option.bind (α:=(Store×UInt32×Ptr×Int×Int×UInt32×Int×Store)) (chk (0<=x.2.2.2.2.2.2.2.2.2.1/\x.2.2.2.2.2.2.2.2.2.1.toNat<x.2.2.2.2.2.1.length)<|idx x.2.2.2.2.2.1 x.2.2.2.2.2.2.2.2.2.1 λy=>agree (l x b y)<|l x b y)<|λc=>cond (!(decide (c.2.2.2.2.2.2.1=0))) ((Yj c.2.2.2.2.2.2.1 x.2.2.2.2.2.2.2.2.2.2 a x.2.2.2.2.2.2.2.2.2.1<|Pool.mk c.1 c.2.1 c.2.2.1 b.MetaL b.Lines b.Keys b.Loaded x.2.2.2.2.2.1 c.2.2.2.1 c.2.2.2.2.1 c.2.2.2.2.2.1).bind λf=>some (f.1,f.2.2.2.2))<|(YX 0 x.2.2.2.2.2.2.2.2.2.2 a x.2.2.2.2.2.2.2.2.2.1<|Pool.mk c.2.2.2.2.2.2.2 c.2.1 c.2.2.1 b.MetaL b.Lines b.Keys b.Loaded x.2.2.2.2.2.1 c.2.2.2.1 c.2.2.2.2.1 c.2.2.2.2.2.1).bind λg=>some (g.1,g.2.2.2.2))<|(YX 0 x.2.2.2.2.2.2.2.2.2.2 a x.2.2.2.2.2.2.2.2.2.1<|Pool.mk (Store.mk x.1 b.Store.Space x.2.1 x.2.2.1) x.2.2.2.1 x.2.2.2.2.1 b.MetaL b.Lines b.Keys b.Loaded x.2.2.2.2.2.1 x.2.2.2.2.2.2.1 x.2.2.2.2.2.2.2.1 x.2.2.2.2.2.2.2.2.1).bind λh=>some (h.1,h.2.2.2.2)) λx b y=>(VX (Store.mk x.1 b.Store.Space x.2.1 x.2.2.1) y.Laid).bind λi=>some (Store.mk x.1 b.Store.Space x.2.1 x.2.2.1,x.2.2.2.1,x.2.2.2.2.1,x.2.2.2.2.2.2.1,x.2.2.2.2.2.2.2.1,x.2.2.2.2.2.2.2.2.1,i.2,i.1)) λb a=>Option.bind (k b a) λn=>some<|j b n) λb a=>ZJ b.Changes (a.Set,(a.Obj,a.Index))) λb d=>(b.Store.Disk,b.Store.Epoch,b.Store.Count,b.Gen,b.Root,d.2.2,b.Logged,b.NextId,b.NextGuid,d.1,d.2.1)
def Jo (a:Change)(b:Pool):Option (Int×Pool):=(fun(k:_->_->_)=>(fun(l:_->_->_)=>(fun(u:_->_->_)=>(fun(m:_->_->_)=>Option.bind (α:=(Store×UInt32×Ptr×List Change×Int×Int×UInt32×Int×Bool)) (agree (Option.bind (l b a) λd=>agree (some<|k b d)<|some<|k b d)<|agree (agree (u b a)<|u b a)<|agree (u b a)<|u b a)<|λx=>Option.bind (α:=Bool) (cond x.2.2.2.2.2.2.2.2 (chk (0<=x.2.2.2.2.2.2.2.1/\x.2.2.2.2.2.2.2.1.toNat<x.2.2.2.1.length)<|idx x.2.2.2.1 x.2.2.2.2.2.2.2.1 λy=>some<|!(decide (y.Laid.At=0)&&(decide (y.Laid.Birth=0)&&(decide (y.Laid.Iv=0)&&(decide (y.Laid.Tag=0)&&(decide (y.Laid.Sum=0)&&true))))))<|some false)<|λn=>cond n (Option.bind (α:=(Int×Store)) (chk (0<=x.2.2.2.2.2.2.2.1/\x.2.2.2.2.2.2.2.1.toNat<x.2.2.2.1.length)<|idx x.2.2.2.1 x.2.2.2.2.2.2.2.1 λe=>agree ((VX x.1 e.Laid).bind λf=>some (f.2,f.1))<|(VX x.1 e.Laid).bind λg=>some (g.2,g.1))<|λc=>cond (!(decide (c.1=0))) ((Yj c.1 x.2.2.2.2.2.2.2.2 a x.2.2.2.2.2.2.2.1<|m x b).bind λh=>some (h.1,h.2.2.2.2))<|(YX 0 x.2.2.2.2.2.2.2.2 a x.2.2.2.2.2.2.2.1<|Pool.mk c.2 x.2.1 x.2.2.1 b.MetaL b.Lines b.Keys b.Loaded x.2.2.2.1 x.2.2.2.2.1 x.2.2.2.2.2.1 x.2.2.2.2.2.2.1).bind λi=>some (i.1,i.2.2.2.2))<|(Yj 0 x.2.2.2.2.2.2.2.2 a x.2.2.2.2.2.2.2.1<|m x b).bind λj=>some (j.1,j.2.2.2.2)) λx b=>Pool.mk x.1 x.2.1 x.2.2.1 b.MetaL b.Lines b.Keys b.Loaded x.2.2.2.1 x.2.2.2.2.1 x.2.2.2.2.2.1 x.2.2.2.2.2.2.1) λb a=>Option.bind (l b a) λo=>some<|k b o) λb a=>ZJ b.Changes (a.Set,(a.Obj,a.Index))) λb d=>(b.Store,b.Gen,b.Root,d.2.2,b.Logged,b.NextId,b.NextGuid,d.1,d.2.1)
def KP (b:Object)(c:Line)(d:Int)(x:Pool×Int):Option ((Pool×Int) ⊕ ((Pool×Int) ⊕ Pool)):=(fun(u:_->_->_->_)=>cond (decide<|x.2<(b.Data.length:Int)) (chk (0<=x.2/\x.2.toNat<b.Data.length)<|idx b.Data x.2 λy=>Option.bind (α:=(Pool×Bool)) (agree (u x c d)<|u x c d)<|λf=>Option.bind (α:=Bool) (cond (!f.2) (some<|decide (y.At=0)&&(decide (y.Birth=0)&&(decide (y.Iv=0)&&(decide (y.Tag=0)&&(decide (y.Sum=0)&&true)))))<|some false)<|λg=>cond g (some<|.inl (f.1,w64 (x.2+1)))<|(Qe (Change.mk c.Id d x.2 0 0 0 []<|Ptr.mk 0 0 0 0 0) f.1).bind λe=>cond (!(decide (e.1=0))) (some<|.inr<|.inl (e.2,e.1))<|some<|.inl (e.2,w64 (x.2+1)))<|some<|.inr<|.inr x.1) λx c d=>(Ul x.1 (c.Id,(d,x.2))).bind λa=>some (Pool.mk x.1.Store x.1.Gen x.1.Root a.2.2.1 a.2.2.2.1 a.2.2.2.2.1 a.2.2.2.2.2.1 a.2.2.2.2.2.2 x.1.Logged x.1.NextId x.1.NextGuid,a.2.1)
def Wm (a:Pool)(b:Object)(c:Line)(d:Int):Option (Int×Pool×Object×Line×Int):=Option.bind (loop (KP b c d) (a,0))<|Sum.elim (λf=>some (f.2,f.1,b,c,d)) λe=>(Qe (Change.mk c.Id d 15 0 0 0 []<|Ptr.mk 0 0 0 0 0) e).bind λx=>some (x.1,x.2,b,c,d)
def ZAy (a:Pool):Option (Pool×Int):=ZAz agree a
def DI (a:Pool)(b:Int):Option (Pool×Int×Int):=DJ agree a b
def law28_ScrubNames_o_p (k:Option Bool)(l:Option (Pool×Bool))(q:Store->Ptr->Int->Option (Object×Int))(m:Disk->Int->Int->UInt8->Option (Disk×Int))(n:Pool->Option (List Int×Int))(o:Pool->Option (List Int×Int)):Option Bool:=(fun(u:_->_->_)=>(k).bind λp=>cond (!p) (some false)<|(l).bind λx=>Option.bind (α:=(Int×Object)) (chk (0<=(0:Int)/\(0:Int).toNat<x.1.Lines.length)<|idx x.1.Lines 0 λg=>agree ((q x.1.Store g.Root 0).bind λh=>some (h.2,h.1))<|(q x.1.Store g.Root 0).bind λi=>some (i.2,i.1))<|λb=>Option.bind (α:=Bool) (cond (!(decide (b.1=0))) (some true)<|some<|!(decide<|(b.2.Data.length:Int)=15))<|λr=>cond r (some false)<|Option.bind (α:=(Int×Disk)) (chk (0<=(0:Int)/\(0:Int).toNat<b.2.Data.length)<|idx b.2.Data 0 λy=>agree (u x y)<|u x y)<|λc=>(n<|Pool.mk (Store.mk c.2 x.1.Store.Space x.1.Store.Epoch x.1.Store.Count) x.1.Gen x.1.Root x.1.MetaL x.1.Lines x.1.Keys x.1.Loaded x.1.Changes x.1.Logged x.1.NextId x.1.NextGuid).bind λa=>(o<|Pool.mk (Store.mk (Disk.mk [] []) [] 0 0) 0 (Ptr.mk 0 0 0 0 0) [] [] [] [] [] 0 0 0).bind λd=>cond (decide (c.1=0)) (cond (decide (a.2=0)) (cond (decide<|(a.1.length:Int)=1) (idx a.1 0 λe=>chk (0<=(0:Int)/\(0:Int).toNat<b.2.Data.length)<|idx b.2.Data 0 λf=>cond (decide (e=f.At)) (some<|decide (d.2=8))<|some false)<|some false)<|some false)<|some false) λx y=>(m x.1.Store.Disk y.At 9 (1:UInt8)).bind λj=>some (j.2,j.1)
def law28_ScrubNames_o:Option Bool:=law28_ScrubNames_o_p law28_alive law28_one Vc XP Kn Q2
end
open Go.Sort Go.Proofs
set_option maxRecDepth 20000
theorem ZS{b:Type}(a:Option b):agree a a=a:=by unfold agree;exact TJ rfl
theorem Uc{α b:Type}(a:List α)(k:List α->Option b):nilq a (k []) (app [] a k)=app [] a k:=by
 cases a with
 |nil=>unfold nilq;rw[show app ([]:List α) [] k=k []from rfl];exact ZS _
 |cons _ _=>rfl
theorem ZIw{α b:Type}(a:List α)(k:List α->List α->Option b):nilq a (k [] a) (app [] a λm=>k m a)=app [] a λm=>k m a:=by
 cases a with
 |nil=>unfold nilq;rw[show(app ([]:List α) [] λm=>k m [])=k [] []from rfl];exact ZS _
 |cons _ _=>rfl
theorem ZLE{σ τ:Type}{body:σ->Option (σ ⊕ τ)}(I:σ->Prop)(J:τ->Prop)(hb:∀s o,I s->body s=some o->Sum.elim I J o){s:σ}{t:τ}(h:loop body s=some t)(hs:I s):J t:=by
  have k:∀(n:Nat) (s:σ),I s->run body n s=some t->J t:=λn=>by
    induction n with
    |zero=>intro s _ h;cases h
    | succ n i=>
      intro s hs h;obtain⟨o,h1,h2⟩:=ZCw h;have h3:=hb s o hs h1;cases o with
      |inl s'=>exact i s' h3 h2
      |inr a=>obtain rfl:a=t:=h2;exact h3
  exact k _ _ hs h
theorem ZKH (x y:Ptr):ltOf cmpP x y=decide (x.At<y.At):=by
 unfold ltOf cmpP;by_cases h1:x.At<y.At
 . simp[h1]
 . by_cases h2:y.At<x.At<;>simp[h1,h2]
theorem ZQG:SWO (ltOf cmpP) where
 irrefl x:=by rw[ZKH];simp
 trans x y z h1 h2:=by rw[ZKH]at*;simp at*;omega
 ntrans x y z h1 h2:=by rw[ZKH]at*;simp at*;omega
theorem ZCa (a b:Int):Zs a b=some (if a<b then -1 else if b<a then 1 else 0):=by
 unfold Zs V0;by_cases h1:a<b
 . simp[h1]
 . by_cases h2:b<a<;>simp[h1,h2]
theorem ZIc (x y:Ptr):Uh x y=some (cmpP x y):=by
 unfold Uh;rw[ZCa];rfl
theorem ZMc:ZDu=ZCp:=by
 unfold ZDu ZCp;have h:∀(k:List (List UInt8)->Option Pool),mks 8 ([]:List UInt8) k=k (List.replicate 8 []):=λk=>rfl;simp only[h,ZS]
theorem ZGp (a:List UInt8):ZBh a=YI a:=Uc a _
theorem ZAq (a:List Int):UP a=Va a:=Uc a _
theorem Jl (a:List Line):KS a=QE a:=Uc a _
theorem Ub (a:List Change):Qr a=YE a:=Uc a _
theorem GL (a:List Ptr):Km a=XC a:=Uc a _
theorem ZFh (a:List (List UInt8)):DL a=W4 a:=Uc a _
theorem ZK8 (a:Disk)(b:Int):ZCU a b=ZDW a b:=by
 unfold ZCU ZDW;simp only[ZS]
theorem DT (a:List UInt8):Ww a=Z6 a:=Uc a _
theorem ZK7 (a:List UInt8):ZB0 a=DU a:=by
 unfold ZB0 DU;simp only[ZS]
theorem Ua (a:List Ptr):Qq a=Yb a:=ZIw a λm a=>some (m,a)
theorem ZJl (a:Disk)(b:Int)(c:List UInt8):Dp a b c=GW a b c:=by
 unfold Dp GW;simp only[ZS]
theorem ZJj (a:Store)(b:Ptr)(c:List UInt8):DE a b c=J5 a b c:=by
 unfold DE J5 DF;simp only[ZS]
theorem By: @XA agree=XA λa _=>a:=by
 funext _ _;unfold XA;simp only[ZS]
theorem Bx: @Y9 agree=Y9 λa _=>a:=by
 funext _ _;unfold Y9;simp only[ZS]
theorem ZBy (a:Int)(b:Ptr)(c:Ptr)(d:List Change)(e:Pool×UInt32×Int):Kh a b c d e=KA a b c d e:=by
 unfold Kh KA Ki;simp only[ZS,By,Bx]
theorem Gw: @Y1 agree=Y1 λa _=>a:=by
 funext _;unfold Y1;simp only[ZS]
theorem Wz (a:Int)(b:List Change)(c:Pool×UInt32×Int):KL a b c=VU a b c:=by
 unfold KL VU Xp;simp only[ZS,Gw]
theorem Gv (a:Int)(b:List Change)(c:Pool×UInt32×Int):VM a b c=Z4 a b c:=Wz a b c
theorem ZGm: @Vx agree=Vx λa _=>a:=by
 funext _ _;unfold Vx;simp only[ZS]
theorem ZK9 (a:Store)(b:UInt32)(c:List Ptr):ZCV a b c=Dr a b c:=by
 unfold ZCV Dr ZCW;simp only[ZS,ZGm]
theorem ZBz (q:Ptr->Option (List UInt8×Int))(c:Option (List Int))(d:(List Int)->(List Int)->Option (List UInt8))(e:(List<|List UInt8)->Option (List UInt8))(f:(List UInt8)->Int->Option (List UInt8))(a:Line)(b:Ptr):QI q c d e f a b=Wh q c d e f a b:=by
 unfold QI Wh;simp only[ZS]
theorem ZD7 (a:Line)(b:Ptr):Wi a b=Vs a b:=by
 unfold Wi Vs;simp only[ZS,ZBz]
theorem UZ (a:List UInt8)(b:List Int)(c:List UInt8)(d:Pool×UInt32×Int):Kj a b c d=KB a b c d:=by
 unfold Kj KB QH;simp only[ZS]
theorem Bz (a:List UInt8)(b:List Int)(c:List UInt8)(d:Pool×UInt32×Int):V3 a b c d=Xo a b c d:=UZ a b c d
theorem ZAp: @Xn agree=Xn λa _=>a:=by
 funext _ _;unfold Xn;simp only[ZS]
theorem ZAo: @Xm agree=Xm λa _=>a:=by
 funext _ _;unfold Xm;simp only[ZS]
theorem ZAn: @Xl agree=Xl λa _=>a:=by
 funext _ _;unfold Xl;simp only[ZS]
theorem ZD6 (a:Pool×UInt32×Int):We a=Qy a:=by
 unfold We Qy Wg;simp only[ZS,ZAp,ZAo,ZAn]
theorem ZFg: @UM= @Gj:=by
  have hb:∀(y:Change) (b:Int) (c:List Line) r,V5 y b c=some r->r.2=(c,b):=λy b c r h=>by
    unfold V5 at h;obtain⟨w,_,h⟩:=Zh h;cases h;rfl
  have hi:∀(a:List Change) (b:Int) (c:List Line) r,Z1 a b c=some r->r.2.2=(c,b):=λa b c r h=>by
    unfold Z1 at h;obtain⟨t,ht,h⟩:=ZT h;have:=ZLE (λx=>x.1=b/\x.2.2=c) (λt=>Sum.elim (λx=>x.1=b/\x.2.2=c) (λx=>x.1=b/\x.2=c) t) (λs o hs d=>by
      unfold Y2 at d;cases f:decide (s.2.1<(a.length:Int))with
      |false=>rw[f]at d;cases d;exact hs
      | true=>
        rw[f,RG]at d;obtain⟨_,d⟩:=ZI d;obtain⟨y,_,d⟩:=Zh d;obtain⟨j,h3,d⟩:=ZT d;have e3:=hb _ _ _ _ h3;obtain⟨z,u,v⟩:=j;dsimp only at e3;cases e3;cases z<;>cases d<;>exact hs) ht ⟨rfl,rfl⟩
    cases t with
    |inl x=>obtain⟨e1,e2⟩:=this;cases h;rw[<-e1,<-e2]
    |inr x=>obtain⟨e1,e2⟩:=this;cases h;rw[<-e1,<-e2]
  have f :∀(a:List Change) (b:Int) (c:List Line) r,Za a b c=some r->r.2=(c,b):=λa b c r h=>by
    unfold Za at h;obtain⟨g,h1,h⟩:=ZT h;have e1:=hi _ _ _ _ h1;cases q:decide (g.1= -1)with
    |true=>rw[q]at h;cases h;rw[<-e1]
    | false=>
      rw[q,cond_false]at h;obtain⟨t,ht,h⟩:=ZT h;have:=ZLE (λx=>x.1=b/\x.2.2.2.2=c) (λt=>t.1=b/\t.2.2.2=c) (λs o hs d=>by
        unfold XQ at d;cases f:decide (s.2.2.2.1<(s.2.1.length:Int))with
        |false=>rw[f]at d;cases d;exact hs
        | true=>
          rw[f,RG]at d;obtain⟨_,d⟩:=ZI d;obtain⟨y,_,d⟩:=Zh d;obtain⟨j,h3,d⟩:=ZT d;have e3:=hb _ _ _ _ h3;obtain⟨z,u,v⟩:=j;dsimp only at e3;cases e3;obtain⟨A,_,d⟩:=ZT d;cases d;exact hs) ht ⟨by rw[show g.2.2.2=(g.2.2).2 from rfl,e1],by rw[show g.2.2.1=(g.2.2).1 from rfl,e1]⟩
      obtain⟨_,h⟩:=ZI h;obtain⟨m,_,_,h⟩:=GE h;cases h;rw[<-this.1,<-this.2]
  funext B e;unfold UM Gj;have n:∀(l:List Change) (b:Int) (c:List Line) (k:List Change->List Line->Int->Option (((Pool×UInt32×Int)×Int) ⊕ (Pool×UInt32×Int))),(Option.bind (Za l b c) λx=>k x.1 x.2.1 x.2.2)=Option.bind (Za l b c) λx=>k x.1 x.2.1 b:=λl b c k=>by
    cases h:Za l b c with
    |none=>rfl
    |some r=>have:=f _ _ _ _ h;obtain⟨C,D⟩:=r;dsimp only at this;subst this;rfl
  have i:=λl=>n l e.2 e.1.1.Lines λm ls b=>Option.bind (Z4 b m (Pool.mk e.1.1.Store e.1.1.Gen e.1.1.Root e.1.1.MetaL ls e.1.1.Keys e.1.1.Loaded e.1.1.Changes e.1.1.Logged e.1.1.NextId e.1.1.NextGuid,e.1.2)) λp=>some<|.inl (p,w64 (e.2+1));simp only[i,ZS]
theorem ZJi (a:Pool):DC a=ZAP a:=by
 unfold DC ZAP;simp only[ZS,ZFg]
theorem GK (a:List UInt8):Kl a=QU a:=ZIw a λm a=>some (m,a)
theorem ZEs (a:Pool):ZBp a=UN a:=by
 unfold ZBp UN Gk;simp only[ZS]
theorem ZJh (a:List UInt8)(b:List UInt8)(c:UInt32):B7 a b c=ZAN a b c:=by
 unfold B7 ZAN B8;simp only[ZS]
theorem ZGo (a:Pool)(b:List UInt8)(c:List UInt8):Jp a b c=WT a b c:=by
 unfold Jp WT Jq;simp only[ZS]
theorem ZFi (a:Int)(b:Bool)(c:Change)(d:Int)(e:Pool):Uj a b c d e=Yj a b c d e:=by
 unfold Uj Yj;simp only[ZS]
theorem ZD9 (a:Int)(b:Bool)(c:Change)(d:Int)(e:Pool):Wn a b c d e=YX a b c d e:=by
 unfold Wn YX;simp only[ZS]
theorem ZJm (a:Change)(b:Pool):Dx a b=GX a b:=by
 unfold Dx GX;simp only[ZS]
theorem ZGn (a:Change)(b:Pool):Jo a b=Qe a b:=by
 unfold Jo Qe;simp only[ZS]
theorem ZAs: @KP= @Vm:=by
 funext _ _ _ _;unfold KP Vm;simp only[ZS]
theorem ZD8 (a:Pool)(b:Object)(c:Line)(d:Int):Wm a b c d=Vz a b c d:=by
 unfold Wm Vz;simp only[ZS,ZAs]
theorem ZGl (a:Pool):ZAy a=DD a:=ZEs a
theorem ZJk (a:Pool)(b:Int):DI a b=J7 a b:=by
 unfold DI J7 DJ;simp only[ZS]
theorem B0 (q:Option Bool)(a:Option (Pool×Bool))(b:Store->Ptr->Int->Option (Object×Int))(c:Disk->Int->Int->UInt8->Option (Disk×Int))(d:Pool->Option (List Int×Int))(e:Pool->Option (List Int×Int)):law28_ScrubNames_o_p q a b c d e=law28_ScrubNames_p q a b c d e:=by
 unfold law28_ScrubNames_o_p law28_ScrubNames_p;simp only[ZS]
theorem ZAr:law28_ScrubNames_o=law28_ScrubNames:=by
 unfold law28_ScrubNames_o law28_ScrubNames;simp only[ZS,B0]
end Go.Ow
namespace Go.Ow
def okW (w:Write):Bool:=decide (0<=w.At/\w.At<256)&&decide (w.Data.length=256)
def OKD (d:Disk):Prop:=d.Blocks.length=256/\d.Waits.length<=4096/\(∀b∈d.Blocks,b.length=256)/\∀w∈d.Waits,okW w=true
instance (d:Disk):Decidable (OKD d):=by unfold OKD;infer_instance
structure Sized (d:Disk):Prop where
  blocks:d.Blocks.length<=9223372036854775807
  waits:d.Waits.length<=9223372036854775807
  at':∀w∈d.Waits,InI64 w.At
theorem ZKB{n:Int}(h:InI64 n):Y8 n=some (decide (0<=n/\n<256)):=by
 unfold Y8 u64i;congr 1;apply decide_eq_decide.2;rw[UInt64.lt_iff_toNat_lt,Rl];obtain⟨h1,h2⟩:=h;show _%18446744073709551616<(256:UInt64).toNat↔_;rw[show(256:UInt64).toNat=256 from rfl];omega
theorem J8{n:Nat}(h:n<=9223372036854775807):n<FUEL:=Nat.lt_of_le_of_lt h<|by decide
theorem ZQJ (d:Disk)(ok:Bool)(h:d.Blocks.length<=9223372036854775807):loop (W9 d) (ok,0)=some (ok&&d.Blocks.all λb=>decide (b.length=256)):=by
 rw[ZB7 d.Blocks (λi (r:Bool)=>(r,i)) (λb r=>some<|.inl<|r&&decide (b.length=256)) (λr=>r) (λi hi r=> ?_) (λr=> ?_) (J8 h) ok,GV]
 . show some _=some _;congr 1;generalize d.Blocks=l;induction l generalizing ok with
   |nil=>simp
   |cons b l a=>simp only[RH,a,RY,Bool.and_assoc]
 . unfold W9;rw[cI,TJ hi,G6 _ hi];cases r
   . rfl
   . simp only[RG,Tg,ZJ6,Bool.true_and];rw[show decide ((d.Blocks[i].length:Int)=256)=decide (d.Blocks[i].length=256)from decide_eq_decide.2<|by omega]
 . unfold W9;rw[cI,TK<|by omega]
theorem ZQI (d:Disk)(ok:Bool)(h:Sized d):loop (W8 d) (ok,0)=some (ok&&d.Waits.all okW):=by
 rw[ZB7 d.Waits (λi (r:Bool)=>(r,i)) (λw r=>some<|.inl<|r&&(okW w)) (λr=>r) (λi hi r=> ?_) (λr=> ?_) (J8 h.waits) ok,GV]
 . show some _=some _;congr 1;generalize d.Waits=l;induction l generalizing ok with
   |nil=>simp
   |cons b l a=>simp only[RH,a,RY,Bool.and_assoc]
 . unfold W8;rw[cI,TJ hi,G6 _ hi];cases r
   . rfl
   . simp only[RG,Tg,ZJ6,Bool.true_and];rw[ZKB<|h.at' _<|Ry hi];unfold okW;by_cases c:0<=d.Waits[i].At/\d.Waits[i].At<256
     . rw[Rk c];simp only[Tg,RG,Bool.true_and];rw[show decide ((d.Waits[i].Data.length:Int)=256)=decide (d.Waits[i].Data.length=256)from decide_eq_decide.2<|by omega]
     . rw[decide_eq_false c];rfl
 . unfold W8;rw[cI,TK<|by omega]
theorem ZHh{d:Disk}(h:Sized d):WS d=some (if OKD d then 0 else 8):=by
 unfold WS;rw [show(bif decide ((d.Blocks.length:Int)=256)then some (decide<|(d.Waits.length:Int)<=4096)else some false)=some (decide (d.Blocks.length=256)&&decide (d.Waits.length<=4096))from by
  by_cases c:d.Blocks.length=256
  . rw[Rk (show(d.Blocks.length:Int)=256 by omega),Rk c];simp only[RG,Bool.true_and];congr 1;simp only[decide_eq_decide];omega
  . rw[decide_eq_false (show¬(d.Blocks.length:Int)=256 by omega),decide_eq_false c];rfl]
 simp only[Tg];rw[ZQJ d _ h.blocks];simp only[Tg];rw[ZQI d _ h];simp only[Tg];by_cases c:OKD d
 . rw[TJ c];obtain⟨a,f,g,i⟩:=c;rw[show(decide (d.Blocks.length=256)&&decide (d.Waits.length<=4096)&&(d.Blocks.all λb=>decide (b.length=256))&&d.Waits.all okW)=true from by
    simp only[TD,SL,Ti];exact⟨⟨⟨a,f⟩,g⟩,i⟩]
   rfl
 . rw[TK c];rw[show(decide (d.Blocks.length=256)&&decide (d.Waits.length<=4096)&&(d.Blocks.all λb=>decide (b.length=256))&&d.Waits.all okW)=false from by
    rw[Bool.eq_false_iff];intro e;simp only[TD,SL,Ti]at e;exact c ⟨e.1.1.1,e.1.1.2,e.1.2,e.2⟩]
   rfl
structure Mid (d:Disk):Prop where
  blocks:d.Blocks.length<=1000
  waits:d.Waits.length<=5000
  eb:∀b∈d.Blocks,b.length<=1000
  ew:∀w∈d.Waits,w.Data.length<=1000
theorem OKD.mid{d:Disk}(h:OKD d):Mid d:=⟨by rw[h.1];omega,by have:=h.2.1;omega,λb hb=>by rw[h.2.2.1 b hb];omega,λw a=>by
 have:=h.2.2.2 w a;simp only[okW,TD,SL]at this;omega⟩
theorem ZMS{l:List Nat}{k:Nat}(h:∀x∈l,x<=k):l.sum<=l.length*k:=by
  induction l with
  |nil=>simp
  | cons x l i=>
    have:=h x (by simp);have:=i (λy a=>h y<|by simp[a]);simp only[List.sum_cons,Ts,TU,Nat.one_mul];omega
theorem ZQu (d:Disk)(h:d.Blocks.length<=1000):loop (Qb d) (([]:List Int),0)=some (d.Blocks.map λb=>(b.length:Int)):=by
 rw[ZEH d.Blocks (λi (r:List Int)=>(r,i)) (λb r=>some<|.inl<|r++ [(b.length:Int)]) (λr=>r) (λi r=>r.length=i) (λi hi r c=> ?_) (λi hi r g c e=> ?_) (λr _=> ?_) (J8<|by omega) rfl,GV]
 . show some _=some _;congr 1
   suffices H:∀(l:List (List UInt8)) (a:List Int),l.foldl (λr b=>r++ [(b.length:Int)]) a=a++l.map λb=>(b.length:Int) by simpa using H d.Blocks []
   intro l;induction l with
   |nil=>simp
   |cons b l f=>intro a;simp[f]
 . unfold Qb;rw[cI,TJ hi,G6 _ hi,ZKL (by simp only[Ts,RF,LIM];omega)];rfl
 . simp only[SE,Sum.inl.injEq]at e;subst e;simp[c]
 . unfold Qb;rw[cI,TK<|by omega]
theorem ZM3 (bs:List (List UInt8))(h:bs.length<=1000)(hb:∀b∈bs,b.length<=1000):Vf (bs.map λb=>(b.length:Int))=some (bs.map λb=>List.replicate b.length 0):=by
 unfold Vf;have e1:(bs.map λb=>(b.length:Int)).map Int.toNat=bs.map List.length:=by rw[RK];rfl
 have e2:=ZMS (l:=bs.map List.length) (k:=1000) (λx a=>by obtain⟨b,h1,rfl⟩:=T7.1 a;exact hb b h1);rw[RV]at e2;rw[TJ ⟨λn hn=>by obtain⟨b,_,rfl⟩:=T7.1 hn;omega,by rw[e1];simp only[LIM];omega,by simp only[RV,LIM];omega⟩,RK];rfl
theorem ZQt (d:Disk)(h:d.Blocks.length<=1000):loop (Qa d) (d.Blocks.map λb=>List.replicate b.length (0:UInt8),0)=some d.Blocks:=by
 obtain⟨t,h1,h2⟩:=ZOP (body:=Qa d) (λs=>s.2<=d.Blocks.length/\s.1=d.Blocks.take s.2++(d.Blocks.drop s.2).map λb=>List.replicate b.length (0:UInt8)) (λs=>d.Blocks.length-s.2) (λt=>t=d.Blocks) (by
  rintro⟨r,i⟩ ⟨hi,e⟩;simp only at hi e;subst e;unfold Qa;dsimp only;rw[cI];rcases SZ i d.Blocks.length with a|c
  . left;have g:(d.Blocks.take i++(d.Blocks.drop i).map λb=>List.replicate b.length (0:UInt8)).length=d.Blocks.length:=(by simp;omega);have f:(d.Blocks.take i++(d.Blocks.drop i).map λb=>List.replicate b.length (0:UInt8))[i]'(by omega)=List.replicate d.Blocks[i].length 0:=by
     rw[List.getElem_append_right (by simp;omega)];simp[Tr<|Nat.le_of_lt a]
    rw[TJ a,G6 _ a,G6 _ (by omega),ZTE (by rw[f];simp),ZQz (by omega)<|by simpa using(by omega:i<(d.Blocks.take i++(d.Blocks.drop i).map λb=>List.replicate b.length (0:UInt8)).length)];refine⟨_,rfl,⟨a,?_⟩,by simp only;omega⟩;simp only[T4];rw[List.set_append_right _ _ (by simp only[TH];omega),Ss a];simp only[Tp,TH,Tr<|Nat.le_of_lt a,Nat.sub_self,List.set_cons_zero];rw[List.take_add_one,TL a];simp only[Option.toList_some,TE,List.singleton_append]
  . right;rw[TK<|by omega];refine⟨_,rfl,?_⟩;rw[TZ c,List.drop_of_length_le c];simp) (s:=(d.Blocks.map λb=>List.replicate b.length (0:UInt8),0)) ⟨TQ _,by simp⟩ (J8 (by simp only;omega))
 rw[h1,h2]
theorem ZHw{l:List UInt8}(h:l.length<=1000):YI l=some l:=by
 unfold YI;rw[ZKL (by simp only[RF,LIM];omega)];rfl
theorem ZQs (d:Disk)(h:d.Waits.length<=5000)(f:∀w∈d.Waits,w.Data.length<=1000):loop (QZ d) (([]:List Write),0)=some d.Waits:=by
 rw[ZEH d.Waits (λi (r:List Write)=>(r,i)) (λb r=>some<|.inl<|r++ [b]) (λr=>r) (λi r=>r.length=i) (λi hi r c=> ?_) (λi hi r j c e=> ?_) (λr _=> ?_) (J8<|by omega) rfl,GV]
 . show some _=some _;congr 1
   suffices H:∀(l:List Write) (a:List Write),l.foldl (λr b=>r++ [b]) a=a++l by simpa using H d.Waits []
   intro l;induction l with
   |nil=>simp
   |cons b l g=>intro a;simp[g]
 . unfold QZ;rw[cI,TJ hi,G6 _ hi,show og_bytes_Clone d.Waits[i].Data=YI d.Waits[i].Data from rfl,ZHw<|f _<|Ry hi];simp only[Tg];rw[ZKL (by simp only[Ts,RF,LIM];omega)];rfl
 . simp only[SE,Sum.inl.injEq]at e;subst e;simp[c]
 . unfold QZ;rw[cI,TK<|by omega]
theorem ZE7{d:Disk}(h:Mid d):XD d=some d:=by
 unfold XD;rw[ZQu d h.blocks];simp only[Tg];rw[ZM3 _ h.blocks h.eb];simp only[Tg];rw[ZQt d h.blocks];simp only[Tg];rw[ZQs d h.waits h.ew];rfl
theorem UF{α:Type}:∀{l:List α} {n:Nat},lenLe l n=true↔l.length<=n
  |[],n=>⟨λ_=>TQ _,λ_=>rfl⟩
  |_::l,0=>⟨λh=>(by cases h),λh=>(by simp at h)⟩
  | _::l,n+1=>by
    show lenLe l n=true↔_;rw[UF (l:=l),Ts];omega
theorem UG{α:Type}:∀{l:List α} {n:Nat},lenEq l n=true↔l.length=n
  | [],n=>by
    show Nat.beq n 0=true↔_;exact⟨λh=>(TA h).symm,λh=>by subst h;rfl⟩
  |_::l,0=>⟨λh=>(by cases h),λh=>(by simp at h)⟩
  | _::l,n+1=>by
    show lenEq l n=true↔_;rw[UG (l:=l),Ts];omega
theorem ZAJ{α:Type}{p:α->Bool}:∀{l:List α},allQ p l=true↔∀x∈l,p x=true
  |[]=>⟨λ_ x h=>(by cases h),λ_=>rfl⟩
  | a ::l=>by
    show Bool.rec false (allQ p l) (p a)=true↔_;cases h:p a
    . exact⟨λh=>(by cases h),λh2=>by rw[h2 a (by simp)]at h;cases h⟩
    . show allQ p l=true↔_;rw[ZAJ (l:=l)];simp[h]
theorem ZPc{d:Disk}(h:midQ d=true):Mid d:=by
 unfold midQ at h;rw[TD,TD,TD,UF,UF,ZAJ,ZAJ]at h;exact⟨h.1.1,h.2.1,λb hb=>UF.1<|h.1.2 b hb,λw a=>UF.1<|h.2.2 w a⟩
theorem ZK3{d:Disk}:okdQ d=true↔OKD d:=by
 unfold okdQ OKD okW;rw[TD,TD,TD,UF,UG,ZAJ,ZAJ];constructor
 . rintro⟨⟨h1,h2⟩,h3,h⟩;refine⟨h1,h3,λb hb=>UG.1<|h2 b hb,λw a=> ?_⟩;have:=h w a;rw[TD,UG]at this;rw[TD];exact⟨this.1,Rk this.2⟩
 . rintro⟨h1,h3,h2,h⟩;refine⟨⟨h1,λb hb=>UG.2<|h2 b hb⟩,h3,λw a=> ?_⟩;have:=h w a;rw[TD]at this;rw[TD,UG];exact⟨this.1,TO this.2⟩
theorem ZPF (d:Disk):XD d=twinF d:=by
 unfold twinF;cases h:midQ d with
 |false=>rfl
 |true=>exact ZE7<|ZPc h
theorem OKD.sized'{d:Disk}(h:OKD d):Sized d:=by
 obtain⟨h1,h2,h3,a⟩:=h;refine⟨by omega,by omega,λw b=> ?_⟩;have:=a w b;unfold okW at this;rw[TD,SL]at this;unfold InI64;omega
theorem ZJ8 (d:Disk):WS d=Vl d:=by
  unfold Vl;cases h:okdQ d with
  |false=>rfl
  | true=>
    have h:=ZK3.1 h;rw[ZHh h.sized',TJ h];rfl
def layW (B:List (List UInt8))(ws:List Write):List (List UInt8):=ws.foldl (λB w=>B.set w.At.toNat w.Data) B
def KeysOk (M:List (Int×Write)):Prop:=(M.map (·.1)).Nodup/\∀p∈M,0<=p.1
theorem ZG1{M:List (Int×Write)}{k:Int}{y:Write}{p:Int×Write}(h:p∈putM M k y):p∈M\/p=(k,y):=by
  induction M with
  |nil=>simp[putM]at h;exact .inr h
  | cons q r i=>
    simp only[putM]at h;split at h
    . rcases Ta.1 h with a|a
      . exact .inr a
      . exact .inl<|by simp[a]
    . rcases Ta.1 h with a|a
      . exact .inl<|by simp[a]
      . exact(i a).imp (λz=>by simp[z]) id
theorem ZOS{M:List (Int×Write)}{k:Int}{y:Write}(h:(M.map (·.1)).Nodup):((putM M k y).map (·.1)).Nodup:=by
  induction M with
  |nil=>simp[putM]
  | cons q r i=>
    simp only[Tp,SR]at h;simp only[putM];split
    . rename_i e;simp only[Tp,SR];rw[<-e];exact h
    . rename_i e;simp only[Tp,SR];refine⟨λc=> ?_,i h.2⟩;obtain⟨p,d,a⟩:=T7.1 c;rcases ZG1 d with b|b
      . exact h.1<|T7.2 ⟨p,b,a⟩
      . subst b;exact e a.symm
theorem KeysOk.put{M:List (Int×Write)}{k:Int}{y:Write}(h:KeysOk M)(a:0<=k):KeysOk (putM M k y):=
 ⟨ZOS h.1,λp b=>(ZG1 b).elim (h.2 p) λe=>by subst e;exact a⟩
theorem ZPk{M:List (Int×Write)}{L:List (List UInt8)}{j:Nat}{v:List UInt8}(h:∀p∈M,p.1.toNat≠j):
    layM (λy:Write=>y.Data) (L.set j v) M=(layM (λy:Write=>y.Data) L M).set j v:=by
  unfold layM;induction M generalizing L with
  |nil=>rfl
  | cons p r i=>
    simp only[RH];rw[List.set_comm _ _ (λe=>h p (by simp) e.symm),i λq a=>h q<|by simp[a]]
theorem ZPl{M:List (Int×Write)}{L:List (List UInt8)}{k:Int}{y:Write}(h:KeysOk M)(c:0<=k):
    layM (λy:Write=>y.Data) L (putM M k y)=(layM (λy:Write=>y.Data) L M).set k.toNat y.Data:=by
  induction M generalizing L with
  |nil=>rfl
  | cons p r i=>
    obtain⟨h1,h2⟩:=h;simp only[Tp,SR]at h1;simp only[putM];split
    . rename_i e;have b:∀q∈r,q.1.toNat≠k.toNat:=λq a d=>h1.1 (T7.2 ⟨q,a,by have:=h2 q (by simp[a]);omega⟩);show layM _ (L.set k.toNat y.Data) r=(layM _ (L.set p.1.toNat p.2.Data) r).set k.toNat y.Data;rw[<-ZPk b,e,List.set_set]
    . exact i ⟨h1.2,λq a=>h2 q<|by simp[a]⟩
def lastM (ws:List Write):List (Int×Write):=ws.foldl (λM w=>putM M w.At w) []
theorem ZMi (ws:List Write)(w:Write):lastM (ws++ [w])=putM (lastM ws) w.At w:=by simp[lastM]
theorem ZG8 (ws:List Write)(L:List (List UInt8))(h:∀w∈ws,0<=w.At):KeysOk (lastM ws)/\layM (λy:Write=>y.Data) L (lastM ws)=layW L ws/\∀p∈lastM ws,∃w∈ws,p.1=w.At:=by
  suffices H:∀(n:Nat) (ws:List Write),ws.length=n->(∀w∈ws,0<=w.At)->KeysOk (lastM ws)/\layM (λy:Write=>y.Data) L (lastM ws)=layW L ws/\∀p∈lastM ws,∃w∈ws,p.1=w.At from H _ ws rfl h
  intro n;induction n with
  |zero=>intro ws hn _;obtain rfl:=TT.1 hn;exact⟨⟨by simp[lastM],by simp[lastM]⟩,rfl,by simp[lastM]⟩
  | succ n i=>
    intro ws hn h;obtain⟨d,w,rfl⟩:∃a b,ws=a++ [b]:=⟨ws.dropLast,ws.getLast (by intro e;subst e;simp at hn),(List.dropLast_concat_getLast _).symm⟩;obtain⟨h1,h2,h3⟩:=i d (by simpa using hn) (λw c=>h w<|by simp[c]);have c:=h w (by simp);rw[ZMi];refine⟨h1.put c,?_,λp g=> ?_⟩
    . rw[ZPl h1 c,h2];simp[layW]
    . rcases ZG1 g with f|f
      . obtain⟨j,a,b⟩:=h3 p f;exact⟨j,by simp[a],b⟩
      . subst f;exact⟨w,by simp,rfl⟩
theorem ZLH (B:List (List UInt8))(ws:List Write):(layW B ws).length=B.length:=by
 unfold layW;induction ws generalizing B with
 |nil=>rfl
 |cons w ws i=>simp only[RH,i,Sx]
theorem ZPj{B:List (List UInt8)}{ws:List Write}(h:∀b∈B,b.length=256)(d:∀w∈ws,w.Data.length=256):∀b∈layW B ws,b.length=256:=by
  unfold layW;induction ws generalizing B with
  |nil=>exact h
  | cons w ws i=>
    simp only[RH];refine i (λb hb=> ?_) (λe a=>d e<|by simp[a]);rcases List.mem_or_eq_of_mem_set hb with c|c
    . exact h b c
    . rw[c];exact d w<|by simp
theorem ZMb{w:Write}(h:okW w=true):0<=w.At/\w.At<256:=by
 simp only[okW,TD,SL]at h;exact h.1
theorem ZPX{w:Write}(h:okW w=true):w.Data.length=256:=by
 simp only[okW,TD,SL]at h;exact h.2
theorem ZRa{l:List (List UInt8)}(h:l.length<=1000):og_slices_Clone_byte_L l=some l:=by
 unfold og_slices_Clone_byte_L;rw[ZKL (by simp only[RF,LIM];omega)];rfl
theorem ZMh (d:Disk)(h:d.Waits.length<=5000):Kv d=some (lastM d.Waits):=by
 unfold Kv;rw[ZB7 d.Waits (λi (r:List (Int×Write))=>(r,i)) (λw r=>some<|.inl<|putM r w.At w) (λr=>r) (λi hi r=> ?_) (λr=> ?_) (J8<|by omega) [],GV]
 . rfl
 . unfold KD;rw[cI,TJ hi,G6 _ hi];rfl
 . unfold KD;rw[cI,TK<|by omega]
def seenB (d:Disk):List (List UInt8):=layW d.Blocks d.Waits
theorem ZRA{d:Disk}(h:OKD d)(ws:List Write)(b:∀w∈ws,w∈d.Waits):OKD ⟨layW d.Blocks ws,[]⟩:=
 ⟨by simp only[ZLH];exact h.1,by simp,ZPj h.2.2.1 λw a=>ZPX<|h.2.2.2 w<|b w a,by simp⟩
theorem ZOR{d:Disk}(h:OKD d){ws:List Write}(b:∀w∈ws,w∈d.Waits):∀p∈lastM ws,0<=p.1/\p.1.toNat<d.Blocks.length:=λp c=>by
 obtain⟨w,h1,h2⟩:=(ZG8 ws [] λw a=>(ZMb<|h.2.2.2 w<|b w a).1).2.2 p c;have:=ZMb<|h.2.2.2 w<|b w h1;rw[h2,h.1];omega
theorem ZLt{d:Disk}(h:OKD d):QY d=some ⟨seenB d,[]⟩:=by
 unfold QY;rw[ZRa h.mid.blocks];simp only[Tg];rw[ZMh _ h.mid.waits];simp only[Tg];unfold layR;rw[TJ<|ZOR h λw a=>a,(ZG8 d.Waits d.Blocks λw a=>(ZMb<|h.2.2.2 w a).1).2.1];dsimp only;rw[ZE7 (ZRA h d.Waits λw a=>a).mid];rfl
theorem ZRH (bs:List (List UInt8))(ws:List Write):layF bs ws=layW bs ws:=by
 induction ws generalizing bs with
 |nil=>rfl
 |cons w ws i=>exact i _
theorem ZPh (d:Disk):QY d=leftF d:=by
 unfold leftF;cases h:okdQ d with
 |false=>rfl
 |true=>rw[ZLt<|ZK3.1 h,ZRH];rfl
end Go.Ow
