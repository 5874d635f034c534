import Derived.Test.YtfpffkecbhkbkaaGreatDoorOwSo
import Derived.Shelf.SortG.AssemblyIn
import Derived.Shelf.SortG.SortNone
import Derived.Sort.OwnSortedInts
import Derived.Test.YtfpffkecbhkbkaaGreatDoorOwMa
import Derived.Test.YtfpffkecbhkbkaaGreatDoorOwMf
import Derived.Test.YtfpffkecbhkbkaaGreatDoorOwMb
/-
  What is proved here: slices.Sort at integers, by the shelf's contract: an own row is sorted in place.
-/
set_option linter.unusedSimpArgs false
set_option linter.unusedVariables false
namespace Go.Ow
open Go.Shelf Go.RowKit Go.Lib Go.Sort Go.Proofs
variable{P:Program}{ρ:Ren}
def sortI (l:List Int):List Int:=l.mergeSort λx y=>decide (x≤y)
theorem ZJ4 (l:List Int):(sortI l).length=l.length:=List.length_mergeSort _
theorem ZI3 (l:List Int):(l.map λx=> [Value.int .i64 x]).flatten=l.map (Value.int .i64):=by
 induction l with
 |nil=>rfl
 |cons a r i=>rw[Tn,Tc,i];rfl
theorem ZNR (L:SlLaysN.n53 P ρ){HF H:Heaplet}{B:Nat}{E:TypeId}{v:Value}{l:List Int}{K:Own}(Z:RowOf HF RInt B E 1 v l K)(hn:l.length<4611686018427387904):
 Does P (ρ.f 53) #[v] [K] H (λu K' H'=>∃F,u=.tuple #[]∧K'= [F]∧H=H'∧RowOf HF RInt B E 1 v (sortI l) F∧(∀p∈F,p.1∈ids K)):=by
 obtain⟨cells,⟨U,z⟩,G,hone⟩:=Z;have V:∀(H:Heaplet) cs (x:Int),RInt H cs x↔cs= [Value.int .i64 x]:=λ_ _ _=>Iff.rfl;intro w W k;rcases z with⟨rfl,I,rfl⟩|⟨b,cap,cur,rfl,rfl,hB,X,J,M,s⟩
 · obtain rfl:l= []:=TX.1 I;refine CallsIn.mono (callsIn_wide.2 (AnyG.slices_Sort_int_none L none 0 w)) ?_;rintro e w' ⟨rfl,rfl⟩;refine⟨_,[[]],H,rfl,⟨[],rfl,rfl,rfl,?_,by simp⟩,?_⟩
   · rw[show sortI []= []from by simp[sortI]];exact RowOf.nil _ _ _ _ _
   · have:=Mem.same (H:=H) W k;simpa using this
 · have d:=ZCf V G;rw[ZI3]at d;subst d;have N:w.heap[b]? =some (.cells cur E (0,0)):=k.here (b,.cells cur E (0,0)) (by simp);have q:b<w.heap.size:=(Th.1 N).1;have hH:Go.Sort.Holds (Value.int .i64) w b 0 l.toArray:=holds_of_blockI N (by simpa using s);refine CallsIn.mono (callsIn_wide.2 (calls_of_every_depth λD=>AnySG.slices_Sort_int_in L D b 0 cap l w hH q hn)) ?_;rintro e w' ⟨rfl,m,os,rfl⟩;rw[show(l.mergeSort λx y=>decide (x≤y))=sortI l from rfl];have O:=ZJ4 l;obtain⟨i,h⟩:∃c,c=putCells (Value.int .i64) 0 (sortI l).toArray cur:=⟨_,rfl⟩;have Q:i.size=cur.size:=(by rw[h];simp[putCells]);have a:∀j,j<w.heap.size→(grow (putRow (Value.int .i64) (Sort.ahead w m) b 0 (sortI l).toArray) os).heap[j]? =if b=j then some (.cells i E (0,0))else w.heap[j]?:=λj R=>by
    split
    · rename_i e;subst e;rw[h];exact heap_sortedI _ N
    · rename_i t;exact(grownBy_sortedI (w:=w) (g:=b) (n:=m) (os:=os) (sortI l).toArray).block j R (λe=>t (by simpa using e.symm))
   refine⟨_,[[(b,.cells i E (0,0))]],H,rfl,⟨_,rfl,rfl,rfl,⟨(sortI l).map (Value.int .i64),⟨?_,.inr ⟨b,cap,i,by rw[O],rfl,hB,by omega,J,by rw[Q];exact M,?_⟩⟩,?_,?_⟩,by simp[ids]⟩,?_⟩
   · simp
   · rw[Sh,h];exact take_putCellsI cur _ (by omega)
   · rw[←ZI3];exact GG V (λ_=>rfl) _
   · intro u hu;obtain⟨x,_,rfl⟩:=SH.1 hu;rfl
   · have A:=λo=>k.apart (b,.cells cur E (0,0)) (by simp) o;refine⟨λC o v' e=> ?_,⟨?_,by simp[ids],λp r o=> ?_⟩,⟨rfl,rfl,rfl,?_,?_,?_⟩,λp r=>.inl (by simp at r;simp[r,ids]),R7 _,λ_ _ _=>rfl,PB⟩
     · have t:b≠C:=λhb=>(by subst hb;rw[A]at e;cases e);have h0:=W _ _ _ e;have S:C<w.heap.size:=by
        unfold World.cell? at h0;cases Y:w.heap[C]? with
        |none=>simp[Y]at h0
        |some o=>exact(Th.1 Y).1
       unfold World.cell? at h0⊢;simp only[a C S,TF t];exact h0
     · intro p r;simp at r;subst r;rw[a b q,TH rfl]
     · simp at r;subst r;exact A o
     · simp[grow,putRow,mapBlock,Sort.ahead]
     · show w.drawn≤w.drawn+m;omega
     · intro j R T;rw[a j R,TF (λe=>T (by simp[ids,e]))]
end Go.Ow
namespace Go.Ow
def insO{α:Type}(l:List α)(i:Int)(v:List α):Option (List α):=match v with
 |[x]=>if 0≤i∧i≤(l.length:Int)∧l.length+1≤LIM then some (l.take i.toNat++x::l.drop i.toNat)else none
 |_=>none
noncomputable def putI (x:Int) (l:List Int):List Int:=List.rec [x] (λy r i=>cond (decide (x≤y)) (x::y::r) (y::i)) l
noncomputable def ZKc (l:List Int):List Int:=List.rec [] (λx _ i=>putI x i) l
theorem ZJG (x:Int)(l:List Int):List.Perm (putI x l) (x::l):=by
  induction l with
  |nil=>exact S9 _
  | cons y r i=>
    show List.Perm (cond (decide (x≤y)) (x::y::r) (y::putI x r)) _;cases decide (x≤y)
    · exact(List.Perm.cons y i).trans (List.Perm.swap x y r)
    · exact S9 _
theorem ZMM (l:List Int):List.Perm (ZKc l) l:=by
 induction l with
 |nil=>exact S9 _
 |cons x r i=>exact(ZJG x _).trans (List.Perm.cons x i)
theorem ZE4 (x:Int):∀{l:List Int},l.Pairwise (· ≤ ·)→(putI x l).Pairwise (· ≤ ·)
  |[],_=>List.pairwise_singleton _ _
  | y ::r,h=>by
    show List.Pairwise _ (cond (decide (x≤y)) (x::y::r) (y::putI x r));obtain⟨h1,h2⟩:=List.pairwise_cons.1 h;cases b:decide (x≤y)with
    | true=>
      have b:=Ta b;exact List.pairwise_cons.2 ⟨λz a=>by
        rcases TW.1 a with rfl|a
        · exact b
        · exact Int.le_trans b (h1 z a),h⟩
    | false=>
      have b:=of_decide_eq_false b;exact List.pairwise_cons.2 ⟨λz a=>by
        rcases TW.1 ((ZJG x r).mem_iff.1 a)with rfl|a
        · omega
        · exact h1 z a,ZE4 x h2⟩
theorem ZIt (l:List Int):(ZKc l).Pairwise (· ≤ ·):=by
 induction l with
 |nil=>exact List.Pairwise.nil
 |cons x r i=>exact ZE4 x i
theorem ZQi (l:List Int):sortI l=ZKc l:=
 List.Perm.eq_of_pairwise (le:=(· ≤ ·)) (λa b _ _ h1 h2=>Int.le_antisymm h1 h2) ((List.pairwise_mergeSort (le:=λx y:Int=>decide (x≤y)) (λa b c h1 h2=>by simp at*;omega) (λa b=>by simp;omega) l).imp λh=>by simpa using h) (ZIt l) ((List.mergeSort_perm l _).trans (ZMM l).symm)
noncomputable def ZJ5 (l:List Int):Option (List Int):=if l.length≤LIM then some (ZKc l)else none
noncomputable section
def pcL{σ τ:Type}(q:Int→Int→Option (List UInt8×Int))(f:List (List UInt8)→Option (List UInt8))(g:List UInt8→Option (List UInt8))(p:(List UInt8)→σ→Option (σ ⊕ τ))(d:List UInt8)(e:List UInt8)(s:σ×Int):Option ((σ×Int) ⊕ τ):=
 Option.bind (q s.2 4) λx=>Option.bind (f ([d,e,x.1])) λa=>Option.bind (g a) λb=>Option.bind (p b s.1) λo=>Sum.elim (λc=>some (.inl (c,w64 (s.2+1)))) (λt=>some (.inr t)) o
def pcP{σ τ:Type}(q:Int→Int→Option (List UInt8×Int))(d:List (List UInt8)→Option (List UInt8))(e:List UInt8→Option (List UInt8))(p:(List UInt8)→σ→Option (σ ⊕ τ))(a:σ)(b:List UInt8)(c:List UInt8):Option (σ ⊕ τ):=
 Option.bind (loop (pcL q d e p b c) (a,0)) (λt=>some (.inr (t)))
def rwL (a:Ptr→Option (List UInt8×Int))(p:List Ptr)(s:List UInt8×Nat):Option ((List UInt8×Nat) ⊕ ((List UInt8) ⊕ Int)):=
 cond (decide (((s.2:Nat):Int)<(p.length:Int))) (idx p ((s.2:Nat):Int) λy=>Option.bind (a y) λx=>cond (!decide (x.2=0)) (some (.inr (.inr x.2))) (appN 256 s.1 x.1 λq=>some (.inl (q,s.2+1)))) (some (.inr (.inl s.1)))
def rwP (q:Ptr→Option (List UInt8×Int))(p:List Ptr):Option (List UInt8×Int):=
 cond (decide (16<(p.length:Int))) (some (([]:List UInt8),4)) (Option.bind (loop (rwL q p) (([]:List UInt8),0)) (λb=>Sum.elim (λt=>extO 256 t 256 λm=>some (m,0)) (λa=>some (([]:List UInt8),a)) b))
end
open Go.Pv (agree nilq Zp backR)
set_option maxRecDepth 20000
noncomputable section
def lenLe{α:Type}(l:List α):Nat→Bool:=List.rec (λ_=>true) (λ_ _ i n=>Nat.rec false (λm _=>i m) n) l
def lenEq{α:Type}(l:List α):Nat→Bool:=List.rec (λn=>Nat.beq n 0) (λ_ _ i n=>Nat.rec false (λm _=>i m) n) l
def allQ{α:Type}(p:α→Bool)(l:List α):Bool:=List.rec true (λa _ i=>Bool.rec false i (p a)) l
def midQ (d:Disk):Bool:=Bool.and (Bool.and (lenLe d.Blocks 1000) (allQ (λb=>lenLe b 1000) d.Blocks)) (Bool.and (lenLe d.Waits 5000) (allQ (λw=>lenLe w.Data 1000) d.Waits))
def twinF (d:Disk):Option Disk:=cond (midQ d) (some d) (Xm d)
def okdQ (d:Disk):Bool:=Bool.and (Bool.and (lenEq d.Blocks 256) (allQ (λb=>lenEq b 256) d.Blocks)) (Bool.and (lenLe d.Waits 4096) (allQ (λw=>Bool.and (decide (0≤w.At∧w.At<256)) (lenEq w.Data 256)) d.Waits))
def layF (bs:List (List UInt8))(ws:List Write):List (List UInt8):=List.rec (λbs=>bs) (λw _ i bs=>i (bs.set w.At.toNat w.Data)) ws bs
def leftF (d:Disk):Option Disk:=cond (okdQ d) (some ⟨layF d.Blocks d.Waits,[]⟩) (Qf d)
def cmpP (x y:Ptr):Int:=if x.At<y.At then -1 else if y.At<x.At then 1 else 0
def ZNQ (l:List Ptr):Option (List Ptr):=if l.length≤LIM then some (sortL cmpP l)else none
def ZI2:Option (List UInt8):=(QA [(1:UInt8)] 12).bind λx=>mks 244 (0:UInt8) λm=>app x m λa=>some a
def Vn:Option Store:=(Us).bind λx=>(ZI2).bind λa=>some (Store.mk x a 1 0)
def ZGH:Option Pool:=(Vn).bind λx=>mks 8 [] λm=>mks 8 [] λa=>some (Pool.mk x 0 (Ptr.mk 0 0 0 0 0) [] [] m a [] 0 1 1)
def XD (a:Int):Option Bool:=some (decide (u64i a<256))
def UT (a:Disk)(x:Bool×Nat):Option ((Bool×Nat) ⊕ Bool):=cond (decide ((x.2:Int)<(a.Blocks.length:Int))) (idx a.Blocks (x.2:Int) λy=>cond x.1 (some (.inl (decide ((y.length:Int)=256),x.2+1))) (some (.inl (false,x.2+1)))) (some (.inr x.1))
def US (a:Disk)(x:Bool×Nat):Option ((Bool×Nat) ⊕ Bool):=cond (decide ((x.2:Int)<(a.Waits.length:Int))) (idx a.Waits (x.2:Int) λy=>cond x.1 ((XD y.At).bind λb=>cond b (some (.inl (decide ((y.Data.length:Int)=256),x.2+1))) (some (.inl (false,x.2+1)))) (some (.inl (false,x.2+1)))) (some (.inr x.1))
def Wm (a:Disk):Option Int:=Option.bind (α:=Bool) (cond (decide ((a.Blocks.length:Int)=256)) (some (decide ((a.Waits.length:Int)≤4096))) (some false))<|λx=>(loop (UT a) (x,0)).bind λb=>(loop (US a) (b,0)).bind λc=>cond c (some 0) (some 8)
def Kg (a:Disk):Option Int:=cond (okdQ a) (some 0) (Wm a)
def Yu (a:List UInt8)(x:UInt8×Nat):Option ((UInt8×Nat) ⊕ UInt8):=cond (decide ((x.2:Int)<(a.length:Int))) (idx a (x.2:Int) λy=>some (.inl (maxB x.1 y,x.2+1))) (some (.inr x.1))
def KM (a:List UInt8):Option UInt8:=cond (decide ((a.length:Int)<1)) (none) (idx a 0 λy=>(loop (Yu a) (y,1)).bind λx=>some x)
def B7 (a:List UInt8)(b:UInt8):Option Int:=some (Lib.indexByte a b)
def Jz (a:List UInt8)(b:List UInt8):Option Bool:=some (decide (a=b))
def ZAT (a:List UInt8)(b:List UInt8):Option Int:=cond (decide ((b.length:Int)=0)) (some 0) (cond (decide ((b.length:Int)=1)) (idx b 0 λy=>(B7 a y).bind λx=>some x) (cond (decide ((b.length:Int)=(a.length:Int))) ((Jz b a).bind λc=>cond c (some 0) (some (-1))) (cond (decide ((a.length:Int)<(b.length:Int))) (some (-1)) (none))))
def ZIC (b:List UInt8)(x:List UInt8×Int):Option ((List UInt8×Int) ⊕ Int):=(ZAT x.1 b).bind λa=>cond (decide (a=(-1))) (some (.inr x.2)) (slc x.1 (w64 (a+(b.length:Int))) (x.1.length:Int) λm=>some (.inl (m,w64 (x.2+1))))
def J0 (a:List UInt8)(b:List UInt8):Option Int:=cond (decide ((b.length:Int)=0)) (none) (cond (decide ((b.length:Int)=1)) (idx b 0 λy=>some (cntB a y:Int)) ((loop (ZIC b) (a,0)).bind λx=>some x))
def Qa (a:List UInt8):Option Int:=Option.bind (α:=Bool) (cond (!(decide ((a.length:Int)=256))) (some true) ((KM a).bind λx=>cond (decide (2<x)) (some true) (slc a 0 12 λm=>(J0 m [(1:UInt8)]).bind λb=>some (!(decide (b=12))))))<|λc=>cond c (some 8) (some 0)
def Yp (a:Store):Option Int:=Option.bind (α:=Bool) ((Kg a.Disk).bind λx=>cond (!(decide (x=0))) (some true) ((Qa a.Space).bind λb=>cond (!(decide (b=0))) (some true) (cond (decide (a.Epoch<1)) (some true) (cond (decide (65535<a.Epoch)) (some true) (some (decide (65535<a.Count)))))))<|λc=>cond c (some 8) (some 0)
def YA (a:Ptr):Option Int:=cond (decide (a.At=0)&&(decide (a.Birth=0)&&(decide (a.Iv=0)&&(decide (a.Tag=0)&&(decide (a.Sum=0)&&true))))) (some 0) (Option.bind (α:=Bool) (cond (decide (a.At<12)) (some true) (cond (decide (256≤a.At)) (some true) (cond (decide (a.Birth<1)) (some true) (some (decide (16777215<a.Birth))))))<|λx=>cond x (some 8) (some 0))
def KC (a:Int):Option Bool:=some (!(decide (a=a)))
def Zf (a:Int)(b:Int):Option Int:=(KC a).bind λc=>(KC b).bind λx=>cond c (cond x (some 0) (some (-1))) (cond x (some 1) (cond (decide (a<b)) (some (-1)) (cond (decide (b<a)) (some 1) (some 0))))
def V0 (a:Ptr)(b:Ptr):Option Int:=(Zf a.At b.At).bind λx=>some x
def WI (a:List Ptr)(x:Nat):Option (Nat ⊕ (Unit ⊕ Unit)):=cond (decide ((x:Int)<(a.length:Int))) (idx a (x:Int) λy=>Option.bind (α:=Bool) (cond (decide (y.At=0)&&(decide (y.Birth=0)&&(decide (y.Iv=0)&&(decide (y.Tag=0)&&(decide (y.Sum=0)&&true))))) (some true) ((YA y).bind λb=>cond (!(decide (b=0))) (some true) (cond (decide (0<(x:Int))) (idx a (w64 ((x:Int)-1)) λc=>(V0 c y).bind λd=>some (decide (0≤d))) (some false))))<|λe=>cond e (some (.inr (.inl ()))) (some (.inl (x+1)))) (some (.inr (.inr ())))
def KW (a:List Ptr):Option Int:=cond (decide (240<(a.length:Int))) (some 8) (Option.bind (loop (WI a) 0)<|Sum.elim (λx=>some 8) (λb=>some 0))
def QY (a:Line)(b:Int):Option Int:=(Zf a.Id b).bind λx=>some x
def Zw (a:List Line)(b:Int)(x:Int×Int):Option ((Int×Int) ⊕ Int):=cond (decide (x.1<x.2)) (chk (0≤(1:Int))<|idx a (w64 ((sr64 (u64i (w64 (x.1+x.2))) 1).toNat:Int)) λy=>(QY y b).bind λc=>cond (decide (c<0)) (some (.inl (w64 ((w64 ((sr64 (u64i (w64 (x.1+x.2))) 1).toNat:Int))+1),x.2))) (some (.inl (x.1,w64 ((sr64 (u64i (w64 (x.1+x.2))) 1).toNat:Int))))) (some (.inr x.1))
def Z6 (a:List Line)(b:Int):Option (Int×Bool):=(loop (Zw a b) (0,(a.length:Int))).bind λx=>cond (decide (x<(a.length:Int))) (idx a x λy=>(QY y b).bind λc=>some (x,decide (c=0))) (some (x,false))
def GW (a:List Line)(b:Int):Option (Option Line):=(Z6 a b).bind λx=>cond (!x.2) (some none) (idx a x.1 λy=>some (some y))
def ZGG (a:List Line)(b:Line):Option Bool:=(GW a b.Owner).bind λc=>(GW a b.Prev).bind λx=>Option.bind (α:=Bool) (cond c.isNone (some true) (Option.bind c λy=>cond (!(decide (y.Kind=1))) (some true) (cond (decide (b.Kind=1)) (some (!(decide (b.Owner=b.Id)))) (some false))))<|λd=>cond d (some false) (cond (decide (b.Prev=0)) (some true) (Option.bind (α:=Bool) (cond x.isNone (some true) (Option.bind x λe=>cond (!(decide (e.Kind=2))) (some true) (Option.bind x λf=>some (!(decide (f.Key=b.Key))))))<|λg=>cond g (some false) (Option.bind x λh=>cond (decide (h.Txg<b.Txg)) (some true) (Option.bind x λi=>cond (decide (i.Txg=b.Txg)) (some (decide (b.Kind=1))) (some false)))))
def KL (a:List Line)(x:Nat):Option (Nat ⊕ (Unit ⊕ Unit)):=cond (decide ((x:Int)<(a.length:Int))) (idx a (x:Int) λy=>Option.bind (α:=Bool) (cond (decide (y.Id<1)) (some true) (cond (decide (255<y.Id)) (some true) (cond (decide (0<(x:Int))) (idx a (w64 ((x:Int)-1)) λb=>cond (decide (y.Id≤b.Id)) (some true) (cond (!(decide (y.Kind=1))) (some (!(decide (y.Kind=2)))) (some false))) (cond (!(decide (y.Kind=1))) (some (!(decide (y.Kind=2)))) (some false)))))<|λc=>cond c (some (.inr (.inl ()))) (some (.inl (x+1)))) (some (.inr (.inr ())))
def KJ (a:List Line)(x:Nat):Option (Nat ⊕ (Unit ⊕ Unit)):=cond (decide ((x:Int)<(a.length:Int))) (idx a (x:Int) λy=>Option.bind (α:=Bool) (cond (decide (16777215<y.Txg)) (some true) (cond (decide (y.Key<0)) (some true) (cond (decide (8≤y.Key)) (some true) ((YA y.Root).bind λe=>cond (!(decide (e=0))) (some true) ((KW y.Dead).bind λb=>cond (!(decide (b=0))) (some true) ((ZGG a y).bind λc=>some (!c)))))))<|λd=>cond d (some (.inr (.inl ()))) (some (.inl (x+1)))) (some (.inr (.inr ())))
def UL (a:List Line):Option Bool:=cond (decide (16<(a.length:Int))) (some false) (Option.bind (loop (KL a) 0)<|Sum.elim (λc=>some false) (λd=>Option.bind (loop (KJ a) 0)<|Sum.elim (λx=>some false) (λb=>some true)))
def V6 (a:List UInt8)(b:Int):Option (Bool×Int):=cond (decide (0<(a.length:Int))) (cond (!(decide ((a.length:Int)=b))) (some (true,b)) (cond (decide (b=24)) (mks b (0:UInt8) λm=>(Jz a m).bind λx=>some (x,b)) (some (false,b)))) (some (false,b))
def Z5 (a:List (List UInt8))(x:Int×Int):Option ((Int×Int) ⊕ ((Int×Int) ⊕ Int)):=cond (decide (x.2<(a.length:Int))) (idx a x.2 λy=>(V6 y x.1).bind λb=>cond b.1 (some (.inr (.inl (b.2,x.2)))) (some (.inl (b.2,w64 (x.2+1))))) (some (.inr (.inr x.1)))
def Vr (a:List (List UInt8))(b:Int):Option (Int×Int):=Option.bind (loop (Z5 a) (b,0))<|Sum.elim (λx=>some (x.2,x.1)) (λc=>some ((-1),c))
def Q2 (a:List (List UInt8))(b:Int):Option (Bool×Int):=(Vr a b).bind λx=>some (decide (0≤x.1),x.2)
def WR (a:List (List UInt8))(b:Int):Option Bool:=cond (decide ((a.length:Int)=8)) ((Q2 a b).bind λx=>some (!x.1)) (some false)
def V7 (a:Change):Option Bool:=Option.bind (α:=Bool) (cond (decide (a.Kind=0)) (cond (decide (a.Links=0)) (some (decide (a.Size=0))) (some false)) (some false))<|λx=>Option.bind (α:=Bool) (cond (decide (a.Obj<0)) (some true) (cond (decide (16≤a.Obj)) (some true) (cond (decide (a.Index<0)) (some true) (some (decide (15<a.Index))))))<|λb=>cond b (some false) (cond (decide (a.Index=15)) (Option.bind (α:=Bool) (cond (decide (a.Kind≤7)) (cond (decide (0≤min a.Links a.Size)) (cond (decide (a.Links≤255)) (some (decide (a.Size≤3840))) (some false)) (some false)) (some false))<|λc=>Option.bind (α:=Bool) (cond c (cond (decide ((a.Data.length:Int)=0)) (cond (decide (a.Laid.At=0)&&(decide (a.Laid.Birth=0)&&(decide (a.Laid.Iv=0)&&(decide (a.Laid.Tag=0)&&(decide (a.Laid.Sum=0)&&true))))) (cond (decide (0<a.Kind)) (some true) (some x)) (some false)) (some false)) (some false))<|λd=>some d) (cond x (cond (decide ((a.Data.length:Int)=0)) ((YA a.Laid).bind λe=>some (decide (e=0))) (cond (decide ((a.Data.length:Int)=256)) ((YA a.Laid).bind λf=>some (decide (f=0))) (some false))) (some false)))
def YW (a:List Int)(x:Nat):Option (Nat ⊕ (Int ⊕ Unit)):=cond (decide ((x:Int)<(a.length:Int))) (idx a (x:Int) λy=>cond (!(decide (y=0))) (some (.inr (.inl y))) (some (.inl (x+1)))) (some (.inr (.inr ())))
def U5 (a:List Int):Option Int:=Option.bind (loop (YW a) 0)<|Sum.elim (λx=>some x) (λb=>some 0)
def ZAc (a:Change)(b:Change):Option Int:=(Zf a.Set b.Set).bind λx=>(Zf a.Obj b.Obj).bind λc=>(Zf a.Index b.Index).bind λd=>(U5 [x,c,d]).bind λe=>some e
def JX (a:Line)(b:Pool):Option (Bool×Pool):=cond (decide (b.NextId≤a.Id)) (some (true,b)) (some (decide (b.NextGuid≤a.Guid),b))
def Zb (a:List Line)(x:Pool×Int):Option ((Pool×Int) ⊕ ((Pool×Int) ⊕ Pool)):=cond (decide (x.2<(a.length:Int))) (idx a x.2 λy=>(JX y x.1).bind λb=>cond b.1 (some (.inr (.inl (b.2,x.2)))) (some (.inl (b.2,w64 (x.2+1))))) (some (.inr (.inr x.1)))
def Y8 (a:List Line)(b:Pool):Option (Int×Pool):=Option.bind (loop (Zb a) (b,0))<|Sum.elim (λx=>some (x.2,x.1)) (λc=>some ((-1),c))
def YC (a:List Line)(b:Pool):Option (Bool×Pool):=(Y8 a b).bind λx=>some (decide (0≤x.1),x.2)
def K7 (a:Pool)(x:Nat):Option (Nat ⊕ (Unit ⊕ Unit)):=cond (decide ((x:Int)<(a.MetaL.length:Int))) (idx a.MetaL (x:Int) λy=>Option.bind (α:=Bool) (cond (decide (y<12)) (some true) (cond (decide (256≤y)) (some true) (cond (decide (0<(x:Int))) (idx a.MetaL (w64 ((x:Int)-1)) λb=>cond (decide (y≤b)) (some true) (idx a.Store.Space y λc=>some (!(decide (c=1))))) (idx a.Store.Space y λd=>some (!(decide (d=1)))))))<|λe=>cond e (some (.inr (.inl ()))) (some (.inl (x+1)))) (some (.inr (.inr ())))
def K6 (a:Pool)(x:Nat):Option (Nat ⊕ (Unit ⊕ Unit)):=cond (decide ((x:Int)<(a.Changes.length:Int))) (idx a.Changes (x:Int) λy=>(GW a.Lines y.Set).bind λb=>Option.bind (α:=Bool) (cond b.isNone (some true) (Option.bind b λc=>cond (!(decide (c.Kind=1))) (some true) ((V7 y).bind λd=>cond (!d) (some true) (cond (decide (0<(x:Int))) (idx a.Changes (w64 ((x:Int)-1)) λe=>(ZAc e y).bind λf=>some (decide (0≤f))) (some false)))))<|λg=>cond g (some (.inr (.inl ()))) (some (.inl (x+1)))) (some (.inr (.inr ())))
def Vm (a:Pool):Option Int:=Option.bind (α:=Bool) ((Yp a.Store).bind λf=>cond (!(decide (f=0))) (some true) (cond (decide (16777215<a.Gen)) (some true) ((YA a.Root).bind λg=>cond (!(decide (g=0))) (some true) (some (!((decide (a.Root.At=0)&&(decide (a.Root.Birth=0)&&(decide (a.Root.Iv=0)&&(decide (a.Root.Tag=0)&&(decide (a.Root.Sum=0)&&true)))))==(decide (a.Gen=0))))))))<|λh=>cond h (some 8) (Option.bind (loop (K7 a) 0)<|Sum.elim (λi=>some 8) (λj=>Option.bind (α:=Bool) ((UL a.Lines).bind λx=>cond (!x) (some true) ((WR a.Keys 24).bind λb=>cond (!b) (some true) ((WR a.Loaded 16).bind λc=>cond (!c) (some true) (cond (decide (a.Logged<0)) (some true) (cond (decide (8<a.Logged)) (some true) (cond (decide (a.NextId<1)) (some true) (some (decide (256<a.NextId)))))))))<|λd=>cond d (some 8) (Option.bind (loop (K6 a) 0)<|Sum.elim (λk=>some 8) (λl=>(YC a.Lines a).bind λe=>cond e.1 (some 8) (some 0)))))
def Zr (a:List UInt8):Option (List UInt8):=app [] a λm=>some m
def Ul (a:Store):Option Store:=(twinF a.Disk).bind λx=>(Zr a.Space).bind λb=>some (Store.mk x b a.Epoch a.Count)
def Qq (a:List Int):Option (List Int):=app [] a λm=>some m
def Y6 (a:List Line):Option (List Line):=app [] a λm=>some m
def Zx (a:List Change):Option (List Change):=app [] a λm=>some m
def YE (a:List Ptr):Option (List Ptr):=app [] a λm=>some m
def VA (a:List (List UInt8)):Option (List (List UInt8)):=app [] a λm=>some m
def JW (c:List Line)(x:Disk×UInt32×UInt32×UInt32×Ptr×List Line×List (List UInt8)×List (List UInt8)×Int×Int×UInt32×Int):Option ((Disk×UInt32×UInt32×UInt32×Ptr×List Line×List (List UInt8)×List (List UInt8)×Int×Int×UInt32×Int) ⊕ (Disk×UInt32×UInt32×UInt32×Ptr×List Line×List (List UInt8)×List (List UInt8)×Int×Int×UInt32)):=cond (decide (x.2.2.2.2.2.2.2.2.2.2.2<(c.length:Int))) (chk (0≤x.2.2.2.2.2.2.2.2.2.2.2∧x.2.2.2.2.2.2.2.2.2.2.2.toNat<x.2.2.2.2.2.1.length)<|idx x.2.2.2.2.2.1 x.2.2.2.2.2.2.2.2.2.2.2 λa=>(YE a.Dead).bind λb=>chk (0≤x.2.2.2.2.2.2.2.2.2.2.2∧x.2.2.2.2.2.2.2.2.2.2.2.toNat<x.2.2.2.2.2.1.length)<|idx x.2.2.2.2.2.1 x.2.2.2.2.2.2.2.2.2.2.2 λy=>setI x.2.2.2.2.2.1 x.2.2.2.2.2.2.2.2.2.2.2 (Line.mk y.Id y.Kind y.Owner y.Prev y.Txg y.Guid y.Key y.Root b) λm=>some (.inl (x.1,x.2.1,x.2.2.1,x.2.2.2.1,x.2.2.2.2.1,m,x.2.2.2.2.2.2.1,x.2.2.2.2.2.2.2.1,x.2.2.2.2.2.2.2.2.1,x.2.2.2.2.2.2.2.2.2.1,x.2.2.2.2.2.2.2.2.2.2.1,w64 (x.2.2.2.2.2.2.2.2.2.2.2+1)))) (some (.inr (x.1,x.2.1,x.2.2.1,x.2.2.2.1,x.2.2.2.2.1,x.2.2.2.2.2.1,x.2.2.2.2.2.2.1,x.2.2.2.2.2.2.2.1,x.2.2.2.2.2.2.2.2.1,x.2.2.2.2.2.2.2.2.2.1,x.2.2.2.2.2.2.2.2.2.2.1)))
def JV (c:List Change)(x:Disk×UInt32×UInt32×UInt32×Ptr×List (List UInt8)×List (List UInt8)×List Change×Int×Int×UInt32×Int):Option ((Disk×UInt32×UInt32×UInt32×Ptr×List (List UInt8)×List (List UInt8)×List Change×Int×Int×UInt32×Int) ⊕ (Disk×UInt32×UInt32×UInt32×Ptr×List (List UInt8)×List (List UInt8)×List Change×Int×Int×UInt32)):=cond (decide (x.2.2.2.2.2.2.2.2.2.2.2<(c.length:Int))) (chk (0≤x.2.2.2.2.2.2.2.2.2.2.2∧x.2.2.2.2.2.2.2.2.2.2.2.toNat<x.2.2.2.2.2.2.2.1.length)<|idx x.2.2.2.2.2.2.2.1 x.2.2.2.2.2.2.2.2.2.2.2 λa=>(Zr a.Data).bind λb=>chk (0≤x.2.2.2.2.2.2.2.2.2.2.2∧x.2.2.2.2.2.2.2.2.2.2.2.toNat<x.2.2.2.2.2.2.2.1.length)<|idx x.2.2.2.2.2.2.2.1 x.2.2.2.2.2.2.2.2.2.2.2 λy=>setI x.2.2.2.2.2.2.2.1 x.2.2.2.2.2.2.2.2.2.2.2 (Change.mk y.Set y.Obj y.Index y.Kind y.Links y.Size b y.Laid) λm=>some (.inl (x.1,x.2.1,x.2.2.1,x.2.2.2.1,x.2.2.2.2.1,x.2.2.2.2.2.1,x.2.2.2.2.2.2.1,m,x.2.2.2.2.2.2.2.2.1,x.2.2.2.2.2.2.2.2.2.1,x.2.2.2.2.2.2.2.2.2.2.1,w64 (x.2.2.2.2.2.2.2.2.2.2.2+1)))) (some (.inr (x.1,x.2.1,x.2.2.1,x.2.2.2.1,x.2.2.2.2.1,x.2.2.2.2.2.1,x.2.2.2.2.2.2.1,x.2.2.2.2.2.2.2.1,x.2.2.2.2.2.2.2.2.1,x.2.2.2.2.2.2.2.2.2.1,x.2.2.2.2.2.2.2.2.2.2.1)))
def JU (a:List (List UInt8))(x:Disk×UInt32×UInt32×UInt32×Ptr×List (List UInt8)×Int×Int×UInt32×Int):Option ((Disk×UInt32×UInt32×UInt32×Ptr×List (List UInt8)×Int×Int×UInt32×Int) ⊕ (Disk×UInt32×UInt32×UInt32×Ptr×List (List UInt8)×Int×Int×UInt32)):=cond (decide (x.2.2.2.2.2.2.2.2.2<(a.length:Int))) (chk (0≤x.2.2.2.2.2.2.2.2.2∧x.2.2.2.2.2.2.2.2.2.toNat<x.2.2.2.2.2.1.length)<|idx x.2.2.2.2.2.1 x.2.2.2.2.2.2.2.2.2 λy=>(Zr y).bind λb=>chk (0≤x.2.2.2.2.2.2.2.2.2∧x.2.2.2.2.2.2.2.2.2.toNat<x.2.2.2.2.2.1.length)<|setI x.2.2.2.2.2.1 x.2.2.2.2.2.2.2.2.2 b λm=>some (.inl (x.1,x.2.1,x.2.2.1,x.2.2.2.1,x.2.2.2.2.1,m,x.2.2.2.2.2.2.1,x.2.2.2.2.2.2.2.1,x.2.2.2.2.2.2.2.2.1,w64 (x.2.2.2.2.2.2.2.2.2+1)))) (some (.inr (x.1,x.2.1,x.2.2.1,x.2.2.2.1,x.2.2.2.2.1,x.2.2.2.2.2.1,x.2.2.2.2.2.2.1,x.2.2.2.2.2.2.2.1,x.2.2.2.2.2.2.2.2.1)))
def JT (a:List (List UInt8))(x:Disk×UInt32×UInt32×UInt32×Ptr×List (List UInt8)×Int×Int×UInt32×Int):Option ((Disk×UInt32×UInt32×UInt32×Ptr×List (List UInt8)×Int×Int×UInt32×Int) ⊕ (Disk×UInt32×UInt32×UInt32×Ptr×List (List UInt8)×Int×Int×UInt32)):=cond (decide (x.2.2.2.2.2.2.2.2.2<(a.length:Int))) (chk (0≤x.2.2.2.2.2.2.2.2.2∧x.2.2.2.2.2.2.2.2.2.toNat<x.2.2.2.2.2.1.length)<|idx x.2.2.2.2.2.1 x.2.2.2.2.2.2.2.2.2 λy=>(Zr y).bind λb=>chk (0≤x.2.2.2.2.2.2.2.2.2∧x.2.2.2.2.2.2.2.2.2.toNat<x.2.2.2.2.2.1.length)<|setI x.2.2.2.2.2.1 x.2.2.2.2.2.2.2.2.2 b λm=>some (.inl (x.1,x.2.1,x.2.2.1,x.2.2.2.1,x.2.2.2.2.1,m,x.2.2.2.2.2.2.1,x.2.2.2.2.2.2.2.1,x.2.2.2.2.2.2.2.2.1,w64 (x.2.2.2.2.2.2.2.2.2+1)))) (some (.inr (x.1,x.2.1,x.2.2.1,x.2.2.2.1,x.2.2.2.2.1,x.2.2.2.2.2.1,x.2.2.2.2.2.2.1,x.2.2.2.2.2.2.2.1,x.2.2.2.2.2.2.2.2.1)))
def Q7 (a:Pool):Option Pool:=(Ul a.Store).bind λg=>(Qq a.MetaL).bind λj=>(Y6 a.Lines).bind λh=>(Zx a.Changes).bind λi=>(loop (JW h) (g.Disk,g.Epoch,g.Count,a.Gen,a.Root,h,a.Keys,a.Loaded,a.Logged,a.NextId,a.NextGuid,0)).bind λx=>(loop (JV i) (x.1,x.2.1,x.2.2.1,x.2.2.2.1,x.2.2.2.2.1,x.2.2.2.2.2.2.1,x.2.2.2.2.2.2.2.1,i,x.2.2.2.2.2.2.2.2.1,x.2.2.2.2.2.2.2.2.2.1,x.2.2.2.2.2.2.2.2.2.2,0)).bind λb=>(VA b.2.2.2.2.2.1).bind λe=>(VA b.2.2.2.2.2.2.1).bind λf=>(loop (JU e) (b.1,b.2.1,b.2.2.1,b.2.2.2.1,b.2.2.2.2.1,e,b.2.2.2.2.2.2.2.2.1,b.2.2.2.2.2.2.2.2.2.1,b.2.2.2.2.2.2.2.2.2.2,0)).bind λc=>(loop (JT f) (c.1,c.2.1,c.2.2.1,c.2.2.2.1,c.2.2.2.2.1,f,c.2.2.2.2.2.2.1,c.2.2.2.2.2.2.2.1,c.2.2.2.2.2.2.2.2,0)).bind λd=>some (Pool.mk (Store.mk d.1 g.Space d.2.1 d.2.2.1) d.2.2.2.1 d.2.2.2.2.1 j x.2.2.2.2.2.1 c.2.2.2.2.2.1 d.2.2.2.2.2.1 b.2.2.2.2.2.2.2.1 d.2.2.2.2.2.2.1 d.2.2.2.2.2.2.2.1 d.2.2.2.2.2.2.2.2)
def WS (a:Change)(b:Int)(c:List Line):Option (Bool×List Line×Int):=idx c b λy=>some (!(decide (a.Set=y.Id)),c,b)
def Y7 (a:List Change)(x:Int×Int×List Line):Option ((Int×Int×List Line) ⊕ ((Int×Int×List Line) ⊕ (Int×List Line))):=cond (decide (x.2.1<(a.length:Int))) (chk (0≤x.2.1∧x.2.1.toNat<a.length)<|idx a x.2.1 λy=>(WS y x.1 x.2.2).bind λb=>cond b.1 (some (.inr (.inl (b.2.2,x.2.1,b.2.1)))) (some (.inl (b.2.2,w64 (x.2.1+1),b.2.1)))) (some (.inr (.inr (x.1,x.2.2))))
def Z1 (a:List Change)(b:Int)(c:List Line):Option (Int×List Change×List Line×Int):=Option.bind (loop (Y7 a) (b,0,c))<|Sum.elim (λx=>some (x.2.1,a,x.2.2,x.1)) (λd=>some ((-1),a,d.2,d.1))
def XX (x:Int×List Change×Int×Int×List Line):Option ((Int×List Change×Int×Int×List Line) ⊕ (Int×List Change×Int×List Line)):=cond (decide (x.2.2.2.1<(x.2.1.length:Int))) (chk (0≤x.2.2.2.1∧x.2.2.2.1.toNat<x.2.1.length)<|idx x.2.1 x.2.2.2.1 λy=>(WS y x.1 x.2.2.2.2).bind λa=>Option.bind (α:=(List Change×Int)) (cond (!a.1) (chk (0≤x.2.2.1∧x.2.2.1.toNat<x.2.1.length)<|setI x.2.1 x.2.2.1 y λm=>some (m,w64 (x.2.2.1+1))) (some (x.2.1,x.2.2.1)))<|λb=>some (.inl (a.2.2,b.1,b.2,w64 (x.2.2.2.1+1),a.2.1))) (some (.inr (x.1,x.2.1,x.2.2.1,x.2.2.2.2)))
def ZU (a:List Change)(b:Int)(c:List Line):Option (List Change×List Line×Int):=(Z1 a b c).bind λx=>cond (decide (x.1=(-1))) (some (x.2.1,x.2.2.1,x.2.2.2)) ((loop (XX) (x.2.2.2,x.2.1,x.1,w64 (x.1+1),x.2.2.1)).bind λd=>chk (0≤d.2.2.1∧d.2.2.1≤(d.2.1.length:Int))<|slc (clr d.2.1 d.2.2.1.toNat d.2.1.length (Change.mk 0 0 0 0 0 0 [] (Ptr.mk 0 0 0 0 0))) 0 d.2.2.1 λm=>some (m,d.2.2.2,d.1))
def ZCj (a:Disk):Option (Disk×Disk):=(leftF a).bind λx=>some (x,a)
def Qk (a:Disk)(b:Bool)(c:Disk):Option (Disk×Int×Disk):=(Kg a).bind λx=>cond (!(decide (x=0))) (some (Disk.mk [] [],x,c)) (cond (!b) (some (Disk.mk [] [],2,c)) ((ZCj c).bind λd=>some (d.1,0,d.2)))
def Gv (a:Disk)(b:Int):Option (List UInt8×Int):=Option.bind (α:=(Disk×Int×Disk)) ((XD b).bind λd=>(Qk a d a).bind λc=>some (c.2.2,c.2.1,c.1))<|λx=>cond (!(decide (x.2.1=0))) (some ([],x.2.1)) (idx x.2.2.Blocks b λy=>some (y,0))
def Zu (a:List UInt8):Option (List UInt8):=app [] a λm=>some m
def Qr (a:List UInt8):Option (List UInt8):=chk ((a.length:Int)=(a.length:Int))<|slc a 0 (a.length:Int) λm=>some m
def Yf (a:List UInt8)(b:Int):Option (List UInt8×Int):=cond (decide (b<1)) (none) (some (a,b))
def V3 (a:Int):Option Bool:=cond (decide (0<a)) (some (decide (a≤4))) (some false)
def XI (a:List UInt8):Option (List UInt8):=some a
def ZAE (y:Int×UInt8)(x:Int):Option (Int ⊕ Unit):=some (.inl (w64 ((w64 (256*x))+(y.2.toNat:Int))))
def YR (a:List UInt8)(b:Int)(c:Int):Option (Int×Int):=(V3 c).bind λx=>Option.bind (α:=Bool) (cond (!x) (some true) (Option.bind (α:=Bool) (cond (decide (b<0)) (some true) (some (decide ((a.length:Int)<b))))<|λd=>some d))<|λe=>cond e (some (0,2)) (cond (decide ((a.length:Int)<w64 (b+c))) (some (0,8)) (slc a b (w64 (b+c)) λm=>(XI m).bind λf=>Option.bind (backR f (ZAE) 0)<|Sum.elim (λg=>some (g,0)) (λ_=>none)))
def Ux (a:List UInt8):Option UInt32:=(YR a 0 4).bind λx=>some (u32i x.1)
def Yo (a:UInt32)(b:Int):Option UInt32:=chk (0≤(((u64i b)&&&(31:UInt64)).toNat:Int))<|chk (0≤(((32:UInt64)-((u64i b)&&&(31:UInt64))).toNat:Int))<|some ((sl32 a ((((u64i b)&&&(31:UInt64)).toNat:Int)).toNat) |||(sr32 a ((((32:UInt64)-((u64i b)&&&(31:UInt64))).toNat:Int)).toNat))
def Yx (a:Int)(b:Int)(c:UInt32)(d:UInt32)(e:UInt32)(f:UInt32):Option (UInt32×UInt32×UInt32×UInt32):=(Yo (f^^^(c+d)) a).bind λx=>(Yo (d^^^(e+x)) b).bind λg=>some (c+d,g,e+x,x)
def Qu (a:UInt32)(b:UInt32)(c:UInt32)(d:UInt32):Option (UInt32×UInt32×UInt32×UInt32):=(Yx 15 11 a b c d).bind λx=>(Yx 9 6 x.1 x.2.1 x.2.2.1 x.2.2.2).bind λe=>some (e.1,e.2.1,e.2.2.1,e.2.2.2)
def KV (e:Int)(x:UInt32×UInt32×UInt32×UInt32×Int):Option ((UInt32×UInt32×UInt32×UInt32×Int) ⊕ (UInt32×UInt32×UInt32×UInt32)):=cond (decide (x.2.2.2.2<e)) ((Qu x.1 x.2.1 x.2.2.1 x.2.2.2.1).bind λa=>some (.inl (a.1,a.2.1,a.2.2.1,a.2.2.2,w64 (x.2.2.2.2+1)))) (some (.inr (x.1,x.2.1,x.2.2.1,x.2.2.2.1)))
def XC (a:UInt32)(b:UInt32)(c:UInt32)(d:UInt32)(e:Int):Option (UInt32×UInt32×UInt32×UInt32):=(loop (KV e) (a,b,c,d,0)).bind λx=>some (x.1,x.2.1,x.2.2.1,x.2.2.2)
def Wb (x:List UInt8):Option (List UInt8 ⊕ List UInt8):=cond (!(decide ((x.length:Int).tmod 8=0))) (app x [(0:UInt8)] λm=>some (.inl m)) (some (.inr x))
def Jh (y:List UInt8)(a:UInt32×UInt32×UInt32×UInt32):Option ((UInt32×UInt32×UInt32×UInt32) ⊕ Unit):=slc y 0 4 λm=>(Ux m).bind λb=>slc y 4 (y.length:Int) λc=>(Ux c).bind λd=>(XC (a.1^^^b) a.2.1 (a.2.2.1^^^d) a.2.2.2 4).bind λx=>some (.inl (x.1,x.2.1,x.2.2.1,x.2.2.2))
def ZDQ (a:List UInt8):Option (UInt32×UInt32×UInt32×UInt32):=(Zu a).bind λd=>(Qr d).bind λe=>chk (0< [(1:UInt8)].length)<|app e [(1:UInt8)] λm=>(loop (Wb) m).bind λf=>(Yf f 8).bind λc=>Option.bind (Zp c.1 c.2 (Jh) ((1:UInt32),(2:UInt32),(3:UInt32),(4:UInt32)))<|Sum.elim (λx=>(XC x.1 (x.2.1^^^(u32i (a.length:Int))) x.2.2.1 x.2.2.2 8).bind λb=>some (b.1,b.2.1,b.2.2.1,b.2.2.2)) (λ_=>none)
def UO (a:List UInt8):Option UInt32:=(ZDQ a).bind λx=>some x.1
def Vo (a:Store)(b:Ptr):Option (List UInt8×Int):=Option.bind (α:=Bool) ((Yp a).bind λd=>cond (!(decide (d=0))) (some true) ((YA b).bind λe=>some (!(decide (e=0)))))<|λf=>cond f (some ([],8)) (cond (decide (b.At=0)&&(decide (b.Birth=0)&&(decide (b.Iv=0)&&(decide (b.Tag=0)&&(decide (b.Sum=0)&&true))))) (some ([],6)) ((Gv a.Disk b.At).bind λx=>Option.bind (α:=Bool) (cond (decide (x.2=0)) ((UO x.1).bind λg=>some (!(decide (g=b.Sum)))) (some false))<|λh=>Option.bind (α:=(List UInt8×Int)) (cond h (some ([],130)) (some (x.1,x.2)))<|λc=>some (c.1,c.2)))
def ZAl:Option Unit:=some ()
def Dd (a:List UInt8):Option (Ptr×Int):=cond (!(decide ((a.length:Int)=16))) (some (Ptr.mk 0 0 0 0 0,3)) ((ZAl).bind λg=>(YR a 0 1).bind λx=>(YR a 1 3).bind λb=>(YR a 4 4).bind λc=>(YR a 8 4).bind λd=>(YR a 12 4).bind λe=>(YA (Ptr.mk x.1 (u32i b.1) (u32i c.1) (u32i d.1) (u32i e.1))).bind λf=>cond (!(decide (f=0))) (some (Ptr.mk 0 0 0 0 0,f)) (some (Ptr.mk x.1 (u32i b.1) (u32i c.1) (u32i d.1) (u32i e.1),0)))
def Je (y:List UInt8)(a:List Ptr):Option (List Ptr ⊕ Int):=(Dd y).bind λx=>cond (!(decide (x.2=0))) (some (.inr x.2)) (app a [x.1] λm=>some (.inl m))
def ZDH (a:List UInt8):Option (List Ptr×Int):=cond (!(decide ((a.length:Int)=256))) (some ([],3)) ((Yf a 16).bind λx=>Option.bind (Zp x.1 x.2 (Je) [])<|Sum.elim (λb=>some (b,0)) (λc=>some ([],c)))
def DZ (a:Store)(b:Ptr):Option (List Ptr×Int):=Option.bind (α:=Bool) ((Yp a).bind λd=>cond (!(decide (d=0))) (some true) ((YA b).bind λe=>some (!(decide (e=0)))))<|λf=>cond f (some ([],8)) (cond (decide (b.At=0)&&(decide (b.Birth=0)&&(decide (b.Iv=0)&&(decide (b.Tag=0)&&(decide (b.Sum=0)&&true))))) (mks 16 (Ptr.mk 0 0 0 0 0) λm=>some (m,0)) ((Vo a b).bind λx=>cond (!(decide (x.2=0))) (some ([],x.2)) ((ZDH x.1).bind λc=>cond (!(decide (c.2=0))) (some ([],8)) (some (c.1,0)))))
def Uj (a:Change)(b:Int):Option (Bool×Int):=some (!(decide (a.Obj=b)),b)
def Ku (a:List Change)(x:Int×Int):Option ((Int×Int) ⊕ ((Int×Int) ⊕ Int)):=cond (decide (x.2<(a.length:Int))) (idx a x.2 λy=>(Uj y x.1).bind λb=>cond b.1 (some (.inr (.inl (b.2,x.2)))) (some (.inl (b.2,w64 (x.2+1))))) (some (.inr (.inr x.1)))
def Xb (a:List Change)(b:Int):Option (Int×Int):=Option.bind (loop (Ku a) (b,0))<|Sum.elim (λx=>some (x.2,x.1)) (λc=>some ((-1),c))
def XH (a:List UInt8)(b:Int):Option (List UInt8×Int):=cond (decide (b<1)) (none) (some (a,b))
def VG (y:List UInt8)(a:List Ptr):Option (List Ptr ⊕ Int):=(Dd y).bind λx=>cond (!(decide (x.2=0))) (some (.inr x.2)) (app a [x.1] λm=>some (.inl m))
def WY (a:List UInt8):Option (List Ptr×Int):=cond (!(decide ((a.length:Int)=256))) (some ([],3)) ((XH a 16).bind λx=>Option.bind (Zp x.1 x.2 (VG) [])<|Sum.elim (λb=>some (b,0)) (λc=>some ([],c)))
def XJ (a:Int)(b:Int)(c:Int):Option Bool:=cond (decide (b≤a)) (some (decide (a≤c))) (some false)
def WZ (a:Ptr):Option Bool:=(YA a).bind λx=>some (!(decide (x=0)))
def Zi (a:List Ptr)(x:Nat):Option (Nat ⊕ (Nat ⊕ Unit)):=cond (decide ((x:Int)<(a.length:Int))) (chk (0≤(x:Int)∧(x:Int).toNat<a.length)<|idx a (x:Int) λy=>(WZ y).bind λb=>cond b (some (.inr (.inl x))) (some (.inl (x+1)))) (some (.inr (.inr ())))
def XT (a:List Ptr):Option (Int×List Ptr):=Option.bind (loop (Zi a) 0)<|Sum.elim (λx=>some ((x:Int),a)) (λb=>some ((-1),a))
def YI (a:List Ptr):Option (Bool×List Ptr):=(XT a).bind λx=>some (decide (0≤x.1),x.2)
def Gj (a:Object):Option (Int×List Ptr):=Option.bind (α:=(Object×Bool)) ((XJ (a.Kind.toNat:Int) 1 7).bind λc=>cond (!c) (some (a,true)) ((XJ a.Links 0 255).bind λd=>cond (!d) (some (a,true)) ((XJ a.Size 0 3840).bind λe=>cond (!e) (some (a,true)) (cond (!(decide ((a.Data.length:Int)=15))) (some (a,true)) ((YI a.Data).bind λb=>some (Object.mk a.Kind a.Links a.Size b.2,b.1))))))<|λx=>cond x.2 (some (8,x.1.Data)) (some (0,x.1.Data))
def Gi (a:List UInt8):Option (Object×Int):=cond (!(decide ((a.length:Int)=256))) (some (Object.mk 0 0 0 [],3)) (idx a 0 λo=>idx a 1 λp=>idx a 2 λv=>idx a 3 λw=>idx a 4 λq=>idx a 5 λr=>idx a 6 λs=>idx a 7 λt=>idx a 8 λu=>idx a 9 λy=>idx a 10 λd=>idx a 11 λe=>idx a 12 λf=>idx a 13 λg=>idx a 14 λh=>idx a 15 λi=>chk ((a.length:Int)=(a.length:Int))<|slc a 16 (a.length:Int) λj=>mks 16 (0:UInt8) λm=>chk (0<m.length)<|app j m λk=>(WY k).bind λb=>Option.bind (α:=Bool) (cond (!(decide (b.2=0))) (some true) (some (!(decide ([q,r,s,t,u,y,d,e,f,g,h,i]= [(0:UInt8),(0:UInt8),(0:UInt8),(0:UInt8),(0:UInt8),(0:UInt8),(0:UInt8),(0:UInt8),(0:UInt8),(0:UInt8),(0:UInt8),(0:UInt8)])))))<|λl=>cond l (some (Object.mk 0 0 0 [],8)) ((YR a 2 2).bind λn=>Option.bind (α:=Object) (chk (0≤(15:Int)∧15≤(b.1.length:Int))<|some (Object.mk o (p.toNat:Int) n.1 (b.1.take 15)))<|λx=>(Gj x).bind λc=>cond (!(decide (c.1=0))) (some (Object.mk 0 0 0 [],8)) (some (Object.mk x.Kind x.Links x.Size c.2,0))))
def ZGI (a:Store)(b:Ptr):Option (Object×Int):=(Vo a b).bind λx=>cond (!(decide (x.2=0))) (some (Object.mk 0 0 0 [],x.2)) ((Gi x.1).bind λc=>cond (!(decide (c.2=0))) (some (Object.mk 0 0 0 [],8)) (some (c.1,0)))
def Un (a:Store)(b:Ptr)(c:Int):Option (Object×Int):=Option.bind (α:=Bool) ((Yp a).bind λe=>cond (!(decide (e=0))) (some true) ((YA b).bind λf=>some (!(decide (f=0)))))<|λg=>cond g (some (Object.mk 0 0 0 [],8)) (Option.bind (α:=Bool) (cond (decide (c<0)) (some true) (some (decide (16≤c))))<|λh=>cond h (some (Object.mk 0 0 0 [],2)) ((DZ a b).bind λx=>cond (!(decide (x.2=0))) (some (Object.mk 0 0 0 [],x.2)) (chk (0≤c∧c.toNat<x.1.length)<|idx x.1 c λy=>(ZGI a y).bind λd=>some (d.1,d.2))))
def KS (a:List UInt8)(b:Int):Option (List UInt8×Int):=(Qa a).bind λc=>cond (!(decide (c=0))) (some ([],8)) (Option.bind (α:=Bool) (cond (decide (b<12)) (some true) (some (decide (256≤b))))<|λd=>cond d (some ([],2)) (idx a b λy=>cond (!(decide (y=1))) (some ([],6)) ((Zr a).bind λx=>chk (0≤b∧b.toNat<x.length)<|setI x b (2:UInt8) λm=>some (m,0))))
def X0 (a:List Line)(b:Int)(x:Int×Int):Option ((Int×Int) ⊕ Int):=cond (decide (x.1<x.2)) (chk (0≤(1:Int))<|chk (0≤w64 ((sr64 (u64i (w64 (x.1+x.2))) 1).toNat:Int)∧(w64 ((sr64 (u64i (w64 (x.1+x.2))) 1).toNat:Int)).toNat<a.length)<|idx a (w64 ((sr64 (u64i (w64 (x.1+x.2))) 1).toNat:Int)) λy=>(QY y b).bind λc=>cond (decide (c<0)) (some (.inl (w64 ((w64 ((sr64 (u64i (w64 (x.1+x.2))) 1).toNat:Int))+1),x.2))) (some (.inl (x.1,w64 ((sr64 (u64i (w64 (x.1+x.2))) 1).toNat:Int))))) (some (.inr x.1))
def YU (a:List Line)(b:Int):Option (Int×Bool×List Line):=(loop (X0 a b) (0,(a.length:Int))).bind λx=>cond (decide (x<(a.length:Int))) (chk (0≤x∧x.toNat<a.length)<|idx a x λy=>(QY y b).bind λc=>some (x,decide (c=0),a)) (some (x,false,a))
def ZEz (a:List Line)(b:Int):Option (Option Int×List Line):=(YU a b).bind λx=>cond (!x.2.1) (some (none,x.2.2)) (chk (0≤x.1∧x.1.toNat<x.2.2.length)<|some (some x.1,x.2.2))
def ZEo (a:List Ptr)(x:Nat):Option (Nat ⊕ (Unit ⊕ Unit)):=cond (decide ((x:Int)<(a.length:Int))) (chk (0≤(x:Int)∧(x:Int).toNat<a.length)<|idx a (x:Int) λy=>Option.bind (α:=Bool) (cond (decide (y.At=0)&&(decide (y.Birth=0)&&(decide (y.Iv=0)&&(decide (y.Tag=0)&&(decide (y.Sum=0)&&true))))) (some true) ((YA y).bind λb=>cond (!(decide (b=0))) (some true) (cond (decide (0<(x:Int))) (chk (0≤w64 ((x:Int)-1)∧(w64 ((x:Int)-1)).toNat<a.length)<|idx a (w64 ((x:Int)-1)) λc=>(V0 c y).bind λd=>some (decide (0≤d))) (some false))))<|λe=>cond e (some (.inr (.inl ()))) (some (.inl (x+1)))) (some (.inr (.inr ())))
def WH (a:List Ptr):Option (Int×List Ptr):=cond (decide (240<(a.length:Int))) (some (8,a)) (Option.bind (loop (ZEo a) 0)<|Sum.elim (λx=>some (8,a)) (λb=>some (0,a)))
def GA (a:List (List Ptr))(x:Int×Int):Option ((Int×Int) ⊕ Int):=cond (decide (x.2<(a.length:Int))) (chk (0≤x.2∧x.2.toNat<a.length)<|idx a x.2 λy=>cond (decide (w64 (x.1+(y.length:Int))<0)) (none) (some (.inl (w64 (x.1+(y.length:Int)),w64 (x.2+1))))) (some (.inr x.1))
def J9 (a:List (List Ptr))(x:List Ptr×Int):Option ((List Ptr×Int) ⊕ List Ptr):=cond (decide (x.2<(a.length:Int))) (chk (0≤x.2∧x.2.toNat<a.length)<|idx a x.2 λy=>app x.1 y λm=>some (.inl (m,w64 (x.2+1)))) (some (.inr x.1))
def QM (a:List (List Ptr)):Option (List Ptr×List (List Ptr)):=(loop (GA a) (0,0)).bind λx=>(Yw x).bind λb=>(loop (J9 a) (b,0)).bind λc=>some (c,a)
def Ye (a:List Ptr):Option (List Ptr×List Ptr):=app [] a λm=>some (m,a)
def D8 (a:Ptr)(b:Ptr):Option Bool:=some (decide (a.At=b.At))
def WW (x:List Ptr×Int×Int×Int):Option ((List Ptr×Int×Int×Int) ⊕ (List Ptr×Int)):=cond (decide (x.2.2.2<(x.1.length:Int)-x.2.2.1)) (chk (0≤x.2.2.2∧x.2.2.2<(x.1.length:Int)-x.2.2.1)<|idx x.1 (x.2.2.1+x.2.2.2) λy=>chk (0≤w64 (x.2.2.2-1)∧(w64 (x.2.2.2-1))<(x.1.length:Int)-x.2.2.1)<|idx x.1 (x.2.2.1+(w64 (x.2.2.2-1))) λb=>(D8 y b).bind λc=>Option.bind (α:=(List Ptr×Int×Int)) (cond (!c) (chk (0≤x.2.2.2∧x.2.2.2<(x.1.length:Int)-x.2.2.1)<|idx x.1 (x.2.2.1+x.2.2.2) λd=>chk (0≤x.2.1∧x.2.1.toNat<x.1.length)<|setI x.1 x.2.1 d λm=>some (m,w64 (x.2.1+1),x.2.2.1)) (some (x.1,x.2.1,x.2.2.1)))<|λa=>some (.inl (a.1,a.2.1,a.2.2,w64 (x.2.2.2+1)))) (some (.inr (x.1,x.2.1)))
abbrev WV:=@WW
def WU (x:List Ptr×Int):Option ((List Ptr×Int) ⊕ (List Ptr ⊕ List Ptr)):=cond (decide (x.2<(x.1.length:Int))) (chk (0≤x.2∧x.2.toNat<x.1.length)<|idx x.1 x.2 λy=>chk (0≤w64 (x.2-1)∧(w64 (x.2-1)).toNat<x.1.length)<|idx x.1 (w64 (x.2-1)) λb=>(D8 y b).bind λc=>cond c (chk (0≤x.2∧x.2≤(x.1.length:Int))<|(loop (WV) (x.1,x.2,x.2,1)).bind λa=>chk (0≤a.2∧a.2≤(a.1.length:Int))<|slc (clr a.1 a.2.toNat a.1.length (Ptr.mk 0 0 0 0 0)) 0 a.2 λm=>some (.inr (.inl m))) (some (.inl (x.1,w64 (x.2+1))))) (some (.inr (.inr x.1)))
def Yv (a:List Ptr):Option (List Ptr):=cond (decide ((a.length:Int)<2)) (some a) (Option.bind (loop (WU) (a,1))<|Sum.elim (λx=>some x) (λb=>some b))
def ZFK (q:(List Ptr)→Option Int)(e:(List Ptr)→Option (Int×List Ptr))(f:(List (List Ptr))→Option (List Ptr×List (List Ptr)))(g:(List Ptr)→Option (List Ptr))(h:(List Ptr)→Option (List Ptr×List Ptr))(i:(List Ptr)→Option (List Ptr))(a:List Ptr)(b:List Ptr):Option (List Ptr×Int):=Option.bind (α:=(List Ptr×Bool)) ((q a).bind λj=>cond (!(decide (j=0))) (some (b,true)) ((e b).bind λc=>some (c.2,!(decide (c.1=0)))))<|λd=>cond d.2 (some ([],8)) ((f [a,d.1]).bind λk=>(g k.1).bind λl=>(h l).bind λx=>(i x.1).bind λm=>cond (decide ((m.length:Int)<(x.2.length:Int))) (some ([],2)) (cond (decide (240<(x.2.length:Int))) (some ([],9)) (some (x.2,0))))
def ZJe (a:List Ptr)(b:List Ptr):Option (List Ptr×Int):=ZFK KW WH QM ZNQ Ye Yv a b
def ZMp (a:List Ptr)(b:Ptr):Option (List Ptr×Int):=(WH [b]).bind λc=>cond (!(decide (c.1=0))) (some ([],8)) ((ZJe a [b]).bind λx=>some (x.1,x.2))
def Q6 (a:Int)(b:Ptr)(c:Pool×UInt32×Int):Option (Pool×UInt32×Int):=Option.bind (α:=Bool) (cond (!(decide (c.2.2=0))) (some true) (some (decide (b.At=0)&&(decide (b.Birth=0)&&(decide (b.Iv=0)&&(decide (b.Tag=0)&&(decide (b.Sum=0)&&true)))))))<|λk=>cond k (some c) (idx c.1.Lines a λl=>(ZEz c.1.Lines l.Prev).bind λf=>Option.bind (α:=UInt32) (cond (!f.1.isNone) (Option.bind f.1 λn=>idx f.2 n λo=>some o.Txg) (some (0:UInt32)))<|λp=>Option.bind (α:=(Store×UInt32×Ptr×List Line×List Change×Int×Int×UInt32×UInt32×Int×Int)) (cond (decide (p<b.Birth)) ((KS c.1.Store.Space b.At).bind λh=>Option.bind (α:=(Store×UInt32×Ptr×List Change×Int×Int×UInt32×UInt32×Int)) (cond (decide (h.2=0)) (some (Store.mk c.1.Store.Disk h.1 c.1.Store.Epoch c.1.Store.Count,c.1.Gen,c.1.Root,c.1.Changes,c.1.Logged,c.1.NextId,c.1.NextGuid,c.2.1,c.2.2)) (some (c.1.Store,c.1.Gen,c.1.Root,c.1.Changes,c.1.Logged,c.1.NextId,c.1.NextGuid,c.2.1,c.2.2)))<|λe=>some (e.1,e.2.1,e.2.2.1,f.2,e.2.2.2.1,e.2.2.2.2.1,e.2.2.2.2.2.1,e.2.2.2.2.2.2.1,e.2.2.2.2.2.2.2.1,e.2.2.2.2.2.2.2.2,h.2)) (idx f.2 a λi=>(ZMp i.Dead b).bind λg=>Option.bind (α:=(Store×UInt32×Ptr×List Line×List Change×Int×Int×UInt32×UInt32×Int)) (cond (decide (g.2=0)) (idx f.2 a λy=>setI f.2 a (Line.mk y.Id y.Kind y.Owner y.Prev y.Txg y.Guid y.Key y.Root g.1) λm=>some (c.1.Store,c.1.Gen,c.1.Root,m,c.1.Changes,c.1.Logged,c.1.NextId,c.1.NextGuid,c.2.1,c.2.2)) (some (c.1.Store,c.1.Gen,c.1.Root,f.2,c.1.Changes,c.1.Logged,c.1.NextId,c.1.NextGuid,c.2.1,c.2.2)))<|λd=>some (d.1,d.2.1,d.2.2.1,d.2.2.2.1,d.2.2.2.2.1,d.2.2.2.2.2.1,d.2.2.2.2.2.2.1,d.2.2.2.2.2.2.2.1,d.2.2.2.2.2.2.2.2.1,d.2.2.2.2.2.2.2.2.2,g.2)))<|λx=>Option.bind (α:=Bool) (cond (decide (x.2.2.2.2.2.2.2.2.2.2=0)) (some true) (some (decide (x.2.2.2.2.2.2.2.2.2.2=9))))<|λj=>cond j (some (Pool.mk x.1 x.2.1 x.2.2.1 c.1.MetaL x.2.2.2.1 c.1.Keys c.1.Loaded x.2.2.2.2.1 x.2.2.2.2.2.1 x.2.2.2.2.2.2.1 x.2.2.2.2.2.2.2.1,(x.2.2.2.2.2.2.2.2.1,x.2.2.2.2.2.2.2.2.2.2))) (some (Pool.mk x.1 x.2.1 x.2.2.1 c.1.MetaL x.2.2.2.1 c.1.Keys c.1.Loaded x.2.2.2.2.1 x.2.2.2.2.2.1 x.2.2.2.2.2.2.1 x.2.2.2.2.2.2.2.1,(x.2.2.2.2.2.2.2.2.1,8))))
def ZGp (d:List (List UInt8))(x:Int×Nat):Option ((Int×Nat) ⊕ (Unit ⊕ Unit)):=cond (decide ((x.2:Int)<(d.length:Int))) (idx d (x.2:Int) λy=>cond (!(decide ((y.length:Int)=x.1))) (some (.inr (.inl ()))) (some (.inl (256,x.2+1)))) (some (.inr (.inr ())))
def DS (a:Store)(b:UInt32)(c:Int)(d:List (List UInt8)):Option Int:=(Yp a).bind λx=>cond (!(decide (x=0))) (some x) (Option.bind (α:=Bool) (cond (decide (b<1)) (some true) (some (decide (16777215<b))))<|λe=>cond e (some 2) (Option.bind (loop (ZGp d) (c,0))<|Sum.elim (λf=>some 3) (λg=>some 0)))
def ZMt (b:Int)(x:Int×List UInt8):Option ((Int×List UInt8) ⊕ List UInt8):=cond (decide ((x.2.length:Int)<b)) (app x.2 [u8i x.1] λm=>some (.inl (w64 (x.1.tdiv 256),m))) (some (.inr x.2))
def Zz (a:Int)(b:Int):Option (List UInt8×Int):=Option.bind (α:=Bool) ((V3 b).bind λx=>cond (!x) (some true) (cond (decide (a<0)) (some true) (chk (0≤w64 (8*b))<|some (decide (sli 1 (w64 (8*b))≤a)))))<|λc=>cond c (some ([],2)) ((loop (ZMt b) (a,[])).bind λd=>some (d,0))
def ZBb (a:List UInt8)(b:UInt32):Option (List UInt8×List UInt8):=(Zz (b.toNat:Int) 4).bind λx=>some (a,x.1)
def ZEq (c:Int)(y:List UInt8)(x:List UInt8):Option (List UInt8 ⊕ List UInt8):=cond (decide (c≤(x.length:Int))) (some (.inr x)) (app x y λm=>some (.inl m))
def Bu (p:List UInt8→List UInt8→Go.Pv.Rn (List UInt8))(a:List UInt8)(b:UInt32)(c:Int):Option (List UInt8×Int):=Option.bind (α:=Bool) (cond (!(decide ((a.length:Int)=16))) (some true) (cond (decide (c<0)) (some true) (some (decide (4096<c)))))<|λe=>cond e (some ([],2)) ((ZBb a b).bind λd=>Option.bind (p d.1 d.2 _ _ (ZEq c) [])<|Sum.elim (λf=>slc f 0 c λg=>(Zu g).bind λh=>some (h,0)) (λi=>slc i 0 c λm=>(Zu m).bind λx=>some (x,0)))
def B9 (a:List (List UInt8))(x:Int×Int):Option ((Int×Int) ⊕ Int):=cond (decide (x.2<(a.length:Int))) (idx a x.2 λy=>cond (decide (w64 (x.1+(y.length:Int))<0)) (none) (some (.inl (w64 (x.1+(y.length:Int)),w64 (x.2+1))))) (some (.inr x.1))
def B8 (a:List (List UInt8))(x:List UInt8×Int):Option ((List UInt8×Int) ⊕ List UInt8):=cond (decide (x.2<(a.length:Int))) (idx a x.2 λy=>app x.1 y λm=>some (.inl (m,w64 (x.2+1)))) (some (.inr x.1))
def Zc (a:List (List UInt8)):Option (List UInt8):=(loop (B9 a) (0,0)).bind λx=>(Yk x).bind λb=>(loop (B8 a) (b,0)).bind λc=>some c
def ZAo (a:List UInt8):Option (List UInt8):=(ZDQ a).bind λx=>(Zz (x.1.toNat:Int) 4).bind λb=>app [] b.1 λm=>(Zz (x.2.1.toNat:Int) 4).bind λc=>app m c.1 λd=>(Zz (x.2.2.1.toNat:Int) 4).bind λe=>app d e.1 λf=>(Zz (x.2.2.2.toNat:Int) 4).bind λg=>app f g.1 λh=>some h
def pcR (k f:List UInt8):Go.Pv.Rn (List UInt8):=λ_ _ b s=>pcP Zz Zc ZAo b s k f
def ZBc (a:List UInt8)(b:UInt32)(c:Int):Option (List UInt8×Int):=Bu pcR a b c
def ZH4 (c:List UInt8)(x:List UInt8×Int):Option ((List UInt8×Int) ⊕ List UInt8):=cond (decide (x.2<(c.length:Int))) (idx c x.2 λy=>chk (0≤x.2∧x.2.toNat<x.1.length)<|idx x.1 x.2 λa=>chk (0≤x.2∧x.2.toNat<x.1.length)<|setI x.1 x.2 (a^^^y) λm=>some (.inl (m,w64 (x.2+1)))) (some (.inr x.1))
def ZFL (a:List UInt8)(b:UInt32)(c:List UInt8):Option (List UInt8×Int):=cond (!(decide ((a.length:Int)=16))) (some ([],2)) (cond (decide (4096<(c.length:Int))) (some ([],3)) ((ZBc a b (c.length:Int)).bind λx=>(loop (ZH4 c) (x.1,0)).bind λd=>some (d,x.2)))
def Da (a:List UInt8)(b:UInt32)(c:List UInt8):Option (List UInt8×Int):=Option.bind (α:=Bool) (cond (decide ((a.length:Int)=16)) (some (decide (256<(c.length:Int)))) (some false))<|λd=>cond d (some ([],3)) ((ZFL a b c).bind λx=>some (x.1,x.2))
def ZEZ (a:List (List UInt8)):Option (List UInt8):=(Zc a).bind λx=>(ZAo x).bind λb=>some b
def ZJN (q:(List (List UInt8))→Option (List UInt8))(c:(List (List UInt8))→Option (List UInt8))(d:(List UInt8)→Option UInt32)(a:List UInt8)(b:List UInt8):Option (UInt32×Int):=cond (!(decide ((a.length:Int)=16))) (some ((0:UInt32),2)) ((q [a,[(1:UInt8)],b]).bind λx=>(c [a,[(2:UInt8)],x]).bind λe=>(d e).bind λf=>some (f,0))
def ZGQ (a:List UInt8)(b:List UInt8):Option (UInt32×Int):=ZJN ZEZ Zc UO a b
def ZBJ (q:Int→Int→Option (List UInt8×Int))(e:(List (List UInt8))→Option (List UInt8))(f:(List UInt8)→(List UInt8)→Option (UInt32×Int))(a:List UInt8)(b:UInt32)(c:List UInt8):Option (UInt32×Int):=(q (b.toNat:Int) 4).bind λx=>cond (!(decide (x.2=0))) (some ((0:UInt32),x.2)) ((e [x.1,c]).bind λg=>(f a g).bind λd=>some (d.1,d.2))
def Db (a:List UInt8)(b:UInt32)(c:List UInt8):Option (UInt32×Int):=ZBJ Zz Zc ZGQ a b c
def ZI4 (a:List UInt8)(b:UInt32)(c:List UInt8):Option (List UInt8×UInt32×Int):=(Da a b c).bind λx=>cond (!(decide (x.2=0))) (some ([],(0:UInt32),x.2)) ((Db a b x.1).bind λd=>some (x.1,d.1,d.2))
def ZGt (a:List UInt8):Option (List UInt8):=some a
def ZFn (b:List UInt8)(x:Int):Option (Int ⊕ ((Int×Int) ⊕ Int)):=cond (decide (x<(b.length:Int))) (idx b x λy=>cond (decide (y=0)) (some (.inr (.inl (x,x)))) (some (.inl (w64 (x+1))))) (some (.inr (.inr x)))
def ZC7 (a:Int)(b:List UInt8):Option (Int×Int×List UInt8):=Option.bind (loop (ZFn b) (w64 (a+1)))<|Sum.elim (λx=>some (x.2,x.1,b)) (λc=>some ((-1),c,b))
def ZGu (a:List UInt8):Option (List UInt8×Int×Int):=(Qa a).bind λb=>cond (!(decide (b=0))) (some ([],0,b)) ((ZGt a).bind λd=>(ZC7 (-1) d).bind λx=>cond (decide (x.1<0)) (some ([],0,9)) ((Zr a).bind λc=>chk (0≤x.1∧x.1.toNat<c.length)<|setI c x.1 (1:UInt8) λm=>some (m,x.1,0)))
def ZFI (a:Disk):Option (Disk×Disk):=some (a,a)
def VS (a:Disk)(b:Bool)(c:Disk):Option (Disk×Int×Disk):=(Kg a).bind λx=>cond (!(decide (x=0))) (some (Disk.mk [] [],x,c)) (cond (!b) (some (Disk.mk [] [],2,c)) ((ZFI c).bind λd=>some (d.1,0,d.2)))
def QN (a:List Write):Option (List Write):=chk ((a.length:Int)=(a.length:Int))<|slc a 0 (a.length:Int) λm=>some m
def Gu (a:Disk)(b:Int)(c:List UInt8):Option (Disk×Int):=Option.bind (α:=(Disk×Int)) ((XD b).bind λg=>(VS a g a).bind λf=>some (f.2.2,f.2.1))<|λx=>cond (!(decide (x.2=0))) (some (Disk.mk [] [],x.2)) (cond (!(decide ((c.length:Int)=256))) (some (Disk.mk [] [],3)) (cond (decide ((x.1.Waits.length:Int)=4096)) (some (Disk.mk [] [],9)) ((QN x.1.Waits).bind λd=>chk (0< [Write.mk b c].length)<|app d [Write.mk b c] λm=>(twinF (Disk.mk x.1.Blocks m)).bind λe=>some (e,0))))
def DQ (g:{β:Type}→Option β→Option β→Option β)(a:Store)(b:Ptr)(c:List UInt8):Option (Store×Ptr×Int):=(fun(u:_→_)=>(ZGu a.Space).bind λx=>cond (!(decide (x.2.2=0))) (u x.2.2) ((Gu a.Disk x.2.1 c).bind λe=>cond (!(decide (e.2=0))) (u e.2) (Option.bind (α:=(Disk×UInt32×UInt32)) (g (some (e.1,a.Epoch,a.Count)) (some (e.1,a.Epoch,a.Count)))<|λd=>(UO c).bind λf=>g (some (Store.mk d.1 x.1 d.2.1 d.2.2,Ptr.mk x.2.1 b.Birth b.Iv b.Tag f,0)) (some (Store.mk d.1 x.1 d.2.1 d.2.2,Ptr.mk x.2.1 b.Birth b.Iv b.Tag f,0))))) λx=>some (Store.mk (Disk.mk [] []) [] 0 0,Ptr.mk 0 0 0 0 0,x)
def GX (a:Store)(b:Ptr)(c:List UInt8):Option (Store×Ptr×Int):=DQ (λa _=>a) a b c
def ZGq (a:Store)(b:UInt32)(c:List UInt8)(d:List UInt8):Option (Store×Ptr×Int):=(DS a b 16 [c,d]).bind λf=>cond (!(decide (f=0))) (some (Store.mk (Disk.mk [] []) [] 0 0,Ptr.mk 0 0 0 0 0,f)) (cond (decide (a.Count=65535)) (some (Store.mk (Disk.mk [] []) [] 0 0,Ptr.mk 0 0 0 0 0,132)) (chk (0≤(16:Int))<|(ZI4 c ((sl32 a.Epoch 16) |||(a.Count+(1:UInt32))) d).bind λx=>cond (!(decide (x.2.2=0))) (some (Store.mk (Disk.mk [] []) [] 0 0,Ptr.mk 0 0 0 0 0,x.2.2)) ((GX (Store.mk a.Disk a.Space a.Epoch (a.Count+(1:UInt32))) (Ptr.mk 0 b ((sl32 a.Epoch 16) |||(a.Count+(1:UInt32))) x.2.1 0) x.1).bind λe=>some (e.1,e.2.1,e.2.2))))
def J8 (a:Int)(b:Ptr)(c:Change)(d:Pool×UInt32×Int):Option (Ptr×(Pool×UInt32×Int)):=(Q6 a b d).bind λx=>Option.bind (α:=Bool) (cond (!(decide (x.2.2=0))) (some true) (cond (decide ((c.Data.length:Int)=0)) (some true) (some (!(decide (c.Laid.At=0)&&(decide (c.Laid.Birth=0)&&(decide (c.Laid.Iv=0)&&(decide (c.Laid.Tag=0)&&(decide (c.Laid.Sum=0)&&true)))))))))<|λg=>cond g (some (c.Laid,x)) (idx x.1.Lines a λy=>chk (0≤y.Key∧y.Key.toNat<x.1.Loaded.length)<|idx x.1.Loaded y.Key λf=>cond (decide ((f.length:Int)=0)) (some (Ptr.mk 0 0 0 0 0,(x.1,(x.2.1,200)))) ((ZGq x.1.Store x.2.1 f c.Data).bind λe=>some (e.2.1,(Pool.mk e.1 x.1.Gen x.1.Root x.1.MetaL x.1.Lines x.1.Keys x.1.Loaded x.1.Changes x.1.Logged x.1.NextId x.1.NextGuid,(x.2.1,e.2.2)))))
def Vq (a:List Ptr)(x:Nat):Option (Nat ⊕ (Nat ⊕ Unit)):=cond (decide ((x:Int)<(a.length:Int))) (idx a (x:Int) λy=>(WZ y).bind λb=>cond b (some (.inr (.inl x))) (some (.inl (x+1)))) (some (.inr (.inr ())))
def QS (a:List Ptr):Option Int:=Option.bind (loop (Vq a) 0)<|Sum.elim (λx=>some (x:Int)) (λb=>some (-1))
def Xd (a:List Ptr):Option Bool:=(QS a).bind λx=>some (decide (0≤x))
def ZDM (a:Object):Option Int:=Option.bind (α:=Bool) ((XJ (a.Kind.toNat:Int) 1 7).bind λx=>cond (!x) (some true) ((XJ a.Links 0 255).bind λb=>cond (!b) (some true) ((XJ a.Size 0 3840).bind λc=>cond (!c) (some true) (cond (!(decide ((a.Data.length:Int)=15))) (some true) ((Xd a.Data).bind λd=>some d)))))<|λe=>cond e (some 8) (some 0)
def Vt (a:Ptr):Option (List UInt8×Int):=(YA a).bind λc=>cond (!(decide (c=0))) (some ([],c)) ((ZAl).bind λk=>(Zz a.At 1).bind λd=>app [] d.1 λe=>(Zz (a.Birth.toNat:Int) 3).bind λf=>app e f.1 λg=>(Zz (a.Iv.toNat:Int) 4).bind λh=>app g h.1 λi=>(Zz (a.Tag.toNat:Int) 4).bind λj=>app i j.1 λm=>(Zz (a.Sum.toNat:Int) 4).bind λx=>app m x.1 λb=>some (b,0))
def ZDI (a:List Ptr):Option (List UInt8×Int):=rwP Vt a
def ZJJ (a:Object):Option (List UInt8×Int):=(ZDM a).bind λu=>cond (!(decide (u=0))) (some ([],u)) ((Zz a.Size 2).bind λv=>app [a.Kind,u8i a.Links] v.1 λc=>cpyO [(0:UInt8),(0:UInt8),(0:UInt8),(0:UInt8),(0:UInt8),(0:UInt8),(0:UInt8),(0:UInt8),(0:UInt8),(0:UInt8),(0:UInt8),(0:UInt8),(0:UInt8),(0:UInt8),(0:UInt8),(0:UInt8)] 0 (16:Int) c λm=>idx m 0 λy=>idx m 1 λd=>idx m 2 λe=>idx m 3 λf=>idx m 4 λg=>idx m 5 λh=>idx m 6 λi=>idx m 7 λj=>idx m 8 λk=>idx m 9 λl=>idx m 10 λn=>idx m 11 λo=>idx m 12 λp=>idx m 13 λq=>idx m 14 λr=>idx m 15 λs=>(ZDI a.Data).bind λx=>cond (!(decide (x.2=0))) (some ([],x.2)) (slc x.1 0 240 λb=>chk (0<b.length)<|app [y,d,e,f,g,h,i,j,k,l,n,o,p,q,r,s] b λt=>some (t,0)))
def ZI1 (a:Store)(b:UInt32)(c:UInt32)(d:UInt32)(e:List UInt8):Option (Store×Ptr×Int):=(DS a b 256 [e]).bind λf=>cond (!(decide (f=0))) (some (Store.mk (Disk.mk [] []) [] 0 0,Ptr.mk 0 0 0 0 0,f)) ((GX a (Ptr.mk 0 b c d 0) e).bind λx=>some (x.1,x.2.1,x.2.2))
def ZEI (a:Store)(b:UInt32)(c:List UInt8):Option (Store×Ptr×Int):=(ZI1 a b (0:UInt32) (0:UInt32) c).bind λx=>some (x.1,x.2.1,x.2.2)
def K5 (a:List UInt8)(b:Pool×UInt32×Int):Option (Ptr×(Pool×UInt32×Int)):=cond (decide (b.2.2=0)) ((ZEI b.1.Store b.2.1 a).bind λx=>some (x.2.1,(Pool.mk x.1 b.1.Gen b.1.Root b.1.MetaL b.1.Lines b.1.Keys b.1.Loaded b.1.Changes b.1.Logged b.1.NextId b.1.NextGuid,(b.2.1,x.2.2)))) (some (Ptr.mk 0 0 0 0 0,b))
def XG (g:{β:Type}→Option β→Option β→Option β)(d:List Change)(x:(Pool×UInt32×Int)×Ptr×Object×Int×Int):Option (((Pool×UInt32×Int)×Ptr×Object×Int×Int) ⊕ (((Pool×UInt32×Int)×Ptr×Object) ⊕ ((Pool×UInt32×Int)×Ptr×Object×Int))):=(fun(h:_→_→_→_)=>(fun(e:_→_→_→_)=>(fun(u:_→_→_)=>(fun(i:_→_→_→_)=>cond (decide (x.2.2.2.2<(d.length:Int))) (idx d x.2.2.2.2 λy=>cond (!(decide (x.1.2.2=0))) (some (.inr (.inl (x.1,Ptr.mk 0 0 0 0 0,x.2.2.1)))) (cond (decide (y.Index=15)) (g (g (u x y) (g (u x y) (u x y))) (g (g (u x y) (u x y)) (g (g (u x y) (u x y)) (u x y)))) (chk (0≤y.Index∧y.Index.toNat<x.2.2.1.Data.length)<|idx x.2.2.1.Data y.Index λa=>g (g (e x a y) (e x a y)) (g (g (e x a y) (e x a y)) ((J8 x.2.2.2.1 a y x.1).bind λb=>g (i y x b) (i y x b)))))) (some (.inr (.inr (x.1,x.2.1,x.2.2.1,x.2.2.2.1))))) λy x b=>chk (0≤y.Index∧y.Index.toNat<x.2.2.1.Data.length)<|setI x.2.2.1.Data y.Index b.1 λf=>some (h b.2 x f)) λx y=>some (.inl (x.1,x.2.1,Object.mk y.Kind y.Links y.Size x.2.2.1.Data,x.2.2.2.1,w64 (x.2.2.2.2+1)))) λx a y=>(J8 x.2.2.2.1 a y x.1).bind λc=>chk (0≤y.Index∧y.Index.toNat<x.2.2.1.Data.length)<|setI x.2.2.1.Data y.Index c.1 λm=>some (h c.2 x m)) λc x m=>.inl (c,x.2.1,Object.mk x.2.2.1.Kind x.2.2.1.Links x.2.2.1.Size m,x.2.2.2.1,w64 (x.2.2.2.2+1))
def XF (g:{β:Type}→Option β→Option β→Option β)(a:(Pool×UInt32×Int)×Ptr×Object×Int)(x:(Pool×UInt32×Int)×Int×Int):Option (((Pool×UInt32×Int)×Int×Int) ⊕ (Pool×UInt32×Int)):=cond (decide (x.2.2<(a.2.2.1.Data.length:Int))) (chk (0≤x.2.2∧x.2.2.toNat<a.2.2.1.Data.length)<|idx a.2.2.1.Data x.2.2 λy=>(Q6 x.2.1 y x.1).bind λb=>some (.inl (b,x.2.1,w64 (x.2.2+1)))) (some (.inr x.1))
def Ky (g:{β:Type}→Option β→Option β→Option β)(a:Int)(b:Ptr)(c:Ptr)(d:List Change)(e:Pool×UInt32×Int):Option (Ptr×(Pool×UInt32×Int)):=mks 15 (Ptr.mk 0 0 0 0 0) λn=>Option.bind (α:=(Store×UInt32×Ptr×List Change×Int×Int×UInt32×UInt32×Int×Object)) (cond (!(decide (c.At=0)&&(decide (c.Birth=0)&&(decide (c.Iv=0)&&(decide (c.Tag=0)&&(decide (c.Sum=0)&&true)))))) (idx d 0 λy=>(Un e.1.Store b y.Obj).bind λm=>some (e.1.Store,e.1.Gen,e.1.Root,e.1.Changes,e.1.Logged,e.1.NextId,e.1.NextGuid,e.2.1,m.2,m.1)) (some (e.1.Store,e.1.Gen,e.1.Root,e.1.Changes,e.1.Logged,e.1.NextId,e.1.NextGuid,e.2.1,e.2.2,Object.mk 0 0 0 n)))<|λf=>Option.bind (loop (XG g d) ((Pool.mk f.1 f.2.1 f.2.2.1 e.1.MetaL e.1.Lines e.1.Keys e.1.Loaded f.2.2.2.1 f.2.2.2.2.1 f.2.2.2.2.2.1 f.2.2.2.2.2.2.1,(f.2.2.2.2.2.2.2.1,f.2.2.2.2.2.2.2.2.1)),Ptr.mk 0 0 0 0 0,f.2.2.2.2.2.2.2.2.2,a,0))<|Sum.elim (λh=>some (h.2.1,h.1)) (λx=>(Q6 x.2.2.2 c x.1).bind λi=>cond (decide (x.2.2.1.Kind=0)) ((loop (XF g x) (i,x.2.2.2,0)).bind λk=>some (Ptr.mk 0 0 0 0 0,k)) ((ZJJ x.2.2.1).bind λl=>(K5 l.1 i).bind λj=>some (j.1,j.2)))
def KH (a:Int)(b:Ptr)(c:Ptr)(d:List Change)(e:Pool×UInt32×Int):Option (Ptr×(Pool×UInt32×Int)):=Ky (λa _=>a) a b c d e
def Ui (a:Ptr):Option Bool:=some (!(decide (a.At=0)&&(decide (a.Birth=0)&&(decide (a.Iv=0)&&(decide (a.Tag=0)&&(decide (a.Sum=0)&&true))))))
def Vp (a:List Ptr)(x:Nat):Option (Nat ⊕ (Nat ⊕ Unit)):=cond (decide ((x:Int)<(a.length:Int))) (idx a (x:Int) λy=>(Ui y).bind λb=>cond b (some (.inr (.inl x))) (some (.inl (x+1)))) (some (.inr (.inr ())))
def QR (a:List Ptr):Option Int:=Option.bind (loop (Vp a) 0)<|Sum.elim (λx=>some (x:Int)) (λb=>some (-1))
def Xc (a:List Ptr):Option Bool:=(QR a).bind λx=>some (decide (0≤x))
def Y5 (g:{β:Type}→Option β→Option β→Option β)(x:(Pool×UInt32×Int)×Int×List Change×List Ptr):Option (((Pool×UInt32×Int)×Int×List Change×List Ptr) ⊕ ((Pool×UInt32×Int)×Int×List Ptr)):=(fun(u:_→_→_→_→_→_)=>Option.bind (α:=Bool) (cond (decide (0<(x.2.2.1.length:Int))) (some (decide (x.1.2.2=0))) (some false))<|λi=>cond i (idx x.2.2.1 0 λj=>(Xb x.2.2.1 j.Obj).bind λa=>Option.bind (α:=Int) (cond (decide (a.1<0)) (some (x.2.2.1.length:Int)) (some a.1))<|λb=>Option.bind (α:=((Pool×UInt32×Int)×Int×List Ptr)) (idx x.1.1.Lines x.2.1 λy=>chk (0≤a.2∧a.2.toNat<x.2.2.2.length)<|idx x.2.2.2 a.2 λc=>chk (b=b)<|slc x.2.2.1 0 b λm=>g (u x y c m a) (u x y c m a))<|λd=>slc x.2.2.1 b (x.2.2.1.length:Int) λf=>some (.inl (d.1,d.2.1,f,d.2.2))) (some (.inr (x.1,x.2.1,x.2.2.2)))) λx y c m a=>(KH x.2.1 y.Root c m x.1).bind λe=>chk (0≤a.2∧a.2.toNat<x.2.2.2.length)<|setI x.2.2.2 a.2 e.1 λh=>some (e.2,x.2.1,h)
def Xx (g:{β:Type}→Option β→Option β→Option β)(a:Int)(b:List Change)(c:Pool×UInt32×Int):Option (Pool×UInt32×Int):=(fun(u:_→_→_)=>Option.bind (α:=Bool) (cond (!(decide (c.2.2=0))) (some true) (some (decide ((b.length:Int)=0))))<|λn=>cond n (some c) (idx c.1.Lines a λo=>(DZ c.1.Store o.Root).bind λh=>cond (!(decide (h.2=0))) (some (c.1,(c.2.1,h.2))) ((loop (Y5 g) ((c.1,(c.2.1,h.2)),a,b,h.1)).bind λe=>idx e.1.1.Lines e.2.1 λi=>(Q6 e.2.1 i.Root e.1).bind λx=>idx x.1.Lines e.2.1 λy=>setI x.1.Lines e.2.1 (Line.mk y.Id y.Kind y.Owner y.Prev y.Txg y.Guid y.Key (Ptr.mk 0 0 0 0 0) y.Dead) λm=>(Xc e.2.2).bind λj=>cond j ((ZDI e.2.2).bind λk=>(K5 k.1 (u x m)).bind λd=>idx d.2.1.Lines e.2.1 λf=>setI d.2.1.Lines e.2.1 (Line.mk f.Id f.Kind f.Owner f.Prev f.Txg f.Guid f.Key d.1 f.Dead) λl=>some (Pool.mk d.2.1.Store d.2.1.Gen d.2.1.Root d.2.1.MetaL l d.2.1.Keys d.2.1.Loaded d.2.1.Changes d.2.1.Logged d.2.1.NextId d.2.1.NextGuid,d.2.2)) (some (u x m))))) λx m=>(Pool.mk x.1.Store x.1.Gen x.1.Root x.1.MetaL m x.1.Keys x.1.Loaded x.1.Changes x.1.Logged x.1.NextId x.1.NextGuid,x.2)
def Vl (a:Int)(b:List Change)(c:Pool×UInt32×Int):Option (Pool×UInt32×Int):=Xx (λa _=>a) a b c
abbrev Vf:=@Xx
def Z4 (a:Int)(b:List Change)(c:Pool×UInt32×Int):Option (Pool×UInt32×Int):=Vf (λa _=>a) a b c
def WX (a:List Ptr)(b:Int):Option (List Ptr×Int):=cond (decide (b<1)) (none) (some (a,b))
def ZCm (a:List Ptr)(b:Store)(c:UInt32)(d:Ptr)(e:Int)(f:List Int):Option (Store×UInt32×Ptr×Int×List Int):=(ZDI a).bind λg=>(ZEI b c g.1).bind λx=>cond (decide (x.2.2=0)) (app f [x.2.1.At] λm=>some (x.1,c,x.2.1,x.2.2,m)) (some (x.1,c,x.2.1,x.2.2,f))
def WG (g:{β:Type}→Option β→Option β→Option β)(y:List Ptr)(a:Store×UInt32×Store×Ptr×List Int×Int×List Ptr):Option ((Store×UInt32×Store×Ptr×List Int×Int×List Ptr) ⊕ (Store×UInt32×Store×Ptr×Int×List Ptr)):=(fun(u:_→_)=>(ZCm y a.1 a.2.1 a.2.2.2.1 a.2.2.2.2.2.1 a.2.2.2.2.1).bind λx=>cond (!(decide (x.2.2.2.1=0))) (Option.bind (α:=(Store×Ptr×Int)) (g (u x.2.2.2.1) (g (u x.2.2.2.1) (g (u x.2.2.2.1) (u x.2.2.2.1))))<|λb=>some (.inr (x.1,x.2.1,b.1,b.2.1,b.2.2,a.2.2.2.2.2.2))) (app a.2.2.2.2.2.2 [x.2.2.1] λm=>some (.inl (x.1,x.2.1,a.2.2.1,x.2.2.1,x.2.2.2.2,x.2.2.2.1,m)))) λx=>some (Store.mk (Disk.mk [] []) [] 0 0,Ptr.mk 0 0 0 0 0,x)
def ZCl (g:{β:Type}→Option β→Option β→Option β)(a:Store)(b:UInt32)(c:List Ptr):Option (Store×Ptr×List Int×Int):=(fun(h:_→_)=>(fun(u:_→_)=>Option.bind (α:=Bool) ((Yp a).bind λj=>cond (!(decide (j=0))) (some true) ((KW c).bind λk=>some (!(decide (k=0)))))<|λl=>cond l (some (Store.mk (Disk.mk [] []) [] 0 0,Ptr.mk 0 0 0 0 0,[],8)) (Option.bind (α:=Bool) (cond (decide (b<1)) (some true) (some (decide (16777215<b))))<|λm=>cond m (some (Store.mk (Disk.mk [] []) [] 0 0,Ptr.mk 0 0 0 0 0,[],2)) (cond (decide ((c.length:Int)=0)) ((Ul a).bind λn=>some (n,Ptr.mk 0 0 0 0 0,[],0)) ((WX c 16).bind λi=>Option.bind (Zp i.1 i.2 (WG g) (a,b,Store.mk (Disk.mk [] []) [] 0 0,Ptr.mk 0 0 0 0 0,[],0,[]))<|Sum.elim (λd=>(ZCm d.2.2.2.2.2.2 d.1 d.2.1 d.2.2.2.1 d.2.2.2.2.2.1 d.2.2.2.2.1).bind λx=>cond (!(decide (x.2.2.2.1=0))) (Option.bind (α:=(Store×Ptr×Int)) (g (h x.2.2.2.1) (g (h x.2.2.2.1) (g (h x.2.2.2.1) (h x.2.2.2.1))))<|λe=>some (e.1,e.2.1,[],e.2.2)) (g (g (u x) (g (u x) (u x))) (g (g (u x) (u x)) (g (g (u x) (u x)) (u x))))) (λf=>some (f.2.2.1,f.2.2.2.1,[],f.2.2.2.2.1)))))) λx=>some (x.1,x.2.2.1,x.2.2.2.2,0)) λx=>some (Store.mk (Disk.mk [] []) [] 0 0,Ptr.mk 0 0 0 0 0,x)
def D7 (a:Store)(b:UInt32)(c:List Ptr):Option (Store×Ptr×List Int×Int):=ZCl (λa _=>a) a b c
def ZAb:Option (List Int):=some [1,1,1,1,3,4,1]
def ZNK (a:List Int)(b:List Int)(x:List UInt8×Nat):Option ((List UInt8×Nat) ⊕ List UInt8):=cond (decide ((x.2:Int)<(b.length:Int))) (idx b (x.2:Int) λy=>idx a (x.2:Int) λc=>(Zz y c).bind λd=>app x.1 d.1 λm=>some (.inl (m,x.2+1))) (some (.inr x.1))
def ZC3 (a:List Int)(b:List Int):Option (List UInt8):=(loop (ZNK a b) ([],0)).bind λx=>some x
def Yt (a:List UInt8)(b:Int):Option (List UInt8):=mks (w64 (b-(a.length:Int))) (0:UInt8) λm=>app a m λc=>some c
def W5 (q:Ptr→Option (List UInt8×Int))(c:Option (List Int))(d:(List Int)→(List Int)→Option (List UInt8))(e:(List (List UInt8))→Option (List UInt8))(f:(List UInt8)→Int→Option (List UInt8))(a:Line)(b:Ptr):Option (List UInt8):=(q a.Root).bind λx=>(q b).bind λg=>Option.bind (α:=List UInt8) ((c).bind λh=>(d h [a.Id,(a.Kind.toNat:Int),a.Owner,a.Prev,(a.Txg.toNat:Int),(a.Guid.toNat:Int),a.Key]).bind λi=>some i)<|λj=>(e [j,x.1,g.1]).bind λk=>(f k 48).bind λl=>some l
def V8 (a:Line)(b:Ptr):Option (List UInt8):=W5 Vt ZAb ZC3 Zc Yt a b
def QP (g:{β:Type}→Option β→Option β→Option β)(a:List UInt8)(b:List Int)(c:List UInt8)(d:Pool×UInt32×Int):Option (List Int×List UInt8×(Pool×UInt32×Int)):=(fun(u:_→_→_→_→_)=>(K5 a d).bind λx=>(Vt x.1).bind λe=>Option.bind (α:=(List Int×List UInt8)) (g (g (u b x c e.1) (u b x c e.1)) (u b x c e.1))<|λf=>some (f.1,f.2,(Pool.mk x.2.1.Store x.2.1.Gen x.1 x.2.1.MetaL x.2.1.Lines x.2.1.Keys x.2.1.Loaded x.2.1.Changes x.2.1.Logged x.2.1.NextId x.2.1.NextGuid,x.2.2))) λb x c e=>app b [x.1.At] λm=>app c e λh=>some (m,h)
def KI (a:List UInt8)(b:List Int)(c:List UInt8)(d:Pool×UInt32×Int):Option (List Int×List UInt8×(Pool×UInt32×Int)):=QP (λa _=>a) a b c d
def ZED (a:List (List UInt8))(x:List UInt8×Nat):Option ((List UInt8×Nat) ⊕ List UInt8):=cond (decide ((x.2:Int)<(a.length:Int))) (idx a (x.2:Int) λy=>app x.1 y λm=>(Yt m (w64 ((x.2+1:Int)*24))).bind λb=>some (.inl (b,x.2+1))) (some (.inr x.1))
def ZBF (a:List (List UInt8)):Option (List UInt8):=(loop (ZED a) ([],0)).bind λx=>(Yt x 256).bind λb=>some b
abbrev ZFk:=@K5
abbrev WQ:=@QP
def Xw (a:List UInt8)(b:List Int)(c:List UInt8)(d:Pool×UInt32×Int):Option (List Int×List UInt8×(Pool×UInt32×Int)):=WQ (λa _=>a) a b c d
def Xv (g:{β:Type}→Option β→Option β→Option β)(a:Pool×UInt32×Int)(x:Store×UInt32×Ptr×List Change×Int×Int×UInt32×UInt32×Int×Int):Option ((Store×UInt32×Ptr×List Change×Int×Int×UInt32×UInt32×Int×Int) ⊕ ((Store×UInt32×Ptr×List Change×Int×Int×UInt32×UInt32×Int) ⊕ (Store×UInt32×Ptr×List Change×Int×Int×UInt32×UInt32×Int))):=(fun(u:_→_→_)=>(fun(c:_→_)=>cond (decide (x.2.2.2.2.2.2.2.2.2<(a.1.MetaL.length:Int))) (chk (0≤x.2.2.2.2.2.2.2.2.2∧x.2.2.2.2.2.2.2.2.2.toNat<a.1.MetaL.length)<|idx a.1.MetaL x.2.2.2.2.2.2.2.2.2 λy=>cond (!(decide (x.2.2.2.2.2.2.2.2.1=0))) (some (.inr (.inl (c x)))) (g ((KS x.1.Space y).bind λb=>some (u x b)) ((KS x.1.Space y).bind λd=>g (some (u x d)) (some (u x d))))) (some (.inr (.inr (c x))))) λx=>(x.1,x.2.1,x.2.2.1,x.2.2.2.1,x.2.2.2.2.1,x.2.2.2.2.2.1,x.2.2.2.2.2.2.1,x.2.2.2.2.2.2.2.1,x.2.2.2.2.2.2.2.2.1)) λx b=>.inl (Store.mk x.1.Disk b.1 x.1.Epoch x.1.Count,x.2.1,x.2.2.1,x.2.2.2.1,x.2.2.2.2.1,x.2.2.2.2.2.1,x.2.2.2.2.2.2.1,x.2.2.2.2.2.2.2.1,b.2,w64 (x.2.2.2.2.2.2.2.2.2+1))
def Xu (g:{β:Type}→Option β→Option β→Option β)(a:Pool×UInt32×Int)(x:Store×UInt32×Ptr×List Change×Int×Int×UInt32×UInt32×Int×List Int×List UInt8×Int):Option ((Store×UInt32×Ptr×List Change×Int×Int×UInt32×UInt32×Int×List Int×List UInt8×Int) ⊕ (Store×UInt32×Ptr×List Change×Int×Int×UInt32×UInt32×Int×List Int×List UInt8)):=(fun(u:_→_→_)=>cond (decide (x.2.2.2.2.2.2.2.2.2.2.2<(a.1.Lines.length:Int))) (chk (0≤x.2.2.2.2.2.2.2.2.2.2.2∧x.2.2.2.2.2.2.2.2.2.2.2.toNat<a.1.Lines.length)<|idx a.1.Lines x.2.2.2.2.2.2.2.2.2.2.2 λy=>Option.bind (α:=(Store×UInt32×Ptr×List Change×Int×Int×UInt32×UInt32×Int×Ptr×List Int)) (cond (decide (x.2.2.2.2.2.2.2.2.1=0)) (Option.bind (α:=(Store×UInt32×Ptr×List Change×Int×Int×UInt32×UInt32×Int×Ptr×List Int)) (g ((D7 x.1 x.2.2.2.2.2.2.2.1 y.Dead).bind λd=>some (u d x)) ((D7 x.1 x.2.2.2.2.2.2.2.1 y.Dead).bind λe=>g (some (u e x)) (g (some (u e x)) (some (u e x)))))<|λb=>some (b.1,b.2.1,b.2.2.1,b.2.2.2.1,b.2.2.2.2.1,b.2.2.2.2.2.1,b.2.2.2.2.2.2.1,b.2.2.2.2.2.2.2.1,b.2.2.2.2.2.2.2.2.1,b.2.2.2.2.2.2.2.2.2.1,b.2.2.2.2.2.2.2.2.2.2)) (some (x.1,x.2.1,x.2.2.1,x.2.2.2.1,x.2.2.2.2.1,x.2.2.2.2.2.1,x.2.2.2.2.2.2.1,x.2.2.2.2.2.2.2.1,x.2.2.2.2.2.2.2.2.1,Ptr.mk 0 0 0 0 0,[])))<|λc=>app x.2.2.2.2.2.2.2.2.2.1 c.2.2.2.2.2.2.2.2.2.2 λm=>(V8 y c.2.2.2.2.2.2.2.2.2.1).bind λf=>app x.2.2.2.2.2.2.2.2.2.2.1 f λh=>some (.inl (c.1,c.2.1,c.2.2.1,c.2.2.2.1,c.2.2.2.2.1,c.2.2.2.2.2.1,c.2.2.2.2.2.2.1,c.2.2.2.2.2.2.2.1,c.2.2.2.2.2.2.2.2.1,m,h,w64 (x.2.2.2.2.2.2.2.2.2.2.2+1)))) (some (.inr (x.1,x.2.1,x.2.2.1,x.2.2.2.1,x.2.2.2.2.1,x.2.2.2.2.2.1,x.2.2.2.2.2.2.1,x.2.2.2.2.2.2.2.1,x.2.2.2.2.2.2.2.2.1,x.2.2.2.2.2.2.2.2.2.1,x.2.2.2.2.2.2.2.2.2.2.1)))) λd x=>(d.1,x.2.1,x.2.2.1,x.2.2.2.1,x.2.2.2.2.1,x.2.2.2.2.2.1,x.2.2.2.2.2.2.1,x.2.2.2.2.2.2.2.1,d.2.2.2,d.2.1,d.2.2.1)
def Xs (g:{β:Type}→Option β→Option β→Option β)(y:List UInt8)(x:(Pool×UInt32×Int)×List Int×List UInt8):Option (((Pool×UInt32×Int)×List Int×List UInt8) ⊕ Unit):=(Zu y).bind λb=>(Yt b 256).bind λc=>(KI c x.2.1 x.2.2 x.1).bind λa=>some (.inl (a.2.2,a.1,a.2.1))
def W4 (g:{β:Type}→Option β→Option β→Option β)(a:Pool×UInt32×Int):Option (Pool×UInt32×Int):=(fun(t:_→_→_)=>(fun(v:_→_→_)=>(fun(u:_→_→_)=>(fun(w:_→_→_)=>(fun(H:_→_)=>(fun(I:_→_→_)=>Option.bind (loop (Xv g a) (a.1.Store,a.1.Gen,a.1.Root,a.1.Changes,a.1.Logged,a.1.NextId,a.1.NextGuid,a.2.1,a.2.2,0))<|Sum.elim (λj=>some (Pool.mk j.1 j.2.1 j.2.2.1 a.1.MetaL a.1.Lines a.1.Keys a.1.Loaded j.2.2.2.1 j.2.2.2.2.1 j.2.2.2.2.2.1 j.2.2.2.2.2.2.1,j.2.2.2.2.2.2.2)) (λh=>(loop (Xu g a) (h.1,h.2.1,h.2.2.1,h.2.2.2.1,h.2.2.2.2.1,h.2.2.2.2.2.1,h.2.2.2.2.2.2.1,h.2.2.2.2.2.2.2.1,h.2.2.2.2.2.2.2.2,[],[],0)).bind λb=>(Yt b.2.2.2.2.2.2.2.2.2.2 (max (b.2.2.2.2.2.2.2.2.2.2.length:Int) 1)).bind λy=>(Yf y 240).bind λq=>Option.bind (Zp q.1 q.2 (Xs g) ((Pool.mk b.1 b.2.1 b.2.2.1 a.1.MetaL a.1.Lines a.1.Keys a.1.Loaded b.2.2.2.1 b.2.2.2.2.1 b.2.2.2.2.2.1 b.2.2.2.2.2.2.1,(b.2.2.2.2.2.2.2.1,b.2.2.2.2.2.2.2.2.1)),b.2.2.2.2.2.2.2.2.2.1,[]))<|Sum.elim (λd=>(Yt d.2.2 64).bind λi=>Option.bind (α:=((Pool×UInt32×Int)×List Int×List UInt8)) (g (I d i) (I d i))<|λx=>Option.bind (α:=List UInt8) (g (H x) (H x))<|λe=>Option.bind (α:=((Pool×UInt32×Int)×List Int×List UInt8)) (g (g (v e x) (v e x)) (g ((Yt e 16).bind λf=>g (w f x) (g (w f x) (app f x.2.2 λm=>g (u m x) (u m x)))) (g (v e x) ((Yt e 16).bind λr=>g (w r x) (app r x.2.2 λs=>g (u s x) (u s x))))))<|λc=>(ZJ5 c.2.1).bind λz=>some (Pool.mk c.1.1.Store c.1.1.Gen c.1.1.Root z c.1.1.Lines c.1.1.Keys c.1.1.Loaded c.1.1.Changes c.1.1.Logged c.1.1.NextId c.1.1.NextGuid,c.1.2)) (λ_=>none))) λd i=>(ZBF d.1.1.Keys).bind λA=>(Xw A d.2.1 i d.1).bind λk=>some (k.2.2,k.1,k.2.1)) λx=>(ZC3 [1,2,4,1] [82,x.1.1.NextId,(x.1.1.NextGuid.toNat:Int),(x.1.1.Lines.length:Int)]).bind λB=>some B) λf x=>app f x.2.2 λC=>(Yt C 256).bind λD=>Option.bind (t D x) λl=>some (l.2.2,l.1,l.2.1)) λm x=>(Yt m 256).bind λE=>Option.bind (t E x) λn=>some (n.2.2,n.1,n.2.1)) λe x=>(Yt e 16).bind λF=>app F x.2.2 λG=>(Yt G 256).bind λo=>Option.bind (t o x) λp=>some (p.2.2,p.1,p.2.1)) λo x=>Xw o x.2.1 x.2.2 x.1
def Q5 (a:Pool×UInt32×Int):Option (Pool×UInt32×Int):=W4 (λa _=>a) a
def G9 (d:(Pool×UInt32×Int))(x:(Pool×UInt32×Int)×Int):Option (((Pool×UInt32×Int)×Int) ⊕ (Pool×UInt32×Int)):=cond (decide (x.2<(d.1.Lines.length:Int))) (chk (0≤x.2∧x.2.toNat<x.1.1.Lines.length)<|(Zx x.1.1.Changes).bind λb=>(ZU b x.2 x.1.1.Lines).bind λa=>(Z4 x.2 a.1 (Pool.mk x.1.1.Store x.1.1.Gen x.1.1.Root x.1.1.MetaL a.2.1 x.1.1.Keys x.1.1.Loaded x.1.1.Changes x.1.1.Logged x.1.1.NextId x.1.1.NextGuid,x.1.2)).bind λc=>some (.inl (c,w64 (x.2+1)))) (some (.inr x.1))
def ZAd (a:Pool):Option (Pool×UInt32×Int):=(Vm a).bind λd=>Option.bind (α:=Bool) (cond (decide (d=0)) (some (decide (a.Gen=16777215))) (some false))<|λf=>Option.bind (α:=(Pool×UInt32×Int)) (cond f (some (Pool.mk (Store.mk (Disk.mk [] []) [] 0 0) 0 (Ptr.mk 0 0 0 0 0) [] [] [] [] [] 0 0 0,((0:UInt32),9))) (some (Pool.mk (Store.mk (Disk.mk [] []) [] 0 0) 0 (Ptr.mk 0 0 0 0 0) [] [] [] [] [] 0 0 0,((0:UInt32),d))))<|λx=>cond (!(decide (x.2.2=0))) (some x) (Option.bind (α:=(Pool×UInt32×Int)) ((Q7 a).bind λg=>some (g,(a.Gen+(1:UInt32),x.2.2)))<|λe=>(loop (G9 e) (e,0)).bind λb=>(Q5 b).bind λc=>some c)
def ZMl (a:Disk):Option (Disk×Disk):=(leftF a).bind λx=>some (x,a)
abbrev D3:=@Qk
def ZEn (a:Disk):Option (Disk×Int):=(D3 a true a).bind λx=>some (x.1,x.2.1)
def ZJQ (a:Label):Option Bool:=cond (decide (1≤a.Gen)) (cond (decide (a.Gen≤16777215)) (cond (decide (1≤a.Epoch)) (cond (decide (a.Epoch≤65535)) (cond (!(decide (a.Root.At=0)&&(decide (a.Root.Birth=0)&&(decide (a.Root.Iv=0)&&(decide (a.Root.Tag=0)&&(decide (a.Root.Sum=0)&&true)))))) ((YA a.Root).bind λx=>some (decide (x=0))) (some false)) (some false)) (some false)) (some false)) (some false)
def ZHX (a:UInt32):Option Int:=some ((a%(4:UInt32)).toNat:Int)
def Qc (a:List UInt8):Option (List UInt8×List UInt8):=app [] a λm=>some (m,a)
abbrev UG:=@Qr
abbrev ZHM:=@Wb
abbrev ZHL:=@Jh
def ZE7 (a:List UInt8):Option (UInt32×UInt32×UInt32×UInt32×List UInt8):=(Qc a).bind λc=>(UG c.1).bind λe=>chk (0< [(1:UInt8)].length)<|app e [(1:UInt8)] λm=>(loop (ZHM) m).bind λf=>(XH f 8).bind λd=>Option.bind (Zp d.1 d.2 (ZHL) ((1:UInt32),(2:UInt32),(3:UInt32),(4:UInt32)))<|Sum.elim (λx=>(XC x.1 (x.2.1^^^(u32i (c.2.length:Int))) x.2.2.1 x.2.2.2 8).bind λb=>some (b.1,b.2.1,b.2.2.1,b.2.2.2,c.2)) (λ_=>none)
def ZHN (a:List UInt8):Option (UInt32×List UInt8):=(ZE7 a).bind λx=>some (x.1,x.2.2.2.2)
def ZE9 (a:Label):Option (List UInt8):=(Zz (a.Gen.toNat:Int) 4).bind λc=>(Zz (a.Epoch.toNat:Int) 4).bind λd=>(Vt a.Root).bind λe=>app [(67:UInt8)] c.1 λf=>app f d.1 λg=>app g e.1 λh=>(ZHN h).bind λx=>(Zz (x.1.toNat:Int) 4).bind λi=>app x.2 i.1 λj=>mks 227 (0:UInt8) λm=>app j m λb=>some b
def ZJR (a:Disk)(b:Label):Option (Disk×Int):=(Kg a).bind λx=>cond (!(decide (x=0))) (some (Disk.mk [] [],x)) ((ZJQ b).bind λd=>cond (!d) (some (Disk.mk [] [],8)) ((ZHX b.Gen).bind λe=>(ZE9 b).bind λf=>(Gu a e f).bind λc=>some (c.1,c.2)))
def DL (a:Pool×UInt32×Int):Option (Pool×UInt32×Int):=Option.bind (α:=(Store×UInt32×Ptr×List (List UInt8)×List Change×Int×Int×UInt32×UInt32×Int)) (cond (decide (a.2.2=0)) ((ZEn a.1.Store.Disk).bind λb=>some (Store.mk b.1 a.1.Store.Space a.1.Store.Epoch a.1.Store.Count,a.1.Gen,a.1.Root,a.1.Keys,a.1.Changes,a.1.Logged,a.1.NextId,a.1.NextGuid,a.2.1,b.2)) (some (a.1.Store,a.1.Gen,a.1.Root,a.1.Keys,a.1.Changes,a.1.Logged,a.1.NextId,a.1.NextGuid,a.2.1,a.2.2)))<|λx=>cond (decide (x.2.2.2.2.2.2.2.2.2=0)) ((ZJR x.1.Disk (Label.mk x.2.2.2.2.2.2.2.2.1 x.1.Epoch x.2.2.1)).bind λc=>some (Pool.mk (Store.mk c.1 x.1.Space x.1.Epoch x.1.Count) x.2.1 x.2.2.1 a.1.MetaL a.1.Lines x.2.2.2.1 a.1.Loaded x.2.2.2.2.1 x.2.2.2.2.2.1 x.2.2.2.2.2.2.1 x.2.2.2.2.2.2.2.1,(x.2.2.2.2.2.2.2.2.1,c.2))) (some (Pool.mk x.1 x.2.1 x.2.2.1 a.1.MetaL a.1.Lines x.2.2.2.1 a.1.Loaded x.2.2.2.2.1 x.2.2.2.2.2.1 x.2.2.2.2.2.2.1 x.2.2.2.2.2.2.2.1,x.2.2.2.2.2.2.2.2))
def ZEt (a:List UInt8)(b:List UInt8)(c:List UInt8)(g:Int)(x:List UInt8×Int×Int×Int):Option ((List UInt8×Int×Int×Int) ⊕ (List UInt8×Int×Int)):=cond (decide (x.2.2.2<g)) (slc a x.2.2.1 (a.length:Int) λh=>(ZAT h b).bind λf=>chk (0≤x.2.1∧x.2.1≤(x.1.length:Int))<|slc a x.2.2.1 (w64 (x.2.2.1+f)) λm=>cpyO x.1 x.2.1 (x.1.length:Int) m λd=>chk (0≤w64 (x.2.1+(min (m.length:Int) ((x.1.length:Int)-x.2.1)))∧(w64 (x.2.1+(min (m.length:Int) ((x.1.length:Int)-x.2.1))))≤(d.length:Int))<|cpyO d (w64 (x.2.1+(min (m.length:Int) ((x.1.length:Int)-x.2.1)))) (d.length:Int) c λe=>some (.inl (e,w64 ((w64 (x.2.1+(min (m.length:Int) ((x.1.length:Int)-x.2.1))))+(min (c.length:Int) ((d.length:Int)-(w64 (x.2.1+(min (m.length:Int) ((x.1.length:Int)-x.2.1))))))),w64 ((w64 (x.2.2.1+f))+(b.length:Int)),w64 (x.2.2.2+1)))) (some (.inr (x.1,x.2.1,x.2.2.1)))
def ZEs (a:List UInt8)(b:Int)(x:Int×Nat×Nat):Option ((Int×Nat×Nat) ⊕ (Int×Nat)):=cond (decide ((x.2.2:Int)<w64 (b-1))) (slc a (x.2.1:Int) (a.length:Int) λm=>none) (some (.inr (x.1,x.2.1)))
def ZBy (a:List UInt8)(b:List UInt8)(c:List UInt8)(d:Int):Option (List UInt8):=Option.bind (α:=Int) (cond (!(decide (d=0))) ((J0 a b).bind λn=>some n) (some 0))<|λh=>cond (decide (h=0)) (app [] a λo=>some o) (Option.bind (α:=Bool) (cond (decide (d<0)) (some true) (some (decide (h<d))))<|λp=>Option.bind (α:=Int) (cond p (some h) (some d))<|λi=>mks (w64 ((a.length:Int)+(w64 (i*(w64 ((c.length:Int)-(b.length:Int))))))) (0:UInt8) λm=>Option.bind (α:=(List UInt8×Int×Int)) (cond (decide (0<(b.length:Int))) ((loop (ZEt a b c i) (m,0,0,0)).bind λe=>some (e.1,e.2.1,e.2.2)) (chk (0≤(0:Int)∧0≤(m.length:Int))<|cpyO m 0 (m.length:Int) c λj=>(loop (ZEs a i) (w64 (0+(min (c.length:Int) ((m.length:Int)-0))),0,0)).bind λf=>some (j,f.1,(f.2:Int))))<|λx=>chk (0≤x.2.1∧x.2.1≤(x.1.length:Int))<|slc a x.2.2 (a.length:Int) λg=>cpyO x.1 x.2.1 (x.1.length:Int) g λk=>slc k 0 (w64 (x.2.1+(min (g.length:Int) ((x.1.length:Int)-x.2.1)))) λl=>some l)
def G5 (a:List UInt8)(b:List UInt8)(c:List UInt8):Option (List UInt8):=(ZBy a b c (-1)).bind λx=>some x
def ZC8 (a:List UInt8):Option (List UInt8×Int):=(Qa a).bind λx=>cond (!(decide (x=0))) (some ([],x)) ((G5 a [(2:UInt8)] [(0:UInt8)]).bind λb=>some (b,0))
def ZBE (a:Pool×UInt32×Int):Option (Pool×UInt32×Int):=Option.bind (α:=(Store×UInt32×Ptr×List (List UInt8)×List Change×Int×Int×UInt32×UInt32×Int)) (cond (decide (a.2.2=0)) ((ZEn a.1.Store.Disk).bind λc=>some (Store.mk c.1 a.1.Store.Space a.1.Store.Epoch a.1.Store.Count,a.1.Gen,a.1.Root,a.1.Keys,a.1.Changes,a.1.Logged,a.1.NextId,a.1.NextGuid,a.2.1,c.2)) (some (a.1.Store,a.1.Gen,a.1.Root,a.1.Keys,a.1.Changes,a.1.Logged,a.1.NextId,a.1.NextGuid,a.2.1,a.2.2)))<|λx=>Option.bind (α:=(Store×UInt32×Ptr×List (List UInt8)×List Change×Int×Int×UInt32×UInt32×Int)) (cond (decide (x.2.2.2.2.2.2.2.2.2=0)) ((ZC8 x.1.Space).bind λd=>some (Store.mk x.1.Disk d.1 x.1.Epoch x.1.Count,x.2.1,x.2.2.1,x.2.2.2.1,x.2.2.2.2.1,x.2.2.2.2.2.1,x.2.2.2.2.2.2.1,x.2.2.2.2.2.2.2.1,x.2.2.2.2.2.2.2.2.1,d.2)) (some (x.1,x.2.1,x.2.2.1,x.2.2.2.1,x.2.2.2.2.1,x.2.2.2.2.2.1,x.2.2.2.2.2.2.1,x.2.2.2.2.2.2.2.1,x.2.2.2.2.2.2.2.2.1,x.2.2.2.2.2.2.2.2.2)))<|λb=>some (Pool.mk b.1 b.2.2.2.2.2.2.2.2.1 b.2.2.1 a.1.MetaL a.1.Lines b.2.2.2.1 a.1.Loaded [] 0 b.2.2.2.2.2.2.1 b.2.2.2.2.2.2.2.1,b.2.2.2.2.2.2.2.2)
def ZB8 (g:{β:Type}→Option β→Option β→Option β)(a:Pool):Option (Pool×Int):=(fun(u:_→_)=>(ZAd a).bind λc=>(DL c).bind λd=>(ZBE d).bind λx=>cond (!(decide (x.2.2=0))) (Option.bind (α:=(Pool×Int)) (g (u x.2.2) (u x.2.2))<|λb=>some (b.1,b.2)) (some (x.1,0))) λx=>some (Pool.mk (Store.mk (Disk.mk [] []) [] 0 0) 0 (Ptr.mk 0 0 0 0 0) [] [] [] [] [] 0 0 0,x)
def DN (a:Pool):Option (Pool×Int):=ZB8 (λa _=>a) a
def ZFj (e:Int→Int→Option (List UInt8×Int))(q:(List UInt8)→Option (List UInt8))(b:(List (List UInt8))→Option (List UInt8))(a:List UInt8)(x:List UInt8×Int):Option ((List UInt8×Int) ⊕ List UInt8):=cond (decide (x.2<32)) (chk (a.length≤LIM)<|(b [x.1,[u8i x.2],a]).bind λc=>(q c).bind λd=>some (.inl (d,w64 (x.2+1)))) (some (.inr x.1))
def DK (q:Int→Int→Option (List UInt8×Int))(c:(List UInt8)→Option (List UInt8))(d:(List (List UInt8))→Option (List UInt8))(a:List UInt8)(b:UInt32):Option (List UInt8×Int):=cond (decide (64<(a.length:Int))) (some ([],3)) ((q (b.toNat:Int) 4).bind λx=>chk (a.length≤LIM)<|app a x.1 λm=>(c m).bind λe=>(loop (ZFj q c d a) (e,0)).bind λf=>some (f,0))
def ZC1 (a:List UInt8)(b:UInt32):Option (List UInt8×Int):=DK Zz ZAo Zc a b
def ZEB (a:List UInt8):Option (UInt8×UInt8×UInt8×UInt8×UInt8×UInt8×UInt8×UInt8×UInt8×UInt8×UInt8×UInt8×UInt8×UInt8×UInt8×UInt8):=(Zu a).bind λk=>app k [(1:UInt8)] λm=>(ZAo m).bind λx=>idx x 0 λl=>idx x 1 λn=>idx x 2 λo=>idx x 3 λp=>idx x 4 λq=>idx x 5 λr=>idx x 6 λy=>idx x 7 λb=>idx x 8 λc=>idx x 9 λd=>idx x 10 λe=>idx x 11 λf=>idx x 12 λg=>idx x 13 λh=>idx x 14 λi=>idx x 15 λj=>some (l,n,o,p,q,r,y,b,c,d,e,f,g,h,i,j)
def ZBD (a:UInt8)(b:UInt8)(c:UInt8)(d:UInt8)(e:UInt8)(f:UInt8)(g:UInt8)(h:UInt8)(j:UInt8)(k:UInt8)(l:UInt8)(p:UInt8)(q:UInt8)(r:UInt8)(t:UInt8)(u:UInt8)(v:UInt8)(F:UInt8)(z:UInt8)(i:UInt8)(m:UInt8)(n:UInt8)(o:UInt8)(s:UInt8)(w:UInt8)(x:UInt8)(y:UInt8)(A:UInt8)(B:UInt8)(C:UInt8)(D:UInt8)(E:UInt8):Option (UInt8×UInt8×UInt8×UInt8×UInt8×UInt8×UInt8×UInt8×UInt8×UInt8×UInt8×UInt8×UInt8×UInt8×UInt8×UInt8):=some (a^^^v,b^^^F,c^^^z,d^^^i,e^^^m,f^^^n,g^^^o,h^^^s,j^^^w,k^^^x,l^^^y,p^^^A,q^^^B,r^^^C,t^^^D,u^^^E)
def ZEx (a:List UInt8)(b:List UInt8):Option (List UInt8):=(ZGQ a b).bind λx=>(Zz (x.1.toNat:Int) 4).bind λc=>(Zu b).bind λd=>app d c.1 λm=>some m
def DJ (g:{β:Type}→Option β→Option β→Option β)(a:List UInt8)(b:List UInt8)(c:UInt32):Option (List UInt8×Int):=(fun(w:_→_→_)=>(fun(z:_→_→_→_→_→_→_→_→_→_→_→_→_→_→_→_→_→_)=>(ZC1 a c).bind λo=>cond (!(decide (o.2=0))) (some ([],o.2)) (cond (!(decide ((b.length:Int)=16))) (some ([],2)) ((Zz (c.toNat:Int) 4).bind λF=>Option.bind (α:=(List UInt8×UInt8×UInt8×UInt8×UInt8×UInt8×UInt8×UInt8×UInt8×UInt8×UInt8×UInt8×UInt8×UInt8×UInt8×UInt8×UInt8)) (idx b 0 λp=>idx b 1 λq=>idx b 2 λr=>idx b 3 λs=>idx b 4 λt=>idx b 5 λu=>idx b 6 λv=>idx b 7 λy=>idx b 8 λf=>idx b 9 λh=>idx b 10 λi=>idx b 11 λj=>idx b 12 λk=>idx b 13 λl=>idx b 14 λm=>idx b 15 λn=>g ((ZEB o.1).bind λx=>g (Option.bind (z p q r s t u v y f h i j k l m n x) λd=>some (w o.1 d)) (Option.bind (z p q r s t u v y f h i j k l m n x) λA=>some (w o.1 A))) ((ZEB o.1).bind λB=>Option.bind (z p q r s t u v y f h i j k l m n B) λC=>some (w o.1 C)))<|λe=>app F.1 [e.2.1,e.2.2.1,e.2.2.2.1,e.2.2.2.2.1,e.2.2.2.2.2.1,e.2.2.2.2.2.2.1,e.2.2.2.2.2.2.2.1,e.2.2.2.2.2.2.2.2.1,e.2.2.2.2.2.2.2.2.2.1,e.2.2.2.2.2.2.2.2.2.2.1,e.2.2.2.2.2.2.2.2.2.2.2.1,e.2.2.2.2.2.2.2.2.2.2.2.2.1,e.2.2.2.2.2.2.2.2.2.2.2.2.2.1,e.2.2.2.2.2.2.2.2.2.2.2.2.2.2.1,e.2.2.2.2.2.2.2.2.2.2.2.2.2.2.2.1,e.2.2.2.2.2.2.2.2.2.2.2.2.2.2.2.2] λD=>(ZEx e.1 D).bind λE=>some (E,0)))) λp q r s t u v y f h i j k l m n x=>ZBD p q r s t u v y f h i j k l m n x.1 x.2.1 x.2.2.1 x.2.2.2.1 x.2.2.2.2.1 x.2.2.2.2.2.1 x.2.2.2.2.2.2.1 x.2.2.2.2.2.2.2.1 x.2.2.2.2.2.2.2.2.1 x.2.2.2.2.2.2.2.2.2.1 x.2.2.2.2.2.2.2.2.2.2.1 x.2.2.2.2.2.2.2.2.2.2.2.1 x.2.2.2.2.2.2.2.2.2.2.2.2.1 x.2.2.2.2.2.2.2.2.2.2.2.2.2.1 x.2.2.2.2.2.2.2.2.2.2.2.2.2.2.1 x.2.2.2.2.2.2.2.2.2.2.2.2.2.2.2) λo d=>(o,d.1,d.2.1,d.2.2.1,d.2.2.2.1,d.2.2.2.2.1,d.2.2.2.2.2.1,d.2.2.2.2.2.2.1,d.2.2.2.2.2.2.2.1,d.2.2.2.2.2.2.2.2.1,d.2.2.2.2.2.2.2.2.2.1,d.2.2.2.2.2.2.2.2.2.2.1,d.2.2.2.2.2.2.2.2.2.2.2.1,d.2.2.2.2.2.2.2.2.2.2.2.2.1,d.2.2.2.2.2.2.2.2.2.2.2.2.2.1,d.2.2.2.2.2.2.2.2.2.2.2.2.2.2.1,d.2.2.2.2.2.2.2.2.2.2.2.2.2.2.2)
def ZAa (a:List UInt8)(b:List UInt8)(c:UInt32):Option (List UInt8×Int):=DJ (λa _=>a) a b c
def ZBa (a:List UInt8):Option Bool:=some (decide ((a.length:Int)=0))
def BA (a:List (List UInt8))(x:Nat):Option (Nat ⊕ (Nat ⊕ Unit)):=cond (decide ((x:Int)<(a.length:Int))) (idx a (x:Int) λy=>(ZBa y).bind λb=>cond b (some (.inr (.inl x))) (some (.inl (x+1)))) (some (.inr (.inr ())))
def UE (a:List (List UInt8)):Option Int:=Option.bind (loop (BA a) 0)<|Sum.elim (λx=>some (x:Int)) (λb=>some (-1))
def GJ (g:{β:Type}→Option β→Option β→Option β)(a:Pool)(b:List UInt8)(c:List UInt8):Option (Pool×Int×Int):=(λu=>(λk=>(fun(l:_→_)=>(fun(r:_→_→_→_)=>(fun(s:_→_→_→_→_)=>(Vm a).bind λj=>cond (!(decide (j=0))) (l j) (cond (!(decide ((c.length:Int)=16))) (some (Pool.mk k 0 u [] [] [] [] [] 0 0 0,0,3)) ((ZAa b c a.NextGuid).bind λh=>cond (!(decide (h.2=0))) (l h.2) ((UE a.Keys).bind λe=>Option.bind (α:=Bool) (cond (decide ((a.Lines.length:Int)=16)) (some true) (cond (decide (255<a.NextId)) (some true) (cond (decide (4294967293<a.NextGuid)) (some true) (some (decide (e<0))))))<|λt=>cond t (some (Pool.mk k 0 u [] [] [] [] [] 0 0 0,0,9)) ((Q7 a).bind λd=>Option.bind (α:=(Disk×UInt32×UInt32×UInt32×Ptr×List (List UInt8)×List (List UInt8)×Int×Int×UInt32)) (g ((Zr c).bind λv=>chk (0≤e∧e.toNat<d.Keys.length)<|setI d.Keys e h.1 λn=>chk (0≤e∧e.toNat<d.Loaded.length)<|setI d.Loaded e v λm=>some (r d n m)) ((Zr c).bind λf=>chk (0≤e∧e.toNat<d.Keys.length)<|g (s d e h.1 f) (s d e h.1 f)))<|λx=>app d.Lines [Line.mk x.2.2.2.2.2.2.2.2.1 1 x.2.2.2.2.2.2.2.2.1 0 x.2.2.2.1 x.2.2.2.2.2.2.2.2.2 e u []] λo=>(DN (Pool.mk (Store.mk x.1 d.Store.Space x.2.1 x.2.2.1) x.2.2.2.1 x.2.2.2.2.1 d.MetaL o x.2.2.2.2.2.1 x.2.2.2.2.2.2.1 d.Changes x.2.2.2.2.2.2.2.1 (w64 (x.2.2.2.2.2.2.2.2.1+1)) (x.2.2.2.2.2.2.2.2.2+(2:UInt32)))).bind λi=>cond (!(decide (i.2=0))) (l i.2) (some (i.1,x.2.2.2.2.2.2.2.2.1,0))))))) λd e h f=>setI d.Keys e h λp=>chk (0≤e∧e.toNat<d.Loaded.length)<|setI d.Loaded e f λq=>some (r d p q)) λd n m=>(d.Store.Disk,d.Store.Epoch,d.Store.Count,d.Gen,d.Root,n,m,d.Logged,d.NextId,d.NextGuid)) λj=>some (Pool.mk k 0 u [] [] [] [] [] 0 0 0,0,j)) (Store.mk (Disk.mk [] []) [] 0 0)) (Ptr.mk 0 0 0 0 0)
def Wp (a:Pool)(b:List UInt8)(c:List UInt8):Option (Pool×Int×Int):=GJ (λa _=>a) a b c
def law20_one_g (g:{β:Type}→Option β→Option β→Option β):Option (Pool×Bool):=(fun(u:_→_→_)=>(ZGH).bind λd=>(DN d).bind λa=>Option.bind (α:=(Pool×Int×Int×Pool)) (g (mks 16 (0:UInt8) λm=>g (u a.1 m) (u a.1 m)) (mks 16 (0:UInt8) λe=>(Wp a.1 [(97:UInt8)] e).bind λb=>some (a.1,b.2.1,b.2.2,b.1)))<|λx=>cond (decide (a.2=0)) (cond (decide (x.2.2.1=0)) (some (x.2.2.2,decide (x.2.1=1))) (some (x.2.2.2,false))) (some (x.2.2.2,false))) λa m=>(Wp a [(97:UInt8)] m).bind λc=>some (a,c.2.1,c.2.2,c.1)
def law20_one:Option (Pool×Bool):=law20_one_g (λa _=>a)
def ZAA (a:Line)(b:Int):Option (Bool×Int):=some (decide (a.Id=b),b)
def ZV (a:List Line)(x:Int×Int):Option ((Int×Int) ⊕ ((Int×Int) ⊕ Int)):=cond (decide (x.2<(a.length:Int))) (idx a x.2 λy=>(ZAA y x.1).bind λb=>cond b.1 (some (.inr (.inl (b.2,x.2)))) (some (.inl (b.2,w64 (x.2+1))))) (some (.inr (.inr x.1)))
def YB (a:List Line)(b:Int):Option (Int×Int):=Option.bind (loop (ZV a) (b,0))<|Sum.elim (λx=>some (x.2,x.1)) (λc=>some ((-1),c))
def XE (a:Pool)(b:Int):Option (Line×Int):=(Vm a).bind λx=>cond (!(decide (x=0))) (some (Line.mk 0 0 0 0 0 0 0 (Ptr.mk 0 0 0 0 0) [],x)) ((YB a.Lines b).bind λc=>cond (decide (c.1<0)) (some (Line.mk 0 0 0 0 0 0 0 (Ptr.mk 0 0 0 0 0) [],6)) (idx a.Lines c.1 λy=>some (y,0)))
def Wn (a:Pool)(b:Int):Option (Line×Int):=(XE a b).bind λx=>Option.bind (α:=Bool) (cond (decide (x.2=0)) (some (decide (x.1.Kind=2))) (some false))<|λc=>Option.bind (α:=Int) (cond c (some 202) (some x.2))<|λd=>some (x.1,d)
def Qs (a:List Int)(b:Int):Option (List Int×Int):=cond (decide (b<1)) (none) (some (a,b))
def VT (y:List Int)(d:Unit):Option (Unit ⊕ Unit):=Option.bind (α:=Bool) (idx y 0 λa=>cond (decide (a<0)) (some true) (idx y 0 λb=>idx y 1 λc=>some (decide (c≤b))))<|λx=>cond x (some (.inr ())) (some (.inl ()))
def Xn (a:List Int):Option Bool:=(Qs a 2).bind λx=>Option.bind (Zp x.1 x.2 (VT) ())<|Sum.elim (λb=>some true) (λc=>some false)
def X3 (a:Change)(b:Int×Int×Int):Option Int:=(Zf a.Set b.1).bind λx=>(Zf a.Obj b.2.1).bind λc=>(Zf a.Index b.2.2).bind λd=>(U5 [x,c,d]).bind λe=>some e
def ZW (a:List Change)(b:Int×Int×Int)(x:Int×Int):Option ((Int×Int) ⊕ Int):=cond (decide (x.1<x.2)) (chk (0≤(1:Int))<|idx a (w64 ((sr64 (u64i (w64 (x.1+x.2))) 1).toNat:Int)) λy=>(X3 y b).bind λc=>cond (decide (c<0)) (some (.inl (w64 ((w64 ((sr64 (u64i (w64 (x.1+x.2))) 1).toNat:Int))+1),x.2))) (some (.inl (x.1,w64 ((sr64 (u64i (w64 (x.1+x.2))) 1).toNat:Int))))) (some (.inr x.1))
def Za (a:List Change)(b:Int×Int×Int):Option (Int×Bool):=(loop (ZW a b) (0,(a.length:Int))).bind λx=>cond (decide (x<(a.length:Int))) (idx a x λy=>(X3 y b).bind λc=>some (x,decide (c=0))) (some (x,false))
def Wo (a:Pool)(b:Int×Int×Int):Option (Change×Bool):=(Za a.Changes b).bind λx=>cond (!x.2) (some (Change.mk 0 0 0 0 0 0 [] (Ptr.mk 0 0 0 0 0),false)) (idx a.Changes x.1 λy=>some (y,true))
def Kh (a:Pool)(b:Line)(c:Int):Option (Object×Int):=(Un a.Store b.Root c).bind λx=>cond (decide (x.2=6)) (mks 15 (Ptr.mk 0 0 0 0 0) λm=>some (Object.mk 0 0 0 m,0)) (some (x.1,x.2))
def Uh (a:Pool)(b:Line)(c:Int):Option (Change×Int):=(Wo a (b.Id,(c,15))).bind λd=>Option.bind (α:=(Change×Int) ⊕ Change) (cond (!d.2) ((Kh a b c).bind λx=>cond (!(decide (x.2=0))) (some (.inl (Change.mk 0 0 0 0 0 0 [] (Ptr.mk 0 0 0 0 0),x.2))) (some (.inr (Change.mk 0 0 0 x.1.Kind x.1.Links x.1.Size [] (Ptr.mk 0 0 0 0 0))))) (some (.inr d.1)))<|Sum.elim (λe=>some (e.1,e.2)) (λf=>cond (decide (f.Kind=0)) (some (Change.mk 0 0 0 0 0 0 [] (Ptr.mk 0 0 0 0 0),6)) (some (f,0)))
def Xy (a:Store)(b:Ptr):Option (Store×Int):=Option.bind (α:=Bool) ((Yp a).bind λc=>cond (!(decide (c=0))) (some true) ((YA b).bind λd=>some (!(decide (d=0)))))<|λe=>cond e (some (Store.mk (Disk.mk [] []) [] 0 0,8)) (cond (decide (b.At=0)&&(decide (b.Birth=0)&&(decide (b.Iv=0)&&(decide (b.Tag=0)&&(decide (b.Sum=0)&&true))))) (some (Store.mk (Disk.mk [] []) [] 0 0,6)) ((KS a.Space b.At).bind λx=>cond (!(decide (x.2=0))) (some (Store.mk (Disk.mk [] []) [] 0 0,x.2)) ((twinF a.Disk).bind λf=>some (Store.mk f x.1 a.Epoch a.Count,0))))
def ZQ (a:List Change)(b:Int×Int×Int)(x:Int×Int):Option ((Int×Int) ⊕ Int):=cond (decide (x.1<x.2)) (chk (0≤(1:Int))<|chk (0≤w64 ((sr64 (u64i (w64 (x.1+x.2))) 1).toNat:Int)∧(w64 ((sr64 (u64i (w64 (x.1+x.2))) 1).toNat:Int)).toNat<a.length)<|idx a (w64 ((sr64 (u64i (w64 (x.1+x.2))) 1).toNat:Int)) λy=>(X3 y b).bind λc=>cond (decide (c<0)) (some (.inl (w64 ((w64 ((sr64 (u64i (w64 (x.1+x.2))) 1).toNat:Int))+1),x.2))) (some (.inl (x.1,w64 ((sr64 (u64i (w64 (x.1+x.2))) 1).toNat:Int))))) (some (.inr x.1))
def ZD (a:List Change)(b:Int×Int×Int):Option (Int×Bool×List Change):=(loop (ZQ a b) (0,(a.length:Int))).bind λx=>cond (decide (x<(a.length:Int))) (chk (0≤x∧x.toNat<a.length)<|idx a x λy=>(X3 y b).bind λc=>some (x,decide (c=0),a)) (some (x,false,a))
def ZH1 (a:Pool)(b:Int×Int×Int):Option (Change×Bool×List UInt8×List Int×List Line×List (List UInt8)×List (List UInt8)×List Change):=(ZD a.Changes b).bind λx=>cond (!x.2.1) (some (Change.mk 0 0 0 0 0 0 [] (Ptr.mk 0 0 0 0 0),false,a.Store.Space,a.MetaL,a.Lines,a.Keys,a.Loaded,x.2.2)) (chk (0≤x.1∧x.1.toNat<x.2.2.length)<|idx x.2.2 x.1 λy=>some (y,true,a.Store.Space,a.MetaL,a.Lines,a.Keys,a.Loaded,x.2.2))
def Zh (a:Int)(b:Bool)(c:Change)(d:Int)(e:Pool):Option (Int×Bool×Change×Int×Pool):=cond (!(decide (a=0))) (some (a,b,c,d,e)) (cond b (chk (0≤d∧d.toNat<e.Changes.length)<|setI e.Changes d c λm=>some (a,b,c,d,Pool.mk e.Store e.Gen e.Root e.MetaL e.Lines e.Keys e.Loaded m e.Logged e.NextId e.NextGuid)) (Option.bind ((insO (α:=Change)) e.Changes d [c]) λx=>some (a,b,c,d,Pool.mk e.Store e.Gen e.Root e.MetaL e.Lines e.Keys e.Loaded x e.Logged e.NextId e.NextGuid)))
def YK (a:Int)(b:Bool)(c:Change)(d:Int)(e:Pool):Option (Int×Bool×Change×Int×Pool):=cond (!(decide (a=0))) (some (a,b,c,d,e)) (cond b (chk (0≤d∧d.toNat<e.Changes.length)<|setI e.Changes d c λm=>some (a,b,c,d,Pool.mk e.Store e.Gen e.Root e.MetaL e.Lines e.Keys e.Loaded m e.Logged e.NextId e.NextGuid)) (Option.bind ((insO (α:=Change)) e.Changes d [c]) λx=>some (a,b,c,d,Pool.mk e.Store e.Gen e.Root e.MetaL e.Lines e.Keys e.Loaded x e.Logged e.NextId e.NextGuid)))
def V1 (a:Change)(b:Pool):Option (Int×Pool):=Option.bind (α:=(Disk×UInt32×UInt32×UInt32×Ptr×List Change×Int×Int×UInt32×Int×Bool)) ((ZD b.Changes (a.Set,(a.Obj,a.Index))).bind λh=>some (b.Store.Disk,b.Store.Epoch,b.Store.Count,b.Gen,b.Root,h.2.2,b.Logged,b.NextId,b.NextGuid,h.1,h.2.1))<|λx=>Option.bind (α:=Bool) (cond x.2.2.2.2.2.2.2.2.2.2 (chk (0≤x.2.2.2.2.2.2.2.2.2.1∧x.2.2.2.2.2.2.2.2.2.1.toNat<x.2.2.2.2.2.1.length)<|idx x.2.2.2.2.2.1 x.2.2.2.2.2.2.2.2.2.1 λy=>some (!(decide (y.Laid.At=0)&&(decide (y.Laid.Birth=0)&&(decide (y.Laid.Iv=0)&&(decide (y.Laid.Tag=0)&&(decide (y.Laid.Sum=0)&&true))))))) (some false))<|λj=>cond j (Option.bind (α:=(Store×UInt32×Ptr×Int×Int×UInt32×Int×Store)) (chk (0≤x.2.2.2.2.2.2.2.2.2.1∧x.2.2.2.2.2.2.2.2.2.1.toNat<x.2.2.2.2.2.1.length)<|idx x.2.2.2.2.2.1 x.2.2.2.2.2.2.2.2.2.1 λi=>(Xy (Store.mk x.1 b.Store.Space x.2.1 x.2.2.1) i.Laid).bind λd=>some (Store.mk x.1 b.Store.Space x.2.1 x.2.2.1,x.2.2.2.1,x.2.2.2.2.1,x.2.2.2.2.2.2.1,x.2.2.2.2.2.2.2.1,x.2.2.2.2.2.2.2.2.1,d.2,d.1))<|λc=>cond (!(decide (c.2.2.2.2.2.2.1=0))) ((Zh c.2.2.2.2.2.2.1 x.2.2.2.2.2.2.2.2.2.2 a x.2.2.2.2.2.2.2.2.2.1 (Pool.mk c.1 c.2.1 c.2.2.1 b.MetaL b.Lines b.Keys b.Loaded x.2.2.2.2.2.1 c.2.2.2.1 c.2.2.2.2.1 c.2.2.2.2.2.1)).bind λe=>some (e.1,e.2.2.2.2)) ((YK 0 x.2.2.2.2.2.2.2.2.2.2 a x.2.2.2.2.2.2.2.2.2.1 (Pool.mk c.2.2.2.2.2.2.2 c.2.1 c.2.2.1 b.MetaL b.Lines b.Keys b.Loaded x.2.2.2.2.2.1 c.2.2.2.1 c.2.2.2.2.1 c.2.2.2.2.2.1)).bind λf=>some (f.1,f.2.2.2.2))) ((YK 0 x.2.2.2.2.2.2.2.2.2.2 a x.2.2.2.2.2.2.2.2.2.1 (Pool.mk (Store.mk x.1 b.Store.Space x.2.1 x.2.2.1) x.2.2.2.1 x.2.2.2.2.1 b.MetaL b.Lines b.Keys b.Loaded x.2.2.2.2.2.1 x.2.2.2.2.2.2.1 x.2.2.2.2.2.2.2.1 x.2.2.2.2.2.2.2.2.1)).bind λg=>some (g.1,g.2.2.2.2))
def Qm (a:Pool)(b:Int×Int×Int):Option (Change×Bool×List Int×List Line×List (List UInt8)×List (List UInt8)×List Change):=(ZD a.Changes b).bind λx=>cond (!x.2.1) (some (Change.mk 0 0 0 0 0 0 [] (Ptr.mk 0 0 0 0 0),false,a.MetaL,a.Lines,a.Keys,a.Loaded,x.2.2)) (chk (0≤x.1∧x.1.toNat<x.2.2.length)<|idx x.2.2 x.1 λy=>some (y,true,a.MetaL,a.Lines,a.Keys,a.Loaded,x.2.2))
def Yc (a:Change)(b:Pool):Option (Int×Pool):=Option.bind (α:=(Store×UInt32×Ptr×List Change×Int×Int×UInt32×Int×Bool)) ((ZD b.Changes (a.Set,(a.Obj,a.Index))).bind λh=>some (b.Store,b.Gen,b.Root,h.2.2,b.Logged,b.NextId,b.NextGuid,h.1,h.2.1))<|λx=>Option.bind (α:=Bool) (cond x.2.2.2.2.2.2.2.2 (chk (0≤x.2.2.2.2.2.2.2.1∧x.2.2.2.2.2.2.2.1.toNat<x.2.2.2.1.length)<|idx x.2.2.2.1 x.2.2.2.2.2.2.2.1 λy=>some (!(decide (y.Laid.At=0)&&(decide (y.Laid.Birth=0)&&(decide (y.Laid.Iv=0)&&(decide (y.Laid.Tag=0)&&(decide (y.Laid.Sum=0)&&true))))))) (some false))<|λj=>cond j (Option.bind (α:=(Int×Store)) (chk (0≤x.2.2.2.2.2.2.2.1∧x.2.2.2.2.2.2.2.1.toNat<x.2.2.2.1.length)<|idx x.2.2.2.1 x.2.2.2.2.2.2.2.1 λi=>(Xy x.1 i.Laid).bind λd=>some (d.2,d.1))<|λc=>cond (!(decide (c.1=0))) ((Zh c.1 x.2.2.2.2.2.2.2.2 a x.2.2.2.2.2.2.2.1 (Pool.mk x.1 x.2.1 x.2.2.1 b.MetaL b.Lines b.Keys b.Loaded x.2.2.2.1 x.2.2.2.2.1 x.2.2.2.2.2.1 x.2.2.2.2.2.2.1)).bind λe=>some (e.1,e.2.2.2.2)) ((YK 0 x.2.2.2.2.2.2.2.2 a x.2.2.2.2.2.2.2.1 (Pool.mk c.2 x.2.1 x.2.2.1 b.MetaL b.Lines b.Keys b.Loaded x.2.2.2.1 x.2.2.2.2.1 x.2.2.2.2.2.1 x.2.2.2.2.2.2.1)).bind λf=>some (f.1,f.2.2.2.2))) ((Zh 0 x.2.2.2.2.2.2.2.2 a x.2.2.2.2.2.2.2.1 (Pool.mk x.1 x.2.1 x.2.2.1 b.MetaL b.Lines b.Keys b.Loaded x.2.2.2.1 x.2.2.2.2.1 x.2.2.2.2.2.1 x.2.2.2.2.2.2.1)).bind λg=>some (g.1,g.2.2.2.2))
def Xi (b:Object)(c:Line)(d:Int)(x:Pool×Int):Option ((Pool×Int) ⊕ ((Pool×Int) ⊕ Pool)):=cond (decide (x.2<(b.Data.length:Int))) (chk (0≤x.2∧x.2.toNat<b.Data.length)<|idx b.Data x.2 λy=>Option.bind (α:=(Pool×Bool)) ((Qm x.1 (c.Id,(d,x.2))).bind λa=>some (Pool.mk x.1.Store x.1.Gen x.1.Root a.2.2.1 a.2.2.2.1 a.2.2.2.2.1 a.2.2.2.2.2.1 a.2.2.2.2.2.2 x.1.Logged x.1.NextId x.1.NextGuid,a.2.1))<|λf=>Option.bind (α:=Bool) (cond (!f.2) (some (decide (y.At=0)&&(decide (y.Birth=0)&&(decide (y.Iv=0)&&(decide (y.Tag=0)&&(decide (y.Sum=0)&&true)))))) (some false))<|λg=>cond g (some (.inl (f.1,w64 (x.2+1)))) ((Yc (Change.mk c.Id d x.2 0 0 0 [] (Ptr.mk 0 0 0 0 0)) f.1).bind λe=>cond (!(decide (e.1=0))) (some (.inr (.inl (e.2,e.1)))) (some (.inl (e.2,w64 (x.2+1)))))) (some (.inr (.inr x.1)))
def QL (a:Pool)(b:Object)(c:Line)(d:Int):Option (Int×Pool×Object×Line×Int):=Option.bind (loop (Xi b c d) (a,0))<|Sum.elim (λf=>some (f.2,f.1,b,c,d)) (λe=>(Yc (Change.mk c.Id d 15 0 0 0 [] (Ptr.mk 0 0 0 0 0)) e).bind λx=>some (x.1,x.2,b,c,d))
def ZEp (a:Pool)(b:Object)(c:Line)(d:Int):Option (Pool×Int×Object×Line×Int):=(Q7 a).bind λe=>(QL e b c d).bind λx=>cond (!(decide (x.1=0))) (some (Pool.mk (Store.mk (Disk.mk [] []) [] 0 0) 0 (Ptr.mk 0 0 0 0 0) [] [] [] [] [] 0 0 0,x.1,x.2.2.1,x.2.2.2.1,x.2.2.2.2)) (some (x.2.1,0,x.2.2.1,x.2.2.2.1,x.2.2.2.2))
def Ki (a:Pool)(b:Line)(c:Int):Option (Pool×Int):=(Uh a b c).bind λd=>cond (!(decide (d.2=0))) (some (Pool.mk (Store.mk (Disk.mk [] []) [] 0 0) 0 (Ptr.mk 0 0 0 0 0) [] [] [] [] [] 0 0 0,d.2)) ((Kh a b c).bind λx=>cond (!(decide (x.2=0))) (some (Pool.mk (Store.mk (Disk.mk [] []) [] 0 0) 0 (Ptr.mk 0 0 0 0 0) [] [] [] [] [] 0 0 0,x.2)) ((ZEp a x.1 b c).bind λe=>some (e.1,e.2.1)))
def ZCn (a:Pool)(b:Int)(c:Int)(d:UInt8)(e:Int)(f:Int):Option (Int×Pool×Int×Int×UInt8×Int×Int):=(V1 (Change.mk b c 15 d e f [] (Ptr.mk 0 0 0 0 0)) a).bind λx=>some (x.1,x.2,b,c,d,e,f)
def VU (a:Pool)(b:Int)(c:Int)(d:UInt8)(e:Int)(f:Int):Option (Pool×Int×Int×Int×UInt8×Int×Int):=(Q7 a).bind λg=>(ZCn g b c d e f).bind λx=>cond (!(decide (x.1=0))) (some (Pool.mk (Store.mk (Disk.mk [] []) [] 0 0) 0 (Ptr.mk 0 0 0 0 0) [] [] [] [] [] 0 0 0,x.1,x.2.2.1,x.2.2.2.1,x.2.2.2.2.1,x.2.2.2.2.2.1,x.2.2.2.2.2.2)) (some (x.2.1,0,x.2.2.1,x.2.2.2.1,x.2.2.2.2.1,x.2.2.2.2.2.1,x.2.2.2.2.2.2))
def ZAB (a:Pool)(b:Int)(c:Int)(d:UInt8)(e:Int)(f:Int):Option (Pool×Int):=(Wn a b).bind λx=>cond (!(decide (x.2=0))) (some (Pool.mk (Store.mk (Disk.mk [] []) [] 0 0) 0 (Ptr.mk 0 0 0 0 0) [] [] [] [] [] 0 0 0,x.2)) (Option.bind (α:=Bool) ((Xn [c,16,(d.toNat:Int),8,e,256,f,3841]).bind λi=>cond (!i) (some true) (cond (decide (d=0)) (some (decide (0<w64 (e+f)))) (some false)))<|λj=>cond j (some (Pool.mk (Store.mk (Disk.mk [] []) [] 0 0) 0 (Ptr.mk 0 0 0 0 0) [] [] [] [] [] 0 0 0,2)) (idx a.Loaded x.1.Key λy=>cond (decide ((y.length:Int)=0)) (some (Pool.mk (Store.mk (Disk.mk [] []) [] 0 0) 0 (Ptr.mk 0 0 0 0 0) [] [] [] [] [] 0 0 0,200)) (cond (decide (d=0)) ((Ki a x.1 c).bind λg=>some (g.1,g.2)) ((VU a b c d e f).bind λh=>some (h.1,h.2.1)))))
def ZAC (a:Pool)(b:Change):Option (Int×Pool×Change):=(V1 b a).bind λx=>some (x.1,x.2,b)
def UU (a:Pool)(b:Change):Option (Pool×Int×Change):=(Q7 a).bind λc=>(ZAC c b).bind λx=>cond (!(decide (x.1=0))) (some (Pool.mk (Store.mk (Disk.mk [] []) [] 0 0) 0 (Ptr.mk 0 0 0 0 0) [] [] [] [] [] 0 0 0,x.1,x.2.2)) (some (x.2.1,0,x.2.2))
def Gw (a:Pool)(b:Int)(c:Int)(d:Int)(e:List UInt8):Option (Pool×Int):=(Wn a b).bind λx=>cond (!(decide (x.2=0))) (some (Pool.mk (Store.mk (Disk.mk [] []) [] 0 0) 0 (Ptr.mk 0 0 0 0 0) [] [] [] [] [] 0 0 0,x.2)) ((Xn [c,16,d,15]).bind λh=>cond (!h) (some (Pool.mk (Store.mk (Disk.mk [] []) [] 0 0) 0 (Ptr.mk 0 0 0 0 0) [] [] [] [] [] 0 0 0,2)) (cond (decide (256<(e.length:Int))) (some (Pool.mk (Store.mk (Disk.mk [] []) [] 0 0) 0 (Ptr.mk 0 0 0 0 0) [] [] [] [] [] 0 0 0,3)) (idx a.Loaded x.1.Key λy=>cond (decide ((y.length:Int)=0)) (some (Pool.mk (Store.mk (Disk.mk [] []) [] 0 0) 0 (Ptr.mk 0 0 0 0 0) [] [] [] [] [] 0 0 0,200)) ((Uh a x.1 c).bind λf=>cond (!(decide (f.2=0))) (some (Pool.mk (Store.mk (Disk.mk [] []) [] 0 0) 0 (Ptr.mk 0 0 0 0 0) [] [] [] [] [] 0 0 0,f.2)) (Option.bind (α:=Change) (cond (decide (0<(e.length:Int))) (mks 256 (0:UInt8) λm=>cpyO m 0 (m.length:Int) e λi=>some (Change.mk b c d 0 0 0 i (Ptr.mk 0 0 0 0 0))) (some (Change.mk b c d 0 0 0 [] (Ptr.mk 0 0 0 0 0))))<|λj=>(UU a j).bind λg=>some (g.1,g.2.1))))))
def ZI5 (a:List UInt8)(b:UInt32)(c:List UInt8)(d:UInt32):Option (List UInt8×Int):=(Da a b c).bind λx=>cond (!(decide (x.2=0))) (some ([],x.2)) ((Db a b c).bind λe=>Option.bind (α:=Bool) (cond (!(decide (e.2=0))) (some true) (some (!(decide (e.1=d)))))<|λf=>cond f (some ([],131)) (some (x.1,0)))
def ZGr (a:Store)(b:Ptr)(c:List UInt8):Option (List UInt8×Int):=(Vo a b).bind λx=>cond (!(decide (x.2=0))) (some ([],x.2)) (cond (!(decide ((c.length:Int)=16))) (some ([],3)) ((ZI5 c b.Iv x.1 b.Tag).bind λd=>cond (!(decide (d.2=0))) (some ([],131)) (some (d.1,0))))
def ZJg (a:Pool)(b:Int)(c:Int)(d:Int):Option (List UInt8×Int):=(XE a b).bind λf=>cond (!(decide (f.2=0))) (some ([],f.2)) ((Xn [c,16,d,15]).bind λk=>cond (!k) (some ([],2)) (idx a.Loaded f.1.Key λy=>cond (decide ((y.length:Int)=0)) (some ([],200)) ((Uh a f.1 c).bind λj=>cond (!(decide (j.2=0))) (some ([],j.2)) ((Wo a (b,(c,d))).bind λe=>Option.bind (α:=Bool) (cond e.2 (some (decide (0<(e.1.Data.length:Int)))) (some false))<|λl=>cond l ((Zr e.1.Data).bind λn=>some (n,0)) (Option.bind (α:=(Ptr×Int) ⊕ Ptr) (cond (!e.2) ((Kh a f.1 c).bind λh=>cond (!(decide (h.2=0))) (some (.inl (e.1.Laid,h.2))) (chk (0≤d∧d.toNat<h.1.Data.length)<|idx h.1.Data d λo=>some (.inr o))) (some (.inr e.1.Laid)))<|Sum.elim (λi=>some ([],i.2)) (λx=>cond (decide (x.At=0)&&(decide (x.Birth=0)&&(decide (x.Iv=0)&&(decide (x.Tag=0)&&(decide (x.Sum=0)&&true))))) (mks 256 (0:UInt8) λm=>some (m,0)) ((ZGr a.Store x y).bind λg=>some (g.1,g.2))))))))
def law20_alive:Option Bool:=(law20_one).bind λa=>(ZAB a.1 1 0 (1:UInt8) 1 5).bind λb=>chk (0< [(97:UInt8),(98:UInt8),(99:UInt8)].length)<|(Gw b.1 1 0 0 [(97:UInt8),(98:UInt8),(99:UInt8)]).bind λc=>(ZJg c.1 1 0 0).bind λx=>cond a.2 (cond (decide (b.2=0)) (cond (decide (c.2=0)) (cond (decide (x.2=0)) (cond (decide ((x.1.length:Int)=256)) (slc x.1 0 4 λm=>some (decide (m= [(97:UInt8),(98:UInt8),(99:UInt8),(0:UInt8)]))) (some false)) (some false)) (some false)) (some false)) (some false)
def Uq (a:Disk)(x:Int×Int):Option ((Int×Int) ⊕ Int):=Option.bind (α:=Bool) (cond (decide (x.2<(a.Blocks.length:Int))) (some (decide (x.1<2000000))) (some false))<|λb=>cond b (idx a.Blocks x.2 λy=>some (.inl (w64 (x.1+(y.length:Int)),w64 (x.2+1)))) (some (.inr x.1))
def Up (a:Disk)(x:Int×Int):Option ((Int×Int) ⊕ Int):=Option.bind (α:=Bool) (cond (decide (x.2<(a.Waits.length:Int))) (some (decide (x.1<2000000))) (some false))<|λb=>cond b (idx a.Waits x.2 λy=>some (.inl (w64 (x.1+(y.Data.length:Int)),w64 (x.2+1)))) (some (.inr x.1))
def Jd (a:Disk):Option Bool:=Option.bind (α:=Bool) (cond (decide (500<(a.Blocks.length:Int))) (some true) (cond (decide (500<(a.Waits.length:Int))) (cond (decide ((a.Waits.length:Int)<4096)) (some true) (some (decide (4106<(a.Waits.length:Int))))) (some (decide (4106<(a.Waits.length:Int))))))<|λx=>cond x (some true) ((loop (Uq a) (0,0)).bind λb=>(loop (Up a) (b,0)).bind λc=>some (decide (2000000≤c)))
def Jc (a:Store):Option Bool:=(Jd a.Disk).bind λx=>cond x (some true) (some (decide (10000<(a.Space.length:Int))))
def VF (a:Pool)(x:Int×Nat):Option ((Int×Nat) ⊕ Int):=cond (decide ((x.2:Int)<(a.Lines.length:Int))) (idx a.Lines (x.2:Int) λy=>some (.inl (w64 (x.1+(min (y.Dead.length:Int) 100000)),x.2+1))) (some (.inr x.1))
def VE (a:Pool)(x:Int×Nat):Option ((Int×Nat) ⊕ Int):=cond (decide ((x.2:Int)<(a.Changes.length:Int))) (idx a.Changes (x.2:Int) λy=>some (.inl (w64 (x.1+(w64 ((min (y.Data.length:Int) 1000000).tdiv 256))),x.2+1))) (some (.inr x.1))
def VD (a:Pool)(x:Int×Nat):Option ((Int×Nat) ⊕ Int):=cond (decide ((x.2:Int)<(a.Keys.length:Int))) (idx a.Keys (x.2:Int) λy=>some (.inl (w64 (x.1+(w64 ((min (y.length:Int) 1000000).tdiv 24))),x.2+1))) (some (.inr x.1))
def VC (a:Pool)(x:Int×Nat):Option ((Int×Nat) ⊕ Int):=cond (decide ((x.2:Int)<(a.Loaded.length:Int))) (idx a.Loaded (x.2:Int) λy=>some (.inl (w64 (x.1+(w64 ((min (y.length:Int) 1000000).tdiv 16))),x.2+1))) (some (.inr x.1))
def Jb (a:Pool):Option Bool:=Option.bind (α:=Bool) ((Jc a.Store).bind λc=>cond c (some true) (some (decide (1000<w64 ((w64 ((w64 ((w64 ((a.MetaL.length:Int)+(a.Lines.length:Int)))+(a.Keys.length:Int)))+(a.Loaded.length:Int)))+(a.Changes.length:Int))))))<|λd=>cond d (some true) ((loop (VF a) (w64 ((w64 ((w64 ((w64 ((a.MetaL.length:Int)+(a.Lines.length:Int)))+(a.Keys.length:Int)))+(a.Loaded.length:Int)))+(a.Changes.length:Int)),0)).bind λe=>(loop (VE a) (e,0)).bind λf=>(loop (VD a) (f,0)).bind λx=>(loop (VC a) (x,0)).bind λb=>some (decide (5000<b)))
def ZAv (a:Pool)(b:Int):Option (Line×Int):=(XE a b).bind λx=>(YE x.1.Dead).bind λc=>some (Line.mk x.1.Id x.1.Kind x.1.Owner x.1.Prev x.1.Txg x.1.Guid x.1.Key x.1.Root c,x.2)
def law20_DataFrozen (a:Pool)(b:Int)(c:Int)(d:Int)(e:List UInt8)(f:UInt8)(g:Int):Option Bool:=(law20_alive).bind λj=>Option.bind (α:=Bool) ((Jb a).bind λl=>cond l (some true) (cond (decide (1000<(e.length:Int))) (some true) (some (!j))))<|λm=>cond m (some j) ((ZAv a b).bind λk=>(Gw a b c d e).bind λi=>(ZAB a b c f 0 g).bind λx=>Option.bind (α:=Bool) (cond (!(decide (i.2=0))) (cond (!(decide ((i.1.Lines.length:Int)=0))) (some true) (cond (!(decide ((i.1.Store.Space.length:Int)=0))) (some true) (cond (!(decide (x.2=0))) (cond (!(decide ((x.1.Lines.length:Int)=0))) (some true) (some (!(decide ((x.1.Store.Space.length:Int)=0))))) (some false)))) (cond (!(decide (x.2=0))) (cond (!(decide ((x.1.Lines.length:Int)=0))) (some true) (some (!(decide ((x.1.Store.Space.length:Int)=0))))) (some false)))<|λn=>cond n (some false) (cond (!(decide (k.2=0))) (Option.bind (α:=Bool) (cond j (cond (decide (i.2=k.2)) (some (decide (x.2=k.2))) (some false)) (some false))<|λo=>some o) (cond (decide (k.1.Kind=2)) (Option.bind (α:=Bool) (cond j (cond (decide (i.2=202)) (some (decide (x.2=202))) (some false)) (some false))<|λp=>some p) (Option.bind (α:=Bool) (cond (decide (0≤c)) (some (decide (c<16))) (some false))<|λh=>cond j (cond h (cond (decide (0≤d)) (cond (decide (d<15)) (cond h (some true) (some (decide (x.2=2)))) (cond (decide (i.2=2)) (cond h (some true) (some (decide (x.2=2)))) (some false))) (cond (decide (i.2=2)) (cond h (some true) (some (decide (x.2=2)))) (some false))) (cond (decide (i.2=2)) (cond h (some true) (some (decide (x.2=2)))) (some false))) (some false)))))
end
set_option maxRecDepth 20000
noncomputable section
def ZEE:Option Pool:=(fun(u:_→_→_→_)=>agree ((Vn).bind λx=>agree (mks 8 [] λa=>mks 8 [] λb=>some (u x a b)) (mks 8 [] λl=>mks 8 [] λn=>some (u x n l))) (agree (mks 8 [] λk=>agree ((Vn).bind λc=>mks 8 [] λd=>some (u c k d)) (mks 8 [] λe=>(Vn).bind λf=>some (u f k e))) (mks 8 [] λm=>agree ((Vn).bind λg=>mks 8 [] λh=>some (u g h m)) (mks 8 [] λi=>(Vn).bind λj=>some (u j i m))))) λx a b=>Pool.mk x 0 (Ptr.mk 0 0 0 0 0) [] [] a b [] 0 1 1
def ZBz (a:List UInt8):Option (List UInt8):=nilq a (some []) (app [] a λm=>some m)
def Um (a:List Int):Option (List Int):=nilq a (some []) (app [] a λm=>some m)
def Kb (a:List Line):Option (List Line):=nilq a (some []) (app [] a λm=>some m)
def Qy (a:List Change):Option (List Change):=nilq a (some []) (app [] a λm=>some m)
def K9 (a:List Ptr):Option (List Ptr):=nilq a (some []) (app [] a λm=>some m)
def DW (a:List (List UInt8)):Option (List (List UInt8)):=nilq a (some []) (app [] a λm=>some m)
def ZCi (a:Disk)(b:Int):Option (List UInt8×Int):=(fun(u:_→_→_)=>(fun(e:_→_→_)=>Option.bind (α:=(Disk×Int×Disk)) (agree ((XD b).bind λd=>agree (agree (u a d) (u a d)) (u a d)) (agree (agree ((XD b).bind λh=>agree (u a h) (u a h)) (e b a)) (agree (e b a) (e b a))))<|λx=>cond (!(decide (x.2.1=0))) (some ([],x.2.1)) (idx x.2.2.Blocks b λy=>some (y,0))) λb a=>(XD b).bind λf=>(Qk a f a).bind λc=>some (c.2.2,c.2.1,c.1)) λa d=>(Qk a d a).bind λg=>some (g.2.2,g.2.1,g.1)
def UF (a:List UInt8):Option (List UInt8):=nilq a (some []) (app [] a λm=>some m)
def ZCG (a:List UInt8):Option (Object×Int):=(fun(u:_→_→_→_→_)=>cond (!(decide ((a.length:Int)=256))) (some (Object.mk 0 0 0 [],3)) (idx a 0 λy=>idx a 1 λd=>idx a 2 λw=>idx a 3 λz=>idx a 4 λq=>idx a 5 λr=>idx a 6 λs=>idx a 7 λt=>idx a 8 λv=>idx a 9 λf=>idx a 10 λg=>idx a 11 λh=>idx a 12 λi=>idx a 13 λj=>idx a 14 λk=>idx a 15 λl=>chk ((a.length:Int)=(a.length:Int))<|slc a 16 (a.length:Int) λn=>mks 16 (0:UInt8) λm=>chk (0<m.length)<|app n m λo=>(WY o).bind λx=>Option.bind (α:=Bool) (cond (!(decide (x.2=0))) (some true) (some (!(decide ([q,r,s,t,v,f,g,h,i,j,k,l]= [(0:UInt8),(0:UInt8),(0:UInt8),(0:UInt8),(0:UInt8),(0:UInt8),(0:UInt8),(0:UInt8),(0:UInt8),(0:UInt8),(0:UInt8),(0:UInt8)])))))<|λp=>cond p (some (Object.mk 0 0 0 [],8)) ((YR a 2 2).bind λb=>Option.bind (α:=Object) (agree (agree (u x y d b.1) (u x y d b.1)) (agree (agree (u x y d b.1) (u x y d b.1)) (chk (0≤(15:Int)∧15≤(x.1.length:Int))<|agree (some (Object.mk y (d.toNat:Int) b.1 (x.1.take 15))) (some (Object.mk y (d.toNat:Int) b.1 (x.1.take 15))))))<|λc=>(Gj c).bind λe=>cond (!(decide (e.1=0))) (some (Object.mk 0 0 0 [],8)) (some (Object.mk c.Kind c.Links c.Size e.2,0))))) λx y d b=>chk (0≤(15:Int)∧15≤(x.1.length:Int))<|some (Object.mk y (d.toNat:Int) b (x.1.take 15))
def Qx (a:List Ptr):Option (List Ptr×List Ptr):=nilq a (some ([],a)) (app [] a λm=>some (m,a))
def D4 (a:Disk)(b:Int)(c:List UInt8):Option (Disk×Int):=(fun(u:_→_→_)=>(fun(f:_→_→_)=>(fun(j:_→_→_→_)=>Option.bind (α:=(Disk×Int)) (agree ((XD b).bind λd=>agree (agree (u a d) (u a d)) (u a d)) (agree (agree ((XD b).bind λk=>agree (u a k) (u a k)) (f b a)) (agree (f b a) (f b a))))<|λx=>cond (!(decide (x.2=0))) (some (Disk.mk [] [],x.2)) (cond (!(decide ((c.length:Int)=256))) (some (Disk.mk [] [],3)) (cond (decide ((x.1.Waits.length:Int)=4096)) (some (Disk.mk [] [],9)) (agree (j x b c) (j x b c))))) λx b c=>(QN x.1.Waits).bind λg=>chk (0< [Write.mk b c].length)<|app g [Write.mk b c] λm=>(twinF (Disk.mk x.1.Blocks m)).bind λh=>some (h,0)) λb a=>(XD b).bind λi=>(VS a i a).bind λe=>some (e.2.2,e.2.1)) λa d=>(VS a d a).bind λl=>some (l.2.2,l.2.1)
def DP (a:Store)(b:Ptr)(c:List UInt8):Option (Store×Ptr×Int):=DQ agree a b c
def Kw (a:Int)(b:Ptr)(c:Ptr)(d:List Change)(e:Pool×UInt32×Int):Option (Ptr×(Pool×UInt32×Int)):=Ky agree a b c d e
def KR (a:Int)(b:List Change)(c:Pool×UInt32×Int):Option (Pool×UInt32×Int):=Xx agree a b c
def Ve (a:Int)(b:List Change)(c:Pool×UInt32×Int):Option (Pool×UInt32×Int):=Vf agree a b c
def ZCk (a:Store)(b:UInt32)(c:List Ptr):Option (Store×Ptr×List Int×Int):=ZCl agree a b c
def QQ (q:Ptr→Option (List UInt8×Int))(c:Option (List Int))(d:(List Int)→(List Int)→Option (List UInt8))(e:(List (List UInt8))→Option (List UInt8))(f:(List UInt8)→Int→Option (List UInt8))(a:Line)(b:Ptr):Option (List UInt8):=(fun(u:_→_)=>(q a.Root).bind λx=>(q b).bind λg=>Option.bind (α:=List UInt8) (agree (u a) (u a))<|λh=>(e [h,x.1,g.1]).bind λi=>(f i 48).bind λj=>some j) λa=>(c).bind λk=>(d k [a.Id,(a.Kind.toNat:Int),a.Owner,a.Prev,(a.Txg.toNat:Int),(a.Guid.toNat:Int),a.Key]).bind λl=>some l
def W6 (a:Line)(b:Ptr):Option (List UInt8):=QQ Vt ZAb ZC3 Zc Yt a b
def Kz (a:List UInt8)(b:List Int)(c:List UInt8)(d:Pool×UInt32×Int):Option (List Int×List UInt8×(Pool×UInt32×Int)):=QP agree a b c d
def WP (a:List UInt8)(b:List Int)(c:List UInt8)(d:Pool×UInt32×Int):Option (List Int×List UInt8×(Pool×UInt32×Int)):=WQ agree a b c d
def W3 (a:Pool×UInt32×Int):Option (Pool×UInt32×Int):=W4 agree a
def Uk (o:(Pool×UInt32×Int))(x:(Pool×UInt32×Int)×Int):Option (((Pool×UInt32×Int)×Int) ⊕ (Pool×UInt32×Int)):=(fun(u:_→_→_)=>(fun(g:_→_→_)=>(fun(h:_→_)=>(fun(i:_→_)=>(fun(j:_→_→_)=>(fun(n:_→_→_)=>cond (decide (x.2<(o.1.Lines.length:Int))) (chk (0≤x.2∧x.2.toNat<x.1.1.Lines.length)<|agree (agree (i x) (i x)) (agree (Option.bind (h x) λa=>agree (j a x) (agree (j a x) (n a x))) (agree (i x) (Option.bind (h x) λe=>agree (j e x) (n e x))))) (some (.inr x.1))) λa x=>Option.bind (g a x) λc=>(Z4 c.2.2 c.1 (u x c.2.1)).bind λk=>some (.inl (k,w64 (x.2+1)))) λa x=>Option.bind (g a x) λf=>(Z4 x.2 f.1 (u x f.2.1)).bind λl=>some (.inl (l,w64 (x.2+1)))) λx=>Option.bind (h x) λd=>Option.bind (g d x) λb=>(Z4 x.2 b.1 (u x b.2.1)).bind λm=>some (.inl (m,w64 (x.2+1)))) λx=>Zx x.1.1.Changes) λd x=>ZU d x.2 x.1.1.Lines) λx b=>(Pool.mk x.1.1.Store x.1.1.Gen x.1.1.Root x.1.1.MetaL b x.1.1.Keys x.1.1.Loaded x.1.1.Changes x.1.1.Logged x.1.1.NextId x.1.1.NextGuid,x.1.2)
def DM (a:Pool):Option (Pool×UInt32×Int):=(λu=>(λd=>(Vm a).bind λe=>Option.bind (α:=Bool) (cond (decide (e=0)) (some (decide (a.Gen=16777215))) (some false))<|λh=>Option.bind (α:=(Pool×UInt32×Int)) (cond h (some (Pool.mk d 0 u [] [] [] [] [] 0 0 0,((0:UInt32),9))) (some (Pool.mk d 0 u [] [] [] [] [] 0 0 0,((0:UInt32),e))))<|λx=>cond (!(decide (x.2.2=0))) (some x) (Option.bind (α:=(Pool×UInt32×Int)) (agree ((Q7 a).bind λf=>agree (some (f,(a.Gen+(1:UInt32),x.2.2))) (some (f,(a.Gen+(1:UInt32),x.2.2)))) ((Q7 a).bind λi=>some (i,(a.Gen+(1:UInt32),x.2.2))))<|λg=>(loop (Uk g) (g,0)).bind λb=>(Q5 b).bind λc=>some c)) (Store.mk (Disk.mk [] []) [] 0 0)) (Ptr.mk 0 0 0 0 0)
def K8 (a:List UInt8):Option (List UInt8×List UInt8):=nilq a (some ([],a)) (app [] a λm=>some (m,a))
def ZB7 (a:Pool):Option (Pool×Int):=ZB8 agree a
def DI (a:List UInt8)(b:List UInt8)(c:UInt32):Option (List UInt8×Int):=DJ agree a b c
def GI (a:Pool)(b:List UInt8)(c:List UInt8):Option (Pool×Int×Int):=GJ agree a b c
def law20_one_o:Option (Pool×Bool):=law20_one_g agree
def U4 (a:Int)(b:Bool)(c:Change)(d:Int)(e:Pool):Option (Int×Bool×Change×Int×Pool):=(fun(u:_→_→_→_→_→_)=>cond (!(decide (a=0))) (some (a,b,c,d,e)) (cond b (chk (0≤d∧d.toNat<e.Changes.length)<|setI e.Changes d c λm=>some (a,b,c,d,Pool.mk e.Store e.Gen e.Root e.MetaL e.Lines e.Keys e.Loaded m e.Logged e.NextId e.NextGuid)) (agree (u e d c a b) (agree (u e d c a b) (u e d c a b))))) λe d c a b=>Option.bind ((insO (α:=Change)) e.Changes d [c]) λx=>some (a,b,c,d,Pool.mk e.Store e.Gen e.Root e.MetaL e.Lines e.Keys e.Loaded x e.Logged e.NextId e.NextGuid)
def W9 (a:Int)(b:Bool)(c:Change)(d:Int)(e:Pool):Option (Int×Bool×Change×Int×Pool):=(fun(u:_→_→_→_→_→_)=>cond (!(decide (a=0))) (some (a,b,c,d,e)) (cond b (chk (0≤d∧d.toNat<e.Changes.length)<|setI e.Changes d c λm=>some (a,b,c,d,Pool.mk e.Store e.Gen e.Root e.MetaL e.Lines e.Keys e.Loaded m e.Logged e.NextId e.NextGuid)) (agree (u e d c a b) (agree (u e d c a b) (u e d c a b))))) λe d c a b=>Option.bind ((insO (α:=Change)) e.Changes d [c]) λx=>some (a,b,c,d,Pool.mk e.Store e.Gen e.Root e.MetaL e.Lines e.Keys e.Loaded x e.Logged e.NextId e.NextGuid)
def D9 (a:Change)(b:Pool):Option (Int×Pool):=(fun(j:_→_→_)=>(fun(k:_→_→_)=>(fun(u:_→_→_)=>(fun(l:_→_→_→_)=>Option.bind (α:=(Disk×UInt32×UInt32×UInt32×Ptr×List Change×Int×Int×UInt32×Int×Bool)) (agree (Option.bind (k b a) λd=>agree (some (j b d)) (some (j b d))) (agree (agree (u b a) (u b a)) (agree (u b a) (u b a))))<|λx=>Option.bind (α:=Bool) (cond x.2.2.2.2.2.2.2.2.2.2 (chk (0≤x.2.2.2.2.2.2.2.2.2.1∧x.2.2.2.2.2.2.2.2.2.1.toNat<x.2.2.2.2.2.1.length)<|idx x.2.2.2.2.2.1 x.2.2.2.2.2.2.2.2.2.1 λe=>some (!(decide (e.Laid.At=0)&&(decide (e.Laid.Birth=0)&&(decide (e.Laid.Iv=0)&&(decide (e.Laid.Tag=0)&&(decide (e.Laid.Sum=0)&&true))))))) (some false))<|λm=>cond m (Option.bind (α:=(Store×UInt32×Ptr×Int×Int×UInt32×Int×Store)) (chk (0≤x.2.2.2.2.2.2.2.2.2.1∧x.2.2.2.2.2.2.2.2.2.1.toNat<x.2.2.2.2.2.1.length)<|idx x.2.2.2.2.2.1 x.2.2.2.2.2.2.2.2.2.1 λy=>agree (l x b y) (l x b y))<|λc=>cond (!(decide (c.2.2.2.2.2.2.1=0))) ((Zh c.2.2.2.2.2.2.1 x.2.2.2.2.2.2.2.2.2.2 a x.2.2.2.2.2.2.2.2.2.1 (Pool.mk c.1 c.2.1 c.2.2.1 b.MetaL b.Lines b.Keys b.Loaded x.2.2.2.2.2.1 c.2.2.2.1 c.2.2.2.2.1 c.2.2.2.2.2.1)).bind λf=>some (f.1,f.2.2.2.2)) ((YK 0 x.2.2.2.2.2.2.2.2.2.2 a x.2.2.2.2.2.2.2.2.2.1 (Pool.mk c.2.2.2.2.2.2.2 c.2.1 c.2.2.1 b.MetaL b.Lines b.Keys b.Loaded x.2.2.2.2.2.1 c.2.2.2.1 c.2.2.2.2.1 c.2.2.2.2.2.1)).bind λg=>some (g.1,g.2.2.2.2))) ((YK 0 x.2.2.2.2.2.2.2.2.2.2 a x.2.2.2.2.2.2.2.2.2.1 (Pool.mk (Store.mk x.1 b.Store.Space x.2.1 x.2.2.1) x.2.2.2.1 x.2.2.2.2.1 b.MetaL b.Lines b.Keys b.Loaded x.2.2.2.2.2.1 x.2.2.2.2.2.2.1 x.2.2.2.2.2.2.2.1 x.2.2.2.2.2.2.2.2.1)).bind λh=>some (h.1,h.2.2.2.2))) λx b y=>(Xy (Store.mk x.1 b.Store.Space x.2.1 x.2.2.1) y.Laid).bind λi=>some (Store.mk x.1 b.Store.Space x.2.1 x.2.2.1,x.2.2.2.1,x.2.2.2.2.1,x.2.2.2.2.2.2.1,x.2.2.2.2.2.2.2.1,x.2.2.2.2.2.2.2.2.1,i.2,i.1)) λb a=>Option.bind (k b a) λn=>some (j b n)) λb a=>ZD b.Changes (a.Set,(a.Obj,a.Index))) λb d=>(b.Store.Disk,b.Store.Epoch,b.Store.Count,b.Gen,b.Root,d.2.2,b.Logged,b.NextId,b.NextGuid,d.1,d.2.1)
def GH (a:Change)(b:Pool):Option (Int×Pool):=(fun(k:_→_→_)=>(fun(l:_→_→_)=>(fun(u:_→_→_)=>(fun(m:_→_→_)=>Option.bind (α:=(Store×UInt32×Ptr×List Change×Int×Int×UInt32×Int×Bool)) (agree (Option.bind (l b a) λd=>agree (some (k b d)) (some (k b d))) (agree (agree (u b a) (u b a)) (agree (u b a) (u b a))))<|λx=>Option.bind (α:=Bool) (cond x.2.2.2.2.2.2.2.2 (chk (0≤x.2.2.2.2.2.2.2.1∧x.2.2.2.2.2.2.2.1.toNat<x.2.2.2.1.length)<|idx x.2.2.2.1 x.2.2.2.2.2.2.2.1 λy=>some (!(decide (y.Laid.At=0)&&(decide (y.Laid.Birth=0)&&(decide (y.Laid.Iv=0)&&(decide (y.Laid.Tag=0)&&(decide (y.Laid.Sum=0)&&true))))))) (some false))<|λn=>cond n (Option.bind (α:=(Int×Store)) (chk (0≤x.2.2.2.2.2.2.2.1∧x.2.2.2.2.2.2.2.1.toNat<x.2.2.2.1.length)<|idx x.2.2.2.1 x.2.2.2.2.2.2.2.1 λe=>agree ((Xy x.1 e.Laid).bind λf=>some (f.2,f.1)) ((Xy x.1 e.Laid).bind λg=>some (g.2,g.1)))<|λc=>cond (!(decide (c.1=0))) ((Zh c.1 x.2.2.2.2.2.2.2.2 a x.2.2.2.2.2.2.2.1 (m x b)).bind λh=>some (h.1,h.2.2.2.2)) ((YK 0 x.2.2.2.2.2.2.2.2 a x.2.2.2.2.2.2.2.1 (Pool.mk c.2 x.2.1 x.2.2.1 b.MetaL b.Lines b.Keys b.Loaded x.2.2.2.1 x.2.2.2.2.1 x.2.2.2.2.2.1 x.2.2.2.2.2.2.1)).bind λi=>some (i.1,i.2.2.2.2))) ((Zh 0 x.2.2.2.2.2.2.2.2 a x.2.2.2.2.2.2.2.1 (m x b)).bind λj=>some (j.1,j.2.2.2.2))) λx b=>Pool.mk x.1 x.2.1 x.2.2.1 b.MetaL b.Lines b.Keys b.Loaded x.2.2.2.1 x.2.2.2.2.1 x.2.2.2.2.2.1 x.2.2.2.2.2.2.1) λb a=>Option.bind (l b a) λo=>some (k b o)) λb a=>ZD b.Changes (a.Set,(a.Obj,a.Index))) λb d=>(b.Store,b.Gen,b.Root,d.2.2,b.Logged,b.NextId,b.NextGuid,d.1,d.2.1)
def KX (b:Object)(c:Line)(d:Int)(x:Pool×Int):Option ((Pool×Int) ⊕ ((Pool×Int) ⊕ Pool)):=(fun(u:_→_→_→_)=>cond (decide (x.2<(b.Data.length:Int))) (chk (0≤x.2∧x.2.toNat<b.Data.length)<|idx b.Data x.2 λy=>Option.bind (α:=(Pool×Bool)) (agree (u x c d) (u x c d))<|λf=>Option.bind (α:=Bool) (cond (!f.2) (some (decide (y.At=0)&&(decide (y.Birth=0)&&(decide (y.Iv=0)&&(decide (y.Tag=0)&&(decide (y.Sum=0)&&true)))))) (some false))<|λg=>cond g (some (.inl (f.1,w64 (x.2+1)))) ((Yc (Change.mk c.Id d x.2 0 0 0 [] (Ptr.mk 0 0 0 0 0)) f.1).bind λe=>cond (!(decide (e.1=0))) (some (.inr (.inl (e.2,e.1)))) (some (.inl (e.2,w64 (x.2+1)))))) (some (.inr (.inr x.1)))) λx c d=>(Qm x.1 (c.Id,(d,x.2))).bind λa=>some (Pool.mk x.1.Store x.1.Gen x.1.Root a.2.2.1 a.2.2.2.1 a.2.2.2.2.1 a.2.2.2.2.2.1 a.2.2.2.2.2.2 x.1.Logged x.1.NextId x.1.NextGuid,a.2.1)
def W8 (a:Pool)(b:Object)(c:Line)(d:Int):Option (Int×Pool×Object×Line×Int):=Option.bind (loop (KX b c d) (a,0))<|Sum.elim (λf=>some (f.2,f.1,b,c,d)) (λe=>(Yc (Change.mk c.Id d 15 0 0 0 [] (Ptr.mk 0 0 0 0 0)) e).bind λx=>some (x.1,x.2,b,c,d))
end
open Go.Sort Go.Proofs
set_option maxRecDepth 20000
theorem ZN{β:Type}(a:Option β):agree a a=a:=by unfold agree;exact TH rfl
theorem Uw{α β:Type}(a:List α)(k:List α→Option β):nilq a (k []) (app [] a k)=app [] a k:=by
 cases a with
 |nil=>unfold nilq;rw[show app ([]:List α) [] k=k []from rfl];exact ZN _
 |cons _ _=>rfl
theorem ZJM{α β:Type}(a:List α)(k:List α→List α→Option β):nilq a (k [] a) (app [] a λm=>k m a)=app [] a λm=>k m a:=by
 cases a with
 |nil=>unfold nilq;rw[show(app ([]:List α) [] λm=>k m [])=k [] []from rfl];exact ZN _
 |cons _ _=>rfl
theorem ZLw{σ τ:Type}{body:σ→Option (σ ⊕ τ)}(I:σ→Prop)(J:τ→Prop)(hb:∀s o,I s→body s=some o→Sum.elim I J o){s:σ}{t:τ}(h:loop body s=some t)(hs:I s):J t:=by
  have key:∀(n:Nat) (s:σ),I s→run body n s=some t→J t:=λn=>by
    induction n with
    |zero=>intro s _ h;cases h
    | succ n i=>
      intro s hs h;obtain⟨o,h1,h2⟩:=Dc h;have h3:=hb s o hs h1;cases o with
      |inl s'=>exact i s' h3 h2
      |inr a=>obtain rfl:a=t:=h2;exact h3
  exact key _ _ hs h
theorem ZKo (x y:Ptr):ltOf cmpP x y=decide (x.At<y.At):=by
 unfold ltOf cmpP;by_cases h1:x.At<y.At
 · simp[h1]
 · by_cases h2:y.At<x.At<;>simp[h1,h2]
theorem ZRt:SWO (ltOf cmpP) where
 irrefl x:=by rw[ZKo];simp
 trans x y z h1 h2:=by rw[ZKo]at*;simp at*;omega
 ntrans x y z h1 h2:=by rw[ZKo]at*;simp at*;omega
theorem ZCo (a b:Int):Zf a b=some (if a<b then -1 else if b<a then 1 else 0):=by
 unfold Zf KC;by_cases h1:a<b
 · simp[h1]
 · by_cases h2:b<a<;>simp[h1,h2]
theorem ZIw (x y:Ptr):V0 x y=some (cmpP x y):=by
 unfold V0;rw[ZCo];rfl
theorem ZNd:ZEE=ZGH:=by
 unfold ZEE ZGH;have h:∀(k:List (List UInt8)→Option Pool),mks 8 ([]:List UInt8) k=k (List.replicate 8 []):=λk=>rfl;simp only[h,ZN]
theorem ZG8 (a:List UInt8):ZBz a=Zr a:=Uw a _
theorem ZBB (a:List Int):Um a=Qq a:=Uw a _
theorem GC (a:List Line):Kb a=Y6 a:=Uw a _
theorem Uv (a:List Change):Qy a=Zx a:=Uw a _
theorem Gh (a:List Ptr):K9 a=YE a:=Uw a _
theorem ZFp (a:List (List UInt8)):DW a=VA a:=Uw a _
theorem ZLo (a:Disk)(b:Int):ZCi a b=Gv a b:=by
 unfold ZCi Gv;simp only[ZN]
theorem Dh (a:List UInt8):UF a=Zu a:=Uw a _
theorem ZLn (a:List UInt8):ZCG a=Gi a:=by
 unfold ZCG Gi;simp only[ZN]
theorem Uu (a:List Ptr):Qx a=Ye a:=ZJM a λm a=>some (m,a)
theorem ZKI (a:Disk)(b:Int)(c:List UInt8):D4 a b c=Gu a b c:=by
 unfold D4 Gu;simp only[ZN]
theorem ZKG (a:Store)(b:Ptr)(c:List UInt8):DP a b c=GX a b c:=by
 unfold DP GX DQ;simp only[ZN]
theorem DB: @XG agree=XG λa _=>a:=by
 funext _ _;unfold XG;simp only[ZN]
theorem DA: @XF agree=XF λa _=>a:=by
 funext _ _;unfold XF;simp only[ZN]
theorem ZCE (a:Int)(b:Ptr)(c:Ptr)(d:List Change)(e:Pool×UInt32×Int):Kw a b c d e=KH a b c d e:=by
 unfold Kw KH Ky;simp only[ZN,DB,DA]
theorem BF: @Y5 agree=Y5 λa _=>a:=by
 funext _;unfold Y5;simp only[ZN]
theorem UH (a:Int)(b:List Change)(c:Pool×UInt32×Int):KR a b c=Vl a b c:=by
 unfold KR Vl Xx;simp only[ZN,BF]
theorem BE (a:Int)(b:List Change)(c:Pool×UInt32×Int):Ve a b c=Z4 a b c:=UH a b c
theorem ZG5: @WG agree=WG λa _=>a:=by
 funext _ _;unfold WG;simp only[ZN]
theorem ZLp (a:Store)(b:UInt32)(c:List Ptr):ZCk a b c=D7 a b c:=by
 unfold ZCk D7 ZCl;simp only[ZN,ZG5]
theorem ZCF (q:Ptr→Option (List UInt8×Int))(c:Option (List Int))(d:(List Int)→(List Int)→Option (List UInt8))(e:(List (List UInt8))→Option (List UInt8))(f:(List UInt8)→Int→Option (List UInt8))(a:Line)(b:Ptr):QQ q c d e f a b=W5 q c d e f a b:=by
 unfold QQ W5;simp only[ZN]
theorem ZEQ (a:Line)(b:Ptr):W6 a b=V8 a b:=by
 unfold W6 V8;simp only[ZN,ZCF]
theorem Ut (a:List UInt8)(b:List Int)(c:List UInt8)(d:Pool×UInt32×Int):Kz a b c d=KI a b c d:=by
 unfold Kz KI QP;simp only[ZN]
theorem DC (a:List UInt8)(b:List Int)(c:List UInt8)(d:Pool×UInt32×Int):WP a b c d=Xw a b c d:=Ut a b c d
theorem ZBA: @Xv agree=Xv λa _=>a:=by
 funext _ _;unfold Xv;simp only[ZN]
theorem ZA9: @Xu agree=Xu λa _=>a:=by
 funext _ _;unfold Xu;simp only[ZN]
theorem ZA8: @Xs agree=Xs λa _=>a:=by
 funext _ _;unfold Xs;simp only[ZN]
theorem ZEP (a:Pool×UInt32×Int):W3 a=Q5 a:=by
 unfold W3 Q5 W4;simp only[ZN,ZBA,ZA9,ZA8]
theorem ZFo: @Uk= @G9:=by
  have hb:∀(y:Change) (b:Int) (c:List Line) r,WS y b c=some r→r.2=(c,b):=λy b c r h=>by
    unfold WS at h;obtain⟨q,_,h⟩:=Yb h;cases h;rfl
  have hi:∀(a:List Change) (b:Int) (c:List Line) r,Z1 a b c=some r→r.2.2=(c,b):=λa b c r h=>by
    unfold Z1 at h;obtain⟨t,ht,h⟩:=Ze h;have:=ZLw (λx=>x.1=b∧x.2.2=c) (λt=>Sum.elim (λx=>x.1=b∧x.2.2=c) (λx=>x.1=b∧x.2=c) t) (λs o hs d=>by
      unfold Y7 at d;cases f:decide (s.2.1<(a.length:Int))with
      |false=>rw[f]at d;cases d;exact hs
      | true=>
        rw[f,TQ]at d;obtain⟨_,d⟩:=ZH d;obtain⟨y,_,d⟩:=Yb d;obtain⟨j,h3,d⟩:=Ze d;have e3:=hb _ _ _ _ h3;obtain⟨z,u,v⟩:=j;dsimp only at e3;cases e3;cases z<;>cases d<;>exact hs) ht ⟨rfl,rfl⟩
    cases t with
    |inl x=>obtain⟨e1,e2⟩:=this;cases h;rw[←e1,←e2]
    |inr x=>obtain⟨e1,e2⟩:=this;cases h;rw[←e1,←e2]
  have f :∀(a:List Change) (b:Int) (c:List Line) r,ZU a b c=some r→r.2=(c,b):=λa b c r h=>by
    unfold ZU at h;obtain⟨g,h1,h⟩:=Ze h;have e1:=hi _ _ _ _ h1;cases p:decide (g.1= -1)with
    |true=>rw[p]at h;cases h;rw[←e1]
    | false=>
      rw[p,TI]at h;obtain⟨t,ht,h⟩:=Ze h;have:=ZLw (λx=>x.1=b∧x.2.2.2.2=c) (λt=>t.1=b∧t.2.2.2=c) (λs o hs d=>by
        unfold XX at d;cases f:decide (s.2.2.2.1<(s.2.1.length:Int))with
        |false=>rw[f]at d;cases d;exact hs
        | true=>
          rw[f,TQ]at d;obtain⟨_,d⟩:=ZH d;obtain⟨y,_,d⟩:=Yb d;obtain⟨j,h3,d⟩:=Ze d;have e3:=hb _ _ _ _ h3;obtain⟨z,u,v⟩:=j;dsimp only at e3;cases e3;obtain⟨w,_,d⟩:=Ze d;cases d;exact hs) ht ⟨by rw[show g.2.2.2=(g.2.2).2 from rfl,e1],by rw[show g.2.2.1=(g.2.2).1 from rfl,e1]⟩
      obtain⟨_,h⟩:=ZH h;obtain⟨m,_,_,h⟩:=Ga h;cases h;rw[←this.1,←this.2]
  funext A e;unfold Uk G9;have key:∀(l:List Change) (b:Int) (c:List Line) (k:List Change→List Line→Int→Option (((Pool×UInt32×Int)×Int) ⊕ (Pool×UInt32×Int))),(Option.bind (ZU l b c) λx=>k x.1 x.2.1 x.2.2)=Option.bind (ZU l b c) λx=>k x.1 x.2.1 b:=λl b c k=>by
    cases h:ZU l b c with
    |none=>rfl
    |some r=>have:=f _ _ _ _ h;obtain⟨B,C⟩:=r;dsimp only at this;subst this;rfl
  have i:=λl=>key l e.2 e.1.1.Lines λm ls b=>Option.bind (Z4 b m (Pool.mk e.1.1.Store e.1.1.Gen e.1.1.Root e.1.1.MetaL ls e.1.1.Keys e.1.1.Loaded e.1.1.Changes e.1.1.Logged e.1.1.NextId e.1.1.NextGuid,e.1.2)) λn=>some (.inl (n,w64 (e.2+1)));simp only[i,ZN]
theorem ZKF (a:Pool):DM a=ZAd a:=by
 unfold DM ZAd;simp only[ZN,ZFo]
theorem Gg (a:List UInt8):K8 a=Qc a:=ZJM a λm a=>some (m,a)
theorem ZLm (a:Pool):ZB7 a=DN a:=by
 unfold ZB7 DN ZB8;simp only[ZN]
theorem ZKE (a:List UInt8)(b:List UInt8)(c:UInt32):DI a b c=ZAa a b c:=by
 unfold DI ZAa DJ;simp only[ZN]
theorem ZG7 (a:Pool)(b:List UInt8)(c:List UInt8):GI a b c=Wp a b c:=by
 unfold GI Wp GJ;simp only[ZN]
theorem ZKH:law20_one_o=law20_one:=by
 unfold law20_one_o law20_one law20_one_g;simp only[ZN]
theorem ZFq (a:Int)(b:Bool)(c:Change)(d:Int)(e:Pool):U4 a b c d e=Zh a b c d e:=by
 unfold U4 Zh;simp only[ZN]
theorem ZES (a:Int)(b:Bool)(c:Change)(d:Int)(e:Pool):W9 a b c d e=YK a b c d e:=by
 unfold W9 YK;simp only[ZN]
theorem ZKJ (a:Change)(b:Pool):D9 a b=V1 a b:=by
 unfold D9 V1;simp only[ZN]
theorem ZG6 (a:Change)(b:Pool):GH a b=Yc a b:=by
 unfold GH Yc;simp only[ZN]
theorem ZBC: @KX= @Xi:=by
 funext _ _ _ _;unfold KX Xi;simp only[ZN]
theorem ZER (a:Pool)(b:Object)(c:Line)(d:Int):W8 a b c d=QL a b c d:=by
 unfold W8 QL;simp only[ZN,ZBC]
end Go.Ow
namespace Go.Ow
variable{α σ ρ τ:Type}
def ZKf (st:ρ→σ):ρ ⊕ τ→Option (σ ⊕ τ)
 | .inl r=>some (.inl (st r))
 | .inr t=>some (.inr t)
def ends (f:ρ→τ):ρ ⊕ τ→Option τ
 | .inl r=>some (f r)
 | .inr t=>some t
theorem ZEa (l:List α)(st:Nat→ρ→σ){body:σ→Option (σ ⊕ τ)}(f:α→ρ→Option (ρ ⊕ τ))(a:ρ→τ)(I:Nat→ρ→Prop)
    (step:∀i (h:i<l.length) r,I i r→body (st i r)=Option.bind (f l[i] r) (ZKf (st (i+1))))(e:∀i (h:i<l.length) r c,I i r→f l[i] r=some (.inl c)→I (i+1) c)
    (s:∀r,I l.length r→body (st l.length r)=some (.inr (a r)))(g:l.length<FUEL){d:ρ}(h0:I 0 d):
    loop body (st 0 d)=Option.bind (forL f l d) (ends a):=by
  have key:∀(k i:Nat) (r:ρ) (n:Nat),i+k=l.length→k<n→I i r→run body n (st i r)=Option.bind (forL f (l.drop i) r) (ends a):=by
    intro k;induction k with
    | zero=>
      intro i r n hi hn hI;obtain rfl:i=l.length:=(by omega);obtain⟨n,rfl⟩:∃m,n=m+1:=⟨n-1,by omega⟩;show Option.bind (body (st l.length r)) _=_;rw[s r hI,List.drop_length];rfl
    | succ k j=>
      intro i r n hi hn hI;have b:i<l.length:=(by omega);obtain⟨n,rfl⟩:∃m,n=m+1:=⟨n-1,by omega⟩;show Option.bind (body (st i r)) _=_;rw[step i b r hI,So b];show _=Option.bind (Option.bind (f l[i] r) _) _;cases p:f l[i] r with
      |none=>rfl
      | some o=>
        cases o with
        |inl c=>exact j (i+1) c n (by omega) (by omega) (e i b r c hI p)
        |inr t=>rfl
  have:=key l.length 0 d FUEL (by omega) g h0;simpa[loop]using this
theorem BG (l:List α)(st:Nat→ρ→σ){body:σ→Option (σ ⊕ τ)}(f:α→ρ→Option (ρ ⊕ τ))(a:ρ→τ)
 (step:∀i (h:i<l.length) r,body (st i r)=Option.bind (f l[i] r) (ZKf (st (i+1))))(s:∀r,body (st l.length r)=some (.inr (a r)))(c:l.length<FUEL)(b:ρ):
 loop body (st 0 b)=Option.bind (forL f l b) (ends a):=
 ZEa l st f a (λ_ _=>True) (λi h r _=>step i h r) (λ_ _ _ _ _ _=>trivial) (λr _=>s r) c trivial
theorem U2 (g:ρ→α→ρ):∀(l:List α) (r:ρ),forL (λy r=>some (.inl (g r y):ρ ⊕ τ)) l r=some (.inl (l.foldl g r))
 |[],r=>rfl
 |y::l,r=>by rw[Ug (s':=g r y) rfl,U2 g l];rfl
theorem cI{n m:Nat}{β:Type}{a b:β}:(bif decide ((n:Int)<(m:Int))then a else b)=if n<m then a else b:=by
 by_cases h:n<m
 · rw[TH h,TD (by omega)];rfl
 · rw[TF h,TB (by omega)];rfl
def okW (w:Write):Bool:=decide (0≤w.At∧w.At<256)&&decide (w.Data.length=256)
def OKD (d:Disk):Prop:=d.Blocks.length=256∧d.Waits.length≤4096∧(∀b∈d.Blocks,b.length=256)∧∀w∈d.Waits,okW w=true
instance (d:Disk):Decidable (OKD d):=by unfold OKD;infer_instance
structure Sized (d:Disk):Prop where
  blocks:d.Blocks.length≤9223372036854775807
  waits:d.Waits.length≤9223372036854775807
  at':∀w∈d.Waits,InI64 w.At
theorem ZDr{n:Int}(h:InI64 n):XD n=some (decide (0≤n∧n<256)):=by
 unfold XD u64i;congr 1;apply decide_eq_decide.2;rw[UInt64.lt_iff_toNat_lt,RP];obtain⟨h1,h2⟩:=h;show _%18446744073709551616<(256:UInt64).toNat↔_;rw[show(256:UInt64).toNat=256 from rfl];omega
theorem Qb{n:Nat}(h:n≤9223372036854775807):n<FUEL:=RJ h (by decide)
theorem ZRw (d:Disk)(ok:Bool)(h:d.Blocks.length≤9223372036854775807):loop (UT d) (ok,0)=some (ok&&d.Blocks.all λb=>decide (b.length=256)):=by
 rw[BG d.Blocks (λi (r:Bool)=>(r,i)) (λb r=>some (.inl (r&&decide (b.length=256)))) (λr=>r) (λi hi r=> ?_) (λr=> ?_) (Qb h) ok,U2]
 · show some _=some _;congr 1;generalize d.Blocks=l;induction l generalizing ok with
   |nil=>simp
   |cons b l a=>simp only[Sw,a,RU,Bool.and_assoc]
 · unfold UT;rw[cI,TH hi,ZM _ hi];cases r
   · rfl
   · simp only[TQ,TA,ZKf,Ru];rw[show decide ((d.Blocks[i].length:Int)=256)=decide (d.Blocks[i].length=256)from decide_eq_decide.2 (by omega)]
 · unfold UT;rw[cI,TF (by omega)]
theorem ZRv (d:Disk)(ok:Bool)(h:Sized d):loop (US d) (ok,0)=some (ok&&d.Waits.all okW):=by
 rw[BG d.Waits (λi (r:Bool)=>(r,i)) (λw r=>some (.inl (r&&(okW w)))) (λr=>r) (λi hi r=> ?_) (λr=> ?_) (Qb h.waits) ok,U2]
 · show some _=some _;congr 1;generalize d.Waits=l;induction l generalizing ok with
   |nil=>simp
   |cons b l a=>simp only[Sw,a,RU,Bool.and_assoc]
 · unfold US;rw[cI,TH hi,ZM _ hi];cases r
   · rfl
   · simp only[TQ,TA,ZKf,Ru];rw[ZDr (h.at' _ (SU hi))];unfold okW;by_cases c:0≤d.Waits[i].At∧d.Waits[i].At<256
     · rw[TD c];simp only[TA,TQ,Ru];rw[show decide ((d.Waits[i].Data.length:Int)=256)=decide (d.Waits[i].Data.length=256)from decide_eq_decide.2 (by omega)]
     · rw[TB c];rfl
 · unfold US;rw[cI,TF (by omega)]
theorem D6{d:Disk}(h:Sized d):Wm d=some (if OKD d then 0 else 8):=by
 unfold Wm;rw [show(bif decide ((d.Blocks.length:Int)=256)then some (decide ((d.Waits.length:Int)≤4096))else some false)=some (decide (d.Blocks.length=256)&&decide (d.Waits.length≤4096))from by
  by_cases c:d.Blocks.length=256
  · rw[TD (show(d.Blocks.length:Int)=256 by omega),TD c];simp only[TQ,Ru];congr 1;simp only[decide_eq_decide];omega
  · rw[TB (show¬(d.Blocks.length:Int)=256 by omega),TB c];rfl]
 simp only[TA];rw[ZRw d _ h.blocks];simp only[TA];rw[ZRv d _ h];simp only[TA];by_cases c:OKD d
 · rw[TH c];obtain⟨a,f,g,i⟩:=c;rw[show(decide (d.Blocks.length=256)&&decide (d.Waits.length≤4096)&&(d.Blocks.all λb=>decide (b.length=256))&&d.Waits.all okW)=true from by
    simp only[TE,T7,Tp];exact⟨⟨⟨a,f⟩,g⟩,i⟩]
   rfl
 · rw[TF c];rw[show(decide (d.Blocks.length=256)&&decide (d.Waits.length≤4096)&&(d.Blocks.all λb=>decide (b.length=256))&&d.Waits.all okW)=false from by
    rw[Bool.eq_false_iff];intro e;simp only[TE,T7,Tp]at e;exact c ⟨e.1.1.1,e.1.1.2,e.1.2,e.2⟩]
   rfl
structure Mid (d:Disk):Prop where
  blocks:d.Blocks.length≤1000
  waits:d.Waits.length≤5000
  eb:∀b∈d.Blocks,b.length≤1000
  ew:∀w∈d.Waits,w.Data.length≤1000
theorem OKD.mid{d:Disk}(h:OKD d):Mid d:=⟨by rw[h.1];omega,by have:=h.2.1;omega,λb hb=>by rw[h.2.2.1 b hb];omega,λw a=>by
 have:=h.2.2.2 w a;simp only[okW,TE,T7]at this;omega⟩
theorem OKD.sized{d:Disk}(h:OKD d):Sized d:=⟨by rw[h.1];omega,by have:=h.2.1;omega,λw a=>by
 have:=h.2.2.2 w a;simp only[okW,TE,T7]at this;exact⟨by omega,by omega⟩⟩
theorem ZNO{l:List Nat}{k:Nat}(h:∀x∈l,x≤k):l.sum≤l.length*k:=by
  induction l with
  |nil=>simp
  | cons x l i=>
    have:=h x (by simp);have:=i (λy a=>h y (by simp[a]));simp only[List.sum_cons,Tg,TZ,Nat.one_mul];omega
theorem ZSd (d:Disk)(h:d.Blocks.length≤1000):loop (Qi d) (([]:List Int),0)=some (d.Blocks.map λb=>(b.length:Int)):=by
 rw[ZEa d.Blocks (λi (r:List Int)=>(r,i)) (λb r=>some (.inl (r++ [(b.length:Int)]))) (λr=>r) (λi r=>r.length=i) (λi hi r c=> ?_) (λi hi r g c e=> ?_) (λr _=> ?_) (Qb (by omega)) rfl,U2]
 · show some _=some _;congr 1
   suffices H:∀(l:List (List UInt8)) (a:List Int),l.foldl (λr b=>r++ [(b.length:Int)]) a=a++l.map λb=>(b.length:Int) by simpa using H d.Blocks []
   intro l;induction l with
   |nil=>simp
   |cons b l f=>intro a;simp[f]
 · unfold Qi;rw[cI,TH hi,ZM _ hi,UD (by simp only[Tg,SY,LIM];omega)];rfl
 · simp only[SV,Sum.inl.injEq]at e;subst e;simp[c]
 · unfold Qi;rw[cI,TF (by omega)]
theorem ZOA (bs:List (List UInt8))(h:bs.length≤1000)(hb:∀b∈bs,b.length≤1000):Vu (bs.map λb=>(b.length:Int))=some (bs.map λb=>List.replicate b.length 0):=by
 unfold Vu;have e1:(bs.map λb=>(b.length:Int)).map Int.toNat=bs.map List.length:=by rw[RZ];rfl
 have e2:=ZNO (l:=bs.map List.length) (k:=1000) (λx a=>by obtain⟨b,h1,rfl⟩:=SH.1 a;exact hb b h1);rw[RN]at e2;rw[TH ⟨λn hn=>by obtain⟨b,_,rfl⟩:=SH.1 hn;omega,by rw[e1];simp only[LIM];omega,by simp only[RN,LIM];omega⟩,RZ];rfl
theorem ZSc (d:Disk)(h:d.Blocks.length≤1000):loop (Qh d) (d.Blocks.map (λb=>List.replicate b.length (0:UInt8)),0)=some d.Blocks:=by
 obtain⟨t,h1,h2⟩:=Uc (body:=Qh d) (λs=>s.2≤d.Blocks.length∧s.1=d.Blocks.take s.2++(d.Blocks.drop s.2).map (λb=>List.replicate b.length (0:UInt8))) (λs=>d.Blocks.length-s.2) (λt=>t=d.Blocks) (by
  rintro⟨r,i⟩ ⟨hi,e⟩;simp only at hi e;subst e;unfold Qh;dsimp only;rw[cI];rcases T2 i d.Blocks.length with a|c
  · left;have g:(d.Blocks.take i++(d.Blocks.drop i).map (λb=>List.replicate b.length (0:UInt8))).length=d.Blocks.length:=(by simp;omega);have f:(d.Blocks.take i++(d.Blocks.drop i).map (λb=>List.replicate b.length (0:UInt8)))[i]'(by omega)=List.replicate d.Blocks[i].length 0:=by
     rw[List.getElem_append_right (by simp;omega)];simp[Tt (Nat.le_of_lt a)]
    rw[TH a,ZM _ a,ZM _ (by omega),ZRu (by rw[f];simp),ZGJ (by omega) (by simpa using(by omega:i<(d.Blocks.take i++(d.Blocks.drop i).map (λb=>List.replicate b.length (0:UInt8))).length))];refine⟨_,rfl,⟨a,?_⟩,by simp only;omega⟩;simp only[Tl];rw[List.set_append_right _ _ (by simp only[TO];omega),So a];simp only[Tn,TO,Tt (Nat.le_of_lt a),Nat.sub_self,List.set_cons_zero];rw[List.take_add_one,TJ a];simp only[Option.toList_some,TN,List.singleton_append]
  · right;rw[TF (by omega)];refine⟨_,rfl,?_⟩;rw[Td c,List.drop_of_length_le c];simp) (s:=(d.Blocks.map (λb=>List.replicate b.length (0:UInt8)),0)) ⟨Ti _,by simp⟩ (Qb (by simp only;omega))
 rw[h1,h2]
theorem ZIE{l:List UInt8}(h:l.length≤1000):Zr l=some l:=by
 unfold Zr;rw[UD (by simp only[SY,LIM];omega)];rfl
theorem ZSb (d:Disk)(h:d.Waits.length≤5000)(f:∀w∈d.Waits,w.Data.length≤1000):loop (Qg d) (([]:List Write),0)=some d.Waits:=by
 rw[ZEa d.Waits (λi (r:List Write)=>(r,i)) (λb r=>some (.inl (r++ [b]))) (λr=>r) (λi r=>r.length=i) (λi hi r c=> ?_) (λi hi r j c e=> ?_) (λr _=> ?_) (Qb (by omega)) rfl,U2]
 · show some _=some _;congr 1
   suffices H:∀(l:List Write) (a:List Write),l.foldl (λr b=>r++ [b]) a=a++l by simpa using H d.Waits []
   intro l;induction l with
   |nil=>simp
   |cons b l g=>intro a;simp[g]
 · unfold Qg;rw[cI,TH hi,ZM _ hi,show og_bytes_Clone d.Waits[i].Data=Zr d.Waits[i].Data from rfl,ZIE (f _ (SU hi))];simp only[TA];rw[UD (by simp only[Tg,SY,LIM];omega)];rfl
 · simp only[SV,Sum.inl.injEq]at e;subst e;simp[c]
 · unfold Qg;rw[cI,TF (by omega)]
theorem D5{d:Disk}(h:Mid d):Xm d=some d:=by
 unfold Xm;rw[ZSd d h.blocks];simp only[TA];rw[ZOA _ h.blocks h.eb];simp only[TA];rw[ZSc d h.blocks];simp only[TA];rw[ZSb d h.waits h.ew];rfl
theorem Ud{α:Type}:∀{l:List α} {n:Nat},lenLe l n=true↔l.length≤n
  |[],n=>⟨λ_=>Ti _,λ_=>rfl⟩
  |_::l,0=>⟨λh=>(by cases h),λh=>(by simp at h)⟩
  | _::l,n+1=>by
    show lenLe l n=true↔_;rw[Ud (l:=l),Tg];omega
theorem Ue{α:Type}:∀{l:List α} {n:Nat},lenEq l n=true↔l.length=n
  | [],n=>by
    show Nat.beq n 0=true↔_;exact⟨λh=>(TC h).symm,λh=>by subst h;rfl⟩
  |_::l,0=>⟨λh=>(by cases h),λh=>(by simp at h)⟩
  | _::l,n+1=>by
    show lenEq l n=true↔_;rw[Ue (l:=l),Tg];omega
theorem ZAU{α:Type}{p:α→Bool}:∀{l:List α},allQ p l=true↔∀x∈l,p x=true
  |[]=>⟨λ_ x h=>(by cases h),λ_=>rfl⟩
  | a ::l=>by
    show Bool.rec false (allQ p l) (p a)=true↔_;cases h:p a
    · exact⟨λh=>(by cases h),λh2=>by rw[h2 a (by simp)]at h;cases h⟩
    · show allQ p l=true↔_;rw[ZAU (l:=l)];simp[h]
theorem ZRB{d:Disk}(h:midQ d=true):Mid d:=by
 unfold midQ at h;rw[TE,TE,TE,Ud,Ud,ZAU,ZAU]at h;exact⟨h.1.1,h.2.1,λb hb=>Ud.1 (h.1.2 b hb),λw a=>Ud.1 (h.2.2 w a)⟩
theorem ZLh{d:Disk}:okdQ d=true↔OKD d:=by
 unfold okdQ OKD okW;rw[TE,TE,TE,Ud,Ue,ZAU,ZAU];constructor
 · rintro⟨⟨h1,h2⟩,h3,h⟩;refine⟨h1,h3,λb hb=>Ue.1 (h2 b hb),λw a=> ?_⟩;have:=h w a;rw[TE,Ue]at this;rw[TE];exact⟨this.1,TD this.2⟩
 · rintro⟨h1,h3,h2,h⟩;refine⟨⟨h1,λb hb=>Ue.2 (h2 b hb)⟩,h3,λw a=> ?_⟩;have:=h w a;rw[TE]at this;rw[TE,Ue];exact⟨this.1,Ta this.2⟩
theorem ZLH (d:Disk):Xm d=twinF d:=by
 unfold twinF;cases h:midQ d with
 |false=>rfl
 |true=>exact D5 (ZRB h)
theorem ZIz{d:Disk}(h:Mid d):twinF d=some d:=(ZLH d).symm.trans (D5 h)
theorem OKD.sized'{d:Disk}(h:OKD d):Sized d:=by
 obtain⟨h1,h2,h3,a⟩:=h;refine⟨by omega,by omega,λw b=> ?_⟩;have:=a w b;unfold okW at this;rw[TE,T7]at this;unfold InI64;omega
theorem ZDl (d:Disk):Wm d=Kg d:=by
  unfold Kg;cases h:okdQ d with
  |false=>rfl
  | true=>
    have h:=ZLh.1 h;rw[D6 h.sized',TH h];rfl
theorem ZDs{d:Disk}(h:Sized d):Kg d=some (if OKD d then 0 else 8):=(ZDl d).symm.trans (D6 h)
def noD:Disk:=⟨[],[]⟩
theorem ZRT{n:Int}(h:0≤n∧n<256):InI64 n:=⟨by omega,by omega⟩
def layW (B:List (List UInt8))(ws:List Write):List (List UInt8):=ws.foldl (λB w=>B.set w.At.toNat w.Data) B
def KeysOk (M:List (Int×Write)):Prop:=(M.map (·.1)).Nodup∧∀p∈M,0≤p.1
theorem ZHO{M:List (Int×Write)}{k:Int}{y:Write}{p:Int×Write}(h:p∈putM M k y):p∈M∨p=(k,y):=by
  induction M with
  |nil=>simp[putM]at h;exact .inr h
  | cons q r i=>
    simp only[putM]at h;split at h
    · rcases TW.1 h with a|a
      · exact .inr a
      · exact .inl (by simp[a])
    · rcases TW.1 h with a|a
      · exact .inl (by simp[a])
      · exact(i a).imp (λz=>by simp[z]) id
theorem ZPp{M:List (Int×Write)}{k:Int}{y:Write}(h:(M.map (·.1)).Nodup):((putM M k y).map (·.1)).Nodup:=by
  induction M with
  |nil=>simp[putM]
  | cons q r i=>
    simp only[Tn,SZ]at h;simp only[putM];split
    · rename_i e;simp only[Tn,SZ];rw[←e];exact h
    · rename_i e;simp only[Tn,SZ];refine⟨λc=> ?_,i h.2⟩;obtain⟨p,d,a⟩:=SH.1 c;rcases ZHO d with b|b
      · exact h.1 (SH.2 ⟨p,b,a⟩)
      · subst b;exact e a.symm
theorem KeysOk.put{M:List (Int×Write)}{k:Int}{y:Write}(h:KeysOk M)(a:0≤k):KeysOk (putM M k y):=
 ⟨ZPp h.1,λp b=>(ZHO b).elim (h.2 p) (λe=>by subst e;exact a)⟩
theorem ZRK{M:List (Int×Write)}{L:List (List UInt8)}{j:Nat}{v:List UInt8}(h:∀p∈M,p.1.toNat≠j):
    layM (λy:Write=>y.Data) (L.set j v) M=(layM (λy:Write=>y.Data) L M).set j v:=by
  unfold layM;induction M generalizing L with
  |nil=>rfl
  | cons p r i=>
    simp only[Sw];rw[List.set_comm _ _ (λe=>h p (by simp) e.symm),i (λq a=>h q (by simp[a]))]
theorem ZRL{M:List (Int×Write)}{L:List (List UInt8)}{k:Int}{y:Write}(h:KeysOk M)(c:0≤k):
    layM (λy:Write=>y.Data) L (putM M k y)=(layM (λy:Write=>y.Data) L M).set k.toNat y.Data:=by
  induction M generalizing L with
  |nil=>rfl
  | cons p r i=>
    obtain⟨h1,h2⟩:=h;simp only[Tn,SZ]at h1;simp only[putM];split
    · rename_i e;have b:∀q∈r,q.1.toNat≠k.toNat:=λq a d=>h1.1 (SH.2 ⟨q,a,by have:=h2 q (by simp[a]);omega⟩);show layM _ (L.set k.toNat y.Data) r=(layM _ (L.set p.1.toNat p.2.Data) r).set k.toNat y.Data;rw[←ZRK b,e,List.set_set]
    · exact i ⟨h1.2,λq a=>h2 q (by simp[a])⟩
def lastM (ws:List Write):List (Int×Write):=ws.foldl (λM w=>putM M w.At w) []
theorem ZNl (ws:List Write)(w:Write):lastM (ws++ [w])=putM (lastM ws) w.At w:=by simp[lastM]
theorem ZHU (ws:List Write)(L:List (List UInt8))(h:∀w∈ws,0≤w.At):KeysOk (lastM ws)∧layM (λy:Write=>y.Data) L (lastM ws)=layW L ws∧∀p∈lastM ws,∃w∈ws,p.1=w.At:=by
  suffices H:∀(n:Nat) (ws:List Write),ws.length=n→(∀w∈ws,0≤w.At)→KeysOk (lastM ws)∧layM (λy:Write=>y.Data) L (lastM ws)=layW L ws∧∀p∈lastM ws,∃w∈ws,p.1=w.At from H _ ws rfl h
  intro n;induction n with
  |zero=>intro ws hn _;obtain rfl:=TX.1 hn;exact⟨⟨by simp[lastM],by simp[lastM]⟩,rfl,by simp[lastM]⟩
  | succ n i=>
    intro ws hn h;obtain⟨d,w,rfl⟩:∃a b,ws=a++ [b]:=⟨ws.dropLast,ws.getLast (by intro e;subst e;simp at hn),(List.dropLast_concat_getLast _).symm⟩;obtain⟨h1,h2,h3⟩:=i d (by simpa using hn) (λw c=>h w (by simp[c]));have c:=h w (by simp);rw[ZNl];refine⟨h1.put c,?_,λp g=> ?_⟩
    · rw[ZRL h1 c,h2];simp[layW]
    · rcases ZHO g with f|f
      · obtain⟨j,a,b⟩:=h3 p f;exact⟨j,by simp[a],b⟩
      · subst f;exact⟨w,by simp,rfl⟩
theorem ZE8 (B:List (List UInt8))(ws:List Write):(layW B ws).length=B.length:=by
 unfold layW;induction ws generalizing B with
 |nil=>rfl
 |cons w ws i=>simp only[Sw,i,S4]
theorem ZL0{B:List (List UInt8)}{ws:List Write}(h:∀b∈B,b.length=256)(d:∀w∈ws,w.Data.length=256):∀b∈layW B ws,b.length=256:=by
  unfold layW;induction ws generalizing B with
  |nil=>exact h
  | cons w ws i=>
    simp only[Sw];refine i (λb hb=> ?_) (λe a=>d e (by simp[a]));rcases List.mem_or_eq_of_mem_set hb with c|c
    · exact h b c
    · rw[c];exact d w (by simp)
theorem ZNc{w:Write}(h:okW w=true):0≤w.At∧w.At<256:=by
 simp only[okW,TE,T7]at h;exact h.1
theorem ZLi{w:Write}(h:okW w=true):w.Data.length=256:=by
 simp only[okW,TE,T7]at h;exact h.2
theorem ZTQ{l:List (List UInt8)}(h:l.length≤1000):og_slices_Clone_byte_L l=some l:=by
 unfold og_slices_Clone_byte_L;rw[UD (by simp only[SY,LIM];omega)];rfl
theorem ZNk (d:Disk)(h:d.Waits.length≤5000):VI d=some (lastM d.Waits):=by
 unfold VI;rw[BG d.Waits (λi (r:List (Int×Write))=>(r,i)) (λw r=>some (.inl (putM r w.At w))) (λr=>r) (λi hi r=> ?_) (λr=> ?_) (Qb (by omega)) [],U2]
 · rfl
 · unfold KN;rw[cI,TH hi,ZM _ hi];rfl
 · unfold KN;rw[cI,TF (by omega)]
def seenB (d:Disk):List (List UInt8):=layW d.Blocks d.Waits
theorem ZSv{d:Disk}(h:OKD d)(ws:List Write)(b:∀w∈ws,w∈d.Waits):OKD ⟨layW d.Blocks ws,[]⟩:=
 ⟨by simp only[ZE8];exact h.1,by simp,ZL0 h.2.2.1 (λw a=>ZLi (h.2.2.2 w (b w a))),by simp⟩
theorem ZPn{d:Disk}(h:OKD d){ws:List Write}(b:∀w∈ws,w∈d.Waits):∀p∈lastM ws,0≤p.1∧p.1.toNat<d.Blocks.length:=λp c=>by
 obtain⟨w,h1,h2⟩:=(ZHU ws [] (λw a=>(ZNc (h.2.2.2 w (b w a))).1)).2.2 p c;have:=ZNc (h.2.2.2 w (b w h1));rw[h2,h.1];omega
theorem ZFH{d:Disk}(h:OKD d):Qf d=some ⟨seenB d,[]⟩:=by
 unfold Qf;rw[ZTQ h.mid.blocks];simp only[TA];rw[ZNk _ h.mid.waits];simp only[TA];unfold layR;rw[TH (ZPn h (λw a=>a)),(ZHU d.Waits d.Blocks (λw a=>(ZNc (h.2.2.2 w a)).1)).2.1];dsimp only;rw[D5 (ZSv h d.Waits (λw a=>a)).mid];rfl
theorem ZS6 (bs:List (List UInt8))(ws:List Write):layF bs ws=layW bs ws:=by
 induction ws generalizing bs with
 |nil=>rfl
 |cons w ws i=>exact i _
theorem ZLx (d:Disk):Qf d=leftF d:=by
 unfold leftF;cases h:okdQ d with
 |false=>rfl
 |true=>rw[ZFH (ZLh.1 h),ZS6];rfl
theorem ZMR{d:Disk}(h:Sized d)(is:Bool):Qk d is d=some (if OKD d then(if is=true then(⟨seenB d,[]⟩,0,d)else(noD,2,d))else(noD,8,d)):=by
 unfold Qk;rw[ZDs h];simp only[TA];by_cases c:OKD d
 · rw[TH c,TH c];cases is
   · rfl
   · unfold ZCj;rw[←ZLx,ZFH c];rfl
 · rw[TF c,TF c];rfl
theorem UM{d:Disk}(h:OKD d):(seenB d).length=256:=by unfold seenB;rw[ZE8];exact h.1
theorem ZMk{d:Disk}(h:OKD d){i:Nat}(hi:i<256):Gv d (i:Int)=some ((seenB d)[i]'(by rw[UM h];exact hi),0):=by
 unfold Gv;rw[ZDr (ZRT (by omega))];simp only[TA];rw[ZMR h.sized,TH h,TD (show 0≤(i:Int)∧(i:Int)<256 by omega),TH rfl];simp only[TA,decide_true,Sd,TI];rw[ZM _ (by rw[UM h];exact hi)]
end Go.Ow
