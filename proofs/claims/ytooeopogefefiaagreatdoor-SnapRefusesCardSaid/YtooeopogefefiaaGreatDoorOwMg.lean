import Derived.Test.YtooeopogefefiaaGreatDoorOwSo
import Derived.Shelf.SortG.AssemblyIn
import Derived.Shelf.SortG.SortNone
import Derived.Sort.OwnSortedInts
import Derived.Test.YtooeopogefefiaaGreatDoorOwMa
import Derived.Test.YtooeopogefefiaaGreatDoorOwMf
import Derived.Test.YtooeopogefefiaaGreatDoorOwMb
/-
  What is proved here: slices.Sort at integers, by the shelf's contract: an own row is sorted in place.
-/
set_option linter.unusedSimpArgs false
set_option linter.unusedVariables false
namespace Go.Ow
open Go.Shelf Go.RowKit Go.Lib Go.Sort Go.Proofs
variable{P:Program}{ρ:Ren}
def sortI (l:List Int):List Int:=l.mergeSort λx y=>decide (x<=y)
theorem ZJz (l:List Int):(sortI l).length=l.length:=List.length_mergeSort _
theorem ZI6 (l:List Int):(l.map λx=> [Value.int .i64 x]).flatten=l.map (Value.int .i64):=by
 induction l with
 |nil=>rfl
 |cons a r i=>rw[Tq,Td,i];rfl
theorem ZND (L:SlLaysN.n53 P ρ){HF H:Heaplet}{B:Nat}{E:TypeId}{v:Value}{l:List Int}{K:Own}(Z:RowOf HF RInt B E 1 v l K)(hn:l.length<4611686018427387904):
 Does P (ρ.f 53) #[v] [K] H (λu K' H'=>∃F,u=.tuple #[]/\K'= [F]/\H=H'/\RowOf HF RInt B E 1 v (sortI l) F/\(∀p∈F,p.1∈ids K)):=by
 obtain⟨cells,⟨U,z⟩,G,hone⟩:=Z;have V:∀(H:Heaplet) cs (x:Int),RInt H cs x↔cs= [Value.int .i64 x]:=λ_ _ _=>Iff.rfl;intro w W k;rcases z with⟨rfl,I,rfl⟩|⟨b,cap,cur,rfl,rfl,hB,X,J,M,s⟩
 . obtain rfl:l= []:=TX.1 I;refine CallsIn.mono (callsIn_wide.2 (AnyG.slices_Sort_int_none L none 0 w)) ?_;rintro e w' ⟨rfl,rfl⟩;refine⟨_,[[]],H,rfl,⟨[],rfl,rfl,rfl,?_,by simp⟩,?_⟩
   . rw[show sortI []= []from by simp[sortI]];exact RowOf.nil _ _ _ _ _
   . have:=Mem.same (H:=H) W k;simpa using this
 . have d:=ZC8 V G;rw[ZI6]at d;subst d;have N:w.heap[b]? =some (.cells cur E (0,0)):=k.here (b,.cells cur E (0,0)) (by simp);have q:b<w.heap.size:=(Th.1 N).1;have hH:Go.Sort.Holds (Value.int .i64) w b 0 l.toArray:=holds_of_blockI N (by simpa using s);refine CallsIn.mono (callsIn_wide.2 (calls_of_every_depth λD=>AnySG.slices_Sort_int_in L D b 0 cap l w hH q hn)) ?_;rintro e w' ⟨rfl,m,os,rfl⟩;rw[show(l.mergeSort λx y=>decide (x<=y))=sortI l from rfl];have O:=ZJz l;obtain⟨i,h⟩:∃c,c=putCells (Value.int .i64) 0 (sortI l).toArray cur:=⟨_,rfl⟩;have Q:i.size=cur.size:=(by rw[h];simp[putCells]);have a:∀j,j<w.heap.size->(grow (putRow (Value.int .i64) (Sort.ahead w m) b 0 (sortI l).toArray) os).heap[j]? =if b=j then some (.cells i E (0,0))else w.heap[j]?:=λj R=>by
    split
    . rename_i e;subst e;rw[h];exact heap_sortedI _ N
    . rename_i t;exact(grownBy_sortedI (w:=w) (g:=b) (n:=m) (os:=os) (sortI l).toArray).block j R (λe=>t (by simpa using e.symm))
   refine⟨_,[[(b,.cells i E (0,0))]],H,rfl,⟨_,rfl,rfl,rfl,⟨(sortI l).map (Value.int .i64),⟨?_,.inr ⟨b,cap,i,by rw[O],rfl,hB,by omega,J,by rw[Q];exact M,?_⟩⟩,?_,?_⟩,by simp[ids]⟩,?_⟩
   . simp
   . rw[Sd,h];exact take_putCellsI cur _ (by omega)
   . rw[<-ZI6];exact GJ V (λ_=>rfl) _
   . intro u hu;obtain⟨x,_,rfl⟩:=SI.1 hu;rfl
   . have A:=λo=>k.apart (b,.cells cur E (0,0)) (by simp) o;refine⟨λC o v' e=> ?_,⟨?_,by simp[ids],λp r o=> ?_⟩,⟨rfl,rfl,rfl,?_,?_,?_⟩,λp r=>.inl (by simp at r;simp[r,ids]),R1 _,λ_ _ _=>rfl,R8⟩
     . have t:b≠C:=λhb=>(by subst hb;rw[A]at e;cases e);have h0:=W _ _ _ e;have S:C<w.heap.size:=by
        unfold World.cell? at h0;cases Y:w.heap[C]? with
        |none=>simp[Y]at h0
        |some o=>exact(Th.1 Y).1
       unfold World.cell? at h0|-;simp only[a C S,TM t];exact h0
     . intro p r;simp at r;subst r;rw[a b q,TG rfl]
     . simp at r;subst r;exact A o
     . simp[grow,putRow,mapBlock,Sort.ahead]
     . show w.drawn<=w.drawn+m;omega
     . intro j R T;rw[a j R,TM (λe=>T (by simp[ids,e]))]
end Go.Ow
namespace Go.Ow
def insO{α:Type}(l:List α)(i:Int)(v:List α):Option (List α):=match v with
 |[x]=>if 0<=i/\i<=(l.length:Int)/\l.length+1<=LIM then some (l.take i.toNat++x::l.drop i.toNat)else none
 |_=>none
noncomputable def putI (x:Int) (l:List Int):List Int:=List.rec [x] (λy r i=>cond (decide (x<=y)) (x::y::r) (y::i)) l
noncomputable def ZHo (l:List Int):List Int:=List.rec [] (λx _ i=>putI x i) l
theorem ZJF (x:Int)(l:List Int):List.Perm (putI x l) (x::l):=by
  induction l with
  |nil=>exact S7 _
  | cons y r i=>
    show List.Perm (cond (decide (x<=y)) (x::y::r) (y::putI x r)) _;cases decide (x<=y)
    . exact(List.Perm.cons y i).trans (List.Perm.swap x y r)
    . exact S7 _
theorem ZFV (l:List Int):List.Perm (ZHo l) l:=by
 induction l with
 |nil=>exact S7 _
 |cons x r i=>exact(ZJF x _).trans (List.Perm.cons x i)
theorem ZFG (x:Int):∀{l:List Int},l.Pairwise (· <= ·)->(putI x l).Pairwise (· <= ·)
  |[],_=>List.pairwise_singleton _ _
  | y ::r,h=>by
    show List.Pairwise _ (cond (decide (x<=y)) (x::y::r) (y::putI x r));obtain⟨h1,h2⟩:=List.pairwise_cons.1 h;cases b:decide (x<=y)with
    | true=>
      have b:=TC b;exact List.pairwise_cons.2 ⟨λz a=>by
        rcases Ta.1 a with rfl|a
        . exact b
        . exact Int.le_trans b (h1 z a),h⟩
    | false=>
      have b:=of_decide_eq_false b;exact List.pairwise_cons.2 ⟨λz a=>by
        rcases Ta.1 ((ZJF x r).mem_iff.1 a)with rfl|a
        . omega
        . exact h1 z a,ZFG x h2⟩
theorem ZIy (l:List Int):(ZHo l).Pairwise (· <= ·):=by
 induction l with
 |nil=>exact List.Pairwise.nil
 |cons x r i=>exact ZFG x i
theorem ZQf (l:List Int):sortI l=ZHo l:=
 List.Perm.eq_of_pairwise (le:=(· <= ·)) (λa b _ _ h1 h2=>Int.le_antisymm h1 h2) ((List.pairwise_mergeSort (le:=λx y:Int=>decide (x<=y)) (λa b c h1 h2=>by simp at*;omega) (λa b=>by simp;omega) l).imp λh=>by simpa using h) (ZIy l) ((List.mergeSort_perm l _).trans (ZFV l).symm)
noncomputable def ZG2 (l:List Int):Option (List Int):=if l.length<=LIM then some (ZHo l)else none
noncomputable section
def pcL{σ τ:Type}(q:Int->Int->Option (List UInt8×Int))(f:List (List UInt8)->Option (List UInt8))(g:List UInt8->Option (List UInt8))(p:(List UInt8)->σ->Option (σ ⊕ τ))(d:List UInt8)(e:List UInt8)(s:σ×Int):Option ((σ×Int) ⊕ τ):=
 Option.bind (q s.2 4) λx=>Option.bind (f ([d,e,x.1])) λa=>Option.bind (g a) λb=>Option.bind (p b s.1) λo=>Sum.elim (λc=>some (.inl (c,w64 (s.2+1)))) (λt=>some (.inr t)) o
def pcP{σ τ:Type}(q:Int->Int->Option (List UInt8×Int))(d:List (List UInt8)->Option (List UInt8))(e:List UInt8->Option (List UInt8))(p:(List UInt8)->σ->Option (σ ⊕ τ))(a:σ)(b:List UInt8)(c:List UInt8):Option (σ ⊕ τ):=
 Option.bind (loop (pcL q d e p b c) (a,0)) (λt=>some (.inr (t)))
def rwL (a:Ptr->Option (List UInt8×Int))(p:List Ptr)(s:List UInt8×Nat):Option ((List UInt8×Nat) ⊕ ((List UInt8) ⊕ Int)):=
 cond (decide (((s.2:Nat):Int)<(p.length:Int))) (idx p ((s.2:Nat):Int) λy=>Option.bind (a y) λx=>cond (!decide (x.2=0)) (some (.inr (.inr x.2))) (appN 256 s.1 x.1 λq=>some (.inl (q,s.2+1)))) (some (.inr (.inl s.1)))
def rwP (q:Ptr->Option (List UInt8×Int))(p:List Ptr):Option (List UInt8×Int):=
 cond (decide (16<(p.length:Int))) (some (([]:List UInt8),4)) (Option.bind (loop (rwL q p) (([]:List UInt8),0)) (λb=>Sum.elim (λt=>extO 256 t 256 λm=>some (m,0)) (λa=>some (([]:List UInt8),a)) b))
end
open Go.Pv (agree nilq chunkR backR)
set_option maxRecDepth 20000
noncomputable section
def lenLe{α:Type}(l:List α):Nat->Bool:=List.rec (λ_=>true) (λ_ _ i n=>Nat.rec false (λm _=>i m) n) l
def lenEq{α:Type}(l:List α):Nat->Bool:=List.rec (λn=>Nat.beq n 0) (λ_ _ i n=>Nat.rec false (λm _=>i m) n) l
def allQ{α:Type}(p:α->Bool)(l:List α):Bool:=List.rec true (λa _ i=>Bool.rec false i (p a)) l
def midQ (d:Disk):Bool:=Bool.and (Bool.and (lenLe d.Blocks 1000) (allQ (λb=>lenLe b 1000) d.Blocks)) (Bool.and (lenLe d.Waits 5000) (allQ (λw=>lenLe w.Data 1000) d.Waits))
def twinF (d:Disk):Option Disk:=cond (midQ d) (some d) (X4 d)
def okdQ (d:Disk):Bool:=Bool.and (Bool.and (lenEq d.Blocks 256) (allQ (λb=>lenEq b 256) d.Blocks)) (Bool.and (lenLe d.Waits 4096) (allQ (λw=>Bool.and (decide (0<=w.At/\w.At<256)) (lenEq w.Data 256)) d.Waits))
def layF (bs:List (List UInt8))(ws:List Write):List (List UInt8):=List.rec (λbs=>bs) (λw _ i bs=>i (bs.set w.At.toNat w.Data)) ws bs
def leftF (d:Disk):Option Disk:=cond (okdQ d) (some ⟨layF d.Blocks d.Waits,[]⟩) (Qo d)
def cmpP (x y:Ptr):Int:=if x.At<y.At then -1 else if y.At<x.At then 1 else 0
def ZJy (l:List Ptr):Option (List Ptr):=if l.length<=LIM then some (sortL cmpP l)else none
def ZI5:Option (List UInt8):=(QM [(1:UInt8)] 12).bind λx=>mks 244 (0:UInt8) λm=>app x m λa=>some a
def Vq:Option Store:=(Uk).bind λx=>(ZI5).bind λa=>some (Store.mk x a 1 0)
def ZGW:Option Pool:=(Vq).bind λx=>mks 8 [] λm=>mks 8 [] λa=>some (Pool.mk x 0 (Ptr.mk 0 0 0 0 0) [] [] m a [] 0 1 1)
def XT (a:Int):Option Bool:=some (decide (u64i a<256))
def UR (a:Disk)(x:Bool×Nat):Option ((Bool×Nat) ⊕ Bool):=cond (decide ((x.2:Int)<(a.Blocks.length:Int))) (idx a.Blocks (x.2:Int) λy=>cond x.1 (some (.inl (decide ((y.length:Int)=256),x.2+1))) (some (.inl (false,x.2+1)))) (some (.inr x.1))
def UQ (a:Disk)(x:Bool×Nat):Option ((Bool×Nat) ⊕ Bool):=cond (decide ((x.2:Int)<(a.Waits.length:Int))) (idx a.Waits (x.2:Int) λy=>cond x.1 ((XT y.At).bind λb=>cond b (some (.inl (decide ((y.Data.length:Int)=256),x.2+1))) (some (.inl (false,x.2+1)))) (some (.inl (false,x.2+1)))) (some (.inr x.1))
def Wm (a:Disk):Option Int:=Option.bind (α:=Bool) (cond (decide ((a.Blocks.length:Int)=256)) (some (decide ((a.Waits.length:Int)<=4096))) (some false))<|λx=>(loop (UR a) (x,0)).bind λb=>(loop (UQ a) (b,0)).bind λc=>cond c (some 0) (some 8)
def Kv (a:Disk):Option Int:=cond (okdQ a) (some 0) (Wm a)
def XB (a:List UInt8)(x:UInt8×Nat):Option ((UInt8×Nat) ⊕ UInt8):=cond (decide ((x.2:Int)<(a.length:Int))) (idx a (x.2:Int) λy=>some (.inl (maxB x.1 y,x.2+1))) (some (.inr x.1))
def KS (a:List UInt8):Option UInt8:=cond (decide ((a.length:Int)<1)) (none) (idx a 0 λy=>(loop (XB a) (y,1)).bind λx=>some x)
def DW (a:List UInt8)(b:UInt8):Option Int:=some (Lib.indexByte a b)
def ZAx (a:List UInt8)(b:List UInt8):Option Bool:=some (decide (a=b))
def J5 (a:List UInt8)(b:List UInt8):Option Int:=cond (decide ((b.length:Int)=0)) (some 0) (cond (decide ((b.length:Int)=1)) (idx b 0 λy=>(DW a y).bind λx=>some x) (cond (decide ((b.length:Int)=(a.length:Int))) ((ZAx b a).bind λc=>cond c (some 0) (some (-1))) (cond (decide ((a.length:Int)<(b.length:Int))) (some (-1)) (none))))
def ZII (b:List UInt8)(x:List UInt8×Int):Option ((List UInt8×Int) ⊕ Int):=(J5 x.1 b).bind λa=>cond (decide (a=(-1))) (some (.inr x.2)) (slc x.1 (w64 (a+(b.length:Int))) (x.1.length:Int) λm=>some (.inl (m,w64 (x.2+1))))
def Wv (a:List UInt8)(b:List UInt8):Option Int:=cond (decide ((b.length:Int)=0)) (none) (cond (decide ((b.length:Int)=1)) (idx b 0 λy=>some (cntB a y:Int)) ((loop (ZII b) (a,0)).bind λx=>some x))
def Qi (a:List UInt8):Option Int:=Option.bind (α:=Bool) (cond (!(decide ((a.length:Int)=256))) (some true) ((KS a).bind λx=>cond (decide (2<x)) (some true) (slc a 0 12 λm=>(Wv m [(1:UInt8)]).bind λb=>some (!(decide (b=12))))))<|λc=>cond c (some 8) (some 0)
def Y3 (a:Store):Option Int:=Option.bind (α:=Bool) ((Kv a.Disk).bind λx=>cond (!(decide (x=0))) (some true) ((Qi a.Space).bind λb=>cond (!(decide (b=0))) (some true) (cond (decide (a.Epoch<1)) (some true) (cond (decide (65535<a.Epoch)) (some true) (some (decide (65535<a.Count)))))))<|λc=>cond c (some 8) (some 0)
def YF (a:Ptr):Option Int:=cond (decide (a.At=0)&&(decide (a.Birth=0)&&(decide (a.Iv=0)&&(decide (a.Tag=0)&&(decide (a.Sum=0)&&true))))) (some 0) (Option.bind (α:=Bool) (cond (decide (a.At<12)) (some true) (cond (decide (256<=a.At)) (some true) (cond (decide (a.Birth<1)) (some true) (some (decide (16777215<a.Birth))))))<|λx=>cond x (some 8) (some 0))
def KL (a:Int):Option Bool:=some (!(decide (a=a)))
def Zd (a:Int)(b:Int):Option Int:=(KL a).bind λc=>(KL b).bind λx=>cond c (cond x (some 0) (some (-1))) (cond x (some 1) (cond (decide (a<b)) (some (-1)) (cond (decide (b<a)) (some 1) (some 0))))
def Ki (a:Ptr)(b:Ptr):Option Int:=(Zd a.At b.At).bind λx=>some x
def ZB4 (a:List Ptr)(x:Nat):Option (Nat ⊕ (Unit ⊕ Unit)):=cond (decide ((x:Int)<(a.length:Int))) (idx a (x:Int) λy=>Option.bind (α:=Bool) (cond (decide (y.At=0)&&(decide (y.Birth=0)&&(decide (y.Iv=0)&&(decide (y.Tag=0)&&(decide (y.Sum=0)&&true))))) (some true) ((YF y).bind λb=>cond (!(decide (b=0))) (some true) (cond (decide (0<(x:Int))) (idx a (w64 ((x:Int)-1)) λc=>(Ki c y).bind λd=>some (decide (0<=d))) (some false))))<|λe=>cond e (some (.inr (.inl ()))) (some (.inl (x+1)))) (some (.inr (.inr ())))
def Kj (a:List Ptr):Option Int:=cond (decide (240<(a.length:Int))) (some 8) (Option.bind (loop (ZB4 a) 0)<|Sum.elim (λx=>some 8) (λb=>some 0))
def XA (a:Line)(b:Int):Option Int:=(Zd a.Id b).bind λx=>some x
def Zc (a:List Line)(b:Int)(x:Int×Int):Option ((Int×Int) ⊕ Int):=cond (decide (x.1<x.2)) (chk (0<=(1:Int))<|idx a (w64 ((sr64 (u64i (w64 (x.1+x.2))) 1).toNat:Int)) λy=>(XA y b).bind λc=>cond (decide (c<0)) (some (.inl (w64 ((w64 ((sr64 (u64i (w64 (x.1+x.2))) 1).toNat:Int))+1),x.2))) (some (.inl (x.1,w64 ((sr64 (u64i (w64 (x.1+x.2))) 1).toNat:Int))))) (some (.inr x.1))
def Z4 (a:List Line)(b:Int):Option (Int×Bool):=(loop (Zc a b) (0,(a.length:Int))).bind λx=>cond (decide (x<(a.length:Int))) (idx a x λy=>(XA y b).bind λc=>some (x,decide (c=0))) (some (x,false))
def Gc (a:List Line)(b:Int):Option (Option Line):=(Z4 a b).bind λx=>cond (!x.2) (some none) (idx a x.1 λy=>some (some y))
def ZGV (a:List Line)(b:Line):Option Bool:=(Gc a b.Owner).bind λc=>(Gc a b.Prev).bind λx=>Option.bind (α:=Bool) (cond c.isNone (some true) (Option.bind c λy=>cond (!(decide (y.Kind=1))) (some true) (cond (decide (b.Kind=1)) (some (!(decide (b.Owner=b.Id)))) (some false))))<|λd=>cond d (some false) (cond (decide (b.Prev=0)) (some true) (Option.bind (α:=Bool) (cond x.isNone (some true) (Option.bind x λe=>cond (!(decide (e.Kind=2))) (some true) (Option.bind x λf=>some (!(decide (f.Key=b.Key))))))<|λg=>cond g (some false) (Option.bind x λh=>cond (decide (h.Txg<b.Txg)) (some true) (Option.bind x λi=>cond (decide (i.Txg=b.Txg)) (some (decide (b.Kind=1))) (some false)))))
def DF (a:List Line)(x:Nat):Option (Nat ⊕ (Unit ⊕ Unit)):=cond (decide ((x:Int)<(a.length:Int))) (idx a (x:Int) λy=>Option.bind (α:=Bool) (cond (decide (y.Id<1)) (some true) (cond (decide (255<y.Id)) (some true) (cond (decide (0<(x:Int))) (idx a (w64 ((x:Int)-1)) λb=>cond (decide (y.Id<=b.Id)) (some true) (cond (!(decide (y.Kind=1))) (some (!(decide (y.Kind=2)))) (some false))) (cond (!(decide (y.Kind=1))) (some (!(decide (y.Kind=2)))) (some false)))))<|λc=>cond c (some (.inr (.inl ()))) (some (.inl (x+1)))) (some (.inr (.inr ())))
def DE (a:List Line)(x:Nat):Option (Nat ⊕ (Unit ⊕ Unit)):=cond (decide ((x:Int)<(a.length:Int))) (idx a (x:Int) λy=>Option.bind (α:=Bool) (cond (decide (16777215<y.Txg)) (some true) (cond (decide (y.Key<0)) (some true) (cond (decide (8<=y.Key)) (some true) ((YF y.Root).bind λe=>cond (!(decide (e=0))) (some true) ((Kj y.Dead).bind λb=>cond (!(decide (b=0))) (some true) ((ZGV a y).bind λc=>some (!c)))))))<|λd=>cond d (some (.inr (.inl ()))) (some (.inl (x+1)))) (some (.inr (.inr ())))
def UI (a:List Line):Option Bool:=cond (decide (16<(a.length:Int))) (some false) (Option.bind (loop (DF a) 0)<|Sum.elim (λc=>some false) (λd=>Option.bind (loop (DE a) 0)<|Sum.elim (λx=>some false) (λb=>some true)))
def V9 (a:List UInt8)(b:Int):Option (Bool×Int):=cond (decide (0<(a.length:Int))) (cond (!(decide ((a.length:Int)=b))) (some (true,b)) (cond (decide (b=24)) (mks b (0:UInt8) λm=>(ZAx a m).bind λx=>some (x,b)) (some (false,b)))) (some (false,b))
def UC (a:List (List UInt8))(x:Int×Int):Option ((Int×Int) ⊕ ((Int×Int) ⊕ Int)):=cond (decide (x.2<(a.length:Int))) (idx a x.2 λy=>(V9 y x.1).bind λb=>cond b.1 (some (.inr (.inl (b.2,x.2)))) (some (.inl (b.2,w64 (x.2+1))))) (some (.inr (.inr x.1)))
def Vt (a:List (List UInt8))(b:Int):Option (Int×Int):=Option.bind (loop (UC a) (b,0))<|Sum.elim (λx=>some (x.2,x.1)) (λc=>some ((-1),c))
def Q8 (a:List (List UInt8))(b:Int):Option (Bool×Int):=(Vt a b).bind λx=>some (decide (0<=x.1),x.2)
def WT (a:List (List UInt8))(b:Int):Option Bool:=cond (decide ((a.length:Int)=8)) ((Q8 a b).bind λx=>some (!x.1)) (some false)
def WD (a:Change):Option Bool:=Option.bind (α:=Bool) (cond (decide (a.Kind=0)) (cond (decide (a.Links=0)) (some (decide (a.Size=0))) (some false)) (some false))<|λx=>Option.bind (α:=Bool) (cond (decide (a.Obj<0)) (some true) (cond (decide (16<=a.Obj)) (some true) (cond (decide (a.Index<0)) (some true) (some (decide (15<a.Index))))))<|λb=>cond b (some false) (cond (decide (a.Index=15)) (Option.bind (α:=Bool) (cond (decide (a.Kind<=7)) (cond (decide (0<=min a.Links a.Size)) (cond (decide (a.Links<=255)) (some (decide (a.Size<=3840))) (some false)) (some false)) (some false))<|λc=>Option.bind (α:=Bool) (cond c (cond (decide ((a.Data.length:Int)=0)) (cond (decide (a.Laid.At=0)&&(decide (a.Laid.Birth=0)&&(decide (a.Laid.Iv=0)&&(decide (a.Laid.Tag=0)&&(decide (a.Laid.Sum=0)&&true))))) (cond (decide (0<a.Kind)) (some true) (some x)) (some false)) (some false)) (some false))<|λd=>some d) (cond x (cond (decide ((a.Data.length:Int)=0)) ((YF a.Laid).bind λe=>some (decide (e=0))) (cond (decide ((a.Data.length:Int)=256)) ((YF a.Laid).bind λf=>some (decide (f=0))) (some false))) (some false)))
def ZB6 (a:List Int)(x:Nat):Option (Nat ⊕ (Int ⊕ Unit)):=cond (decide ((x:Int)<(a.length:Int))) (idx a (x:Int) λy=>cond (!(decide (y=0))) (some (.inr (.inl y))) (some (.inl (x+1)))) (some (.inr (.inr ())))
def Bo (a:List Int):Option Int:=Option.bind (loop (ZB6 a) 0)<|Sum.elim (λx=>some x) (λb=>some 0)
def ZA5 (a:Change)(b:Change):Option Int:=(Zd a.Set b.Set).bind λx=>(Zd a.Obj b.Obj).bind λc=>(Zd a.Index b.Index).bind λd=>(Bo [x,c,d]).bind λe=>some e
def Dm (a:Line)(b:Pool):Option (Bool×Pool):=cond (decide (b.NextId<=a.Id)) (some (true,b)) (some (decide (b.NextGuid<=a.Guid),b))
def QK (a:List Line)(x:Pool×Int):Option ((Pool×Int) ⊕ ((Pool×Int) ⊕ Pool)):=cond (decide (x.2<(a.length:Int))) (idx a x.2 λy=>(Dm y x.1).bind λb=>cond b.1 (some (.inr (.inl (b.2,x.2)))) (some (.inl (b.2,w64 (x.2+1))))) (some (.inr (.inr x.1)))
def XN (a:List Line)(b:Pool):Option (Int×Pool):=Option.bind (loop (QK a) (b,0))<|Sum.elim (λx=>some (x.2,x.1)) (λc=>some ((-1),c))
def Ys (a:List Line)(b:Pool):Option (Bool×Pool):=(XN a b).bind λx=>some (decide (0<=x.1),x.2)
def ZDS (a:Pool)(x:Nat):Option (Nat ⊕ (Unit ⊕ Unit)):=cond (decide ((x:Int)<(a.MetaL.length:Int))) (idx a.MetaL (x:Int) λy=>Option.bind (α:=Bool) (cond (decide (y<12)) (some true) (cond (decide (256<=y)) (some true) (cond (decide (0<(x:Int))) (idx a.MetaL (w64 ((x:Int)-1)) λb=>cond (decide (y<=b)) (some true) (idx a.Store.Space y λc=>some (!(decide (c=1))))) (idx a.Store.Space y λd=>some (!(decide (d=1)))))))<|λe=>cond e (some (.inr (.inl ()))) (some (.inl (x+1)))) (some (.inr (.inr ())))
def ZDR (a:Pool)(x:Nat):Option (Nat ⊕ (Unit ⊕ Unit)):=cond (decide ((x:Int)<(a.Changes.length:Int))) (idx a.Changes (x:Int) λy=>(Gc a.Lines y.Set).bind λb=>Option.bind (α:=Bool) (cond b.isNone (some true) (Option.bind b λc=>cond (!(decide (c.Kind=1))) (some true) ((WD y).bind λd=>cond (!d) (some true) (cond (decide (0<(x:Int))) (idx a.Changes (w64 ((x:Int)-1)) λe=>(ZA5 e y).bind λf=>some (decide (0<=f))) (some false)))))<|λg=>cond g (some (.inr (.inl ()))) (some (.inl (x+1)))) (some (.inr (.inr ())))
def Vo (a:Pool):Option Int:=Option.bind (α:=Bool) ((Y3 a.Store).bind λf=>cond (!(decide (f=0))) (some true) (cond (decide (16777215<a.Gen)) (some true) ((YF a.Root).bind λg=>cond (!(decide (g=0))) (some true) (some (!((decide (a.Root.At=0)&&(decide (a.Root.Birth=0)&&(decide (a.Root.Iv=0)&&(decide (a.Root.Tag=0)&&(decide (a.Root.Sum=0)&&true)))))==(decide (a.Gen=0))))))))<|λh=>cond h (some 8) (Option.bind (loop (ZDS a) 0)<|Sum.elim (λi=>some 8) (λj=>Option.bind (α:=Bool) ((UI a.Lines).bind λx=>cond (!x) (some true) ((WT a.Keys 24).bind λb=>cond (!b) (some true) ((WT a.Loaded 16).bind λc=>cond (!c) (some true) (cond (decide (a.Logged<0)) (some true) (cond (decide (8<a.Logged)) (some true) (cond (decide (a.NextId<1)) (some true) (some (decide (256<a.NextId)))))))))<|λd=>cond d (some 8) (Option.bind (loop (ZDR a) 0)<|Sum.elim (λk=>some 8) (λl=>(Ys a.Lines a).bind λe=>cond e.1 (some 8) (some 0)))))
def Zs (a:List UInt8):Option (List UInt8):=app [] a λm=>some m
def Uf (a:Store):Option Store:=(twinF a.Disk).bind λx=>(Zs a.Space).bind λb=>some (Store.mk x b a.Epoch a.Count)
def Qx (a:List Int):Option (List Int):=app [] a λm=>some m
def XL (a:List Line):Option (List Line):=app [] a λm=>some m
def Zi (a:List Change):Option (List Change):=app [] a λm=>some m
def YE (a:List Ptr):Option (List Ptr):=app [] a λm=>some m
def VJ (a:List (List UInt8)):Option (List (List UInt8)):=app [] a λm=>some m
def JV (c:List Line)(x:Disk×UInt32×UInt32×UInt32×Ptr×List Line×List (List UInt8)×List (List UInt8)×Int×Int×UInt32×Int):Option ((Disk×UInt32×UInt32×UInt32×Ptr×List Line×List (List UInt8)×List (List UInt8)×Int×Int×UInt32×Int) ⊕ (Disk×UInt32×UInt32×UInt32×Ptr×List Line×List (List UInt8)×List (List UInt8)×Int×Int×UInt32)):=cond (decide (x.2.2.2.2.2.2.2.2.2.2.2<(c.length:Int))) (chk (0<=x.2.2.2.2.2.2.2.2.2.2.2/\x.2.2.2.2.2.2.2.2.2.2.2.toNat<x.2.2.2.2.2.1.length)<|idx x.2.2.2.2.2.1 x.2.2.2.2.2.2.2.2.2.2.2 λa=>(YE a.Dead).bind λb=>chk (0<=x.2.2.2.2.2.2.2.2.2.2.2/\x.2.2.2.2.2.2.2.2.2.2.2.toNat<x.2.2.2.2.2.1.length)<|idx x.2.2.2.2.2.1 x.2.2.2.2.2.2.2.2.2.2.2 λy=>setI x.2.2.2.2.2.1 x.2.2.2.2.2.2.2.2.2.2.2 (Line.mk y.Id y.Kind y.Owner y.Prev y.Txg y.Guid y.Key y.Root b) λm=>some (.inl (x.1,x.2.1,x.2.2.1,x.2.2.2.1,x.2.2.2.2.1,m,x.2.2.2.2.2.2.1,x.2.2.2.2.2.2.2.1,x.2.2.2.2.2.2.2.2.1,x.2.2.2.2.2.2.2.2.2.1,x.2.2.2.2.2.2.2.2.2.2.1,w64 (x.2.2.2.2.2.2.2.2.2.2.2+1)))) (some (.inr (x.1,x.2.1,x.2.2.1,x.2.2.2.1,x.2.2.2.2.1,x.2.2.2.2.2.1,x.2.2.2.2.2.2.1,x.2.2.2.2.2.2.2.1,x.2.2.2.2.2.2.2.2.1,x.2.2.2.2.2.2.2.2.2.1,x.2.2.2.2.2.2.2.2.2.2.1)))
def JU (c:List Change)(x:Disk×UInt32×UInt32×UInt32×Ptr×List (List UInt8)×List (List UInt8)×List Change×Int×Int×UInt32×Int):Option ((Disk×UInt32×UInt32×UInt32×Ptr×List (List UInt8)×List (List UInt8)×List Change×Int×Int×UInt32×Int) ⊕ (Disk×UInt32×UInt32×UInt32×Ptr×List (List UInt8)×List (List UInt8)×List Change×Int×Int×UInt32)):=cond (decide (x.2.2.2.2.2.2.2.2.2.2.2<(c.length:Int))) (chk (0<=x.2.2.2.2.2.2.2.2.2.2.2/\x.2.2.2.2.2.2.2.2.2.2.2.toNat<x.2.2.2.2.2.2.2.1.length)<|idx x.2.2.2.2.2.2.2.1 x.2.2.2.2.2.2.2.2.2.2.2 λa=>(Zs a.Data).bind λb=>chk (0<=x.2.2.2.2.2.2.2.2.2.2.2/\x.2.2.2.2.2.2.2.2.2.2.2.toNat<x.2.2.2.2.2.2.2.1.length)<|idx x.2.2.2.2.2.2.2.1 x.2.2.2.2.2.2.2.2.2.2.2 λy=>setI x.2.2.2.2.2.2.2.1 x.2.2.2.2.2.2.2.2.2.2.2 (Change.mk y.Set y.Obj y.Index y.Kind y.Links y.Size b y.Laid) λm=>some (.inl (x.1,x.2.1,x.2.2.1,x.2.2.2.1,x.2.2.2.2.1,x.2.2.2.2.2.1,x.2.2.2.2.2.2.1,m,x.2.2.2.2.2.2.2.2.1,x.2.2.2.2.2.2.2.2.2.1,x.2.2.2.2.2.2.2.2.2.2.1,w64 (x.2.2.2.2.2.2.2.2.2.2.2+1)))) (some (.inr (x.1,x.2.1,x.2.2.1,x.2.2.2.1,x.2.2.2.2.1,x.2.2.2.2.2.1,x.2.2.2.2.2.2.1,x.2.2.2.2.2.2.2.1,x.2.2.2.2.2.2.2.2.1,x.2.2.2.2.2.2.2.2.2.1,x.2.2.2.2.2.2.2.2.2.2.1)))
def JT (a:List (List UInt8))(x:Disk×UInt32×UInt32×UInt32×Ptr×List (List UInt8)×Int×Int×UInt32×Int):Option ((Disk×UInt32×UInt32×UInt32×Ptr×List (List UInt8)×Int×Int×UInt32×Int) ⊕ (Disk×UInt32×UInt32×UInt32×Ptr×List (List UInt8)×Int×Int×UInt32)):=cond (decide (x.2.2.2.2.2.2.2.2.2<(a.length:Int))) (chk (0<=x.2.2.2.2.2.2.2.2.2/\x.2.2.2.2.2.2.2.2.2.toNat<x.2.2.2.2.2.1.length)<|idx x.2.2.2.2.2.1 x.2.2.2.2.2.2.2.2.2 λy=>(Zs y).bind λb=>chk (0<=x.2.2.2.2.2.2.2.2.2/\x.2.2.2.2.2.2.2.2.2.toNat<x.2.2.2.2.2.1.length)<|setI x.2.2.2.2.2.1 x.2.2.2.2.2.2.2.2.2 b λm=>some (.inl (x.1,x.2.1,x.2.2.1,x.2.2.2.1,x.2.2.2.2.1,m,x.2.2.2.2.2.2.1,x.2.2.2.2.2.2.2.1,x.2.2.2.2.2.2.2.2.1,w64 (x.2.2.2.2.2.2.2.2.2+1)))) (some (.inr (x.1,x.2.1,x.2.2.1,x.2.2.2.1,x.2.2.2.2.1,x.2.2.2.2.2.1,x.2.2.2.2.2.2.1,x.2.2.2.2.2.2.2.1,x.2.2.2.2.2.2.2.2.1)))
def JR (a:List (List UInt8))(x:Disk×UInt32×UInt32×UInt32×Ptr×List (List UInt8)×Int×Int×UInt32×Int):Option ((Disk×UInt32×UInt32×UInt32×Ptr×List (List UInt8)×Int×Int×UInt32×Int) ⊕ (Disk×UInt32×UInt32×UInt32×Ptr×List (List UInt8)×Int×Int×UInt32)):=cond (decide (x.2.2.2.2.2.2.2.2.2<(a.length:Int))) (chk (0<=x.2.2.2.2.2.2.2.2.2/\x.2.2.2.2.2.2.2.2.2.toNat<x.2.2.2.2.2.1.length)<|idx x.2.2.2.2.2.1 x.2.2.2.2.2.2.2.2.2 λy=>(Zs y).bind λb=>chk (0<=x.2.2.2.2.2.2.2.2.2/\x.2.2.2.2.2.2.2.2.2.toNat<x.2.2.2.2.2.1.length)<|setI x.2.2.2.2.2.1 x.2.2.2.2.2.2.2.2.2 b λm=>some (.inl (x.1,x.2.1,x.2.2.1,x.2.2.2.1,x.2.2.2.2.1,m,x.2.2.2.2.2.2.1,x.2.2.2.2.2.2.2.1,x.2.2.2.2.2.2.2.2.1,w64 (x.2.2.2.2.2.2.2.2.2+1)))) (some (.inr (x.1,x.2.1,x.2.2.1,x.2.2.2.1,x.2.2.2.2.1,x.2.2.2.2.2.1,x.2.2.2.2.2.2.1,x.2.2.2.2.2.2.2.1,x.2.2.2.2.2.2.2.2.1)))
def KC (a:Pool):Option Pool:=(Uf a.Store).bind λg=>(Qx a.MetaL).bind λj=>(XL a.Lines).bind λh=>(Zi a.Changes).bind λi=>(loop (JV h) (g.Disk,g.Epoch,g.Count,a.Gen,a.Root,h,a.Keys,a.Loaded,a.Logged,a.NextId,a.NextGuid,0)).bind λx=>(loop (JU i) (x.1,x.2.1,x.2.2.1,x.2.2.2.1,x.2.2.2.2.1,x.2.2.2.2.2.2.1,x.2.2.2.2.2.2.2.1,i,x.2.2.2.2.2.2.2.2.1,x.2.2.2.2.2.2.2.2.2.1,x.2.2.2.2.2.2.2.2.2.2,0)).bind λb=>(VJ b.2.2.2.2.2.1).bind λe=>(VJ b.2.2.2.2.2.2.1).bind λf=>(loop (JT e) (b.1,b.2.1,b.2.2.1,b.2.2.2.1,b.2.2.2.2.1,e,b.2.2.2.2.2.2.2.2.1,b.2.2.2.2.2.2.2.2.2.1,b.2.2.2.2.2.2.2.2.2.2,0)).bind λc=>(loop (JR f) (c.1,c.2.1,c.2.2.1,c.2.2.2.1,c.2.2.2.2.1,f,c.2.2.2.2.2.2.1,c.2.2.2.2.2.2.2.1,c.2.2.2.2.2.2.2.2,0)).bind λd=>some (Pool.mk (Store.mk d.1 g.Space d.2.1 d.2.2.1) d.2.2.2.1 d.2.2.2.2.1 j x.2.2.2.2.2.1 c.2.2.2.2.2.1 d.2.2.2.2.2.1 b.2.2.2.2.2.2.2.1 d.2.2.2.2.2.2.1 d.2.2.2.2.2.2.2.1 d.2.2.2.2.2.2.2.2)
def Qh (a:Change)(b:Int)(c:List Line):Option (Bool×List Line×Int):=idx c b λy=>some (!(decide (a.Set=y.Id)),c,b)
def YJ (a:List Change)(x:Int×Int×List Line):Option ((Int×Int×List Line) ⊕ ((Int×Int×List Line) ⊕ (Int×List Line))):=cond (decide (x.2.1<(a.length:Int))) (chk (0<=x.2.1/\x.2.1.toNat<a.length)<|idx a x.2.1 λy=>(Qh y x.1 x.2.2).bind λb=>cond b.1 (some (.inr (.inl (b.2.2,x.2.1,b.2.1)))) (some (.inl (b.2.2,w64 (x.2.1+1),b.2.1)))) (some (.inr (.inr (x.1,x.2.2))))
def Zh (a:List Change)(b:Int)(c:List Line):Option (Int×List Change×List Line×Int):=Option.bind (loop (YJ a) (b,0,c))<|Sum.elim (λx=>some (x.2.1,a,x.2.2,x.1)) (λd=>some ((-1),a,d.2,d.1))
def YQ (x:Int×List Change×Int×Int×List Line):Option ((Int×List Change×Int×Int×List Line) ⊕ (Int×List Change×Int×List Line)):=cond (decide (x.2.2.2.1<(x.2.1.length:Int))) (chk (0<=x.2.2.2.1/\x.2.2.2.1.toNat<x.2.1.length)<|idx x.2.1 x.2.2.2.1 λy=>(Qh y x.1 x.2.2.2.2).bind λa=>Option.bind (α:=(List Change×Int)) (cond (!a.1) (chk (0<=x.2.2.1/\x.2.2.1.toNat<x.2.1.length)<|setI x.2.1 x.2.2.1 y λm=>some (m,w64 (x.2.2.1+1))) (some (x.2.1,x.2.2.1)))<|λb=>some (.inl (a.2.2,b.1,b.2,w64 (x.2.2.2.1+1),a.2.1))) (some (.inr (x.1,x.2.1,x.2.2.1,x.2.2.2.2)))
def ZL (a:List Change)(b:Int)(c:List Line):Option (List Change×List Line×Int):=(Zh a b c).bind λx=>cond (decide (x.1=(-1))) (some (x.2.1,x.2.2.1,x.2.2.2)) ((loop (YQ) (x.2.2.2,x.2.1,x.1,w64 (x.1+1),x.2.2.1)).bind λd=>chk (0<=d.2.2.1/\d.2.2.1<=(d.2.1.length:Int))<|slc (clr d.2.1 d.2.2.1.toNat d.2.1.length (Change.mk 0 0 0 0 0 0 [] (Ptr.mk 0 0 0 0 0))) 0 d.2.2.1 λm=>some (m,d.2.2.2,d.1))
def ZDC (a:Disk):Option (Disk×Disk):=(leftF a).bind λx=>some (x,a)
def X6 (a:Disk)(b:Bool)(c:Disk):Option (Disk×Int×Disk):=(Kv a).bind λx=>cond (!(decide (x=0))) (some (Disk.mk [] [],x,c)) (cond (!b) (some (Disk.mk [] [],2,c)) ((ZDC c).bind λd=>some (d.1,0,d.2)))
def ZAW (a:Disk)(b:Int):Option (List UInt8×Int):=Option.bind (α:=(Disk×Int×Disk)) ((XT b).bind λd=>(X6 a d a).bind λc=>some (c.2.2,c.2.1,c.1))<|λx=>cond (!(decide (x.2.1=0))) (some ([],x.2.1)) (idx x.2.2.Blocks b λy=>some (y,0))
def Za (a:List UInt8):Option (List UInt8):=app [] a λm=>some m
def YY (a:List UInt8):Option (List UInt8):=chk ((a.length:Int)=(a.length:Int))<|slc a 0 (a.length:Int) λm=>some m
def Zm (a:List UInt8)(b:Int):Option (List UInt8×Int):=cond (decide (b<1)) (none) (some (a,b))
def U1 (a:Int):Option Bool:=cond (decide (0<a)) (some (decide (a<=4))) (some false)
def Ql (a:List UInt8):Option (List UInt8):=some a
def ZMc (y:Int×UInt8)(x:Int):Option (Int ⊕ Unit):=some (.inl (w64 ((w64 (256*x))+(y.2.toNat:Int))))
def Qu (a:List UInt8)(b:Int)(c:Int):Option (Int×Int):=(U1 c).bind λx=>Option.bind (α:=Bool) (cond (!x) (some true) (Option.bind (α:=Bool) (cond (decide (b<0)) (some true) (some (decide ((a.length:Int)<b))))<|λd=>some d))<|λe=>cond e (some (0,2)) (cond (decide ((a.length:Int)<w64 (b+c))) (some (0,8)) (slc a b (w64 (b+c)) λm=>(Ql m).bind λf=>Option.bind (backR f (ZMc) 0)<|Sum.elim (λg=>some (g,0)) (λ_=>none)))
def Up (a:List UInt8):Option UInt32:=(Qu a 0 4).bind λx=>some (u32i x.1)
def Y1 (a:UInt32)(b:Int):Option UInt32:=chk (0<=(((u64i b)&&&(31:UInt64)).toNat:Int))<|chk (0<=(((32:UInt64)-((u64i b)&&&(31:UInt64))).toNat:Int))<|some ((sl32 a ((((u64i b)&&&(31:UInt64)).toNat:Int)).toNat) |||(sr32 a ((((32:UInt64)-((u64i b)&&&(31:UInt64))).toNat:Int)).toNat))
def XD (a:Int)(b:Int)(c:UInt32)(d:UInt32)(e:UInt32)(f:UInt32):Option (UInt32×UInt32×UInt32×UInt32):=(Y1 (f^^^(c+d)) a).bind λx=>(Y1 (d^^^(e+x)) b).bind λg=>some (c+d,g,e+x,x)
def Q0 (a:UInt32)(b:UInt32)(c:UInt32)(d:UInt32):Option (UInt32×UInt32×UInt32×UInt32):=(XD 15 11 a b c d).bind λx=>(XD 9 6 x.1 x.2.1 x.2.2.1 x.2.2.2).bind λe=>some (e.1,e.2.1,e.2.2.1,e.2.2.2)
def Kh (e:Int)(x:UInt32×UInt32×UInt32×UInt32×Int):Option ((UInt32×UInt32×UInt32×UInt32×Int) ⊕ (UInt32×UInt32×UInt32×UInt32)):=cond (decide (x.2.2.2.2<e)) ((Q0 x.1 x.2.1 x.2.2.1 x.2.2.2.1).bind λa=>some (.inl (a.1,a.2.1,a.2.2.1,a.2.2.2,w64 (x.2.2.2.2+1)))) (some (.inr (x.1,x.2.1,x.2.2.1,x.2.2.2.1)))
def Yt (a:UInt32)(b:UInt32)(c:UInt32)(d:UInt32)(e:Int):Option (UInt32×UInt32×UInt32×UInt32):=(loop (Kh e) (a,b,c,d,0)).bind λx=>some (x.1,x.2.1,x.2.2.1,x.2.2.2)
def X5 (x:List UInt8):Option (List UInt8 ⊕ List UInt8):=cond (!(decide ((x.length:Int).tmod 8=0))) (app x [(0:UInt8)] λm=>some (.inl m)) (some (.inr x))
def Ku (y:List UInt8)(a:UInt32×UInt32×UInt32×UInt32):Option ((UInt32×UInt32×UInt32×UInt32) ⊕ Unit):=slc y 0 4 λm=>(Up m).bind λb=>slc y 4 (y.length:Int) λc=>(Up c).bind λd=>(Yt (a.1^^^b) a.2.1 (a.2.2.1^^^d) a.2.2.2 4).bind λx=>some (.inl (x.1,x.2.1,x.2.2.1,x.2.2.2))
def Uq (a:List UInt8):Option (UInt32×UInt32×UInt32×UInt32):=(Za a).bind λd=>(YY d).bind λe=>chk (0< [(1:UInt8)].length)<|app e [(1:UInt8)] λm=>(loop (X5) m).bind λf=>(Zm f 8).bind λc=>Option.bind (chunkR c.1 c.2 (Ku) ((1:UInt32),(2:UInt32),(3:UInt32),(4:UInt32)))<|Sum.elim (λx=>(Yt x.1 (x.2.1^^^(u32i (a.length:Int))) x.2.2.1 x.2.2.2 8).bind λb=>some (b.1,b.2.1,b.2.2.1,b.2.2.2)) (λ_=>none)
def BW (a:List UInt8):Option UInt32:=(Uq a).bind λx=>some x.1
def Vr (a:Store)(b:Ptr):Option (List UInt8×Int):=Option.bind (α:=Bool) ((Y3 a).bind λd=>cond (!(decide (d=0))) (some true) ((YF b).bind λe=>some (!(decide (e=0)))))<|λf=>cond f (some ([],8)) (cond (decide (b.At=0)&&(decide (b.Birth=0)&&(decide (b.Iv=0)&&(decide (b.Tag=0)&&(decide (b.Sum=0)&&true))))) (some ([],6)) ((ZAW a.Disk b.At).bind λx=>Option.bind (α:=Bool) (cond (decide (x.2=0)) ((BW x.1).bind λg=>some (!(decide (g=b.Sum)))) (some false))<|λh=>Option.bind (α:=(List UInt8×Int)) (cond h (some ([],130)) (some (x.1,x.2)))<|λc=>some (c.1,c.2)))
def ZBD:Option Unit:=some ()
def D6 (a:List UInt8):Option (Ptr×Int):=cond (!(decide ((a.length:Int)=16))) (some (Ptr.mk 0 0 0 0 0,3)) ((ZBD).bind λg=>(Qu a 0 1).bind λx=>(Qu a 1 3).bind λb=>(Qu a 4 4).bind λc=>(Qu a 8 4).bind λd=>(Qu a 12 4).bind λe=>(YF (Ptr.mk x.1 (u32i b.1) (u32i c.1) (u32i d.1) (u32i e.1))).bind λf=>cond (!(decide (f=0))) (some (Ptr.mk 0 0 0 0 0,f)) (some (Ptr.mk x.1 (u32i b.1) (u32i c.1) (u32i d.1) (u32i e.1),0)))
def ZFH (y:List UInt8)(a:List Ptr):Option (List Ptr ⊕ Int):=(D6 y).bind λx=>cond (!(decide (x.2=0))) (some (.inr x.2)) (app a [x.1] λm=>some (.inl m))
def D5 (a:List UInt8):Option (List Ptr×Int):=cond (!(decide ((a.length:Int)=256))) (some ([],3)) ((Zm a 16).bind λx=>Option.bind (chunkR x.1 x.2 (ZFH) [])<|Sum.elim (λb=>some (b,0)) (λc=>some ([],c)))
def Dw (a:Store)(b:Ptr):Option (List Ptr×Int):=Option.bind (α:=Bool) ((Y3 a).bind λd=>cond (!(decide (d=0))) (some true) ((YF b).bind λe=>some (!(decide (e=0)))))<|λf=>cond f (some ([],8)) (cond (decide (b.At=0)&&(decide (b.Birth=0)&&(decide (b.Iv=0)&&(decide (b.Tag=0)&&(decide (b.Sum=0)&&true))))) (mks 16 (Ptr.mk 0 0 0 0 0) λm=>some (m,0)) ((Vr a b).bind λx=>cond (!(decide (x.2=0))) (some ([],x.2)) ((D5 x.1).bind λc=>cond (!(decide (c.2=0))) (some ([],8)) (some (c.1,0)))))
def Kb (a:Change)(b:Int):Option (Bool×Int):=some (!(decide (a.Obj=b)),b)
def XM (a:List Change)(x:Int×Int):Option ((Int×Int) ⊕ ((Int×Int) ⊕ Int)):=cond (decide (x.2<(a.length:Int))) (idx a x.2 λy=>(Kb y x.1).bind λb=>cond b.1 (some (.inr (.inl (b.2,x.2)))) (some (.inl (b.2,w64 (x.2+1))))) (some (.inr (.inr x.1)))
def Zz (a:List Change)(b:Int):Option (Int×Int):=Option.bind (loop (XM a) (b,0))<|Sum.elim (λx=>some (x.2,x.1)) (λc=>some ((-1),c))
def Qj (a:List UInt8)(b:Int):Option (List UInt8×Int):=cond (decide (b<1)) (none) (some (a,b))
def ZG9 (y:List UInt8)(a:List Ptr):Option (List Ptr ⊕ Int):=(D6 y).bind λx=>cond (!(decide (x.2=0))) (some (.inr x.2)) (app a [x.1] λm=>some (.inl m))
def D4 (a:List UInt8):Option (List Ptr×Int):=cond (!(decide ((a.length:Int)=256))) (some ([],3)) ((Qj a 16).bind λx=>Option.bind (chunkR x.1 x.2 (ZG9) [])<|Sum.elim (λb=>some (b,0)) (λc=>some ([],c)))
def XW (a:Int)(b:Int)(c:Int):Option Bool:=cond (decide (b<=a)) (some (decide (a<=c))) (some false)
def WZ (a:Ptr):Option Bool:=(YF a).bind λx=>some (!(decide (x=0)))
def Qb (a:List Ptr)(x:Nat):Option (Nat ⊕ (Nat ⊕ Unit)):=cond (decide ((x:Int)<(a.length:Int))) (chk (0<=(x:Int)/\(x:Int).toNat<a.length)<|idx a (x:Int) λy=>(WZ y).bind λb=>cond b (some (.inr (.inl x))) (some (.inl (x+1)))) (some (.inr (.inr ())))
def Xj (a:List Ptr):Option (Int×List Ptr):=Option.bind (loop (Qb a) 0)<|Sum.elim (λx=>some ((x:Int),a)) (λb=>some ((-1),a))
def Y0 (a:List Ptr):Option (Bool×List Ptr):=(Xj a).bind λx=>some (decide (0<=x.1),x.2)
def Gt (a:Object):Option (Int×List Ptr):=Option.bind (α:=(Object×Bool)) ((XW (a.Kind.toNat:Int) 1 7).bind λc=>cond (!c) (some (a,true)) ((XW a.Links 0 255).bind λd=>cond (!d) (some (a,true)) ((XW a.Size 0 3840).bind λe=>cond (!e) (some (a,true)) (cond (!(decide ((a.Data.length:Int)=15))) (some (a,true)) ((Y0 a.Data).bind λb=>some (Object.mk a.Kind a.Links a.Size b.2,b.1))))))<|λx=>cond x.2 (some (8,x.1.Data)) (some (0,x.1.Data))
def Gs (a:List UInt8):Option (Object×Int):=cond (!(decide ((a.length:Int)=256))) (some (Object.mk 0 0 0 [],3)) (idx a 0 λo=>idx a 1 λp=>idx a 2 λv=>idx a 3 λw=>idx a 4 λq=>idx a 5 λr=>idx a 6 λs=>idx a 7 λt=>idx a 8 λu=>idx a 9 λy=>idx a 10 λd=>idx a 11 λe=>idx a 12 λf=>idx a 13 λg=>idx a 14 λh=>idx a 15 λi=>chk ((a.length:Int)=(a.length:Int))<|slc a 16 (a.length:Int) λj=>mks 16 (0:UInt8) λm=>chk (0<m.length)<|app j m λk=>(D4 k).bind λb=>Option.bind (α:=Bool) (cond (!(decide (b.2=0))) (some true) (some (!(decide ([q,r,s,t,u,y,d,e,f,g,h,i]= [(0:UInt8),(0:UInt8),(0:UInt8),(0:UInt8),(0:UInt8),(0:UInt8),(0:UInt8),(0:UInt8),(0:UInt8),(0:UInt8),(0:UInt8),(0:UInt8)])))))<|λl=>cond l (some (Object.mk 0 0 0 [],8)) ((Qu a 2 2).bind λn=>Option.bind (α:=Object) (chk (0<=(15:Int)/\15<=(b.1.length:Int))<|some (Object.mk o (p.toNat:Int) n.1 (b.1.take 15)))<|λx=>(Gt x).bind λc=>cond (!(decide (c.1=0))) (some (Object.mk 0 0 0 [],8)) (some (Object.mk x.Kind x.Links x.Size c.2,0))))
def ZGY (a:Store)(b:Ptr):Option (Object×Int):=(Vr a b).bind λx=>cond (!(decide (x.2=0))) (some (Object.mk 0 0 0 [],x.2)) ((Gs x.1).bind λc=>cond (!(decide (c.2=0))) (some (Object.mk 0 0 0 [],8)) (some (c.1,0)))
def Uh (a:Store)(b:Ptr)(c:Int):Option (Object×Int):=Option.bind (α:=Bool) ((Y3 a).bind λe=>cond (!(decide (e=0))) (some true) ((YF b).bind λf=>some (!(decide (f=0)))))<|λg=>cond g (some (Object.mk 0 0 0 [],8)) (Option.bind (α:=Bool) (cond (decide (c<0)) (some true) (some (decide (16<=c))))<|λh=>cond h (some (Object.mk 0 0 0 [],2)) ((Dw a b).bind λx=>cond (!(decide (x.2=0))) (some (Object.mk 0 0 0 [],x.2)) (chk (0<=c/\c.toNat<x.1.length)<|idx x.1 c λy=>(ZGY a y).bind λd=>some (d.1,d.2))))
def Ke (a:List UInt8)(b:Int):Option (List UInt8×Int):=(Qi a).bind λc=>cond (!(decide (c=0))) (some ([],8)) (Option.bind (α:=Bool) (cond (decide (b<12)) (some true) (some (decide (256<=b))))<|λd=>cond d (some ([],2)) (idx a b λy=>cond (!(decide (y=1))) (some ([],6)) ((Zs a).bind λx=>chk (0<=b/\b.toNat<x.length)<|setI x b (2:UInt8) λm=>some (m,0))))
def ZZ (a:List Line)(b:Int)(x:Int×Int):Option ((Int×Int) ⊕ Int):=cond (decide (x.1<x.2)) (chk (0<=(1:Int))<|chk (0<=w64 ((sr64 (u64i (w64 (x.1+x.2))) 1).toNat:Int)/\(w64 ((sr64 (u64i (w64 (x.1+x.2))) 1).toNat:Int)).toNat<a.length)<|idx a (w64 ((sr64 (u64i (w64 (x.1+x.2))) 1).toNat:Int)) λy=>(XA y b).bind λc=>cond (decide (c<0)) (some (.inl (w64 ((w64 ((sr64 (u64i (w64 (x.1+x.2))) 1).toNat:Int))+1),x.2))) (some (.inl (x.1,w64 ((sr64 (u64i (w64 (x.1+x.2))) 1).toNat:Int))))) (some (.inr x.1))
def Zw (a:List Line)(b:Int):Option (Int×Bool×List Line):=(loop (ZZ a b) (0,(a.length:Int))).bind λx=>cond (decide (x<(a.length:Int))) (chk (0<=x/\x.toNat<a.length)<|idx a x λy=>(XA y b).bind λc=>some (x,decide (c=0),a)) (some (x,false,a))
def JQ (a:List Line)(b:Int):Option (Option Int×List Line):=(Zw a b).bind λx=>cond (!x.2.1) (some (none,x.2.2)) (chk (0<=x.1/\x.1.toNat<x.2.2.length)<|some (some x.1,x.2.2))
def G5 (a:List Ptr)(x:Nat):Option (Nat ⊕ (Unit ⊕ Unit)):=cond (decide ((x:Int)<(a.length:Int))) (chk (0<=(x:Int)/\(x:Int).toNat<a.length)<|idx a (x:Int) λy=>Option.bind (α:=Bool) (cond (decide (y.At=0)&&(decide (y.Birth=0)&&(decide (y.Iv=0)&&(decide (y.Tag=0)&&(decide (y.Sum=0)&&true))))) (some true) ((YF y).bind λb=>cond (!(decide (b=0))) (some true) (cond (decide (0<(x:Int))) (chk (0<=w64 ((x:Int)-1)/\(w64 ((x:Int)-1)).toNat<a.length)<|idx a (w64 ((x:Int)-1)) λc=>(Ki c y).bind λd=>some (decide (0<=d))) (some false))))<|λe=>cond e (some (.inr (.inl ()))) (some (.inl (x+1)))) (some (.inr (.inr ())))
def QX (a:List Ptr):Option (Int×List Ptr):=cond (decide (240<(a.length:Int))) (some (8,a)) (Option.bind (loop (G5 a) 0)<|Sum.elim (λx=>some (8,a)) (λb=>some (0,a)))
def KF (a:List (List Ptr))(x:Int×Int):Option ((Int×Int) ⊕ Int):=cond (decide (x.2<(a.length:Int))) (chk (0<=x.2/\x.2.toNat<a.length)<|idx a x.2 λy=>cond (decide (w64 (x.1+(y.length:Int))<0)) (none) (some (.inl (w64 (x.1+(y.length:Int)),w64 (x.2+1))))) (some (.inr x.1))
def KE (a:List (List Ptr))(x:List Ptr×Int):Option ((List Ptr×Int) ⊕ List Ptr):=cond (decide (x.2<(a.length:Int))) (chk (0<=x.2/\x.2.toNat<a.length)<|idx a x.2 λy=>app x.1 y λm=>some (.inl (m,w64 (x.2+1)))) (some (.inr x.1))
def YS (a:List (List Ptr)):Option (List Ptr×List (List Ptr)):=(loop (KF a) (0,0)).bind λx=>(YC x).bind λb=>(loop (KE a) (b,0)).bind λc=>some (c,a)
def YD (a:List Ptr):Option (List Ptr×List Ptr):=app [] a λm=>some (m,a)
def Wn (a:Ptr)(b:Ptr):Option Bool:=some (decide (a.At=b.At))
def Yh (x:List Ptr×Int×Int×Int):Option ((List Ptr×Int×Int×Int) ⊕ (List Ptr×Int)):=cond (decide (x.2.2.2<(x.1.length:Int)-x.2.2.1)) (chk (0<=x.2.2.2/\x.2.2.2<(x.1.length:Int)-x.2.2.1)<|idx x.1 (x.2.2.1+x.2.2.2) λy=>chk (0<=w64 (x.2.2.2-1)/\(w64 (x.2.2.2-1))<(x.1.length:Int)-x.2.2.1)<|idx x.1 (x.2.2.1+(w64 (x.2.2.2-1))) λb=>(Wn y b).bind λc=>Option.bind (α:=(List Ptr×Int×Int)) (cond (!c) (chk (0<=x.2.2.2/\x.2.2.2<(x.1.length:Int)-x.2.2.1)<|idx x.1 (x.2.2.1+x.2.2.2) λd=>chk (0<=x.2.1/\x.2.1.toNat<x.1.length)<|setI x.1 x.2.1 d λm=>some (m,w64 (x.2.1+1),x.2.2.1)) (some (x.1,x.2.1,x.2.2.1)))<|λa=>some (.inl (a.1,a.2.1,a.2.2,w64 (x.2.2.2+1)))) (some (.inr (x.1,x.2.1)))
abbrev WW:=@Yh
def X3 (x:List Ptr×Int):Option ((List Ptr×Int) ⊕ (List Ptr ⊕ List Ptr)):=cond (decide (x.2<(x.1.length:Int))) (chk (0<=x.2/\x.2.toNat<x.1.length)<|idx x.1 x.2 λy=>chk (0<=w64 (x.2-1)/\(w64 (x.2-1)).toNat<x.1.length)<|idx x.1 (w64 (x.2-1)) λb=>(Wn y b).bind λc=>cond c (chk (0<=x.2/\x.2<=(x.1.length:Int))<|(loop (WW) (x.1,x.2,x.2,1)).bind λa=>chk (0<=a.2/\a.2<=(a.1.length:Int))<|slc (clr a.1 a.2.toNat a.1.length (Ptr.mk 0 0 0 0 0)) 0 a.2 λm=>some (.inr (.inl m))) (some (.inl (x.1,w64 (x.2+1))))) (some (.inr (.inr x.1)))
def Zy (a:List Ptr):Option (List Ptr):=cond (decide ((a.length:Int)<2)) (some a) (Option.bind (loop (X3) (a,1))<|Sum.elim (λx=>some x) (λb=>some b))
def ZAY (q:(List Ptr)->Option Int)(e:(List Ptr)->Option (Int×List Ptr))(f:(List (List Ptr))->Option (List Ptr×List (List Ptr)))(g:(List Ptr)->Option (List Ptr))(h:(List Ptr)->Option (List Ptr×List Ptr))(i:(List Ptr)->Option (List Ptr))(a:List Ptr)(b:List Ptr):Option (List Ptr×Int):=Option.bind (α:=(List Ptr×Bool)) ((q a).bind λj=>cond (!(decide (j=0))) (some (b,true)) ((e b).bind λc=>some (c.2,!(decide (c.1=0)))))<|λd=>cond d.2 (some ([],8)) ((f [a,d.1]).bind λk=>(g k.1).bind λl=>(h l).bind λx=>(i x.1).bind λm=>cond (decide ((m.length:Int)<(x.2.length:Int))) (some ([],2)) (cond (decide (240<(x.2.length:Int))) (some ([],9)) (some (x.2,0))))
def ZE2 (a:List Ptr)(b:List Ptr):Option (List Ptr×Int):=ZAY Kj QX YS ZJy YD Zy a b
def ZD9 (a:List Ptr)(b:Ptr):Option (List Ptr×Int):=(QX [b]).bind λc=>cond (!(decide (c.1=0))) (some ([],8)) ((ZE2 a [b]).bind λx=>some (x.1,x.2))
def Xi (a:Int)(b:Ptr)(c:Pool×UInt32×Int):Option (Pool×UInt32×Int):=Option.bind (α:=Bool) (cond (!(decide (c.2.2=0))) (some true) (some (decide (b.At=0)&&(decide (b.Birth=0)&&(decide (b.Iv=0)&&(decide (b.Tag=0)&&(decide (b.Sum=0)&&true)))))))<|λk=>cond k (some c) (idx c.1.Lines a λl=>(JQ c.1.Lines l.Prev).bind λf=>Option.bind (α:=UInt32) (cond (!f.1.isNone) (Option.bind f.1 λn=>idx f.2 n λo=>some o.Txg) (some (0:UInt32)))<|λp=>Option.bind (α:=(Store×UInt32×Ptr×List Line×List Change×Int×Int×UInt32×UInt32×Int×Int)) (cond (decide (p<b.Birth)) ((Ke c.1.Store.Space b.At).bind λh=>Option.bind (α:=(Store×UInt32×Ptr×List Change×Int×Int×UInt32×UInt32×Int)) (cond (decide (h.2=0)) (some (Store.mk c.1.Store.Disk h.1 c.1.Store.Epoch c.1.Store.Count,c.1.Gen,c.1.Root,c.1.Changes,c.1.Logged,c.1.NextId,c.1.NextGuid,c.2.1,c.2.2)) (some (c.1.Store,c.1.Gen,c.1.Root,c.1.Changes,c.1.Logged,c.1.NextId,c.1.NextGuid,c.2.1,c.2.2)))<|λe=>some (e.1,e.2.1,e.2.2.1,f.2,e.2.2.2.1,e.2.2.2.2.1,e.2.2.2.2.2.1,e.2.2.2.2.2.2.1,e.2.2.2.2.2.2.2.1,e.2.2.2.2.2.2.2.2,h.2)) (idx f.2 a λi=>(ZD9 i.Dead b).bind λg=>Option.bind (α:=(Store×UInt32×Ptr×List Line×List Change×Int×Int×UInt32×UInt32×Int)) (cond (decide (g.2=0)) (idx f.2 a λy=>setI f.2 a (Line.mk y.Id y.Kind y.Owner y.Prev y.Txg y.Guid y.Key y.Root g.1) λm=>some (c.1.Store,c.1.Gen,c.1.Root,m,c.1.Changes,c.1.Logged,c.1.NextId,c.1.NextGuid,c.2.1,c.2.2)) (some (c.1.Store,c.1.Gen,c.1.Root,f.2,c.1.Changes,c.1.Logged,c.1.NextId,c.1.NextGuid,c.2.1,c.2.2)))<|λd=>some (d.1,d.2.1,d.2.2.1,d.2.2.2.1,d.2.2.2.2.1,d.2.2.2.2.2.1,d.2.2.2.2.2.2.1,d.2.2.2.2.2.2.2.1,d.2.2.2.2.2.2.2.2.1,d.2.2.2.2.2.2.2.2.2,g.2)))<|λx=>Option.bind (α:=Bool) (cond (decide (x.2.2.2.2.2.2.2.2.2.2=0)) (some true) (some (decide (x.2.2.2.2.2.2.2.2.2.2=9))))<|λj=>cond j (some (Pool.mk x.1 x.2.1 x.2.2.1 c.1.MetaL x.2.2.2.1 c.1.Keys c.1.Loaded x.2.2.2.2.1 x.2.2.2.2.2.1 x.2.2.2.2.2.2.1 x.2.2.2.2.2.2.2.1,(x.2.2.2.2.2.2.2.2.1,x.2.2.2.2.2.2.2.2.2.2))) (some (Pool.mk x.1 x.2.1 x.2.2.1 c.1.MetaL x.2.2.2.1 c.1.Keys c.1.Loaded x.2.2.2.2.1 x.2.2.2.2.2.1 x.2.2.2.2.2.2.1 x.2.2.2.2.2.2.2.1,(x.2.2.2.2.2.2.2.2.1,8))))
def Do (d:List (List UInt8))(x:Int×Nat):Option ((Int×Nat) ⊕ (Unit ⊕ Unit)):=cond (decide ((x.2:Int)<(d.length:Int))) (idx d (x.2:Int) λy=>cond (!(decide ((y.length:Int)=x.1))) (some (.inr (.inl ()))) (some (.inl (256,x.2+1)))) (some (.inr (.inr ())))
def WV (a:Store)(b:UInt32)(c:Int)(d:List (List UInt8)):Option Int:=(Y3 a).bind λx=>cond (!(decide (x=0))) (some x) (Option.bind (α:=Bool) (cond (decide (b<1)) (some true) (some (decide (16777215<b))))<|λe=>cond e (some 2) (Option.bind (loop (Do d) (c,0))<|Sum.elim (λf=>some 3) (λg=>some 0)))
def ZFe (b:Int)(x:Int×List UInt8):Option ((Int×List UInt8) ⊕ List UInt8):=cond (decide ((x.2.length:Int)<b)) (app x.2 [u8i x.1] λm=>some (.inl (w64 (x.1.tdiv 256),m))) (some (.inr x.2))
def Zk (a:Int)(b:Int):Option (List UInt8×Int):=Option.bind (α:=Bool) ((U1 b).bind λx=>cond (!x) (some true) (cond (decide (a<0)) (some true) (chk (0<=w64 (8*b))<|some (decide (sli 1 (w64 (8*b))<=a)))))<|λc=>cond c (some ([],2)) ((loop (ZFe b) (a,[])).bind λd=>some (d,0))
def GN (a:List UInt8)(b:UInt32):Option (List UInt8×List UInt8):=(Zk (b.toNat:Int) 4).bind λx=>some (a,x.1)
def G9 (c:Int)(y:List UInt8)(x:List UInt8):Option (List UInt8 ⊕ List UInt8):=cond (decide (c<=(x.length:Int))) (some (.inr x)) (app x y λm=>some (.inl m))
def W6 (p:List UInt8->List UInt8->Go.Pv.Rn (List UInt8))(a:List UInt8)(b:UInt32)(c:Int):Option (List UInt8×Int):=Option.bind (α:=Bool) (cond (!(decide ((a.length:Int)=16))) (some true) (cond (decide (c<0)) (some true) (some (decide (4096<c)))))<|λe=>cond e (some ([],2)) ((GN a b).bind λd=>Option.bind (p d.1 d.2 _ _ (G9 c) [])<|Sum.elim (λf=>slc f 0 c λg=>(Za g).bind λh=>some (h,0)) (λi=>slc i 0 c λm=>(Za m).bind λx=>some (x,0)))
def Vh (a:List (List UInt8))(x:Int×Int):Option ((Int×Int) ⊕ Int):=cond (decide (x.2<(a.length:Int))) (idx a x.2 λy=>cond (decide (w64 (x.1+(y.length:Int))<0)) (none) (some (.inl (w64 (x.1+(y.length:Int)),w64 (x.2+1))))) (some (.inr x.1))
def Vg (a:List (List UInt8))(x:List UInt8×Int):Option ((List UInt8×Int) ⊕ List UInt8):=cond (decide (x.2<(a.length:Int))) (idx a x.2 λy=>app x.1 y λm=>some (.inl (m,w64 (x.2+1)))) (some (.inr x.1))
def ZR (a:List (List UInt8)):Option (List UInt8):=(loop (Vh a) (0,0)).bind λx=>(Z5 x).bind λb=>(loop (Vg a) (b,0)).bind λc=>some c
def Jh (a:List UInt8):Option (List UInt8):=(Uq a).bind λx=>(Zk (x.1.toNat:Int) 4).bind λb=>app [] b.1 λm=>(Zk (x.2.1.toNat:Int) 4).bind λc=>app m c.1 λd=>(Zk (x.2.2.1.toNat:Int) 4).bind λe=>app d e.1 λf=>(Zk (x.2.2.2.toNat:Int) 4).bind λg=>app f g.1 λh=>some h
def pcR (k f:List UInt8):Go.Pv.Rn (List UInt8):=λ_ _ b s=>pcP Zk ZR Jh b s k f
def WK (a:List UInt8)(b:UInt32)(c:Int):Option (List UInt8×Int):=W6 pcR a b c
def ZAe (c:List UInt8)(x:List UInt8×Int):Option ((List UInt8×Int) ⊕ List UInt8):=cond (decide (x.2<(c.length:Int))) (idx c x.2 λy=>chk (0<=x.2/\x.2.toNat<x.1.length)<|idx x.1 x.2 λa=>chk (0<=x.2/\x.2.toNat<x.1.length)<|setI x.1 x.2 (a^^^y) λm=>some (.inl (m,w64 (x.2+1)))) (some (.inr x.1))
def Jr (a:List UInt8)(b:UInt32)(c:List UInt8):Option (List UInt8×Int):=cond (!(decide ((a.length:Int)=16))) (some ([],2)) (cond (decide (4096<(c.length:Int))) (some ([],3)) ((WK a b (c.length:Int)).bind λx=>(loop (ZAe c) (x.1,0)).bind λd=>some (d,x.2)))
def WX (a:List UInt8)(b:UInt32)(c:List UInt8):Option (List UInt8×Int):=Option.bind (α:=Bool) (cond (decide ((a.length:Int)=16)) (some (decide (256<(c.length:Int)))) (some false))<|λd=>cond d (some ([],3)) ((Jr a b c).bind λx=>some (x.1,x.2))
def ZBG (a:List (List UInt8)):Option (List UInt8):=(ZR a).bind λx=>(Jh x).bind λb=>some b
def ZEq (q:(List (List UInt8))->Option (List UInt8))(c:(List (List UInt8))->Option (List UInt8))(d:(List UInt8)->Option UInt32)(a:List UInt8)(b:List UInt8):Option (UInt32×Int):=cond (!(decide ((a.length:Int)=16))) (some ((0:UInt32),2)) ((q [a,[(1:UInt8)],b]).bind λx=>(c [a,[(2:UInt8)],x]).bind λe=>(d e).bind λf=>some (f,0))
def ZDg (a:List UInt8)(b:List UInt8):Option (UInt32×Int):=ZEq ZBG ZR BW a b
def GD (q:Int->Int->Option (List UInt8×Int))(e:(List (List UInt8))->Option (List UInt8))(f:(List UInt8)->(List UInt8)->Option (UInt32×Int))(a:List UInt8)(b:UInt32)(c:List UInt8):Option (UInt32×Int):=(q (b.toNat:Int) 4).bind λx=>cond (!(decide (x.2=0))) (some ((0:UInt32),x.2)) ((e [x.1,c]).bind λg=>(f a g).bind λd=>some (d.1,d.2))
def JY (a:List UInt8)(b:UInt32)(c:List UInt8):Option (UInt32×Int):=GD Zk ZR ZDg a b c
def ZA9 (a:List UInt8)(b:UInt32)(c:List UInt8):Option (List UInt8×UInt32×Int):=(WX a b c).bind λx=>cond (!(decide (x.2=0))) (some ([],(0:UInt32),x.2)) ((JY a b x.1).bind λd=>some (x.1,d.1,d.2))
def ZCc (a:List UInt8):Option (List UInt8):=some a
def DG (b:List UInt8)(x:Int):Option (Int ⊕ ((Int×Int) ⊕ Int)):=cond (decide (x<(b.length:Int))) (idx b x λy=>cond (decide (y=0)) (some (.inr (.inl (x,x)))) (some (.inl (w64 (x+1))))) (some (.inr (.inr x)))
def BM (a:Int)(b:List UInt8):Option (Int×Int×List UInt8):=Option.bind (loop (DG b) (w64 (a+1)))<|Sum.elim (λx=>some (x.2,x.1,b)) (λc=>some ((-1),c,b))
def BN (a:List UInt8):Option (List UInt8×Int×Int):=(Qi a).bind λb=>cond (!(decide (b=0))) (some ([],0,b)) ((ZCc a).bind λd=>(BM (-1) d).bind λx=>cond (decide (x.1<0)) (some ([],0,9)) ((Zs a).bind λc=>chk (0<=x.1/\x.1.toNat<c.length)<|setI c x.1 (1:UInt8) λm=>some (m,x.1,0)))
def ZFa (a:Disk):Option (Disk×Disk):=some (a,a)
def Xy (a:Disk)(b:Bool)(c:Disk):Option (Disk×Int×Disk):=(Kv a).bind λx=>cond (!(decide (x=0))) (some (Disk.mk [] [],x,c)) (cond (!b) (some (Disk.mk [] [],2,c)) ((ZFa c).bind λd=>some (d.1,0,d.2)))
def YT (a:List Write):Option (List Write):=chk ((a.length:Int)=(a.length:Int))<|slc a 0 (a.length:Int) λm=>some m
def V0 (a:Disk)(b:Int)(c:List UInt8):Option (Disk×Int):=Option.bind (α:=(Disk×Int)) ((XT b).bind λg=>(Xy a g a).bind λf=>some (f.2.2,f.2.1))<|λx=>cond (!(decide (x.2=0))) (some (Disk.mk [] [],x.2)) (cond (!(decide ((c.length:Int)=256))) (some (Disk.mk [] [],3)) (cond (decide ((x.1.Waits.length:Int)=4096)) (some (Disk.mk [] [],9)) ((YT x.1.Waits).bind λd=>chk (0< [Write.mk b c].length)<|app d [Write.mk b c] λm=>(twinF (Disk.mk x.1.Blocks m)).bind λe=>some (e,0))))
def JW (g:{f:Type}->Option f->Option f->Option f)(a:Store)(b:Ptr)(c:List UInt8):Option (Store×Ptr×Int):=(fun(u:_->_)=>(BN a.Space).bind λx=>cond (!(decide (x.2.2=0))) (u x.2.2) ((V0 a.Disk x.2.1 c).bind λe=>cond (!(decide (e.2=0))) (u e.2) (Option.bind (α:=(Disk×UInt32×UInt32)) (g (some (e.1,a.Epoch,a.Count)) (some (e.1,a.Epoch,a.Count)))<|λd=>(BW c).bind λh=>g (some (Store.mk d.1 x.1 d.2.1 d.2.2,Ptr.mk x.2.1 b.Birth b.Iv b.Tag h,0)) (some (Store.mk d.1 x.1 d.2.1 d.2.2,Ptr.mk x.2.1 b.Birth b.Iv b.Tag h,0))))) λx=>some (Store.mk (Disk.mk [] []) [] 0 0,Ptr.mk 0 0 0 0 0,x)
def Vp (a:Store)(b:Ptr)(c:List UInt8):Option (Store×Ptr×Int):=JW (λa _=>a) a b c
def BL (a:Store)(b:UInt32)(c:List UInt8)(d:List UInt8):Option (Store×Ptr×Int):=(WV a b 16 [c,d]).bind λf=>cond (!(decide (f=0))) (some (Store.mk (Disk.mk [] []) [] 0 0,Ptr.mk 0 0 0 0 0,f)) (cond (decide (a.Count=65535)) (some (Store.mk (Disk.mk [] []) [] 0 0,Ptr.mk 0 0 0 0 0,132)) (chk (0<=(16:Int))<|(ZA9 c ((sl32 a.Epoch 16) |||(a.Count+(1:UInt32))) d).bind λx=>cond (!(decide (x.2.2=0))) (some (Store.mk (Disk.mk [] []) [] 0 0,Ptr.mk 0 0 0 0 0,x.2.2)) ((Vp (Store.mk a.Disk a.Space a.Epoch (a.Count+(1:UInt32))) (Ptr.mk 0 b ((sl32 a.Epoch 16) |||(a.Count+(1:UInt32))) x.2.1 0) x.1).bind λe=>some (e.1,e.2.1,e.2.2))))
def KB (a:Int)(b:Ptr)(c:Change)(d:Pool×UInt32×Int):Option (Ptr×(Pool×UInt32×Int)):=(Xi a b d).bind λx=>Option.bind (α:=Bool) (cond (!(decide (x.2.2=0))) (some true) (cond (decide ((c.Data.length:Int)=0)) (some true) (some (!(decide (c.Laid.At=0)&&(decide (c.Laid.Birth=0)&&(decide (c.Laid.Iv=0)&&(decide (c.Laid.Tag=0)&&(decide (c.Laid.Sum=0)&&true)))))))))<|λg=>cond g (some (c.Laid,x)) (idx x.1.Lines a λy=>chk (0<=y.Key/\y.Key.toNat<x.1.Loaded.length)<|idx x.1.Loaded y.Key λf=>cond (decide ((f.length:Int)=0)) (some (Ptr.mk 0 0 0 0 0,(x.1,(x.2.1,200)))) ((BL x.1.Store x.2.1 f c.Data).bind λe=>some (e.2.1,(Pool.mk e.1 x.1.Gen x.1.Root x.1.MetaL x.1.Lines x.1.Keys x.1.Loaded x.1.Changes x.1.Logged x.1.NextId x.1.NextGuid,(x.2.1,e.2.2)))))
def Xs (a:List Ptr)(x:Nat):Option (Nat ⊕ (Nat ⊕ Unit)):=cond (decide ((x:Int)<(a.length:Int))) (idx a (x:Int) λy=>(WZ y).bind λb=>cond b (some (.inr (.inl x))) (some (.inl (x+1)))) (some (.inr (.inr ())))
def Yz (a:List Ptr):Option Int:=Option.bind (loop (Xs a) 0)<|Sum.elim (λx=>some (x:Int)) (λb=>some (-1))
def YX (a:List Ptr):Option Bool:=(Yz a).bind λx=>some (decide (0<=x))
def UL (a:Object):Option Int:=Option.bind (α:=Bool) ((XW (a.Kind.toNat:Int) 1 7).bind λx=>cond (!x) (some true) ((XW a.Links 0 255).bind λb=>cond (!b) (some true) ((XW a.Size 0 3840).bind λc=>cond (!c) (some true) (cond (!(decide ((a.Data.length:Int)=15))) (some true) ((YX a.Data).bind λd=>some d)))))<|λe=>cond e (some 8) (some 0)
def Qy (a:Ptr):Option (List UInt8×Int):=(YF a).bind λc=>cond (!(decide (c=0))) (some ([],c)) ((ZBD).bind λk=>(Zk a.At 1).bind λd=>app [] d.1 λe=>(Zk (a.Birth.toNat:Int) 3).bind λf=>app e f.1 λg=>(Zk (a.Iv.toNat:Int) 4).bind λh=>app g h.1 λi=>(Zk (a.Tag.toNat:Int) 4).bind λj=>app i j.1 λm=>(Zk (a.Sum.toNat:Int) 4).bind λx=>app m x.1 λb=>some (b,0))
def Gn (a:List Ptr):Option (List UInt8×Int):=rwP Qy a
def ZBE (a:Object):Option (List UInt8×Int):=(UL a).bind λu=>cond (!(decide (u=0))) (some ([],u)) ((Zk a.Size 2).bind λv=>app [a.Kind,u8i a.Links] v.1 λc=>cpyO [(0:UInt8),(0:UInt8),(0:UInt8),(0:UInt8),(0:UInt8),(0:UInt8),(0:UInt8),(0:UInt8),(0:UInt8),(0:UInt8),(0:UInt8),(0:UInt8),(0:UInt8),(0:UInt8),(0:UInt8),(0:UInt8)] 0 (16:Int) c λm=>idx m 0 λy=>idx m 1 λd=>idx m 2 λe=>idx m 3 λf=>idx m 4 λg=>idx m 5 λh=>idx m 6 λi=>idx m 7 λj=>idx m 8 λk=>idx m 9 λl=>idx m 10 λn=>idx m 11 λo=>idx m 12 λp=>idx m 13 λq=>idx m 14 λr=>idx m 15 λs=>(Gn a.Data).bind λx=>cond (!(decide (x.2=0))) (some ([],x.2)) (slc x.1 0 240 λb=>chk (0<b.length)<|app [y,d,e,f,g,h,i,j,k,l,n,o,p,q,r,s] b λt=>some (t,0)))
def ZEb (a:Store)(b:UInt32)(c:UInt32)(d:UInt32)(e:List UInt8):Option (Store×Ptr×Int):=(WV a b 256 [e]).bind λf=>cond (!(decide (f=0))) (some (Store.mk (Disk.mk [] []) [] 0 0,Ptr.mk 0 0 0 0 0,f)) ((Vp a (Ptr.mk 0 b c d 0) e).bind λx=>some (x.1,x.2.1,x.2.2))
def Ge (a:Store)(b:UInt32)(c:List UInt8):Option (Store×Ptr×Int):=(ZEb a b (0:UInt32) (0:UInt32) c).bind λx=>some (x.1,x.2.1,x.2.2)
def QC (a:List UInt8)(b:Pool×UInt32×Int):Option (Ptr×(Pool×UInt32×Int)):=cond (decide (b.2.2=0)) ((Ge b.1.Store b.2.1 a).bind λx=>some (x.2.1,(Pool.mk x.1 b.1.Gen b.1.Root b.1.MetaL b.1.Lines b.1.Keys b.1.Loaded b.1.Changes b.1.Logged b.1.NextId b.1.NextGuid,(b.2.1,x.2.2)))) (some (Ptr.mk 0 0 0 0 0,b))
def Yf (g:{f:Type}->Option f->Option f->Option f)(d:List Change)(x:(Pool×UInt32×Int)×Ptr×Object×Int×Int):Option (((Pool×UInt32×Int)×Ptr×Object×Int×Int) ⊕ (((Pool×UInt32×Int)×Ptr×Object) ⊕ ((Pool×UInt32×Int)×Ptr×Object×Int))):=(fun(i:_->_->_->_)=>(fun(e:_->_->_->_)=>(fun(u:_->_->_)=>(fun(j:_->_->_->_)=>cond (decide (x.2.2.2.2<(d.length:Int))) (idx d x.2.2.2.2 λy=>cond (!(decide (x.1.2.2=0))) (some (.inr (.inl (x.1,Ptr.mk 0 0 0 0 0,x.2.2.1)))) (cond (decide (y.Index=15)) (g (g (u x y) (g (u x y) (u x y))) (g (g (u x y) (u x y)) (g (g (u x y) (u x y)) (u x y)))) (chk (0<=y.Index/\y.Index.toNat<x.2.2.1.Data.length)<|idx x.2.2.1.Data y.Index λa=>g (g (e x a y) (e x a y)) (g (g (e x a y) (e x a y)) ((KB x.2.2.2.1 a y x.1).bind λb=>g (j y x b) (j y x b)))))) (some (.inr (.inr (x.1,x.2.1,x.2.2.1,x.2.2.2.1))))) λy x b=>chk (0<=y.Index/\y.Index.toNat<x.2.2.1.Data.length)<|setI x.2.2.1.Data y.Index b.1 λh=>some (i b.2 x h)) λx y=>some (.inl (x.1,x.2.1,Object.mk y.Kind y.Links y.Size x.2.2.1.Data,x.2.2.2.1,w64 (x.2.2.2.2+1)))) λx a y=>(KB x.2.2.2.1 a y x.1).bind λc=>chk (0<=y.Index/\y.Index.toNat<x.2.2.1.Data.length)<|setI x.2.2.1.Data y.Index c.1 λm=>some (i c.2 x m)) λc x m=>.inl (c,x.2.1,Object.mk x.2.2.1.Kind x.2.2.1.Links x.2.2.1.Size m,x.2.2.2.1,w64 (x.2.2.2.2+1))
def Ye (g:{b:Type}->Option b->Option b->Option b)(a:(Pool×UInt32×Int)×Ptr×Object×Int)(x:(Pool×UInt32×Int)×Int×Int):Option (((Pool×UInt32×Int)×Int×Int) ⊕ (Pool×UInt32×Int)):=cond (decide (x.2.2<(a.2.2.1.Data.length:Int))) (chk (0<=x.2.2/\x.2.2.toNat<a.2.2.1.Data.length)<|idx a.2.2.1.Data x.2.2 λy=>(Xi x.2.1 y x.1).bind λc=>some (.inl (c,x.2.1,w64 (x.2.2+1)))) (some (.inr x.1))
def QZ (g:{k:Type}->Option k->Option k->Option k)(a:Int)(b:Ptr)(c:Ptr)(d:List Change)(e:Pool×UInt32×Int):Option (Ptr×(Pool×UInt32×Int)):=mks 15 (Ptr.mk 0 0 0 0 0) λo=>Option.bind (α:=(Store×UInt32×Ptr×List Change×Int×Int×UInt32×UInt32×Int×Object)) (cond (!(decide (c.At=0)&&(decide (c.Birth=0)&&(decide (c.Iv=0)&&(decide (c.Tag=0)&&(decide (c.Sum=0)&&true)))))) (idx d 0 λy=>(Uh e.1.Store b y.Obj).bind λn=>some (e.1.Store,e.1.Gen,e.1.Root,e.1.Changes,e.1.Logged,e.1.NextId,e.1.NextGuid,e.2.1,n.2,n.1)) (some (e.1.Store,e.1.Gen,e.1.Root,e.1.Changes,e.1.Logged,e.1.NextId,e.1.NextGuid,e.2.1,e.2.2,Object.mk 0 0 0 o)))<|λf=>Option.bind (loop (Yf g d) ((Pool.mk f.1 f.2.1 f.2.2.1 e.1.MetaL e.1.Lines e.1.Keys e.1.Loaded f.2.2.2.1 f.2.2.2.2.1 f.2.2.2.2.2.1 f.2.2.2.2.2.2.1,(f.2.2.2.2.2.2.2.1,f.2.2.2.2.2.2.2.2.1)),Ptr.mk 0 0 0 0 0,f.2.2.2.2.2.2.2.2.2,a,0))<|Sum.elim (λh=>some (h.2.1,h.1)) (λx=>(Xi x.2.2.2 c x.1).bind λi=>cond (decide (x.2.2.1.Kind=0)) ((loop (Ye g x) (i,x.2.2.2,0)).bind λl=>some (Ptr.mk 0 0 0 0 0,l)) ((ZBE x.2.2.1).bind λm=>(QC m.1 i).bind λj=>some (j.1,j.2)))
def XR (a:Int)(b:Ptr)(c:Ptr)(d:List Change)(e:Pool×UInt32×Int):Option (Ptr×(Pool×UInt32×Int)):=QZ (λa _=>a) a b c d e
def KZ (a:Ptr):Option Bool:=some (!(decide (a.At=0)&&(decide (a.Birth=0)&&(decide (a.Iv=0)&&(decide (a.Tag=0)&&(decide (a.Sum=0)&&true))))))
def Xr (a:List Ptr)(x:Nat):Option (Nat ⊕ (Nat ⊕ Unit)):=cond (decide ((x:Int)<(a.length:Int))) (idx a (x:Int) λy=>(KZ y).bind λb=>cond b (some (.inr (.inl x))) (some (.inl (x+1)))) (some (.inr (.inr ())))
def Yy (a:List Ptr):Option Int:=Option.bind (loop (Xr a) 0)<|Sum.elim (λx=>some (x:Int)) (λb=>some (-1))
def Z1 (a:List Ptr):Option Bool:=(Yy a).bind λx=>some (decide (0<=x))
def YR (g:{f:Type}->Option f->Option f->Option f)(x:(Pool×UInt32×Int)×Int×List Change×List Ptr):Option (((Pool×UInt32×Int)×Int×List Change×List Ptr) ⊕ ((Pool×UInt32×Int)×Int×List Ptr)):=(fun(u:_->_->_->_->_->_)=>Option.bind (α:=Bool) (cond (decide (0<(x.2.2.1.length:Int))) (some (decide (x.1.2.2=0))) (some false))<|λj=>cond j (idx x.2.2.1 0 λk=>(Zz x.2.2.1 k.Obj).bind λa=>Option.bind (α:=Int) (cond (decide (a.1<0)) (some (x.2.2.1.length:Int)) (some a.1))<|λb=>Option.bind (α:=((Pool×UInt32×Int)×Int×List Ptr)) (idx x.1.1.Lines x.2.1 λy=>chk (0<=a.2/\a.2.toNat<x.2.2.2.length)<|idx x.2.2.2 a.2 λc=>chk (b=b)<|slc x.2.2.1 0 b λm=>g (u x y c m a) (u x y c m a))<|λd=>slc x.2.2.1 b (x.2.2.1.length:Int) λh=>some (.inl (d.1,d.2.1,h,d.2.2))) (some (.inr (x.1,x.2.1,x.2.2.2)))) λx y c m a=>(XR x.2.1 y.Root c m x.1).bind λe=>chk (0<=a.2/\a.2.toNat<x.2.2.2.length)<|setI x.2.2.2 a.2 e.1 λi=>some (e.2,x.2.1,i)
def YW (g:{i:Type}->Option i->Option i->Option i)(a:Int)(b:List Change)(c:Pool×UInt32×Int):Option (Pool×UInt32×Int):=(fun(u:_->_->_)=>Option.bind (α:=Bool) (cond (!(decide (c.2.2=0))) (some true) (some (decide ((b.length:Int)=0))))<|λo=>cond o (some c) (idx c.1.Lines a λp=>(Dw c.1.Store p.Root).bind λh=>cond (!(decide (h.2=0))) (some (c.1,(c.2.1,h.2))) ((loop (YR g) ((c.1,(c.2.1,h.2)),a,b,h.1)).bind λe=>idx e.1.1.Lines e.2.1 λj=>(Xi e.2.1 j.Root e.1).bind λx=>idx x.1.Lines e.2.1 λy=>setI x.1.Lines e.2.1 (Line.mk y.Id y.Kind y.Owner y.Prev y.Txg y.Guid y.Key (Ptr.mk 0 0 0 0 0) y.Dead) λm=>(Z1 e.2.2).bind λk=>cond k ((Gn e.2.2).bind λl=>(QC l.1 (u x m)).bind λd=>idx d.2.1.Lines e.2.1 λf=>setI d.2.1.Lines e.2.1 (Line.mk f.Id f.Kind f.Owner f.Prev f.Txg f.Guid f.Key d.1 f.Dead) λn=>some (Pool.mk d.2.1.Store d.2.1.Gen d.2.1.Root d.2.1.MetaL n d.2.1.Keys d.2.1.Loaded d.2.1.Changes d.2.1.Logged d.2.1.NextId d.2.1.NextGuid,d.2.2)) (some (u x m))))) λx m=>(Pool.mk x.1.Store x.1.Gen x.1.Root x.1.MetaL m x.1.Keys x.1.Loaded x.1.Changes x.1.Logged x.1.NextId x.1.NextGuid,x.2)
def Vn (a:Int)(b:List Change)(c:Pool×UInt32×Int):Option (Pool×UInt32×Int):=YW (λa _=>a) a b c
abbrev Vf:=@YW
def Zg (a:Int)(b:List Change)(c:Pool×UInt32×Int):Option (Pool×UInt32×Int):=Vf (λa _=>a) a b c
def Qk (a:List Ptr)(b:Int):Option (List Ptr×Int):=cond (decide (b<1)) (none) (some (a,b))
def Uv (a:List Ptr)(b:Store)(c:UInt32)(d:Ptr)(e:Int)(f:List Int):Option (Store×UInt32×Ptr×Int×List Int):=(Gn a).bind λg=>(Ge b c g.1).bind λx=>cond (decide (x.2.2=0)) (app f [x.2.1.At] λm=>some (x.1,c,x.2.1,x.2.2,m)) (some (x.1,c,x.2.1,x.2.2,f))
def KJ (g:{c:Type}->Option c->Option c->Option c)(y:List Ptr)(a:Store×UInt32×Store×Ptr×List Int×Int×List Ptr):Option ((Store×UInt32×Store×Ptr×List Int×Int×List Ptr) ⊕ (Store×UInt32×Store×Ptr×Int×List Ptr)):=(fun(u:_->_)=>(Uv y a.1 a.2.1 a.2.2.2.1 a.2.2.2.2.2.1 a.2.2.2.2.1).bind λx=>cond (!(decide (x.2.2.2.1=0))) (Option.bind (α:=(Store×Ptr×Int)) (g (u x.2.2.2.1) (g (u x.2.2.2.1) (g (u x.2.2.2.1) (u x.2.2.2.1))))<|λb=>some (.inr (x.1,x.2.1,b.1,b.2.1,b.2.2,a.2.2.2.2.2.2))) (app a.2.2.2.2.2.2 [x.2.2.1] λm=>some (.inl (x.1,x.2.1,a.2.2.1,x.2.2.1,x.2.2.2.2,x.2.2.2.1,m)))) λx=>some (Store.mk (Disk.mk [] []) [] 0 0,Ptr.mk 0 0 0 0 0,x)
def Bm (g:{i:Type}->Option i->Option i->Option i)(a:Store)(b:UInt32)(c:List Ptr):Option (Store×Ptr×List Int×Int):=(fun(h:_->_)=>(fun(u:_->_)=>Option.bind (α:=Bool) ((Y3 a).bind λk=>cond (!(decide (k=0))) (some true) ((Kj c).bind λl=>some (!(decide (l=0)))))<|λm=>cond m (some (Store.mk (Disk.mk [] []) [] 0 0,Ptr.mk 0 0 0 0 0,[],8)) (Option.bind (α:=Bool) (cond (decide (b<1)) (some true) (some (decide (16777215<b))))<|λn=>cond n (some (Store.mk (Disk.mk [] []) [] 0 0,Ptr.mk 0 0 0 0 0,[],2)) (cond (decide ((c.length:Int)=0)) ((Uf a).bind λo=>some (o,Ptr.mk 0 0 0 0 0,[],0)) ((Qk c 16).bind λj=>Option.bind (chunkR j.1 j.2 (KJ g) (a,b,Store.mk (Disk.mk [] []) [] 0 0,Ptr.mk 0 0 0 0 0,[],0,[]))<|Sum.elim (λd=>(Uv d.2.2.2.2.2.2 d.1 d.2.1 d.2.2.2.1 d.2.2.2.2.2.1 d.2.2.2.2.1).bind λx=>cond (!(decide (x.2.2.2.1=0))) (Option.bind (α:=(Store×Ptr×Int)) (g (h x.2.2.2.1) (g (h x.2.2.2.1) (g (h x.2.2.2.1) (h x.2.2.2.1))))<|λe=>some (e.1,e.2.1,[],e.2.2)) (g (g (u x) (g (u x) (u x))) (g (g (u x) (u x)) (g (g (u x) (u x)) (u x))))) (λf=>some (f.2.2.1,f.2.2.2.1,[],f.2.2.2.2.1)))))) λx=>some (x.1,x.2.2.1,x.2.2.2.2,0)) λx=>some (Store.mk (Disk.mk [] []) [] 0 0,Ptr.mk 0 0 0 0 0,x)
def Uw (a:Store)(b:UInt32)(c:List Ptr):Option (Store×Ptr×List Int×Int):=Bm (λa _=>a) a b c
def Gb:Option (List Int):=some [1,1,1,1,3,4,1]
def ZGx (a:List Int)(b:List Int)(x:List UInt8×Nat):Option ((List UInt8×Nat) ⊕ List UInt8):=cond (decide ((x.2:Int)<(b.length:Int))) (idx b (x.2:Int) λy=>idx a (x.2:Int) λc=>(Zk y c).bind λd=>app x.1 d.1 λm=>some (.inl (m,x.2+1))) (some (.inr x.1))
def BK (a:List Int)(b:List Int):Option (List UInt8):=(loop (ZGx a b) ([],0)).bind λx=>some x
def Yg (a:List UInt8)(b:Int):Option (List UInt8):=mks (w64 (b-(a.length:Int))) (0:UInt8) λm=>app a m λc=>some c
def KR (q:Ptr->Option (List UInt8×Int))(c:Option (List Int))(d:(List Int)->(List Int)->Option (List UInt8))(e:(List (List UInt8))->Option (List UInt8))(f:(List UInt8)->Int->Option (List UInt8))(a:Line)(b:Ptr):Option (List UInt8):=(q a.Root).bind λx=>(q b).bind λg=>Option.bind (α:=List UInt8) ((c).bind λh=>(d h [a.Id,(a.Kind.toNat:Int),a.Owner,a.Prev,(a.Txg.toNat:Int),(a.Guid.toNat:Int),a.Key]).bind λi=>some i)<|λj=>(e [j,x.1,g.1]).bind λk=>(f k 48).bind λl=>some l
def QS (a:Line)(b:Ptr):Option (List UInt8):=KR Qy Gb BK ZR Yg a b
def XU (g:{h:Type}->Option h->Option h->Option h)(a:List UInt8)(b:List Int)(c:List UInt8)(d:Pool×UInt32×Int):Option (List Int×List UInt8×(Pool×UInt32×Int)):=(fun(u:_->_->_->_->_)=>(QC a d).bind λx=>(Qy x.1).bind λe=>Option.bind (α:=(List Int×List UInt8)) (g (g (u b x c e.1) (u b x c e.1)) (u b x c e.1))<|λf=>some (f.1,f.2,(Pool.mk x.2.1.Store x.2.1.Gen x.1 x.2.1.MetaL x.2.1.Lines x.2.1.Keys x.2.1.Loaded x.2.1.Changes x.2.1.Logged x.2.1.NextId x.2.1.NextGuid,x.2.2))) λb x c e=>app b [x.1.At] λm=>app c e λi=>some (m,i)
def YN (a:List UInt8)(b:List Int)(c:List UInt8)(d:Pool×UInt32×Int):Option (List Int×List UInt8×(Pool×UInt32×Int)):=XU (λa _=>a) a b c d
def Gd (a:List (List UInt8))(x:List UInt8×Nat):Option ((List UInt8×Nat) ⊕ List UInt8):=cond (decide ((x.2:Int)<(a.length:Int))) (idx a (x.2:Int) λy=>app x.1 y λm=>(Yg m (w64 ((x.2+1:Int)*24))).bind λb=>some (.inl (b,x.2+1))) (some (.inr x.1))
def WE (a:List (List UInt8)):Option (List UInt8):=(loop (Gd a) ([],0)).bind λx=>(Yg x 256).bind λb=>some b
abbrev ZF2:=@QC
abbrev WS:=@XU
def QB (a:List UInt8)(b:List Int)(c:List UInt8)(d:Pool×UInt32×Int):Option (List Int×List UInt8×(Pool×UInt32×Int)):=WS (λa _=>a) a b c d
def Y9 (g:{c:Type}->Option c->Option c->Option c)(a:Pool×UInt32×Int)(x:Store×UInt32×Ptr×List Change×Int×Int×UInt32×UInt32×Int×Int):Option ((Store×UInt32×Ptr×List Change×Int×Int×UInt32×UInt32×Int×Int) ⊕ ((Store×UInt32×Ptr×List Change×Int×Int×UInt32×UInt32×Int) ⊕ (Store×UInt32×Ptr×List Change×Int×Int×UInt32×UInt32×Int))):=(fun(u:_->_->_)=>(fun(d:_->_)=>cond (decide (x.2.2.2.2.2.2.2.2.2<(a.1.MetaL.length:Int))) (chk (0<=x.2.2.2.2.2.2.2.2.2/\x.2.2.2.2.2.2.2.2.2.toNat<a.1.MetaL.length)<|idx a.1.MetaL x.2.2.2.2.2.2.2.2.2 λy=>cond (!(decide (x.2.2.2.2.2.2.2.2.1=0))) (some (.inr (.inl (d x)))) (g ((Ke x.1.Space y).bind λb=>some (u x b)) ((Ke x.1.Space y).bind λe=>g (some (u x e)) (some (u x e))))) (some (.inr (.inr (d x))))) λx=>(x.1,x.2.1,x.2.2.1,x.2.2.2.1,x.2.2.2.2.1,x.2.2.2.2.2.1,x.2.2.2.2.2.2.1,x.2.2.2.2.2.2.2.1,x.2.2.2.2.2.2.2.2.1)) λx b=>.inl (Store.mk x.1.Disk b.1 x.1.Epoch x.1.Count,x.2.1,x.2.2.1,x.2.2.2.1,x.2.2.2.2.1,x.2.2.2.2.2.1,x.2.2.2.2.2.2.1,x.2.2.2.2.2.2.2.1,b.2,w64 (x.2.2.2.2.2.2.2.2.2+1))
def Y8 (g:{f:Type}->Option f->Option f->Option f)(a:Pool×UInt32×Int)(x:Store×UInt32×Ptr×List Change×Int×Int×UInt32×UInt32×Int×List Int×List UInt8×Int):Option ((Store×UInt32×Ptr×List Change×Int×Int×UInt32×UInt32×Int×List Int×List UInt8×Int) ⊕ (Store×UInt32×Ptr×List Change×Int×Int×UInt32×UInt32×Int×List Int×List UInt8)):=(fun(u:_->_->_)=>cond (decide (x.2.2.2.2.2.2.2.2.2.2.2<(a.1.Lines.length:Int))) (chk (0<=x.2.2.2.2.2.2.2.2.2.2.2/\x.2.2.2.2.2.2.2.2.2.2.2.toNat<a.1.Lines.length)<|idx a.1.Lines x.2.2.2.2.2.2.2.2.2.2.2 λy=>Option.bind (α:=(Store×UInt32×Ptr×List Change×Int×Int×UInt32×UInt32×Int×Ptr×List Int)) (cond (decide (x.2.2.2.2.2.2.2.2.1=0)) (Option.bind (α:=(Store×UInt32×Ptr×List Change×Int×Int×UInt32×UInt32×Int×Ptr×List Int)) (g ((Uw x.1 x.2.2.2.2.2.2.2.1 y.Dead).bind λd=>some (u d x)) ((Uw x.1 x.2.2.2.2.2.2.2.1 y.Dead).bind λe=>g (some (u e x)) (g (some (u e x)) (some (u e x)))))<|λb=>some (b.1,b.2.1,b.2.2.1,b.2.2.2.1,b.2.2.2.2.1,b.2.2.2.2.2.1,b.2.2.2.2.2.2.1,b.2.2.2.2.2.2.2.1,b.2.2.2.2.2.2.2.2.1,b.2.2.2.2.2.2.2.2.2.1,b.2.2.2.2.2.2.2.2.2.2)) (some (x.1,x.2.1,x.2.2.1,x.2.2.2.1,x.2.2.2.2.1,x.2.2.2.2.2.1,x.2.2.2.2.2.2.1,x.2.2.2.2.2.2.2.1,x.2.2.2.2.2.2.2.2.1,Ptr.mk 0 0 0 0 0,[])))<|λc=>app x.2.2.2.2.2.2.2.2.2.1 c.2.2.2.2.2.2.2.2.2.2 λm=>(QS y c.2.2.2.2.2.2.2.2.2.1).bind λh=>app x.2.2.2.2.2.2.2.2.2.2.1 h λi=>some (.inl (c.1,c.2.1,c.2.2.1,c.2.2.2.1,c.2.2.2.2.1,c.2.2.2.2.2.1,c.2.2.2.2.2.2.1,c.2.2.2.2.2.2.2.1,c.2.2.2.2.2.2.2.2.1,m,i,w64 (x.2.2.2.2.2.2.2.2.2.2.2+1)))) (some (.inr (x.1,x.2.1,x.2.2.1,x.2.2.2.1,x.2.2.2.2.1,x.2.2.2.2.2.1,x.2.2.2.2.2.2.1,x.2.2.2.2.2.2.2.1,x.2.2.2.2.2.2.2.2.1,x.2.2.2.2.2.2.2.2.2.1,x.2.2.2.2.2.2.2.2.2.2.1)))) λd x=>(d.1,x.2.1,x.2.2.1,x.2.2.2.1,x.2.2.2.2.1,x.2.2.2.2.2.1,x.2.2.2.2.2.2.1,x.2.2.2.2.2.2.2.1,d.2.2.2,d.2.1,d.2.2.1)
def Y7 (g:{b:Type}->Option b->Option b->Option b)(y:List UInt8)(x:(Pool×UInt32×Int)×List Int×List UInt8):Option (((Pool×UInt32×Int)×List Int×List UInt8) ⊕ Unit):=(Za y).bind λc=>(Yg c 256).bind λd=>(YN d x.2.1 x.2.2 x.1).bind λa=>some (.inl (a.2.2,a.1,a.2.1))
def KQ (g:{t:Type}->Option t->Option t->Option t)(a:Pool×UInt32×Int):Option (Pool×UInt32×Int):=(fun(v:_->_->_)=>(fun(w:_->_->_)=>(fun(u:_->_->_)=>(fun(y:_->_->_)=>(fun(I:_->_)=>(fun(J:_->_->_)=>Option.bind (loop (Y9 g a) (a.1.Store,a.1.Gen,a.1.Root,a.1.Changes,a.1.Logged,a.1.NextId,a.1.NextGuid,a.2.1,a.2.2,0))<|Sum.elim (λj=>some (Pool.mk j.1 j.2.1 j.2.2.1 a.1.MetaL a.1.Lines a.1.Keys a.1.Loaded j.2.2.2.1 j.2.2.2.2.1 j.2.2.2.2.2.1 j.2.2.2.2.2.2.1,j.2.2.2.2.2.2.2)) (λh=>(loop (Y8 g a) (h.1,h.2.1,h.2.2.1,h.2.2.2.1,h.2.2.2.2.1,h.2.2.2.2.2.1,h.2.2.2.2.2.2.1,h.2.2.2.2.2.2.2.1,h.2.2.2.2.2.2.2.2,[],[],0)).bind λb=>(Yg b.2.2.2.2.2.2.2.2.2.2 (max (b.2.2.2.2.2.2.2.2.2.2.length:Int) 1)).bind λz=>(Zm z 240).bind λq=>Option.bind (chunkR q.1 q.2 (Y7 g) ((Pool.mk b.1 b.2.1 b.2.2.1 a.1.MetaL a.1.Lines a.1.Keys a.1.Loaded b.2.2.2.1 b.2.2.2.2.1 b.2.2.2.2.2.1 b.2.2.2.2.2.2.1,(b.2.2.2.2.2.2.2.1,b.2.2.2.2.2.2.2.2.1)),b.2.2.2.2.2.2.2.2.2.1,[]))<|Sum.elim (λd=>(Yg d.2.2 64).bind λi=>Option.bind (α:=((Pool×UInt32×Int)×List Int×List UInt8)) (g (J d i) (J d i))<|λx=>Option.bind (α:=List UInt8) (g (I x) (I x))<|λe=>Option.bind (α:=((Pool×UInt32×Int)×List Int×List UInt8)) (g (g (w e x) (w e x)) (g ((Yg e 16).bind λf=>g (y f x) (g (y f x) (app f x.2.2 λm=>g (u m x) (u m x)))) (g (w e x) ((Yg e 16).bind λr=>g (y r x) (app r x.2.2 λs=>g (u s x) (u s x))))))<|λc=>(ZG2 c.2.1).bind λA=>some (Pool.mk c.1.1.Store c.1.1.Gen c.1.1.Root A c.1.1.Lines c.1.1.Keys c.1.1.Loaded c.1.1.Changes c.1.1.Logged c.1.1.NextId c.1.1.NextGuid,c.1.2)) (λ_=>none))) λd i=>(WE d.1.1.Keys).bind λB=>(QB B d.2.1 i d.1).bind λk=>some (k.2.2,k.1,k.2.1)) λx=>(BK [1,2,4,1] [82,x.1.1.NextId,(x.1.1.NextGuid.toNat:Int),(x.1.1.Lines.length:Int)]).bind λC=>some C) λf x=>app f x.2.2 λD=>(Yg D 256).bind λE=>Option.bind (v E x) λl=>some (l.2.2,l.1,l.2.1)) λm x=>(Yg m 256).bind λF=>Option.bind (v F x) λn=>some (n.2.2,n.1,n.2.1)) λe x=>(Yg e 16).bind λG=>app G x.2.2 λH=>(Yg H 256).bind λo=>Option.bind (v o x) λp=>some (p.2.2,p.1,p.2.1)) λo x=>QB o x.2.1 x.2.2 x.1
def Xh (a:Pool×UInt32×Int):Option (Pool×UInt32×Int):=KQ (λa _=>a) a
def UJ (d:(Pool×UInt32×Int))(x:(Pool×UInt32×Int)×Int):Option (((Pool×UInt32×Int)×Int) ⊕ (Pool×UInt32×Int)):=cond (decide (x.2<(d.1.Lines.length:Int))) (chk (0<=x.2/\x.2.toNat<x.1.1.Lines.length)<|(Zi x.1.1.Changes).bind λb=>(ZL b x.2 x.1.1.Lines).bind λa=>(Zg x.2 a.1 (Pool.mk x.1.1.Store x.1.1.Gen x.1.1.Root x.1.1.MetaL a.2.1 x.1.1.Keys x.1.1.Loaded x.1.1.Changes x.1.1.Logged x.1.1.NextId x.1.1.NextGuid,x.1.2)).bind λc=>some (.inl (c,w64 (x.2+1)))) (some (.inr x.1))
def UW (a:Pool):Option (Pool×UInt32×Int):=(Vo a).bind λd=>Option.bind (α:=Bool) (cond (decide (d=0)) (some (decide (a.Gen=16777215))) (some false))<|λf=>Option.bind (α:=(Pool×UInt32×Int)) (cond f (some (Pool.mk (Store.mk (Disk.mk [] []) [] 0 0) 0 (Ptr.mk 0 0 0 0 0) [] [] [] [] [] 0 0 0,((0:UInt32),9))) (some (Pool.mk (Store.mk (Disk.mk [] []) [] 0 0) 0 (Ptr.mk 0 0 0 0 0) [] [] [] [] [] 0 0 0,((0:UInt32),d))))<|λx=>cond (!(decide (x.2.2=0))) (some x) (Option.bind (α:=(Pool×UInt32×Int)) ((KC a).bind λg=>some (g,(a.Gen+(1:UInt32),x.2.2)))<|λe=>(loop (UJ e) (e,0)).bind λb=>(Xh b).bind λc=>some c)
def ZMU (a:Disk):Option (Disk×Disk):=(leftF a).bind λx=>some (x,a)
abbrev ZAT:=@X6
def G4 (a:Disk):Option (Disk×Int):=(ZAT a true a).bind λx=>some (x.1,x.2.1)
def ZBI (a:Label):Option Bool:=cond (decide (1<=a.Gen)) (cond (decide (a.Gen<=16777215)) (cond (decide (1<=a.Epoch)) (cond (decide (a.Epoch<=65535)) (cond (!(decide (a.Root.At=0)&&(decide (a.Root.Birth=0)&&(decide (a.Root.Iv=0)&&(decide (a.Root.Tag=0)&&(decide (a.Root.Sum=0)&&true)))))) ((YF a.Root).bind λx=>some (decide (x=0))) (some false)) (some false)) (some false)) (some false)) (some false)
def ZCq (a:UInt32):Option Int:=some ((a%(4:UInt32)).toNat:Int)
def XV (a:List UInt8):Option (List UInt8×List UInt8):=app [] a λm=>some (m,a)
abbrev UE:=@YY
abbrev ZHQ:=@X5
abbrev ZHP:=@Ku
def Jg (a:List UInt8):Option (UInt32×UInt32×UInt32×UInt32×List UInt8):=(XV a).bind λc=>(UE c.1).bind λe=>chk (0< [(1:UInt8)].length)<|app e [(1:UInt8)] λm=>(loop (ZHQ) m).bind λf=>(Qj f 8).bind λd=>Option.bind (chunkR d.1 d.2 (ZHP) ((1:UInt32),(2:UInt32),(3:UInt32),(4:UInt32)))<|Sum.elim (λx=>(Yt x.1 (x.2.1^^^(u32i (c.2.length:Int))) x.2.2.1 x.2.2.2 8).bind λb=>some (b.1,b.2.1,b.2.2.1,b.2.2.2,c.2)) (λ_=>none)
def ZCo (a:List UInt8):Option (UInt32×List UInt8):=(Jg a).bind λx=>some (x.1,x.2.2.2.2)
def Ji (a:Label):Option (List UInt8):=(Zk (a.Gen.toNat:Int) 4).bind λc=>(Zk (a.Epoch.toNat:Int) 4).bind λd=>(Qy a.Root).bind λe=>app [(67:UInt8)] c.1 λf=>app f d.1 λg=>app g e.1 λh=>(ZCo h).bind λx=>(Zk (x.1.toNat:Int) 4).bind λi=>app x.2 i.1 λj=>mks 227 (0:UInt8) λm=>app j m λb=>some b
def ZBJ (a:Disk)(b:Label):Option (Disk×Int):=(Kv a).bind λx=>cond (!(decide (x=0))) (some (Disk.mk [] [],x)) ((ZBI b).bind λd=>cond (!d) (some (Disk.mk [] [],8)) ((ZCq b.Gen).bind λe=>(Ji b).bind λf=>(V0 a e f).bind λc=>some (c.1,c.2)))
def VC (a:Pool×UInt32×Int):Option (Pool×UInt32×Int):=Option.bind (α:=(Store×UInt32×Ptr×List (List UInt8)×List Change×Int×Int×UInt32×UInt32×Int)) (cond (decide (a.2.2=0)) ((G4 a.1.Store.Disk).bind λb=>some (Store.mk b.1 a.1.Store.Space a.1.Store.Epoch a.1.Store.Count,a.1.Gen,a.1.Root,a.1.Keys,a.1.Changes,a.1.Logged,a.1.NextId,a.1.NextGuid,a.2.1,b.2)) (some (a.1.Store,a.1.Gen,a.1.Root,a.1.Keys,a.1.Changes,a.1.Logged,a.1.NextId,a.1.NextGuid,a.2.1,a.2.2)))<|λx=>cond (decide (x.2.2.2.2.2.2.2.2.2=0)) ((ZBJ x.1.Disk (Label.mk x.2.2.2.2.2.2.2.2.1 x.1.Epoch x.2.2.1)).bind λc=>some (Pool.mk (Store.mk c.1 x.1.Space x.1.Epoch x.1.Count) x.2.1 x.2.2.1 a.1.MetaL a.1.Lines x.2.2.2.1 a.1.Loaded x.2.2.2.2.1 x.2.2.2.2.2.1 x.2.2.2.2.2.2.1 x.2.2.2.2.2.2.2.1,(x.2.2.2.2.2.2.2.2.1,c.2))) (some (Pool.mk x.1 x.2.1 x.2.2.1 a.1.MetaL a.1.Lines x.2.2.2.1 a.1.Loaded x.2.2.2.2.1 x.2.2.2.2.2.1 x.2.2.2.2.2.2.1 x.2.2.2.2.2.2.2.1,x.2.2.2.2.2.2.2.2))
def V5 (a:List UInt8)(b:List UInt8)(c:List UInt8)(g:Int)(x:List UInt8×Int×Int×Int):Option ((List UInt8×Int×Int×Int) ⊕ (List UInt8×Int×Int)):=cond (decide (x.2.2.2<g)) (slc a x.2.2.1 (a.length:Int) λh=>(J5 h b).bind λf=>chk (0<=x.2.1/\x.2.1<=(x.1.length:Int))<|slc a x.2.2.1 (w64 (x.2.2.1+f)) λm=>cpyO x.1 x.2.1 (x.1.length:Int) m λd=>chk (0<=w64 (x.2.1+(min (m.length:Int) ((x.1.length:Int)-x.2.1)))/\(w64 (x.2.1+(min (m.length:Int) ((x.1.length:Int)-x.2.1))))<=(d.length:Int))<|cpyO d (w64 (x.2.1+(min (m.length:Int) ((x.1.length:Int)-x.2.1)))) (d.length:Int) c λe=>some (.inl (e,w64 ((w64 (x.2.1+(min (m.length:Int) ((x.1.length:Int)-x.2.1))))+(min (c.length:Int) ((d.length:Int)-(w64 (x.2.1+(min (m.length:Int) ((x.1.length:Int)-x.2.1))))))),w64 ((w64 (x.2.2.1+f))+(b.length:Int)),w64 (x.2.2.2+1)))) (some (.inr (x.1,x.2.1,x.2.2.1)))
def ZE5 (a:List UInt8)(b:Int)(x:Int×Nat×Nat):Option ((Int×Nat×Nat) ⊕ (Int×Nat)):=cond (decide ((x.2.2:Int)<w64 (b-1))) (slc a (x.2.1:Int) (a.length:Int) λm=>none) (some (.inr (x.1,x.2.1)))
def GY (a:List UInt8)(b:List UInt8)(c:List UInt8)(d:Int):Option (List UInt8):=Option.bind (α:=Int) (cond (!(decide (d=0))) ((Wv a b).bind λn=>some n) (some 0))<|λh=>cond (decide (h=0)) (app [] a λo=>some o) (Option.bind (α:=Bool) (cond (decide (d<0)) (some true) (some (decide (h<d))))<|λp=>Option.bind (α:=Int) (cond p (some h) (some d))<|λi=>mks (w64 ((a.length:Int)+(w64 (i*(w64 ((c.length:Int)-(b.length:Int))))))) (0:UInt8) λm=>Option.bind (α:=(List UInt8×Int×Int)) (cond (decide (0<(b.length:Int))) ((loop (V5 a b c i) (m,0,0,0)).bind λe=>some (e.1,e.2.1,e.2.2)) (chk (0<=(0:Int)/\0<=(m.length:Int))<|cpyO m 0 (m.length:Int) c λj=>(loop (ZE5 a i) (w64 (0+(min (c.length:Int) ((m.length:Int)-0))),0,0)).bind λf=>some (j,f.1,(f.2:Int))))<|λx=>chk (0<=x.2.1/\x.2.1<=(x.1.length:Int))<|slc a x.2.2 (a.length:Int) λg=>cpyO x.1 x.2.1 (x.1.length:Int) g λk=>slc k 0 (w64 (x.2.1+(min (g.length:Int) ((x.1.length:Int)-x.2.1)))) λl=>some l)
def V6 (a:List UInt8)(b:List UInt8)(c:List UInt8):Option (List UInt8):=(GY a b c (-1)).bind λx=>some x
def UK (a:List UInt8):Option (List UInt8×Int):=(Qi a).bind λx=>cond (!(decide (x=0))) (some ([],x)) ((V6 a [(2:UInt8)] [(0:UInt8)]).bind λb=>some (b,0))
def V8 (a:Pool×UInt32×Int):Option (Pool×UInt32×Int):=Option.bind (α:=(Store×UInt32×Ptr×List (List UInt8)×List Change×Int×Int×UInt32×UInt32×Int)) (cond (decide (a.2.2=0)) ((G4 a.1.Store.Disk).bind λc=>some (Store.mk c.1 a.1.Store.Space a.1.Store.Epoch a.1.Store.Count,a.1.Gen,a.1.Root,a.1.Keys,a.1.Changes,a.1.Logged,a.1.NextId,a.1.NextGuid,a.2.1,c.2)) (some (a.1.Store,a.1.Gen,a.1.Root,a.1.Keys,a.1.Changes,a.1.Logged,a.1.NextId,a.1.NextGuid,a.2.1,a.2.2)))<|λx=>Option.bind (α:=(Store×UInt32×Ptr×List (List UInt8)×List Change×Int×Int×UInt32×UInt32×Int)) (cond (decide (x.2.2.2.2.2.2.2.2.2=0)) ((UK x.1.Space).bind λd=>some (Store.mk x.1.Disk d.1 x.1.Epoch x.1.Count,x.2.1,x.2.2.1,x.2.2.2.1,x.2.2.2.2.1,x.2.2.2.2.2.1,x.2.2.2.2.2.2.1,x.2.2.2.2.2.2.2.1,x.2.2.2.2.2.2.2.2.1,d.2)) (some (x.1,x.2.1,x.2.2.1,x.2.2.2.1,x.2.2.2.2.1,x.2.2.2.2.2.1,x.2.2.2.2.2.2.1,x.2.2.2.2.2.2.2.1,x.2.2.2.2.2.2.2.2.1,x.2.2.2.2.2.2.2.2.2)))<|λb=>some (Pool.mk b.1 b.2.2.2.2.2.2.2.2.1 b.2.2.1 a.1.MetaL a.1.Lines b.2.2.2.1 a.1.Loaded [] 0 b.2.2.2.2.2.2.1 b.2.2.2.2.2.2.2.1,b.2.2.2.2.2.2.2.2)
def Ue (g:{b:Type}->Option b->Option b->Option b)(a:Pool):Option (Pool×Int):=(fun(u:_->_)=>(UW a).bind λd=>(VC d).bind λe=>(V8 e).bind λx=>cond (!(decide (x.2.2=0))) (Option.bind (α:=(Pool×Int)) (g (u x.2.2) (u x.2.2))<|λc=>some (c.1,c.2)) (some (x.1,0))) λx=>some (Pool.mk (Store.mk (Disk.mk [] []) [] 0 0) 0 (Ptr.mk 0 0 0 0 0) [] [] [] [] [] 0 0 0,x)
def KD (a:Pool):Option (Pool×Int):=Ue (λa _=>a) a
def ZF1 (e:Int->Int->Option (List UInt8×Int))(q:(List UInt8)->Option (List UInt8))(b:(List (List UInt8))->Option (List UInt8))(a:List UInt8)(x:List UInt8×Int):Option ((List UInt8×Int) ⊕ List UInt8):=cond (decide (x.2<32)) (chk (a.length<=LIM)<|(b [x.1,[u8i x.2],a]).bind λc=>(q c).bind λd=>some (.inl (d,w64 (x.2+1)))) (some (.inr x.1))
def Di (q:Int->Int->Option (List UInt8×Int))(c:(List UInt8)->Option (List UInt8))(d:(List (List UInt8))->Option (List UInt8))(a:List UInt8)(b:UInt32):Option (List UInt8×Int):=cond (decide (64<(a.length:Int))) (some ([],3)) ((q (b.toNat:Int) 4).bind λx=>chk (a.length<=LIM)<|app a x.1 λm=>(c m).bind λe=>(loop (ZF1 q c d a) (e,0)).bind λf=>some (f,0))
def ZDO (a:List UInt8)(b:UInt32):Option (List UInt8×Int):=Di Zk Jh ZR a b
def ZEW (a:List UInt8):Option (UInt8×UInt8×UInt8×UInt8×UInt8×UInt8×UInt8×UInt8×UInt8×UInt8×UInt8×UInt8×UInt8×UInt8×UInt8×UInt8):=(Za a).bind λk=>app k [(1:UInt8)] λm=>(Jh m).bind λx=>idx x 0 λl=>idx x 1 λn=>idx x 2 λo=>idx x 3 λp=>idx x 4 λq=>idx x 5 λr=>idx x 6 λy=>idx x 7 λb=>idx x 8 λc=>idx x 9 λd=>idx x 10 λe=>idx x 11 λf=>idx x 12 λg=>idx x 13 λh=>idx x 14 λi=>idx x 15 λj=>some (l,n,o,p,q,r,y,b,c,d,e,f,g,h,i,j)
def ZBk (a:UInt8)(b:UInt8)(c:UInt8)(d:UInt8)(e:UInt8)(f:UInt8)(g:UInt8)(h:UInt8)(j:UInt8)(k:UInt8)(l:UInt8)(p:UInt8)(q:UInt8)(r:UInt8)(t:UInt8)(u:UInt8)(v:UInt8)(F:UInt8)(z:UInt8)(i:UInt8)(m:UInt8)(n:UInt8)(o:UInt8)(s:UInt8)(w:UInt8)(x:UInt8)(y:UInt8)(A:UInt8)(B:UInt8)(C:UInt8)(D:UInt8)(E:UInt8):Option (UInt8×UInt8×UInt8×UInt8×UInt8×UInt8×UInt8×UInt8×UInt8×UInt8×UInt8×UInt8×UInt8×UInt8×UInt8×UInt8):=some (a^^^v,b^^^F,c^^^z,d^^^i,e^^^m,f^^^n,g^^^o,h^^^s,j^^^w,k^^^x,l^^^y,p^^^A,q^^^B,r^^^C,t^^^D,u^^^E)
def ZFA (a:List UInt8)(b:List UInt8):Option (List UInt8):=(ZDg a b).bind λx=>(Zk (x.1.toNat:Int) 4).bind λc=>(Za b).bind λd=>app d c.1 λm=>some m
def Dh (g:{w:Type}->Option w->Option w->Option w)(a:List UInt8)(b:List UInt8)(c:UInt32):Option (List UInt8×Int):=(fun(z:_->_->_)=>(fun(A:_->_->_->_->_->_->_->_->_->_->_->_->_->_->_->_->_->_)=>(ZDO a c).bind λo=>cond (!(decide (o.2=0))) (some ([],o.2)) (cond (!(decide ((b.length:Int)=16))) (some ([],2)) ((Zk (c.toNat:Int) 4).bind λG=>Option.bind (α:=(List UInt8×UInt8×UInt8×UInt8×UInt8×UInt8×UInt8×UInt8×UInt8×UInt8×UInt8×UInt8×UInt8×UInt8×UInt8×UInt8×UInt8)) (idx b 0 λp=>idx b 1 λq=>idx b 2 λr=>idx b 3 λs=>idx b 4 λt=>idx b 5 λu=>idx b 6 λv=>idx b 7 λy=>idx b 8 λf=>idx b 9 λh=>idx b 10 λi=>idx b 11 λj=>idx b 12 λk=>idx b 13 λl=>idx b 14 λm=>idx b 15 λn=>g ((ZEW o.1).bind λx=>g (Option.bind (A p q r s t u v y f h i j k l m n x) λd=>some (z o.1 d)) (Option.bind (A p q r s t u v y f h i j k l m n x) λB=>some (z o.1 B))) ((ZEW o.1).bind λC=>Option.bind (A p q r s t u v y f h i j k l m n C) λD=>some (z o.1 D)))<|λe=>app G.1 [e.2.1,e.2.2.1,e.2.2.2.1,e.2.2.2.2.1,e.2.2.2.2.2.1,e.2.2.2.2.2.2.1,e.2.2.2.2.2.2.2.1,e.2.2.2.2.2.2.2.2.1,e.2.2.2.2.2.2.2.2.2.1,e.2.2.2.2.2.2.2.2.2.2.1,e.2.2.2.2.2.2.2.2.2.2.2.1,e.2.2.2.2.2.2.2.2.2.2.2.2.1,e.2.2.2.2.2.2.2.2.2.2.2.2.2.1,e.2.2.2.2.2.2.2.2.2.2.2.2.2.2.1,e.2.2.2.2.2.2.2.2.2.2.2.2.2.2.2.1,e.2.2.2.2.2.2.2.2.2.2.2.2.2.2.2.2] λE=>(ZFA e.1 E).bind λF=>some (F,0)))) λp q r s t u v y f h i j k l m n x=>ZBk p q r s t u v y f h i j k l m n x.1 x.2.1 x.2.2.1 x.2.2.2.1 x.2.2.2.2.1 x.2.2.2.2.2.1 x.2.2.2.2.2.2.1 x.2.2.2.2.2.2.2.1 x.2.2.2.2.2.2.2.2.1 x.2.2.2.2.2.2.2.2.2.1 x.2.2.2.2.2.2.2.2.2.2.1 x.2.2.2.2.2.2.2.2.2.2.2.1 x.2.2.2.2.2.2.2.2.2.2.2.2.1 x.2.2.2.2.2.2.2.2.2.2.2.2.2.1 x.2.2.2.2.2.2.2.2.2.2.2.2.2.2.1 x.2.2.2.2.2.2.2.2.2.2.2.2.2.2.2) λo d=>(o,d.1,d.2.1,d.2.2.1,d.2.2.2.1,d.2.2.2.2.1,d.2.2.2.2.2.1,d.2.2.2.2.2.2.1,d.2.2.2.2.2.2.2.1,d.2.2.2.2.2.2.2.2.1,d.2.2.2.2.2.2.2.2.2.1,d.2.2.2.2.2.2.2.2.2.2.1,d.2.2.2.2.2.2.2.2.2.2.2.1,d.2.2.2.2.2.2.2.2.2.2.2.2.1,d.2.2.2.2.2.2.2.2.2.2.2.2.2.1,d.2.2.2.2.2.2.2.2.2.2.2.2.2.2.1,d.2.2.2.2.2.2.2.2.2.2.2.2.2.2.2)
def ZA4 (a:List UInt8)(b:List UInt8)(c:UInt32):Option (List UInt8×Int):=Dh (λa _=>a) a b c
def ZB5 (a:List UInt8):Option Bool:=some (decide ((a.length:Int)=0))
def BP (a:List (List UInt8))(x:Nat):Option (Nat ⊕ (Nat ⊕ Unit)):=cond (decide ((x:Int)<(a.length:Int))) (idx a (x:Int) λy=>(ZB5 y).bind λb=>cond b (some (.inr (.inl x))) (some (.inl (x+1)))) (some (.inr (.inr ())))
def UB (a:List (List UInt8)):Option Int:=Option.bind (loop (BP a) 0)<|Sum.elim (λx=>some (x:Int)) (λb=>some (-1))
def GM (g:{k:Type}->Option k->Option k->Option k)(a:Pool)(b:List UInt8)(c:List UInt8):Option (Pool×Int×Int):=(λu=>(λl=>(fun(n:_->_)=>(fun(s:_->_->_->_)=>(fun(t:_->_->_->_->_)=>(Vo a).bind λj=>cond (!(decide (j=0))) (n j) (cond (!(decide ((c.length:Int)=16))) (some (Pool.mk l 0 u [] [] [] [] [] 0 0 0,0,3)) ((ZA4 b c a.NextGuid).bind λh=>cond (!(decide (h.2=0))) (n h.2) ((UB a.Keys).bind λe=>Option.bind (α:=Bool) (cond (decide ((a.Lines.length:Int)=16)) (some true) (cond (decide (255<a.NextId)) (some true) (cond (decide (4294967293<a.NextGuid)) (some true) (some (decide (e<0))))))<|λv=>cond v (some (Pool.mk l 0 u [] [] [] [] [] 0 0 0,0,9)) ((KC a).bind λd=>Option.bind (α:=(Disk×UInt32×UInt32×UInt32×Ptr×List (List UInt8)×List (List UInt8)×Int×Int×UInt32)) (g ((Zs c).bind λw=>chk (0<=e/\e.toNat<d.Keys.length)<|setI d.Keys e h.1 λo=>chk (0<=e/\e.toNat<d.Loaded.length)<|setI d.Loaded e w λm=>some (s d o m)) ((Zs c).bind λf=>chk (0<=e/\e.toNat<d.Keys.length)<|g (t d e h.1 f) (t d e h.1 f)))<|λx=>app d.Lines [Line.mk x.2.2.2.2.2.2.2.2.1 1 x.2.2.2.2.2.2.2.2.1 0 x.2.2.2.1 x.2.2.2.2.2.2.2.2.2 e u []] λp=>(KD (Pool.mk (Store.mk x.1 d.Store.Space x.2.1 x.2.2.1) x.2.2.2.1 x.2.2.2.2.1 d.MetaL p x.2.2.2.2.2.1 x.2.2.2.2.2.2.1 d.Changes x.2.2.2.2.2.2.2.1 (w64 (x.2.2.2.2.2.2.2.2.1+1)) (x.2.2.2.2.2.2.2.2.2+(2:UInt32)))).bind λi=>cond (!(decide (i.2=0))) (n i.2) (some (i.1,x.2.2.2.2.2.2.2.2.1,0))))))) λd e h f=>setI d.Keys e h λq=>chk (0<=e/\e.toNat<d.Loaded.length)<|setI d.Loaded e f λr=>some (s d q r)) λd o m=>(d.Store.Disk,d.Store.Epoch,d.Store.Count,d.Gen,d.Root,o,m,d.Logged,d.NextId,d.NextGuid)) λj=>some (Pool.mk l 0 u [] [] [] [] [] 0 0 0,0,j)) (Store.mk (Disk.mk [] []) [] 0 0)) (Ptr.mk 0 0 0 0 0)
def Jq (a:Pool)(b:List UInt8)(c:List UInt8):Option (Pool×Int×Int):=GM (λa _=>a) a b c
def ZAb (a:Line)(b:Int):Option (Bool×Int):=some (decide (a.Id=b),b)
def Xn (a:List Line)(x:Int×Int):Option ((Int×Int) ⊕ ((Int×Int) ⊕ Int)):=cond (decide (x.2<(a.length:Int))) (idx a x.2 λy=>(ZAb y x.1).bind λb=>cond b.1 (some (.inr (.inl (b.2,x.2)))) (some (.inl (b.2,w64 (x.2+1))))) (some (.inr (.inr x.1)))
def Yr (a:List Line)(b:Int):Option (Int×Int):=Option.bind (loop (Xn a) (b,0))<|Sum.elim (λx=>some (x.2,x.1)) (λc=>some ((-1),c))
def G7 (a:Pool)(b:Int):Option (Line×Int):=(Vo a).bind λx=>cond (!(decide (x=0))) (some (Line.mk 0 0 0 0 0 0 0 (Ptr.mk 0 0 0 0 0) [],x)) ((Yr a.Lines b).bind λc=>cond (decide (c.1<0)) (some (Line.mk 0 0 0 0 0 0 0 (Ptr.mk 0 0 0 0 0) [],6)) (idx a.Lines c.1 λy=>some (y,0)))
def ZAZ (a:Pool)(b:Int):Option (Line×Int):=(G7 a b).bind λx=>Option.bind (α:=Bool) (cond (decide (x.2=0)) (some (decide (x.1.Kind=2))) (some false))<|λc=>Option.bind (α:=Int) (cond c (some 202) (some x.2))<|λd=>some (x.1,d)
def Gg (a:List Int)(b:Int):Option (List Int×Int):=cond (decide (b<1)) (none) (some (a,b))
def ZH4 (y:List Int)(d:Unit):Option (Unit ⊕ Unit):=Option.bind (α:=Bool) (idx y 0 λa=>cond (decide (a<0)) (some true) (idx y 0 λb=>idx y 1 λc=>some (decide (c<=b))))<|λx=>cond x (some (.inr ())) (some (.inl ()))
def Jo (a:List Int):Option Bool:=(Gg a 2).bind λx=>Option.bind (chunkR x.1 x.2 (ZH4) ())<|Sum.elim (λb=>some true) (λc=>some false)
def Uy (a:Change)(b:Int×Int×Int):Option Int:=(Zd a.Set b.1).bind λx=>(Zd a.Obj b.2.1).bind λc=>(Zd a.Index b.2.2).bind λd=>(Bo [x,c,d]).bind λe=>some e
def XO (a:List Change)(b:Int×Int×Int)(x:Int×Int):Option ((Int×Int) ⊕ Int):=cond (decide (x.1<x.2)) (chk (0<=(1:Int))<|idx a (w64 ((sr64 (u64i (w64 (x.1+x.2))) 1).toNat:Int)) λy=>(Uy y b).bind λc=>cond (decide (c<0)) (some (.inl (w64 ((w64 ((sr64 (u64i (w64 (x.1+x.2))) 1).toNat:Int))+1),x.2))) (some (.inl (x.1,w64 ((sr64 (u64i (w64 (x.1+x.2))) 1).toNat:Int))))) (some (.inr x.1))
def YB (a:List Change)(b:Int×Int×Int):Option (Int×Bool):=(loop (XO a b) (0,(a.length:Int))).bind λx=>cond (decide (x<(a.length:Int))) (idx a x λy=>(Uy y b).bind λc=>some (x,decide (c=0))) (some (x,false))
def ZAc (a:Pool)(b:Int×Int×Int):Option (Change×Bool):=(YB a.Changes b).bind λx=>cond (!x.2) (some (Change.mk 0 0 0 0 0 0 [] (Ptr.mk 0 0 0 0 0),false)) (idx a.Changes x.1 λy=>some (y,true))
def Jp (a:Pool)(b:Line)(c:Int):Option (Object×Int):=(Uh a.Store b.Root c).bind λx=>cond (decide (x.2=6)) (mks 15 (Ptr.mk 0 0 0 0 0) λm=>some (Object.mk 0 0 0 m,0)) (some (x.1,x.2))
def ZBQ (a:Pool)(b:Line)(c:Int):Option (Change×Int):=(ZAc a (b.Id,(c,15))).bind λd=>Option.bind (α:=(Change×Int) ⊕ Change) (cond (!d.2) ((Jp a b c).bind λx=>cond (!(decide (x.2=0))) (some (.inl (Change.mk 0 0 0 0 0 0 [] (Ptr.mk 0 0 0 0 0),x.2))) (some (.inr (Change.mk 0 0 0 x.1.Kind x.1.Links x.1.Size [] (Ptr.mk 0 0 0 0 0))))) (some (.inr d.1)))<|Sum.elim (λe=>some (e.1,e.2)) (λf=>cond (decide (f.Kind=0)) (some (Change.mk 0 0 0 0 0 0 [] (Ptr.mk 0 0 0 0 0),6)) (some (f,0)))
def Vs (a:Store)(b:Ptr):Option (Store×Int):=Option.bind (α:=Bool) ((Y3 a).bind λc=>cond (!(decide (c=0))) (some true) ((YF b).bind λd=>some (!(decide (d=0)))))<|λe=>cond e (some (Store.mk (Disk.mk [] []) [] 0 0,8)) (cond (decide (b.At=0)&&(decide (b.Birth=0)&&(decide (b.Iv=0)&&(decide (b.Tag=0)&&(decide (b.Sum=0)&&true))))) (some (Store.mk (Disk.mk [] []) [] 0 0,6)) ((Ke a.Space b.At).bind λx=>cond (!(decide (x.2=0))) (some (Store.mk (Disk.mk [] []) [] 0 0,x.2)) ((twinF a.Disk).bind λf=>some (Store.mk f x.1 a.Epoch a.Count,0))))
def Y5 (a:List Change)(b:Int×Int×Int)(x:Int×Int):Option ((Int×Int) ⊕ Int):=cond (decide (x.1<x.2)) (chk (0<=(1:Int))<|chk (0<=w64 ((sr64 (u64i (w64 (x.1+x.2))) 1).toNat:Int)/\(w64 ((sr64 (u64i (w64 (x.1+x.2))) 1).toNat:Int)).toNat<a.length)<|idx a (w64 ((sr64 (u64i (w64 (x.1+x.2))) 1).toNat:Int)) λy=>(Uy y b).bind λc=>cond (decide (c<0)) (some (.inl (w64 ((w64 ((sr64 (u64i (w64 (x.1+x.2))) 1).toNat:Int))+1),x.2))) (some (.inl (x.1,w64 ((sr64 (u64i (w64 (x.1+x.2))) 1).toNat:Int))))) (some (.inr x.1))
def ZF (a:List Change)(b:Int×Int×Int):Option (Int×Bool×List Change):=(loop (Y5 a b) (0,(a.length:Int))).bind λx=>cond (decide (x<(a.length:Int))) (chk (0<=x/\x.toNat<a.length)<|idx a x λy=>(Uy y b).bind λc=>some (x,decide (c=0),a)) (some (x,false,a))
def ZH5 (a:Pool)(b:Int×Int×Int):Option (Change×Bool×List UInt8×List Int×List Line×List (List UInt8)×List (List UInt8)×List Change):=(ZF a.Changes b).bind λx=>cond (!x.2.1) (some (Change.mk 0 0 0 0 0 0 [] (Ptr.mk 0 0 0 0 0),false,a.Store.Space,a.MetaL,a.Lines,a.Keys,a.Loaded,x.2.2)) (chk (0<=x.1/\x.1.toNat<x.2.2.length)<|idx x.2.2 x.1 λy=>some (y,true,a.Store.Space,a.MetaL,a.Lines,a.Keys,a.Loaded,x.2.2))
def Y2 (a:Int)(b:Bool)(c:Change)(d:Int)(e:Pool):Option (Int×Bool×Change×Int×Pool):=cond (!(decide (a=0))) (some (a,b,c,d,e)) (cond b (chk (0<=d/\d.toNat<e.Changes.length)<|setI e.Changes d c λm=>some (a,b,c,d,Pool.mk e.Store e.Gen e.Root e.MetaL e.Lines e.Keys e.Loaded m e.Logged e.NextId e.NextGuid)) (Option.bind ((insO (α:=Change)) e.Changes d [c]) λx=>some (a,b,c,d,Pool.mk e.Store e.Gen e.Root e.MetaL e.Lines e.Keys e.Loaded x e.Logged e.NextId e.NextGuid)))
def Yb (a:Int)(b:Bool)(c:Change)(d:Int)(e:Pool):Option (Int×Bool×Change×Int×Pool):=cond (!(decide (a=0))) (some (a,b,c,d,e)) (cond b (chk (0<=d/\d.toNat<e.Changes.length)<|setI e.Changes d c λm=>some (a,b,c,d,Pool.mk e.Store e.Gen e.Root e.MetaL e.Lines e.Keys e.Loaded m e.Logged e.NextId e.NextGuid)) (Option.bind ((insO (α:=Change)) e.Changes d [c]) λx=>some (a,b,c,d,Pool.mk e.Store e.Gen e.Root e.MetaL e.Lines e.Keys e.Loaded x e.Logged e.NextId e.NextGuid)))
def G6 (a:Change)(b:Pool):Option (Int×Pool):=Option.bind (α:=(Disk×UInt32×UInt32×UInt32×Ptr×List Change×Int×Int×UInt32×Int×Bool)) ((ZF b.Changes (a.Set,(a.Obj,a.Index))).bind λh=>some (b.Store.Disk,b.Store.Epoch,b.Store.Count,b.Gen,b.Root,h.2.2,b.Logged,b.NextId,b.NextGuid,h.1,h.2.1))<|λx=>Option.bind (α:=Bool) (cond x.2.2.2.2.2.2.2.2.2.2 (chk (0<=x.2.2.2.2.2.2.2.2.2.1/\x.2.2.2.2.2.2.2.2.2.1.toNat<x.2.2.2.2.2.1.length)<|idx x.2.2.2.2.2.1 x.2.2.2.2.2.2.2.2.2.1 λy=>some (!(decide (y.Laid.At=0)&&(decide (y.Laid.Birth=0)&&(decide (y.Laid.Iv=0)&&(decide (y.Laid.Tag=0)&&(decide (y.Laid.Sum=0)&&true))))))) (some false))<|λj=>cond j (Option.bind (α:=(Store×UInt32×Ptr×Int×Int×UInt32×Int×Store)) (chk (0<=x.2.2.2.2.2.2.2.2.2.1/\x.2.2.2.2.2.2.2.2.2.1.toNat<x.2.2.2.2.2.1.length)<|idx x.2.2.2.2.2.1 x.2.2.2.2.2.2.2.2.2.1 λi=>(Vs (Store.mk x.1 b.Store.Space x.2.1 x.2.2.1) i.Laid).bind λd=>some (Store.mk x.1 b.Store.Space x.2.1 x.2.2.1,x.2.2.2.1,x.2.2.2.2.1,x.2.2.2.2.2.2.1,x.2.2.2.2.2.2.2.1,x.2.2.2.2.2.2.2.2.1,d.2,d.1))<|λc=>cond (!(decide (c.2.2.2.2.2.2.1=0))) ((Y2 c.2.2.2.2.2.2.1 x.2.2.2.2.2.2.2.2.2.2 a x.2.2.2.2.2.2.2.2.2.1 (Pool.mk c.1 c.2.1 c.2.2.1 b.MetaL b.Lines b.Keys b.Loaded x.2.2.2.2.2.1 c.2.2.2.1 c.2.2.2.2.1 c.2.2.2.2.2.1)).bind λe=>some (e.1,e.2.2.2.2)) ((Yb 0 x.2.2.2.2.2.2.2.2.2.2 a x.2.2.2.2.2.2.2.2.2.1 (Pool.mk c.2.2.2.2.2.2.2 c.2.1 c.2.2.1 b.MetaL b.Lines b.Keys b.Loaded x.2.2.2.2.2.1 c.2.2.2.1 c.2.2.2.2.1 c.2.2.2.2.2.1)).bind λf=>some (f.1,f.2.2.2.2))) ((Yb 0 x.2.2.2.2.2.2.2.2.2.2 a x.2.2.2.2.2.2.2.2.2.1 (Pool.mk (Store.mk x.1 b.Store.Space x.2.1 x.2.2.1) x.2.2.2.1 x.2.2.2.2.1 b.MetaL b.Lines b.Keys b.Loaded x.2.2.2.2.2.1 x.2.2.2.2.2.2.1 x.2.2.2.2.2.2.2.1 x.2.2.2.2.2.2.2.2.1)).bind λg=>some (g.1,g.2.2.2.2))
def Uz (a:Pool)(b:Int×Int×Int):Option (Change×Bool×List Int×List Line×List (List UInt8)×List (List UInt8)×List Change):=(ZF a.Changes b).bind λx=>cond (!x.2.1) (some (Change.mk 0 0 0 0 0 0 [] (Ptr.mk 0 0 0 0 0),false,a.MetaL,a.Lines,a.Keys,a.Loaded,x.2.2)) (chk (0<=x.1/\x.1.toNat<x.2.2.length)<|idx x.2.2 x.1 λy=>some (y,true,a.MetaL,a.Lines,a.Keys,a.Loaded,x.2.2))
def Qt (a:Change)(b:Pool):Option (Int×Pool):=Option.bind (α:=(Store×UInt32×Ptr×List Change×Int×Int×UInt32×Int×Bool)) ((ZF b.Changes (a.Set,(a.Obj,a.Index))).bind λh=>some (b.Store,b.Gen,b.Root,h.2.2,b.Logged,b.NextId,b.NextGuid,h.1,h.2.1))<|λx=>Option.bind (α:=Bool) (cond x.2.2.2.2.2.2.2.2 (chk (0<=x.2.2.2.2.2.2.2.1/\x.2.2.2.2.2.2.2.1.toNat<x.2.2.2.1.length)<|idx x.2.2.2.1 x.2.2.2.2.2.2.2.1 λy=>some (!(decide (y.Laid.At=0)&&(decide (y.Laid.Birth=0)&&(decide (y.Laid.Iv=0)&&(decide (y.Laid.Tag=0)&&(decide (y.Laid.Sum=0)&&true))))))) (some false))<|λj=>cond j (Option.bind (α:=(Int×Store)) (chk (0<=x.2.2.2.2.2.2.2.1/\x.2.2.2.2.2.2.2.1.toNat<x.2.2.2.1.length)<|idx x.2.2.2.1 x.2.2.2.2.2.2.2.1 λi=>(Vs x.1 i.Laid).bind λd=>some (d.2,d.1))<|λc=>cond (!(decide (c.1=0))) ((Y2 c.1 x.2.2.2.2.2.2.2.2 a x.2.2.2.2.2.2.2.1 (Pool.mk x.1 x.2.1 x.2.2.1 b.MetaL b.Lines b.Keys b.Loaded x.2.2.2.1 x.2.2.2.2.1 x.2.2.2.2.2.1 x.2.2.2.2.2.2.1)).bind λe=>some (e.1,e.2.2.2.2)) ((Yb 0 x.2.2.2.2.2.2.2.2 a x.2.2.2.2.2.2.2.1 (Pool.mk c.2 x.2.1 x.2.2.1 b.MetaL b.Lines b.Keys b.Loaded x.2.2.2.1 x.2.2.2.2.1 x.2.2.2.2.2.1 x.2.2.2.2.2.2.1)).bind λf=>some (f.1,f.2.2.2.2))) ((Y2 0 x.2.2.2.2.2.2.2.2 a x.2.2.2.2.2.2.2.1 (Pool.mk x.1 x.2.1 x.2.2.1 b.MetaL b.Lines b.Keys b.Loaded x.2.2.2.1 x.2.2.2.2.1 x.2.2.2.2.2.1 x.2.2.2.2.2.2.1)).bind λg=>some (g.1,g.2.2.2.2))
def V1 (b:Object)(c:Line)(d:Int)(x:Pool×Int):Option ((Pool×Int) ⊕ ((Pool×Int) ⊕ Pool)):=cond (decide (x.2<(b.Data.length:Int))) (chk (0<=x.2/\x.2.toNat<b.Data.length)<|idx b.Data x.2 λy=>Option.bind (α:=(Pool×Bool)) ((Uz x.1 (c.Id,(d,x.2))).bind λa=>some (Pool.mk x.1.Store x.1.Gen x.1.Root a.2.2.1 a.2.2.2.1 a.2.2.2.2.1 a.2.2.2.2.2.1 a.2.2.2.2.2.2 x.1.Logged x.1.NextId x.1.NextGuid,a.2.1))<|λf=>Option.bind (α:=Bool) (cond (!f.2) (some (decide (y.At=0)&&(decide (y.Birth=0)&&(decide (y.Iv=0)&&(decide (y.Tag=0)&&(decide (y.Sum=0)&&true)))))) (some false))<|λg=>cond g (some (.inl (f.1,w64 (x.2+1)))) ((Qt (Change.mk c.Id d x.2 0 0 0 [] (Ptr.mk 0 0 0 0 0)) f.1).bind λe=>cond (!(decide (e.1=0))) (some (.inr (.inl (e.2,e.1)))) (some (.inl (e.2,w64 (x.2+1)))))) (some (.inr (.inr x.1)))
def WJ (a:Pool)(b:Object)(c:Line)(d:Int):Option (Int×Pool×Object×Line×Int):=Option.bind (loop (V1 b c d) (a,0))<|Sum.elim (λf=>some (f.2,f.1,b,c,d)) (λe=>(Qt (Change.mk c.Id d 15 0 0 0 [] (Ptr.mk 0 0 0 0 0)) e).bind λx=>some (x.1,x.2,b,c,d))
def ZJX (a:Pool)(b:Object)(c:Line)(d:Int):Option (Pool×Int×Object×Line×Int):=(KC a).bind λe=>(WJ e b c d).bind λx=>cond (!(decide (x.1=0))) (some (Pool.mk (Store.mk (Disk.mk [] []) [] 0 0) 0 (Ptr.mk 0 0 0 0 0) [] [] [] [] [] 0 0 0,x.1,x.2.2.1,x.2.2.2.1,x.2.2.2.2)) (some (x.2.1,0,x.2.2.1,x.2.2.2.1,x.2.2.2.2))
def ZFc (a:Pool)(b:Line)(c:Int):Option (Pool×Int):=(ZBQ a b c).bind λd=>cond (!(decide (d.2=0))) (some (Pool.mk (Store.mk (Disk.mk [] []) [] 0 0) 0 (Ptr.mk 0 0 0 0 0) [] [] [] [] [] 0 0 0,d.2)) ((Jp a b c).bind λx=>cond (!(decide (x.2=0))) (some (Pool.mk (Store.mk (Disk.mk [] []) [] 0 0) 0 (Ptr.mk 0 0 0 0 0) [] [] [] [] [] 0 0 0,x.2)) ((ZJX a x.1 b c).bind λe=>some (e.1,e.2.1)))
def ZH6 (a:Pool)(b:Int)(c:Int)(d:UInt8)(e:Int)(f:Int):Option (Int×Pool×Int×Int×UInt8×Int×Int):=(G6 (Change.mk b c 15 d e f [] (Ptr.mk 0 0 0 0 0)) a).bind λx=>some (x.1,x.2,b,c,d,e,f)
def ZEB (a:Pool)(b:Int)(c:Int)(d:UInt8)(e:Int)(f:Int):Option (Pool×Int×Int×Int×UInt8×Int×Int):=(KC a).bind λg=>(ZH6 g b c d e f).bind λx=>cond (!(decide (x.1=0))) (some (Pool.mk (Store.mk (Disk.mk [] []) [] 0 0) 0 (Ptr.mk 0 0 0 0 0) [] [] [] [] [] 0 0 0,x.1,x.2.2.1,x.2.2.2.1,x.2.2.2.2.1,x.2.2.2.2.2.1,x.2.2.2.2.2.2)) (some (x.2.1,0,x.2.2.1,x.2.2.2.1,x.2.2.2.2.1,x.2.2.2.2.2.1,x.2.2.2.2.2.2))
def ZMX (a:Pool)(b:Int)(c:Int)(d:UInt8)(e:Int)(f:Int):Option (Pool×Int):=(ZAZ a b).bind λx=>cond (!(decide (x.2=0))) (some (Pool.mk (Store.mk (Disk.mk [] []) [] 0 0) 0 (Ptr.mk 0 0 0 0 0) [] [] [] [] [] 0 0 0,x.2)) (Option.bind (α:=Bool) ((Jo [c,16,(d.toNat:Int),8,e,256,f,3841]).bind λi=>cond (!i) (some true) (cond (decide (d=0)) (some (decide (0<w64 (e+f)))) (some false)))<|λj=>cond j (some (Pool.mk (Store.mk (Disk.mk [] []) [] 0 0) 0 (Ptr.mk 0 0 0 0 0) [] [] [] [] [] 0 0 0,2)) (idx a.Loaded x.1.Key λy=>cond (decide ((y.length:Int)=0)) (some (Pool.mk (Store.mk (Disk.mk [] []) [] 0 0) 0 (Ptr.mk 0 0 0 0 0) [] [] [] [] [] 0 0 0,200)) (cond (decide (d=0)) ((ZFc a x.1 c).bind λg=>some (g.1,g.2)) ((ZEB a b c d e f).bind λh=>some (h.1,h.2.1)))))
def ZFd (a:Pool)(b:Change):Option (Int×Pool×Change):=(G6 b a).bind λx=>some (x.1,x.2,b)
def ZEA (a:Pool)(b:Change):Option (Pool×Int×Change):=(KC a).bind λc=>(ZFd c b).bind λx=>cond (!(decide (x.1=0))) (some (Pool.mk (Store.mk (Disk.mk [] []) [] 0 0) 0 (Ptr.mk 0 0 0 0 0) [] [] [] [] [] 0 0 0,x.1,x.2.2)) (some (x.2.1,0,x.2.2))
def ZE3 (a:Pool)(b:Int)(c:Int)(d:Int)(e:List UInt8):Option (Pool×Int):=(ZAZ a b).bind λx=>cond (!(decide (x.2=0))) (some (Pool.mk (Store.mk (Disk.mk [] []) [] 0 0) 0 (Ptr.mk 0 0 0 0 0) [] [] [] [] [] 0 0 0,x.2)) ((Jo [c,16,d,15]).bind λh=>cond (!h) (some (Pool.mk (Store.mk (Disk.mk [] []) [] 0 0) 0 (Ptr.mk 0 0 0 0 0) [] [] [] [] [] 0 0 0,2)) (cond (decide (256<(e.length:Int))) (some (Pool.mk (Store.mk (Disk.mk [] []) [] 0 0) 0 (Ptr.mk 0 0 0 0 0) [] [] [] [] [] 0 0 0,3)) (idx a.Loaded x.1.Key λy=>cond (decide ((y.length:Int)=0)) (some (Pool.mk (Store.mk (Disk.mk [] []) [] 0 0) 0 (Ptr.mk 0 0 0 0 0) [] [] [] [] [] 0 0 0,200)) ((ZBQ a x.1 c).bind λf=>cond (!(decide (f.2=0))) (some (Pool.mk (Store.mk (Disk.mk [] []) [] 0 0) 0 (Ptr.mk 0 0 0 0 0) [] [] [] [] [] 0 0 0,f.2)) (Option.bind (α:=Change) (cond (decide (0<(e.length:Int))) (mks 256 (0:UInt8) λm=>cpyO m 0 (m.length:Int) e λi=>some (Change.mk b c d 0 0 0 i (Ptr.mk 0 0 0 0 0))) (some (Change.mk b c d 0 0 0 [] (Ptr.mk 0 0 0 0 0))))<|λj=>(ZEA a j).bind λg=>some (g.1,g.2.1))))))
def law21_one:Option (Pool×Bool):=(ZGW).bind λd=>(KD d).bind λa=>mks 16 (0:UInt8) λm=>(Jq a.1 [(97:UInt8)] m).bind λb=>(ZMX b.1 1 0 (1:UInt8) 1 5).bind λc=>chk (0< [(97:UInt8),(98:UInt8),(99:UInt8)].length)<|(ZE3 c.1 1 0 0 [(97:UInt8),(98:UInt8),(99:UInt8)]).bind λx=>cond (decide (a.2=0)) (cond (decide (b.2.2=0)) (cond (decide (c.2=0)) (some (x.1,decide (x.2=0))) (some (x.1,false))) (some (x.1,false))) (some (x.1,false))
def Uc (a:Pool)(b:Int):Option (Line×Int):=(G7 a b).bind λx=>(YE x.1.Dead).bind λc=>some (Line.mk x.1.Id x.1.Kind x.1.Owner x.1.Prev x.1.Txg x.1.Guid x.1.Key x.1.Root c,x.2)
def Dr (a:Line)(b:Int):Option (Bool×Int):=some (decide (a.Id=b),b)
def Xm (a:List Line)(x:Int×Int):Option ((Int×Int) ⊕ ((Int×Int) ⊕ Int)):=cond (decide (x.2<(a.length:Int))) (chk (0<=x.2/\x.2.toNat<a.length)<|idx a x.2 λy=>(Dr y x.1).bind λb=>cond b.1 (some (.inr (.inl (b.2,x.2)))) (some (.inl (b.2,w64 (x.2+1))))) (some (.inr (.inr x.1)))
def Z9 (a:List Line)(b:Int):Option (Int×List Line×Int):=Option.bind (loop (Xm a) (b,0))<|Sum.elim (λx=>some (x.2,a,x.1)) (λc=>some ((-1),a,c))
abbrev ZBm:=@Ue
def Dl (a:Pool):Option (Pool×Int):=ZBm (λa _=>a) a
def JX (g:{o:Type}->Option o->Option o->Option o)(a:Pool)(b:Int):Option (Pool×Int×Int):=(fun(u:_->_->_->_)=>(fun(j:_->_->_->_->_)=>(fun(w:_->_->_)=>(fun(p:_->_->_->_->_)=>(λq=>(λr=>(fun(s:_->_)=>(fun(k:_->_->_->_->_)=>(fun(u8:_->_->_->_->_)=>(fun(z:_->_->_->_->_)=>(Uc a b).bind λl=>cond (!(decide (l.2=0))) (s l.2) (cond (decide (l.1.Kind=2)) (some (Pool.mk r 0 q [] [] [] [] [] 0 0 0,0,202)) (Option.bind (α:=Bool) (cond (decide ((a.Lines.length:Int)=16)) (some true) (cond (decide (255<a.NextId)) (some true) (some (decide (4294967293<a.NextGuid)))))<|λA=>cond A (some (Pool.mk r 0 q [] [] [] [] [] 0 0 0,0,9)) ((KD a).bind λx=>cond (!(decide (x.2=0))) (s x.2) ((Z9 x.1.Lines b).bind λc=>chk (0<=c.1/\c.1.toNat<c.2.1.length)<|idx c.2.1 c.1 λy=>Option.bind (α:=Line) (g (g (g (u x c.2.2 y) (k g x c.2.2 y)) (g (k g x c.2.2 y) (u8 g x c.2.2 y))) (g (g (g (u x c.2.2 y) (k g x c.2.2 y)) (g (j g x c.2.2 y) (z g x c.2.2 y))) (g (u8 g x c.2.2 y) (g (u8 g x c.2.2 y) (g (z g x c.2.2 y) (g (p g x c.2.2 y) (g (p g x c.2.2 y) (g (g (j g x c.2.2 y) (u x c.2.2 y)) (g (g (u x c.2.2 y) (u x c.2.2 y)) (u x c.2.2 y))))))))))<|λB=>Option.bind (α:=(Store×UInt32×Ptr×List Line×List (List UInt8)×Int×Int×UInt32)) (g (w c x) (w c x))<|λd=>app d.2.2.2.1 [B] λt=>(Dl (Pool.mk d.1 d.2.1 d.2.2.1 x.1.MetaL t d.2.2.2.2.1 x.1.Loaded x.1.Changes d.2.2.2.2.2.1 (w64 (d.2.2.2.2.2.2.1+1)) (d.2.2.2.2.2.2.2+(2:UInt32)))).bind λi=>cond (!(decide (i.2=0))) (s i.2) (some (i.1,x.1.NextId,0))))))) λg x c y=>g (k g x c y) (g (g (u x c y) (u x c y)) (g (j g x c y) (u x c y)))) λg x c y=>g (k g x c y) (g (j g x c y) (p g x c y))) λg x c y=>g (u x c y) (j g x c y)) λl=>some (Pool.mk r 0 q [] [] [] [] [] 0 0 0,0,l)) (Store.mk (Disk.mk [] []) [] 0 0)) (Ptr.mk 0 0 0 0 0)) λg x c y=>g (j g x c y) (g (g (u x c y) (u x c y)) (g (g (u x c y) (u x c y)) (u x c y)))) λc x=>idx c.2.1 c.1 λh=>setI c.2.1 c.1 (Line.mk h.Id h.Kind h.Owner x.1.NextId h.Txg h.Guid h.Key h.Root h.Dead) λm=>idx m c.1 λe=>setI m c.1 (Line.mk e.Id e.Kind e.Owner e.Prev x.1.Gen e.Guid e.Key e.Root e.Dead) λn=>idx n c.1 λf=>setI n c.1 (Line.mk f.Id f.Kind f.Owner f.Prev f.Txg f.Guid f.Key f.Root []) λv=>some (x.1.Store,x.1.Gen,x.1.Root,v,x.1.Keys,x.1.Logged,x.1.NextId,x.1.NextGuid)) λg x c y=>g (u x c y) (g (u x c y) (u x c y))) λx c y=>some (Line.mk x.1.NextId 2 c y.Prev x.1.Gen x.1.NextGuid y.Key y.Root y.Dead)
def Kn (a:Pool)(b:Int):Option (Pool×Int×Int):=JX (λa _=>a) a b
def ZI8 (a:List UInt8)(b:UInt32)(c:List UInt8)(d:UInt32):Option (List UInt8×Int):=(WX a b c).bind λx=>cond (!(decide (x.2=0))) (some ([],x.2)) ((JY a b c).bind λe=>Option.bind (α:=Bool) (cond (!(decide (e.2=0))) (some true) (some (!(decide (e.1=d)))))<|λf=>cond f (some ([],131)) (some (x.1,0)))
def ZG0 (a:Store)(b:Ptr)(c:List UInt8):Option (List UInt8×Int):=(Vr a b).bind λx=>cond (!(decide (x.2=0))) (some ([],x.2)) (cond (!(decide ((c.length:Int)=16))) (some ([],3)) ((ZI8 c b.Iv x.1 b.Tag).bind λd=>cond (!(decide (d.2=0))) (some ([],131)) (some (d.1,0))))
def ZJY (a:Pool)(b:Int)(c:Int)(d:Int):Option (List UInt8×Int):=(G7 a b).bind λf=>cond (!(decide (f.2=0))) (some ([],f.2)) ((Jo [c,16,d,15]).bind λk=>cond (!k) (some ([],2)) (idx a.Loaded f.1.Key λy=>cond (decide ((y.length:Int)=0)) (some ([],200)) ((ZBQ a f.1 c).bind λj=>cond (!(decide (j.2=0))) (some ([],j.2)) ((ZAc a (b,(c,d))).bind λe=>Option.bind (α:=Bool) (cond e.2 (some (decide (0<(e.1.Data.length:Int)))) (some false))<|λl=>cond l ((Zs e.1.Data).bind λn=>some (n,0)) (Option.bind (α:=(Ptr×Int) ⊕ Ptr) (cond (!e.2) ((Jp a f.1 c).bind λh=>cond (!(decide (h.2=0))) (some (.inl (e.1.Laid,h.2))) (chk (0<=d/\d.toNat<h.1.Data.length)<|idx h.1.Data d λo=>some (.inr o))) (some (.inr e.1.Laid)))<|Sum.elim (λi=>some ([],i.2)) (λx=>cond (decide (x.At=0)&&(decide (x.Birth=0)&&(decide (x.Iv=0)&&(decide (x.Tag=0)&&(decide (x.Sum=0)&&true))))) (mks 256 (0:UInt8) λm=>some (m,0)) ((ZG0 a.Store x y).bind λg=>some (g.1,g.2))))))))
def law21_alive:Option Bool:=(law21_one).bind λb=>(Kn b.1 1).bind λx=>chk (0< [(120:UInt8)].length)<|(ZE3 x.1 1 0 0 [(120:UInt8)]).bind λc=>(ZJY c.1 2 0 0).bind λa=>cond b.2 (cond (decide (x.2.2=0)) (cond (decide (x.2.1=2)) (cond (decide (c.2=0)) (cond (decide (a.2=0)) (cond (decide ((a.1.length:Int)=256)) (slc a.1 0 3 λm=>some (decide (m= [(97:UInt8),(98:UInt8),(99:UInt8)]))) (some false)) (some false)) (some false)) (some false)) (some false)) (some false)
def D3 (a:Disk)(x:Int×Int):Option ((Int×Int) ⊕ Int):=Option.bind (α:=Bool) (cond (decide (x.2<(a.Blocks.length:Int))) (some (decide (x.1<2000000))) (some false))<|λb=>cond b (idx a.Blocks x.2 λy=>some (.inl (w64 (x.1+(y.length:Int)),w64 (x.2+1)))) (some (.inr x.1))
def D2 (a:Disk)(x:Int×Int):Option ((Int×Int) ⊕ Int):=Option.bind (α:=Bool) (cond (decide (x.2<(a.Waits.length:Int))) (some (decide (x.1<2000000))) (some false))<|λb=>cond b (idx a.Waits x.2 λy=>some (.inl (w64 (x.1+(y.Data.length:Int)),w64 (x.2+1)))) (some (.inr x.1))
def Jc (a:Disk):Option Bool:=Option.bind (α:=Bool) (cond (decide (500<(a.Blocks.length:Int))) (some true) (cond (decide (500<(a.Waits.length:Int))) (cond (decide ((a.Waits.length:Int)<4096)) (some true) (some (decide (4106<(a.Waits.length:Int))))) (some (decide (4106<(a.Waits.length:Int))))))<|λx=>cond x (some true) ((loop (D3 a) (0,0)).bind λb=>(loop (D2 a) (b,0)).bind λc=>some (decide (2000000<=c)))
def D1 (a:Store):Option Bool:=(Jc a.Disk).bind λx=>cond x (some true) (some (decide (10000<(a.Space.length:Int))))
def D0 (a:Pool)(x:Int×Nat):Option ((Int×Nat) ⊕ Int):=cond (decide ((x.2:Int)<(a.Lines.length:Int))) (idx a.Lines (x.2:Int) λy=>some (.inl (w64 (x.1+(min (y.Dead.length:Int) 100000)),x.2+1))) (some (.inr x.1))
def Dz (a:Pool)(x:Int×Nat):Option ((Int×Nat) ⊕ Int):=cond (decide ((x.2:Int)<(a.Changes.length:Int))) (idx a.Changes (x.2:Int) λy=>some (.inl (w64 (x.1+(w64 ((min (y.Data.length:Int) 1000000).tdiv 256))),x.2+1))) (some (.inr x.1))
def Dy (a:Pool)(x:Int×Nat):Option ((Int×Nat) ⊕ Int):=cond (decide ((x.2:Int)<(a.Keys.length:Int))) (idx a.Keys (x.2:Int) λy=>some (.inl (w64 (x.1+(w64 ((min (y.length:Int) 1000000).tdiv 24))),x.2+1))) (some (.inr x.1))
def Dx (a:Pool)(x:Int×Nat):Option ((Int×Nat) ⊕ Int):=cond (decide ((x.2:Int)<(a.Loaded.length:Int))) (idx a.Loaded (x.2:Int) λy=>some (.inl (w64 (x.1+(w64 ((min (y.length:Int) 1000000).tdiv 16))),x.2+1))) (some (.inr x.1))
def Jb (a:Pool):Option Bool:=Option.bind (α:=Bool) ((D1 a.Store).bind λc=>cond c (some true) (some (decide (1000<w64 ((w64 ((w64 ((w64 ((a.MetaL.length:Int)+(a.Lines.length:Int)))+(a.Keys.length:Int)))+(a.Loaded.length:Int)))+(a.Changes.length:Int))))))<|λd=>cond d (some true) ((loop (D0 a) (w64 ((w64 ((w64 ((w64 ((a.MetaL.length:Int)+(a.Lines.length:Int)))+(a.Keys.length:Int)))+(a.Loaded.length:Int)))+(a.Changes.length:Int)),0)).bind λe=>(loop (Dz a) (e,0)).bind λf=>(loop (Dy a) (f,0)).bind λx=>(loop (Dx a) (x,0)).bind λb=>some (decide (5000<b)))
def law21_SnapRefuses (a:Pool)(b:Int):Option Bool:=(law21_alive).bind λc=>Option.bind (α:=Bool) ((Jb a).bind λh=>cond h (some true) (some (!c)))<|λi=>cond i (some c) ((Uc a b).bind λd=>(Kn a b).bind λx=>(KD a).bind λg=>Option.bind (α:=Bool) (cond (!(decide (x.2.2=0))) (cond (!(decide (x.2.1=0))) (some true) (some (!(decide ((x.1.Lines.length:Int)=0))))) (some false))<|λj=>cond j (some false) (cond (!(decide (d.2=0))) (Option.bind (α:=Bool) (cond c (some (decide (x.2.2=d.2))) (some false))<|λk=>some k) (cond (decide (d.1.Kind=2)) (Option.bind (α:=Bool) (cond c (some (decide (x.2.2=202))) (some false))<|λl=>some l) (Option.bind (α:=Bool) (cond (decide (16<=(a.Lines.length:Int))) (some true) (cond (decide (255<a.NextId)) (some true) (some (decide (4294967293<a.NextGuid)))))<|λe=>cond e (Option.bind (α:=Bool) (cond c (some (decide (x.2.2=9))) (some false))<|λf=>some f) (cond c (cond (decide (g.2=0)) (some true) (some (decide (x.2.2=g.2)))) (some false))))))
end
set_option maxRecDepth 20000
noncomputable section
def ZEX:Option Pool:=(fun(u:_->_->_->_)=>agree ((Vq).bind λx=>agree (mks 8 [] λa=>mks 8 [] λb=>some (u x a b)) (mks 8 [] λl=>mks 8 [] λn=>some (u x n l))) (agree (mks 8 [] λk=>agree ((Vq).bind λc=>mks 8 [] λd=>some (u c k d)) (mks 8 [] λe=>(Vq).bind λf=>some (u f k e))) (mks 8 [] λm=>agree ((Vq).bind λg=>mks 8 [] λh=>some (u g h m)) (mks 8 [] λi=>(Vq).bind λj=>some (u j i m))))) λx a b=>Pool.mk x 0 (Ptr.mk 0 0 0 0 0) [] [] a b [] 0 1 1
def ZCU (a:List UInt8):Option (List UInt8):=nilq a (some []) (app [] a λm=>some m)
def Ug (a:List Int):Option (List Int):=nilq a (some []) (app [] a λm=>some m)
def Kq (a:List Line):Option (List Line):=nilq a (some []) (app [] a λm=>some m)
def Q4 (a:List Change):Option (List Change):=nilq a (some []) (app [] a λm=>some m)
def VI (a:List Ptr):Option (List Ptr):=nilq a (some []) (app [] a λm=>some m)
def Du (a:List (List UInt8)):Option (List (List UInt8)):=nilq a (some []) (app [] a λm=>some m)
def ZDB (a:Disk)(b:Int):Option (List UInt8×Int):=(fun(u:_->_->_)=>(fun(e:_->_->_)=>Option.bind (α:=(Disk×Int×Disk)) (agree ((XT b).bind λd=>agree (agree (u a d) (u a d)) (u a d)) (agree (agree ((XT b).bind λh=>agree (u a h) (u a h)) (e b a)) (agree (e b a) (e b a))))<|λx=>cond (!(decide (x.2.1=0))) (some ([],x.2.1)) (idx x.2.2.Blocks b λy=>some (y,0))) λb a=>(XT b).bind λf=>(X6 a f a).bind λc=>some (c.2.2,c.2.1,c.1)) λa d=>(X6 a d a).bind λg=>some (g.2.2,g.2.1,g.1)
def UD (a:List UInt8):Option (List UInt8):=nilq a (some []) (app [] a λm=>some m)
def ZCk (a:List UInt8):Option (Object×Int):=(fun(u:_->_->_->_->_)=>cond (!(decide ((a.length:Int)=256))) (some (Object.mk 0 0 0 [],3)) (idx a 0 λy=>idx a 1 λd=>idx a 2 λw=>idx a 3 λz=>idx a 4 λq=>idx a 5 λr=>idx a 6 λs=>idx a 7 λt=>idx a 8 λv=>idx a 9 λf=>idx a 10 λg=>idx a 11 λh=>idx a 12 λi=>idx a 13 λj=>idx a 14 λk=>idx a 15 λl=>chk ((a.length:Int)=(a.length:Int))<|slc a 16 (a.length:Int) λn=>mks 16 (0:UInt8) λm=>chk (0<m.length)<|app n m λo=>(D4 o).bind λx=>Option.bind (α:=Bool) (cond (!(decide (x.2=0))) (some true) (some (!(decide ([q,r,s,t,v,f,g,h,i,j,k,l]= [(0:UInt8),(0:UInt8),(0:UInt8),(0:UInt8),(0:UInt8),(0:UInt8),(0:UInt8),(0:UInt8),(0:UInt8),(0:UInt8),(0:UInt8),(0:UInt8)])))))<|λp=>cond p (some (Object.mk 0 0 0 [],8)) ((Qu a 2 2).bind λb=>Option.bind (α:=Object) (agree (agree (u x y d b.1) (u x y d b.1)) (agree (agree (u x y d b.1) (u x y d b.1)) (chk (0<=(15:Int)/\15<=(x.1.length:Int))<|agree (some (Object.mk y (d.toNat:Int) b.1 (x.1.take 15))) (some (Object.mk y (d.toNat:Int) b.1 (x.1.take 15))))))<|λc=>(Gt c).bind λe=>cond (!(decide (e.1=0))) (some (Object.mk 0 0 0 [],8)) (some (Object.mk c.Kind c.Links c.Size e.2,0))))) λx y d b=>chk (0<=(15:Int)/\15<=(x.1.length:Int))<|some (Object.mk y (d.toNat:Int) b (x.1.take 15))
def Q3 (a:List Ptr):Option (List Ptr×List Ptr):=nilq a (some ([],a)) (app [] a λm=>some (m,a))
def ZAU (a:Disk)(b:Int)(c:List UInt8):Option (Disk×Int):=(fun(u:_->_->_)=>(fun(f:_->_->_)=>(fun(j:_->_->_->_)=>Option.bind (α:=(Disk×Int)) (agree ((XT b).bind λd=>agree (agree (u a d) (u a d)) (u a d)) (agree (agree ((XT b).bind λk=>agree (u a k) (u a k)) (f b a)) (agree (f b a) (f b a))))<|λx=>cond (!(decide (x.2=0))) (some (Disk.mk [] [],x.2)) (cond (!(decide ((c.length:Int)=256))) (some (Disk.mk [] [],3)) (cond (decide ((x.1.Waits.length:Int)=4096)) (some (Disk.mk [] [],9)) (agree (j x b c) (j x b c))))) λx b c=>(YT x.1.Waits).bind λg=>chk (0< [Write.mk b c].length)<|app g [Write.mk b c] λm=>(twinF (Disk.mk x.1.Blocks m)).bind λh=>some (h,0)) λb a=>(XT b).bind λi=>(Xy a i a).bind λe=>some (e.2.2,e.2.1)) λa d=>(Xy a d a).bind λl=>some (l.2.2,l.2.1)
def Dn (a:Store)(b:Ptr)(c:List UInt8):Option (Store×Ptr×Int):=JW agree a b c
def VA (a:Int)(b:Ptr)(c:Ptr)(d:List Change)(e:Pool×UInt32×Int):Option (Ptr×(Pool×UInt32×Int)):=QZ agree a b c d e
def KY (a:Int)(b:List Change)(c:Pool×UInt32×Int):Option (Pool×UInt32×Int):=YW agree a b c
def Ve (a:Int)(b:List Change)(c:Pool×UInt32×Int):Option (Pool×UInt32×Int):=Vf agree a b c
def ZDD (a:Store)(b:UInt32)(c:List Ptr):Option (Store×Ptr×List Int×Int):=Bm agree a b c
def Qa (q:Ptr->Option (List UInt8×Int))(c:Option (List Int))(d:(List Int)->(List Int)->Option (List UInt8))(e:(List (List UInt8))->Option (List UInt8))(f:(List UInt8)->Int->Option (List UInt8))(a:Line)(b:Ptr):Option (List UInt8):=(fun(u:_->_)=>(q a.Root).bind λx=>(q b).bind λg=>Option.bind (α:=List UInt8) (agree (u a) (u a))<|λh=>(e [h,x.1,g.1]).bind λi=>(f i 48).bind λj=>some j) λa=>(c).bind λk=>(d k [a.Id,(a.Kind.toNat:Int),a.Owner,a.Prev,(a.Txg.toNat:Int),(a.Guid.toNat:Int),a.Key]).bind λl=>some l
def W0 (a:Line)(b:Ptr):Option (List UInt8):=Qa Qy Gb BK ZR Yg a b
def VB (a:List UInt8)(b:List Int)(c:List UInt8)(d:Pool×UInt32×Int):Option (List Int×List UInt8×(Pool×UInt32×Int)):=XU agree a b c d
def WR (a:List UInt8)(b:List Int)(c:List UInt8)(d:Pool×UInt32×Int):Option (List Int×List UInt8×(Pool×UInt32×Int)):=WS agree a b c d
def Wz (a:Pool×UInt32×Int):Option (Pool×UInt32×Int):=KQ agree a
def Ud (o:(Pool×UInt32×Int))(x:(Pool×UInt32×Int)×Int):Option (((Pool×UInt32×Int)×Int) ⊕ (Pool×UInt32×Int)):=(fun(u:_->_->_)=>(fun(g:_->_->_)=>(fun(h:_->_)=>(fun(i:_->_)=>(fun(j:_->_->_)=>(fun(n:_->_->_)=>cond (decide (x.2<(o.1.Lines.length:Int))) (chk (0<=x.2/\x.2.toNat<x.1.1.Lines.length)<|agree (agree (i x) (i x)) (agree (Option.bind (h x) λa=>agree (j a x) (agree (j a x) (n a x))) (agree (i x) (Option.bind (h x) λe=>agree (j e x) (n e x))))) (some (.inr x.1))) λa x=>Option.bind (g a x) λc=>(Zg c.2.2 c.1 (u x c.2.1)).bind λk=>some (.inl (k,w64 (x.2+1)))) λa x=>Option.bind (g a x) λf=>(Zg x.2 f.1 (u x f.2.1)).bind λl=>some (.inl (l,w64 (x.2+1)))) λx=>Option.bind (h x) λd=>Option.bind (g d x) λb=>(Zg x.2 b.1 (u x b.2.1)).bind λm=>some (.inl (m,w64 (x.2+1)))) λx=>Zi x.1.1.Changes) λd x=>ZL d x.2 x.1.1.Lines) λx b=>(Pool.mk x.1.1.Store x.1.1.Gen x.1.1.Root x.1.1.MetaL b x.1.1.Keys x.1.1.Loaded x.1.1.Changes x.1.1.Logged x.1.1.NextId x.1.1.NextGuid,x.1.2)
def Dj (a:Pool):Option (Pool×UInt32×Int):=(λu=>(λd=>(Vo a).bind λe=>Option.bind (α:=Bool) (cond (decide (e=0)) (some (decide (a.Gen=16777215))) (some false))<|λh=>Option.bind (α:=(Pool×UInt32×Int)) (cond h (some (Pool.mk d 0 u [] [] [] [] [] 0 0 0,((0:UInt32),9))) (some (Pool.mk d 0 u [] [] [] [] [] 0 0 0,((0:UInt32),e))))<|λx=>cond (!(decide (x.2.2=0))) (some x) (Option.bind (α:=(Pool×UInt32×Int)) (agree ((KC a).bind λf=>agree (some (f,(a.Gen+(1:UInt32),x.2.2))) (some (f,(a.Gen+(1:UInt32),x.2.2)))) ((KC a).bind λi=>some (i,(a.Gen+(1:UInt32),x.2.2))))<|λg=>(loop (Ud g) (g,0)).bind λb=>(Xh b).bind λc=>some c)) (Store.mk (Disk.mk [] []) [] 0 0)) (Ptr.mk 0 0 0 0 0)
def VG (a:List UInt8):Option (List UInt8×List UInt8):=nilq a (some ([],a)) (app [] a λm=>some (m,a))
def ZCb (a:Pool):Option (Pool×Int):=Ue agree a
def Dg (a:List UInt8)(b:List UInt8)(c:UInt32):Option (List UInt8×Int):=Dh agree a b c
def GL (a:Pool)(b:List UInt8)(c:List UInt8):Option (Pool×Int×Int):=GM agree a b c
def Ux (a:Int)(b:Bool)(c:Change)(d:Int)(e:Pool):Option (Int×Bool×Change×Int×Pool):=(fun(u:_->_->_->_->_->_)=>cond (!(decide (a=0))) (some (a,b,c,d,e)) (cond b (chk (0<=d/\d.toNat<e.Changes.length)<|setI e.Changes d c λm=>some (a,b,c,d,Pool.mk e.Store e.Gen e.Root e.MetaL e.Lines e.Keys e.Loaded m e.Logged e.NextId e.NextGuid)) (agree (u e d c a b) (agree (u e d c a b) (u e d c a b))))) λe d c a b=>Option.bind ((insO (α:=Change)) e.Changes d [c]) λx=>some (a,b,c,d,Pool.mk e.Store e.Gen e.Root e.MetaL e.Lines e.Keys e.Loaded x e.Logged e.NextId e.NextGuid)
def W5 (a:Int)(b:Bool)(c:Change)(d:Int)(e:Pool):Option (Int×Bool×Change×Int×Pool):=(fun(u:_->_->_->_->_->_)=>cond (!(decide (a=0))) (some (a,b,c,d,e)) (cond b (chk (0<=d/\d.toNat<e.Changes.length)<|setI e.Changes d c λm=>some (a,b,c,d,Pool.mk e.Store e.Gen e.Root e.MetaL e.Lines e.Keys e.Loaded m e.Logged e.NextId e.NextGuid)) (agree (u e d c a b) (agree (u e d c a b) (u e d c a b))))) λe d c a b=>Option.bind ((insO (α:=Change)) e.Changes d [c]) λx=>some (a,b,c,d,Pool.mk e.Store e.Gen e.Root e.MetaL e.Lines e.Keys e.Loaded x e.Logged e.NextId e.NextGuid)
def ZAa (a:Change)(b:Pool):Option (Int×Pool):=(fun(j:_->_->_)=>(fun(k:_->_->_)=>(fun(u:_->_->_)=>(fun(l:_->_->_->_)=>Option.bind (α:=(Disk×UInt32×UInt32×UInt32×Ptr×List Change×Int×Int×UInt32×Int×Bool)) (agree (Option.bind (k b a) λd=>agree (some (j b d)) (some (j b d))) (agree (agree (u b a) (u b a)) (agree (u b a) (u b a))))<|λx=>Option.bind (α:=Bool) (cond x.2.2.2.2.2.2.2.2.2.2 (chk (0<=x.2.2.2.2.2.2.2.2.2.1/\x.2.2.2.2.2.2.2.2.2.1.toNat<x.2.2.2.2.2.1.length)<|idx x.2.2.2.2.2.1 x.2.2.2.2.2.2.2.2.2.1 λe=>some (!(decide (e.Laid.At=0)&&(decide (e.Laid.Birth=0)&&(decide (e.Laid.Iv=0)&&(decide (e.Laid.Tag=0)&&(decide (e.Laid.Sum=0)&&true))))))) (some false))<|λm=>cond m (Option.bind (α:=(Store×UInt32×Ptr×Int×Int×UInt32×Int×Store)) (chk (0<=x.2.2.2.2.2.2.2.2.2.1/\x.2.2.2.2.2.2.2.2.2.1.toNat<x.2.2.2.2.2.1.length)<|idx x.2.2.2.2.2.1 x.2.2.2.2.2.2.2.2.2.1 λy=>agree (l x b y) (l x b y))<|λc=>cond (!(decide (c.2.2.2.2.2.2.1=0))) ((Y2 c.2.2.2.2.2.2.1 x.2.2.2.2.2.2.2.2.2.2 a x.2.2.2.2.2.2.2.2.2.1 (Pool.mk c.1 c.2.1 c.2.2.1 b.MetaL b.Lines b.Keys b.Loaded x.2.2.2.2.2.1 c.2.2.2.1 c.2.2.2.2.1 c.2.2.2.2.2.1)).bind λf=>some (f.1,f.2.2.2.2)) ((Yb 0 x.2.2.2.2.2.2.2.2.2.2 a x.2.2.2.2.2.2.2.2.2.1 (Pool.mk c.2.2.2.2.2.2.2 c.2.1 c.2.2.1 b.MetaL b.Lines b.Keys b.Loaded x.2.2.2.2.2.1 c.2.2.2.1 c.2.2.2.2.1 c.2.2.2.2.2.1)).bind λg=>some (g.1,g.2.2.2.2))) ((Yb 0 x.2.2.2.2.2.2.2.2.2.2 a x.2.2.2.2.2.2.2.2.2.1 (Pool.mk (Store.mk x.1 b.Store.Space x.2.1 x.2.2.1) x.2.2.2.1 x.2.2.2.2.1 b.MetaL b.Lines b.Keys b.Loaded x.2.2.2.2.2.1 x.2.2.2.2.2.2.1 x.2.2.2.2.2.2.2.1 x.2.2.2.2.2.2.2.2.1)).bind λh=>some (h.1,h.2.2.2.2))) λx b y=>(Vs (Store.mk x.1 b.Store.Space x.2.1 x.2.2.1) y.Laid).bind λi=>some (Store.mk x.1 b.Store.Space x.2.1 x.2.2.1,x.2.2.2.1,x.2.2.2.2.1,x.2.2.2.2.2.2.1,x.2.2.2.2.2.2.2.1,x.2.2.2.2.2.2.2.2.1,i.2,i.1)) λb a=>Option.bind (k b a) λn=>some (j b n)) λb a=>ZF b.Changes (a.Set,(a.Obj,a.Index))) λb d=>(b.Store.Disk,b.Store.Epoch,b.Store.Count,b.Gen,b.Root,d.2.2,b.Logged,b.NextId,b.NextGuid,d.1,d.2.1)
def GK (a:Change)(b:Pool):Option (Int×Pool):=(fun(k:_->_->_)=>(fun(l:_->_->_)=>(fun(u:_->_->_)=>(fun(m:_->_->_)=>Option.bind (α:=(Store×UInt32×Ptr×List Change×Int×Int×UInt32×Int×Bool)) (agree (Option.bind (l b a) λd=>agree (some (k b d)) (some (k b d))) (agree (agree (u b a) (u b a)) (agree (u b a) (u b a))))<|λx=>Option.bind (α:=Bool) (cond x.2.2.2.2.2.2.2.2 (chk (0<=x.2.2.2.2.2.2.2.1/\x.2.2.2.2.2.2.2.1.toNat<x.2.2.2.1.length)<|idx x.2.2.2.1 x.2.2.2.2.2.2.2.1 λy=>some (!(decide (y.Laid.At=0)&&(decide (y.Laid.Birth=0)&&(decide (y.Laid.Iv=0)&&(decide (y.Laid.Tag=0)&&(decide (y.Laid.Sum=0)&&true))))))) (some false))<|λn=>cond n (Option.bind (α:=(Int×Store)) (chk (0<=x.2.2.2.2.2.2.2.1/\x.2.2.2.2.2.2.2.1.toNat<x.2.2.2.1.length)<|idx x.2.2.2.1 x.2.2.2.2.2.2.2.1 λe=>agree ((Vs x.1 e.Laid).bind λf=>some (f.2,f.1)) ((Vs x.1 e.Laid).bind λg=>some (g.2,g.1)))<|λc=>cond (!(decide (c.1=0))) ((Y2 c.1 x.2.2.2.2.2.2.2.2 a x.2.2.2.2.2.2.2.1 (m x b)).bind λh=>some (h.1,h.2.2.2.2)) ((Yb 0 x.2.2.2.2.2.2.2.2 a x.2.2.2.2.2.2.2.1 (Pool.mk c.2 x.2.1 x.2.2.1 b.MetaL b.Lines b.Keys b.Loaded x.2.2.2.1 x.2.2.2.2.1 x.2.2.2.2.2.1 x.2.2.2.2.2.2.1)).bind λi=>some (i.1,i.2.2.2.2))) ((Y2 0 x.2.2.2.2.2.2.2.2 a x.2.2.2.2.2.2.2.1 (m x b)).bind λj=>some (j.1,j.2.2.2.2))) λx b=>Pool.mk x.1 x.2.1 x.2.2.1 b.MetaL b.Lines b.Keys b.Loaded x.2.2.2.1 x.2.2.2.2.1 x.2.2.2.2.2.1 x.2.2.2.2.2.2.1) λb a=>Option.bind (l b a) λo=>some (k b o)) λb a=>ZF b.Changes (a.Set,(a.Obj,a.Index))) λb d=>(b.Store,b.Gen,b.Root,d.2.2,b.Logged,b.NextId,b.NextGuid,d.1,d.2.1)
def Kk (b:Object)(c:Line)(d:Int)(x:Pool×Int):Option ((Pool×Int) ⊕ ((Pool×Int) ⊕ Pool)):=(fun(u:_->_->_->_)=>cond (decide (x.2<(b.Data.length:Int))) (chk (0<=x.2/\x.2.toNat<b.Data.length)<|idx b.Data x.2 λy=>Option.bind (α:=(Pool×Bool)) (agree (u x c d) (u x c d))<|λf=>Option.bind (α:=Bool) (cond (!f.2) (some (decide (y.At=0)&&(decide (y.Birth=0)&&(decide (y.Iv=0)&&(decide (y.Tag=0)&&(decide (y.Sum=0)&&true)))))) (some false))<|λg=>cond g (some (.inl (f.1,w64 (x.2+1)))) ((Qt (Change.mk c.Id d x.2 0 0 0 [] (Ptr.mk 0 0 0 0 0)) f.1).bind λe=>cond (!(decide (e.1=0))) (some (.inr (.inl (e.2,e.1)))) (some (.inl (e.2,w64 (x.2+1)))))) (some (.inr (.inr x.1)))) λx c d=>(Uz x.1 (c.Id,(d,x.2))).bind λa=>some (Pool.mk x.1.Store x.1.Gen x.1.Root a.2.2.1 a.2.2.2.1 a.2.2.2.2.1 a.2.2.2.2.2.1 a.2.2.2.2.2.2 x.1.Logged x.1.NextId x.1.NextGuid,a.2.1)
def W4 (a:Pool)(b:Object)(c:Line)(d:Int):Option (Int×Pool×Object×Line×Int):=Option.bind (loop (Kk b c d) (a,0))<|Sum.elim (λf=>some (f.2,f.1,b,c,d)) (λe=>(Qt (Change.mk c.Id d 15 0 0 0 [] (Ptr.mk 0 0 0 0 0)) e).bind λx=>some (x.1,x.2,b,c,d))
def ZBl (a:Pool):Option (Pool×Int):=ZBm agree a
def Dq (a:Pool)(b:Int):Option (Pool×Int×Int):=JX agree a b
end
open Go.Sort Go.Proofs
set_option maxRecDepth 20000
theorem ZN{b:Type}(a:Option b):agree a a=a:=by unfold agree;exact TG rfl
theorem Uo{α b:Type}(a:List α)(k:List α->Option b):nilq a (k []) (app [] a k)=app [] a k:=by
 cases a with
 |nil=>unfold nilq;rw[show app ([]:List α) [] k=k []from rfl];exact ZN _
 |cons _ _=>rfl
theorem ZJI{α b:Type}(a:List α)(k:List α->List α->Option b):nilq a (k [] a) (app [] a λm=>k m a)=app [] a λm=>k m a:=by
 cases a with
 |nil=>unfold nilq;rw[show(app ([]:List α) [] λm=>k m [])=k [] []from rfl];exact ZN _
 |cons _ _=>rfl
theorem ZLn{σ τ:Type}{body:σ->Option (σ ⊕ τ)}(I:σ->Prop)(J:τ->Prop)(hb:∀s o,I s->body s=some o->Sum.elim I J o){s:σ}{t:τ}(h:loop body s=some t)(hs:I s):J t:=by
  have k:∀(n:Nat) (s:σ),I s->run body n s=some t->J t:=λn=>by
    induction n with
    |zero=>intro s _ h;cases h
    | succ n i=>
      intro s hs h;obtain⟨o,h1,h2⟩:=ZDW h;have h3:=hb s o hs h1;cases o with
      |inl s'=>exact i s' h3 h2
      |inr a=>obtain rfl:a=t:=h2;exact h3
  exact k _ _ hs h
theorem ZKj (x y:Ptr):ltOf cmpP x y=decide (x.At<y.At):=by
 unfold ltOf cmpP;by_cases h1:x.At<y.At
 . simp[h1]
 . by_cases h2:y.At<x.At<;>simp[h1,h2]
theorem ZMe:SWO (ltOf cmpP) where
 irrefl x:=by rw[ZKj];simp
 trans x y z h1 h2:=by rw[ZKj]at*;simp at*;omega
 ntrans x y z h1 h2:=by rw[ZKj]at*;simp at*;omega
theorem ZDE (a b:Int):Zd a b=some (if a<b then -1 else if b<a then 1 else 0):=by
 unfold Zd KL;by_cases h1:a<b
 . simp[h1]
 . by_cases h2:b<a<;>simp[h1,h2]
theorem ZI1 (x y:Ptr):Ki x y=some (cmpP x y):=by
 unfold Ki;rw[ZDE];rfl
theorem ZNL:ZEX=ZGW:=by
 unfold ZEX ZGW;have h:∀(k:List (List UInt8)->Option Pool),mks 8 ([]:List UInt8) k=k (List.replicate 8 []):=λk=>rfl;simp only[h,ZN]
theorem ZHG (a:List UInt8):ZCU a=Zs a:=Uo a _
theorem ZBg (a:List Int):Ug a=Qx a:=Uo a _
theorem GF (a:List Line):Kq a=XL a:=Uo a _
theorem Un (a:List Change):Q4 a=Zi a:=Uo a _
theorem Gr (a:List Ptr):VI a=YE a:=Uo a _
theorem ZF6 (a:List (List UInt8)):Du a=VJ a:=Uo a _
theorem ZLf (a:Disk)(b:Int):ZDB a b=ZAW a b:=by
 unfold ZDB ZAW;simp only[ZN]
theorem D9 (a:List UInt8):UD a=Za a:=Uo a _
theorem ZLe (a:List UInt8):ZCk a=Gs a:=by
 unfold ZCk Gs;simp only[ZN]
theorem Um (a:List Ptr):Q3 a=YD a:=ZJI a λm a=>some (m,a)
theorem ZKG (a:Disk)(b:Int)(c:List UInt8):ZAU a b c=V0 a b c:=by
 unfold ZAU V0;simp only[ZN]
theorem ZKE (a:Store)(b:Ptr)(c:List UInt8):Dn a b c=Vp a b c:=by
 unfold Dn Vp JW;simp only[ZN]
theorem DY: @Yf agree=Yf λa _=>a:=by
 funext _ _;unfold Yf;simp only[ZN]
theorem DX: @Ye agree=Ye λa _=>a:=by
 funext _ _;unfold Ye;simp only[ZN]
theorem ZCi (a:Int)(b:Ptr)(c:Ptr)(d:List Change)(e:Pool×UInt32×Int):VA a b c d e=XR a b c d e:=by
 unfold VA XR QZ;simp only[ZN,DY,DX]
theorem BU: @YR agree=YR λa _=>a:=by
 funext _;unfold YR;simp only[ZN]
theorem UF (a:Int)(b:List Change)(c:Pool×UInt32×Int):KY a b c=Vn a b c:=by
 unfold KY Vn YW;simp only[ZN,BU]
theorem BT (a:Int)(b:List Change)(c:Pool×UInt32×Int):Ve a b c=Zg a b c:=UF a b c
theorem ZHD: @KJ agree=KJ λa _=>a:=by
 funext _ _;unfold KJ;simp only[ZN]
theorem ZLg (a:Store)(b:UInt32)(c:List Ptr):ZDD a b c=Uw a b c:=by
 unfold ZDD Uw Bm;simp only[ZN,ZHD]
theorem ZCj (q:Ptr->Option (List UInt8×Int))(c:Option (List Int))(d:(List Int)->(List Int)->Option (List UInt8))(e:(List (List UInt8))->Option (List UInt8))(f:(List UInt8)->Int->Option (List UInt8))(a:Line)(b:Ptr):Qa q c d e f a b=KR q c d e f a b:=by
 unfold Qa KR;simp only[ZN]
theorem ZEh (a:Line)(b:Ptr):W0 a b=QS a b:=by
 unfold W0 QS;simp only[ZN,ZCj]
theorem Ul (a:List UInt8)(b:List Int)(c:List UInt8)(d:Pool×UInt32×Int):VB a b c d=YN a b c d:=by
 unfold VB YN XU;simp only[ZN]
theorem DZ (a:List UInt8)(b:List Int)(c:List UInt8)(d:Pool×UInt32×Int):WR a b c d=QB a b c d:=Ul a b c d
theorem ZBf: @Y9 agree=Y9 λa _=>a:=by
 funext _ _;unfold Y9;simp only[ZN]
theorem ZBe: @Y8 agree=Y8 λa _=>a:=by
 funext _ _;unfold Y8;simp only[ZN]
theorem ZBd: @Y7 agree=Y7 λa _=>a:=by
 funext _ _;unfold Y7;simp only[ZN]
theorem ZEg (a:Pool×UInt32×Int):Wz a=Xh a:=by
 unfold Wz Xh KQ;simp only[ZN,ZBf,ZBe,ZBd]
theorem ZF5: @Ud= @UJ:=by
  have hb:∀(y:Change) (b:Int) (c:List Line) r,Qh y b c=some r->r.2=(c,b):=λy b c r h=>by
    unfold Qh at h;obtain⟨w,_,h⟩:=Ym h;cases h;rfl
  have hi:∀(a:List Change) (b:Int) (c:List Line) r,Zh a b c=some r->r.2.2=(c,b):=λa b c r h=>by
    unfold Zh at h;obtain⟨t,ht,h⟩:=Zb h;have:=ZLn (λx=>x.1=b/\x.2.2=c) (λt=>Sum.elim (λx=>x.1=b/\x.2.2=c) (λx=>x.1=b/\x.2=c) t) (λs o hs d=>by
      unfold YJ at d;cases f:decide (s.2.1<(a.length:Int))with
      |false=>rw[f]at d;cases d;exact hs
      | true=>
        rw[f,Tu]at d;obtain⟨_,d⟩:=ZH d;obtain⟨y,_,d⟩:=Ym d;obtain⟨j,h3,d⟩:=Zb d;have e3:=hb _ _ _ _ h3;obtain⟨z,u,v⟩:=j;dsimp only at e3;cases e3;cases z<;>cases d<;>exact hs) ht ⟨rfl,rfl⟩
    cases t with
    |inl x=>obtain⟨e1,e2⟩:=this;cases h;rw[<-e1,<-e2]
    |inr x=>obtain⟨e1,e2⟩:=this;cases h;rw[<-e1,<-e2]
  have f :∀(a:List Change) (b:Int) (c:List Line) r,ZL a b c=some r->r.2=(c,b):=λa b c r h=>by
    unfold ZL at h;obtain⟨g,h1,h⟩:=Zb h;have e1:=hi _ _ _ _ h1;cases q:decide (g.1= -1)with
    |true=>rw[q]at h;cases h;rw[<-e1]
    | false=>
      rw[q,Tr]at h;obtain⟨t,ht,h⟩:=Zb h;have:=ZLn (λx=>x.1=b/\x.2.2.2.2=c) (λt=>t.1=b/\t.2.2.2=c) (λs o hs d=>by
        unfold YQ at d;cases f:decide (s.2.2.2.1<(s.2.1.length:Int))with
        |false=>rw[f]at d;cases d;exact hs
        | true=>
          rw[f,Tu]at d;obtain⟨_,d⟩:=ZH d;obtain⟨y,_,d⟩:=Ym d;obtain⟨j,h3,d⟩:=Zb d;have e3:=hb _ _ _ _ h3;obtain⟨z,u,v⟩:=j;dsimp only at e3;cases e3;obtain⟨A,_,d⟩:=Zb d;cases d;exact hs) ht ⟨by rw[show g.2.2.2=(g.2.2).2 from rfl,e1],by rw[show g.2.2.1=(g.2.2).1 from rfl,e1]⟩
      obtain⟨_,h⟩:=ZH h;obtain⟨m,_,_,h⟩:=Gi h;cases h;rw[<-this.1,<-this.2]
  funext B e;unfold Ud UJ;have n:∀(l:List Change) (b:Int) (c:List Line) (k:List Change->List Line->Int->Option (((Pool×UInt32×Int)×Int) ⊕ (Pool×UInt32×Int))),(Option.bind (ZL l b c) λx=>k x.1 x.2.1 x.2.2)=Option.bind (ZL l b c) λx=>k x.1 x.2.1 b:=λl b c k=>by
    cases h:ZL l b c with
    |none=>rfl
    |some r=>have:=f _ _ _ _ h;obtain⟨C,D⟩:=r;dsimp only at this;subst this;rfl
  have i:=λl=>n l e.2 e.1.1.Lines λm ls b=>Option.bind (Zg b m (Pool.mk e.1.1.Store e.1.1.Gen e.1.1.Root e.1.1.MetaL ls e.1.1.Keys e.1.1.Loaded e.1.1.Changes e.1.1.Logged e.1.1.NextId e.1.1.NextGuid,e.1.2)) λp=>some (.inl (p,w64 (e.2+1)));simp only[i,ZN]
theorem ZKD (a:Pool):Dj a=UW a:=by
 unfold Dj UW;simp only[ZN,ZF5]
theorem Gq (a:List UInt8):VG a=XV a:=ZJI a λm a=>some (m,a)
theorem ZFJ (a:Pool):ZCb a=KD a:=by
 unfold ZCb KD Ue;simp only[ZN]
theorem ZKC (a:List UInt8)(b:List UInt8)(c:UInt32):Dg a b c=ZA4 a b c:=by
 unfold Dg ZA4 Dh;simp only[ZN]
theorem ZHF (a:Pool)(b:List UInt8)(c:List UInt8):GL a b c=Jq a b c:=by
 unfold GL Jq GM;simp only[ZN]
theorem ZF7 (a:Int)(b:Bool)(c:Change)(d:Int)(e:Pool):Ux a b c d e=Y2 a b c d e:=by
 unfold Ux Y2;simp only[ZN]
theorem ZEj (a:Int)(b:Bool)(c:Change)(d:Int)(e:Pool):W5 a b c d e=Yb a b c d e:=by
 unfold W5 Yb;simp only[ZN]
theorem ZKH (a:Change)(b:Pool):ZAa a b=G6 a b:=by
 unfold ZAa G6;simp only[ZN]
theorem ZHE (a:Change)(b:Pool):GK a b=Qt a b:=by
 unfold GK Qt;simp only[ZN]
theorem ZBh: @Kk= @V1:=by
 funext _ _ _ _;unfold Kk V1;simp only[ZN]
theorem ZEi (a:Pool)(b:Object)(c:Line)(d:Int):W4 a b c d=WJ a b c d:=by
 unfold W4 WJ;simp only[ZN,ZBh]
theorem ZHC (a:Pool):ZBl a=Dl a:=ZFJ a
theorem ZKF (a:Pool)(b:Int):Dq a b=Kn a b:=by
 unfold Dq Kn JX;simp only[ZN]
end Go.Ow
namespace Go.Ow
variable{α σ ρ τ:Type}
def ZKa (st:ρ->σ):ρ ⊕ τ->Option (σ ⊕ τ)
 | .inl r=>some (.inl (st r))
 | .inr t=>some (.inr t)
def ends (f:ρ->τ):ρ ⊕ τ->Option τ
 | .inl r=>some (f r)
 | .inr t=>some t
theorem ZEr (l:List α)(st:Nat->ρ->σ){body:σ->Option (σ ⊕ τ)}(f:α->ρ->Option (ρ ⊕ τ))(a:ρ->τ)(I:Nat->ρ->Prop)
    (step:∀i (h:i<l.length) r,I i r->body (st i r)=Option.bind (f l[i] r) (ZKa (st (i+1))))(e:∀i (h:i<l.length) r c,I i r->f l[i] r=some (.inl c)->I (i+1) c)
    (s:∀r,I l.length r->body (st l.length r)=some (.inr (a r)))(j:l.length<FUEL){d:ρ}(h0:I 0 d):
    loop body (st 0 d)=Option.bind (forL f l d) (ends a):=by
  have g:∀(k i:Nat) (r:ρ) (n:Nat),i+k=l.length->k<n->I i r->run body n (st i r)=Option.bind (forL f (l.drop i) r) (ends a):=by
    intro k;induction k with
    | zero=>
      intro i r n hi hn hI;obtain rfl:i=l.length:=(by omega);obtain⟨n,rfl⟩:∃m,n=m+1:=⟨n-1,by omega⟩;show Option.bind (body (st l.length r)) _=_;rw[s r hI,List.drop_length];rfl
    | succ k p=>
      intro i r n hi hn hI;have b:i<l.length:=(by omega);obtain⟨n,rfl⟩:∃m,n=m+1:=⟨n-1,by omega⟩;show Option.bind (body (st i r)) _=_;rw[step i b r hI,Sw b];show _=Option.bind (Option.bind (f l[i] r) _) _;cases q:f l[i] r with
      |none=>rfl
      | some o=>
        cases o with
        |inl c=>exact p (i+1) c n (by omega) (by omega) (e i b r c hI q)
        |inr t=>rfl
  have:=g l.length 0 d FUEL (by omega) j h0;simpa[loop]using this
theorem BX (l:List α)(st:Nat->ρ->σ){body:σ->Option (σ ⊕ τ)}(f:α->ρ->Option (ρ ⊕ τ))(a:ρ->τ)
 (step:∀i (h:i<l.length) r,body (st i r)=Option.bind (f l[i] r) (ZKa (st (i+1))))(s:∀r,body (st l.length r)=some (.inr (a r)))(c:l.length<FUEL)(b:ρ):
 loop body (st 0 b)=Option.bind (forL f l b) (ends a):=
 ZEr l st f a (λ_ _=>True) (λi h r _=>step i h r) (λ_ _ _ _ _ _=>trivial) (λr _=>s r) c trivial
theorem Uu (g:ρ->α->ρ):∀(l:List α) (r:ρ),forL (λy r=>some (.inl (g r y):ρ ⊕ τ)) l r=some (.inl (l.foldl g r))
 |[],r=>rfl
 |y::l,r=>by rw[ZPp (s':=g r y) rfl,Uu g l];rfl
theorem cI{n m:Nat}{c:Type}{a b:c}:(bif decide ((n:Int)<(m:Int))then a else b)=if n<m then a else b:=by
 by_cases h:n<m
 . rw[TG h,TV (by omega)];rfl
 . rw[TM h,TT (by omega)];rfl
def okW (w:Write):Bool:=decide (0<=w.At/\w.At<256)&&decide (w.Data.length=256)
def OKD (d:Disk):Prop:=d.Blocks.length=256/\d.Waits.length<=4096/\(∀b∈d.Blocks,b.length=256)/\∀w∈d.Waits,okW w=true
instance (d:Disk):Decidable (OKD d):=by unfold OKD;infer_instance
structure Sized (d:Disk):Prop where
  blocks:d.Blocks.length<=9223372036854775807
  waits:d.Waits.length<=9223372036854775807
  at':∀w∈d.Waits,InI64 w.At
theorem Bl{n:Int}(h:InI64 n):XT n=some (decide (0<=n/\n<256)):=by
 unfold XT u64i;congr 1;apply decide_eq_decide.2;rw[UInt64.lt_iff_toNat_lt,RM];obtain⟨h1,h2⟩:=h;show _%18446744073709551616<(256:UInt64).toNat↔_;rw[show(256:UInt64).toNat=256 from rfl];omega
theorem VF{n:Nat}(h:n<=9223372036854775807):n<FUEL:=RH h (by decide)
theorem ZRs (d:Disk)(ok:Bool)(h:d.Blocks.length<=9223372036854775807):loop (UR d) (ok,0)=some (ok&&d.Blocks.all λb=>decide (b.length=256)):=by
 rw[BX d.Blocks (λi (r:Bool)=>(r,i)) (λb r=>some (.inl (r&&decide (b.length=256)))) (λr=>r) (λi hi r=> ?_) (λr=> ?_) (VF h) ok,Uu]
 . show some _=some _;congr 1;generalize d.Blocks=l;induction l generalizing ok with
   |nil=>simp
   |cons b l a=>simp only[Ss,a,RN,Bool.and_assoc]
 . unfold UR;rw[cI,TG hi,Xb _ hi];cases r
   . rfl
   . simp only[Tu,TA,ZKa,Bool.true_and];rw[show decide ((d.Blocks[i].length:Int)=256)=decide (d.Blocks[i].length=256)from decide_eq_decide.2 (by omega)]
 . unfold UR;rw[cI,TM (by omega)]
theorem ZRr (d:Disk)(ok:Bool)(h:Sized d):loop (UQ d) (ok,0)=some (ok&&d.Waits.all okW):=by
 rw[BX d.Waits (λi (r:Bool)=>(r,i)) (λw r=>some (.inl (r&&(okW w)))) (λr=>r) (λi hi r=> ?_) (λr=> ?_) (VF h.waits) ok,Uu]
 . show some _=some _;congr 1;generalize d.Waits=l;induction l generalizing ok with
   |nil=>simp
   |cons b l a=>simp only[Ss,a,RN,Bool.and_assoc]
 . unfold UQ;rw[cI,TG hi,Xb _ hi];cases r
   . rfl
   . simp only[Tu,TA,ZKa,Bool.true_and];rw[Bl (h.at' _ (Sv hi))];unfold okW;by_cases c:0<=d.Waits[i].At/\d.Waits[i].At<256
     . rw[TV c];simp only[TA,Tu,Bool.true_and];rw[show decide ((d.Waits[i].Data.length:Int)=256)=decide (d.Waits[i].Data.length=256)from decide_eq_decide.2 (by omega)]
     . rw[TT c];rfl
 . unfold UQ;rw[cI,TM (by omega)]
theorem ZAX{d:Disk}(h:Sized d):Wm d=some (if OKD d then 0 else 8):=by
 unfold Wm;rw [show(bif decide ((d.Blocks.length:Int)=256)then some (decide ((d.Waits.length:Int)<=4096))else some false)=some (decide (d.Blocks.length=256)&&decide (d.Waits.length<=4096))from by
  by_cases c:d.Blocks.length=256
  . rw[TV (show(d.Blocks.length:Int)=256 by omega),TV c];simp only[Tu,Bool.true_and];congr 1;simp only[decide_eq_decide];omega
  . rw[TT (show¬(d.Blocks.length:Int)=256 by omega),TT c];rfl]
 simp only[TA];rw[ZRs d _ h.blocks];simp only[TA];rw[ZRr d _ h];simp only[TA];by_cases c:OKD d
 . rw[TG c];obtain⟨a,f,g,i⟩:=c;rw[show(decide (d.Blocks.length=256)&&decide (d.Waits.length<=4096)&&(d.Blocks.all λb=>decide (b.length=256))&&d.Waits.all okW)=true from by
    simp only[TE,SF,Tm];exact⟨⟨⟨a,f⟩,g⟩,i⟩]
   rfl
 . rw[TM c];rw[show(decide (d.Blocks.length=256)&&decide (d.Waits.length<=4096)&&(d.Blocks.all λb=>decide (b.length=256))&&d.Waits.all okW)=false from by
    rw[Bool.eq_false_iff];intro e;simp only[TE,SF,Tm]at e;exact c ⟨e.1.1.1,e.1.1.2,e.1.2,e.2⟩]
   rfl
structure Mid (d:Disk):Prop where
  blocks:d.Blocks.length<=1000
  waits:d.Waits.length<=5000
  eb:∀b∈d.Blocks,b.length<=1000
  ew:∀w∈d.Waits,w.Data.length<=1000
theorem OKD.mid{d:Disk}(h:OKD d):Mid d:=⟨by rw[h.1];omega,by have:=h.2.1;omega,λb hb=>by rw[h.2.2.1 b hb];omega,λw a=>by
 have:=h.2.2.2 w a;simp only[okW,TE,SF]at this;omega⟩
theorem OKD.sized{d:Disk}(h:OKD d):Sized d:=⟨by rw[h.1];omega,by have:=h.2.1;omega,λw a=>by
 have:=h.2.2.2 w a;simp only[okW,TE,SF]at this;exact⟨by omega,by omega⟩⟩
theorem ZNA{l:List Nat}{k:Nat}(h:∀x∈l,x<=k):l.sum<=l.length*k:=by
  induction l with
  |nil=>simp
  | cons x l i=>
    have:=h x (by simp);have:=i (λy a=>h y (by simp[a]));simp only[List.sum_cons,TZ,Tc,Nat.one_mul];omega
theorem ZSV (d:Disk)(h:d.Blocks.length<=1000):loop (Qr d) (([]:List Int),0)=some (d.Blocks.map λb=>(b.length:Int)):=by
 rw[ZEr d.Blocks (λi (r:List Int)=>(r,i)) (λb r=>some (.inl (r++ [(b.length:Int)]))) (λr=>r) (λi r=>r.length=i) (λi hi r c=> ?_) (λi hi r g c e=> ?_) (λr _=> ?_) (VF (by omega)) rfl,Uu]
 . show some _=some _;congr 1
   suffices H:∀(l:List (List UInt8)) (a:List Int),l.foldl (λr b=>r++ [(b.length:Int)]) a=a++l.map λb=>(b.length:Int) by simpa using H d.Blocks []
   intro l;induction l with
   |nil=>simp
   |cons b l f=>intro a;simp[f]
 . unfold Qr;rw[cI,TG hi,Xb _ hi,B7 (by simp only[TZ,T6,LIM];omega)];rfl
 . simp only[SW,Sum.inl.injEq]at e;subst e;simp[c]
 . unfold Qr;rw[cI,TM (by omega)]
theorem ZNw (bs:List (List UInt8))(h:bs.length<=1000)(hb:∀b∈bs,b.length<=1000):Vu (bs.map λb=>(b.length:Int))=some (bs.map λb=>List.replicate b.length 0):=by
 unfold Vu;have e1:(bs.map λb=>(b.length:Int)).map Int.toNat=bs.map List.length:=by rw[RU];rfl
 have e2:=ZNA (l:=bs.map List.length) (k:=1000) (λx a=>by obtain⟨b,h1,rfl⟩:=SI.1 a;exact hb b h1);rw[RL]at e2;rw[TG ⟨λn hn=>by obtain⟨b,_,rfl⟩:=SI.1 hn;omega,by rw[e1];simp only[LIM];omega,by simp only[RL,LIM];omega⟩,RU];rfl
theorem ZSU (d:Disk)(h:d.Blocks.length<=1000):loop (Qq d) (d.Blocks.map (λb=>List.replicate b.length (0:UInt8)),0)=some d.Blocks:=by
 obtain⟨t,h1,h2⟩:=ZBH (body:=Qq d) (λs=>s.2<=d.Blocks.length/\s.1=d.Blocks.take s.2++(d.Blocks.drop s.2).map (λb=>List.replicate b.length (0:UInt8))) (λs=>d.Blocks.length-s.2) (λt=>t=d.Blocks) (by
  rintro⟨r,i⟩ ⟨hi,e⟩;simp only at hi e;subst e;unfold Qq;dsimp only;rw[cI];rcases SX i d.Blocks.length with a|c
  . left;have g:(d.Blocks.take i++(d.Blocks.drop i).map (λb=>List.replicate b.length (0:UInt8))).length=d.Blocks.length:=(by simp;omega);have f:(d.Blocks.take i++(d.Blocks.drop i).map (λb=>List.replicate b.length (0:UInt8)))[i]'(by omega)=List.replicate d.Blocks[i].length 0:=by
     rw[List.getElem_append_right (by simp;omega)];simp[Tw (Nat.le_of_lt a)]
    rw[TG a,Xb _ a,Xb _ (by omega),ZU5 (by rw[f];simp),ZOM (by omega) (by simpa using(by omega:i<(d.Blocks.take i++(d.Blocks.drop i).map (λb=>List.replicate b.length (0:UInt8))).length))];refine⟨_,rfl,⟨a,?_⟩,by simp only;omega⟩;simp only[T9];rw[List.set_append_right _ _ (by simp only[TH];omega),Sw a];simp only[Tq,TH,Tw (Nat.le_of_lt a),Nat.sub_self,List.set_cons_zero];rw[List.take_add_one,TO a];simp only[Option.toList_some,TI,List.singleton_append]
  . right;rw[TM (by omega)];refine⟨_,rfl,?_⟩;rw[Tg c,List.drop_of_length_le c];simp) (s:=(d.Blocks.map (λb=>List.replicate b.length (0:UInt8)),0)) ⟨TK _,by simp⟩ (VF (by simp only;omega))
 rw[h1,h2]
theorem ZIK{l:List UInt8}(h:l.length<=1000):Zs l=some l:=by
 unfold Zs;rw[B7 (by simp only[T6,LIM];omega)];rfl
theorem ZST (d:Disk)(h:d.Waits.length<=5000)(f:∀w∈d.Waits,w.Data.length<=1000):loop (Qp d) (([]:List Write),0)=some d.Waits:=by
 rw[ZEr d.Waits (λi (r:List Write)=>(r,i)) (λb r=>some (.inl (r++ [b]))) (λr=>r) (λi r=>r.length=i) (λi hi r c=> ?_) (λi hi r j c e=> ?_) (λr _=> ?_) (VF (by omega)) rfl,Uu]
 . show some _=some _;congr 1
   suffices H:∀(l:List Write) (a:List Write),l.foldl (λr b=>r++ [b]) a=a++l by simpa using H d.Waits []
   intro l;induction l with
   |nil=>simp
   |cons b l g=>intro a;simp[g]
 . unfold Qp;rw[cI,TG hi,Xb _ hi,show og_bytes_Clone d.Waits[i].Data=Zs d.Waits[i].Data from rfl,ZIK (f _ (Sv hi))];simp only[TA];rw[B7 (by simp only[TZ,T6,LIM];omega)];rfl
 . simp only[SW,Sum.inl.injEq]at e;subst e;simp[c]
 . unfold Qp;rw[cI,TM (by omega)]
theorem ZAV{d:Disk}(h:Mid d):X4 d=some d:=by
 unfold X4;rw[ZSV d h.blocks];simp only[TA];rw[ZNw _ h.blocks h.eb];simp only[TA];rw[ZSU d h.blocks];simp only[TA];rw[ZST d h.waits h.ew];rfl
theorem UZ{α:Type}:∀{l:List α} {n:Nat},lenLe l n=true↔l.length<=n
  |[],n=>⟨λ_=>TK _,λ_=>rfl⟩
  |_::l,0=>⟨λh=>(by cases h),λh=>(by simp at h)⟩
  | _::l,n+1=>by
    show lenLe l n=true↔_;rw[UZ (l:=l),TZ];omega
theorem Ua{α:Type}:∀{l:List α} {n:Nat},lenEq l n=true↔l.length=n
  | [],n=>by
    show Nat.beq n 0=true↔_;exact⟨λh=>(TB h).symm,λh=>by subst h;rfl⟩
  |_::l,0=>⟨λh=>(by cases h),λh=>(by simp at h)⟩
  | _::l,n+1=>by
    show lenEq l n=true↔_;rw[Ua (l:=l),TZ];omega
theorem ZAy{α:Type}{p:α->Bool}:∀{l:List α},allQ p l=true↔∀x∈l,p x=true
  |[]=>⟨λ_ x h=>(by cases h),λ_=>rfl⟩
  | a ::l=>by
    show Bool.rec false (allQ p l) (p a)=true↔_;cases h:p a
    . exact⟨λh=>(by cases h),λh2=>by rw[h2 a (by simp)]at h;cases h⟩
    . show allQ p l=true↔_;rw[ZAy (l:=l)];simp[h]
theorem ZQ5{d:Disk}(h:midQ d=true):Mid d:=by
 unfold midQ at h;rw[TE,TE,TE,UZ,UZ,ZAy,ZAy]at h;exact⟨h.1.1,h.2.1,λb hb=>UZ.1 (h.1.2 b hb),λw a=>UZ.1 (h.2.2 w a)⟩
theorem ZLa{d:Disk}:okdQ d=true↔OKD d:=by
 unfold okdQ OKD okW;rw[TE,TE,TE,UZ,Ua,ZAy,ZAy];constructor
 . rintro⟨⟨h1,h2⟩,h3,h⟩;refine⟨h1,h3,λb hb=>Ua.1 (h2 b hb),λw a=> ?_⟩;have:=h w a;rw[TE,Ua]at this;rw[TE];exact⟨this.1,TV this.2⟩
 . rintro⟨h1,h3,h2,h⟩;refine⟨⟨h1,λb hb=>Ua.2 (h2 b hb)⟩,h3,λw a=> ?_⟩;have:=h w a;rw[TE]at this;rw[TE,Ua];exact⟨this.1,TC this.2⟩
theorem ZLB (d:Disk):X4 d=twinF d:=by
 unfold twinF;cases h:midQ d with
 |false=>rfl
 |true=>exact ZAV (ZQ5 h)
theorem ZI3{d:Disk}(h:Mid d):twinF d=some d:=(ZLB d).symm.trans (ZAV h)
theorem OKD.sized'{d:Disk}(h:OKD d):Sized d:=by
 obtain⟨h1,h2,h3,a⟩:=h;refine⟨by omega,by omega,λw b=> ?_⟩;have:=a w b;unfold okW at this;rw[TE,SF]at this;unfold InI64;omega
theorem ZD2 (d:Disk):Wm d=Kv d:=by
  unfold Kv;cases h:okdQ d with
  |false=>rfl
  | true=>
    have h:=ZLa.1 h;rw[ZAX h.sized',TG h];rfl
theorem US{d:Disk}(h:Sized d):Kv d=some (if OKD d then 0 else 8):=(ZD2 d).symm.trans (ZAX h)
def noD:Disk:=⟨[],[]⟩
theorem ZHs{n:Int}(h:0<=n/\n<256):InI64 n:=⟨by omega,by omega⟩
theorem GC (l:List Write):YT l=some l:=by
 unfold YT;rw[ZQi (by omega) (by omega) (by omega)];simp[cut,chk]
theorem ZNn{d:Disk}(h:Sized d)(is:Bool)(e:Disk):Xy d is e=some (if OKD d then(if is=true then(e,0,e)else(noD,2,e))else(noD,8,e)):=by
 unfold Xy;rw[US h];simp only[TA];by_cases c:OKD d
 . rw[TG c,TG c];cases is<;>rfl
 . rw[TM c,TM c];rfl
def Df (d:Disk)(at':Int)(b:List UInt8):Disk×Int:=
 if OKD d then(if 0<=at'/\at'<256 then(if b.length=256 then(if d.Waits.length=4096 then(noD,9)else(⟨d.Blocks,d.Waits++ [⟨at',b⟩]⟩,0))else(noD,3))else(noD,2))else(noD,8)
theorem ZD8{d:Disk}(h:Sized d){at':Int}(k:InI64 at')(b:List UInt8):V0 d at' b=some (Df d at' b):=by
 unfold V0 Df;rw[Bl k];simp only[TA];rw[ZNn h];simp only[TA];by_cases c:OKD d
 . rw [TG c,TG c];by_cases a:0<=at'/\at'<256
   . rw [TV a,TG rfl,TG a];by_cases i:b.length=256
     . rw [TG i];dsimp only;rw[show decide ((b.length:Int)=256)=true from TV (by omega)];by_cases j:d.Waits.length=4096
       . rw[TG j];rw[show decide ((d.Waits.length:Int)=4096)=true from TV (by omega)];rfl
       . rw[TM j];rw[show decide ((d.Waits.length:Int)=4096)=false from TT (by omega),GC];have f:=c.mid;have l:=c.2.1;simp only[decide_true,Rz,Tr,TA];rw[B7 (by simp only[TZ,T6,LIM];omega),ZI3 (d:=Disk.mk d.Blocks (d.Waits++ [Write.mk at' b])) ⟨f.blocks,by simp only[TF,TZ,T6];omega,f.eb,λw g=>by
          rcases TU.1 g with e|e
          . exact f.ew w e
          . simp at e;subst e;simp only;omega⟩]
         rfl
     . rw[TM i];dsimp only;rw[show decide ((b.length:Int)=256)=false from TT (by omega)];rfl
   . rw[TT a,TM (by simp),TM a];rfl
 . rw[TM c,TM c];rfl
theorem OKD.write{d:Disk}(h:OKD d){at':Int}{b:List UInt8}(e:0<=at'/\at'<256)(hb:b.length=256)(g:d.Waits.length≠4096):OKD ⟨d.Blocks,d.Waits++ [⟨at',b⟩]⟩:=by
 obtain⟨h1,h2,h3,f⟩:=h;refine⟨h1,by simp only[TF,TZ,T6];omega,h3,λw c=> ?_⟩;rcases TU.1 c with a|a
 . exact f w a
 . simp at a;subst a;simp[okW,e,hb]
def layW (B:List (List UInt8))(ws:List Write):List (List UInt8):=ws.foldl (λB w=>B.set w.At.toNat w.Data) B
def KeysOk (M:List (Int×Write)):Prop:=(M.map (·.1)).Nodup/\∀p∈M,0<=p.1
theorem ZHR{M:List (Int×Write)}{k:Int}{y:Write}{p:Int×Write}(h:p∈putM M k y):p∈M\/p=(k,y):=by
  induction M with
  |nil=>simp[putM]at h;exact .inr h
  | cons q r i=>
    simp only[putM]at h;split at h
    . rcases Ta.1 h with a|a
      . exact .inr a
      . exact .inl (by simp[a])
    . rcases Ta.1 h with a|a
      . exact .inl (by simp[a])
      . exact(i a).imp (λz=>by simp[z]) id
theorem ZPf{M:List (Int×Write)}{k:Int}{y:Write}(h:(M.map (·.1)).Nodup):((putM M k y).map (·.1)).Nodup:=by
  induction M with
  |nil=>simp[putM]
  | cons q r i=>
    simp only[Tq,SY]at h;simp only[putM];split
    . rename_i e;simp only[Tq,SY];rw[<-e];exact h
    . rename_i e;simp only[Tq,SY];refine⟨λc=> ?_,i h.2⟩;obtain⟨p,d,a⟩:=SI.1 c;rcases ZHR d with b|b
      . exact h.1 (SI.2 ⟨p,b,a⟩)
      . subst b;exact e a.symm
theorem KeysOk.put{M:List (Int×Write)}{k:Int}{y:Write}(h:KeysOk M)(a:0<=k):KeysOk (putM M k y):=
 ⟨ZPf h.1,λp b=>(ZHR b).elim (h.2 p) (λe=>by subst e;exact a)⟩
theorem ZRG{M:List (Int×Write)}{L:List (List UInt8)}{j:Nat}{v:List UInt8}(h:∀p∈M,p.1.toNat≠j):
    layM (λy:Write=>y.Data) (L.set j v) M=(layM (λy:Write=>y.Data) L M).set j v:=by
  unfold layM;induction M generalizing L with
  |nil=>rfl
  | cons p r i=>
    simp only[Ss];rw[List.set_comm _ _ (λe=>h p (by simp) e.symm),i (λq a=>h q (by simp[a]))]
theorem ZRH{M:List (Int×Write)}{L:List (List UInt8)}{k:Int}{y:Write}(h:KeysOk M)(c:0<=k):
    layM (λy:Write=>y.Data) L (putM M k y)=(layM (λy:Write=>y.Data) L M).set k.toNat y.Data:=by
  induction M generalizing L with
  |nil=>rfl
  | cons p r i=>
    obtain⟨h1,h2⟩:=h;simp only[Tq,SY]at h1;simp only[putM];split
    . rename_i e;have b:∀q∈r,q.1.toNat≠k.toNat:=λq a d=>h1.1 (SI.2 ⟨q,a,by have:=h2 q (by simp[a]);omega⟩);show layM _ (L.set k.toNat y.Data) r=(layM _ (L.set p.1.toNat p.2.Data) r).set k.toNat y.Data;rw[<-ZRG b,e,List.set_set]
    . exact i ⟨h1.2,λq a=>h2 q (by simp[a])⟩
def lastM (ws:List Write):List (Int×Write):=ws.foldl (λM w=>putM M w.At w) []
theorem ZNU (ws:List Write)(w:Write):lastM (ws++ [w])=putM (lastM ws) w.At w:=by simp[lastM]
theorem ZHW (ws:List Write)(L:List (List UInt8))(h:∀w∈ws,0<=w.At):KeysOk (lastM ws)/\layM (λy:Write=>y.Data) L (lastM ws)=layW L ws/\∀p∈lastM ws,∃w∈ws,p.1=w.At:=by
  suffices H:∀(n:Nat) (ws:List Write),ws.length=n->(∀w∈ws,0<=w.At)->KeysOk (lastM ws)/\layM (λy:Write=>y.Data) L (lastM ws)=layW L ws/\∀p∈lastM ws,∃w∈ws,p.1=w.At from H _ ws rfl h
  intro n;induction n with
  |zero=>intro ws hn _;obtain rfl:=TX.1 hn;exact⟨⟨by simp[lastM],by simp[lastM]⟩,rfl,by simp[lastM]⟩
  | succ n i=>
    intro ws hn h;obtain⟨d,w,rfl⟩:∃a b,ws=a++ [b]:=⟨ws.dropLast,ws.getLast (by intro e;subst e;simp at hn),(List.dropLast_concat_getLast _).symm⟩;obtain⟨h1,h2,h3⟩:=i d (by simpa using hn) (λw c=>h w (by simp[c]));have c:=h w (by simp);rw[ZNU];refine⟨h1.put c,?_,λp g=> ?_⟩
    . rw[ZRH h1 c,h2];simp[layW]
    . rcases ZHR g with f|f
      . obtain⟨j,a,b⟩:=h3 p f;exact⟨j,by simp[a],b⟩
      . subst f;exact⟨w,by simp,rfl⟩
theorem ZFM (B:List (List UInt8))(ws:List Write):(layW B ws).length=B.length:=by
 unfold layW;induction ws generalizing B with
 |nil=>rfl
 |cons w ws i=>simp only[Ss,i,SC]
theorem ZRF{B:List (List UInt8)}{ws:List Write}(h:∀b∈B,b.length=256)(d:∀w∈ws,w.Data.length=256):∀b∈layW B ws,b.length=256:=by
  unfold layW;induction ws generalizing B with
  |nil=>exact h
  | cons w ws i=>
    simp only[Ss];refine i (λb hb=> ?_) (λe a=>d e (by simp[a]));rcases List.mem_or_eq_of_mem_set hb with c|c
    . exact h b c
    . rw[c];exact d w (by simp)
theorem ZNK{w:Write}(h:okW w=true):0<=w.At/\w.At<256:=by
 simp only[okW,TE,SF]at h;exact h.1
theorem ZQ0{w:Write}(h:okW w=true):w.Data.length=256:=by
 simp only[okW,TE,SF]at h;exact h.2
theorem ZTD{l:List (List UInt8)}(h:l.length<=1000):og_slices_Clone_byte_L l=some l:=by
 unfold og_slices_Clone_byte_L;rw[B7 (by simp only[T6,LIM];omega)];rfl
theorem ZNT (d:Disk)(h:d.Waits.length<=5000):VL d=some (lastM d.Waits):=by
 unfold VL;rw[BX d.Waits (λi (r:List (Int×Write))=>(r,i)) (λw r=>some (.inl (putM r w.At w))) (λr=>r) (λi hi r=> ?_) (λr=> ?_) (VF (by omega)) [],Uu]
 . rfl
 . unfold KU;rw[cI,TG hi,Xb _ hi];rfl
 . unfold KU;rw[cI,TM (by omega)]
def seenB (d:Disk):List (List UInt8):=layW d.Blocks d.Waits
theorem ZKB{d:Disk}(h:OKD d)(ws:List Write)(b:∀w∈ws,w∈d.Waits):OKD ⟨layW d.Blocks ws,[]⟩:=
 ⟨by simp only[ZFM];exact h.1,by simp,ZRF h.2.2.1 (λw a=>ZQ0 (h.2.2.2 w (b w a))),by simp⟩
theorem ZPc{d:Disk}(h:OKD d){ws:List Write}(b:∀w∈ws,w∈d.Waits):∀p∈lastM ws,0<=p.1/\p.1.toNat<d.Blocks.length:=λp c=>by
 obtain⟨w,h1,h2⟩:=(ZHW ws [] (λw a=>(ZNK (h.2.2.2 w (b w a))).1)).2.2 p c;have:=ZNK (h.2.2.2 w (b w h1));rw[h2,h.1];omega
theorem ZFZ{d:Disk}(h:OKD d):Qo d=some ⟨seenB d,[]⟩:=by
 unfold Qo;rw[ZTD h.mid.blocks];simp only[TA];rw[ZNT _ h.mid.waits];simp only[TA];unfold layR;rw[TG (ZPc h (λw a=>a)),(ZHW d.Waits d.Blocks (λw a=>(ZNK (h.2.2.2 w a)).1)).2.1];dsimp only;rw[ZAV (ZKB h d.Waits (λw a=>a)).mid];rfl
theorem ZSu (bs:List (List UInt8))(ws:List Write):layF bs ws=layW bs ws:=by
 induction ws generalizing bs with
 |nil=>rfl
 |cons w ws i=>exact i _
theorem ZLp (d:Disk):Qo d=leftF d:=by
 unfold leftF;cases h:okdQ d with
 |false=>rfl
 |true=>rw[ZFZ (ZLa.1 h),ZSu];rfl
theorem ZFY{d:Disk}(h:Sized d)(is:Bool):X6 d is d=some (if OKD d then(if is=true then(⟨seenB d,[]⟩,0,d)else(noD,2,d))else(noD,8,d)):=by
 unfold X6;rw[US h];simp only[TA];by_cases c:OKD d
 . rw[TG c,TG c];cases is
   . rfl
   . unfold ZDC;rw[<-ZLp,ZFZ c];rfl
 . rw[TM c,TM c];rfl
theorem ZJ1{d:Disk}(h:OKD d):(seenB d).length=256:=by unfold seenB;rw[ZFM];exact h.1
end Go.Ow
