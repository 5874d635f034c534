import Derived.Test.YtnahhdmkiffgnaaGreatDoorOwMf
import Derived.Test.YtnahhdmkiffgnaaGreatDoorOwMe
/-
  What is proved here: blocks laid, sealed, looked at, opened (store), in plain words.
-/
set_option linter.unusedSimpArgs false
set_option linter.unusedVariables false
namespace Go.Ow
def noP:Ptr:=⟨0,0,0,0,0⟩
def OKSt (s:Store):Prop:=OKD s.Disk∧okS s.Space∧(1:UInt32)≤s.Epoch∧s.Epoch≤65535∧s.Count≤65535
instance (s:Store):Decidable (OKSt s):=by unfold OKSt;infer_instance
def birthOk (b:UInt32):Prop:=(1:UInt32)≤b∧b≤16777215
instance (b:UInt32):Decidable (birthOk b):=by unfold birthOk;infer_instance
def more (s:Store):Store:=⟨s.Disk,s.Space,s.Epoch,s.Count+1⟩
def lookS (s:Store)(p:Ptr):List UInt8×Int:=
 if OKSt s∧(isNone p∨okR p)then(if isNone p then([],6)else(if sumOf ((seenB s.Disk).getD p.At.toNat [])=p.Sum then((seenB s.Disk).getD p.At.toNat [],0)else([],130)))else([],8)
end Go.Ow
namespace Go.Ow
end Go.Ow
namespace Go.Ow
end Go.Ow
namespace Go.Ow
def turned (B:List (List UInt8))(j i:Nat)(by':UInt8):List (List UInt8):=B.set j ((B.getD j []).set i (((B.getD j []).getD i 0)^^^by'))
end Go.Ow
namespace Go.Ow
theorem nbeq{α:Type} [DecidableEq α]{a b:α}(h:a=b):(!decide (a=b))=false:=by rw[decide_eq_true h];rfl
theorem nbne{α:Type} [DecidableEq α]{a b:α}(h:¬a=b):(!decide (a=b))=true:=by rw[decide_eq_false h];rfl
theorem cmpB_refl:∀l:List UInt8,cmpB l l=0
  |[]=>rfl
  | a::l=>by
    unfold cmpB
    rw[if_neg (UInt8.lt_irrefl a),if_neg (UInt8.lt_irrefl a),cmpB_refl l]
theorem same1 (l:List UInt8):dev_Same_1 l l=some 0:=by unfold dev_Same_1 bytes_Compare;rw[Option.bind_some,cmpB_refl]
end Go.Ow
namespace Go.Ow
def ptrB (p:Ptr):List UInt8:=leB p.At.toNat 1++leB p.Birth.toNat 3++leB p.Iv.toNat 4++leB p.Tag.toNat 4++leB p.Sum.toNat 4
def okP (p:Ptr):Prop:=isNone p∨okR p
instance (p:Ptr):Decidable (okP p):=by unfold okP;infer_instance
theorem Ptr.ext_iff'{a b:Ptr}:a=b↔(a.At=b.At∧a.Birth=b.Birth∧a.Iv=b.Iv∧a.Tag=b.Tag∧a.Sum=b.Sum):=by
 constructor
 · intro h;subst h;exact⟨rfl,rfl,rfl,rfl,rfl⟩
 · intro h
   obtain⟨a1,a2,a3,a4,a5⟩:=a
   obtain⟨b1,b2,b3,b4,b5⟩:=b
   simp only at h
   obtain⟨rfl,rfl,rfl,rfl,rfl⟩:=h
   rfl
instance:DecidableEq Ptr:=λa b=>decidable_of_iff _ Ptr.ext_iff'.symm
def rowB (l:List Ptr):List UInt8:=(l.map ptrB).flatten++List.replicate (256-16*l.length) 0
end Go.Ow
namespace Go.Ow
def okO (o:Object):Prop:=((1:Int)≤(o.Kind.toNat:Int)∧(o.Kind.toNat:Int)≤7)∧(0≤o.Links∧o.Links≤255)∧(0≤o.Size∧o.Size≤3840)∧o.Data.length=15∧∀p∈o.Data,okP p
instance (o:Object):Decidable (okO o):=by unfold okO;infer_instance
def objB (o:Object):List UInt8:=([o.Kind,u8i o.Links]++leB o.Size.toNat 2)++List.replicate 12 0++(rowB o.Data).take 240
end Go.Ow
namespace Go.Ow
end Go.Ow
namespace Go.Ow
def dataM (p q:Ptr):List Ptr:=[p,noP,noP,noP,q,noP,noP,noP,noP,noP,noP,noP,noP,noP,noP]
structure Made (s:Store) (root at' p q:Ptr):Prop where
  ok:OKSt s
  hr:okR root
  ha:okR at'
  hp:okR p
  hq:okR q
  rb:root.Birth=5
  ab:at'.Birth=5
  pb:p.Birth=3
  qb:q.Birth=5
  lr:lookS s root=(rowB [noP,noP,at'],0)
  la:lookS s at'=(objB ⟨1,0,0,dataM p q⟩,0)
theorem okR_some{p:Ptr}(h:okR p):¬isNone p:=λe=>by
 have h1:=h.1
 rw[e.1]at h1;omega
section told
variable{s:Store}{root at' p q:Ptr}(h:Made s root at' p q)
include h
end told
end Go.Ow
namespace Go.Ow
end Go.Ow
namespace Go.Ow
end Go.Ow
namespace Go.Ow
end Go.Ow
namespace Go.Ow
section
variable{s:Store}{p:Ptr}{b:List UInt8}{t:Store}{q:Ptr}{j:Nat}
end
end Go.Ow
namespace Go.Ow
end Go.Ow
namespace Go.Ow
end Go.Ow
namespace Go.Ow
theorem lim_le'{n:Nat}(h:n≤2000000):n≤LIM:=Nat.le_trans h (by decide)
end Go.Ow
namespace Go.Ow
end Go.Ow
namespace Go.Ow
theorem app_nil{β:Type}{m:List UInt8}{k:List UInt8→Option β}(h:m.length≤2000000):app [] m k=k m:=by
 rw[app_eq (by simp only[List.length_nil,Nat.zero_add];exact lim_le' h),List.nil_append]
theorem cut_nat (b:List UInt8)(i j:Nat):cut b (i:Int) (j:Int)=(b.drop i).take (j-i):=by
 unfold cut;rw[Int.toNat_natCast,Int.toNat_natCast]
end Go.Ow
namespace Go.Ow
theorem leB_numB:∀m:List UInt8,leB (numB m) m.length=m
  |[]=>rfl
  | b::m=>by
    have hb:=b.toNat_lt
    show UInt8.ofNat (b.toNat+256*numB m)::leB ((b.toNat+256*numB m)/256) m.length=_
    rw[show(b.toNat+256*numB m)/256=numB m by omega,leB_numB m]
    congr 1
    apply UInt8.toNat_inj.1
    rw[UInt8.toNat_ofNat'];omega
theorem u32i_toNat{n:Nat}(h:n<4294967296):(u32i (n:Int)).toNat=n:=by
 rw[u32i_nat',UInt32.toNat_ofNat'];omega
theorem numB_take (m:List UInt8)(k:Nat):numB (m.take k)<256^k:=Nat.lt_of_lt_of_le (numB_lt _) (Nat.pow_le_pow_right (by omega) (by rw[List.length_take];omega))
end Go.Ow
namespace Go.Ow
end Go.Ow
namespace Go.Ow
end Go.Ow
namespace Go.Ow
end Go.Ow
namespace Go.Ow
end Go.Ow
namespace Go.Ow
end Go.Ow
namespace Go.Ow
theorem more_ok{s:Store}(h:OKSt s)(c:s.Count≠65535):OKSt (more s):=by
 refine⟨h.1,h.2.1,h.2.2.1,h.2.2.2.1,?_⟩
 have:=h.2.2.2.2
 have c4':s.Count.toNat≠65535:=λe=>c (UInt32.toNat_inj.1 e)
 show s.Count+1≤65535
 rw[UInt32.le_iff_toNat_le]at this⊢
 rw[UInt32.toNat_add]
 have e1:(65535:UInt32).toNat=65535:=rfl
 have e2:(1:UInt32).toNat=1:=rfl
 omega
end Go.Ow
namespace Go.Ow
def sealedP (y:Part):Prop:=y.Iv≠0∨y.Tag≠0
instance (y:Part):Decidable (sealedP y):=by unfold sealedP;infer_instance
def inRange (y:Part):Prop:=(0≤y.Obj∧y.Obj<16)∧(0≤y.Index∧y.Index≤15)
instance (y:Part):Decidable (inRange y):=by unfold inRange;infer_instance
def okPart (y:Part):Prop:=inRange y∧(if y.Index<15 then(y.Data.length=0∧¬sealedP y)∨y.Data.length=256
 else y.Data.length=4∧¬sealedP y∧y.Data.getD 0 0≤7∧numB ((y.Data.drop 2).take 2)≤3840∧(0<y.Data.getD 0 0∨∀c∈y.Data,c=0))
instance (y:Part):Decidable (okPart y):=by unfold okPart;infer_instance
theorem blank_run (b:List UInt8):∀(k i f:Nat),i+k=b.length→k<f→∃o,run (slices_IndexFunc_byte_l1 b) f i=some o∧((o=.inl ()∧∀c∈b.drop i,c=0)∨((∃j:Nat,o=.inr (j:Int))∧¬ ∀c∈b.drop i,c=0))
  | 0,i,f,hi,hf=>by
    obtain⟨f,rfl⟩:∃q,f=q+1:=⟨f-1,by omega⟩
    refine⟨.inl (),run_en (by unfold slices_IndexFunc_byte_l1;rw[decide_eq_false (by omega)];rfl),.inl ⟨rfl,λc hc=> ?_⟩⟩
    rw[List.drop_eq_nil_of_le (by omega)]at hc;cases hc
  | k + 1,i,f,hi,hf=>by
    obtain⟨f,rfl⟩:∃q,f=q+1:=⟨f-1,by omega⟩
    have hlt:i<b.length:=by omega
    rw[List.drop_eq_getElem_cons hlt]
    by_cases c:b[i]=0
    · obtain⟨o,h1,h2⟩:=blank_run b k (i+1) f (by omega) (by omega)
      refine⟨o,?_,h2.imp (λe=>⟨e.1,λx hx=> ?_⟩) (λe=>⟨e.1,λh=>e.2 λx hx=>h x (List.mem_cons_of_mem _ hx)⟩)⟩
      · rw[run_st (s':=i+1) (by unfold slices_IndexFunc_byte_l1 send_blank_1;rw[decide_eq_true (by omega),cond_true,idx_nat _ hlt,decide_eq_true c];rfl)];exact h1
      · rcases List.mem_cons.1 hx with rfl|hx
        · exact c
        · exact e.2 x hx
    · exact⟨.inr (i:Int),run_en (by unfold slices_IndexFunc_byte_l1 send_blank_1;rw[decide_eq_true (by omega),cond_true,idx_nat _ hlt,decide_eq_false c];rfl),.inr ⟨⟨i,rfl⟩,λh=>c (h _ (List.mem_cons_self ..))⟩⟩
theorem send_blank_eq{b:List UInt8}(hb:b.length≤1000):send_blank b=some (decide (∀c∈b,c=0)):=by
 unfold send_blank slices_ContainsFunc_byte slices_IndexFunc_byte
 obtain⟨o,h1,h2⟩:=blank_run b b.length 0 1001 (by omega) (by omega)
 rw[show loop (slices_IndexFunc_byte_l1 b) 0=some o from loop_of (by decide) h1,Option.bind_some]
 rw[List.drop_zero]at h2
 rcases h2 with⟨rfl,h2⟩|⟨⟨j,rfl⟩,h2⟩
 · rw[decide_eq_true h2];rfl
 · rw[decide_eq_false h2]
   show some (!decide (0≤(j:Int)))=_
   rw[decide_eq_true (Int.natCast_nonneg j)];rfl
theorem not_dec{p:Prop} [Decidable p]:(!decide p)=decide (¬p):=by by_cases h:p<;>simp[h]
theorem or_dec{p q:Prop} [Decidable p] [Decidable q](k:Option Bool)(h:k=some (decide q)):(bif decide p then some true else k)=some (decide (p∨q)):=by
 by_cases c:p
 · rw[decide_eq_true c,cond_true,decide_eq_true (.inl c)]
 · rw[decide_eq_false c,cond_false,h];congr 1;exact decide_eq_decide.2 ⟨.inr,λe=>e.resolve_left c⟩
theorem idx0{b:List UInt8}(h:0<b.length){β:Type}(k:UInt8→Option β):idx b 0 k=k (b.getD 0 0):=by
 rw[show idx b 0 k=idx b ((0:Nat):Int) k from rfl,idx_nat _ h,List.getD_eq_getElem?_getD,List.getElem?_eq_getElem h];rfl
theorem send_part_eq (y:Part):send_part y=some (decide (okPart y)):=by
 unfold send_part
 have e1:(bif !decide (y.Iv=(0:UInt32))then some true else some (!decide (y.Tag=(0:UInt32))))=some (decide (sealedP y)):=by
  rw[not_dec,not_dec];exact or_dec _ rfl
 have e2:(bif decide (y.Obj<0)then some true else bif decide (16≤y.Obj)then some true else bif decide (y.Index<0)then some true else some (decide (15<y.Index)))=some (decide (¬inRange y)):=by
  rw[or_dec (p:=y.Obj<0) _ (or_dec (p:=16≤y.Obj) _ (or_dec (p:=y.Index<0) _ rfl))]
  congr 1;apply decide_eq_decide.2;unfold inRange;omega
 rw[e1,Option.bind_some,e2,Option.bind_some]
 by_cases c:inRange y
 · rw [decide_eq_false (λh=>h c),cond_false]
   by_cases c1:y.Index<15
   · have hok:okPart y↔((y.Data.length=0∧¬sealedP y)∨y.Data.length=256):=by unfold okPart;rw[if_pos c1];exact⟨λh=>h.2,λh=>⟨c,h⟩⟩
     rw[decide_eq_true c1,cond_true]
     have e3:(bif decide ((y.Data.length:Int)=0)then bif !decide (sealedP y)then some true else some (decide ((y.Data.length:Int)=256))else some (decide ((y.Data.length:Int)=256)))=some (decide (okPart y)):=by
      by_cases k1:y.Data.length=0
      · by_cases k2:sealedP y
        · rw[decide_eq_true (by omega),cond_true,decide_eq_true k2]
          show some (decide _)=_
          congr 1;apply decide_eq_decide.2;rw[hok];exact⟨λh=>.inr (by omega),λh=>h.elim (λe=>absurd k2 e.2) (λe=>by omega)⟩
        · rw[decide_eq_true (by omega),cond_true,decide_eq_false k2,decide_eq_true (hok.2 (.inl ⟨k1,k2⟩))];rfl
      · rw[decide_eq_false (by omega),cond_false]
        congr 1;apply decide_eq_decide.2;rw[hok];exact⟨λh=>.inr (by omega),λh=>h.elim (λe=>absurd e.1 k1) (λe=>by omega)⟩
     rw[e3];rfl
   · rw [decide_eq_false c1,cond_false]
     have hok:okPart y↔(y.Data.length=4∧¬sealedP y∧y.Data.getD 0 0≤7∧numB ((y.Data.drop 2).take 2)≤3840∧(0<y.Data.getD 0 0∨∀c∈y.Data,c=0)):=by unfold okPart;rw[if_neg c1];exact⟨λh=>h.2,λh=>⟨c,h⟩⟩
     by_cases k1:y.Data.length=4
     · rw [nbeq (show(y.Data.length:Int)=4 by omega),cond_false]
       by_cases k2:sealedP y
       · rw[decide_eq_true k2,decide_eq_false (λh=>(hok.1 h).2.1 k2)];rfl
       · rw [decide_eq_false k2,cond_false,idx0 (by omega),Option.bind_some]
         by_cases k3:(7:UInt8)<y.Data.getD 0 0
         · rw[decide_eq_true k3,decide_eq_false (λh=>UInt8.not_le.2 k3 (hok.1 h).2.2.1)];rfl
         · rw[decide_eq_false k3,cond_false,show code_Get y.Data 2 2=some ((numB ((y.Data.drop 2).take 2):Int),0)from code_Get_eq (at':=2) (k:=2) (by omega) (by omega) (by omega) (by omega),Option.bind_some]
           dsimp only
           by_cases k4:numB ((y.Data.drop 2).take 2)≤3840
           · rw[decide_eq_true (by omega),cond_true,idx0 (by omega),send_blank_eq (by omega),Option.bind_some,or_dec (p:=0<y.Data.getD 0 0) _ rfl,Option.bind_some]
             congr 1;apply decide_eq_decide.2;rw[hok];exact⟨λh=>⟨k1,k2,UInt8.not_lt.1 k3,k4,h⟩,λh=>h.2.2.2.2⟩
           · rw[decide_eq_false (by omega),cond_false,decide_eq_false (λh=>k4 (hok.1 h).2.2.2.1)];rfl
     · rw[nbne (show¬(y.Data.length:Int)=4 by omega),cond_true,decide_eq_false (λh=>k1 (hok.1 h).1)];rfl
 · rw[decide_eq_true c,cond_true,decide_eq_false (λh=>c h.1)]
end Go.Ow
namespace Go.Ow
end Go.Ow
namespace Go.Ow
def placeP (y:Part):Int:=y.Obj*16+(y.Index+1)%16
def placeW (y:Part):Int:=w64 ((w64 (y.Obj*16))+((w64 (y.Index+1)).tmod 16))
theorem send_place_eq (y:Part):send_place y=some (placeW y):=rfl
theorem placeW_of{y:Part}(h:inRange y):placeW y=placeP y:=by
 obtain⟨⟨h1,h2⟩,h3,h4⟩:=h
 unfold placeW placeP
 rw[w64_of (n:=y.Obj*16) (by omega) (by omega),w64_of (n:=y.Index+1) (by omega) (by omega),Int.tmod_eq_emod_of_nonneg (by omega),w64_of (by omega) (by omega)]
theorem cmpInt_neg (a b:Int):∃r,cmp_Compare_int a b=some r∧(r<0↔a<b):=by
 unfold cmp_Compare_int cmp_isNaN_int
 by_cases h1:a<b
 · exact⟨-1,by simp[h1],by omega⟩
 · by_cases h2:b<a
   · exact⟨1,by simp[h1,h2],by omega⟩
   · exact⟨0,by simp[h1,h2],by omega⟩
theorem sorted_run (L:List Part)(hL:L.length≤1000000):∀(k f:Nat),(k<L.length∨k=0)→k<f→∃o,run (slices_IsSortedFunc_Part_l1 L) f (k:Int)=some o∧((o=.inl ()∧∀i (h:i<L.length),0<i→i≤k→placeW (L[i-1])≤placeW L[i])∨(o=.inr ()∧¬ ∀i (h:i<L.length),0<i→i≤k→placeW (L[i-1])≤placeW L[i]))
  | 0,f,hk,hf=>by
    obtain⟨f,rfl⟩:∃q,f=q+1:=⟨f-1,by omega⟩
    exact⟨.inl (),run_en (by unfold slices_IsSortedFunc_Part_l1;rw[decide_eq_false (by omega)];rfl),.inl ⟨rfl,λi h h1 h2=>by omega⟩⟩
  | k + 1,f,hk,hf=>by
    obtain⟨f,rfl⟩:∃q,f=q+1:=⟨f-1,by omega⟩
    have hlt:k+1<L.length:=by omega
    obtain⟨r,hr,hr2⟩:=cmpInt_neg (placeW L[k+1]) (placeW L[k])
    have hb:slices_IsSortedFunc_Part_l1 L ((k+1:Nat):Int)=cond (decide (r<0)) (some (.inr (.inr ()))) (some (.inl (k:Int))):=by
      unfold slices_IsSortedFunc_Part_l1 send_may_1
      rw[decide_eq_true (by omega),cond_true,idx_nat _ hlt,w64_of (by omega) (by omega),show((k+1:Nat):Int)-1=(k:Int) by omega,idx_nat _ (show k<L.length by omega),send_place_eq,Option.bind_some,send_place_eq,Option.bind_some,hr];rfl
    by_cases c:placeW L[k+1]<placeW L[k]
    · refine⟨.inr (),run_en (by rw[hb,decide_eq_true (hr2.2 c)];rfl),.inr ⟨rfl,λh=> ?_⟩⟩
      have:=h (k+1) hlt (by omega) (Nat.le_refl _)
      simp only[Nat.add_sub_cancel]at this
      omega
    · obtain⟨o,h1,h2⟩:=sorted_run L hL k f (.inl (by omega)) (by omega)
      have hiff:(∀i (h:i<L.length),0<i→i≤k+1→placeW (L[i-1])≤placeW L[i])↔(∀i (h:i<L.length),0<i→i≤k→placeW (L[i-1])≤placeW L[i]):=by
        refine⟨λh i hi a b=>h i hi a (by omega),λh i hi a b=> ?_⟩
        rcases Nat.lt_or_ge i (k+1)with hik|hik
        · exact h i hi a (by omega)
        · have:i=k+1:=by omega
          subst this
          simp only[Nat.add_sub_cancel];omega
      refine⟨o,by rw[run_st (by rw[hb,decide_eq_false (λe=>c (hr2.1 e)),cond_false])];exact h1,h2.imp (λe=>⟨e.1,hiff.2 e.2⟩) (λe=>⟨e.1,λh=>e.2 (hiff.1 h)⟩)⟩
def SortedW (L:List Part):Prop:=∀i (h:i<L.length),0<i→placeW (L[i-1])≤placeW L[i]
theorem sorted_eq{L:List Part}(hL:L.length≤1000000):∃b,slices_IsSortedFunc_Part L=some b∧(b=true↔SortedW L):=by
  unfold slices_IsSortedFunc_Part
  cases L with
  | nil=>
    refine⟨true,?_,⟨λ_ i h=>absurd h (Nat.not_lt_zero _),λ_=>rfl⟩⟩
    rw[show loop (slices_IsSortedFunc_Part_l1 []) (w64 ((([]:List Part).length:Int)-1))=some (.inl ())from loop_of (n:=1) (by decide) (run_en (by unfold slices_IsSortedFunc_Part_l1;rw[w64_of (by simp) (by simp)];rfl))];rfl
  | cons y r=>
    obtain⟨o,h1,h2⟩:=sorted_run (y::r) hL r.length 1000001 (.inl (by simp)) (by simp at hL;omega)
    have hiff:(∀i (h:i<(y::r).length),0<i→i≤r.length→placeW ((y::r)[i-1])≤placeW (y::r)[i])↔SortedW (y::r):=
      ⟨λh i hi a=>h i hi a (by simp at hi;omega),λh i hi a _=>h i hi a⟩
    rw[show w64 (((y::r).length:Int)-1)=(r.length:Int) by rw[w64_of (by simp<;>omega) (by simp at hL⊢;omega)];simp,show loop (slices_IsSortedFunc_Part_l1 (y::r)) (r.length:Int)=some o from loop_of (by decide) h1,Option.bind_some]
    rcases h2 with⟨rfl,h2⟩|⟨rfl,h2⟩
    · exact⟨true,rfl,⟨λ_=>hiff.1 h2,λ_=>rfl⟩⟩
    · exact⟨false,rfl,⟨λe=>(by cases e),λh=>absurd (hiff.2 h) h2⟩⟩
def headP (y:Part):Prop:=y.Index=15∧0<y.Data.getD 0 0
instance (y:Part):Decidable (headP y):=by unfold headP;infer_instance
def lastOpen (L:List Part):Int:=L.foldl (λo y=>if headP y then y.Obj else o) (-1)
theorem lastOpen_snoc (L:List Part)(y:Part):lastOpen (L++ [y])=if headP y then y.Obj else lastOpen L:=by
 unfold lastOpen;rw[List.foldl_append];rfl
def testP (L:List Part)(j:Nat)(h:j<L.length):Prop:=okPart L[j]∧(0<j→placeW (L[j-1])≠placeW L[j])∧((L[j]).Index<15→lastOpen (L.take (j+1))=(L[j]).Obj)
theorem ok15{y:Part}(h:okPart y)(c:¬y.Index<15):y.Index=15∧y.Data.length=4:=by
 have h2:=h.2
 rw[if_neg c]at h2
 have:=h.1.2.2
 exact⟨by omega,h2.1⟩
theorem may_run (x:Stream)(hL:x.Parts.length≤1000000):∀(k i f:Nat),i+k=x.Parts.length→k<f→
    ∃o,run (send_may_l1 x) f (lastOpen (x.Parts.take i),i)=some o∧((o=.inl ()∧∀j (h:j<x.Parts.length),i≤j→testP x.Parts j h)∨(o=.inr ()∧¬ ∀j (h:j<x.Parts.length),i≤j→testP x.Parts j h))
  | 0,i,f,hi,hf=>by
    obtain⟨f,rfl⟩:∃q,f=q+1:=⟨f-1,by omega⟩
    exact⟨.inl (),run_en (by unfold send_may_l1;dsimp only;rw[decide_eq_false (by omega)];rfl),.inl ⟨rfl,λj h hj=>by omega⟩⟩
  | k + 1,i,f,hi,hf=>by
    obtain⟨f,rfl⟩:∃q,f=q+1:=⟨f-1,by omega⟩
    have hlt:i<x.Parts.length:=by omega
    have hsn:lastOpen (x.Parts.take (i+1))=if headP x.Parts[i]then(x.Parts[i]).Obj else lastOpen (x.Parts.take i):=by
      rw[List.take_succ_eq_append_getElem hlt,lastOpen_snoc]
    have stop:∀{o},send_may_l1 x (lastOpen (x.Parts.take i),i)=some (.inr (.inr ()))→¬testP x.Parts i hlt→∃o,run (send_may_l1 x) (f+1) (lastOpen (x.Parts.take i),i)=some o∧((o=.inl ()∧∀j (h:j<x.Parts.length),i≤j→testP x.Parts j h)∨(o=.inr ()∧¬ ∀j (h:j<x.Parts.length),i≤j→testP x.Parts j h)):=
      λ{_:Unit} e hn=>⟨.inr (),run_en e,.inr ⟨rfl,λh=>hn (h i hlt (Nat.le_refl _))⟩⟩
    have hb0:send_may_l1 x (lastOpen (x.Parts.take i),i)=Option.bind (Option.bind (some (decide (okPart x.Parts[i]))) λx_37=>cond (!x_37) (some (.inr ())) (cond (decide (0<((i:Nat):Int))) (idx x.Parts (w64 (((i:Nat):Int)-1)) λy_42=>Option.bind (send_place y_42) λx_53=>Option.bind (send_place x.Parts[i]) λx_56=>cond (decide (x_53=x_56)) (some (.inr ())) (some (.inl ()))) (some (.inl ()))))
        (λt_34=>Sum.elim (fun(t_34a:Unit)=>Option.bind (cond (decide ((x.Parts[i]).Index=15)) (idx (x.Parts[i]).Data 0 λy_66=>cond (decide ((0:UInt8)<y_66)) (some (x.Parts[i]).Obj) (some (lastOpen (x.Parts.take i)))) (some (lastOpen (x.Parts.take i)))) (λt_62=>cond (decide ((x.Parts[i]).Index<15)) (cond (!decide (t_62=(x.Parts[i]).Obj)) (some (.inr (.inr ()))) (some (.inl (t_62,i+1)))) (some (.inl (t_62,i+1))))) (fun(t_34b:Unit)=>some (.inr (.inr ()))) t_34):=by
      unfold send_may_l1
      dsimp only
      rw[decide_eq_true (by omega),cond_true,idx_nat _ hlt,send_part_eq]
    by_cases c1:okPart x.Parts[i]
    · by_cases c2:0<i∧placeW (x.Parts[i-1])=placeW x.Parts[i]
      · refine stop (o:=()) ?_ (λh=>h.2.1 c2.1 c2.2)
        rw[hb0,decide_eq_true c1,Option.bind_some,Bool.not_true,cond_false,decide_eq_true (by omega),cond_true,w64_of (by omega) (by omega),show((i:Nat):Int)-1=((i-1:Nat):Int) by omega,idx_nat _ (show i-1<x.Parts.length by omega),send_place_eq,Option.bind_some,send_place_eq,Option.bind_some,decide_eq_true c2.2];rfl
      · have h2:(cond (decide (0<((i:Nat):Int))) (idx x.Parts (w64 (((i:Nat):Int)-1)) λy_42=>Option.bind (send_place y_42) λx_53=>Option.bind (send_place x.Parts[i]) λx_56=>cond (decide (x_53=x_56)) (some (Sum.inr ())) (some (Sum.inl ()))) (some (Sum.inl ())))=some (Sum.inl ():Unit ⊕ Unit):=by
          by_cases k1:0<i
          · rw[decide_eq_true (by omega),cond_true,w64_of (by omega) (by omega),show((i:Nat):Int)-1=((i-1:Nat):Int) by omega,idx_nat _ (show i-1<x.Parts.length by omega),send_place_eq,Option.bind_some,send_place_eq,Option.bind_some,decide_eq_false (λe=>c2 ⟨k1,e⟩)];rfl
          · rw[decide_eq_false (by omega)];rfl
        have h3:(cond (decide ((x.Parts[i]).Index=15)) (idx (x.Parts[i]).Data 0 λy_66=>cond (decide ((0:UInt8)<y_66)) (some (x.Parts[i]).Obj) (some (lastOpen (x.Parts.take i)))) (some (lastOpen (x.Parts.take i))))=some (lastOpen (x.Parts.take (i+1))):=by
          rw[hsn]
          by_cases k1:(x.Parts[i]).Index=15
          · obtain⟨-,k2⟩:=ok15 c1 (by omega)
            rw[decide_eq_true k1,cond_true,idx0 (by omega)]
            by_cases k3:0<(x.Parts[i]).Data.getD 0 0
            · rw[decide_eq_true k3,if_pos ⟨k1,k3⟩];rfl
            · rw[decide_eq_false k3,if_neg (λe=>k3 e.2)];rfl
          · rw[decide_eq_false k1,if_neg (λe=>k1 e.1)];rfl
        by_cases c3:(x.Parts[i]).Index<15∧lastOpen (x.Parts.take (i+1))≠(x.Parts[i]).Obj
        · refine stop (o:=()) ?_ (λh=>c3.2 (h.2.2 c3.1))
          rw[hb0,decide_eq_true c1,Option.bind_some,Bool.not_true,cond_false,h2,Option.bind_some,Sum.elim_inl,h3,Option.bind_some,decide_eq_true c3.1,cond_true,nbne c3.2];rfl
        · obtain⟨o,r1,r2⟩:=may_run x hL k (i+1) f (by omega) (by omega)
          have ht:testP x.Parts i hlt:=⟨c1,λa e=>c2 ⟨a,e⟩,λa=>Classical.byContradiction λe=>c3 ⟨a,e⟩⟩
          have hiff:(∀j (h:j<x.Parts.length),i≤j→testP x.Parts j h)↔(∀j (h:j<x.Parts.length),i+1≤j→testP x.Parts j h):=by
            refine⟨λh j hj a=>h j hj (by omega),λh j hj a=> ?_⟩
            rcases Nat.lt_or_ge i j with hij|hij
            · exact h j hj hij
            · have:j=i:=by omega
              subst this;exact ht
          refine⟨o,?_,r2.imp (λe=>⟨e.1,hiff.2 e.2⟩) (λe=>⟨e.1,λh=>e.2 (hiff.1 h)⟩)⟩
          rw[run_st (s':=(lastOpen (x.Parts.take (i+1)),i+1)) (by
            rw[hb0,decide_eq_true c1,Option.bind_some,Bool.not_true,cond_false,h2,Option.bind_some,Sum.elim_inl,h3,Option.bind_some]
            by_cases k1:(x.Parts[i]).Index<15
            · rw[decide_eq_true k1,cond_true,nbeq (ht.2.2 k1),cond_false]
            · rw[decide_eq_false k1,cond_false])]
          exact r1
    · refine stop (o:=()) ?_ (λh=>c1 h.1)
      rw[hb0,decide_eq_false c1];rfl
end Go.Ow
namespace Go.Ow
def askP (L:List Part)(j:Nat)(h:j<L.length):Prop:=okPart L[j]∧(0<j→placeP (L[j-1])<placeP L[j])∧((L[j]).Index<15→∃k,∃hk:k<L.length,k<j∧headP L[k]∧(L[k]).Obj=(L[j]).Obj)
def okParts (L:List Part):Prop:=∀j (h:j<L.length),askP L j h
def okStream (x:Stream):Prop:=x.Guid≠0∧x.Guid≠x.Base∧x.Key.length=24∧x.Sign.length=209∧okParts x.Parts
noncomputable instance (x:Stream):Decidable (okStream x):=Classical.propDecidable _
theorem placeP_bound{y:Part}(h:okPart y):y.Obj*16≤placeP y∧placeP y<y.Obj*16+16:=by
 unfold placeP;omega
theorem placeP_head{y:Part}(h:y.Index=15):placeP y=y.Obj*16:=by unfold placeP;rw[h];omega
theorem snoc_ind{α:Type}{P:List α→Prop}(h0:P [])(hs:∀L y,P L→P (L++ [y]))(L:List α):P L:=by
 have h:∀M:List α,P M.reverse:=λM=>by
  induction M with
  |nil=>exact h0
  |cons y r ih=>rw[List.reverse_cons];exact hs _ _ ih
 have:=h L.reverse
 rwa[List.reverse_reverse]at this
theorem lastOpen_cases (L:List Part):lastOpen L= -1∨∃k,∃hk:k<L.length,headP L[k]∧lastOpen L=(L[k]).Obj:=by
 refine snoc_ind (P:=λL=>lastOpen L= -1∨∃k,∃hk:k<L.length,headP L[k]∧lastOpen L=(L[k]).Obj) (.inl rfl) (λL y ih=> ?_) L
 · show lastOpen (L++ [y])= -1∨∃k,∃hk:k<(L++ [y]).length,headP (L++ [y])[k]∧lastOpen (L++ [y])=((L++ [y])[k]).Obj
   rw[lastOpen_snoc]
   by_cases c:headP y
   · rw[if_pos c]
     exact .inr ⟨L.length,by simp,by simpa using c,by simp⟩
   · rw[if_neg c]
     rcases ih with h|⟨k,hk,h1,h2⟩
     · exact .inl h
     · exact .inr ⟨k,by simp;omega,by simpa[List.getElem_append_left hk]using h1,by rw[h2];simp[List.getElem_append_left hk]⟩
theorem lastOpen_last (L:List Part):∀(k:Nat) (hk:k<L.length),headP L[k]→(∀m (hm:m<L.length),k<m→¬headP L[m])→lastOpen L=(L[k]).Obj:=by
 refine snoc_ind (P:=λL=>∀(k:Nat) (hk:k<L.length),headP L[k]→(∀m (hm:m<L.length),k<m→¬headP L[m])→lastOpen L=(L[k]).Obj) (λk hk=>absurd hk (Nat.not_lt_zero _)) (λL y ih=> ?_) L
 · intro k hk h1 h2
   rw[lastOpen_snoc]
   simp only[List.length_append,List.length_cons,List.length_nil]at hk
   by_cases c:k=L.length
   · subst c
     have e:(L++ [y])[L.length]'(by simp)=y:=by simp
     rw[e]at h1
     rw[if_pos h1,e]
   · have hk':k<L.length:=by omega
     have hn:¬headP y:=by
      have:=h2 L.length (by simp) hk'
      simpa using this
     rw[if_neg hn,List.getElem_append_left hk']
     refine ih k hk' (by rwa[List.getElem_append_left hk']at h1) (λm hm hkm=> ?_)
     have:=h2 m (by simp;omega) hkm
     rwa[List.getElem_append_left hm]at this
theorem place_mono{L:List Part}{n:Nat}(hn:n≤L.length)(h:∀j (hj:j<L.length),j<n→0<j→placeP (L[j-1])<placeP L[j]):∀(d a:Nat) (ha:a+d+1<n),placeP (L[a]'(by omega))<placeP (L[a+d+1]'(by omega))
  | 0,a,ha=>by
    have:=h (a+1) (by omega) (by omega) (by omega)
    simpa using this
  | d+1,a,ha=>by
    have h1:=place_mono hn h d a (by omega)
    have h2:=h (a+(d+1)+1) (by omega) (by omega) (by omega)
    have e:a+(d+1)+1-1=a+d+1:=by omega
    simp only[e]at h2
    exact Int.lt_trans h1 h2
theorem place_lt{L:List Part}{n:Nat}(hn:n≤L.length)(h:∀j (hj:j<L.length),j<n→0<j→placeP (L[j-1])<placeP L[j]){a b:Nat}(hab:a<b)(hb:b<n):placeP (L[a]'(by omega))<placeP (L[b]'(by omega)):=by
 obtain⟨d,rfl⟩:∃d,b=a+d+1:=⟨b-a-1,by omega⟩
 exact place_mono hn h d a hb
theorem take_get{α:Type}{L:List α}{j k:Nat}(hj:j≤L.length)(hk:k<j):(L.take j)[k]'(by rw[List.length_take];omega)=L[k]'(by omega):=List.getElem_take
theorem tests_iff{L:List Part}:(SortedW L∧∀j (h:j<L.length),testP L j h)↔okParts L:=by
 constructor
 · rintro⟨hs,ht⟩ j h
   obtain⟨t1,t2,t3⟩:=ht j h
   have hpl:∀i (hi:i<L.length),placeW L[i]=placeP L[i]:=λi hi=>placeW_of (ht i hi).1.1
   refine⟨t1,λhj=> ?_,λhi=> ?_⟩
   · have h1:=hs j h hj
     have h2:=t2 hj
     rw[hpl j h,hpl (j-1) (by omega)]at h1 h2
     omega
   · have e:=t3 hi
     have hnh:¬headP L[j]:=λhh=>by have:=hh.1;omega
     rw[List.take_succ_eq_append_getElem h,lastOpen_snoc,if_neg hnh]at e
     rcases lastOpen_cases (L.take j)with h1|⟨k,hk,h1,h2⟩
     · have:=t1.1.1.1;rw[h1]at e;omega
     · have hkj:k<j:=by rw[List.length_take]at hk;omega
       rw[take_get (by omega) hkj]at h1 h2
       exact⟨k,by omega,hkj,h1,by rw[←h2,e]⟩
 · intro ha
   have hok:∀i (hi:i<L.length),okPart L[i]:=λi hi=>(ha i hi).1
   have hpl:∀i (hi:i<L.length),placeW L[i]=placeP L[i]:=λi hi=>placeW_of (hok i hi).1
   have hst:∀j (hj:j<L.length),j<L.length→0<j→placeP (L[j-1])<placeP L[j]:=λj hj _ h0=>(ha j hj).2.1 h0
   refine⟨λi hi h0=> ?_,λj h=>⟨hok j h,λh0=> ?_,λhi=> ?_⟩⟩
   · rw[hpl i hi,hpl (i-1) (by omega)];exact Int.le_of_lt ((ha i hi).2.1 h0)
   · rw[hpl j h,hpl (j-1) (by omega)];have:=(ha j h).2.1 h0;omega
   · have hnh:¬headP L[j]:=λhh=>by have:=hh.1;omega
     obtain⟨k,hk,hkj,h1,h2⟩:=(ha j h).2.2 hi
     rw[List.take_succ_eq_append_getElem h,lastOpen_snoc,if_neg hnh]
     have hkl:k<(L.take j).length:=by rw[List.length_take];omega
     rw[lastOpen_last (L.take j) k hkl (by rw[take_get (by omega) hkj];exact h1) (λm hm hkm=> ?_),take_get (by omega) hkj,h2]
     have hmj:m<j:=by rw[List.length_take]at hm;omega
     rw[take_get (by omega) hmj]
     intro hh
     have p1:=place_lt (Nat.le_refl _) hst hkm (show m<L.length by omega)
     have p2:=place_lt (Nat.le_refl _) hst hmj h
     have e1:=placeP_head h1.1
     have e2:=placeP_head hh.1
     have e3:=placeP_bound (hok j h)
     omega
theorem send_may_eq{x:Stream}(hL:x.Parts.length≤1000000):send_may x=some (decide (okStream x)):=by
  unfold send_may
  by_cases k1:x.Guid=0
  · rw[decide_eq_true k1,decide_eq_false (λh:okStream x=>h.1 k1)];rfl
  rw[decide_eq_false k1,cond_false]
  by_cases k2:x.Guid=x.Base
  · rw[decide_eq_true k2,decide_eq_false (λh:okStream x=>h.2.1 k2)];rfl
  rw[decide_eq_false k2,cond_false]
  by_cases k3:x.Key.length=24
  · rw [nbeq (show(x.Key.length:Int)=24 by omega),cond_false]
    by_cases k4:x.Sign.length=209
    · rw[nbeq (show(x.Sign.length:Int)=209 by omega),cond_false]
      obtain⟨b,h1,h2⟩:=sorted_eq hL
      rw[h1,Option.bind_some]
      cases b with
      | false=>
        rw[decide_eq_false (λh:okStream x=>by have:=h2.2 (tests_iff.2 h.2.2.2.2).1;cases this)];rfl
      | true=>
        obtain⟨o,r1,r2⟩:=may_run x hL x.Parts.length 0 1000001 (by omega) (by omega)
        rw[Bool.not_true,cond_false,show loop (send_may_l1 x) ((-1),0)=some o from loop_of (by decide) r1,Option.bind_some]
        rcases r2 with⟨rfl,r2⟩|⟨rfl,r2⟩
        · rw[decide_eq_true (show okStream x from⟨k1,k2,k3,k4,tests_iff.1 ⟨h2.1 rfl,λj h=>r2 j h (Nat.zero_le _)⟩⟩)];rfl
        · rw[decide_eq_false (λh:okStream x=>r2 λj hj _=>(tests_iff.2 h.2.2.2.2).2 j hj)];rfl
    · rw[nbne (show¬(x.Sign.length:Int)=209 by omega),cond_true,decide_eq_false (λh:okStream x=>k4 h.2.2.2.1)]
  · rw[nbne (show¬(x.Key.length:Int)=24 by omega),cond_true,decide_eq_false (λh:okStream x=>k3 h.2.2.1)]
end Go.Ow
namespace Go.Ow
theorem okPart_data{y:Part}(h:okPart y):y.Data.length≤256:=by
 have h2:=h.2
 by_cases c:y.Index<15
 · rw[if_pos c]at h2
   rcases h2 with h|h<;>omega
 · rw[if_neg c]at h2;have:=h2.1;omega
theorem parts_le{L:List Part}(h:okParts L):L.length≤256:=by
  have hst:∀j (hj:j<L.length),j<L.length→0<j→placeP (L[j-1])<placeP L[j]:=λj hj _ h0=>(h j hj).2.1 h0
  have key:∀i (hi:i<L.length),(i:Int)≤placeP L[i]:=by
    intro i
    induction i with
    | zero=>
      intro hi
      have:=placeP_bound (h 0 hi).1
      have:=(h 0 hi).1.1.1.1
      omega
    | succ i ih=>
      intro hi
      have h1:=ih (by omega)
      have h2:=(h (i+1) hi).2.1 (by omega)
      simp only[Nat.add_sub_cancel]at h2
      omega
  rcases Nat.lt_or_ge 256 L.length with c|c
  · have h1:=key 256 c
    have h2:=placeP_bound (h 256 c).1
    have h3:=(h 256 c).1.1.1.2
    omega
  · exact c
def partB (y:Part):List UInt8:=leB y.Obj.toNat 1++leB y.Index.toNat 1++leB y.Iv.toNat 4++leB y.Tag.toNat 4++leB y.Data.length 2++y.Data
def partsB (L:List Part):List UInt8:=(L.map partB).flatten
def textS (x:Stream):List UInt8:=[83]++leB x.Guid.toNat 4++leB x.Base.toNat 4++x.Key++leB x.Parts.length 2++partsB x.Parts
theorem partsB_cons (y:Part)(L:List Part):partsB (y::L)=partB y++partsB L:=rfl
theorem partB_length (y:Part):(partB y).length=12+y.Data.length:=by
 simp only[partB,List.length_append,leB_length]
theorem partsB_len:∀{L:List Part},(∀y∈L,okPart y)→(partsB L).length≤268*L.length
  |[],_=>by simp[partsB]
  | y::L,h=>by
    have h1:=okPart_data (h y (List.mem_cons_self ..))
    have h2:=partsB_len (L:=L) (λz hz=>h z (List.mem_cons_of_mem _ hz))
    have e:partsB (y::L)=partB y++partsB L:=by simp[partsB]
    rw[e,List.length_append,partB_length,List.length_cons];omega
theorem sput_one{b:List UInt8}{n k:Nat}(h1:1≤k)(h4:k≤4)(hn:n<256^k)(hb:b.length≤900000):send_put b (k:Int) [(n:Int)]=some (b++leB n k):=by
 have hl:=leB_length n k
 unfold send_put
 rw[show loop (send_put_l1 (k:Int) [(n:Int)]) (b,0)=some (b++leB n k)from loop_of (n:=3) (by decide) (by
  rw[run_st (s':=(b++leB n k,1)) (by
   unfold send_put_l1;dsimp only
   rw[decide_eq_true (by simp),cond_true,show idx [(n:Int)] ((0:Nat):Int)=idx [(n:Int)] ((0:Nat):Int)from rfl,idx_nat _ (by simp)]
   show Option.bind (code_Put (n:Int) (k:Int)) _=_
   rw[code_Put_eq h1 h4 hn,Option.bind_some,app_eq (lim_le (by dsimp only;omega))])]
  exact run_en (by unfold send_put_l1;dsimp only;rw[decide_eq_false (by simp)];rfl)),Option.bind_some]
theorem sput_two{b:List UInt8}{n m k:Nat}(h1:1≤k)(h4:k≤4)(hn:n<256^k)(hm:m<256^k)(hb:b.length≤900000):send_put b (k:Int) [(n:Int),(m:Int)]=some (b++leB n k++leB m k):=by
 have hl:=leB_length n k
 have hl2:=leB_length m k
 unfold send_put
 rw[show loop (send_put_l1 (k:Int) [(n:Int),(m:Int)]) (b,0)=some (b++leB n k++leB m k)from loop_of (n:=4) (by decide) (by
  rw[run_st (s':=(b++leB n k,1)) (by
   unfold send_put_l1;dsimp only
   rw[decide_eq_true (by simp),cond_true,idx_nat _ (by simp)]
   show Option.bind (code_Put (n:Int) (k:Int)) _=_
   rw[code_Put_eq h1 h4 hn,Option.bind_some,app_eq (lim_le (by dsimp only;omega))]),
   run_st (s':=(b++leB n k++leB m k,2)) (by
   unfold send_put_l1;dsimp only
   rw[decide_eq_true (by simp),cond_true,idx_nat _ (by simp)]
   show Option.bind (code_Put (m:Int) (k:Int)) _=_
   rw[code_Put_eq h1 h4 hm,Option.bind_some,app_eq (lim_le (by dsimp only;rw[List.length_append];omega))])]
  exact run_en (by unfold send_put_l1;dsimp only;rw[decide_eq_false (by simp)];rfl)),Option.bind_some]
theorem part_nat{y:Part}(h:okPart y):∃o i:Nat,y.Obj=(o:Int)∧y.Index=(i:Int)∧o<16∧i≤15:=by
 obtain⟨⟨h1,h2⟩,h3,h4⟩:=h.1
 exact⟨y.Obj.toNat,y.Index.toNat,by omega,by omega,by omega,by omega⟩
theorem text_run (x:Stream)(hp:∀y∈x.Parts,okPart y):∀(k i f:Nat) (b:List UInt8),i+k=x.Parts.length→k<f→b.length+268*k≤800000→run (send_text_l1 x) f (b,i)=some (b++partsB (x.Parts.drop i))
  | 0,i,f,b,hi,hf,hb=>by
    obtain⟨f,rfl⟩:∃q,f=q+1:=⟨f-1,by omega⟩
    refine run_en ?_
    unfold send_text_l1
    dsimp only
    rw[decide_eq_false (by omega),cond_false,List.drop_eq_nil_of_le (by omega)];simp[partsB]
  | k + 1,i,f,b,hi,hf,hb=>by
    obtain⟨f,rfl⟩:∃q,f=q+1:=⟨f-1,by omega⟩
    have hlt:i<x.Parts.length:=by omega
    have ho:=hp _ (List.getElem_mem hlt)
    have hd:=okPart_data ho
    have hpl:=partB_length x.Parts[i]
    obtain⟨o,n,e1,e2,h1,h2⟩:=part_nat ho
    have hiv:=(x.Parts[i]).Iv.toNat_lt
    have htg:=(x.Parts[i]).Tag.toNat_lt
    have lo:=leB_length o 1
    have ln:=leB_length n 1
    have l3:=leB_length (x.Parts[i]).Iv.toNat 4
    have l4:=leB_length (x.Parts[i]).Tag.toNat 4
    have l5:=leB_length (x.Parts[i]).Data.length 2
    have hB:partB x.Parts[i]=leB o 1++leB n 1++leB (x.Parts[i]).Iv.toNat 4++leB (x.Parts[i]).Tag.toNat 4++leB (x.Parts[i]).Data.length 2++(x.Parts[i]).Data:=by
      unfold partB;rw[e1,e2];rfl
    rw[List.drop_eq_getElem_cons hlt,partsB_cons,←List.append_assoc]
    rw [run_st (s':=(b++partB x.Parts[i],i+1)) (by
      unfold send_text_l1
      dsimp only
      rw[decide_eq_true (by omega),cond_true,idx_nat _ hlt,e1,e2,show(1:Int)=((1:Nat):Int)from rfl,sput_two (by omega) (by omega) (by omega) (by omega) (by omega),Option.bind_some,show(4:Int)=((4:Nat):Int)from rfl,sput_two (by omega) (by omega) (by omega) (by omega) (by simp only[List.length_append];omega),Option.bind_some,Option.bind_some,
        show(2:Int)=((2:Nat):Int)from rfl,sput_one (by omega) (by omega) (by omega) (by simp only[List.length_append];omega),Option.bind_some,app_eq (lim_le (by simp only[List.length_append];omega)),hB]
      simp only[List.append_assoc])]
    exact text_run x hp k (i+1) f _ (by omega) (by omega) (by rw[List.length_append];omega)
theorem okP_mem{L:List Part}(h:okParts L):∀y∈L,okPart y:=λy hy=>by
 obtain⟨i,hi,rfl⟩:=List.mem_iff_getElem.1 hy
 exact(h i hi).1
theorem send_text_eq{x:Stream}(h:okStream x):send_text x=some (textS x):=by
 obtain⟨h1,h2,h3,h4,h5⟩:=h
 have hl:=parts_le h5
 have hg:=x.Guid.toNat_lt
 have hb:=x.Base.toNat_lt
 have l1:=leB_length x.Guid.toNat 4
 have l2:=leB_length x.Base.toNat 4
 have l3:=leB_length x.Parts.length 2
 unfold send_text
 rw[show(4:Int)=((4:Nat):Int)from rfl,sput_two (by omega) (by omega) (by omega) (by omega) (by simp),Option.bind_some,app_eq (lim_le (by simp only[List.length_append,List.length_cons,List.length_nil];omega)),show(2:Int)=((2:Nat):Int)from rfl,sput_one (by omega) (by omega) (by omega) (by simp only[List.length_append,List.length_cons,List.length_nil];omega),Option.bind_some,Option.bind_some]
 have hr:=text_run x (okP_mem h5) x.Parts.length 0 1001 ([83]++leB x.Guid.toNat 4++leB x.Base.toNat 4++x.Key++leB x.Parts.length 2) (by omega) (by omega) (by simp only[List.length_append,List.length_cons,List.length_nil];omega)
 rw[List.drop_zero]at hr
 rw[show loop (send_text_l1 x) ([83]++leB x.Guid.toNat 4++leB x.Base.toNat 4++x.Key++leB x.Parts.length 2,0)=some (textS x)from loop_of (by decide) hr,Option.bind_some]
theorem textS_len{x:Stream}(h:okStream x):(textS x).length≤100000:=by
 obtain⟨h1,h2,h3,h4,h5⟩:=h
 have hl:=parts_le h5
 have hp:=partsB_len (okP_mem h5)
 simp only[textS,List.length_append,leB_length,List.length_cons,List.length_nil]
 omega
noncomputable def writeS (x:Stream):List UInt8×Int:=if okStream x then(textS x++x.Sign,0)else([],8)
theorem send_Write_eq{x:Stream}(hL:x.Parts.length≤1000000):send_Write x=some (writeS x):=by
 unfold send_Write writeS
 rw[send_may_eq hL,Option.bind_some]
 by_cases c:okStream x
 · have hs:=c.2.2.2.1
   have ht:=textS_len c
   rw[decide_eq_true c,if_pos c,Bool.not_true,cond_false,send_text_eq c,Option.bind_some,app_eq (lim_le (by omega))]
 · rw[decide_eq_false c,if_neg c];rfl
end Go.Ow
namespace Go.Ow
def tk (b:List UInt8)(n:Nat)(bad:Bool)(at':Nat):List UInt8×Bool×Nat:=if bad=true∨b.length<at'+n then([],true,at')else((b.drop at').take n,false,at'+n)
theorem parse1_eq{b:List UInt8}(hb:b.length≤1000000){n at':Nat}(hn:n≤1000000)(ha:at'≤b.length)(bad:Bool):send_Parse_1 (n:Int) bad b (at':Int)=some ((tk b n bad at').1,(tk b n bad at').2.1,b,((tk b n bad at').2.2:Int)):=by
  unfold send_Parse_1 tk
  rw[w64_of (n:=(b.length:Int)-(at':Int)) (by omega) (by omega)]
  cases bad with
  |true=>rw[if_pos (.inl rfl)];rfl
  | false=>
    rw[cond_false,Option.bind_some]
    by_cases c:b.length<at'+n
    · rw[if_pos (.inr c),decide_eq_true (by omega)];rfl
    · rw[if_neg (λh=>h.elim (λe=>by cases e) c),decide_eq_false (by omega),cond_false,w64_of (n:=(at':Int)+(n:Int)) (by omega) (by omega),w64_of (by omega) (by omega),show(at':Int)+(n:Int)-(n:Int)=(at':Int) by omega,show(at':Int)+(n:Int)=((at'+n:Nat):Int) by omega,slc_eq (by omega) (by omega) (by omega),cut_nat,show at'+n-at'=n by omega]
      unfold slices_Clone_byte
      rw[app_nil (by rw[List.length_take];omega),Option.bind_some]
theorem tk_at{b:List UInt8}{n at':Nat}{bad:Bool}(ha:at'≤b.length):(tk b n bad at').2.2≤b.length:=by
 unfold tk;split
 · exact ha
 · rename_i c;simp only;have:=λh=>c (.inr h);omega
theorem get_nil{k:Nat}(h1:1≤k)(h4:k≤4):code_Get [] 0 (k:Int)=some (0,8):=by
 unfold code_Get
 rw[sized_eq,Option.bind_some,decide_eq_true ⟨by omega,by omega⟩,Bool.not_true,cond_false,decide_eq_false (by omega),cond_false,Option.bind_some,decide_eq_false (by simp),cond_false,w64_of (by omega) (by omega),decide_eq_true (by simp;omega)];rfl
def tn (b:List UInt8)(k:Nat)(bad:Bool)(at':Nat):Nat:=if(tk b k bad at').2.1 then 0 else numB (tk b k bad at').1
theorem parse2_eq{b:List UInt8}(hb:b.length≤1000000){k at':Nat}(h1:1≤k)(h4:k≤4)(ha:at'≤b.length)(bad:Bool):send_Parse_2 (k:Int) bad b (at':Int)=some ((tn b k bad at':Int),(tk b k bad at').2.1,b,((tk b k bad at').2.2:Int)):=by
 unfold send_Parse_2
 rw[parse1_eq hb (by omega) ha bad,Option.bind_some]
 unfold tn tk
 by_cases c:bad=true∨b.length<at'+k
 · rw[if_pos c]
   dsimp only
   rw[get_nil h1 h4,Option.bind_some];rfl
 · rw[if_neg c]
   dsimp only
   have hl:((b.drop at').take k).length=k:=by rw[List.length_take,List.length_drop];have:=λh=>c (.inr h);omega
   rw[show(0:Int)=((0:Nat):Int)from rfl,code_Get_eq h1 h4 (by omega) (by omega),Option.bind_some,List.drop_zero,List.take_of_length_le (by omega)]
   rfl
def rdPart (r:List UInt8):Option (Part×List UInt8):=if r.length<12+numB ((r.drop 10).take 2)then none
 else some (⟨(numB ((r.drop 0).take 1):Int),(numB ((r.drop 1).take 1):Int),u32i (numB ((r.drop 2).take 4):Int),u32i (numB ((r.drop 6).take 4):Int),(r.drop 12).take (numB ((r.drop 10).take 2))⟩,r.drop (12+numB ((r.drop 10).take 2)))
def rdParts:Nat→List UInt8→Option (List Part×List UInt8)
  |0,r=>some ([],r)
  | k +1,r=>match rdPart r with
    |none=>none
    | some (y,r')=>match rdParts k r' with
      |none=>none
      |some (ys,r'')=>some (y::ys,r'')
theorem tk_bad{b:List UInt8}{n at':Nat}:(tk b n true at').2.1=true:=by unfold tk;rw[if_pos (.inl rfl)]
theorem tk_good{b:List UInt8}{n at':Nat}(h:at'+n≤b.length):tk b n false at'=((b.drop at').take n,false,at'+n):=by
 unfold tk;rw[if_neg (λe=>e.elim (λe=>by cases e) (λe=>by omega))]
theorem tk_short{b:List UInt8}{n at':Nat}(h:b.length<at'+n):(tk b n false at').2.1=true:=by
 unfold tk;rw[if_pos (.inr h)]
theorem tk_false{b:List UInt8}{n at':Nat}{bad:Bool}(h:(tk b n bad at').2.1=false):bad=false∧at'+n≤b.length∧(tk b n bad at').2.2=at'+n:=by
 unfold tk at h⊢
 by_cases c:bad=true∨b.length<at'+n
 · rw[if_pos c]at h;cases h
 · rw[if_neg c]
   refine⟨?_,?_,rfl⟩
   · cases bad with
     |true=>exact absurd (.inl rfl) c
     |false=>rfl
   · have:=λh=>c (.inr h);omega
theorem tn_lt{b:List UInt8}{bad:Bool}{at':Nat}:tn b 2 bad at'<65536:=by
 unfold tn tk
 by_cases c:bad=true∨b.length<at'+2
 · rw[if_pos c];simp
 · rw[if_neg c]
   have:=numB_take (b.drop at') 2
   simpa using this
structure Six (b:List UInt8) (at':Nat) (y:Part) (bad:Bool) (a2:Nat):Prop where
  le:a2≤b.length
  told:(bad=false∧rdPart (b.drop at')=some (y,b.drop a2))∨(bad=true∧rdPart (b.drop at')=none)
def sixP (b:List UInt8)(at':Nat):Option (List UInt8×Int×Bool×Part):=
 Option.bind (send_Parse_2 1 false b (at':Int)) λx_74=>Option.bind (send_Parse_2 1 x_74.2.1 x_74.2.2.1 x_74.2.2.2) λx_78=>Option.bind (send_Parse_2 4 x_78.2.1 x_78.2.2.1 x_78.2.2.2) λx_82=>Option.bind (send_Parse_2 4 x_82.2.1 x_82.2.2.1 x_82.2.2.2) λx_86=>Option.bind (Option.bind (send_Parse_2 2 x_86.2.1 x_86.2.2.1 x_86.2.2.2) λx_94=>Option.bind (send_Parse_1 x_94.1 x_94.2.1 x_94.2.2.1 x_94.2.2.2) λx_98=>some (x_98.2.2.1,x_98.2.2.2,x_98.2.1,x_98.1)) (λt_91=>some (t_91.1,t_91.2.1,t_91.2.2.1,Part.mk x_74.1 x_78.1 (u32i x_82.1) (u32i x_86.1) t_91.2.2.2))
theorem six_takes{b:List UInt8}(hb:b.length≤1000000){at':Nat}(ha:at'≤b.length):
 ∃(y:Part) (bad:Bool) (a2:Nat),sixP b at'=some (b,(a2:Int),bad,y)∧Six b at' y bad a2:=by
 have l1:(tk b 1 false at').2.2≤b.length:=tk_at ha
 have l2:=tk_at (b:=b) (n:=1) (bad:=(tk b 1 false at').2.1) l1
 have l3:=tk_at (b:=b) (n:=4) (bad:=(tk b 1 (tk b 1 false at').2.1 (tk b 1 false at').2.2).2.1) l2
 have l4:=tk_at (b:=b) (n:=4) (bad:=(tk b 4 (tk b 1 (tk b 1 false at').2.1 (tk b 1 false at').2.2).2.1 (tk b 1 (tk b 1 false at').2.1 (tk b 1 false at').2.2).2.2).2.1) l3
 unfold sixP
 rw[show(1:Int)=((1:Nat):Int)from rfl,show(4:Int)=((4:Nat):Int)from rfl,show(2:Int)=((2:Nat):Int)from rfl]
 rw[parse2_eq hb (by omega) (by omega) ha,Option.bind_some]
 dsimp only
 rw[parse2_eq hb (by omega) (by omega) l1,Option.bind_some]
 dsimp only
 rw[parse2_eq hb (by omega) (by omega) l2,Option.bind_some]
 dsimp only
 rw[parse2_eq hb (by omega) (by omega) l3,Option.bind_some]
 dsimp only
 rw[parse2_eq hb (by omega) (by omega) l4,Option.bind_some]
 dsimp only
 have hdl:(b.drop at').length=b.length-at':=List.length_drop
 by_cases G:at'+12≤b.length∧at'+12+numB (((b.drop at').drop 10).take 2)≤b.length
 · obtain⟨G1,G2⟩:=G
   have g1:=tk_good (b:=b) (n:=1) (at':=at') (by omega)
   have g2:=tk_good (b:=b) (n:=1) (at':=at'+1) (by omega)
   have g3:=tk_good (b:=b) (n:=4) (at':=at'+1+1) (by omega)
   have g4:=tk_good (b:=b) (n:=4) (at':=at'+1+1+4) (by omega)
   have g5:=tk_good (b:=b) (n:=2) (at':=at'+1+1+4+4) (by omega)
   have eN:(b.drop (at'+1+1+4+4)).take 2=((b.drop at').drop 10).take 2:=by rw[List.drop_drop]
   have hN:=numB_take ((b.drop at').drop 10) 2
   have h256:(256:Nat)^2=65536:=by decide
   have g6:=tk_good (b:=b) (n:=numB (((b.drop at').drop 10).take 2)) (at':=at'+1+1+4+4+2) (by omega)
   simp only[tn,g1,g2,g3,g4,g5,eN,Bool.false_eq_true,if_false]
   rw[parse1_eq hb (by omega) (by omega),g6,Option.bind_some,Option.bind_some]
   refine⟨_,false,_,rfl,⟨by omega,.inl ⟨rfl,?_⟩⟩⟩
   unfold rdPart
   rw[if_neg (by omega)]
   simp only[List.drop_drop,Nat.add_zero,Nat.add_assoc,Nat.reduceAdd]
 · have ht:=tn_lt (b:=b) (bad:=(tk b 4 (tk b 4 (tk b 1 (tk b 1 false at').2.1 (tk b 1 false at').2.2).2.1 (tk b 1 (tk b 1 false at').2.1 (tk b 1 false at').2.2).2.2).2.1 (tk b 4 (tk b 1 (tk b 1 false at').2.1 (tk b 1 false at').2.2).2.1 (tk b 1 (tk b 1 false at').2.1 (tk b 1 false at').2.2).2.2).2.2).2.1) (at':=(tk b 4 (tk b 4 (tk b 1 (tk b 1 false at').2.1 (tk b 1 false at').2.2).2.1 (tk b 1 (tk b 1 false at').2.1 (tk b 1 false at').2.2).2.2).2.1 (tk b 4 (tk b 1 (tk b 1 false at').2.1 (tk b 1 false at').2.2).2.1 (tk b 1 (tk b 1 false at').2.1 (tk b 1 false at').2.2).2.2).2.2).2.2)
   rw[parse1_eq hb (by omega) (tk_at l4),Option.bind_some,Option.bind_some]
   refine⟨_,_,_,rfl,⟨tk_at (tk_at l4),.inr ⟨?_,?_⟩⟩⟩
   · rw[←Bool.not_eq_false]
     intro e
     · exfalso
       obtain⟨f5,s6,a6⟩:=tk_false e
       obtain⟨f4,s5,a5⟩:=tk_false f5
       obtain⟨f3,s4,a4⟩:=tk_false f4
       obtain⟨f2,s3,a3⟩:=tk_false f3
       obtain⟨f1,s2,a2⟩:=tk_false f2
       obtain⟨-,s1,a1⟩:=tk_false f1
       have g1:=tk_good (b:=b) (n:=1) (at':=at') (by omega)
       simp only[g1]at s2 a2 s3 a3 s4 a4 s5 a5 s6 a6
       have g2:=tk_good (b:=b) (n:=1) (at':=at'+1) (by omega)
       simp only[g2]at s3 a3 s4 a4 s5 a5 s6 a6
       have g3:=tk_good (b:=b) (n:=4) (at':=at'+1+1) (by omega)
       simp only[g3]at s4 a4 s5 a5 s6 a6
       have g4:=tk_good (b:=b) (n:=4) (at':=at'+1+1+4) (by omega)
       simp only[g4]at s5 a5 s6 a6
       have g5:=tk_good (b:=b) (n:=2) (at':=at'+1+1+4+4) (by omega)
       have eN:(b.drop (at'+1+1+4+4)).take 2=((b.drop at').drop 10).take 2:=by rw[List.drop_drop]
       simp only[tn,g5,eN,Bool.false_eq_true,if_false]at s6
       exact G ⟨by omega,by omega⟩
   · unfold rdPart
     rw[if_pos (by rw[hdl];omega)]
end Go.Ow
namespace Go.Ow
theorem parse_end{b:List UInt8}{x:Int×Bool×List UInt8×Int}{at' i:Int}{bad:Bool}{L:List Part}(h:bad=true∨¬i<x.1∨¬i≤256):send_Parse_l1 x (b,at',bad,L,i)=some (.inr (b,at',bad,L)):=by
 unfold send_Parse_l1
 dsimp only
 by_cases c1:i<x.1
 · rw[decide_eq_true c1,cond_true]
   by_cases c2:i≤256
   · rw[decide_eq_true c2,cond_true]
     rcases h with h|h|h
     · rw[h];rfl
     · exact absurd c1 h
     · exact absurd c2 h
   · rw[decide_eq_false c2];rfl
 · rw[decide_eq_false c1];rfl
theorem parse_step{b:List UInt8}{x:Int×Bool×List UInt8×Int}{at':Nat}{i:Nat}{L:List Part}(h1:(i:Int)<x.1)(h2:i≤256)(hL:L.length=i):send_Parse_l1 x (b,(at':Int),false,L,(i:Int))=Option.bind (sixP b at') (λt=>some (.inl (t.1,t.2.1,t.2.2.1,L++ [t.2.2.2],((i+1:Nat):Int)))):=by
 unfold send_Parse_l1 sixP
 dsimp only
 rw[decide_eq_true h1,cond_true,decide_eq_true (by omega),cond_true,Bool.not_false,cond_true]
 have ha:∀(y:Part) (k:List Part→Option ((List UInt8×Int×Bool×List Part×Int) ⊕ (List UInt8×Int×Bool×List Part))),app L [y] k=k (L++ [y]):=λy k=>app_eq (lim_le (by rw[hL,List.length_singleton];omega))
 simp only[ha,Option.bind_assoc,Option.bind_some]
 rw[w64_of (n:=(i:Int)+1) (by omega) (by omega)]
 rfl
theorem parse_run{b:List UInt8}(hb:b.length≤1000000){n:Nat}{x:Int×Bool×List UInt8×Int}(hx:x.1=(n:Int)):∀(k f at':Nat) (L:List Part) (i:Nat),at'≤b.length→L.length=i→i+k=min n 257→k<f→∃(a2:Nat) (bad:Bool) (ys:List Part),run (send_Parse_l1 x) f (b,(at':Int),false,L,(i:Int))=some (b,(a2:Int),bad,L++ys)∧a2≤b.length∧((bad=false∧rdParts k (b.drop at')=some (ys,b.drop a2))∨(bad=true∧rdParts k (b.drop at')=none))
  | 0,f,at',L,i,ha,hL,hi,hf=>by
    obtain⟨f,rfl⟩:∃q,f=q+1:=⟨f-1,by omega⟩
    refine⟨at',false,[],run_en ?_,ha,.inl ⟨rfl,rfl⟩⟩
    rw[List.append_nil]
    exact parse_end (.inr (by rw[hx];omega))
  | k +1,f,at',L,i,ha,hL,hi,hf=>by
    obtain⟨f,rfl⟩:∃q,f=q+1:=⟨f-1,by omega⟩
    obtain⟨y,bad,a2,e,hle,ht⟩:=six_takes hb ha
    have hs:send_Parse_l1 x (b,(at':Int),false,L,(i:Int))=some (.inl (b,(a2:Int),bad,L++ [y],((i+1:Nat):Int))):=by
      rw[parse_step (by rw[hx];omega) (by omega) hL,e];rfl
    rw[run_st hs]
    rcases ht with⟨rfl,hr⟩|⟨rfl,hr⟩
    · obtain⟨a3,bad,ys,e3,hle3,ht3⟩:=parse_run hb hx k f a2 (L++ [y]) (i+1) hle (by rw[List.length_append,hL];rfl) (by omega) (by omega)
      refine⟨a3,bad,y::ys,by rw[e3,List.append_assoc];rfl,hle3,?_⟩
      rcases ht3 with⟨rfl,h3⟩|⟨rfl,h3⟩
      · exact .inl ⟨rfl,by unfold rdParts;rw[hr];dsimp only;rw[h3]⟩
      · exact .inr ⟨rfl,by unfold rdParts;rw[hr];dsimp only;rw[h3]⟩
    · obtain⟨f,rfl⟩:∃q,f=q+1:=⟨f-1,by omega⟩
      exact⟨a2,true,[y],run_en (parse_end (.inl rfl)),hle,.inr ⟨rfl,by unfold rdParts;rw[hr]⟩⟩
end Go.Ow
namespace Go.Ow
def noSt:Stream:=Stream.mk (0:UInt32) (0:UInt32) ([]:List UInt8) ([]:List Part) ([]:List UInt8)
def manyS (b:List UInt8):Nat:=numB ((b.drop 33).take 2)
def headS (b:List UInt8)(ys:List Part)(r:List UInt8):Stream:=⟨u32i (numB ((b.drop 1).take 4):Int),u32i (numB ((b.drop 5).take 4):Int),(b.drop 9).take 24,ys,r⟩
def readS (b:List UInt8):Option Stream:=if b.length<35 then none else match rdParts (min (manyS b) 257) (b.drop 35)with
 |none=>none
 |some (ys,r)=>if r.length=209∧(b.drop 0).take 1= [83]∧manyS b=ys.length then some (headS b ys r)else none
noncomputable def parseS (b:List UInt8):Stream×Int:=match readS b with
 |none=>(noSt,8)
 |some x=>if okStream x then(x,0)else(noSt,8)
theorem rdPart_len{r r':List UInt8}{y:Part}(h:rdPart r=some (y,r')):r'.length≤r.length:=by
 unfold rdPart at h
 split at h
 · cases h
 · cases h;rw[List.length_drop];omega
theorem rdParts_len:∀(k:Nat) {r r':List UInt8} {ys:List Part},rdParts k r=some (ys,r')→ys.length=k∧r'.length≤r.length
  |0,r,r',ys,h=>by unfold rdParts at h;cases h;exact⟨rfl,Nat.le_refl _⟩
  | k + 1,r,r',ys,h=>by
    unfold rdParts at h
    split at h
    · cases h
    · rename_i y r1 e
      split at h
      · cases h
      · rename_i zs r2 e2
        cases h
        have h1:=rdPart_len e
        obtain⟨h2,h3⟩:=rdParts_len k e2
        exact⟨by rw[List.length_cons,h2],by omega⟩
theorem first_iff{b:List UInt8}(hb:35≤b.length):(numB ((b.drop 0).take 1)=83)↔(b.drop 0).take 1= [83]:=by
  match b,hb with
  | c ::t,_=>
    simp only[List.drop_zero,List.take_succ_cons,List.take_zero,numB]
    constructor
    · intro h
      have:c.toNat=83:=by simpa using h
      have:c=83:=by rw[←UInt8.toNat_inj];exact this
      rw[this]
    · intro h
      cases h;rfl
theorem send_Parse_eq{b:List UInt8}(hb:b.length≤131072):send_Parse b=some (parseS b):=by
 have hb':b.length≤1000000:=by omega
 have l0:0≤b.length:=Nat.zero_le _
 have l1:(tk b 1 false 0).2.2≤b.length:=tk_at l0
 have l2:=tk_at (b:=b) (n:=4) (bad:=(tk b 1 false 0).2.1) l1
 have l3:=tk_at (b:=b) (n:=4) (bad:=(tk b 4 (tk b 1 false 0).2.1 (tk b 1 false 0).2.2).2.1) l2
 have l4:=tk_at (b:=b) (n:=24) (bad:=(tk b 4 (tk b 4 (tk b 1 false 0).2.1 (tk b 1 false 0).2.2).2.1 (tk b 4 (tk b 1 false 0).2.1 (tk b 1 false 0).2.2).2.2).2.1) l3
 unfold send_Parse
 rw[decide_eq_false (by omega),cond_false]
 rw[show(1:Int)=((1:Nat):Int)from rfl,show(0:Int)=((0:Nat):Int)from rfl,show(4:Int)=((4:Nat):Int)from rfl,show(2:Int)=((2:Nat):Int)from rfl,show(24:Int)=((24:Nat):Int)from rfl]
 rw[parse2_eq hb' (by omega) (by omega) l0,Option.bind_some]
 dsimp only
 rw[parse2_eq hb' (by omega) (by omega) l1,Option.bind_some]
 dsimp only
 rw[parse2_eq hb' (by omega) (by omega) l2,Option.bind_some]
 dsimp only
 rw[parse1_eq hb' (by omega) l3,Option.bind_some,Option.bind_some]
 dsimp only
 rw[parse2_eq hb' (by omega) (by omega) l4,Option.bind_some]
 dsimp only
 by_cases c:b.length<35
 · have hbad:(tk b 2 (tk b 24 (tk b 4 (tk b 4 (tk b 1 false 0).2.1 (tk b 1 false 0).2.2).2.1 (tk b 4 (tk b 1 false 0).2.1 (tk b 1 false 0).2.2).2.2).2.1 (tk b 4 (tk b 4 (tk b 1 false 0).2.1 (tk b 1 false 0).2.2).2.1 (tk b 4 (tk b 1 false 0).2.1 (tk b 1 false 0).2.2).2.2).2.2).2.1 (tk b 24 (tk b 4 (tk b 4 (tk b 1 false 0).2.1 (tk b 1 false 0).2.2).2.1 (tk b 4 (tk b 1 false 0).2.1 (tk b 1 false 0).2.2).2.2).2.1 (tk b 4 (tk b 4 (tk b 1 false 0).2.1 (tk b 1 false 0).2.2).2.1 (tk b 4 (tk b 1 false 0).2.1 (tk b 1 false 0).2.2).2.2).2.2).2.2).2.1=true:=by
    rw[←Bool.not_eq_false]
    intro e
    obtain⟨f5,s5,a5⟩:=tk_false e
    obtain⟨f4,s4,a4⟩:=tk_false f5
    obtain⟨f3,s3,a3⟩:=tk_false f4
    obtain⟨f2,s2,a2⟩:=tk_false f3
    obtain⟨-,s1,a1⟩:=tk_false f2
    have g1:=tk_good (b:=b) (n:=1) (at':=0) (by omega)
    simp only[g1]at s2 a2 s3 a3 s4 a4 s5 a5
    have g2:=tk_good (b:=b) (n:=4) (at':=0+1) (by omega)
    simp only[g2]at s3 a3 s4 a4 s5 a5
    have g3:=tk_good (b:=b) (n:=4) (at':=0+1+4) (by omega)
    simp only[g3]at s4 a4 s5 a5
    have g4:=tk_good (b:=b) (n:=24) (at':=0+1+4+4) (by omega)
    simp only[g4]at s5 a5
    omega
   rw[hbad]
   rw[show loop _ _=some (b,_,true,([]:List Part))from loop_of (n:=1) (by decide) (run_en (parse_end (.inl rfl))),Option.bind_some]
   dsimp only
   rw[show(209:Int)=((209:Nat):Int)from rfl,parse1_eq hb' (by omega) (tk_at l4),Option.bind_some]
   dsimp only
   rw[tk_bad,cond_true]
   unfold parseS readS
   rw[if_pos c];rfl
 · have g1:=tk_good (b:=b) (n:=1) (at':=0) (by omega)
   have g2:=tk_good (b:=b) (n:=4) (at':=1) (by omega)
   have g3:=tk_good (b:=b) (n:=4) (at':=5) (by omega)
   have g4:=tk_good (b:=b) (n:=24) (at':=9) (by omega)
   have g5:=tk_good (b:=b) (n:=2) (at':=33) (by omega)
   simp only[tn,g1,g2,g3,g4,g5,Nat.zero_add,Nat.reduceAdd,Bool.false_eq_true,if_false]
   obtain⟨a2,bad,ys,e,hle,ht⟩:=parse_run hb' (x:=((numB ((b.drop 33).take 2):Int),false,b,((35:Nat):Int))) (n:=manyS b) rfl (min (manyS b) 257) 1000 35 [] 0 (by omega) rfl (by omega) (by omega)
   rw[show loop _ _=some (b,(a2:Int),bad,[]++ys)from loop_of (by decide) e,Option.bind_some,List.nil_append]
   dsimp only
   rw[show(209:Int)=((209:Nat):Int)from rfl,parse1_eq hb' (by omega) hle,Option.bind_some]
   dsimp only
   unfold parseS readS
   rw[if_neg c]
   rcases ht with⟨rfl,h⟩|⟨rfl,h⟩
   · rw [h]
     dsimp only
     obtain⟨hk,-⟩:=rdParts_len _ h
     by_cases d:b.length<a2+209
     · rw[tk_short d,cond_true,if_neg (by rw[List.length_drop];omega)];rfl
     · rw [tk_good (by omega)]
       dsimp only
       rw[cond_false]
       by_cases d1:(b.drop 0).take 1= [83]
       · rw [decide_eq_true (by have:=(first_iff (by omega)).2 d1;omega),Bool.not_true,cond_false]
         by_cases d2:manyS b=ys.length
         · rw[decide_eq_true (by unfold manyS at d2;omega),Bool.not_true,cond_false]
           by_cases d3:(b.drop a2).length=209
           · have d4:=d3
             rw[List.length_drop]at d4
             rw[decide_eq_true (by omega),Bool.not_true,cond_false,if_pos ⟨d3,d1,d2⟩,show List.take 209 (b.drop a2)=b.drop a2 from List.take_of_length_le (by omega),send_may_eq (by show ys.length≤1000000;omega),Option.bind_some]
             dsimp only
             by_cases d5:okStream (headS b ys (b.drop a2))
             · rw[if_pos d5,decide_eq_true (by exact d5)];rfl
             · rw[if_neg d5,decide_eq_false (by exact d5)];rfl
           · have d4:=d3
             rw[List.length_drop]at d4
             rw[decide_eq_false (by omega),if_neg (λh=>d3 h.1)];rfl
         · rw[decide_eq_false (by unfold manyS at d2;omega),if_neg (λh=>d2 h.2.2)];rfl
       · rw[decide_eq_false (λh=>d1 ((first_iff (by omega)).1 (by omega))),if_neg (λh=>d1 h.2.1)];rfl
   · rw[h,tk_bad,cond_true];rfl
end Go.Ow
namespace Go.Ow
theorem leB_take{m:List UInt8}{k:Nat}(h:k≤m.length):leB (numB (m.take k)) k=m.take k:=by
 have:=leB_numB (m.take k)
 rw[List.length_take,Nat.min_eq_left h]at this
 exact this
theorem u32i_take{m:List UInt8}:(u32i (numB (m.take 4):Int)).toNat=numB (m.take 4):=u32i_toNat (numB_take m 4)
theorem split_at'{r:List UInt8}(i k:Nat):(r.drop i)=(r.drop i).take k++r.drop (i+k):=by
 rw[←List.drop_drop,List.take_append_drop]
theorem rdPart_sound{r r':List UInt8}{y:Part}(h:rdPart r=some (y,r')):r=partB y++r':=by
 unfold rdPart at h
 split at h
 · cases h
 · rename_i c
   cases h
   unfold partB
   dsimp only
   rw[Int.toNat_natCast,Int.toNat_natCast,u32i_take,u32i_take,leB_take (by rw[List.length_drop];omega),leB_take (by rw[List.length_drop];omega),leB_take (by rw[List.length_drop];omega),leB_take (by rw[List.length_drop];omega),show((r.drop 12).take (numB ((r.drop 10).take 2))).length=numB ((r.drop 10).take 2) by rw[List.length_take,List.length_drop];omega,leB_take (by rw[List.length_drop];omega)]
   simp only[List.append_assoc]
   rw[←split_at' 12,←split_at' 10,←split_at' 6,←split_at' 2,←split_at' 1,←split_at' 0,List.drop_zero]
theorem rdParts_sound:∀(k:Nat) {r r':List UInt8} {ys:List Part},rdParts k r=some (ys,r')→r=partsB ys++r'
  |0,r,r',ys,h=>by unfold rdParts at h;cases h;rfl
  | k + 1,r,r',ys,h=>by
    unfold rdParts at h
    split at h
    · cases h
    · rename_i y r1 e
      split at h
      · cases h
      · rename_i zs r2 e2
        cases h
        rw[rdPart_sound e,rdParts_sound k e2,partsB_cons,List.append_assoc]
theorem drop_pre{a c:List UInt8}{n:Nat}(h:a.length=n):(a++c).drop n=c:=by rw[←h];exact List.drop_left
theorem take_pre{a c:List UInt8}{n:Nat}(h:a.length=n):(a++c).take n=a:=by rw[←h];exact List.take_left
theorem rdPart_full{y:Part}(hy:okPart y)(r:List UInt8):rdPart (partB y++r)=some (y,r):=by
 obtain⟨o,n,e1,e2,h1,h2⟩:=part_nat hy
 have hd:=okPart_data hy
 have hl:=partB_length y
 have hiv:=y.Iv.toNat_lt
 have htg:=y.Tag.toNat_lt
 have l1:=leB_length o 1
 have l2:=leB_length n 1
 have l3:=leB_length y.Iv.toNat 4
 have l4:=leB_length y.Tag.toNat 4
 have l5:=leB_length y.Data.length 2
 have d0:((partB y++r).drop 0).take 1=leB o 1:=by
  unfold partB;rw[e1,List.drop_zero];simp only[List.append_assoc,Int.toNat_natCast];exact take_pre l1
 have hs1:(partB y++r).drop 1=leB n 1++(leB y.Iv.toNat 4++(leB y.Tag.toNat 4++(leB y.Data.length 2++(y.Data++r)))):=by
  unfold partB;rw[e1,e2];simp only[List.append_assoc,Int.toNat_natCast];exact drop_pre l1
 have hs2:(partB y++r).drop 2=leB y.Iv.toNat 4++(leB y.Tag.toNat 4++(leB y.Data.length 2++(y.Data++r))):=by
  rw[show(2:Nat)=1+1 from rfl,←List.drop_drop,hs1];exact drop_pre l2
 have hs6:(partB y++r).drop 6=leB y.Tag.toNat 4++(leB y.Data.length 2++(y.Data++r)):=by
  rw[show(6:Nat)=2+4 from rfl,←List.drop_drop,hs2];exact drop_pre l3
 have hs10:(partB y++r).drop 10=leB y.Data.length 2++(y.Data++r):=by
  rw[show(10:Nat)=6+4 from rfl,←List.drop_drop,hs6];exact drop_pre l4
 have hs12:(partB y++r).drop 12=y.Data++r:=by
  rw[show(12:Nat)=10+2 from rfl,←List.drop_drop,hs10];exact drop_pre l5
 unfold rdPart
 rw[d0,hs1,hs2,hs6,hs10,←List.drop_drop,hs12,take_pre l2,take_pre l3,take_pre l4,take_pre l5,numB_leB (by omega),numB_leB (by omega),numB_leB (by omega),numB_leB (by omega),numB_leB (by omega),take_pre rfl,drop_pre rfl,if_neg (by rw[List.length_append,hl];omega),←e1,←e2]
 rw[show u32i (y.Iv.toNat:Int)=y.Iv from by rw[u32i_nat',UInt32.ofNat_toNat],show u32i (y.Tag.toNat:Int)=y.Tag from by rw[u32i_nat',UInt32.ofNat_toNat]]
theorem rdParts_full:∀(ys:List Part),(∀y∈ys,okPart y)→∀r,rdParts ys.length (partsB ys++r)=some (ys,r)
  |[],h,r=>rfl
  | y::ys,h,r=>by
    rw[List.length_cons,partsB_cons,List.append_assoc]
    unfold rdParts
    rw[rdPart_full (h y (.head _))]
    dsimp only
    rw[rdParts_full ys (λz hz=>h z (.tail _ hz))]
theorem read_sound{b:List UInt8}{x:Stream}(h:readS b=some x):b=textS x++x.Sign:=by
 unfold readS at h
 split at h
 · cases h
 · rename_i c
   split at h
   · cases h
   · rename_i ys r e
     split at h
     · rename_i g
       cases h
       obtain⟨g1,g2,g3⟩:=g
       have hr:=rdParts_sound _ e
       unfold textS headS
       dsimp only
       rw[u32i_take,u32i_take,leB_take (by rw[List.length_drop];omega),leB_take (by rw[List.length_drop];omega),←g3]
       unfold manyS
       rw[leB_take (by rw[List.length_drop];omega)]
       simp only[List.append_assoc]
       rw[←hr,←split_at' 33,←split_at' 9,←split_at' 5,←split_at' 1,←g2,←split_at' 0,List.drop_zero]
     · cases h
theorem read_full{x:Stream}(h:okStream x):readS (textS x++x.Sign)=some x:=by
 obtain⟨h1,h2,h3,h4,h5⟩:=h
 have hl:=parts_le h5
 have hg:=x.Guid.toNat_lt
 have hb:=x.Base.toNat_lt
 have l1:=leB_length x.Guid.toNat 4
 have l2:=leB_length x.Base.toNat 4
 have l3:=leB_length x.Parts.length 2
 generalize hB:textS x++x.Sign=B
 have hs0:B= [83]++(leB x.Guid.toNat 4++(leB x.Base.toNat 4++(x.Key++(leB x.Parts.length 2++(partsB x.Parts++x.Sign))))):=by
  rw[←hB];unfold textS;simp only[List.append_assoc]
 have hs1:B.drop 1=leB x.Guid.toNat 4++(leB x.Base.toNat 4++(x.Key++(leB x.Parts.length 2++(partsB x.Parts++x.Sign)))):=by
  rw[hs0];rfl
 have hs5:B.drop 5=leB x.Base.toNat 4++(x.Key++(leB x.Parts.length 2++(partsB x.Parts++x.Sign))):=by
  rw[show(5:Nat)=1+4 from rfl,←List.drop_drop,hs1];exact drop_pre l1
 have hs9:B.drop 9=x.Key++(leB x.Parts.length 2++(partsB x.Parts++x.Sign)):=by
  rw[show(9:Nat)=5+4 from rfl,←List.drop_drop,hs5];exact drop_pre l2
 have hs33:B.drop 33=leB x.Parts.length 2++(partsB x.Parts++x.Sign):=by
  rw[show(33:Nat)=9+24 from rfl,←List.drop_drop,hs9];exact drop_pre h3
 have hs35:B.drop 35=partsB x.Parts++x.Sign:=by
  rw[show(35:Nat)=33+2 from rfl,←List.drop_drop,hs33];exact drop_pre l3
 have hm:manyS B=x.Parts.length:=by unfold manyS;rw[hs33,take_pre l3,numB_leB (by omega)]
 have hlen:35≤B.length:=by
  rw[hs0];simp only[List.length_append,List.length_cons,List.length_nil];omega
 unfold readS
 rw[if_neg (by omega),hm,hs35,Nat.min_eq_left (by omega),rdParts_full _ (okP_mem h5)]
 dsimp only
 rw[if_pos ⟨h4,by rw[hs0];rfl,rfl⟩]
 unfold headS
 rw[hs1,hs5,hs9,take_pre l1,take_pre l2,take_pre h3,numB_leB (by omega),numB_leB (by omega),show u32i (x.Guid.toNat:Int)=x.Guid from by rw[u32i_nat',UInt32.ofNat_toNat],show u32i (x.Base.toNat:Int)=x.Base from by rw[u32i_nat',UInt32.ofNat_toNat]]
end Go.Ow
namespace Go.Ow
end Go.Ow
namespace Go.Ow
theorem parse_no{b:List UInt8}(h:∀x,readS b=some x→¬okStream x):parseS b=(noSt,8):=by
 unfold parseS
 split
 · rfl
 · rename_i x e
   rw[if_neg (h x e)]
theorem parse_yes{b:List UInt8}{x:Stream}(h:readS b=some x)(o:okStream x):parseS b=(x,0):=by
 unfold parseS
 rw[h]
 dsimp only
 rw[if_pos o]
end Go.Ow
namespace Go.Ow
theorem fuel_sb{n:Nat}(h:n≤2000000):n≤FUEL:=Nat.le_trans h (by decide)
theorem great_run (x:Stream):∀(k i f:Nat),i+k=400→i≤x.Parts.length→k<f→∃o,run (ref29_Great_l1 x) f i=some o∧(o=.inl ()→∀j (h:j<x.Parts.length),i≤j→j<400→(x.Parts[j]).Data.length≤1000)
  | k,i,f,hi,hl,hf=>by
    obtain⟨f,rfl⟩:∃q,f=q+1:=⟨f-1,by omega⟩
    by_cases c:i<x.Parts.length
    · by_cases d:i<400
      · by_cases e:1000<(x.Parts[i]).Data.length
        · refine⟨.inr (),run_en ?_,by intro h;cases h⟩
          unfold ref29_Great_l1
          rw[decide_eq_true (by omega),cond_true,decide_eq_true (by omega),cond_true,idx_nat _ c,decide_eq_true (by omega),cond_true]
        · match k,hi,hf with
          |0,hi,hf=>omega
          | k + 1,hi,hf=>
            obtain⟨o,eo,ho⟩:=great_run x k (i+1) f (by omega) (by omega) (by omega)
            refine⟨o,?_,?_⟩
            · rw[run_st (s':=i+1) (by
                unfold ref29_Great_l1
                rw[decide_eq_true (by omega),cond_true,decide_eq_true (by omega),cond_true,idx_nat _ c,decide_eq_false (by omega),cond_false])]
              exact eo
            · intro h j hj h1 h2
              by_cases hji:j=i
              · subst hji;omega
              · exact ho h j hj (by omega) h2
      · refine⟨.inl (),run_en ?_,λ_ j hj h1 h2=>by omega⟩
        unfold ref29_Great_l1
        rw[decide_eq_true (by omega),cond_true,decide_eq_false (by omega),cond_false]
    · refine⟨.inl (),run_en ?_,λ_ j hj h1 h2=>by omega⟩
      unfold ref29_Great_l1
      rw[decide_eq_false (by omega),cond_false]
theorem great_eq (x:Stream):∃g,ref29_Great x=some g∧(g=false→x.Parts.length≤400):=by
  obtain⟨o,eo,-⟩:=great_run x 400 0 401 (by omega) (by omega) (by omega)
  unfold ref29_Great
  rw[show loop (ref29_Great_l1 x) 0=some o from loop_of (by decide) eo,Option.bind_some]
  cases o with
  |inr u=>exact⟨true,rfl,by intro h;cases h⟩
  | inl u=>
    by_cases c:400<x.Parts.length
    · exact⟨true,by rw[decide_eq_true (by omega)];rfl,by intro h;cases h⟩
    · by_cases d:1000<x.Key.length
      · exact⟨true,by rw[decide_eq_false (by omega),decide_eq_true (by omega)];rfl,by intro h;cases h⟩
      · exact⟨decide (1000<(x.Sign.length:Int)),by rw[decide_eq_false (by omega),decide_eq_false (by omega)];rfl,λ_=>by omega⟩
theorem same_run (x:Stream):∀(k i f:Nat),i+k=x.Parts.length→k<f→run (ref29_Same_l1 x x) f i=some (.inl ())
  | 0,i,f,hi,hf=>by
    obtain⟨f,rfl⟩:∃q,f=q+1:=⟨f-1,by omega⟩
    refine run_en ?_
    unfold ref29_Same_l1
    rw[decide_eq_false (by omega),cond_false]
  | k +1,i,f,hi,hf=>by
    obtain⟨f,rfl⟩:∃q,f=q+1:=⟨f-1,by omega⟩
    rw[run_st (s':=i+1) (by
      unfold ref29_Same_l1
      rw[decide_eq_true (by omega),cond_true,idx_nat _ (by omega:i<x.Parts.length),idx_nat _ (by omega:i<x.Parts.length)]
      simp)]
    exact same_run x k (i+1) f (by omega) (by omega)
theorem same_refl{x:Stream}(h:x.Parts.length≤1000000):ref29_Same x x=some true:=by
 unfold ref29_Same
 rw[show loop (ref29_Same_l1 x x) 0=some (.inl ())from loop_of (n:=x.Parts.length+1) (fuel_sb (by omega)) (same_run x x.Parts.length 0 _ (by omega) (by omega))]
 simp
end Go.Ow
namespace Go.Ev
open Go Go.Ow Go.RowKit
theorem true_does{P:Program}{f:FuncId}(C:∀w,CallsIn Fence.wide 0 P f #[] w (λe w'=>e=.returned (.bool true)∧Kept [] w w'))(H:Heaplet):
    Does P f #[] [] H (λu K' H'=>u=.bool true∧K'= []∧H=H'∧True):=λw ha hk=>
  CallsIn.mono (C w) λe w' ⟨he,q⟩=>⟨_,[],H,he,⟨rfl,rfl,rfl,trivial⟩,
    { agr:=λb o v e=>by
        have h1:=ha b o v e
        have hb:b<w.heap.size:=by
          unfold World.cell? at h1
          cases hq:w.heap[b]? with
          |none=>simp[hq]at h1
          |some o=>exact(Array.getElem?_eq_some_iff.1 hq).1
        have h2:=q.block b hb (by simp)
        unfold World.cell? at h1⊢
        simpa[h2]using h1
      ok:=⟨(λp hp=>by cases hp),List.nodup_nil,(λp hp=>by cases hp)⟩
      kept:=q
      fresh:=λp hp=>by cases hp
      le:=Hle.refl _
      grow:=λ_ _ _=>rfl
      soft:=Mem.soft0}⟩
end Go.Ev
