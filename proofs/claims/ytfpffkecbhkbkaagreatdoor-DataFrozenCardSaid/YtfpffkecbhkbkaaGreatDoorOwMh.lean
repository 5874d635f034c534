import Derived.Test.YtfpffkecbhkbkaaGreatDoorOwMg
import Derived.KernelRfl
import Derived.Test.YtfpffkecbhkbkaaGreatDoorOwMb
import Derived.Carry
import Derived.WalkKit
import Derived.ProofKit
import Derived.OpenShut
import Derived.JoinedCond
import Derived.HandedShaped
/-
  What is proved here: numbers as bytes and back; a sum is always told; pointers as bytes: in plain words.
-/
set_option linter.unusedSimpArgs false
set_option linter.unusedVariables false
namespace Go.Ow
open Go.Pv (Zp backR QO)
def numB:List UInt8→Nat
 |[]=>0
 |b::r=>b.toNat+256*numB r
theorem ZQk (k:Int):V3 k=some (decide (0<k∧k≤4)):=by
 unfold V3;by_cases h:0<k
 · rw[TD h];simp only[TQ,TA];congr 1;simp only[decide_eq_decide];omega
 · rw[TB h];simp only[TI,TA];congr 1;rw[TB (λe=>h e.1)]
theorem ZPk (p:List UInt8)(c:UInt8):numB (p++ [c])=numB p+256^p.length*c.toNat:=by
 induction p with
 |nil=>simp[numB]
 |cons b p i=>simp only[Sx,numB,i,Tg,Nat.pow_succ];rw[Nat.mul_add,←Nat.mul_assoc,Nat.mul_comm 256 (256^p.length)];omega
theorem ZMv (m:List UInt8)(k:Nat):(bwd m k).length=k:=by induction k with|zero=>rfl|succ k i=>simp[bwd,i]
theorem ZR0 (m:List UInt8):∀(k a:Nat),k≤m.length→(bwd m k).foldl (λn y=>256*n+y.2.toNat) a=numB (m.take k)+256^k*a:=by
  intro k;induction k with
  |zero=>intro a _;simp[bwd,numB]
  | succ k i=>
    intro a h;simp only[bwd,Sw];rw[i _ (by omega),List.take_succ_eq_append_getElem (by omega),ZPk,TO,Tt (by omega),ST,TJ (by omega),S6,Nat.pow_succ,Nat.mul_add,←Nat.mul_assoc];omega
theorem ZMT:∀(l:List (Nat×UInt8)) (a j:Nat),a<256^j→j+l.length≤4→forL (fun(y:Nat×UInt8)=>ZAE (((y.1:Nat):Int),y.2)) l (a:Int)=some (.inl ((l.foldl (λn y=>256*n+y.2.toNat) a:Nat):Int))
  |[],a,j,_,_=>rfl
  | y ::l,a,j,c,h=>by
    have d:=y.2.toNat_lt;have b:(256:Nat)^(j+1)≤256^4:=Nat.pow_le_pow_right (by omega) (by simp at h;omega);have h2:256*a+y.2.toNat<256^(j+1):=(by rw[Nat.pow_succ];omega);rw[Ug (s':=((256*a+y.2.toNat:Nat):Int)) (by
      have e4:(256:Nat)^4=4294967296:=(by decide);rw[e4]at b;generalize (256:Nat)^(j+1)=N at b h2;show some (Sum.inl (w64 ((w64 (256*(a:Int)))+(y.2.toNat:Int))))=_;rw[Zo (n:=256*(a:Int)) (by omega) (by omega),Zo (by omega) (by omega)];rw[show(256*(a:Int)+(y.2.toNat:Int))=((256*a+y.2.toNat:Nat):Int) by omega]),ZMT l _ (j+1) h2 (by simp at h;omega)]
    rfl
theorem ZKm{l:List UInt8}{a b:Nat}(h1:a≤b)(h2:b≤l.length):(cut l (a:Int) (b:Int)).length=b-a:=by
 unfold cut;simp only[TO,TR];omega
theorem ZRa{b:List UInt8}{at' k:Nat}(c:k≤4)(d:at'+k≤b.length):
 (slc b (at':Int) ((at'+k:Nat):Int) λm=>Option.bind (XI m) λx=>Option.bind (backR x ZAE 0)<|Sum.elim (λs=>some (s,(0:Int))) (λ_=>none))=some ((numB ((b.drop at').take k):Int),0):=by
 rw[ZEJ (by omega) (by omega) (by omega)];have h:(cut b (at':Int) ((at'+k:Nat):Int)).length=k:=by rw[ZKm (by omega) (by omega)];omega
 have a:cut b (at':Int) ((at'+k:Nat):Int)=(b.drop at').take k:=by unfold cut;rw[Tl,Tl,SX]
 rw[a]at h⊢;have:=ZMT (bwd ((b.drop at').take k) ((b.drop at').take k).length) 0 0 (by decide) (by rw[ZMv,h];omega);unfold XI backR;rw[TA];rw[show((0:Nat):Int)=0 from rfl]at this;rw[this,ZR0 _ _ _ (TL _),RV,Nat.mul_zero,SR];rfl
theorem ZRb{b:List UInt8}{a q k:Int}{K:Option (Int×Int)}(h:0<k∧k≤4)(h0:0≤a)(h1:a≤b.length)(h2:q≤b.length):
 (Option.bind (V3 k) λx=>Option.bind (α:=Bool) (cond (!x) (some true) (Option.bind (α:=Bool) (cond (decide (a<0)) (some true) (some (decide ((b.length:Int)<a))))<|λc=>some c))<|λd=>cond d (some (0,2)) (cond (decide ((b.length:Int)<q)) (some (0,8)) K))=K:=by
 rw[ZQk,TA,TD h,TB (show¬a<0 by omega),TB (show¬(b.length:Int)<a by omega),TB (show¬(b.length:Int)<q by omega)];rfl
theorem ZAF{b:List UInt8}{at' k:Nat}(h1:1≤k)(h:k≤4)(a:at'+k≤b.length)(hb:b.length≤1000000):YR b (at':Int) (k:Int)=some ((numB ((b.drop at').take k):Int),0):=by
 unfold YR;have c:w64 ((at':Int)+(k:Int))=((at'+k:Nat):Int):=by rw[Zo (by omega) (by omega)];omega
 rw[c];exact(ZRb ⟨by omega,by omega⟩ (by omega) (by omega) (by omega)).trans (ZRa h a)
theorem QC{β:Type}{p:Prop} [Decidable p]{k:Option β}(h:p):chk p k=k:=by unfold chk;exact TH h
theorem ZOe (a:UInt32)(n:Int):∃r,Yo a n=some r:=⟨_,rfl⟩
theorem ZE0 (a b:Int)(c d e f:UInt32):∃r,Yx a b c d e f=some r:=by
 unfold Yx;obtain⟨r,h⟩:=ZOe (f^^^(c+d)) a;rw[h];simp only[TA];obtain⟨i,g⟩:=ZOe (d^^^(e+r)) b;rw[g];exact⟨_,rfl⟩
theorem ZNL (a b c d:UInt32):∃r,Qu a b c d=some r:=by
 unfold Qu;obtain⟨r,h⟩:=ZE0 15 11 a b c d;rw[h];simp only[TA];obtain⟨f,e⟩:=ZE0 9 6 r.1 r.2.1 r.2.2.1 r.2.2.2;rw[e];exact⟨_,rfl⟩
theorem ZJI (a b c d:UInt32)(n:Int)(hn:n≤100):∃r,XC a b c d n=some r:=by
 unfold XC;obtain⟨t,h1,-⟩:=Uc (body:=KV n) (λs=>0≤s.2.2.2.2∧s.2.2.2.2≤100) (λs=>100-s.2.2.2.2.toNat) (λ_=>True) (by
  rintro⟨a,b,c,d,i⟩ ⟨hi,e⟩;simp only at hi e;unfold KV;dsimp only;by_cases h:i<n
  · left;rw[TD h];obtain⟨r,f⟩:=ZNL a b c d;simp only[TQ];rw[f];refine⟨_,rfl,?_,?_⟩
    · simp only;rw[Zo (by omega) (by omega)];omega
    · simp only;rw[Zo (by omega) (by omega)];omega
  · right;rw[TB h];exact⟨_,rfl,trivial⟩) (s:=(a,b,c,d,0)) ⟨by simp,by simp⟩ (RJ (Nat.sub_le _ _) (Qb (by omega)))
 rw[h1];exact⟨_,rfl⟩
theorem ZHF{b:List UInt8}(h:b.length=4):∃r,Ux b=some r:=by
 unfold Ux;rw[show(0:Int)=((0:Nat):Int)from rfl,show(4:Int)=((4:Nat):Int)from rfl,ZAF (by omega) (by omega) (by omega) (by omega)];exact⟨_,rfl⟩
theorem ZMW{α a τ:Type}{body:α→a→Option (a ⊕ τ)}:∀{l:List α} {s:a},(∀y∈l,∀s,∃s',body y s=some (.inl s'))→∃s',forL body l s=some (.inl s')
  |[],s,_=>⟨s,rfl⟩
  | y::l,s,h=>by
    obtain⟨s',h1⟩:=h y (by simp) s;rw[Ug h1];exact ZMW (λy b=>h y (by simp[b]))
theorem BR{n:Nat}(hn:0<n):∀(f:Nat) (l:List UInt8),l.length≤f→l.length%n=0→∀y∈YJ n f l,y.length=n
  |0,l,h,_,y,a=>by simp[YJ]at a
  | f + 1,l,h,e,y,a=>by
    by_cases c:l= []
    · subst c;simp[YJ]at a
    · rw[Wq c]at a;have g:=List.length_pos_iff.2 c;have b:n≤l.length:=by
        rcases T2 l.length n with d|d
        · rw[Tw d]at e;omega
        · exact d
      rcases TW.1 a with rfl|a
      · simp only[TO];omega
      · refine BR hn f _ (by simp only[TR];omega) ?_ y a;rw[TR,←Nat.mod_eq_sub_mod b];exact e
def pad8 (n:Nat):Nat:=(8-n%8)%8
theorem ZPj{n:Nat}(h:n%8≠0):pad8 (n+1)+1=pad8 n:=by
 unfold pad8;have:n%8=1∨n%8=2∨n%8=3∨n%8=4∨n%8=5∨n%8=6∨n%8=7:=by omega
 rcases this with h|h|h|h|h|h|h<;>rw[Nat.add_mod,h]
theorem ZOk (n:Nat):pad8 n≤8:=by unfold pad8;omega
theorem ZTE{l:List UInt8}(h:l.length≤100000):∃t,loop Wb l=some t∧t.length%8=0∧t.length≤100016:=by
 obtain⟨t,h1,h2⟩:=Uc (body:=Wb) (λs=>s.length+pad8 s.length≤100008) (λs=>pad8 s.length) (λt=>t.length%8=0∧t.length≤100016) (by
  intro s hs;unfold Wb;rw[Int.tmod_eq_emod_of_nonneg (by omega)];by_cases c:s.length%8=0
  · right;rw[TD (show(s.length:Int)%8=0 by omega)];exact⟨_,rfl,c,by omega⟩
  · left;have:=ZPj c;rw[TB (show¬(s.length:Int)%8=0 by omega)];simp only[Rp,TQ];rw[UD (by simp only[Tg,SY,LIM];omega)];exact⟨_,rfl,by simp only[TM,Tg,SY,Tf];omega,by simp only[TM,Tg,SY,Tf];omega⟩) (s:=l) (by have:=ZOk l.length;omega) (RJ (ZOk _) (Qb (by omega)))
 exact⟨t,h1,h2⟩
theorem ZLu{b:List UInt8}(h:b.length≤10000):∃r,UO b=some r:=by
 unfold UO ZDQ Zu Qr;rw[UD (by simp only[SY,LIM];omega)];simp only[TA,Su];rw[QC trivial,ZEJ (by omega) (by omega) (by omega)];simp only[TA];have a:cut b 0 (b.length:Int)=b:=by simp[cut]
 rw[a,QC (by decide),UD (by simp only[Tg,SY,LIM];omega)];obtain⟨t,h1,h2,h3⟩:=ZTE (l:=b++ [1]) (by simp;omega);rw[h1];simp only[TA];unfold Yf Zp QO;simp only[show decide ((8:Int)<1)=false from rfl,TI,TA];rw[TH ⟨by omega,by omega,by simp only[LIM];omega⟩];simp only[TA];obtain⟨s,hs⟩:=ZMW (body:=Jh) (l:=YJ (8:Int).toNat t.length t) (s:=((1:UInt32),(2:UInt32),(3:UInt32),(4:UInt32))) (λy c s=>by
  have d:y.length=8:=BR (n:=8) (by omega) t.length t (TL _) h2 y c;unfold Jh;rw[ZEJ (by omega) (by omega) (by omega)];obtain⟨e,e1⟩:=ZHF (b:=cut y 0 4) (by rw[show(0:Int)=((0:Nat):Int)from rfl,show(4:Int)=((4:Nat):Int)from rfl,ZKm (by omega) (by omega)])
  rw[e1];simp only[TA];rw[ZEJ (by omega) (by omega) (by omega)];obtain⟨f,e2⟩:=ZHF (b:=cut y 4 (y.length:Int)) (by rw[show(4:Int)=((4:Nat):Int)from rfl,ZKm (by omega) (by omega)];omega)
  rw[e2];simp only[TA];obtain⟨w,e3⟩:=ZJI (s.1^^^e) s.2.1 (s.2.2.1^^^f) s.2.2.2 4 (by omega);rw[e3];exact⟨_,rfl⟩)
 rw[hs];simp only[TA,Sum.elim_inl];obtain⟨w,e3⟩:=ZJI s.1 (s.2.1^^^(u32i (b.length:Int))) s.2.2.1 s.2.2.2 8 (by omega);rw[e3];exact⟨_,rfl⟩
noncomputable def sumOf (b:List UInt8):UInt32:=(UO b).getD 0
theorem ZNg{b:List UInt8}(h:b.length≤10000):UO b=some (sumOf b):=by
 obtain⟨r,a⟩:=ZLu h;unfold sumOf;rw[a];rfl
end Go.Ow
namespace Go.Ow
theorem ZNT{a τ:Type}{body:a→Option (a ⊕ τ)}{n:Nat}{s s':a}(h:body s=some (.inl s')):run body (n+1) s=run body n s':=by
 show Option.bind (body s) _=_;rw[h];rfl
theorem ZJ7{a τ:Type}{body:a→Option (a ⊕ τ)}{n:Nat}{s:a}{t:τ}(h:body s=some (.inr t)):run body (n+1) s=some t:=by
 show Option.bind (body s) _=_;rw[h];rfl
def isNone (p:Ptr):Prop:=p.At=0∧p.Birth=0∧p.Iv=0∧p.Tag=0∧p.Sum=0
instance (p:Ptr):Decidable (isNone p):=by unfold isNone;infer_instance
def okR (p:Ptr):Prop:=12≤p.At∧p.At<256∧(1:UInt32)≤p.Birth∧p.Birth≤16777215
instance (p:Ptr):Decidable (okR p):=by unfold okR;infer_instance
theorem ZHG (p:Ptr):(decide (p.At=0)&&(decide (p.Birth=(0:UInt32))&&(decide (p.Iv=(0:UInt32))&&(decide (p.Tag=(0:UInt32))&&(decide (p.Sum=(0:UInt32))&&true)))))=decide (isNone p):=by
 rw[Sr];simp only[TE,T7,and_true];exact Iff.rfl
theorem XU (p:Ptr):YA p=some (if isNone p∨okR p then 0 else 8):=by
 unfold YA;rw[ZHG];by_cases h0:isNone p
 · rw[TD h0,TH (.inl h0)];rfl
 rw[TB h0];by_cases h:okR p
 · rw[TH (.inr h)];obtain⟨h1,h2,h3,a⟩:=h;rw[TB (show¬p.At<12 by omega),TB (show¬256≤p.At by omega),TB (show¬p.Birth<1 from R6.2 h3),TB (show¬(16777215:UInt32)<p.Birth from R6.2 a)];rfl
 · rw[TF (λe=>e.elim h0 h)];by_cases h1:p.At<12
   · rw[TD h1];rfl
   by_cases h2:256≤p.At
   · rw[TB h1,TD h2];rfl
   by_cases h3:p.Birth<1
   · rw[TB h1,TB h2,TD h3];rfl
   by_cases a:(16777215:UInt32)<p.Birth
   · rw[TB h1,TB h2,TB h3,TD a];rfl
   exact absurd ⟨by omega,by omega,R6.1 h3,R6.1 a⟩ h
theorem ZQj:Sized noD:=⟨by simp[noD],by simp[noD],by simp[noD]⟩
def okS (s:List UInt8):Prop:=s.length=256∧(∀b∈s,b≤2)∧∀b∈s.take 12,b=1
instance (s:List UInt8):Decidable (okS s):=by unfold okS;infer_instance
theorem ZS0{a b c:UInt8}:maxB a b≤c↔a≤c∧b≤c:=by
 unfold maxB;simp only[Rm,S1];split<;>omega
theorem ZRE (s:List UInt8)(h:s.length≤1000)(a:UInt8):loop (Yu s) (a,1)=some ((s.drop 1).foldl maxB a):=by
 have:=BG (s.drop 1) (λi r=>(r,i+1)) (body:=Yu s) (τ:=UInt8) (λy r=>some (.inl (maxB r y))) (λr=>r)
  (λi hi r=>by
   have b:i+1<s.length:=(by rw[TR]at hi;omega);unfold Yu;rw[cI,TH b,ZM _ b];simp only[List.getElem_drop,Nat.add_comm 1 i];rfl)
  (λr=>by
   unfold Yu;rw[cI,TF (by rw[TR];omega)])
  (RJ (by rw[TR];omega) (show 1000<FUEL by decide)) a
 rw[this,U2];rfl
theorem ZPz (l:List UInt8)(a c:UInt8):l.foldl maxB a≤c↔a≤c∧∀b∈l,b≤c:=by
 induction l generalizing a with
 |nil=>simp
 |cons b l i=>rw[Sw,i,ZS0];simp[and_assoc]
theorem ZU0{s:List UInt8}(h:s.length≤1000)(h0:0<s.length):∃m,KM s=some m∧∀c,m≤c↔∀b∈s,b≤c:=by
 refine⟨(s.drop 1).foldl maxB s[0],?_,λc=> ?_⟩
 · unfold KM;rw[TB (by omega),TI,show(0:Int)=((0:Nat):Int)from rfl,ZM _ h0,ZRE s h,TA]
 · rw[ZPz];cases s with
   |nil=>simp at h0
   |cons a l=>simp
theorem ZTN (l:List UInt8)(k:Nat):l.foldl (λn x=>if x==(1:UInt8)then n+1 else n) k≤k+l.length∧(l.foldl (λn x=>if x==(1:UInt8)then n+1 else n) k=k+l.length↔∀b∈l,b=1):=by
  induction l generalizing k with
  |nil=>simp
  | cons b l i=>
    rw[Sw];by_cases c:b=1
    · subst c;have:=i (k+1);simp only[beq_self_eq_true,if_true,Tg,List.forall_mem_cons,Re];exact⟨by omega,by rw[←this.2];omega⟩
    · have:=i k;rw[TF (by simpa using c)];simp only[Tg,List.forall_mem_cons];exact⟨by omega,⟨λe=>by omega,λe=>absurd e.1 c⟩⟩
theorem DU (s:List UInt8):Qa s=some (if okS s then 0 else 8):=by
 unfold Qa;by_cases f:s.length=256
 · rw [show(!decide ((s.length:Int)=256))=false by rw[TD (by omega)];rfl,TI];obtain⟨m,i,a⟩:=ZU0 (s:=s) (by omega) (by omega);rw[i,TA];by_cases hb:∀b∈s,b≤2
   · have:=(a 2).2 hb;rw[TB (by rw[S1];rw[Rm]at this;omega),TI,ZEJ (by omega) (by omega) (by omega)];have j:cut s 0 12=s.take 12:=(by simp[cut]);rw[j];unfold J0;rw[TB (by simp),TI,TD (by simp),TQ,show(0:Int)=((0:Nat):Int)from rfl,ZM _ (by simp),TA];have c:=ZTN (s.take 12) 0;have d:(s.take 12).length=12:=(by rw[TO];omega);rw[d]at c;obtain⟨q,g⟩:∃q,q=cntB (s.take 12) ([(1:UInt8)][0]):=⟨_,rfl⟩;rw[←g];have k:q=(s.take 12).foldl (λn x=>if x==(1:UInt8)then n+1 else n) 0:=g;by_cases h1:∀b∈s.take 12,b=1
     · have e:=c.2.2 h1;rw[TH ⟨f,hb,h1⟩,TD (by omega)];rfl
     · have e:¬q=12:=λe=>h1 (c.2.1 (by omega));rw[TF (λh=>h1 h.2.2),TB (by omega)];rfl
   · have:¬m≤2:=λh=>hb ((a 2).1 h);rw[TD (by rw[S1];rw[Rm]at this;omega),TQ,TF (λh=>hb h.2.1)];rfl
 · rw[show(!decide ((s.length:Int)=256))=true by rw[TB (by omega)];rfl,TQ,TF (λh=>f h.1)];rfl
theorem ZIH{l:List UInt8}(h:l.length≤1000000):Zr l=some l:=by
 unfold Zr;rw[UD (TU (by simpa using h) (by decide))];rfl
def noS:Store:=⟨⟨[],[]⟩,[],0,0⟩
def noP:Ptr:=⟨0,0,0,0,0⟩
def OKSt (s:Store):Prop:=OKD s.Disk∧okS s.Space∧(1:UInt32)≤s.Epoch∧s.Epoch≤65535∧s.Count≤65535
instance (s:Store):Decidable (OKSt s):=by unfold OKSt;infer_instance
theorem ZEW{e:Int}(h:e≠0):(!decide (e=0))=true:=by rw[TB h];rfl
theorem WO:(!decide ((0:Int)=0))=false:=rfl
theorem ZRo (a b:UInt32):decide (a<b)= !decide (b≤a):=by
 rw[←decide_not];apply decide_eq_decide.2;rw[UInt32.lt_iff_toNat_lt,UInt32.le_iff_toNat_le];omega
theorem QZ{s:Store}(h:Sized s.Disk):Yp s=some (if OKSt s then 0 else 8):=by
 unfold Yp;rw[ZDs h,TA];by_cases b:OKD s.Disk
 · rw [TH b,WO,TI,DU,TA];by_cases d:okS s.Space
   · rw [TH d,WO,TI,ZRo,ZRo,ZRo];by_cases c:(1:UInt32)≤s.Epoch
     · by_cases a:s.Epoch≤65535
       · by_cases e:s.Count≤65535
         · rw[TH ⟨b,d,c,a,e⟩,TD c,TD a,TD e];rfl
         · rw[TF (λh=>e h.2.2.2.2),TD c,TD a,TB e];rfl
       · rw[TF (λh=>a h.2.2.2.1),TD c,TB a];rfl
     · rw[TF (λh=>c h.2.2.1),TB c];rfl
   · rw[TF d,ZEW (by omega),TQ,TF (λh=>d h.2.1)];rfl
 · rw[TF b,ZEW (by omega),TQ,TF (λh=>b h.1)];rfl
theorem OKSt.sized{s:Store}(h:OKSt s):Sized s.Disk:=h.1.sized
theorem ZSw{s:List UInt8}(h:okS s){j:Nat}(a:12≤j){v:UInt8}(c:v≤2):okS (s.set j v):=by
 refine⟨by rw[S4];exact h.1,λb hb=> ?_,λb hb=> ?_⟩
 · rcases List.mem_or_eq_of_mem_set hb with hb|hb
   · exact h.2.1 b hb
   · subst hb;exact c
 · rw[List.take_set_of_le a]at hb;exact h.2.2 b hb
noncomputable def lookS (s:Store) (p:Ptr):List UInt8×Int:=
 if OKSt s∧(isNone p∨okR p)then(if isNone p then([],6)else(if sumOf ((seenB s.Disk).getD p.At.toNat [])=p.Sum then((seenB s.Disk).getD p.At.toNat [],0)else([],130)))else([],8)
theorem ZLM{d:Disk}(h:OKD d){i:Nat}(hi:i<256):((seenB d).getD i []).length=256:=by
 have b:=UM h;rw[ST,TJ (by omega),S6];exact ZL0 h.2.2.1 (λw a=>ZLi (h.2.2.2 w a)) _ (SU _)
theorem ZJK (p:Ptr):(decide (p.At=0)&&(decide (p.Birth=(0:UInt32))&&(decide (p.Iv=(0:UInt32))&&(decide (p.Tag=(0:UInt32))&&(decide (p.Sum=(0:UInt32))&&true)))))=decide (isNone p):=ZHG p
theorem ZBH{s:Store}(h:Sized s.Disk)(p:Ptr):Vo s p=some (lookS s p):=by
 unfold Vo lookS;rw[QZ h,TA];by_cases c:OKSt s
 · rw [TH c,WO,TI,XU,TA];by_cases a:isNone p∨okR p
   · rw[TH a,WO,TA,TI,ZJK,TH ⟨c,a⟩];by_cases b:isNone p
     · rw[TH b,TD b];rfl
     · rw[TF b,TB b,TI];have g:=a.resolve_left b;obtain⟨i,hi⟩:=T3 (show 0≤p.At by have:=g.1;omega)
       have d:i<256:=(by have:=g.2.1;omega);have k:=UM c.1;rw[hi,ZMk c.1 d,TA];dsimp only;have j:=ZLM c.1 d;have e:(seenB s.Disk).getD i []=(seenB s.Disk)[i]'(by omega):=(by rw[ST,TJ (by omega),S6]);rw[Tl,e];rw[e]at j;rw[show decide ((0:Int)=0)=true from rfl,TQ,ZNg (by omega),TA,TA];by_cases f:sumOf ((seenB s.Disk)[i]'(by omega))=p.Sum
       · rw[TH f,TD f];rfl
       · rw[TF f,TB f];rfl
   · rw[TF a,ZEW (by omega),TF (λh=>a h.2)];rfl
 · rw[TF c,ZEW (by omega),TF (λh=>c h.1)];rfl
theorem ZRF{s:Store}{p:Ptr}(h:(lookS s p).2=0):OKSt s∧¬isNone p∧okR p∧(lookS s p).1=(seenB s.Disk).getD p.At.toNat []∧sumOf ((seenB s.Disk).getD p.At.toNat [])=p.Sum:=by
 unfold lookS at h⊢;by_cases c:OKSt s∧(isNone p∨okR p)
 · rw[TH c]at h⊢;by_cases a:isNone p
   · rw[TH a]at h;simp at h
   · rw[TF a]at h⊢;by_cases b:sumOf ((seenB s.Disk).getD p.At.toNat [])=p.Sum
     · rw[TH b];exact⟨c.1,a,c.2.resolve_left a,rfl,b⟩
     · rw[TF b]at h;simp at h
 · rw[TF c]at h;simp at h
theorem ZHJ{α:Type} [DecidableEq α]{a b:α}(h:a=b):(!decide (a=b))=false:=by rw[TD h];rfl
theorem ZCJ{α:Type} [DecidableEq α]{a b:α}(h:¬a=b):(!decide (a=b))=true:=by rw[TB h];rfl
theorem ZS9{α β:Type}{l:List α}{i:Nat}{y:α}(k:α→Option β)(h:l[i]? =some y):idx l (i:Int) k=k y:=ZRU ⟨Ri i,by simpa using h⟩
theorem ZIU{s:List UInt8}(h:okS s){i:Nat}(h1:12≤i)(h2:i<256):KS s (i:Int)=some (if s[i]? =some 1 then(s.set i 2,0)else([],6)):=by
 unfold KS;have a:=h.1;have e:s[i]? =some (s[i]'(by omega)):=TJ (by omega);rw[DU,TH h,TA,WO,TI,TB (by omega),TI,TB (by omega),TA,TI,ZS9 _ e,e];by_cases c:s[i]'(by omega)=1
 · rw[ZHJ c,TI,TH (by rw[c]),ZIH (by omega),TA,ZRu ⟨by omega,by simp only[Tl];omega⟩,ZGJ (by omega) (by simp only[Tl];omega),Tl]
 · rw[ZCJ c,TQ,TF (λe=>c (TK e))]
def giveS (s:Store)(p:Ptr):Store×Int:=
 if OKSt s∧(isNone p∨okR p)then(if isNone p then(noS,6)else(if s.Space[p.At.toNat]? =some 1 then(⟨s.Disk,s.Space.set p.At.toNat 2,s.Epoch,s.Count⟩,0)else(noS,6)))else(noS,8)
theorem ZBI{s:Store}(h:Sized s.Disk)(p:Ptr):Xy s p=some (giveS s p):=by
 unfold Xy giveS;rw[QZ h,TA];by_cases c:OKSt s
 · rw [TH c,WO,TI,XU,TA];by_cases a:isNone p∨okR p
   · rw[TH a,WO,TA,TI,ZJK,TH ⟨c,a⟩];by_cases b:isNone p
     · rw[TH b,TD b];rfl
     · rw[TF b,TB b,TI];have e:=a.resolve_left b;obtain⟨i,hi⟩:=T3 (show 0≤p.At by have:=e.1;omega)
       rw[hi,Tl,ZIU c.2.1 (by have:=e.1;omega) (by have:=e.2.1;omega),TA];by_cases d:s.Space[i]? =some 1
       · rw[TH d,TH d,WO,TI,ZIz c.1.mid];rfl
       · rw[TF d,TF d,ZEW (by omega)];rfl
   · rw[TF a,ZEW (by omega),TF (λh=>a h.2)];rfl
 · rw[TF c,ZEW (by omega),TF (λh=>c h.1)];rfl
theorem ZN2 (s:Store)(p:Ptr):((giveS s p).2≠0∧(giveS s p).1=noS)∨(OKSt s∧¬isNone p∧okR p∧s.Space[p.At.toNat]? =some 1∧giveS s p=(⟨s.Disk,s.Space.set p.At.toNat 2,s.Epoch,s.Count⟩,0)∧OKSt (giveS s p).1):=by
 unfold giveS;by_cases c:OKSt s∧(isNone p∨okR p)
 · rw[TH c];by_cases a:isNone p
   · rw[TH a];exact .inl ⟨by show(6:Int)≠0;omega,rfl⟩
   · rw[TF a];have h:=c.2.resolve_left a;by_cases b:s.Space[p.At.toNat]? =some 1
     · rw[TH b];exact .inr ⟨c.1,a,h,b,rfl,c.1.1,ZSw c.1.2.1 (by have:=h.1;omega) (by decide),c.1.2.2⟩
     · rw[TF b];exact .inl ⟨by show(6:Int)≠0;omega,rfl⟩
 · rw[TF c];exact .inl ⟨by show(8:Int)≠0;omega,rfl⟩
open Go.Pv (Zp backR QO)
theorem ZCM{n:Nat}(h:n≤1000000):n≤LIM:=TU h (by decide)
theorem ZQ6:isNone noP:=⟨rfl,rfl,rfl,rfl,rfl⟩
def at5 (b:List UInt8):Ptr:=⟨(numB ((b.drop 0).take 1):Int),u32i (numB ((b.drop 1).take 3):Int),u32i (numB ((b.drop 4).take 4):Int),u32i (numB ((b.drop 8).take 4):Int),u32i (numB ((b.drop 12).take 4):Int)⟩
theorem ZE5{b:List UInt8}(h:b.length=16):Dd b=some (if isNone (at5 b)∨okR (at5 b)then(at5 b,0)else(⟨0,0,0,0,0⟩,8)):=by
 have g:∀(a k:Nat),1≤k→k≤4→a+k≤16→YR b (a:Int) (k:Int)=some ((numB ((b.drop a).take k):Int),0):=λa k h1 d m=>ZAF h1 d (by omega) (by omega);have e:=g 0 1 (by omega) (by omega) (by omega);have f:=g 1 3 (by omega) (by omega) (by omega);have i:=g 4 4 (by omega) (by omega) (by omega);have j:=g 8 4 (by omega) (by omega) (by omega);have l:=g 12 4 (by omega) (by omega) (by omega);unfold Dd;rw[TD (show(b.length:Int)=16 by omega)];simp only[Sd,TI,ZAl,TA];rw[show YR b 0 1=_ from e,TA,show YR b 1 3=_ from f,TA,show YR b 4 4=_ from i,TA,show YR b 8 4=_ from j,TA,show YR b 12 4=_ from l,TA];dsimp only;rw[show(Ptr.mk (numB ((b.drop 0).take 1):Int) (u32i (numB ((b.drop 1).take 3):Int)) (u32i (numB ((b.drop 4).take 4):Int)) (u32i (numB ((b.drop 8).take 4):Int)) (u32i (numB ((b.drop 12).take 4):Int)))=at5 b from rfl,XU];by_cases c:isNone (at5 b)∨okR (at5 b)
 · rw[TH c,TH c];rfl
 · rw[TF c,TF c];rfl
def okP (p:Ptr):Prop:=isNone p∨okR p
instance (p:Ptr):Decidable (okP p):=by unfold okP;infer_instance
def rowsF (y:List UInt8)(s:List Ptr):Option (List Ptr ⊕ Int):=some (if okP (at5 y)then .inl (s++ [at5 y])else .inr 8)
theorem ZSk{y:List UInt8}(h:y.length=16){s:List Ptr}(hs:s.length≤100):Je y s=rowsF y s:=by
 unfold Je rowsF;rw[ZE5 h,TA];by_cases c:okP (at5 y)
 · rw[TH (show isNone (at5 y)∨okR (at5 y)from c),TH c,WO,TI,UD (ZCM (by simp;omega))]
 · rw[TF (show¬(isNone (at5 y)∨okR (at5 y))from c),TF c];rfl
theorem ZJB:∀(a:List (List UInt8)) (s:List Ptr),(∀y∈a,y.length=16)→s.length+a.length≤100→
    forL Je a s=some (if∀y∈a,okP (at5 y)then .inl (s++a.map at5)else .inr 8)
  |[],s,_,_=>by simp[forL]
  | y ::a,s,f,hs=>by
    rw[Tg]at hs;have h1:=ZSk (f y (by simp)) (s:=s) (by omega);by_cases c:okP (at5 y)
    · rw[Ug (s':=s++ [at5 y]) (by rw[h1];unfold rowsF;rw[TH c]),ZJB a _ (λz g=>f z (by simp[g])) (by simp;omega)];by_cases b:∀q∈a,okP (at5 q)
      · rw[TH b,TH (λq d=>by rcases TW.1 d with rfl|h;exact c;exact b q h)];simp
      · rw[TF b,TF (λh=>b (λq d=>h q (by simp[d])))]
    · rw[ZEl (e:=8) (by rw[h1];unfold rowsF;rw[TF c]),TF (λh=>c (h y (by simp)))]
theorem ZNV{y:List UInt8}(h:y.length=16){s:List Ptr}(hs:s.length≤100):VG y s=rowsF y s:=by
 unfold VG rowsF;rw[ZE5 h,TA];by_cases c:okP (at5 y)
 · rw[TH (show isNone (at5 y)∨okR (at5 y)from c),TH c,WO,TI,UD (ZCM (by simp;omega))]
 · rw[TF (show¬(isNone (at5 y)∨okR (at5 y))from c),TF c];rfl
theorem ZDC:∀(a:List (List UInt8)) (s:List Ptr),(∀y∈a,y.length=16)→s.length+a.length≤100→
    forL VG a s=some (if∀y∈a,okP (at5 y)then .inl (s++a.map at5)else .inr 8)
  |[],s,_,_=>by simp[forL]
  | y ::a,s,f,hs=>by
    rw[Tg]at hs;have h1:=ZNV (f y (by simp)) (s:=s) (by omega);by_cases c:okP (at5 y)
    · rw[Ug (s':=s++ [at5 y]) (by rw[h1];unfold rowsF;rw[TH c]),ZDC a _ (λz g=>f z (by simp[g])) (by simp;omega)];by_cases b:∀q∈a,okP (at5 q)
      · rw[TH b,TH (λq d=>by rcases TW.1 d with rfl|h;exact c;exact b q h)];simp
      · rw[TF b,TF (λh=>b (λq d=>h q (by simp[d])))]
    · rw[ZEl (e:=8) (by rw[h1];unfold rowsF;rw[TF c]),TF (λh=>c (h y (by simp)))]
def Vs (b:List UInt8):List Ptr:=(YJ 16 b.length b).map at5
def rowsB (b:List UInt8):List Ptr×Int:=if∀p∈Vs b,okP p then(Vs b,0)else([],8)
theorem UW:∀(f:Nat) (b:List UInt8) (n:Nat),b.length≤f→b.length=16*n→(YJ 16 f b).length=n
  |0,b,n,h,e=>by simp[YJ];omega
  | f +1,b,n,h,e=>by
    by_cases hb:b= []
    · subst hb;rw[BQ];simp at e⊢;omega
    · have:=List.length_pos_iff.2 hb;obtain⟨n,rfl⟩:∃m,n=m+1:=⟨n-1,by omega⟩;rw[Wq hb,Tg,UW f (b.drop 16) n (by rw[TR];omega) (by rw[TR];omega)]
theorem ZBL{b:List UInt8}(h:b.length=256):(Vs b).length=16:=by unfold Vs;rw[RN,UW _ b 16 (TL _) (by omega)]
theorem ZLb{b:List UInt8}(h:b.length=256):ZDH b=some (rowsB b):=by
 unfold ZDH;rw[TD (show(b.length:Int)=256 by omega)];rw[show(!true)=false from rfl,TI];unfold Yf Zp QO;rw[show decide ((16:Int)<1)=false from rfl,TI,TA];dsimp only;rw[TH ⟨by omega,by omega,ZCM (by omega)⟩,TA,show(16:Int).toNat=16 from rfl,ZJB _ [] (BR (by omega) _ _ (TL _) (by omega)) (by rw[UW _ b 16 (TL _) (by omega)];simp)];unfold rowsB Vs;by_cases a:∀y∈YJ 16 b.length b,okP (at5 y)
 · rw[TH a,TH (λp d=>by obtain⟨y,c,rfl⟩:=SH.1 d;exact a y c)];rfl
 · rw[TF a,TF (λh=>a (λy c=>h _ (SQ c)))];rfl
theorem ZG2{b:List UInt8}(h:b.length=256):WY b=some (rowsB b):=by
 unfold WY;rw[TD (show(b.length:Int)=256 by omega)];rw[show(!true)=false from rfl,TI];unfold XH Zp QO;rw[show decide ((16:Int)<1)=false from rfl,TI,TA];dsimp only;rw[TH ⟨by omega,by omega,ZCM (by omega)⟩,TA,show(16:Int).toNat=16 from rfl,ZDC _ [] (BR (by omega) _ _ (TL _) (by omega)) (by rw[UW _ b 16 (TL _) (by omega)];simp)];unfold rowsB Vs;by_cases a:∀y∈YJ 16 b.length b,okP (at5 y)
 · rw[TH a,TH (λp d=>by obtain⟨y,c,rfl⟩:=SH.1 d;exact a y c)];rfl
 · rw[TF a,TF (λh=>a (λy c=>h _ (SQ c)))];rfl
theorem ZUu:okP noP:=.inl ZQ6
def okO (o:Object):Prop:=((1:Int)≤(o.Kind.toNat:Int)∧(o.Kind.toNat:Int)≤7)∧(0≤o.Links∧o.Links≤255)∧(0≤o.Size∧o.Size≤3840)∧o.Data.length=15∧∀p∈o.Data,okP p
instance (o:Object):Decidable (okO o):=by unfold okO;infer_instance
theorem ZEC (n a b:Int):XJ n a b=some (decide (a≤n∧n≤b)):=by
 unfold XJ;by_cases h:a≤n
 · rw[TD h,TQ];simp[h]
 · rw[TB h,TI];simp[h]
theorem ZLF (p:Ptr):WZ p=some (!decide (okP p)):=by
 unfold WZ;rw[XU,TA];by_cases h:okP p
 · rw[TH (show isNone p∨okR p from h),TD h];rfl
 · rw[TF (show¬(isNone p∨okR p)from h),TB h];rfl
theorem ZJY (l:List Ptr):∀(k i n:Nat),i+k=l.length→k<n→
    ∃o,run (Zi l) n i=some o∧(if∀p∈l.drop i,okP p then o=.inr ()else∃j:Nat,o=.inl j)
  | 0,i,n,hi,hn=>by
    obtain⟨n,rfl⟩:∃m,n=m+1:=⟨n-1,by omega⟩;refine⟨.inr (),ZJ7 (by unfold Zi;rw[TB (by omega)];rfl),?_⟩;rw[SA (by omega),TH (by simp)]
  | k + 1,i,n,hi,hn=>by
    obtain⟨n,rfl⟩:∃m,n=m+1:=⟨n-1,by omega⟩;have a:i<l.length:=(by omega);rw[So a];by_cases c:okP l[i]
    · obtain⟨o,h1,h2⟩:=ZJY l k (i+1) n (by omega) (by omega);refine⟨o,?_,?_⟩
      · rw[ZNT (s':=i+1) (by unfold Zi;rw[TD (by omega),TQ,QC ⟨by omega,by omega⟩,ZM _ a,ZLF,TA,TD c];rfl)];exact h1
      · by_cases b:∀p∈l.drop (i+1),okP p
        · rw[TH b]at h2;rw[TH (λp d=>by rcases TW.1 d with rfl|h;exact c;exact b p h)];exact h2
        · rw[TF b]at h2;rw[TF (λh=>b (λp d=>h p (Se _ d)))];exact h2
    · refine⟨.inl i,ZJ7 (by unfold Zi;rw[TD (by omega),TQ,QC ⟨by omega,by omega⟩,ZM _ a,ZLF,TA,TB c];rfl),?_⟩;rw[TF (λh=>c (h _ List.mem_cons_self))];exact⟨i,rfl⟩
theorem ZMs{l:List Ptr}(h:l.length≤1000):YI l=some (!decide (∀p∈l,okP p),l):=by
 obtain⟨o,h1,h2⟩:=ZJY l l.length 0 1001 (by omega) (by omega);have b:loop (Zi l) 0=some o:=ZS2 (by decide) h1;unfold YI XT;rw[b,TA];rw[List.drop_zero]at h2;by_cases a:∀p∈l,okP p
 · rw[TH a]at h2;subst h2;rw[TD a];rfl
 · rw[TF a]at h2;obtain⟨j,rfl⟩:=h2;rw[TB a];rw[Sum.elim_inl,TA,TD (by omega)];rfl
theorem ZKK (o:Object):Gj o=some (if okO o then 0 else 8,o.Data):=by
 unfold Gj;rw[ZEC,TA];by_cases h1:(1:Int)≤(o.Kind.toNat:Int)∧(o.Kind.toNat:Int)≤7
 · rw [TD h1,Sd,TI,ZEC,TA];by_cases h2:0≤o.Links∧o.Links≤255
   · rw [TD h2,Sd,TI,ZEC,TA];by_cases h3:0≤o.Size∧o.Size≤3840
     · rw[TD h3,Sd,TI];by_cases b:o.Data.length=15
       · rw[TD (show(o.Data.length:Int)=15 by omega),Sd,TI,ZMs (by omega),TA];by_cases a:∀p∈o.Data,okP p
         · rw[TD a,TH ⟨h1,h2,h3,b,a⟩];rfl
         · rw[TB a,TF (λh=>a h.2.2.2.2)];rfl
       · rw[TB (show¬(o.Data.length:Int)=15 by omega),TF (λh=>b h.2.2.2.1)];rfl
     · rw[TB h3,TF (λh=>h3 h.2.2.1)];rfl
   · rw[TB h2,TF (λh=>h2 h.2.1)];rfl
 · rw[TB h1,TF (λh=>h1 h.1)];rfl
def noO:Object:=⟨0,0,0,[]⟩
def objOf (b:List UInt8):Object:=⟨b.getD 0 0,((b.getD 1 0).toNat:Int),(numB ((b.drop 2).take 2):Int),(Vs (b.drop 16++List.replicate 16 0)).take 15⟩
def readO (b:List UInt8):Object×Int:=
 if(rowsB (b.drop 16++List.replicate 16 0)).2=0∧(b.take 16).drop 4=List.replicate 12 0∧okO (objOf b)then(objOf b,0)else(noO,8)
theorem ZLT{b:List UInt8}(h:(rowsB b).2=0):rowsB b=(Vs b,0)∧∀p∈Vs b,okP p:=by
 unfold rowsB at h⊢;by_cases c:∀p∈Vs b,okP p
 · rw[TH c];exact⟨rfl,c⟩
 · rw[TF c]at h;cases h
theorem ZPe{b:List UInt8}(h:(rowsB b).2≠0):rowsB b=([],8):=by
 unfold rowsB at h⊢;by_cases c:∀p∈Vs b,okP p
 · rw[TH c]at h;exact absurd rfl h
 · rw[TF c]
theorem ZLq{b:List UInt8}(h:b.length=256):Gi b=some (readO b):=by
 unfold Gi;rw[TD (show(b.length:Int)=256 by omega),Sd,TI];have a:∀(i:Int) (hi:0≤i∧i<256) {β:Type} (k:UInt8→Option β),idx b i k=k (b.getD i.toNat 0):=λi hi β k=>by
  obtain⟨n,rfl⟩:=T3 hi.1;rw[ZM _ (show n<b.length by omega),Tl,ST,TJ (show n<b.length by omega)];rfl
 have c:(b.drop 16).length=240:=by rw[TR,h]
 have d:cut b 16 (b.length:Int)=b.drop 16:=by
  unfold cut;rw[h];exact Td (by rw[TR,h];decide)
 rw[a 0 (by omega),a 1 (by omega),a 2 (by omega),a 3 (by omega),a 4 (by omega),a 5 (by omega),a 6 (by omega),a 7 (by omega),a 8 (by omega),a 9 (by omega),a 10 (by omega),a 11 (by omega),a 12 (by omega),a 13 (by omega),a 14 (by omega),a 15 (by omega)];rw[QC rfl,ZEJ (by omega) (by omega) (SE _),d,show(mks 16 (0:UInt8):(List UInt8→Option (Object×Int))→_)=λk=>k (List.replicate 16 0)from funext λk=>ZHK (n:=16) (by decide)];dsimp only[];rw[QC (by decide),UD (ZCM (by rw[c];simp)),ZG2 (by rw[TM,c];rfl),TA];have l:([b.getD 4 0,b.getD 5 0,b.getD 6 0,b.getD 7 0,b.getD 8 0,b.getD 9 0,b.getD 10 0,b.getD 11 0,b.getD 12 0,b.getD 13 0,b.getD 14 0,b.getD 15 0]:List UInt8)=(b.take 16).drop 4:=by
  have t:16≤b.length:=by omega
  have:((b.take 16).drop 4).length=12:=by rw[TR,TO];omega
  refine List.ext_getElem (by rw[this];rfl) λk m p=> ?_;have u:k<12:=m;rw[List.getElem_drop,List.getElem_take];have g:∀n,(hn:n<b.length)→b.getD n 0=b[n]:=λn hn=>by rw[ST,TJ hn];rfl
  rcases(show k=0∨k=1∨k=2∨k=3∨k=4∨k=5∨k=6∨k=7∨k=8∨k=9∨k=10∨k=11 by omega)with rfl|rfl|rfl|rfl|rfl|rfl|rfl|rfl|rfl|rfl|rfl|rfl<;>exact g _ (by omega)
 unfold readO;by_cases e:(rowsB (b.drop 16++List.replicate 16 0)).2=0
 · obtain⟨q,v⟩:=ZLT e;rw[q]at e⊢;rw[WO,TI,TA];rw[show([b.getD (Int.toNat 4) 0,b.getD (Int.toNat 5) 0,b.getD (Int.toNat 6) 0,b.getD (Int.toNat 7) 0,b.getD (Int.toNat 8) 0,b.getD (Int.toNat 9) 0,b.getD (Int.toNat 10) 0,b.getD (Int.toNat 11) 0,b.getD (Int.toNat 12) 0,b.getD (Int.toNat 13) 0,b.getD (Int.toNat 14) 0,b.getD (Int.toNat 15) 0]:List UInt8)=(b.take 16).drop 4 from l];by_cases f:(b.take 16).drop 4=List.replicate 12 (0:UInt8)
   · rw[TD (show(b.take 16).drop 4= [(0:UInt8),(0:UInt8),(0:UInt8),(0:UInt8),(0:UInt8),(0:UInt8),(0:UInt8),(0:UInt8),(0:UInt8),(0:UInt8),(0:UInt8),(0:UInt8)]from f),Sd,TI];have r:=ZAF (b:=b) (at':=2) (k:=2) (by omega) (by omega) (by omega) (by omega);rw[show YR b 2 2=some ((numB ((b.drop 2).take 2):Int),0)from r,TA];have o:=ZBL (b:=b.drop 16++List.replicate 16 0) (by rw[TM,c];rfl);rw[QC ⟨by omega,by show(15:Int)≤((Vs _).length:Int);rw[o];omega⟩,TA];have s:(Object.mk (b.getD (Int.toNat 0) 0) ((b.getD (Int.toNat 1) 0).toNat:Int) (numB ((b.drop 2).take 2):Int) ((Vs (b.drop 16++List.replicate 16 0)).take 15))=objOf b:=rfl;dsimp only;rw[s,ZKK,TA];by_cases j:okO (objOf b)
     · rw[TH j,TH ⟨rfl,f,j⟩,WO,TI];rfl
     · rw[TF j,TF (λh=>j h.2.2)];rfl
   · rw[TB (show¬(b.take 16).drop 4= [(0:UInt8),(0:UInt8),(0:UInt8),(0:UInt8),(0:UInt8),(0:UInt8),(0:UInt8),(0:UInt8),(0:UInt8),(0:UInt8),(0:UInt8),(0:UInt8)]from f),TF (λh=>f h.2.1)];rfl
 · rw[TF (λh=>e h.1),ZEW e];rfl
theorem ZQv{b:List UInt8}(h:(readO b).2=0):okO (readO b).1:=by
 unfold readO at h⊢;split
 · rename_i c;exact c.2.2
 · rename_i c;rw[TF c]at h;cases h
theorem ZLY (b:List UInt8):(readO b).2=0∨(readO b)=(noO,8):=by
 unfold readO;split
 · exact .inl rfl
 · exact .inr rfl
noncomputable def ptrsS (s:Store) (root:Ptr):List Ptr×Int:=
 if OKSt s∧okP root then(if isNone root then(List.replicate 16 noP,0)else if(lookS s root).2=0 then rowsB (lookS s root).1 else([],(lookS s root).2))else([],8)
noncomputable def oneS (s:Store) (p:Ptr):Object×Int:=if(lookS s p).2=0 then readO (lookS s p).1 else(noO,(lookS s p).2)
theorem ZHR{s:Store}{p:Ptr}(h:(lookS s p).2=0):(lookS s p).1.length=256:=by
 obtain⟨h1,h2,h3,c,d⟩:=ZRF h;rw[c];exact ZLM h1.1 (by obtain⟨a,b,_⟩:=h3;omega)
theorem ZNS{s:Store}(hs:Sized s.Disk)(p:Ptr):ZGI s p=some (oneS s p):=by
 unfold ZGI oneS;rw[ZBH hs,TA];by_cases h:(lookS s p).2=0
 · rw[TH h,h,WO,TI,ZLq (ZHR h),TA];rcases ZLY (lookS s p).1 with e|e
   · rw[e,WO,TI];exact congrArg some (Prod.ext rfl e.symm)
   · rw[e,ZEW (by decide),TQ];rfl
 · rw[TF h,ZEW h,TQ];rfl
theorem ZLK{s:Store}(hs:Sized s.Disk)(root:Ptr):DZ s root=some (ptrsS s root):=by
 unfold DZ ptrsS;rw[QZ hs,TA];by_cases h1:OKSt s
 · rw [TH h1,WO,TI,XU,TA];by_cases h2:okP root
   · rw [TH (show isNone root∨okR root from h2),WO,TA,TI,TH ⟨h1,h2⟩,ZHG];by_cases h3:isNone root
     · rw[TD h3,TQ,TH h3];exact ZHK (n:=16) (by decide)
     · rw[TB h3,TI,TF h3,ZBH hs,TA];by_cases a:(lookS s root).2=0
       · rw[TH a,a,WO,TI,ZLb (ZHR a),TA];by_cases b:(rowsB (lookS s root).1).2=0
         · rw[b,WO,TI];exact congrArg some (Prod.ext rfl b.symm)
         · rw[ZEW b,TQ,ZPe b]
       · rw[TF a,ZEW a,TQ]
   · rw[TF (show¬(isNone root∨okR root)from h2),TF (λh=>h2 h.2)];rfl
 · rw[TF h1,TF (λh=>h1 h.1)];rfl
theorem ZQw{s:Store}{root:Ptr}(h:(ptrsS s root).2=0):OKSt s∧okP root∧(ptrsS s root).1.length=16∧∀p∈(ptrsS s root).1,okP p:=by
 unfold ptrsS at h⊢;by_cases h1:OKSt s∧okP root
 · rw [TH h1]at h⊢;refine⟨h1.1,h1.2,?_⟩;by_cases h3:isNone root
   · rw[TH h3]at h⊢;exact⟨SF,λp b=>by rw[(List.mem_replicate.1 b).2];exact ZUu⟩
   · rw[TF h3]at h⊢;by_cases a:(lookS s root).2=0
     · rw[TH a]at h⊢;obtain⟨e,b⟩:=ZLT h;rw[e];exact⟨ZBL (ZHR a),b⟩
     · rw[TF a]at h;exact absurd h a
 · rw[TF h1]at h;cases h
theorem ZSt{s:Store}{p:Ptr}(h:(oneS s p).2=0):okO (oneS s p).1∧(lookS s p).2=0:=by
 unfold oneS at h⊢;by_cases h1:(lookS s p).2=0
 · rw[TH h1]at h⊢;exact⟨ZQv h,h1⟩
 · rw[TF h1]at h;exact absurd h h1
noncomputable def ZAm (s:Store) (root:Ptr) (n:Int):Object×Int:=
 if OKSt s∧okP root then(if n<0∨16≤n then(noO,2)else if(ptrsS s root).2=0 then oneS s ((ptrsS s root).1.getD n.toNat noP)else(noO,(ptrsS s root).2))else(noO,8)
theorem ZIV{s:Store}(hs:Sized s.Disk)(root:Ptr)(n:Int):Un s root n=some (ZAm s root n):=by
 unfold Un ZAm;rw[QZ hs,TA];by_cases h1:OKSt s
 · rw [TH h1,WO,TI,XU,TA];by_cases h2:okP root
   · rw [TH (show isNone root∨okR root from h2),WO,TA,TI,TH ⟨h1,h2⟩];by_cases h3:n<0
     · rw[TD h3,TQ,TH (.inl h3)];rfl
     · rw [TB h3,TI,TA];by_cases b:16≤n
       · rw[TD b,TQ,TH (.inr b)];rfl
       · rw[TB b,TI,TF (λh=>h.elim h3 b),ZLK hs,TA];by_cases a:(ptrsS s root).2=0
         · obtain⟨-,-,d,-⟩:=ZQw a;rw[TH a,a,WO,TI];obtain⟨k,rfl⟩:=T3 (show 0≤n by omega)
           have c:k<(ptrsS s root).1.length:=(by omega);rw[QC ⟨by omega,by simpa using c⟩,ZM _ c,ZNS hs,TA,Tl,ST,TJ c];rfl
         · rw[TF a,ZEW a,TQ];rfl
   · rw[TF (show¬(isNone root∨okR root)from h2),TF (λh=>h2 h.2)];rfl
 · rw[TF h1,TF (λh=>h1 h.1)];rfl
theorem ZEk{n:Nat}(h:n≤1000000000000):n+2<FUEL:=RJ (Nat.add_le_add_right h 2) (by decide)
def AllOk{α:Type}(l:List α)(ok:Nat→α→Bool):Prop:=∀i (h:i<l.length),ok i l[i]=true
theorem Uy{α:Type}(l:List α)(ok:Nat→α→Bool){body:Nat→Option (Nat ⊕ (Unit ⊕ Unit))}
    (step:∀i (h:i<l.length),body i=some (if ok i l[i]then .inl (i+1)else .inr (.inl ())))
    (s:body l.length=some (.inr (.inr ())))(e:l.length≤1000000000000):
    ∃t,loop body 0=some t∧((t=.inr ()∧AllOk l ok)∨(t=.inl ()∧¬AllOk l ok)):=by
  have key:∀(k i f:Nat),i+k=l.length→k<f→(∀j (h:j<l.length),j<i→ok j l[j]=true)→∃t,run body f i=some t∧((t=.inr ()∧AllOk l ok)∨(t=.inl ()∧¬AllOk l ok)):=by
    intro k;induction k with
    | zero=>
      intro i f hi m a;obtain⟨f,rfl⟩:∃g,f=g+1:=⟨f-1,by omega⟩;obtain rfl:i=l.length:=(by omega);exact⟨.inr (),by unfold run;rw[s];rfl,.inl ⟨rfl,λj h=>a j h h⟩⟩
    | succ k n=>
      intro i f hi m a;obtain⟨f,rfl⟩:∃g,f=g+1:=⟨f-1,by omega⟩;have b:i<l.length:=(by omega);by_cases c:ok i l[i]=true
      · obtain⟨t,h1,h2⟩:=n (i+1) f (by omega) (by omega) (λj h o=>by
          rcases T2 j i with d|d
          · exact a j h d
          · obtain rfl:j=i:=(by omega);exact c)
        refine⟨t,?_,h2⟩;unfold run;rw[step i b,TH c];exact h1
      · refine⟨.inl (),?_,.inr ⟨rfl,λh=>c (h i b)⟩⟩;unfold run;rw[step i b,TF c];rfl
  exact key l.length 0 FUEL (by omega) (by have:=ZEk e;omega) (λj h o=>by omega)
def midT (i j:Int):Int:=w64 ((sr64 (u64i (w64 (i+j))) (((1:UInt64).toNat:Int)).toNat).toNat:Int)
theorem ZRA{i j:Nat}(h:i≤j)(a:j≤1000000000000):midT (i:Int) (j:Int)=(((i+j)/2:Nat):Int):=by
 unfold midT;have h1:w64 ((i:Int)+(j:Int))=(((i+j:Nat)):Int):=by rw[Zo (by omega) (by omega)];omega
 rw[h1];have h2:(u64i (((i+j:Nat)):Int)).toNat=i+j:=by
  unfold u64i;simp only[RP];omega
 have h3:(sr64 (u64i (((i+j:Nat)):Int)) (((1:UInt64).toNat:Int)).toNat).toNat=(i+j)/2:=by
  unfold sr64;rw[h2];simp only[RP];have:(2:Nat)^(min (((1:UInt64).toNat:Int)).toNat 64)=2:=by decide
  rw[this];omega
 rw[h3,Zo (by omega) (by omega)]
theorem ZTc {α:Type}(l:List α)(f:α→Option Int)(c:α→Int)(A:∀y∈l,f y=some (c y)){body:Int×Int→Option ((Int×Int) ⊕ Int)}
    (hb:∀s,body s=cond (decide (s.1<s.2)) (idx l (midT s.1 s.2) λy=>Option.bind (f y) λx=>cond (decide (x<0)) (some (.inl (w64 (midT s.1 s.2+1),s.2))) (some (.inl (s.1,midT s.1 s.2)))) (some (.inr s.1)))
    (mono:∀a b (E:a<l.length) (hb:b<l.length),a≤b→c l[b]<0→c l[a]<0)(B:l.length≤1000000000000):
    ∃p:Nat,p≤l.length∧loop body (0,(l.length:Int))=some (p:Int)∧(∀k (h:k<l.length),k<p→c l[k]<0)∧(∀k (h:k<l.length),p≤k→¬c l[k]<0):=by
  have key:∀(d i j f:Nat),j=i+d→j≤l.length→d<f→(∀k (h:k<l.length),k<i→c l[k]<0)→(∀k (h:k<l.length),j≤k→¬c l[k]<0)→
      ∃p:Nat,p≤l.length∧run body f ((i:Int),(j:Int))=some (p:Int)∧(∀k (h:k<l.length),k<p→c l[k]<0)∧(∀k (h:k<l.length),p≤k→¬c l[k]<0):=by
    intro d;induction d using Nat.strongRecOn with
    | _ d z=>
      intro i j f F t G h1 h2;obtain⟨f,rfl⟩:∃g,f=g+1:=⟨f-1,by omega⟩;by_cases C:i<j
      · have D:=ZRA (i:=i) (j:=j) (by omega) (by omega);have m:(i+j)/2<l.length:=(by omega);have w:decide ((i:Int)<(j:Int))=true:=TD (by omega);have e:body ((i:Int),(j:Int))=some (if c l[(i+j)/2]<0 then .inl ((((i+j)/2+1:Nat):Int),(j:Int))else .inl ((i:Int),(((i+j)/2:Nat):Int))):=by
          rw[hb];simp only[w,TQ,D];rw[ZM _ m,A _ (SU m),TA,Zo (by omega) (by omega)];by_cases n:c l[(i+j)/2]<0
          · rw[TD n,TQ,TH n];rfl
          · rw[TB n,TI,TF n]
        by_cases n:c l[(i+j)/2]<0
        · rw[TH n]at e;obtain⟨p,o,q,r⟩:=z (j-((i+j)/2+1)) (by omega) ((i+j)/2+1) j f (by omega) t (by omega)
            (λk h v=>mono k ((i+j)/2) h m (by omega) n) h2
          exact⟨p,o,by unfold run;rw[e];exact q,r⟩
        · rw[TF n]at e;obtain⟨p,o,q,r⟩:=z ((i+j)/2-i) (by omega) i ((i+j)/2) f (by omega) (by omega) (by omega) h1
            (λk h v u=>n (mono ((i+j)/2) k m h v u))
          exact⟨p,o,by unfold run;rw[e];exact q,r⟩
      · obtain rfl:i=j:=(by omega);refine⟨i,t,?_,h1,h2⟩;unfold run;rw[hb];have:decide ((i:Int)<(i:Int))=false:=TB (by omega);simp only[this,TI];rfl
  exact key l.length 0 l.length FUEL (by omega) (TL _) (by have:=ZEk B;omega) (λk h v=>by omega) (λk h v=>by omega)
def findL (l:List Line)(id:Int):Option Nat:=l.findIdx? λx=>decide (x.Id=id)
theorem Vy{l:List Line}{id:Int}{i:Nat}(h:findL l id=some i):∃hi:i<l.length,l[i].Id=id:=by
 unfold findL at h;rw[List.findIdx?_eq_some_iff_getElem]at h;obtain⟨hi,h1,_⟩:=h;exact⟨hi,by simpa using h1⟩
def Rising (l:List Line):Prop:=∀a b (h:a<l.length) (hb:b<l.length),a<b→l[a].Id<l[b].Id
def sgI (a b:Int):Int:=if a<b then -1 else if b<a then 1 else 0
theorem UV (a b:Int):Zf a b=some (sgI a b):=by
 unfold Zf KC sgI;by_cases h1:a<b
 · simp[h1]
 · by_cases h2:b<a<;>simp[h1,h2]
theorem JY{a b:Int}:sgI a b<0↔a<b:=by
 unfold sgI;by_cases h1:a<b
 · simp[h1]
 · by_cases h2:b<a<;>simp[h1,h2]
theorem DY{a b:Int}:sgI a b=0↔a=b:=by
 unfold sgI;by_cases h1:a<b
 · simp[h1];omega
 · by_cases h2:b<a
   · simp[h1,h2];omega
   · simp[h1,h2];omega
theorem ZKQ{l:List Line}(h:Rising l)(id:Int)(m:l.length≤1000000000000):GW l id=some ((findL l id).bind fun(i:Nat)=>l[i]?):=by
 obtain⟨p,u,h1,h2,h3⟩:=ZTc l (λy=>QY y id) (λy=>sgI y.Id id) (λy _=>by unfold QY;rw[UV];rfl) (body:=Zw l id) (λs=>by unfold Zw;rw[QC (by decide)];rfl)
  (λa b n hb o r=>by
   rw[JY]at*;rcases T2 a b with c|c
   · have:=h a b n hb c;omega
   · obtain rfl:a=b:=(by omega);exact r) m
 unfold GW Z6;rw[h1,TA];rcases T2 p l.length with c|c
 · have g:decide ((p:Int)<(l.length:Int))=true:=TD (by omega);simp only[g,TQ];rw[ZM _ c];unfold QY;rw[UV,TA,TA,TA];by_cases e:l[p].Id=id
   · have f:findL l id=some p:=by
      unfold findL;rw[List.findIdx?_eq_some_iff_getElem];exact⟨c,by simpa using e,λj d=>by have:=h j p (by omega) c d;simp;omega⟩
     rw[f,TD (DY.2 e)];simp only[Sd,TI];rw[ZM _ c,TA,TJ c]
   · have f:findL l id=none:=by
      unfold findL;rw[List.findIdx?_eq_none_iff];intro x k;obtain⟨j,d,rfl⟩:=S8.1 k;rcases Nat.lt_trichotomy j p with q|q|q
      · have:=h2 j d q;rw[JY]at this;simp;omega
      · subst q;simpa using e
      · have:=h p j c d q;have t:=h3 p c (TL _);rw[JY]at t;simp;omega
     rw[f,TB (λq=>e (DY.1 q))];rfl
 · have g:decide ((p:Int)<(l.length:Int))=false:=TB (by omega);simp only[g,TI,TA];have f:findL l id=none:=by
    unfold findL;rw[List.findIdx?_eq_none_iff];intro x k;obtain⟨j,d,rfl⟩:=S8.1 k;have:=h2 j d (by omega);rw[JY]at this;simp;omega
   rw[f];rfl
def prevB (l:List Line)(x:Line):Bool:=match findL l x.Prev with
 |none=>false
 |some i=>(l[i]?.any λy=>decide (y.Kind=2)&&(decide (y.Key=x.Key)&&(decide (y.Txg<x.Txg) ||(decide (y.Txg=x.Txg)&&decide (x.Kind=1)))))
def kinB (l:List Line)(x:Line):Bool:=match findL l x.Owner with
 |none=>false
 |some o=>(l[o]?.any λy=>decide (y.Kind=1)&&(!(decide (x.Kind=1)&& !decide (x.Owner=x.Id))&&(decide (x.Prev=0) ||prevB l x)))
theorem ZQy{l:List Line}(h:Rising l)(n:l.length≤1000)(x:Line):ZGG l x=some (kinB l x):=by
  unfold ZGG kinB;rw[ZKQ h _ (by omega),TA,ZKQ h _ (by omega),TA];cases d:findL l x.Owner with
  |none=>rfl
  | some o=>
    obtain⟨h1,h2⟩:=Vy d;simp only[TA];rw[TJ h1];generalize l[o]=y;simp only[RO,Option.isNone_some,TI,TA];by_cases c:y.Kind=1
    · simp only[c,decide_true,Sd,TI,Ru];unfold prevB;cases e:findL l x.Prev with
      | none=>
        simp only[Option.bind_none,Option.isNone_none,TQ,Bool.or_false];by_cases k:x.Kind=1<;>by_cases a:x.Owner=x.Id<;>by_cases b:x.Prev=0<;>simp[k,a,b]
      | some i=>
        obtain⟨h3,_⟩:=Vy e;simp only[TA];rw[TJ h3];generalize l[i]=z;simp only[RO,Option.isNone_some,TI,TA];by_cases k:x.Kind=1<;>by_cases a:x.Owner=x.Id<;>by_cases b:x.Prev=0<;>by_cases f:z.Kind=2<;>by_cases g:z.Key=x.Key<;>by_cases j:z.Txg<x.Txg<;>by_cases m:z.Txg=x.Txg<;>
          simp[k,a,b,f,g,j,m]
    · simp[c]
noncomputable def dec (p:Prop):Bool:=@decide p (Classical.propDecidable p)
theorem ZJd{p:Prop}(h:p):dec p=true:=by unfold dec;exact @decide_eq_true p (Classical.propDecidable p) h
theorem Ql{p:Prop}(h:¬p):dec p=false:=by unfold dec;exact @decide_eq_false p (Classical.propDecidable p) h
theorem Dg{p:Prop}(h:dec p=true):p:=Classical.byContradiction λc=>by rw[Ql c]at h;cases h
theorem ZGM{p:Prop}(h:dec p=false):¬p:=λc=>by rw[ZJd c]at h;cases h
theorem Vb (i n:Nat)(h:i<n):decide ((i:Int)<(n:Int))=true:=TD (by omega)
theorem UJ (n:Nat):decide ((n:Int)<(n:Int))=false:=TB (by omega)
theorem ZDJ{i:Nat}(h:i≠0)(hi:i≤1000000000000):w64 ((i:Int)-1)=((i-1:Nat):Int):=by rw[Zo (by omega) (by omega)];omega
theorem ZGK{i:Nat}(h:i≠0):decide (0<(i:Int))=true:=TD (by omega)
def okE (d:List Ptr)(i:Nat)(p:Ptr):Bool:=!decide (isNone p)&&(decide (okP p)&&(decide (i=0) ||(d[i-1]?.any λq=>decide (q.At<p.At))))
def ZOE (d:List Ptr):Prop:=d.length≤240∧AllOk d (okE d)
theorem ZHH (p:Ptr):(decide (p.At=0)&&(decide (p.Birth=(0:UInt32))&&(decide (p.Iv=(0:UInt32))&&(decide (p.Tag=(0:UInt32))&&(decide (p.Sum=(0:UInt32))&&true)))))=decide (isNone p):=by
 unfold isNone;by_cases h1:p.At=0<;>by_cases h2:p.Birth=0<;>by_cases h3:p.Iv=0<;>by_cases h:p.Tag=0<;>by_cases a:p.Sum=0<;>simp[h1,h2,h3,h,a]
theorem ZAw (p:Ptr):YA p=some (if okP p then 0 else 8):=XU p
theorem ZOD (d:List Ptr):KW d=some (if dec (ZOE d)then 0 else 8):=by
 unfold KW;by_cases e:240<d.length
 · rw[TD (show(240:Int)<(d.length:Int) by omega),TQ,Ql (λh=>by have:=h.1;omega)];rfl
 · rw [TB (show¬(240:Int)<(d.length:Int) by omega),TI];obtain ⟨t,h1,h2⟩:=Uy d (okE d) (body:=WI d) (λi h=>by
    unfold WI okE;rw[Vb _ _ h,TQ,ZM _ h];simp only[ZHH,ZAw,V0,UV,TA];by_cases c0:isNone d[i]
    · simp[c0]
    · by_cases c:okP d[i]
      · by_cases a:i=0
        · subst a;simp[c0,c]
        · have h3:i-1<d.length:=(by omega);simp only[ZGK a,TQ,ZDJ a (by omega),ZM _ h3,TJ h3,RO];by_cases b:d[i-1].At<d[i].At
          · simp[c0,c,b,sgI]
          · have:¬sgI d[i-1].At d[i].At<0:=λq=>b (JY.1 q);have:decide (0≤sgI d[i-1].At d[i].At)=true:=TD (by omega);simp[c0,c,a,b,this]
      · simp[c0,c]) (by unfold WI;rw[UJ,TI]) (by omega)
   rw[h1,TA];rcases h2 with⟨rfl,h⟩|⟨rfl,h⟩
   · rw[ZJd ⟨by omega,h⟩];rfl
   · rw[Ql (λq=>h q.2)];rfl
def ok1 (l:List Line)(i:Nat)(x:Line):Bool:=decide (1≤x.Id)&&(decide (x.Id≤255)&&((decide (i=0) ||(l[i-1]?.any λy=>decide (y.Id<x.Id)))&&(decide (x.Kind=1) ||decide (x.Kind=2))))
noncomputable def ok2 (l:List Line) (x:Line):Bool:=decide (x.Txg≤16777215)&&(decide (0≤x.Key)&&(decide (x.Key<8)&&(decide (okP x.Root)&&(dec (ZOE x.Dead)&&kinB l x))))
structure linesOk (l:List Line):Prop where
  few:l.length≤16
  one:AllOk l (ok1 l)
  two:AllOk l (λ_ x=>ok2 l x)
theorem ZJD{l:List Line}(h:AllOk l (ok1 l)):Rising l:=by
  have key:∀d a (c:a+d+1<l.length),l[a].Id<l[a+d+1].Id:=by
    intro d;induction d with
    | zero=>
      intro a c;have h1:=h (a+0+1) c;unfold ok1 at h1;simp only[TE,RE,T7,SR,Nat.add_sub_cancel]at h1;rw[TJ (show a<l.length by omega)]at h1;rcases h1.2.2.1 with q|q
      · omega
      · simpa using q
    | succ d i=>
      intro a c;have h1:=i a (by omega);have h2:=h (a+(d+1)+1) c;unfold ok1 at h2;simp only[TE,RE,T7,Nat.add_sub_cancel]at h2;rw[TJ (show a+(d+1)<l.length by omega)]at h2;rcases h2.2.2.1 with q|q
      · omega
      · have:l[a+(d+1)].Id<l[a+(d+1)+1].Id:=(by simpa using q);exact Int.lt_trans h1 this
  intro a b c hb e;have:=key (b-a-1) a (by omega);simpa[show a+(b-a-1)+1=b by omega]using this
theorem ZGF{a b:UInt32}:(¬a<b)↔b≤a:=R6
theorem ZNY (l:List Line):UL l=some (dec (linesOk l)):=by
 unfold UL;by_cases o:16<l.length
 · rw[TD (show(16:Int)<(l.length:Int) by omega),TQ,Ql (λh=>by have:=h.few;omega)]
 · rw [TB (show¬(16:Int)<(l.length:Int) by omega),TI];obtain ⟨t,h1,h2⟩:=Uy l (ok1 l) (body:=KL l) (λi h=>by
    unfold KL ok1;rw[Vb _ _ h,TQ,ZM _ h];by_cases c:l[i].Id<1
    · have:¬(1≤l[i].Id):=(by omega);simp[c,this]
    · have a:1≤l[i].Id:=(by omega);by_cases b:255<l[i].Id
      · have:¬(l[i].Id≤255):=(by omega);simp[c,b,this]
      · have d:l[i].Id≤255:=(by omega);by_cases e:i=0
        · subst e;by_cases k:l[0].Kind=1<;>by_cases g:l[0].Kind=2<;>simp[c,a,b,d,k,g]
        · have h3:i-1<l.length:=(by omega);simp only[ZGK e,TQ,ZDJ e (by omega),ZM _ h3,TJ h3,RO];by_cases f:l[i].Id≤l[i-1].Id
          · have:¬l[i-1].Id<l[i].Id:=(by omega);simp[c,b,e,f,this]
          · have:l[i-1].Id<l[i].Id:=(by omega);by_cases k:l[i].Kind=1<;>by_cases g:l[i].Kind=2<;>simp[c,a,b,d,e,f,this,k,g]) (by unfold KL;rw[UJ,TI]) (by omega)
   rw[h1,TA];rcases h2 with⟨rfl,h⟩|⟨rfl,h⟩
   · simp only[R3];obtain ⟨t,h3,n⟩:=Uy l (λ_ x=>ok2 l x) (body:=KJ l) (λi hi=>by
      unfold KJ ok2;rw[Vb _ _ hi,TQ,ZM _ hi,ZQy (ZJD h) (by omega)];simp only[ZAw,ZOD,TA];by_cases c:(16777215:UInt32)<l[i].Txg
      · have:¬l[i].Txg≤(16777215:UInt32):=λq=>ZGF.2 q c;simp[c,this]
      · have a:=ZGF.1 c;by_cases b:l[i].Key<0
        · have:¬0≤l[i].Key:=(by omega);simp[c,b,this]
        · by_cases e:8≤l[i].Key
          · have:¬l[i].Key<8:=(by omega);simp[c,b,e,this]
          · have d:0≤l[i].Key:=(by omega);have j:l[i].Key<8:=(by omega);by_cases f:okP l[i].Root
            · cases p:dec (ZOE l[i].Dead)<;>cases r:kinB l l[i]<;>simp[c,a,b,d,e,j,f]
            · simp[c,b,e,f]) (by unfold KJ;rw[UJ,TI]) (by omega)
     rw[h3,TA];rcases n with⟨rfl,m⟩|⟨rfl,m⟩
     · rw[ZJd ⟨by omega,h,m⟩];rfl
     · rw[Ql (λq=>m q.two)];rfl
   · rw[Ql (λq=>h q.one)];rfl
def okK (many:Nat)(k:List UInt8):Bool:=decide (k.length=0) ||(decide (k.length=many)&& !(decide (many=24)&&decide (k=List.replicate 24 0)))
structure keysOk (l:List (List UInt8)) (many:Nat):Prop where
  len:l.length=8
  all:AllOk l (λ_ k=>okK many k)
theorem ZTg (k:List UInt8){many:Nat}(h:many=24∨many=16):V6 k (many:Int)=some (!okK many k,(many:Int)):=by
 unfold V6 okK;by_cases c0:k.length=0
 · have:decide (0<(k.length:Int))=false:=TB (by omega);rw[this,TI,TD c0];rfl
 · have:decide (0<(k.length:Int))=true:=TD (by omega);rw[this,TQ,TB c0];by_cases c:k.length=many
   · rw[TD (show(k.length:Int)=(many:Int) by omega),TD c];rcases h with rfl|rfl
     · rw[show(!true)=false from rfl,TI,show decide (((24:Nat):Int)=24)=true from rfl,TQ,ZHK (by decide)];unfold Jz;rw[TA];simp
     · rfl
   · rw[TB (show¬(k.length:Int)=(many:Int) by omega),TB c];rfl
theorem ZJH (l:List (List UInt8)){many:Nat}(h:many=24∨many=16):WR l (many:Int)=some (dec (keysOk l many)):=by
  unfold WR;by_cases m:l.length=8
  · rw [TD (show(l.length:Int)=8 by omega),TQ];unfold Q2 Vr;have step:∀i (d:i<l.length),Z5 l ((many:Int),(i:Int))=some (if okK many l[i]then .inl ((many:Int),((i+1:Nat):Int))else .inr (.inl ((many:Int),(i:Int)))):=λi d=>by
      unfold Z5;dsimp only;rw[Vb _ _ d,TQ,ZM _ d,ZTg _ h,TA,Zo (by omega) (by omega)];cases okK many l[i]<;>rfl
    have s:Z5 l ((many:Int),(l.length:Int))=some (.inr (.inr (many:Int))):=by
      unfold Z5;dsimp only;rw[UJ,TI]
    have key:∀(k i f:Nat),i+k=l.length→k<f→(∀j (h:j<l.length),j<i→okK many l[j]=true)→
        ∃t,run (Z5 l) f ((many:Int),(i:Int))=some t∧((t=.inr (many:Int)∧keysOk l many)∨(∃j:Nat,t=.inl ((many:Int),(j:Int))∧¬keysOk l many)):=by
      intro k;induction k with
      | zero=>
        intro i f hi o a;obtain⟨f,rfl⟩:∃g,f=g+1:=⟨f-1,by omega⟩;obtain rfl:i=l.length:=(by omega);exact⟨.inr (many:Int),by unfold run;rw[s];rfl,.inl ⟨rfl,m,λj e=>a j e e⟩⟩
      | succ k p=>
        intro i f hi o a;obtain⟨f,rfl⟩:∃g,f=g+1:=⟨f-1,by omega⟩;have b:i<l.length:=(by omega);by_cases c:okK many l[i]=true
        · obtain⟨t,e1,e2⟩:=p (i+1) f (by omega) (by omega) (λj h e=>by
            rcases T2 j i with d|d
            · exact a j h d
            · obtain rfl:j=i:=(by omega);exact c)
          refine⟨t,?_,e2⟩;unfold run;rw[step i b,TH c];exact e1
        · refine⟨.inl ((many:Int),(i:Int)),?_,.inr ⟨i,rfl,λq=>c (q.all i b)⟩⟩;unfold run;rw[step i b,TF c];rfl
    obtain⟨t,e1,e2⟩:=key l.length 0 FUEL (by omega) (by have:=ZEk (n:=l.length) (by omega);omega) (λj h e=>by omega)
    rw[show loop (Z5 l) ((many:Int),0)=some t from e1];rcases e2 with⟨rfl,q⟩|⟨j,rfl,q⟩
    · rw[ZJd q];rfl
    · rw[Ql q];have:decide (0≤(j:Int))=true:=TD (by omega);simp[this]
  · rw[TB (show¬(l.length:Int)=8 by omega),TI,Ql (λq=>m q.len)]
def okH (c:Change):Bool:=decide (c.Data.length=0)&&(decide (isNone c.Laid)&&(decide (c.Kind≤7)&&(decide (0≤c.Links)&&(decide (c.Links≤255)&&(decide (0≤c.Size)&&(decide (c.Size≤3840)&&(decide (0<c.Kind) ||(decide (c.Links=0)&&decide (c.Size=0)))))))))
def okB (c:Change):Bool:=decide (c.Kind=0)&&(decide (c.Links=0)&&(decide (c.Size=0)&&((decide (c.Data.length=0) ||decide (c.Data.length=256))&&decide (okP c.Laid))))
def okC (c:Change):Bool:=decide (0≤c.Obj)&&(decide (c.Obj≤15)&&(decide (0≤c.Index)&&(decide (c.Index≤15)&&(if c.Index=15 then okH c else okB c))))
theorem ZQb{k:UInt8}:(0:UInt8)<k↔¬k=0:=by
 rw[S1,←Ro];simp;omega
theorem ZLd (c:Change):V7 c=some (okC c):=by
 unfold V7 okC;rw[ZHH,ZAw];have g:(bif decide (c.Kind=(0:UInt8))then bif decide (c.Links=0)then some (decide (c.Size=0))else some false else some false)=some (decide (c.Kind=0)&&(decide (c.Links=0)&&decide (c.Size=0))):=by
  cases decide (c.Kind=0)<;>cases decide (c.Links=0)<;>rfl
 rw[g,TA];have e1:decide (0≤c.Obj)= !decide (c.Obj<0):=by
  by_cases q:c.Obj<0
  · rw[TD q,TB (by omega)];rfl
  · rw[TB q,TD (by omega)];rfl
 have e2:decide (c.Obj≤15)= !decide (16≤c.Obj):=by
  by_cases q:16≤c.Obj
  · rw[TD q,TB (by omega)];rfl
  · rw[TB q,TD (by omega)];rfl
 have e3:decide (0≤c.Index)= !decide (c.Index<0):=by
  by_cases q:c.Index<0
  · rw[TD q,TB (by omega)];rfl
  · rw[TB q,TD (by omega)];rfl
 have e4:decide (c.Index≤15)= !decide (15<c.Index):=by
  by_cases q:15<c.Index
  · rw[TD q,TB (by omega)];rfl
  · rw[TB q,TD (by omega)];rfl
 rw[e1,e2,e3,e4];by_cases k:c.Obj<0
 · rw[TD k];rfl
 by_cases a:16≤c.Obj
 · rw[TB k,TD a];rfl
 by_cases d:c.Index<0
 · rw[TB k,TB a,TD d];rfl
 by_cases e:15<c.Index
 · rw[TB k,TB a,TB d,TD e];rfl
 rw[TB k,TB a,TB d,TB e];simp only[TI,Rp,Ru];have f:decide ((c.Data.length:Int)=0)=decide (c.Data.length=0):=by
  by_cases q:c.Data.length=0
  · rw[TD q,TD (by omega)]
  · rw[TB q,TB (by omega)]
 have i:decide ((c.Data.length:Int)=256)=decide (c.Data.length=256):=by
  by_cases q:c.Data.length=256
  · rw[TD q,TD (by omega)]
  · rw[TB q,TB (by omega)]
 by_cases b:c.Index=15
 · rw[TD b,TQ,TH b];unfold okH;have j:decide (0≤(min c.Links c.Size))=(decide (0≤c.Links)&&decide (0≤c.Size)):=by
    by_cases l:0≤c.Links<;>by_cases m:0≤c.Size<;>simp[l,m]<;>omega
   have n:decide ((0:UInt8)<c.Kind)= !decide (c.Kind=0):=by
    by_cases q:c.Kind=0
    · rw[TD q,TB (λh=>ZQb.1 h q)];rfl
    · rw[TB q,TD (ZQb.2 q)];rfl
   rw[j,f,n];cases decide (c.Kind≤7)<;>cases decide (0≤c.Links)<;>cases decide (0≤c.Size)<;>cases decide (c.Links≤255)<;>cases decide (c.Size≤3840)<;>cases decide (c.Data.length=0)<;>cases decide (isNone c.Laid)<;>
    cases decide (c.Kind=0)<;>cases decide (c.Links=0)<;>cases decide (c.Size=0)<;>rfl
 · rw[TB b,TI,TF b];unfold okB;have o:(Option.bind (some (if okP c.Laid then(0:Int)else 8)) λx=>some (decide (x=0)))=some (decide (okP c.Laid)):=by
    by_cases q:okP c.Laid<;>simp[q]
   rw[f,i];rw[TA,TI];show(bif _ then bif _ then Option.bind (some (if okP c.Laid then(0:Int)else 8)) (λx=>some (decide (x=0)))else bif _ then Option.bind (some (if okP c.Laid then(0:Int)else 8)) (λx=>some (decide (x=0)))else some false else some false)=_;rw[o];cases decide (c.Kind=0)<;>cases decide (c.Links=0)<;>cases decide (c.Size=0)<;>cases decide (c.Data.length=0)<;>cases decide (c.Data.length=256)<;>cases decide (okP c.Laid)<;>rfl
def lt3 (a b c x y z:Int):Prop:=a<x∨(a=x∧(b<y∨(b=y∧c<z)))
instance (a b c x y z:Int):Decidable (lt3 a b c x y z):=by unfold lt3;infer_instance
def sg3 (a b c x y z:Int):Int:=if sgI a x≠0 then sgI a x else if sgI b y≠0 then sgI b y else if sgI c z≠0 then sgI c z else 0
theorem or3 (x y z:Int):U5 [x,y,z]=some (if x≠0 then x else if y≠0 then y else if z≠0 then z else 0):=by
 have st:∀i (h:i< [x,y,z].length),YW [x,y,z] i=some (if [x,y,z][i]≠0 then .inr (.inl [x,y,z][i])else .inl (i+1)):=λi h=>by
  unfold YW;rw[Vb _ _ h,TQ,ZM _ h];generalize [x,y,z][i]=w;by_cases c:w=0<;>simp[c]
 have e:YW [x,y,z] 3=some (.inr (.inr ())):=by
  unfold YW;rw[show decide (((3:Nat):Int)<([x,y,z].length:Int))=false from rfl,TI]
 have key:∀f,run (YW [x,y,z]) (f+4) 0=some (if x≠0 then .inl x else if y≠0 then .inl y else if z≠0 then .inl z else .inr ()):=λf=>by
  by_cases a:x≠0
  · rw[TH a];unfold run;rw[st 0 (by simp),show [x,y,z][0]=x from rfl,TH a];rfl
  rw[TF a];unfold run;rw[st 0 (by simp),show [x,y,z][0]=x from rfl,TF a];show run (YW [x,y,z]) (f+3) 1=_;by_cases b:y≠0
  · rw[TH b];unfold run;rw[st 1 (by simp),show [x,y,z][1]=y from rfl,TH b];rfl
  rw[TF b];unfold run;rw[st 1 (by simp),show [x,y,z][1]=y from rfl,TF b];show run (YW [x,y,z]) (f+2) 2=_;by_cases d:z≠0
  · rw[TH d];unfold run;rw[st 2 (by simp),show [x,y,z][2]=z from rfl,TH d];rfl
  rw[TF d];unfold run;rw[st 2 (by simp),show [x,y,z][2]=z from rfl,TF d];show run (YW [x,y,z]) (f+1) 3=_;unfold run;rw[e];rfl
 unfold U5 loop;rw[show FUEL=(FUEL-4)+4 by decide,key,TA];by_cases a:x≠0
 · rw[TH a,TH a];rfl
 rw[TF a,TF a];by_cases b:y≠0
 · rw[TH b,TH b];rfl
 rw[TF b,TF b];by_cases d:z≠0
 · rw[TH d,TH d];rfl
 rw[TF d,TF d];rfl
theorem ZOa{a b c x y z:Int}:sg3 a b c x y z<0↔lt3 a b c x y z:=by
 unfold sg3 lt3;have h1:=@JY a x;have h2:=@DY a x;have h3:=@JY b y;have h:=@DY b y;have d:=@JY c z;have e:=@DY c z;by_cases f:sgI a x=0
 · rw[TF (by omega)];by_cases g:sgI b y=0
   · rw[TF (by omega)];by_cases i:sgI c z=0
     · rw[TF (by omega)];omega
     · rw[TH (by omega)];omega
   · rw[TH (by omega)];omega
 · rw[TH (by omega)];omega
theorem ZQ2 (c d:Change):ZAc c d=some (sg3 c.Set c.Obj c.Index d.Set d.Obj d.Index):=by
 unfold ZAc;rw[UV,TA,UV,TA,UV,TA,or3];rfl
theorem ZDK (c:Change)(p:Int×Int×Int):X3 c p=some (sg3 c.Set c.Obj c.Index p.1 p.2.1 p.2.2):=by
 unfold X3;rw[UV,TA,UV,TA,UV,TA,or3];rfl
def setB (l:List Line)(c:Change):Bool:=match findL l c.Set with
 |none=>false
 |some i=>l[i]?.any λy=>decide (y.Kind=1)
def okCh (p:Pool)(i:Nat)(c:Change):Bool:=setB p.Lines c&&(okC c&&(decide (i=0) ||(p.Changes[i-1]?.any λd=>decide (lt3 d.Set d.Obj d.Index c.Set c.Obj c.Index))))
theorem ZLc {p:Pool}(c:Rising p.Lines)(e:p.Lines.length≤1000)(f:p.Changes.length≤1000000000000)(i:Nat)(h:i<p.Changes.length):
    K6 p i=some (if okCh p i p.Changes[i]then .inl (i+1)else .inr (.inl ())):=by
  unfold K6 okCh setB;rw[Vb _ _ h,TQ,ZM _ h,ZKQ c _ (by omega),TA,ZLd];cases d:findL p.Lines p.Changes[i].Set with
  |none=>rfl
  | some j=>
    obtain⟨h1,_⟩:=Vy d;simp only[Option.isNone_some,TI,TA,TJ h1,RO];by_cases a:p.Lines[j].Kind=1
    · cases g:okC p.Changes[i]with
      |false=>simp[a]
      | true=>
        by_cases k:i=0
        · subst k;simp[a]
        · have h3:i-1<p.Changes.length:=(by omega);simp only[a,decide_true,Sd,TI,ZGK k,TQ,ZDJ k (by omega),ZM _ h3,TJ h3,RO,ZQ2,TA];by_cases b:lt3 p.Changes[i-1].Set p.Changes[i-1].Obj p.Changes[i-1].Index p.Changes[i].Set p.Changes[i].Obj p.Changes[i].Index
          · have:=ZOa.2 b;rw[TB (show¬0≤sg3 _ _ _ _ _ _ by omega)];simp[k,b]
          · have:¬sg3 p.Changes[i-1].Set p.Changes[i-1].Obj p.Changes[i-1].Index p.Changes[i].Set p.Changes[i].Obj p.Changes[i].Index<0:=λq=>b (ZOa.1 q);rw[TD (show 0≤sg3 _ _ _ _ _ _ by omega)];simp[k,b]
    · simp[a]
structure SizedP (p:Pool):Prop where
  disk:Sized p.Store.Disk
  metas:p.MetaL.length≤1000000000000
  changes:p.Changes.length≤1000000000000
def okM (p:Pool)(i:Nat)(a:Int):Bool:=decide (12≤a)&&(decide (a≤255)&&((decide (i=0) ||(p.MetaL[i-1]?.any λq=>decide (q<a)))&&(p.Store.Space[a.toNat]?.any λy=>decide (y=1))))
def okNum (p:Pool)(x:Line):Bool:=decide (x.Id<p.NextId)&&decide (x.Guid<p.NextGuid)
structure OKPool (p:Pool):Prop where
  store:OKSt p.Store
  gen:p.Gen≤16777215
  root:okP p.Root
  zero:isNone p.Root↔p.Gen=0
  metas:AllOk p.MetaL (okM p)
  lines:linesOk p.Lines
  keys:keysOk p.Keys 24
  loaded:keysOk p.Loaded 16
  log1:0≤p.Logged
  log2:p.Logged≤8
  next1:1≤p.NextId
  next2:p.NextId≤256
  changes:AllOk p.Changes (okCh p)
  nums:AllOk p.Lines (λ_ x=>okNum p x)
theorem ZPl{p:Pool}(hs:OKSt p.Store)(r:p.MetaL.length≤1000000000000)(i:Nat)(h:i<p.MetaL.length):K7 p i=some (if okM p i p.MetaL[i]then .inl (i+1)else .inr (.inl ())):=by
 have o:p.Store.Space.length=256:=hs.2.1.1;unfold K7 okM;rw[Vb _ _ h,TQ,ZM _ h];generalize s:p.MetaL[i]=a;by_cases c:a<12
 · have:¬12≤a:=(by omega);simp[c,this]
 · have d:12≤a:=(by omega);by_cases m:256≤a
   · have e:255<a:=(by omega);have:¬a≤255:=(by omega);simp[c,m,e,this]
   · have e:¬255<a:=(by omega);have f:a≤255:=(by omega);have g:a.toNat<p.Store.Space.length:=(by omega);have b:∀{β:Type} (k:UInt8→Option β),idx p.Store.Space a k=k p.Store.Space[a.toNat]:=λk=>by
      have:=ZM (l:=p.Store.Space) k g;rwa[show((a.toNat:Nat):Int)=a by omega]at this
     simp only[TJ g,RO];by_cases j:i=0
     · subst j;by_cases n:p.Store.Space[a.toNat]=1<;>simp[c,d,m,e,f,b,n]
     · have h3:i-1<p.MetaL.length:=(by omega);simp only[ZGK j,TQ,ZDJ j (by omega),ZM _ h3,TJ h3,RO,b];by_cases q:a≤p.MetaL[i-1]
       · have:¬p.MetaL[i-1]<a:=(by omega);simp[c,m,e,j,q,this]
       · have:p.MetaL[i-1]<a:=(by omega);by_cases n:p.Store.Space[a.toNat]=1<;>simp[c,d,m,e,f,j,q,this,n]
theorem ZQ4 (p:Pool)(u:p.Lines.length≤1000):YC p.Lines p=some (!dec (AllOk p.Lines (λ_ x=>okNum p x)),p):=by
  have b:∀x:Line,JX x p=some (!okNum p x,p):=λx=>by
    unfold JX okNum;by_cases b:p.NextId≤x.Id
    · have:¬x.Id<p.NextId:=(by omega);simp[b,this]
    · have:x.Id<p.NextId:=(by omega);by_cases d:p.NextGuid≤x.Guid
      · have e:¬x.Guid<p.NextGuid:=R6.2 d;simp[b,d,e,this]
      · have e:x.Guid<p.NextGuid:=UInt32.not_le.1 d;simp[b,d,e,this]
  have step:∀i (h:i<p.Lines.length),Zb p.Lines (p,(i:Int))=some (if okNum p p.Lines[i]then .inl (p,((i+1:Nat):Int))else .inr (.inl (p,(i:Int)))):=λi h=>by
    unfold Zb;dsimp only;rw[Vb _ _ h,TQ,ZM _ h,b,TA,Zo (by omega) (by omega)];cases okNum p p.Lines[i]<;>rfl
  have key:∀(k i f:Nat),i+k=p.Lines.length→k<f→(∀j (h:j<p.Lines.length),j<i→okNum p p.Lines[j]=true)→
      ∃t,run (Zb p.Lines) f (p,(i:Int))=some t∧((t=.inr p∧AllOk p.Lines (λ_ x=>okNum p x))∨(∃j:Nat,t=.inl (p,(j:Int))∧¬AllOk p.Lines (λ_ x=>okNum p x))):=by
    intro k;induction k with
    | zero=>
      intro i f hi o a;obtain⟨f,rfl⟩:∃g,f=g+1:=⟨f-1,by omega⟩;obtain rfl:i=p.Lines.length:=(by omega);refine⟨.inr p,?_,.inl ⟨rfl,λj h=>a j h h⟩⟩;unfold run;rw[show Zb p.Lines (p,(p.Lines.length:Int))=some (.inr (.inr p))from by
        unfold Zb;dsimp only;rw[UJ,TI]];rfl
    | succ k r=>
      intro i f hi o a;obtain⟨f,rfl⟩:∃g,f=g+1:=⟨f-1,by omega⟩;have h:i<p.Lines.length:=(by omega);by_cases c:okNum p p.Lines[i]=true
      · obtain⟨t,e1,e2⟩:=r (i+1) f (by omega) (by omega) (λj l s=>by
          rcases T2 j i with m|m
          · exact a j l m
          · obtain rfl:j=i:=(by omega);exact c)
        refine⟨t,?_,e2⟩;unfold run;rw[step i h,TH c];exact e1
      · refine⟨.inl (p,(i:Int)),?_,.inr ⟨i,rfl,λq=>c (q i h)⟩⟩;unfold run;rw[step i h,TF c];rfl
  obtain⟨t,e1,e2⟩:=key p.Lines.length 0 FUEL (by omega) (by have:=ZEk (n:=p.Lines.length) (by omega);omega) (λj h l=>by omega)
  unfold YC Y8;rw[show loop (Zb p.Lines) (p,0)=some t from e1];rcases e2 with⟨rfl,q⟩|⟨j,rfl,q⟩
  · rw[ZJd q];rfl
  · rw[Ql q];have:decide (0≤(j:Int))=true:=TD (by omega);simp[this]
theorem ZTf (a b:Prop) [Decidable a] [Decidable b]:(decide a==decide b)=decide (a↔b):=by
 by_cases h1:a<;>by_cases h2:b<;>simp[h1,h2]
theorem ZRx {p:Pool}(b:SizedP p):Vm p=some (if dec (OKPool p)then 0 else 8):=by
  unfold Vm;rw[QZ b.disk,TA,ZHH,ZAw,ZTf];by_cases d:OKSt p.Store
  · rw [TH d,WO,TI];by_cases j:(16777215:UInt32)<p.Gen
    · rw[TD j,TQ,Ql (λq=>ZGF.2 q.gen j)];rfl
    · rw [TB j,TI,TA];by_cases k:okP p.Root
      · rw [TH k,WO,TI];by_cases l:isNone p.Root↔p.Gen=0
        · rw [TD l,show(!true)=false from rfl,TA,TI];obtain⟨t,h1,h2⟩:=Uy p.MetaL (okM p) (body:=K7 p) (λi h=>ZPl d b.metas i h) (by unfold K7;rw[UJ,TI]) b.metas;rw[h1,TA];rcases h2 with⟨rfl,h⟩|⟨rfl,h⟩
          · simp only[R3];rw[ZNY,TA];cases o:dec (linesOk p.Lines)with
            |false=>rw[Ql (λq=>ZGM o q.lines)];rfl
            | true=>
              have c:=Dg o;rw[show(!true)=false from rfl,TI,show(24:Int)=((24:Nat):Int)from rfl,ZJH _ (.inl rfl),TA];cases r:dec (keysOk p.Keys 24)with
              |false=>rw[Ql (λq=>ZGM r q.keys)];rfl
              | true=>
                rw[show(!true)=false from rfl,TI,show(16:Int)=((16:Nat):Int)from rfl,ZJH _ (.inr rfl),TA];cases s:dec (keysOk p.Loaded 16)with
                |false=>rw[Ql (λq=>ZGM s q.loaded)];rfl
                | true=>
                  rw[show(!true)=false from rfl,TI];by_cases e:p.Logged<0
                  · rw[TD e,Ql (λq=>by have:=q.log1;omega)];rfl
                  by_cases m:8<p.Logged
                  · rw[TB e,TD m,Ql (λq=>by have:=q.log2;omega)];rfl
                  by_cases a:p.NextId<1
                  · rw[TB e,TB m,TD a,Ql (λq=>by have:=q.next1;omega)];rfl
                  by_cases f:256<p.NextId
                  · rw[TB e,TB m,TB a,TD f,Ql (λq=>by have:=q.next2;omega)];rfl
                  rw[TB e,TB m,TB a,TB f,TI,TI,TI,TA,TI];have u:=c.few;obtain⟨t,h3,v⟩:=Uy p.Changes (okCh p) (body:=K6 p) (λi h=>ZLc (ZJD c.one) (by omega) b.changes i h) (by unfold K6;rw[UJ,TI]) b.changes;rw[h3,TA];rcases v with⟨rfl,n⟩|⟨rfl,n⟩
                  · simp only[R3];rw[ZQ4 p (by omega),TA];cases g:dec (AllOk p.Lines (λ_ x=>okNum p x))with
                    |false=>rw[Ql (λq=>ZGM g q.nums)];rfl
                    |true=>rw[ZJd ⟨d,ZGF.1 j,k,l,h,c,Dg r,Dg s,by omega,by omega,by omega,by omega,n,Dg g⟩];rfl
                  · rw[Ql (λq=>n q.changes)];rfl
          · rw[Ql (λq=>h q.metas)];rfl
        · rw[TB l,Ql (λq=>l q.zero)];rfl
      · rw[TF k,Ql (λq=>k q.root)];rfl
  · rw[TF d,Ql (λq=>d q.store)];rfl
def zeroL:Line:=⟨0,0,0,0,0,0,0,noP,[]⟩
theorem ZRR (l:List Line)(id:Int)(q:l.length≤1000):∃j,YB l id=some (match findL l id with|some i=>(i:Int)|none=> -1,j):=by
  have step:∀i (h:i<l.length),ZV l (id,(i:Int))=some (if l[i].Id=id then .inr (.inl (id,(i:Int)))else .inl (id,((i+1:Nat):Int))):=λi h=>by
    unfold ZV ZAA;dsimp only;rw[Vb _ _ h,TQ,ZM _ h,TA,Zo (by omega) (by omega)];by_cases c:l[i].Id=id<;>simp[c]
  have key:∀(k i f:Nat),i+k=l.length→k<f→(∀j (h:j<l.length),j<i→l[j].Id≠id)→
      run (ZV l) f (id,(i:Int))=some (match findL l id with|some i=>.inl (id,(i:Int))|none=>.inr id):=by
    intro k;induction k with
    | zero=>
      intro i f hi m a;obtain⟨f,rfl⟩:∃g,f=g+1:=⟨f-1,by omega⟩;obtain rfl:i=l.length:=(by omega);have:findL l id=none:=by
        unfold findL;rw[List.findIdx?_eq_none_iff];intro x o;obtain⟨j,d,rfl⟩:=S8.1 o;simpa using a j d (by omega)
      rw[this];unfold run;rw[show ZV l (id,(l.length:Int))=some (.inr (.inr id))from by
        unfold ZV;dsimp only;rw[UJ,TI]];rfl
    | succ k p=>
      intro i f hi m a;obtain⟨f,rfl⟩:∃g,f=g+1:=⟨f-1,by omega⟩;have b:i<l.length:=(by omega);by_cases c:l[i].Id=id
      · have:findL l id=some i:=by
          unfold findL;rw[List.findIdx?_eq_some_iff_getElem];exact⟨b,by simpa using c,λj d=>by simpa using a j (by omega) d⟩
        rw[this];unfold run;rw[step i b,TH c];rfl
      · unfold run;rw[step i b,TF c];refine p (i+1) f (by omega) (by omega) (λj h d=> ?_);rcases T2 j i with e|e
        · exact a j h e
        · obtain rfl:j=i:=(by omega);exact c
  unfold YB;rw[show loop (ZV l) (id,0)=_ from key l.length 0 FUEL (by omega) (by have:=ZEk (n:=l.length) (by omega);omega) (λj h d=>by omega),TA];cases findL l id with
  |none=>exact⟨id,rfl⟩
  |some i=>exact⟨id,rfl⟩
theorem ZO1{p:Pool}(a:SizedP p)(id:Int):XE p id=some (if dec (OKPool p)then(match findL p.Lines id with|some i=>(p.Lines.getD i zeroL,(0:Int))|none=>(zeroL,(6:Int)))else(zeroL,(8:Int))):=by
  unfold XE;rw[ZRx a,TA];cases c:dec (OKPool p)with
  |false=>rfl
  | true=>
    have:=(Dg c).lines.few;obtain⟨j,b⟩:=ZRR p.Lines id (by omega);rw[TH rfl,WO,TI,b,TA];cases h:findL p.Lines id with
    |none=>rfl
    | some i=>
      obtain⟨h1,_⟩:=Vy h;simp only;rw[TB (show¬(i:Int)<0 by omega),TI,ZM _ h1,ST,TJ h1];rfl
structure FitD (d:Disk):Prop where
  blocks:d.Blocks.length≤140737488351232
  waits:d.Waits.length≤140737488351232
  block:∀b∈d.Blocks,b.length≤140737488351232
  wait:∀w∈d.Waits,w.Data.length≤140737488351232
structure FitP (p:Pool):Prop where
  sized:Sized p.Store.Disk
  disk:FitD p.Store.Disk
  metas:p.MetaL.length≤140737488351232
  lines:p.Lines.length≤140737488351232
  keys:p.Keys.length≤140737488351232
  loaded:p.Loaded.length≤140737488351232
  changes:p.Changes.length≤140737488351232
  dead:∀L∈p.Lines,L.Dead.length≤140737488351232
  key:∀k∈p.Keys,k.length≤140737488351232
  load:∀k∈p.Loaded,k.length≤140737488351232
  data:∀c∈p.Changes,c.Data.length≤140737488351232
structure FewP (p:Pool):Prop where
  metas:p.MetaL.length≤1000
  lines:p.Lines.length≤1000
  keys:p.Keys.length≤1000
  loaded:p.Loaded.length≤1000
  changes:p.Changes.length≤1000
theorem ZH3{α:Type}(l:List α)(f:α→Nat)(g:∀x∈l,f x≤140737488351232)(j:l.length≤140737488351232){body:Int×Int→Option ((Int×Int) ⊕ Int)}
 (hb:∀s,body s=Option.bind (α:=Bool) (cond (decide (s.2<(l.length:Int))) (some (decide (s.1<2000000))) (some false)) λx=>cond x (idx l s.2 λy=>some (.inl (w64 (s.1+(f y:Int)),w64 (s.2+1)))) (some (.inr s.1)))
 (c:Int)(h0:0≤c)(h1:c≤140737490351232):∃t,loop body (c,0)=some t∧0≤t∧t≤140737490351232:=by
 obtain⟨t,h1,h2⟩:=Uc (body:=body) (λs=>(0≤s.1∧s.1≤140737490351232)∧0≤s.2∧s.2≤(l.length:Int)) (λs=>l.length-s.2.toNat) (λt=>0≤t∧t≤140737490351232) (by
  rintro⟨a,i⟩ ⟨⟨b,h⟩,hi,d⟩;dsimp only at b h hi d;rw[hb];dsimp only;by_cases k:i<(l.length:Int)
  · rw[TD k,TQ,TA];by_cases e:a<2000000
    · left;rw[TD e,TQ];obtain⟨n,rfl⟩:=T3 hi;have hn:n<l.length:=(by omega);have m:=g l[n] (SU hn);rw[ZM _ hn,Zo (by omega) (by omega),Zo (by omega) (by omega)];exact⟨_,rfl,⟨⟨by dsimp only;omega,by dsimp only;omega⟩,by dsimp only;omega,by dsimp only;omega⟩,by dsimp only;omega⟩
    · right;rw[TB e];exact⟨a,rfl,b,h⟩
  · right;rw[TB k];exact⟨a,rfl,b,h⟩) (s:=(c,0)) ⟨⟨h0,h1⟩,by dsimp only;omega,by dsimp only;omega⟩ (RJ (Nat.sub_le _ _) (Qb (by omega)))
 exact⟨t,h1,h2⟩
theorem ZPx{d:Disk}(h:FitD d):∃g,Jd d=some g:=by
  unfold Jd;have hb:∀x:Bool,∃g,(cond x (some true) (Option.bind (loop (Uq d) (0,0))<|λa=>Option.bind (loop (Up d) (a,0))<|λc=>some (decide (2000000≤c))))=some g:=λx=>by
    cases x with
    |true=>exact⟨_,rfl⟩
    | false=>
      obtain⟨t,e,h1,h2⟩:=ZH3 d.Blocks (λb=>b.length) h.block h.blocks (body:=Uq d) (λs=>rfl) 0 (by omega) (by omega);obtain⟨u,e2,-,-⟩:=ZH3 d.Waits (λw=>w.Data.length) h.wait h.waits (body:=Up d) (λs=>rfl) t h1 h2;rw[TI,e,TA,e2,TA];exact⟨_,rfl⟩
  have f:∃x:Bool,(cond (decide (500<(d.Blocks.length:Int))) (some true) (cond (decide (500<(d.Waits.length:Int))) (cond (decide ((d.Waits.length:Int)<4096)) (some true) (some (decide (4106<(d.Waits.length:Int))))) (some (decide (4106<(d.Waits.length:Int))))))=some x:=by
    cases decide (500<(d.Blocks.length:Int))<;>cases decide (500<(d.Waits.length:Int))<;>cases decide ((d.Waits.length:Int)<4096)<;>exact⟨_,rfl⟩
  obtain⟨x,i⟩:=f;rw[i,TA];exact hb x
theorem ZMS{s:Store}(h:FitD s.Disk):∃g,Jc s=some g:=by
 unfold Jc;obtain⟨g,e⟩:=ZPx h;rw[e,TA];cases g<;>exact⟨_,rfl⟩
theorem ZSf{α:Type}(l:List α)(f:α→Int){body:Int×Nat→Option ((Int×Nat) ⊕ Int)}(c:∀x,0≤f x∧f x≤1000000)
    (step:∀(a:Int) i (h:i<l.length),0≤a→a≤10000000000000→body (a,i)=some (.inl (a+f l[i],i+1)))(s:∀a,body (a,l.length)=some (.inr a)):
    ∀(k i n:Nat) (a:Int),i+k=l.length→k<n→0≤a→a+k*1000000≤10000000000000→∃t,run body n (a,i)=some t∧a≤t∧t≤a+k*1000000∧∀j (h:j<l.length),i≤j→f l[j]+a≤t:=by
  intro k;induction k with
  | zero=>
    intro i n a hi hn h0 h1;obtain⟨n,rfl⟩:∃q,n=q+1:=⟨n-1,by omega⟩;obtain rfl:i=l.length:=(by omega);exact⟨a,ZJ7 (s a),SE _,by omega,λj h d=>by omega⟩
  | succ k g=>
    intro i n a hi hn h0 h1;obtain⟨n,rfl⟩:∃q,n=q+1:=⟨n-1,by omega⟩;have b:i<l.length:=(by omega);have o:=c l[i];obtain⟨t,e,h2,h3,m⟩:=g (i+1) n (a+f l[i]) (by omega) (by omega) (by omega) (by omega);rw[ZNT (step a i b h0 (by omega))];refine⟨t,e,by omega,by omega,λj h d=> ?_⟩;rcases T2 i j with q|q
    · have:=m j h (by omega);omega
    · obtain rfl:i=j:=(by omega);omega
theorem ZC5{α:Type}(l:List α)(f:α→Int){body:Int×Nat→Option ((Int×Nat) ⊕ Int)}(b:∀x,0≤f x∧f x≤1000000)
 (step:∀(a:Int) i (h:i<l.length),0≤a→a≤10000000000000→body (a,i)=some (.inl (a+f l[i],i+1)))(s:∀a,body (a,l.length)=some (.inr a))(k:l.length≤1000)(a:Int)(h0:0≤a)(h1:a≤5000000000):
 ∃t,loop body (a,0)=some t∧a≤t∧t≤a+1000000000∧∀x∈l,f x+a≤t:=by
 obtain⟨t,e,h2,h3,c⟩:=ZSf l f b step s l.length 0 FUEL a (by omega) (Qb (by omega)) h0 (by omega);exact⟨t,e,h2,by omega,λx d=>by obtain⟨j,g,rfl⟩:=S8.1 d;exact c j g (by omega)⟩
theorem ZAe{a m:Int}(h:0≤a)(b:0<m):0≤a.tdiv m∧a.tdiv m≤a:=by
 rw[Int.tdiv_eq_ediv_of_nonneg h];exact⟨Int.ediv_nonneg h (by omega),Int.ediv_le_self _ h⟩
theorem ZTD{p:Pool}(h:FitP p):∃g,Jb p=some g∧(g=false→FewP p):=by
  unfold Jb;obtain⟨g,d⟩:=ZMS h.disk;rw[d,TA];cases g with
  |true=>exact⟨true,rfl,λe=>by cases e⟩
  | false=>
    rw[TI,TA];have h1:=h.metas;have h2:=h.lines;have h3:=h.keys;have j:=h.loaded;have k:=h.changes;rw[Zo (n:=(p.MetaL.length:Int)+(p.Lines.length:Int)) (by omega) (by omega),Zo (n:=(p.MetaL.length:Int)+(p.Lines.length:Int)+(p.Keys.length:Int)) (by omega) (by omega),
      Zo (n:=(p.MetaL.length:Int)+(p.Lines.length:Int)+(p.Keys.length:Int)+(p.Loaded.length:Int)) (by omega) (by omega),Zo (n:=(p.MetaL.length:Int)+(p.Lines.length:Int)+(p.Keys.length:Int)+(p.Loaded.length:Int)+(p.Changes.length:Int)) (by omega) (by omega)]
    generalize hs:(p.MetaL.length:Int)+(p.Lines.length:Int)+(p.Keys.length:Int)+(p.Loaded.length:Int)+(p.Changes.length:Int)=a;by_cases c:1000<a
    · rw[TD c];exact⟨true,rfl,λe=>by cases e⟩
    rw[TB c,TI];obtain⟨t1,e1,l,o,r⟩:=ZC5 p.Lines (λL=>min (L.Dead.length:Int) 100000) (body:=VF p) (λx=>by omega) (λa i hi q b=>by
      unfold VF;dsimp only;rw[Vb _ _ hi,TQ,ZM _ hi,Zo (by omega) (by omega)]) (λa=>by unfold VF;dsimp only;rw[UJ,TI]) (by omega) a (by omega) (by omega)
    rw[e1,TA];obtain⟨t,e2,s,u,v⟩:=ZC5 p.Changes (λL=>(min (L.Data.length:Int) 1000000).tdiv 256) (body:=VE p) (λx=>by
      have:=ZAe (a:=min (x.Data.length:Int) 1000000) (m:=256) (by omega) (by omega);omega) (λa i hi q b=>by
      have:=ZAe (a:=min ((p.Changes[i]).Data.length:Int) 1000000) (m:=256) (by omega) (by omega);unfold VE;dsimp only;rw[Vb _ _ hi,TQ,ZM _ hi,Zo (n:=(min ((p.Changes[i]).Data.length:Int) 1000000).tdiv 256) (by omega) (by omega),Zo (by omega) (by omega)]) (λa=>by unfold VE;dsimp only;rw[UJ,TI]) (by omega) t1 (by omega) (by omega)
    rw[e2,TA];obtain⟨f,e3,w,y,z⟩:=ZC5 p.Keys (λL=>(min (L.length:Int) 1000000).tdiv 24) (body:=VD p) (λx=>by
      have:=ZAe (a:=min (x.length:Int) 1000000) (m:=24) (by omega) (by omega);omega) (λa i hi q b=>by
      have:=ZAe (a:=min ((p.Keys[i]).length:Int) 1000000) (m:=24) (by omega) (by omega);unfold VD;dsimp only;rw[Vb _ _ hi,TQ,ZM _ hi,Zo (n:=(min ((p.Keys[i]).length:Int) 1000000).tdiv 24) (by omega) (by omega),Zo (by omega) (by omega)]) (λa=>by unfold VD;dsimp only;rw[UJ,TI]) (by omega) t (by omega) (by omega)
    rw[e3,TA];obtain⟨A,e4,B,C,D⟩:=ZC5 p.Loaded (λL=>(min (L.length:Int) 1000000).tdiv 16) (body:=VC p) (λx=>by
      have:=ZAe (a:=min (x.length:Int) 1000000) (m:=16) (by omega) (by omega);omega) (λa i hi q b=>by
      have:=ZAe (a:=min ((p.Loaded[i]).length:Int) 1000000) (m:=16) (by omega) (by omega);unfold VC;dsimp only;rw[Vb _ _ hi,TQ,ZM _ hi,Zo (n:=(min ((p.Loaded[i]).length:Int) 1000000).tdiv 16) (by omega) (by omega),Zo (by omega) (by omega)]) (λa=>by unfold VC;dsimp only;rw[UJ,TI]) (by omega) f (by omega) (by omega)
    rw[e4,TA];exact⟨_,rfl,λE=>⟨by omega,by omega,by omega,by omega,by omega⟩⟩
theorem ZC6{a τ:Type}{body:a→Option (a ⊕ τ)}(st:Nat→a)(r:τ)(n:Nat)(step:∀i,i<n→body (st i)=some (.inl (st (i+1))))(s:body (st n)=some (.inr r))(hn:n≤1000000):loop body (st 0)=some r:=by
  have key:∀(k i f:Nat),i+k=n→k<f→run body f (st i)=some r:=by
    intro k;induction k with
    | zero=>
      intro i f hi h;obtain⟨f,rfl⟩:∃q,f=q+1:=⟨f-1,by omega⟩;obtain rfl:i=n:=(by omega);exact ZJ7 s
    | succ k b=>
      intro i f hi h;obtain⟨f,rfl⟩:∃q,f=q+1:=⟨f-1,by omega⟩;rw[ZNT (step i (by omega))];exact b (i+1) f (by omega) (by omega)
  exact key n 0 FUEL (by omega) (Qb (by omega))
theorem JK{α β:Type}{l:List α}{k:List α→Option β}(h:l.length≤1000000):app [] l k=k l:=by rw[UD (by simp only[SY];have:=ZCM h;omega)];rfl
theorem ZAh{α β:Type}{l:List α}{i:Nat}{y:α}{k:List α→Option β}(h:i<l.length)(e:y=l[i]):setI l (i:Int) y k=k l:=by
 rw[ZGJ (by omega) (by simpa using h)];subst e;simp
theorem Qn{α β:Type}{l:List α}{i:Nat}{k:Option β}(h:i<l.length):chk (0≤(i:Int)∧(i:Int).toNat<l.length) k=k:=QC ⟨by omega,by simpa using h⟩
theorem GV{i:Nat}(h:i≤1000000):w64 ((i:Int)+1)=((i+1:Nat):Int):=by rw[Zo (by omega) (by omega)];omega
theorem ZNW:∀(l:List Int) (b:Int),(∀(i:Nat) (h:i<l.length),b+(i:Int)≤l[i])→(∀x∈l,x≤255)→0≤b→l.length≤256:=λl b h1 h2 hb=>by
 rcases T2 256 l.length with c|c
 · have:=h1 256 c;have:=h2 _ (SU c);omega
 · exact c
theorem ZRC{p:Pool}(h:OKPool p):p.MetaL.length≤256:=by
  have d:=h.metas;have get:∀i (hi:i<p.MetaL.length),12≤p.MetaL[i]∧p.MetaL[i]≤255∧(i=0∨∃h0:i-1<p.MetaL.length,p.MetaL[i-1]<p.MetaL[i]):=λi hi=>by
    have:=d i hi;unfold okM at this;rw[TE,TE,TE,RE]at this;obtain⟨a,b,c,-⟩:=this;refine⟨Ta a,Ta b,?_⟩;rcases c with c|c
    · exact .inl (Ta c)
    · have h0:i-1<p.MetaL.length:=(by omega);rw[TJ h0,RO]at c;exact .inr ⟨h0,Ta c⟩
  refine ZNW p.MetaL 12 (λi=> ?_) (λx e=> ?_) (by omega)
  · induction i with
    |zero=>intro hi;have:=(get 0 hi).1;omega
    | succ i f=>
      intro hi;have h1:=f (by omega);rcases(get (i+1) hi).2.2 with c|⟨h0,c⟩
      · omega
      · have c:p.MetaL[i]<p.MetaL[i+1]:=c;omega
  · obtain⟨j,g,rfl⟩:=S8.1 e;exact(get j g).2.1
theorem ZOv{l:List (List UInt8)}{many:Nat}(h:keysOk l many):∀k∈l,k.length≤many:=λk a=>by
 obtain⟨j,b,rfl⟩:=S8.1 a;have:=h.all j b;unfold okK at this;rw[RE,TE]at this;rcases this with c|c
 · have:=Ta c;omega
 · have:=Ta c.1;omega
theorem ZMo{p:Pool}(h:OKPool p):∀L∈p.Lines,L.Dead.length≤240:=λL a=>by
 obtain⟨j,b,rfl⟩:=S8.1 a;have:=h.lines.two j b;unfold ok2 at this;simp only[TE]at this;exact(Dg this.2.2.2.2.1).1
theorem ZRn{p:Pool}(h:OKPool p):∀c∈p.Changes,c.Data.length≤256:=λc a=>by
 obtain⟨j,b,rfl⟩:=S8.1 a;have:=h.changes j b;unfold okCh at this;simp only[TE]at this;have:=this.2.1;unfold okC at this;simp only[TE]at this;have:=this.2.2.2.2;split at this
 · unfold okH at this;simp only[TE]at this;have:=Ta this.1;omega
 · unfold okB at this;simp only[TE,RE]at this;rcases this.2.2.2.1 with c|c
   · have:=Ta c;omega
   · have:=Ta c;omega
theorem ZIT{s:Store}(h:OKSt s):Ul s=some s:=by
 unfold Ul;rw[ZIz h.1.mid,TA,ZIH (by rw[h.2.1.1];omega)];rfl
theorem ZJ2{p:Pool}(h:OKPool p)(a:p.Changes.length≤1000):Q7 p=some p:=by
 have b:=ZRC h;have c:=h.lines.few;have d:=h.keys.len;have e:=h.loaded.len;unfold Q7 Qq Y6 Zx VA;rw[ZIT h.store,TA,JK (by omega),TA,JK (by omega),TA,JK (by omega),TA];rw[show loop (JW p.Lines) (p.Store.Disk,p.Store.Epoch,p.Store.Count,p.Gen,p.Root,p.Lines,p.Keys,p.Loaded,p.Logged,p.NextId,p.NextGuid,0)=_ from
  ZC6 (λi=>(p.Store.Disk,p.Store.Epoch,p.Store.Count,p.Gen,p.Root,p.Lines,p.Keys,p.Loaded,p.Logged,p.NextId,p.NextGuid,(i:Int))) (p.Store.Disk,p.Store.Epoch,p.Store.Count,p.Gen,p.Root,p.Lines,p.Keys,p.Loaded,p.Logged,p.NextId,p.NextGuid) p.Lines.length (λi hi=>by
   unfold JW YE;dsimp only;rw[Vb _ _ hi,TQ,Qn hi,ZM _ hi,JK (by have:=ZMo h _ (SU hi);omega),TA,Qn hi,ZM _ hi,ZAh hi rfl,GV (by omega)]) (by
   unfold JW;dsimp only;rw[UJ,TI]) (by omega),TA]
 rw[show loop (JV p.Changes) (p.Store.Disk,p.Store.Epoch,p.Store.Count,p.Gen,p.Root,p.Keys,p.Loaded,p.Changes,p.Logged,p.NextId,p.NextGuid,0)=_ from
  ZC6 (λi=>(p.Store.Disk,p.Store.Epoch,p.Store.Count,p.Gen,p.Root,p.Keys,p.Loaded,p.Changes,p.Logged,p.NextId,p.NextGuid,(i:Int))) (p.Store.Disk,p.Store.Epoch,p.Store.Count,p.Gen,p.Root,p.Keys,p.Loaded,p.Changes,p.Logged,p.NextId,p.NextGuid) p.Changes.length (λi hi=>by
   unfold JV;dsimp only;rw[Vb _ _ hi,TQ,Qn hi,ZM _ hi,ZIH (by have:=ZRn h _ (SU hi);omega),TA,Qn hi,ZM _ hi,ZAh hi rfl,GV (by omega)]) (by
   unfold JV;dsimp only;rw[UJ,TI]) (by omega),TA]
 dsimp only;rw[JK (by omega),TA,JK (by omega),TA];rw[show loop (JU p.Keys) (p.Store.Disk,p.Store.Epoch,p.Store.Count,p.Gen,p.Root,p.Keys,p.Logged,p.NextId,p.NextGuid,0)=_ from
  ZC6 (λi=>(p.Store.Disk,p.Store.Epoch,p.Store.Count,p.Gen,p.Root,p.Keys,p.Logged,p.NextId,p.NextGuid,(i:Int))) (p.Store.Disk,p.Store.Epoch,p.Store.Count,p.Gen,p.Root,p.Keys,p.Logged,p.NextId,p.NextGuid) p.Keys.length (λi hi=>by
   unfold JU;dsimp only;rw[Vb _ _ hi,TQ,Qn hi,ZM _ hi,ZIH (by have:=ZOv h.keys _ (SU hi);omega),TA,Qn hi,ZAh hi rfl,GV (by omega)]) (by
   unfold JU;dsimp only;rw[UJ,TI]) (by omega),TA]
 rw[show loop (JT p.Loaded) (p.Store.Disk,p.Store.Epoch,p.Store.Count,p.Gen,p.Root,p.Loaded,p.Logged,p.NextId,p.NextGuid,0)=_ from
  ZC6 (λi=>(p.Store.Disk,p.Store.Epoch,p.Store.Count,p.Gen,p.Root,p.Loaded,p.Logged,p.NextId,p.NextGuid,(i:Int))) (p.Store.Disk,p.Store.Epoch,p.Store.Count,p.Gen,p.Root,p.Loaded,p.Logged,p.NextId,p.NextGuid) p.Loaded.length (λi hi=>by
   unfold JT;dsimp only;rw[Vb _ _ hi,TQ,Qn hi,ZM _ hi,ZIH (by have:=ZOv h.loaded _ (SU hi);omega),TA,Qn hi,ZAh hi rfl,GV (by omega)]) (by
   unfold JT;dsimp only;rw[UJ,TI]) (by omega),TA]
theorem ZR1{α:Type}(l:List α)(f:α→Option Int)(b:∀y∈l,∃r,f y=some r){body:Int×Int→Option ((Int×Int) ⊕ Int)}
 (hb:∀(i j:Nat),i<j→j≤l.length→body ((i:Int),(j:Int))=idx l (((i+j)/2:Nat):Int) λy=>Option.bind (f y) λx=>cond (decide (x<0)) (some (.inl ((((i+j)/2+1:Nat):Int),(j:Int)))) (some (.inl ((i:Int),(((i+j)/2:Nat):Int)))))
 (d:∀i:Nat,body ((i:Int),(i:Int))=some (.inr (i:Int)))(e:l.length≤1000000000000):∃p:Nat,p≤l.length∧loop body (0,(l.length:Int))=some (p:Int):=by
 obtain⟨t,h1,p,h2,rfl⟩:=Uc (body:=body) (λs=>∃i j:Nat,s=((i:Int),(j:Int))∧i≤j∧j≤l.length) (λs=>(s.2-s.1).toNat) (λt=>∃p:Nat,p≤l.length∧t=(p:Int)) (by
  rintro s ⟨i,j,rfl,g,h⟩;by_cases c:i<j
  · left;have a:(i+j)/2<l.length:=(by omega);obtain⟨r,m⟩:=b _ (SU a);rw[hb i j c h,ZM _ a,m,TA];by_cases k:r<0
    · rw[TD k,TQ];exact⟨_,rfl,⟨_,_,rfl,by omega,h⟩,by dsimp only;omega⟩
    · rw[TB k,TI];exact⟨_,rfl,⟨_,_,rfl,by omega,by omega⟩,by dsimp only;omega⟩
  · right;obtain rfl:i=j:=(by omega);exact⟨_,d i,i,h,rfl⟩) (s:=(0,(l.length:Int))) ⟨0,l.length,rfl,by omega,by omega⟩ (by dsimp only;have:=ZEk e;omega)
 exact⟨p,h2,h1⟩
theorem mid1{i j:Nat}(h:i≤j)(a:j≤1000000000000):w64 ((sr64 (u64i (w64 ((i:Int)+(j:Int)))) 1).toNat:Int)=(((i+j)/2:Nat):Int):=ZRA h a
theorem ZEL (l:List Change)(b:Int×Int×Int)(d:l.length≤1000000):∃(p:Nat) (is:Bool),ZD l b=some ((p:Int),is,l)∧p≤l.length∧(is=true→p<l.length):=by
 obtain⟨p,a,e⟩:=ZR1 l (λy=>X3 y b) (λy _=>⟨_,ZDK y b⟩) (body:=ZQ l b) (λi j h f=>by
  unfold ZQ;dsimp only;rw[TD (show(i:Int)<(j:Int) by omega),TQ,QC (by decide),mid1 (by omega) (by omega),Qn (by omega),Zo (n:=(((i+j)/2:Nat):Int)+1) (by omega) (by omega),show(((i+j)/2:Nat):Int)+1=(((i+j)/2+1:Nat):Int) by omega]) (λi=>by
  unfold ZQ;dsimp only;rw[TB (show¬(i:Int)<(i:Int) by omega),TI]) (by omega)
 unfold ZD;rw[e,TA];rcases T2 p l.length with c|c
 · rw[Vb _ _ c,TQ,Qn c,ZM _ c,ZDK,TA];exact⟨p,_,rfl,a,λ_=>c⟩
 · rw[TB (show¬(p:Int)<(l.length:Int) by omega),TI];exact⟨p,false,rfl,a,λh=>by cases h⟩
theorem ZPa (l:List Change)(b:Int×Int×Int)(d:l.length≤1000000):∃(p:Nat) (is:Bool),Za l b=some ((p:Int),is)∧p≤l.length∧(is=true→p<l.length):=by
 obtain⟨p,a,e⟩:=ZR1 l (λy=>X3 y b) (λy _=>⟨_,ZDK y b⟩) (body:=ZW l b) (λi j h f=>by
  unfold ZW;dsimp only;rw[TD (show(i:Int)<(j:Int) by omega),TQ,QC (by decide),mid1 (by omega) (by omega),Zo (n:=(((i+j)/2:Nat):Int)+1) (by omega) (by omega),show(((i+j)/2:Nat):Int)+1=(((i+j)/2+1:Nat):Int) by omega]) (λi=>by
  unfold ZW;dsimp only;rw[TB (show¬(i:Int)<(i:Int) by omega),TI]) (by omega)
 unfold Za;rw[e,TA];rcases T2 p l.length with c|c
 · rw[Vb _ _ c,TQ,ZM _ c,ZDK,TA];exact⟨p,_,rfl,a,λ_=>c⟩
 · rw[TB (show¬(p:Int)<(l.length:Int) by omega),TI];exact⟨p,false,rfl,a,λh=>by cases h⟩
theorem ZOI{p:Pool}(h:p.Changes.length≤1000000)(b:Int×Int×Int):∃r,Wo p b=some r:=by
 unfold Wo;obtain⟨q,is,e,h1,h2⟩:=ZPa p.Changes b h;rw[e,TA];cases is with
 |false=>exact⟨_,rfl⟩
 |true=>dsimp only;rw[Sd,TI,ZM _ (h2 rfl)];exact⟨_,rfl⟩
theorem ZIx{p:Pool}(h:p.Changes.length≤1000000)(b:Int×Int×Int):∃c is,Qm p b=some (c,is,p.MetaL,p.Lines,p.Keys,p.Loaded,p.Changes):=by
 unfold Qm;obtain⟨q,is,e,h1,h2⟩:=ZEL p.Changes b h;rw[e,TA];cases is with
 |false=>exact⟨_,_,rfl⟩
 |true=>dsimp only;rw[Sd,TI,Qn (h2 rfl),ZM _ (h2 rfl)];exact⟨_,_,rfl⟩
theorem ZNe{s:Store}{root:Ptr}{n:Int}(h:(ZAm s root n).2=0):okO (ZAm s root n).1:=by
 unfold ZAm at h⊢;split at h
 · rename_i c;rw[TH c];split at h
   · cases h
   · rename_i b;rw[TF b];split at h
     · rename_i a;rw[TH a];exact(ZSt h).1
     · rename_i a;exact absurd h a
 · cases h
theorem ZJC{p:Pool}(h:Sized p.Store.Disk)(L:Line)(n:Int):∃r,Kh p L n=some r∧(r.2=0→r.1.Data.length=15):=by
 unfold Kh;rw[ZIV h,TA];by_cases c:(ZAm p.Store L.Root n).2=6
 · rw[TD c,TQ];exact⟨(⟨0,0,0,List.replicate 15 noP⟩,0),ZHK (n:=15) (by decide),λ_=>SF⟩
 · rw[TB c,TI];exact⟨_,rfl,λe=>(ZNe e).2.2.2.1⟩
theorem ZMQ{p:Pool}(h:Sized p.Store.Disk)(d:p.Changes.length≤1000000)(L:Line)(n:Int):∃r,Uh p L n=some r:=by
  unfold Uh;obtain⟨⟨c,is⟩,e⟩:=ZOI d (L.Id,(n,15));rw[e,TA];have l:∀x:(Change×Int) ⊕ Change,∃r,Sum.elim (λa:Change×Int=>some (a.1,a.2)) (λb:Change=>cond (decide (b.Kind=(0:UInt8))) (some (Change.mk 0 0 0 (0:UInt8) 0 0 [] (Ptr.mk 0 (0:UInt32) (0:UInt32) (0:UInt32) (0:UInt32)),(6:Int))) (some (b,0))) x=some r:=λx=>by
    cases x with
    |inl x=>exact⟨_,rfl⟩
    |inr x=>rw[R3];cases decide (x.Kind=(0:UInt8))<;>exact⟨_,rfl⟩
  cases is with
  |true=>exact l (.inr c)
  | false=>
    obtain⟨r,f,-⟩:=ZJC h L n;dsimp only;rw[Rp,TQ,f,TA];cases decide (r.2=0)
    · exact l (.inl _)
    · exact l (.inr _)
theorem ZGv{s:Store}(h:Sized s.Disk)(q:Ptr):Sized (giveS s q).1.Disk:=by
 rcases ZN2 s q with⟨-,e⟩|⟨-,-,-,-,e,-⟩
 · rw[e];exact ZQj
 · rw[e];exact h
theorem ZJi{α:Type}{b:Bool}(h:b=true)(x y:α):cond b x y=x:=by subst h;rfl
theorem ZJj{α:Type}{b:Bool}(h:b=false)(x y:α):cond b x y=y:=by subst h;rfl
theorem ZOh (a:Int)(is:Bool)(c:Change)(d:Nat)(e:Pool)(h1:d≤e.Changes.length)(h2:is=true→d<e.Changes.length)(h3:e.Changes.length≤999999):
    ∃l,Zh a is c (d:Int) e=some (a,is,c,(d:Int),Pool.mk e.Store e.Gen e.Root e.MetaL e.Lines e.Keys e.Loaded l e.Logged e.NextId e.NextGuid)∧l.length≤e.Changes.length+1:=by
  unfold Zh;cases k:(!decide (a=0))with
  |true=>exact⟨e.Changes,rfl,by omega⟩
  | false=>
    rw[TI];cases is with
    | true=>
      have h:=h2 rfl;rw[TQ,Qn h,ZGJ (by omega) (by simpa using h)];exact⟨_,rfl,by rw[S4];omega⟩
    | false=>
      rw[TI];unfold insO;dsimp only;rw[TH ⟨by omega,by omega,ZCM (show e.Changes.length+1≤1000000 by omega)⟩,TA];exact⟨_,rfl,by rw[TM,Tg,TO,TR,Tl];show _≤e.Changes.length+1;omega⟩
theorem ZOg: @YK= @Zh:=rfl
structure PutOk (b q:Pool):Prop where
  disk:Sized q.Store.Disk
  len:q.Changes.length≤b.Changes.length+1
theorem ZOi{b:Pool}(hs:Sized b.Store.Disk)(r:b.Changes.length≤900000)(a:Change):∃e q,V1 a b=some (e,q)∧PutOk b q:=by
  unfold V1;obtain⟨p,is,o,h1,h2⟩:=ZEL b.Changes (a.Set,(a.Obj,a.Index)) (by omega);rw[o,TA,TA];dsimp only;rw[ZOg];have g:∀(x:Int) (s:Store),Sized s.Disk→∃e q,(Option.bind (Zh x is a (p:Int) (Pool.mk s b.Gen b.Root b.MetaL b.Lines b.Keys b.Loaded b.Changes b.Logged b.NextId b.NextGuid)) λd=>some (d.1,d.2.2.2.2))=some (e,q)∧PutOk b q:=λx s h=>by
    obtain⟨l,m,n⟩:=ZOh x is a p (Pool.mk s b.Gen b.Root b.MetaL b.Lines b.Keys b.Loaded b.Changes b.Logged b.NextId b.NextGuid) h1 h2 (by show b.Changes.length≤_;omega)
    rw[m,TA];exact⟨_,_,rfl,h,n⟩
  have mid:∀w:Bool,∃e q,(cond w (Option.bind (α:=(Store×UInt32×Ptr×Int×Int×UInt32×Int×Store)) (chk (0≤(p:Int)∧(p:Int).toNat<b.Changes.length)<|idx b.Changes (p:Int) λy=>Option.bind (Xy (Store.mk b.Store.Disk b.Store.Space b.Store.Epoch b.Store.Count) y.Laid) λi=>some (Store.mk b.Store.Disk b.Store.Space b.Store.Epoch b.Store.Count,b.Gen,b.Root,b.Logged,b.NextId,b.NextGuid,i.2,i.1))<|λc=>cond (!(decide (c.2.2.2.2.2.2.1=0))) (Option.bind (Zh c.2.2.2.2.2.2.1 is a (p:Int) (Pool.mk c.1 c.2.1 c.2.2.1 b.MetaL b.Lines b.Keys b.Loaded b.Changes c.2.2.2.1 c.2.2.2.2.1 c.2.2.2.2.2.1)) λj=>some (j.1,j.2.2.2.2)) (Option.bind (Zh 0 is a (p:Int) (Pool.mk c.2.2.2.2.2.2.2 c.2.1 c.2.2.1 b.MetaL b.Lines b.Keys b.Loaded b.Changes c.2.2.2.1 c.2.2.2.2.1 c.2.2.2.2.2.1)) λk=>some (k.1,k.2.2.2.2)))
      (Option.bind (Zh 0 is a (p:Int) (Pool.mk (Store.mk b.Store.Disk b.Store.Space b.Store.Epoch b.Store.Count) b.Gen b.Root b.MetaL b.Lines b.Keys b.Loaded b.Changes b.Logged b.NextId b.NextGuid)) λd=>some (d.1,d.2.2.2.2)))=some (e,q)∧PutOk b q∨(w=true∧is=false):=λw=>by
    cases w with
    |false=>obtain⟨e,q,h⟩:=g 0 b.Store hs;exact⟨e,q,.inl h⟩
    | true=>
      by_cases hi:is=true
      · have f:=h2 hi;rw[TQ,Qn f,ZM _ f,ZBI (s:=b.Store) hs,TA,TA];dsimp only;cases(!decide ((giveS b.Store (b.Changes[p]).Laid).2=0))with
        |true=>obtain⟨e,q,h⟩:=g _ b.Store hs;exact⟨e,q,.inl h⟩
        |false=>obtain⟨e,q,h⟩:=g 0 _ (ZGv hs _);exact⟨e,q,.inl h⟩
      · exact⟨0,b,.inr ⟨rfl,by simpa using hi⟩⟩
  by_cases hi:is=false
  · rw[ZJj hi,TA];obtain⟨e,q,h⟩:=mid false;exact⟨e,q,h.resolve_right (λh=>by cases h.1)⟩
  · have hi:is=true:=(by simpa using hi);have f:=h2 hi;rw[ZJi hi,Qn f,ZM _ f,TA];obtain⟨e,q,h⟩:=mid (!(decide ((b.Changes[p]).Laid.At=0)&&(decide ((b.Changes[p]).Laid.Birth=(0:UInt32))&&(decide ((b.Changes[p]).Laid.Iv=(0:UInt32))&&(decide ((b.Changes[p]).Laid.Tag=(0:UInt32))&&(decide ((b.Changes[p]).Laid.Sum=(0:UInt32))&&true))))));exact⟨e,q,h.resolve_right (λh=>by rw[hi]at h;cases h.2)⟩
def ZQ5:Pool:=Pool.mk (Store.mk (Disk.mk [] []) [] (0:UInt32) (0:UInt32)) (0:UInt32) (Ptr.mk 0 (0:UInt32) (0:UInt32) (0:UInt32) (0:UInt32)) [] [] [] [] [] 0 0 (0:UInt32)
theorem ZGl (x y:Int):VT [x,y] ()=some (if 0≤x∧x<y then .inl ()else .inr ()):=by
 unfold VT idx;by_cases h1:x<0
 · have:¬(0≤x∧x<y):=(by omega);simp[h1,this]
 · by_cases h2:y≤x
   · have:¬(0≤x∧x<y):=(by omega);simp[h1,h2,this]
   · have:0≤x∧x<y:=(by omega);simp[h1,h2,this]
theorem ZB3:∀(l:List (Int×Int)),forL VT (l.map λq=> [q.1,q.2]) ()=some (if∀q∈l,0≤q.1∧q.1<q.2 then .inl ()else .inr ())
  |[]=>by simp[forL]
  | q ::l=>by
    by_cases h:0≤q.1∧q.1<q.2
    · rw[Tn,Ug (s':=()) (by rw[ZGl,TH h]),ZB3 l];by_cases h2:∀q∈l,0≤q.1∧q.1<q.2
      · rw[TH h2,TH (λx a=>by rcases TW.1 a with rfl|a;exact h;exact h2 x a)]
      · rw[TF h2,TF (λk=>h2 λx a=>k x (Se _ a))]
    · rw[Tn,ZEl (e:=()) (by rw[ZGl,TF h]),TF (λk=>h (k q List.mem_cons_self))]
theorem ZSa (a b:Int):Xn [a,16,b,15]=some (decide ((0≤a∧a<16)∧0≤b∧b<15)):=by
 unfold Xn Qs Zp QO;rw[show decide ((2:Int)<1)=false from rfl,TI,TA];dsimp only;rw[TH ⟨by decide,by decide,by simp[LIM]⟩,TA];rw[show YJ (2:Int).toNat [a,16,b,15].length [a,16,b,15]= [(a,(16:Int)),(b,15)].map λq=> [q.1,q.2]from rfl,ZB3];by_cases k:(0≤a∧a<16)∧0≤b∧b<15
 · rw[TH (by simpa using k),TD k];rfl
 · rw[TF (by simpa using k),TB k];rfl
theorem ZSZ (a b c d:Int):Xn [a,16,b,8,c,256,d,3841]=some (decide ((0≤a∧a<16)∧(0≤b∧b<8)∧(0≤c∧c<256)∧0≤d∧d<3841)):=by
 unfold Xn Qs Zp QO;rw[show decide ((2:Int)<1)=false from rfl,TI,TA];dsimp only;rw[TH ⟨by decide,by decide,by simp[LIM]⟩,TA];rw[show YJ (2:Int).toNat [a,16,b,8,c,256,d,3841].length [a,16,b,8,c,256,d,3841]= [(a,(16:Int)),(b,8),(c,256),(d,3841)].map λq=> [q.1,q.2]from rfl,ZB3];by_cases k:(0≤a∧a<16)∧(0≤b∧b<8)∧(0≤c∧c<256)∧0≤d∧d<3841
 · rw[TH (by simpa using k),TD k];rfl
 · rw[TF (by simpa using k),TB k];rfl
theorem ZJF{b:Pool}(hs:Sized b.Store.Disk)(k:b.Changes.length≤900000)(a:Change):∃e q,Yc a b=some (e,q)∧PutOk b q:=by
  unfold Yc;obtain⟨p,is,j,h1,h2⟩:=ZEL b.Changes (a.Set,(a.Obj,a.Index)) (by omega);rw[j,TA,TA];dsimp only;rw[ZOg];have f:∀(x:Int) (s:Store),Sized s.Disk→∃e q,(Option.bind (Zh x is a (p:Int) (Pool.mk s b.Gen b.Root b.MetaL b.Lines b.Keys b.Loaded b.Changes b.Logged b.NextId b.NextGuid)) λd=>some (d.1,d.2.2.2.2))=some (e,q)∧PutOk b q:=λx s h=>by
    obtain⟨l,g,i⟩:=ZOh x is a p (Pool.mk s b.Gen b.Root b.MetaL b.Lines b.Keys b.Loaded b.Changes b.Logged b.NextId b.NextGuid) h1 h2 (by show b.Changes.length≤_;omega)
    rw[g,TA];exact⟨_,_,rfl,h,i⟩
  by_cases hi:is=false
  · rw[ZJj hi,TA,TI];exact f 0 b.Store hs
  · have hi:is=true:=(by simpa using hi);have c:=h2 hi;rw[ZJi hi,Qn c,ZM _ c,TA];cases(!(decide ((b.Changes[p]).Laid.At=0)&&(decide ((b.Changes[p]).Laid.Birth=(0:UInt32))&&(decide ((b.Changes[p]).Laid.Iv=(0:UInt32))&&(decide ((b.Changes[p]).Laid.Tag=(0:UInt32))&&(decide ((b.Changes[p]).Laid.Sum=(0:UInt32))&&true))))))with
    |false=>rw[TI];exact f 0 b.Store hs
    | true=>
      rw[TQ,ZM _ c,Qn c,ZBI (s:=b.Store) hs,TA,TA];dsimp only;cases(!decide ((giveS b.Store (b.Changes[p]).Laid).2=0))with
      |true=>exact f _ b.Store hs
      |false=>exact f 0 _ (ZGv hs _)
theorem ZNX{b:Pool}(hs:Sized b.Store.Disk)(k:b.Changes.length≤1000)(o:Object)(m:o.Data.length=15)(L:Line)(n:Int):∃e q,QL b o L n=some (e,q,o,L,n):=by
  unfold QL;obtain ⟨t,h1,h2⟩:=Uc (body:=Xi o L n) (λs=>∃i:Nat,s.2=(i:Int)∧i≤15∧Sized s.1.Store.Disk∧s.1.Changes.length≤1000+i) (λs=>15-s.2.toNat) (λt=>Sum.elim (λ_=>True) (λq=>Sized q.Store.Disk∧q.Changes.length≤1015) t) (by
    rintro⟨q,j⟩ ⟨i,e,hi,h,l⟩;dsimp only at e h l;subst e;unfold Xi;dsimp only;rcases T2 i 15 with c|c
    · rw [TD (show(i:Int)<(o.Data.length:Int) by omega),TQ,Qn (show i<o.Data.length by omega),ZM _ (show i<o.Data.length by omega)];obtain⟨r,is,d⟩:=ZIx (p:=q) (by omega) (L.Id,(n,(i:Int)));rw[d,TA,TA];dsimp only;have step:∃s',(some (Sum.inl (q,w64 ((i:Int)+1))):Option ((Pool×Int) ⊕ ((Pool×Int) ⊕ Pool)))=some (Sum.inl s')∧(∃i:Nat,s'.2=(i:Int)∧i≤15∧Sized s'.1.Store.Disk∧s'.1.Changes.length≤1000+i)∧15-s'.2.toNat<15-(i:Int).toNat:=by
        rw[GV (by omega)];exact⟨_,rfl,⟨i+1,rfl,by omega,h,by show q.Changes.length≤_;omega⟩,by dsimp only;omega⟩
      have put:(∃s',(Option.bind (β:=(Pool×Int) ⊕ ((Pool×Int) ⊕ Pool)) (Yc (Change.mk L.Id n (i:Int) (0:UInt8) 0 0 [] (Ptr.mk 0 (0:UInt32) (0:UInt32) (0:UInt32) (0:UInt32))) q) λa=>cond (!(decide (a.1=0))) (some (.inr (.inl (a.2,a.1)))) (some (.inl (a.2,w64 ((i:Int)+1)))))=some (Sum.inl s')∧(∃i:Nat,s'.2=(i:Int)∧i≤15∧Sized s'.1.Store.Disk∧s'.1.Changes.length≤1000+i)∧15-s'.2.toNat<15-(i:Int).toNat)∨
          (∃t:(Pool×Int) ⊕ Pool,(Option.bind (β:=(Pool×Int) ⊕ ((Pool×Int) ⊕ Pool)) (Yc (Change.mk L.Id n (i:Int) (0:UInt8) 0 0 [] (Ptr.mk 0 (0:UInt32) (0:UInt32) (0:UInt32) (0:UInt32))) q) λa=>cond (!(decide (a.1=0))) (some (.inr (.inl (a.2,a.1)))) (some (.inl (a.2,w64 ((i:Int)+1)))))=some (Sum.inr t)∧(Sum.elim (λ_=>True) (λq=>Sized q.Store.Disk∧q.Changes.length≤1015) t)):=by
        obtain⟨e,g,f,ok⟩:=ZJF h (by omega) (Change.mk L.Id n (i:Int) (0:UInt8) 0 0 [] (Ptr.mk 0 (0:UInt32) (0:UInt32) (0:UInt32) (0:UInt32)));rw[f,TA];dsimp only;cases(!decide (e=0))with
        |true=>exact .inr ⟨_,rfl,trivial⟩
        | false=>
          refine .inl ?_;rw[TI,GV (by omega)];have:=ok.len;exact⟨_,rfl,⟨i+1,rfl,by omega,ok.disk,by show g.Changes.length≤_;omega⟩,by dsimp only;omega⟩
      cases is with
      |true=>rw[Sd,TI,TA,TI];exact put
      | false=>
        rw[Rp,TQ,TA];generalize (decide ((o.Data[i]).At=0)&&(decide ((o.Data[i]).Birth=(0:UInt32))&&(decide ((o.Data[i]).Iv=(0:UInt32))&&(decide ((o.Data[i]).Tag=(0:UInt32))&&(decide ((o.Data[i]).Sum=(0:UInt32))&&true)))))=w;cases w with
        |true=>rw[TQ];exact .inl step
        |false=>rw[TI];exact put
    · right;rw[TB (show¬(i:Int)<(o.Data.length:Int) by omega),TI];exact⟨_,rfl,h,by show q.Changes.length≤_;omega⟩) (s:=(b,0)) ⟨0,rfl,by omega,hs,k⟩ (by show 15<FUEL;decide)
  rw[h1,TA];cases t with
  |inl x=>exact⟨_,_,rfl⟩
  | inr q=>
    obtain⟨e,g,f,-⟩:=ZJF h2.1 (by have:=h2.2;omega) (Change.mk L.Id n 15 (0:UInt8) 0 0 [] (Ptr.mk 0 (0:UInt32) (0:UInt32) (0:UInt32) (0:UInt32)))
    rw[R3,f];exact⟨_,_,rfl⟩
def Ans (r:Option (Pool×Int))(P:Int→Prop):Prop:=∃q f,r=some (q,f)∧(f≠0→q=ZQ5)∧P f
theorem XZ{e:Int}{P:Int→Prop}(h:P e):Ans (some (ZQ5,e)) P:=⟨_,_,rfl,λ_=>rfl,h⟩
theorem ZPf{p:Pool}(ok:OKPool p)(b:p.Changes.length≤1000)(L:Line)(n:Int):Ans (Option.bind (Ki p L n) λx=>some (x.1,x.2)) λ_=>True:=by
 unfold Ki;have hs:=ok.store.sized;obtain⟨⟨c,e⟩,h1⟩:=ZMQ hs (by omega) L n;rw[h1,TA];dsimp only;by_cases k:e=0
 · rw[ZHJ k,TI];obtain⟨⟨o,f⟩,h2,h3⟩:=ZJC hs L n;rw[h2,TA];dsimp only at h3⊢;by_cases a:f=0
   · rw[ZHJ a,TI];unfold ZEp;obtain⟨g,q,i⟩:=ZNX hs b o (h3 a) L n;rw[ZJ2 ok b,TA,i,TA];dsimp only;by_cases d:g=0
     · rw[ZHJ d];exact⟨_,_,rfl,λh=>absurd rfl h,trivial⟩
     · rw[ZCJ d];exact XZ trivial
   · rw[ZCJ a];exact XZ trivial
 · rw[ZCJ k];exact XZ trivial
theorem ZRM{p:Pool}(ok:OKPool p){i:Nat}(h:i<p.Lines.length):∃j:Nat,p.Lines[i].Key=(j:Int)∧j<p.Loaded.length:=by
 have:=ok.lines.two i h;unfold ok2 at this;simp only[TE]at this;have h1:=Ta this.2.1;have h2:=Ta this.2.2.1;have:=ok.loaded.len;exact⟨p.Lines[i].Key.toNat,by omega,by omega⟩
structure Said (x:Line) (e:Int) (inside:Prop) (f:Int):Prop where
  err:e≠0→f=e
  snap:e=0→x.Kind=2→f=202
  out:e=0→x.Kind≠2→¬inside→f=2
theorem ZIy{p:Pool}{id:Int}{x:Line}{e:Int}(h:XE p id=some (x,e)):Wn p id=some (x,if e=0 then(if x.Kind=2 then 202 else 0)else e):=by
 unfold Wn;rw[h,TA];dsimp only;by_cases k:e=0
 · rw[TD k,TH k,TQ,TA];by_cases a:x.Kind=2
   · rw[TD a,TH a];rfl
   · rw[TB a,TF a,k];rfl
 · rw[TB k,TF k];rfl
theorem ZMV{p:Pool}(a:SizedP p)(id:Int):∃x e,XE p id=some (x,e)∧(e=0→OKPool p∧∃i,∃h:i<p.Lines.length,x=p.Lines[i]):=by
  rw[ZO1 a id];cases c:dec (OKPool p)with
  |false=>exact⟨_,_,rfl,λh=>by cases h⟩
  | true=>
    rw[TH rfl];cases b:findL p.Lines id with
    |none=>exact⟨_,_,rfl,λh=>by cases h⟩
    | some i=>
      obtain⟨h1,_⟩:=Vy b;exact⟨_,_,rfl,λ_=>⟨Dg c,i,h1,by rw[ST,TJ h1];rfl⟩⟩
theorem ZTJ {p:Pool}(w:p.Changes.length≤1000){id n k:Int}{b:List UInt8}(hb:b.length≤1000){x:Line}{e:Int}(h:XE p id=some (x,e))(y:e=0→OKPool p∧∃i,∃h:i<p.Lines.length,x=p.Lines[i]):
    Ans (Gw p id n k b) (Said x e ((0≤n∧n<16)∧0≤k∧k<15)):=by
  unfold Gw;rw[ZIy h,TA];dsimp only;by_cases a:e=0
  · rw [TH a];by_cases d:x.Kind=2
    · rw[TH d,ZCJ (by decide),TQ];exact XZ ⟨λh=>absurd a h,λ_ _=>rfl,λ_ h=>absurd d h⟩
    · rw [TF d,WO,TI,ZSa,TA];by_cases m:(0≤n∧n<16)∧0≤k∧k<15
      · have s:∀f,Said x e ((0≤n∧n<16)∧0≤k∧k<15) f:=λf=>⟨λh=>absurd a h,λ_ h=>absurd h d,λ_ _ h=>absurd m h⟩;obtain⟨ok,i,hi,rfl⟩:=y a;rw[TD m,Sd,TI];by_cases r:(256:Int)<(b.length:Int)
        · rw[TD r,TQ];exact XZ (s _)
        rw[TB r,TI];obtain⟨j,z,A⟩:=ZRM ok hi;rw[z,ZM _ A];cases decide ((p.Loaded[j].length:Int)=0)with
        |true=>rw[TQ];exact XZ (s _)
        | false=>
          rw[TI];have hs:=ok.store.sized;obtain⟨⟨c,g⟩,h1⟩:=ZMQ hs (by omega) p.Lines[i] n;rw[h1,TA];dsimp only;by_cases t:g=0
          · rw[ZHJ t,TI];have l:∀o:Change,Ans (Option.bind (UU p o) λu=>some (u.1,u.2.1)) (Said p.Lines[i] e ((0≤n∧n<16)∧0≤k∧k<15)):=λo=>by
              unfold UU ZAC;obtain⟨f,q,h2,-⟩:=ZOi hs (by omega) o;rw[ZJ2 ok w,TA,h2,TA,TA];dsimp only;by_cases v:f=0
              · rw[ZHJ v];exact⟨_,_,rfl,λh=>absurd rfl h,s _⟩
              · rw[ZCJ v];exact XZ (s _)
            cases decide (0<(b.length:Int))with
            | true=>
              rw[TQ,show(mks 256 (0:UInt8):(List UInt8→Option Change)→_)=λk=>k (List.replicate 256 0)from funext λk=>ZHK (n:=256) (by decide)];dsimp only[];unfold cpyO;rw[TH ⟨by omega,by omega,by omega⟩,TA];exact l _
            |false=>rw[TI,TA];exact l _
          · rw[ZCJ t];exact XZ (s _)
      · rw[TB m,Rp,TQ];exact XZ ⟨λh=>absurd a h,λ_ h=>absurd h d,λ_ _ _=>rfl⟩
  · rw[TF a,ZCJ a,TQ];exact XZ ⟨λ_=>rfl,λh=>absurd h a,λh=>absurd h a⟩
theorem ZUn {p:Pool}(m:p.Changes.length≤1000){id n s:Int}{k:UInt8}{x:Line}{e:Int}(h:XE p id=some (x,e))(u:e=0→OKPool p∧∃i,∃h:i<p.Lines.length,x=p.Lines[i]):
    Ans (ZAB p id n k 0 s) (Said x e (0≤n∧n<16)):=by
  unfold ZAB;rw[ZIy h,TA];dsimp only;by_cases b:e=0
  · rw [TH b];by_cases d:x.Kind=2
    · rw[TH d,ZCJ (by decide),TQ];exact XZ ⟨λh=>absurd b h,λ_ _=>rfl,λ_ h=>absurd d h⟩
    · rw [TF d,WO,TI,ZSZ,TA];by_cases o:0≤n∧n<16
      · have a:∀f,Said x e (0≤n∧n<16) f:=λf=>⟨λh=>absurd b h,λ_ h=>absurd h d,λ_ _ h=>absurd o h⟩;obtain⟨ok,i,hi,rfl⟩:=u b;have hs:=ok.store.sized;have r:Ans (idx p.Loaded p.Lines[i].Key λy=>cond (decide ((y.length:Int)=0)) (some (Pool.mk (Store.mk (Disk.mk [] []) [] (0:UInt32) (0:UInt32)) (0:UInt32) (Ptr.mk 0 (0:UInt32) (0:UInt32) (0:UInt32) (0:UInt32)) [] [] [] [] [] 0 0 (0:UInt32),200)) (cond (decide (k=(0:UInt8))) (Option.bind (Ki p p.Lines[i] n) λg=>some (g.1,g.2)) (Option.bind (VU p id n k 0 s) λl=>some (l.1,l.2.1)))) (Said p.Lines[i] e (0≤n∧n<16)):=by
          obtain⟨j,v,z⟩:=ZRM ok hi;rw[v,ZM _ z];cases decide ((p.Loaded[j].length:Int)=0)with
          |true=>rw[TQ];exact XZ (a _)
          | false=>
            rw[TI];cases decide (k=(0:UInt8))with
            | true=>
              rw[TQ];obtain⟨q,f,h1,h2,-⟩:=ZPf ok m p.Lines[i] n;exact⟨q,f,h1,h2,a f⟩
            | false=>
              rw[TI];unfold VU ZCn;obtain⟨f,q,h2,-⟩:=ZOi hs (by omega) (Change.mk id n 15 k 0 s [] (Ptr.mk 0 (0:UInt32) (0:UInt32) (0:UInt32) (0:UInt32)));rw[ZJ2 ok m,TA,h2,TA,TA];dsimp only;by_cases t:f=0
              · rw[ZHJ t];exact⟨_,_,rfl,λh=>absurd rfl h,a _⟩
              · rw[ZCJ t];exact XZ (a _)
        have c:∀w:Bool,Ans (cond w (some (Pool.mk (Store.mk (Disk.mk [] []) [] (0:UInt32) (0:UInt32)) (0:UInt32) (Ptr.mk 0 (0:UInt32) (0:UInt32) (0:UInt32) (0:UInt32)) [] [] [] [] [] 0 0 (0:UInt32),2)) (idx p.Loaded p.Lines[i].Key λy=>cond (decide ((y.length:Int)=0)) (some (Pool.mk (Store.mk (Disk.mk [] []) [] (0:UInt32) (0:UInt32)) (0:UInt32) (Ptr.mk 0 (0:UInt32) (0:UInt32) (0:UInt32) (0:UInt32)) [] [] [] [] [] 0 0 (0:UInt32),200)) (cond (decide (k=(0:UInt8))) (Option.bind (Ki p p.Lines[i] n) λg=>some (g.1,g.2)) (Option.bind (VU p id n k 0 s) λl=>some (l.1,l.2.1))))) (Said p.Lines[i] e (0≤n∧n<16)):=λw=>by
          cases w with
          |true=>exact XZ (a _)
          |false=>exact r
        cases(!decide ((0≤n∧n<16)∧(0≤(k.toNat:Int)∧(k.toNat:Int)<8)∧((0:Int)≤0∧(0:Int)<256)∧0≤s∧s<3841))with
        |true=>exact c true
        | false=>
          rw[TI];obtain⟨w,A⟩:∃w,(cond (decide (k=(0:UInt8))) (some (decide (0<w64 (0+s)))) (some false))=some w:=by cases decide (k=(0:UInt8))<;>exact⟨_,rfl⟩
          rw[A,TA];exact c w
      · rw[TB (λq=>o q.1),Rp,TQ,TA,TQ];exact XZ ⟨λh=>absurd b h,λ_ h=>absurd h d,λ_ _ _=>rfl⟩
  · rw[TF b,ZCJ b,TQ];exact XZ ⟨λ_=>rfl,λh=>absurd h b,λh=>absurd h b⟩
end Go.Ow
namespace Go.Ow
theorem ZTn:law20_alive=some true:=by kernel_rfl
open Go.ChangeShapes Go.WideShapes Go.ChangeAt Go.RowKit
def HW (W:World):Heaplet:=λb o=>W.cell? ⟨b,o,none⟩
theorem ZP6 (W:World):Agrees (HW W) W:=λ_ _ _ h=>h
structure Bulk (H:Type) where
  one:DataW H→Nat
  all:List (DataW H)→Nat
  hstr:∀l:List UInt8,one (.lit (.string l))=l.length+1
  hsl:∀a b,one (.slice a b)=all a+all b+1
  hagg:∀a,one (.agg a)=all a+1
  hnil:all []=0
  hcons:∀d r,all (d::r)=one d+all r
  hone:∀d,1≤one d
section
variable{H:Type}{enc:TypeId×Value→H}{P:Program}{W:World}{B:Bulk H}
theorem Bulk.append (l r:List (DataW H)):B.all (l++r)=B.all l+B.all r:=by
 induction l with
 |nil=>simp[B.hnil]
 |cons x l i=>simp only[Sx,B.hcons,i];omega
def Reads (enc:TypeId×Value→H)(P:Program)(W:World)(B:Bulk H)(t:TypeId){α:Type}(R:Rep α)(size:Nat)(b:α→Nat)(I:α→Prop):Prop:=
 ∀f cs d ps,DataW.trod enc P W 0 (λ_=>true) true f t cs=some (d,ps)→∃x,R (HW W) cs x∧cs.length=size∧b x≤B.one d∧I x
theorem ZGV{k:IntKind}{n:Int}(h:(Lit.int k n).wf=true):k.min≤n∧n≤k.max:=by
 simpa[Lit.wf]using h
theorem Yg{t:TypeId}(ht:P.underlying t=some (.int .i64)):Reads enc P W B t RInt 1 (λ_=>1) InI64:=λf cs d ps h=>by
 obtain⟨n,rfl,b,a⟩:=DataW.trod_int ht h;exact⟨n,rfl,rfl,B.hone _,by simpa[InI64,IntKind.min,IntKind.max,IntKind.signed,IntKind.bits]using ZGV a⟩
theorem KA{t:TypeId}(ht:P.underlying t=some (.int .u8)):Reads enc P W B t RU8 1 (λ_=>1) (λ_=>True):=λf cs d ps h=>by
 obtain⟨n,rfl,b,a⟩:=DataW.trod_int ht h;have:=ZGV a;simp only[IntKind.min,IntKind.max,IntKind.signed,IntKind.bits]at this;refine⟨UInt8.ofNat n.toNat,?_,rfl,B.hone _,trivial⟩;show [Value.int .u8 n]= [.int .u8 (UInt8.ofNat n.toNat).toNat];have h2:n.toNat<256:=by simp at this;omega
 rw[UInt8.toNat_ofNat_of_lt' (by simpa[UInt8.size]using h2)];simp at this;congr 2;omega
theorem QI{t:TypeId}(ht:P.underlying t=some (.int .u32)):Reads enc P W B t RU32 1 (λ_=>1) (λ_=>True):=λf cs d ps h=>by
 obtain⟨n,rfl,b,a⟩:=DataW.trod_int ht h;have:=ZGV a;simp only[IntKind.min,IntKind.max,IntKind.signed,IntKind.bits]at this;refine⟨UInt32.ofNat n.toNat,?_,rfl,B.hone _,trivial⟩;show [Value.int .u32 n]= [.int .u32 (UInt32.ofNat n.toNat).toNat];have h2:n.toNat<4294967296:=by simp at this;omega
 rw[UInt32.toNat_ofNat_of_lt' (by simpa[UInt32.size]using h2)];simp at this;congr 2;omega
def bigs{α:Type}(b:α→Nat)(l:List α):Nat:=(l.map b).sum+1
theorem ZLU {α:Type}{t e:TypeId}{R:Rep α}{size:Nat}{w:α→Nat}{I:α→Prop}(ht:P.underlying t=some (.slice e))(hc:P.cellsOf e=size)(X:0<size)(he:Reads enc P W B e R size w I):
    ∀r cs d ps,DataW.trod enc P W 0 (λ_=>true) true r t cs=some (d,ps)→∃ao n cap,cs= [.slice ao n cap]∧∃l,IsSlice (HW W) R size (.slice ao n cap) l∧bigs w l≤B.one d∧∀x∈l,I x:=λr cs d ps h=>by
  rcases DataW.trod_slice ht h with⟨rfl,p⟩|⟨a,len,cap,f,rst,m,_,rfl,p,_,hlc,M,Y,G,A,_⟩
  · exact⟨none,0,0,rfl,[],IsSlice.nil _ _ _,by simp[bigs];exact B.hone _,by simp⟩
  · have g:cap=0∨a.spot=none:=by
      by_cases h0:cap=0
      · exact .inl h0
      right;have C:∃D,W.cells? 0 a (P.cellsOf e)=some D:=by
        by_cases E:len=0
        · subst E;obtain⟨hr1,N⟩:=A rfl;have:=N 0 (by omega);have h3:(rst[0]?).isSome=true:=(by rw[TJ (by omega)];rfl);rw[←this]at h3;cases q:W.cells? 0 (a.add ((0+0)*P.cellsOf e)) (P.cellsOf e)with
          |none=>rw[q]at h3;simp at h3
          |some c=>exact⟨c,by simpa[Addr.add]using q⟩
        · have:=G 0 (by omega);have h3:(f[0]?).isSome=true:=(by rw[TJ (by omega)];rfl);rw[←this]at h3;cases q:W.cells? 0 (a.add (0*P.cellsOf e)) (P.cellsOf e)with
          |none=>rw[q]at h3;simp at h3
          |some c=>exact⟨c,by simpa[Addr.add]using q⟩
      obtain⟨D,H⟩:=C;obtain⟨_,hl',O⟩:=World.cells?_some H;have:=O 0 (by omega);have v:(D[0]?).isSome=true:=(by rw[TJ (by omega)];rfl);rw[←this]at v;have J:a.add 0=a:=(by simp[Addr.add]);rw[J]at v;cases hs:a.spot with
      |none=>rfl
      | some s=>
        unfold World.cell? at v;rw[hs]at v;split at v<;>simp at v
    have key:∀(k:Nat),k≤len→∃l:List α,l.length=k∧(l.map w).sum≤B.all ((f.take k).map (·.1))∧(∀x∈l,I x)∧
        ∀i y,l[i]? =some y→∃cs,W.cells? 0 (a.add (i*size)) size=some cs∧R (HW W) cs y∧cs.length=size:=by
      intro k;induction k with
      |zero=>intro _;exact⟨[],rfl,by simp,by simp,by simp⟩
      | succ k ih=>
        intro hk;obtain⟨l,E,hb,hI,hi⟩:=ih (by omega);have h1:=G k (by omega);have K:k<f.length:=(by omega);rw[TJ K]at h1;cases q:W.cells? 0 (a.add (k*P.cellsOf e)) (P.cellsOf e)with
        |none=>rw[q]at h1;simp at h1
        | some c=>
          rw[q]at h1;simp only[TA]at h1;obtain⟨y,Q,S,hy3,T⟩:=he m c f[k].1 f[k].2 h1;refine⟨l++ [y],by simp[E],?_,?_,?_⟩
          · rw[Si,List.sum_append,List.take_succ_eq_append_getElem K,Si,B.append];simp only[Tn,List.map_nil,List.sum_cons,List.sum_nil,B.hcons,B.hnil];omega
          · intro x p;rcases TV.1 p with p|p
            · exact hI x p
            · simp at p;subst p;exact T
          · intro i z F;by_cases hi':i<k
            · rw[SK (by omega)]at F;exact hi i z F
            · have U:i=k:=by
                have:=(TG.1 F).1;simp at this;omega
              subst U;rw[SW (by omega)]at F;simp[E]at F;subst F;exact⟨c,by rw[←hc];exact q,Q,S⟩
    obtain⟨l,E,hb,hI,hi⟩:=key len (TL _);refine⟨some a,len,cap,rfl,l,⟨some a,cap,by rw[E],by omega,M,λa' V=> ?_,λV=>(by cases V),λi y Z=> ?_⟩,?_,hI⟩
    · cases V;exact g
    · have hlt:=(TG.1 Z).1;have L:a.spot=none:=g.resolve_left (by omega);obtain⟨b,o,s⟩:=a;simp at L;subst L;obtain⟨cs,h1,h2,h3⟩:=hi i y Z;refine⟨b,o,cs,rfl,h3,h2,λj u hu=> ?_⟩;obtain⟨_,_,v⟩:=World.cells?_some h1;have hj:j<size:=(by have:=(TG.1 hu).1;omega);have J:=v j hj;rw[hu]at J;have e1:(Addr.add (Addr.add ⟨b,o,none⟩ (i*size)) j)=⟨b,o+i*size+j,none⟩:=by
        unfold Addr.add;split<;>split<;>simp_all
      rw[e1]at J;exact J
    · simp only[T9]at p;rw[p.1,B.hsl];rw[Td (by omega)]at hb;unfold bigs;omega
end
section
variable{H:Type}{enc:TypeId×Value→H}{P:Program}{W:World}{B:Bulk H}
def ZKr (x:Ptr):Nat:=1+1+1+1+1+1
def GB (x:Ptr):Prop:=InI64 x.At∧True∧True∧True∧True
theorem ZPg{t:TypeId}{fs:Array Field}{f g i j k:Field}(ht:P.underlying t=some (.struct fs))(N:P.cellsOf t=5)(O:fs.size=5)
 (l:fs[0]? =some f∧f.offset=0∧P.cellsOf f.type=1)(Q:Reads enc P W B f.type RInt 1 (λ_=>1) InI64)
 (m:fs[1]? =some g∧g.offset=1∧P.cellsOf g.type=1)(R:Reads enc P W B g.type RU32 1 (λ_=>1) (λ_=>True))
 (o:fs[2]? =some i∧i.offset=2∧P.cellsOf i.type=1)(S:Reads enc P W B i.type RU32 1 (λ_=>1) (λ_=>True))
 (p:fs[3]? =some j∧j.offset=3∧P.cellsOf j.type=1)(T:Reads enc P W B j.type RU32 1 (λ_=>1) (λ_=>True))
 (q:fs[4]? =some k∧k.offset=4∧P.cellsOf k.type=1)(U:Reads enc P W B k.type RU32 1 (λ_=>1) (λ_=>True)):
 Reads enc P W B t R_Ptr 5 ZKr GB:=λH cs d ps h=>by
 obtain⟨xs,n,_,I,a,b,c⟩:=DataW.trod_struct ht h;rw[N]at a;rw[O]at b
 match xs,b with
 |[x,r,s,u,v],_=>
 match cs,a with
 |[c0,w,y,z,A],_=>
 obtain⟨C,V,_,b0,X⟩:=Q n [c0] x.1 x.2 (by have e:=c 0 _ l.1;rw[l.2.1,l.2.2]at e;exact e)
 have b0:1≤B.one x.1:=b0;obtain rfl:c0=.int .i64 C:=by have e: [c0]= [.int .i64 C]:=V;simpa using e
 obtain⟨D,Y,_,J,Z⟩:=R n [w] r.1 r.2 (by have e:=c 1 _ m.1;rw[m.2.1,m.2.2]at e;exact e)
 have J:1≤B.one r.1:=J;obtain rfl:w=.int .u32 (D.toNat:Int):=by have e: [w]= [.int .u32 (D.toNat:Int)]:=Y;simpa using e
 obtain⟨E,a2,_,K,i2⟩:=S n [y] s.1 s.2 (by have e:=c 2 _ o.1;rw[o.2.1,o.2.2]at e;exact e)
 have K:1≤B.one s.1:=K;obtain rfl:y=.int .u32 (E.toNat:Int):=by have e: [y]= [.int .u32 (E.toNat:Int)]:=a2;simpa using e
 obtain⟨F,a3,_,L,i3⟩:=T n [z] u.1 u.2 (by have e:=c 3 _ p.1;rw[p.2.1,p.2.2]at e;exact e)
 have L:1≤B.one u.1:=L;obtain rfl:z=.int .u32 (F.toNat:Int):=by have e: [z]= [.int .u32 (F.toNat:Int)]:=a3;simpa using e
 obtain⟨G,a4,_,M,i4⟩:=U n [A] v.1 v.2 (by have e:=c 4 _ q.1;rw[q.2.1,q.2.2]at e;exact e)
 have M:1≤B.one v.1:=M;obtain rfl:A=.int .u32 (G.toNat:Int):=by have e: [A]= [.int .u32 (G.toNat:Int)]:=a4;simpa using e
 refine⟨⟨C,D,E,F,G⟩,rfl,rfl,?_,⟨X,Z,i2,i3,i4⟩⟩;simp only[T9]at I;rw[I.1,B.hagg];simp only[Tn,List.map_nil,B.hcons,B.hnil,ZKr];omega
end
section
variable{H:Type}{enc:TypeId×Value→H}{P:Program}{W:World}{B:Bulk H}{r:Reach}{b0:Nat}{t:TypeId}{v:Value}{d:DataW H}{ps:List MemPlace}
theorem ZP4{α:Type}{e:TypeId}{R:Rep α}{size:Nat}{b:α→Nat}{I:α→Prop}(ht:P.underlying t=some (.slice e))(i:P.cellsOf e=size)(h:0<size)(j:Reads enc P W B e R size b I)
 (c:Value.okWide P W r b0 t v)(k:DataW.Trod enc P W 0 (λ_=>true) true t v d ps):
 ∃ao n cap,v=.slice ao n cap∧∃l,IsSlice (HW W) R size (.slice ao n cap) l∧bigs b l≤B.one d∧∀x∈l,I x:=by
 obtain⟨a,n,cap,rfl⟩:=okWide_slice ht c;obtain⟨f,m⟩:=k;obtain⟨ao,o,g,e1,l,h1,h2,h3⟩:=ZLU (B:=B) ht i h j f _ d ps m;have e2:Value.slice a n cap=.slice ao o g:=by simpa[Value.cells]using e1
 exact⟨a,n,cap,rfl,l,by rw[e2];exact h1,h2,h3⟩
theorem ZGa (ht:P.underlying t=some (.int .i64))(h:Value.okWide P W r b0 t v)(a:DataW.Trod enc P W 0 (λ_=>true) true t v d ps):∃n,v=.int .i64 n∧InI64 n:=by
 obtain⟨n,rfl,_,_,b⟩:=open_int ht h a;exact⟨n,rfl,by simpa[InI64,IntKind.min,IntKind.max,IntKind.signed,IntKind.bits]using ZGV b⟩
theorem ZTj{α:Type}{R:Rep α}{size:Nat}{b:α→Nat}{I:α→Prop}(a:Reads enc P W B t R size b I)(c:v.cells= #[v])
 (e:DataW.Trod enc P W 0 (λ_=>true) true t v d ps):∃x,R (HW W) [v] x∧b x≤B.one d∧I x:=by
 obtain⟨f,h⟩:=e;rw[c]at h;obtain⟨x,h1,_,h3,g⟩:=a f _ d ps h;exact⟨x,h1,h3,g⟩
theorem ZVK (B:Bulk H)(ht:P.underlying t=some (.int .u8))(h:Value.okWide P W r b0 t v)(a:DataW.Trod enc P W 0 (λ_=>true) true t v d ps):∃n:UInt8,v=.int .u8 (n.toNat:Int):=by
 obtain⟨n,rfl,_,_,b⟩:=open_int ht h a;obtain⟨x,h1,_⟩:=ZTj (B:=B) (KA ht) rfl a;exact⟨x,by simpa[RU8]using h1⟩
theorem ZBG (e:laidOutB P=true){f:World}{sp:Nat→Bool}(hb:Below W.heap.size W f):∀{ts:List TypeId} {vs:List Value} {ds:List (DataW H)} {ps:List MemPlace},
    ts.all (λt=>P.readableRec t&&decide (t<P.types.size))=true→DataW.TrodAll enc P W 0 (λ_=>true) true ts vs ds ps→(∀p∈ps,p.block<W.heap.size)→(∀p∈ps,sp p.block=true)→
    DataW.TrodAll enc P f 0 sp true ts vs ds ps
  | [],_,_,_,_,h,_,_=>by
    obtain⟨rfl,rfl,rfl⟩:=trodAll_nil h;exact trodAll_mk0
  | t::ts,_,_,_,c,h,b,hs=>by
    obtain⟨v,vs,d,ds,p,q,rfl,rfl,rfl,h1,h2⟩:=trodAll_cons h;simp only[RU,TE,T7]at c;refine trodAll_cons_mk (WideElems.Trod_stays e c.1.1 c.1.2 h1 (λx a=>hb.same (b x (by simp[a]))) (λx a=>hs x (by simp[a]))) ?_;exact ZBG e hb (by simpa using c.2) h2 (λx a=>b x (by simp[a])) (λx a=>hs x (by simp[a]))
theorem ZPm{f:FuncId}{fn:Func}{s:ChangeSpec}{args:Array Value}{ds m:List (DataW H)}{b:List MemPlace}{tb:TypeId}{R:Value→List Own→Heaplet→Prop}(w:laidOutB P=true)
 (a:fn.params.toList.all (λt=>P.readableRec t&&decide (t<P.types.size))=true)(c:fn.resultTypes= #[tb])(i:P.underlying tb=some .bool)(n:s.vars= [])
 (j:DataW.Whole enc P fn.params.toList s.vars false W args.toList ds m b)(hs:s.fn H (ds++m)={results:=[.lit (.bool true)],args:=ds})
 (y:Does P f args [] (HW W) R)(z:∀u K o,R u K o→u=.bool true):
 Calls P f args W λe g=>∃v,e=.returned v∧s.post enc P fn false true false false W args v g:=by
 have h1:=callsIn_wide.1 (y W (ZP6 W) ⟨by simp,by simp[ids],by simp⟩);refine h1.mono λe g ⟨v,K',o,A,B,C⟩=> ?_;obtain rfl:=z _ _ _ B;refine⟨_,A,?_⟩;have hb:Below W.heap.size W g:=(show Kept [] W g from C.kept).below;have d:=j.lt;have k:=j;obtain⟨p,q,D,r,rfl,E,F⟩:=k;rw[n]at r;obtain⟨rfl,rfl⟩:=trodVars_none r;refine⟨ds,[],_,[],p,[],j,?_,?_,?_,hb.frame _,λh=>by cases h⟩
 · rw[hs,c];exact trodAll_cons_mk (shut_bool i _) trodAll_mk0
 · rw[hs];exact ZBG w hb a D (λx l=>d x (by simpa using l)) (λx l=>by simpa using d x (by simpa using l))
 · rw[hs,n];exact rfl
end
section
variable{H:Type}{enc:TypeId×Value→H}{P:Program}{W:World}{B:Bulk H}
def Fits (P:Program)(t:TypeId)(d:DataW H):Prop:=(d.weights P t).all (· ≤reachBytes)=true
def FitsEach (P:Program)(ts:List TypeId)(ds:List (DataW H)):Prop:=(DataW.weightsEach P ts ds).all (· ≤reachBytes)=true
theorem ZJ{t:TypeId}{ts:List TypeId}{d:DataW H}{ds:List (DataW H)}(h:FitsEach P (t::ts) (d::ds)):Fits P t d∧FitsEach P ts ds:=by
 unfold FitsEach at h;rw[DataW.weightsEach,List.all_append,TE]at h;exact h
theorem ZMZ{e:TypeId}:∀{ds:List (DataW H)},(DataW.weightsAll P e ds).all (· ≤reachBytes)=true→∀d∈ds,Fits P e d
  |[],_,d,a=>by cases a
  | x::r,h,d,a=>by
    rw[DataW.weightsAll,List.all_append,TE]at h;rcases TW.1 a with rfl|a
    · exact h.1
    · exact ZMZ h.2 d a
theorem ZN5{t e:TypeId}{a b:List (DataW H)}(ht:P.underlying t=some (.slice e))(hb:1≤P.bytesOf e)(h:Fits P t (.slice a b)):a.length≤reachBytes∧∀d∈a,Fits P e d:=by
 unfold Fits at h;rw[DataW.weights,ht]at h;simp only[RU,List.all_append,TE,T7]at h;refine⟨?_,ZMZ h.2.1⟩;have:=Nat.le_mul_of_pos_right (a.length+b.length) hb;omega
theorem Gt{t:TypeId}{fs:Array Field}{p:List (DataW H)}(ht:P.underlying t=some (.struct fs))(h:Fits P t (.agg p)):FitsEach P (fs.toList.map (·.type)) p:=by
 unfold Fits at h;rw[DataW.weights,ht]at h;exact h
def ReadsF (enc:TypeId×Value→H)(P:Program)(W:World)(t:TypeId){α:Type}(R:Rep α)(size:Nat)(I:α→Prop):Prop:=
 ∀f cs d ps,DataW.trod enc P W 0 (λ_=>true) true f t cs=some (d,ps)→Fits P t d→∃x,R (HW W) cs x∧cs.length=size∧I x
theorem Reads.f{α:Type}{t:TypeId}{R:Rep α}{size:Nat}{b:α→Nat}{I:α→Prop}(h:Reads enc P W B t R size b I):ReadsF enc P W t R size I:=λa cs d ps e _=>by
 obtain⟨x,h1,h2,-,h3⟩:=h a cs d ps e;exact⟨x,h1,h2,h3⟩
theorem ZJ9 {α:Type}{t e:TypeId}{R:Rep α}{size:Nat}{I:α→Prop}(ht:P.underlying t=some (.slice e))(hc:P.cellsOf e=size)(X:0<size)(hb:1≤P.bytesOf e)(he:ReadsF enc P W e R size I):
    ∀r cs d ps,DataW.trod enc P W 0 (λ_=>true) true r t cs=some (d,ps)→Fits P t d→∃ao n cap,cs= [.slice ao n cap]∧∃l,IsSlice (HW W) R size (.slice ao n cap) l∧l.length≤reachBytes∧∀x∈l,I x:=λr cs d ps h Y=>by
  rcases DataW.trod_slice ht h with⟨rfl,p⟩|⟨a,len,cap,f,rst,m,_,rfl,p,_,hlc,K,Z,E,w,_⟩
  · exact⟨none,0,0,rfl,[],IsSlice.nil _ _ _,Ti _,by simp⟩
  · simp only [T9]at p;rw[p.1]at Y;obtain⟨L,M⟩:=ZN5 ht hb Y;have g:cap=0∨a.spot=none:=by
      by_cases h0:cap=0
      · exact .inl h0
      right;have A:∃B,W.cells? 0 a (P.cellsOf e)=some B:=by
        by_cases C:len=0
        · subst C;obtain⟨hr1,N⟩:=w rfl;have:=N 0 (by omega);have h3:(rst[0]?).isSome=true:=(by rw[TJ (by omega)];rfl);rw[←this]at h3;cases q:W.cells? 0 (a.add ((0+0)*P.cellsOf e)) (P.cellsOf e)with
          |none=>rw[q]at h3;simp at h3
          |some c=>exact⟨c,by simpa[Addr.add]using q⟩
        · have:=E 0 (by omega);have h3:(f[0]?).isSome=true:=(by rw[TJ (by omega)];rfl);rw[←this]at h3;cases q:W.cells? 0 (a.add (0*P.cellsOf e)) (P.cellsOf e)with
          |none=>rw[q]at h3;simp at h3
          |some c=>exact⟨c,by simpa[Addr.add]using q⟩
      obtain⟨B,F⟩:=A;obtain⟨_,hl',O⟩:=World.cells?_some F;have:=O 0 (by omega);have v:(B[0]?).isSome=true:=(by rw[TJ (by omega)];rfl);rw[←this]at v;have G:a.add 0=a:=(by simp[Addr.add]);rw[G]at v;cases hs:a.spot with
      |none=>rfl
      | some s=>
        unfold World.cell? at v;rw[hs]at v;split at v<;>simp at v
    have key:∀(k:Nat),k≤len→∃l:List α,l.length=k∧(∀x∈l,I x)∧
        ∀i y,l[i]? =some y→∃cs,W.cells? 0 (a.add (i*size)) size=some cs∧R (HW W) cs y∧cs.length=size:=by
      intro k;induction k with
      |zero=>intro _;exact⟨[],rfl,by simp,by simp⟩
      | succ k ih=>
        intro hk;obtain⟨l,C,hI,hi⟩:=ih (by omega);have h1:=E k (by omega);have H:k<f.length:=(by omega);rw[TJ H]at h1;cases q:W.cells? 0 (a.add (k*P.cellsOf e)) (P.cellsOf e)with
        |none=>rw[q]at h1;simp at h1
        | some c=>
          rw[q]at h1;simp only[TA]at h1;obtain⟨y,Q,S,T⟩:=he m c f[k].1 f[k].2 h1 (M _ (SQ (SU H)));refine⟨l++ [y],by simp[C],?_,?_⟩
          · intro x p;rcases TV.1 p with p|p
            · exact hI x p
            · simp at p;subst p;exact T
          · intro i z D;by_cases hi':i<k
            · rw[SK (by omega)]at D;exact hi i z D
            · have U:i=k:=by
                have:=(TG.1 D).1;simp at this;omega
              subst U;rw[SW (by omega)]at D;simp[C]at D;subst D;exact⟨c,by rw[←hc];exact q,Q,S⟩
    obtain⟨l,C,hI,hi⟩:=key len (TL _);refine⟨some a,len,cap,rfl,l,⟨some a,cap,by rw[C],by omega,K,λa' V=> ?_,λV=>(by cases V),λi y hy=> ?_⟩,?_,hI⟩
    · cases V;exact g
    · have hlt:=(TG.1 hy).1;have J:a.spot=none:=g.resolve_left (by omega);obtain⟨b,o,s⟩:=a;simp at J;subst J;obtain⟨cs,h1,h2,h3⟩:=hi i y hy;refine⟨b,o,cs,rfl,h3,h2,λj u hu=> ?_⟩;obtain⟨_,_,v⟩:=World.cells?_some h1;have hj:j<size:=(by have:=(TG.1 hu).1;omega);have G:=v j hj;rw[hu]at G;have e1:(Addr.add (Addr.add ⟨b,o,none⟩ (i*size)) j)=⟨b,o+i*size+j,none⟩:=by
        unfold Addr.add;split<;>split<;>simp_all
      rw[e1]at G;exact G
    · rw[RN]at L;omega
theorem Yh{α:Type}{t e:TypeId}{R:Rep α}{size:Nat}{I:α→Prop}(ht:P.underlying t=some (.slice e))(b:P.cellsOf e=size)(a:0<size)(hb:1≤P.bytesOf e)(c:ReadsF enc P W e R size I):
 ReadsF enc P W t (RSl R size) 1 (λl=>l.length≤reachBytes∧∀x∈l,I x):=λf cs d ps h g=>by
 obtain⟨ao,n,cap,rfl,l,h1,h2,h3⟩:=ZJ9 ht b a hb c f cs d ps h g;exact⟨l,⟨_,rfl,h1⟩,rfl,h2,h3⟩
def ZAt (x:Write):Prop:=InI64 x.At∧x.Data.length≤reachBytes∧∀y∈x.Data,True
theorem ZKA{t:TypeId}{fs:Array Field}{f c:Field}(ht:P.underlying t=some (.struct fs))(u:P.cellsOf t=2)(v:fs.size=2)(w:fs.toList= [f,c])
 (i:fs[0]? =some f∧f.offset=0∧P.cellsOf f.type=1)(z:ReadsF enc P W f.type RInt 1 InI64)
 (j:fs[1]? =some c∧c.offset=1∧P.cellsOf c.type=1)(A:ReadsF enc P W c.type (RSl RU8 1) 1 (λl=>l.length≤reachBytes∧∀x∈l,(λ_=>True) x)):
 ReadsF enc P W t R_Write 2 ZAt:=λm cs d ps h b=>by
 obtain⟨xs,n,_,o,a,g,p⟩:=DataW.trod_struct ht h;rw[u]at a;rw[v]at g
 match xs,g with
 |[q,r],_=>
 match cs,a with
 |[c0,s],_=>
 simp only[T9]at o;rw[o.1]at b;have b:=Gt ht b;rw[w]at b;obtain⟨F,b⟩:=ZJ b;obtain⟨B,-⟩:=ZJ b;obtain⟨y,C,_,D⟩:=z n [c0] q.1 q.2 (by have e:=p 0 _ i.1;rw[i.2.1,i.2.2]at e;exact e) F
 obtain rfl:c0=.int .i64 y:=by have e: [c0]= [.int .i64 y]:=C;simpa using e
 obtain⟨E,k,_,G⟩:=A n [s] r.1 r.2 (by have e:=p 1 _ j.1;rw[j.2.1,j.2.2]at e;exact e) B
 obtain⟨H,e,k⟩:=k;obtain rfl:s=H:=by simpa using e
 exact⟨⟨y,E⟩,⟨_,rfl,k⟩,rfl,⟨D,G⟩⟩
def ZDk (x:Disk):Prop:=(x.Blocks.length≤reachBytes∧∀b∈x.Blocks,b.length≤reachBytes∧∀y∈b,True)∧(x.Waits.length≤reachBytes∧∀w∈x.Waits,ZAt w)
theorem ZLX{t:TypeId}{fs:Array Field}{f c:Field}(ht:P.underlying t=some (.struct fs))(v:P.cellsOf t=2)(w:fs.size=2)(y:fs.toList= [f,c])
 (i:fs[0]? =some f∧f.offset=0∧P.cellsOf f.type=1)(z:ReadsF enc P W f.type (RSl (RSl RU8 1) 1) 1 (λl=>l.length≤reachBytes∧∀x∈l,(λl=>l.length≤reachBytes∧∀x∈l,(λ_=>True) x) x))
 (j:fs[1]? =some c∧c.offset=1∧P.cellsOf c.type=1)(A:ReadsF enc P W c.type (RSl R_Write 2) 1 (λl=>l.length≤reachBytes∧∀x∈l,ZAt x)):
 ReadsF enc P W t R_Disk 2 ZDk:=λo cs d ps h b=>by
 obtain⟨xs,n,_,p,a,g,q⟩:=DataW.trod_struct ht h;rw[v]at a;rw[w]at g
 match xs,g with
 |[r,s],_=>
 match cs,a with
 |[c0,u],_=>
 simp only[T9]at p;rw[p.1]at b;have b:=Gt ht b;rw[y]at b;obtain⟨F,b⟩:=ZJ b;obtain⟨B,-⟩:=ZJ b;obtain⟨C,k,_,D⟩:=z n [c0] r.1 r.2 (by have e:=q 0 _ i.1;rw[i.2.1,i.2.2]at e;exact e) F
 obtain⟨E,e,k⟩:=k;obtain rfl:c0=E:=by simpa using e
 obtain⟨G,m,_,H⟩:=A n [u] s.1 s.2 (by have e:=q 1 _ j.1;rw[j.2.1,j.2.2]at e;exact e) B
 obtain⟨I,e,m⟩:=m;obtain rfl:u=I:=by simpa using e
 exact⟨⟨C,G⟩,⟨_,_,rfl,k,m⟩,rfl,⟨D,H⟩⟩
def ZAu (x:Store):Prop:=ZDk x.Disk∧(x.Space.length≤reachBytes∧∀y∈x.Space,True)∧True∧True
theorem ZKB{t:TypeId}{fs:Array Field}{f c g i:Field}(ht:P.underlying t=some (.struct fs))(J:P.cellsOf t=5)(K:fs.size=4)(L:fs.toList= [f,c,g,i])
 (p:fs[0]? =some f∧f.offset=0∧P.cellsOf f.type=2)(M:ReadsF enc P W f.type R_Disk 2 ZDk)
 (q:fs[1]? =some c∧c.offset=2∧P.cellsOf c.type=1)(N:ReadsF enc P W c.type (RSl RU8 1) 1 (λl=>l.length≤reachBytes∧∀x∈l,(λ_=>True) x))
 (r:fs[2]? =some g∧g.offset=3∧P.cellsOf g.type=1)(O:ReadsF enc P W g.type RU32 1 (λ_=>True))
 (s:fs[3]? =some i∧i.offset=4∧P.cellsOf i.type=1)(Q:ReadsF enc P W i.type RU32 1 (λ_=>True)):
 ReadsF enc P W t R_Store 5 ZAu:=λA cs d ps h a=>by
 obtain⟨xs,n,_,B,b,j,o⟩:=DataW.trod_struct ht h;rw[J]at b;rw[K]at j
 match xs,j with
 |[C,D,E,F],_=>
 match cs,b with
 |[c0,R,G,u,v],_=>
 simp only[T9]at B;rw[B.1]at a;have a:=Gt ht a;rw[L]at a;obtain⟨S,a⟩:=ZJ a;obtain⟨T,a⟩:=ZJ a;obtain⟨U,a⟩:=ZJ a;obtain⟨V,-⟩:=ZJ a;obtain⟨X,Y,_,Z⟩:=M n [c0,R] C.1 C.2 (by have e:=o 0 _ p.1;rw[p.2.1,p.2.2]at e;exact e) S
 obtain⟨H,I,e,k,m⟩:=Y;simp only[SD,and_true]at e;obtain⟨rfl,rfl⟩:=e;obtain⟨y1,w,_,i1⟩:=N n [G] D.1 D.2 (by have e:=o 1 _ q.1;rw[q.2.1,q.2.2]at e;exact e) T
 obtain⟨u1,e,w⟩:=w;obtain rfl:G=u1:=by simpa using e
 obtain⟨y,a2,_,i2⟩:=O n [u] E.1 E.2 (by have e:=o 2 _ r.1;rw[r.2.1,r.2.2]at e;exact e) U
 obtain rfl:u=.int .u32 (y.toNat:Int):=by have e: [u]= [.int .u32 (y.toNat:Int)]:=a2;simpa using e
 obtain⟨z,a3,_,i3⟩:=Q n [v] F.1 F.2 (by have e:=o 3 _ s.1;rw[s.2.1,s.2.2]at e;exact e) V
 obtain rfl:v=.int .u32 (z.toNat:Int):=by have e: [v]= [.int .u32 (z.toNat:Int)]:=a3;simpa using e
 exact⟨⟨X,y1,y,z⟩,⟨_,_,_,rfl,k,m,w⟩,rfl,⟨Z,i1,i2,i3⟩⟩
theorem ZMx{r:Reach}{b0:Nat}{t:TypeId}{v:Value}{d:DataW H}{ps:List MemPlace}{α:Type}{fs:Array Field}{R:Rep α}{size:Nat}{I:α→Prop}(ht:P.underlying t=some (.struct fs))(a:ReadsF enc P W t R size I)
 (h:Value.okWide P W r b0 t v)(b:DataW.Trod enc P W 0 (λ_=>true) true t v d ps)(c:Fits P t d):
 ∃cs:Array Value,v=.agg cs∧∃x,R (HW W) cs.toList x∧I x:=by
 obtain⟨cs,rfl,_⟩:=okWide_struct ht h;obtain⟨f,e⟩:=b;obtain⟨x,h1,h2,h3⟩:=a f _ d ps e c;exact⟨cs,rfl,x,by simpa[Value.cells]using h1,h3⟩
end
section
variable{H:Type}{enc:TypeId×Value→H}{P:Program}{W:World}{B:Bulk H}
def ZDj (x:Line):Prop:=InI64 x.Id∧True∧InI64 x.Owner∧InI64 x.Prev∧True∧True∧InI64 x.Key∧GB x.Root∧(x.Dead.length≤reachBytes∧∀y∈x.Dead,GB y)
theorem ZLW{t:TypeId}{fs:Array Field}{f g i j k m o p q:Field}(ht:P.underlying t=some (.struct fs))(hN:P.cellsOf t=13)(hk:fs.size=9)(hl:fs.toList= [f,g,i,j,k,m,o,p,q])
 (u:fs[0]? =some f∧f.offset=0∧P.cellsOf f.type=1)(r0:ReadsF enc P W f.type RInt 1 InI64)
 (v:fs[1]? =some g∧g.offset=1∧P.cellsOf g.type=1)(r1:ReadsF enc P W g.type RU8 1 (λ_=>True))
 (w:fs[2]? =some i∧i.offset=2∧P.cellsOf i.type=1)(r2:ReadsF enc P W i.type RInt 1 InI64)
 (y:fs[3]? =some j∧j.offset=3∧P.cellsOf j.type=1)(r3:ReadsF enc P W j.type RInt 1 InI64)
 (z:fs[4]? =some k∧k.offset=4∧P.cellsOf k.type=1)(r4:ReadsF enc P W k.type RU32 1 (λ_=>True))
 (A:fs[5]? =some m∧m.offset=5∧P.cellsOf m.type=1)(r5:ReadsF enc P W m.type RU32 1 (λ_=>True))
 (B:fs[6]? =some o∧o.offset=6∧P.cellsOf o.type=1)(r6:ReadsF enc P W o.type RInt 1 InI64)
 (C:fs[7]? =some p∧p.offset=7∧P.cellsOf p.type=5)(r7:ReadsF enc P W p.type R_Ptr 5 GB)
 (D:fs[8]? =some q∧q.offset=12∧P.cellsOf q.type=1)(r8:ReadsF enc P W q.type (RSl R_Ptr 5) 1 (λl=>l.length≤reachBytes∧∀x∈l,GB x)):
 ReadsF enc P W t R_Line 13 ZDj:=λV cs d ps h a=>by
 obtain⟨xs,n,_,X,c,r,b⟩:=DataW.trod_struct ht h;rw[hN]at c;rw[hk]at r
 match xs,r with
 |[Y,Z,x2,x3,x4,x5,x6,x7,x8],_=>
 match cs,c with
 |[c0,E,F,G,H,I,J,c7,c8,c9,K,L,s],_=>
 simp only[T9]at X;rw[X.1]at a;have a:=Gt ht a;rw[hl]at a;obtain⟨F0,a⟩:=ZJ a;obtain⟨F1,a⟩:=ZJ a;obtain⟨F2,a⟩:=ZJ a;obtain⟨F3,a⟩:=ZJ a;obtain⟨F4,a⟩:=ZJ a;obtain⟨F5,a⟩:=ZJ a;obtain⟨F6,a⟩:=ZJ a;obtain⟨F7,a⟩:=ZJ a;obtain⟨F8,-⟩:=ZJ a;obtain⟨M,a0,_,i0⟩:=r0 n [c0] Y.1 Y.2 (by have e:=b 0 _ u.1;rw[u.2.1,u.2.2]at e;exact e) F0
 obtain rfl:c0=.int .i64 M:=by have e: [c0]= [.int .i64 M]:=a0;simpa using e
 obtain⟨N,a1,_,i1⟩:=r1 n [E] Z.1 Z.2 (by have e:=b 1 _ v.1;rw[v.2.1,v.2.2]at e;exact e) F1
 obtain rfl:E=.int .u8 (N.toNat:Int):=by have e: [E]= [.int .u8 (N.toNat:Int)]:=a1;simpa using e
 obtain⟨O,a2,_,i2⟩:=r2 n [F] x2.1 x2.2 (by have e:=b 2 _ w.1;rw[w.2.1,w.2.2]at e;exact e) F2
 obtain rfl:F=.int .i64 O:=by have e: [F]= [.int .i64 O]:=a2;simpa using e
 obtain⟨Q,a3,_,i3⟩:=r3 n [G] x3.1 x3.2 (by have e:=b 3 _ y.1;rw[y.2.1,y.2.2]at e;exact e) F3
 obtain rfl:G=.int .i64 Q:=by have e: [G]= [.int .i64 Q]:=a3;simpa using e
 obtain⟨R,a4,_,i4⟩:=r4 n [H] x4.1 x4.2 (by have e:=b 4 _ z.1;rw[z.2.1,z.2.2]at e;exact e) F4
 obtain rfl:H=.int .u32 (R.toNat:Int):=by have e: [H]= [.int .u32 (R.toNat:Int)]:=a4;simpa using e
 obtain⟨S,a5,_,i5⟩:=r5 n [I] x5.1 x5.2 (by have e:=b 5 _ A.1;rw[A.2.1,A.2.2]at e;exact e) F5
 obtain rfl:I=.int .u32 (S.toNat:Int):=by have e: [I]= [.int .u32 (S.toNat:Int)]:=a5;simpa using e
 obtain⟨T,a6,_,i6⟩:=r6 n [J] x6.1 x6.2 (by have e:=b 6 _ B.1;rw[B.2.1,B.2.2]at e;exact e) F6
 obtain rfl:J=.int .i64 T:=by have e: [J]= [.int .i64 T]:=a6;simpa using e
 obtain⟨y7,a7,_,i7⟩:=r7 n [c7,c8,c9,K,L] x7.1 x7.2 (by have e:=b 7 _ C.1;rw[C.2.1,C.2.2]at e;exact e) F7
 have e:=a7;unfold R_Ptr at e;simp only[SD,and_true]at e;obtain⟨rfl,rfl,rfl,rfl,rfl⟩:=e;obtain⟨y8,U,_,i8⟩:=r8 n [s] x8.1 x8.2 (by have e:=b 8 _ D.1;rw[D.2.1,D.2.2]at e;exact e) F8
 obtain⟨u8,e,U⟩:=U;obtain rfl:s=u8:=by simpa using e
 exact⟨⟨M,N,O,Q,R,S,T,y7,y8⟩,⟨_,rfl,U⟩,rfl,⟨i0,i1,i2,i3,i4,i5,i6,i7,i8⟩⟩
def BP (x:Change):Prop:=InI64 x.Set∧InI64 x.Obj∧InI64 x.Index∧True∧InI64 x.Links∧InI64 x.Size∧(x.Data.length≤reachBytes∧∀y∈x.Data,(λ_=>True) y)∧GB x.Laid
theorem ZIW{t:TypeId}{fs:Array Field}{f g i j k m o p:Field}(ht:P.underlying t=some (.struct fs))(hN:P.cellsOf t=12)(hk:fs.size=8)(hl:fs.toList= [f,g,i,j,k,m,o,p])
 (r:fs[0]? =some f∧f.offset=0∧P.cellsOf f.type=1)(r0:ReadsF enc P W f.type RInt 1 InI64)
 (s:fs[1]? =some g∧g.offset=1∧P.cellsOf g.type=1)(r1:ReadsF enc P W g.type RInt 1 InI64)
 (u:fs[2]? =some i∧i.offset=2∧P.cellsOf i.type=1)(r2:ReadsF enc P W i.type RInt 1 InI64)
 (v:fs[3]? =some j∧j.offset=3∧P.cellsOf j.type=1)(r3:ReadsF enc P W j.type RU8 1 (λ_=>True))
 (w:fs[4]? =some k∧k.offset=4∧P.cellsOf k.type=1)(r4:ReadsF enc P W k.type RInt 1 InI64)
 (y:fs[5]? =some m∧m.offset=5∧P.cellsOf m.type=1)(r5:ReadsF enc P W m.type RInt 1 InI64)
 (z:fs[6]? =some o∧o.offset=6∧P.cellsOf o.type=1)(r6:ReadsF enc P W o.type (RSl RU8 1) 1 (λl=>l.length≤reachBytes∧∀x∈l,(λ_=>True) x))
 (A:fs[7]? =some p∧p.offset=7∧P.cellsOf p.type=5)(r7:ReadsF enc P W p.type R_Ptr 5 GB):
 ReadsF enc P W t R_Change 12 BP:=λQ cs d ps h a=>by
 obtain⟨xs,n,_,R,b,q,c⟩:=DataW.trod_struct ht h;rw[hN]at b;rw[hk]at q
 match xs,q with
 |[S,T,U,V,X,Y,Z,x7],_=>
 match cs,b with
 |[c0,B,C,D,E,F,c6,c7,c8,c9,G,H],_=>
 simp only[T9]at R;rw[R.1]at a;have a:=Gt ht a;rw[hl]at a;obtain⟨F0,a⟩:=ZJ a;obtain⟨F1,a⟩:=ZJ a;obtain⟨F2,a⟩:=ZJ a;obtain⟨F3,a⟩:=ZJ a;obtain⟨F4,a⟩:=ZJ a;obtain⟨F5,a⟩:=ZJ a;obtain⟨F6,a⟩:=ZJ a;obtain⟨F7,-⟩:=ZJ a;obtain⟨I,a0,_,i0⟩:=r0 n [c0] S.1 S.2 (by have e:=c 0 _ r.1;rw[r.2.1,r.2.2]at e;exact e) F0
 obtain rfl:c0=.int .i64 I:=by have e: [c0]= [.int .i64 I]:=a0;simpa using e
 obtain⟨J,a1,_,i1⟩:=r1 n [B] T.1 T.2 (by have e:=c 1 _ s.1;rw[s.2.1,s.2.2]at e;exact e) F1
 obtain rfl:B=.int .i64 J:=by have e: [B]= [.int .i64 J]:=a1;simpa using e
 obtain⟨K,a2,_,i2⟩:=r2 n [C] U.1 U.2 (by have e:=c 2 _ u.1;rw[u.2.1,u.2.2]at e;exact e) F2
 obtain rfl:C=.int .i64 K:=by have e: [C]= [.int .i64 K]:=a2;simpa using e
 obtain⟨L,a3,_,i3⟩:=r3 n [D] V.1 V.2 (by have e:=c 3 _ v.1;rw[v.2.1,v.2.2]at e;exact e) F3
 obtain rfl:D=.int .u8 (L.toNat:Int):=by have e: [D]= [.int .u8 (L.toNat:Int)]:=a3;simpa using e
 obtain⟨M,a4,_,i4⟩:=r4 n [E] X.1 X.2 (by have e:=c 4 _ w.1;rw[w.2.1,w.2.2]at e;exact e) F4
 obtain rfl:E=.int .i64 M:=by have e: [E]= [.int .i64 M]:=a4;simpa using e
 obtain⟨N,a5,_,i5⟩:=r5 n [F] Y.1 Y.2 (by have e:=c 5 _ y.1;rw[y.2.1,y.2.2]at e;exact e) F5
 obtain rfl:F=.int .i64 N:=by have e: [F]= [.int .i64 N]:=a5;simpa using e
 obtain⟨y6,O,_,i6⟩:=r6 n [c6] Z.1 Z.2 (by have e:=c 6 _ z.1;rw[z.2.1,z.2.2]at e;exact e) F6
 obtain⟨u6,e,O⟩:=O;obtain rfl:c6=u6:=by simpa using e
 obtain⟨y7,a7,_,i7⟩:=r7 n [c7,c8,c9,G,H] x7.1 x7.2 (by have e:=c 7 _ A.1;rw[A.2.1,A.2.2]at e;exact e) F7
 have e:=a7;unfold R_Ptr at e;simp only[SD,and_true]at e;obtain⟨rfl,rfl,rfl,rfl,rfl⟩:=e;exact⟨⟨I,J,K,L,M,N,y6,y7⟩,⟨_,rfl,O⟩,rfl,⟨i0,i1,i2,i3,i4,i5,i6,i7⟩⟩
def D2 (x:Pool):Prop:=ZAu x.Store∧True∧GB x.Root∧(x.MetaL.length≤reachBytes∧∀y∈x.MetaL,InI64 y)∧(x.Lines.length≤reachBytes∧∀y∈x.Lines,ZDj y)∧(x.Keys.length≤reachBytes∧∀y∈x.Keys,(λl=>l.length≤reachBytes∧∀x∈l,(λ_=>True) x) y)∧(x.Loaded.length≤reachBytes∧∀y∈x.Loaded,(λl=>l.length≤reachBytes∧∀x∈l,(λ_=>True) x) y)∧(x.Changes.length≤reachBytes∧∀y∈x.Changes,BP y)∧InI64 x.Logged∧InI64 x.NextId∧True
theorem ZLV{t:TypeId}{fs:Array Field}{m o p q r s u v w z f:Field}(ht:P.underlying t=some (.struct fs))(hN:P.cellsOf t=19)(hk:fs.size=11)(hl:fs.toList= [m,o,p,q,r,s,u,v,w,z,f])
 (K:fs[0]? =some m∧m.offset=0∧P.cellsOf m.type=5)(r0:ReadsF enc P W m.type R_Store 5 ZAu)
 (L:fs[1]? =some o∧o.offset=5∧P.cellsOf o.type=1)(r1:ReadsF enc P W o.type RU32 1 (λ_=>True))
 (M:fs[2]? =some p∧p.offset=6∧P.cellsOf p.type=5)(r2:ReadsF enc P W p.type R_Ptr 5 GB)
 (N:fs[3]? =some q∧q.offset=11∧P.cellsOf q.type=1)(r3:ReadsF enc P W q.type (RSl RInt 1) 1 (λl=>l.length≤reachBytes∧∀x∈l,InI64 x))
 (O:fs[4]? =some r∧r.offset=12∧P.cellsOf r.type=1)(r4:ReadsF enc P W r.type (RSl R_Line 13) 1 (λl=>l.length≤reachBytes∧∀x∈l,ZDj x))
 (Q:fs[5]? =some s∧s.offset=13∧P.cellsOf s.type=1)(r5:ReadsF enc P W s.type (RSl (RSl RU8 1) 1) 1 (λl=>l.length≤reachBytes∧∀x∈l,(λl=>l.length≤reachBytes∧∀x∈l,(λ_=>True) x) x))
 (R:fs[6]? =some u∧u.offset=14∧P.cellsOf u.type=1)(r6:ReadsF enc P W u.type (RSl (RSl RU8 1) 1) 1 (λl=>l.length≤reachBytes∧∀x∈l,(λl=>l.length≤reachBytes∧∀x∈l,(λ_=>True) x) x))
 (S:fs[7]? =some v∧v.offset=15∧P.cellsOf v.type=1)(r7:ReadsF enc P W v.type (RSl R_Change 12) 1 (λl=>l.length≤reachBytes∧∀x∈l,BP x))
 (T:fs[8]? =some w∧w.offset=16∧P.cellsOf w.type=1)(r8:ReadsF enc P W w.type RInt 1 InI64)
 (U:fs[9]? =some z∧z.offset=17∧P.cellsOf z.type=1)(r9:ReadsF enc P W z.type RInt 1 InI64)
 (g:fs[10]? =some f∧f.offset=18∧P.cellsOf f.type=1)(V:ReadsF enc P W f.type RU32 1 (λ_=>True)):
 ReadsF enc P W t R_Pool 19 D2:=λfuel cs d ps h a=>by
 obtain⟨xs,n,_,hx,c,A,b⟩:=DataW.trod_struct ht h;rw[hN]at c;rw[hk]at A
 match xs,A with
 |[x0,x1,x2,x3,x4,x5,x6,x7,x8,x9,B],_=>
 match cs,c with
 |[c0,c1,c2,c3,c4,X,c6,c7,c8,c9,Y,C,D,E,F,G,i,j,k],_=>
 simp only[T9]at hx;rw[hx.1]at a;have a:=Gt ht a;rw[hl]at a;obtain⟨F0,a⟩:=ZJ a;obtain⟨F1,a⟩:=ZJ a;obtain⟨F2,a⟩:=ZJ a;obtain⟨F3,a⟩:=ZJ a;obtain⟨F4,a⟩:=ZJ a;obtain⟨F5,a⟩:=ZJ a;obtain⟨F6,a⟩:=ZJ a;obtain⟨F7,a⟩:=ZJ a;obtain⟨F8,a⟩:=ZJ a;obtain⟨F9,a⟩:=ZJ a;obtain⟨Z,-⟩:=ZJ a;obtain⟨y0,a0,_,i0⟩:=r0 n [c0,c1,c2,c3,c4] x0.1 x0.2 (by have e:=b 0 _ K.1;rw[K.2.1,K.2.2]at e;exact e) F0
 obtain⟨w0_0,w0_1,w0_2,e,H,I,J⟩:=a0;simp only[SD,and_true]at e;obtain⟨rfl,rfl,rfl,rfl,rfl⟩:=e;obtain⟨y1,a1,_,i1⟩:=r1 n [X] x1.1 x1.2 (by have e:=b 1 _ L.1;rw[L.2.1,L.2.2]at e;exact e) F1
 obtain rfl:X=.int .u32 (y1.toNat:Int):=by have e: [X]= [.int .u32 (y1.toNat:Int)]:=a1;simpa using e
 obtain⟨y2,a2,_,i2⟩:=r2 n [c6,c7,c8,c9,Y] x2.1 x2.2 (by have e:=b 2 _ M.1;rw[M.2.1,M.2.2]at e;exact e) F2
 have e:=a2;unfold R_Ptr at e;simp only[SD,and_true]at e;obtain⟨rfl,rfl,rfl,rfl,rfl⟩:=e;obtain⟨y3,a3,_,i3⟩:=r3 n [C] x3.1 x3.2 (by have e:=b 3 _ N.1;rw[N.2.1,N.2.2]at e;exact e) F3
 obtain⟨u3,e,a3⟩:=a3;obtain rfl:C=u3:=by simpa using e
 obtain⟨y4,a4,_,i4⟩:=r4 n [D] x4.1 x4.2 (by have e:=b 4 _ O.1;rw[O.2.1,O.2.2]at e;exact e) F4
 obtain⟨u4,e,a4⟩:=a4;obtain rfl:D=u4:=by simpa using e
 obtain⟨y5,a5,_,i5⟩:=r5 n [E] x5.1 x5.2 (by have e:=b 5 _ Q.1;rw[Q.2.1,Q.2.2]at e;exact e) F5
 obtain⟨u5,e,a5⟩:=a5;obtain rfl:E=u5:=by simpa using e
 obtain⟨y6,a6,_,i6⟩:=r6 n [F] x6.1 x6.2 (by have e:=b 6 _ R.1;rw[R.2.1,R.2.2]at e;exact e) F6
 obtain⟨u6,e,a6⟩:=a6;obtain rfl:F=u6:=by simpa using e
 obtain⟨y7,a7,_,i7⟩:=r7 n [G] x7.1 x7.2 (by have e:=b 7 _ S.1;rw[S.2.1,S.2.2]at e;exact e) F7
 obtain⟨u7,e,a7⟩:=a7;obtain rfl:G=u7:=by simpa using e
 obtain⟨y8,a8,_,i8⟩:=r8 n [i] x8.1 x8.2 (by have e:=b 8 _ T.1;rw[T.2.1,T.2.2]at e;exact e) F8
 obtain rfl:i=.int .i64 y8:=by have e: [i]= [.int .i64 y8]:=a8;simpa using e
 obtain⟨y9,a9,_,i9⟩:=r9 n [j] x9.1 x9.2 (by have e:=b 9 _ U.1;rw[U.2.1,U.2.2]at e;exact e) F9
 obtain rfl:j=.int .i64 y9:=by have e: [j]= [.int .i64 y9]:=a9;simpa using e
 obtain⟨y,a10,_,i10⟩:=V n [k] B.1 B.2 (by have e:=b 10 _ g.1;rw[g.2.1,g.2.2]at e;exact e) Z
 obtain rfl:k=.int .u32 (y.toNat:Int):=by have e: [k]= [.int .u32 (y.toNat:Int)]:=a10;simpa using e
 exact⟨⟨y0,y1,y2,y3,y4,y5,y6,y7,y8,y9,y⟩,⟨_,_,_,_,_,_,_,_,rfl,H,I,J,a3,a4,a5,a6,a7⟩,rfl,⟨i0,i1,i2,i3,i4,i5,i6,i7,i8,i9,i10⟩⟩
end
end Go.Ow
namespace Go.Ow
open Go.RowKit
theorem ZS3{p:Pool}{id:Int}{x:Line}{e:Int}(h:XE p id=some (x,e))(a:x.Dead.length≤240):ZAv p id=some (x,e):=by
 unfold ZAv YE;rw[h,TA,JK (by dsimp only;omega)];rfl
theorem ZN3{p:Pool}(b:SizedP p)(id:Int){x:Line}{e:Int}(h:XE p id=some (x,e)):x.Dead.length≤240:=by
  rw[ZO1 b id]at h;cases c:dec (OKPool p)with
  |false=>rw[c]at h;cases h;exact Ti _
  | true=>
    rw[c,TH rfl]at h;cases a:findL p.Lines id with
    |none=>rw[a]at h;cases h;exact Ti _
    | some i=>
      rw[a]at h;obtain⟨h1,_⟩:=Vy a;have e1:p.Lines.getD i zeroL=x:=(Prod.mk.inj (TK h)).1;rw[←e1,ST,TJ h1];exact ZMo (Dg c) _ (SU h1)
theorem law_DataFrozen (p:Pool)(id n k:Int)(b:List UInt8)(d:UInt8)(s:Int)(h:FitP p):law20_DataFrozen p id n k b d s=some true:=by
  unfold law20_DataFrozen;obtain⟨g,B,C⟩:=ZTD h;rw[ZTn,TA,B,TA];cases g with
  |true=>rfl
  | false =>
    have few:=C rfl;rw[TI];by_cases hb:(1000:Int)<(b.length:Int)
    · rw[TD hb];rfl
    · rw [TB hb,TI,Sd,TA,TI];have z:SizedP p:=⟨h.sized,by have:=few.metas;omega,by have:=few.changes;omega⟩;obtain⟨x,e,t,m⟩:=ZMV z id;obtain⟨q,f,D,E,o⟩:=ZTJ few.changes (id:=id) (n:=n) (k:=k) (b:=b) (by omega) t m;obtain⟨r,j,F,A,u⟩:=ZUn few.changes (id:=id) (n:=n) (s:=s) (k:=d) t m;rw[ZS3 t (ZN3 z id t),TA,D,TA,F,TA];dsimp only;have G:(cond (!(decide (f=0))) (cond (!(decide ((q.Lines.length:Int)=0))) (some true) (cond (!(decide ((q.Store.Space.length:Int)=0))) (some true) (cond (!(decide (j=0))) (cond (!(decide ((r.Lines.length:Int)=0))) (some true) (some (!(decide ((r.Store.Space.length:Int)=0))))) (some false)))) (cond (!(decide (j=0))) (cond (!(decide ((r.Lines.length:Int)=0))) (some true) (some (!(decide ((r.Store.Space.length:Int)=0))))) (some false)))=some false:=by
        by_cases a:f=0
        · rw[ZHJ a,TI];by_cases i:j=0
          · rw[ZHJ i,TI]
          · rw[ZCJ i,TQ,A i];rfl
        · rw[ZCJ a,TQ,E a];by_cases i:j=0
          · rw[ZHJ i];rfl
          · rw[ZCJ i,A i];rfl
      rw[G,TA,TI];by_cases c:e=0
      · rw [ZHJ c,TI];by_cases a:x.Kind=2
        · rw[TD a,TQ,TD (o.snap c a),TD (u.snap c a)];rfl
        · rw [TB a,TI];have H:∀w:Bool,(cond (decide (0≤n)) (some (decide (n<16))) (some false))=some (decide (0≤n∧n<16)):=λ_=>by
            by_cases l:0≤n<;>simp[l]
          rw[H true,TA,TQ];by_cases l:0≤n∧n<16
          · simp only[TD l,TQ];by_cases v:0≤k
            · rw[TD v,TQ];by_cases y:k<15
              · rw[TD y];rfl
              · rw[TB y,TI,TD (o.out c a (λh=>y h.2.2))];rfl
            · rw[TB v,TI,TD (o.out c a (λh=>v h.2.1))];rfl
          · rw[TB l,TI,TI,TD (o.out c a (λh=>l h.1)),TD (u.out c a l)];rfl
      · rw[ZCJ c,TQ,TQ,TD (o.err c),TD (u.err c)];rfl
theorem ZTG{p:Pool}(k:D2 p):FitP p:=by
 obtain⟨⟨⟨d,a⟩,-,-⟩,-,-,m,g,i,j,l,-⟩:=k;refine⟨⟨TU d.1 (by decide),TU a.1 (by decide),λw e=>(a.2 w e).1⟩,⟨d.1,a.1,λb hb=>(d.2 b hb).1,λw e=>(a.2 w e).2.1⟩,m.1,g.1,i.1,j.1,l.1,λL n=> ?_,λx f=>(i.2 x f).1,λx f=>(j.2 x f).1,λc o=> ?_⟩
 · obtain⟨-,-,-,-,-,-,-,-,h⟩:=g.2 L n;exact h.1
 · obtain⟨-,-,-,-,-,-,h,-⟩:=l.2 c o;exact h.1
end Go.Ow
