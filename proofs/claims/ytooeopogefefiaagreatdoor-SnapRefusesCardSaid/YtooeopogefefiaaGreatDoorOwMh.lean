import Derived.Test.YtooeopogefefiaaGreatDoorOwMg
import Derived.KernelRfl
import Derived.Test.YtooeopogefefiaaGreatDoorOwMb
import Derived.Carry
import Derived.WalkKit
import Derived.ProofKit
import Derived.OpenShut
import Derived.JoinedCond
import Derived.HandedShaped
/-
  What is proved here: numbers as bytes and back; a sum is always told; pointers as bytes: in plain words.
-/
set_option linter.unusedSimpArgs false
set_option linter.unusedVariables false
namespace Go.Ow
open Go.Pv (chunkR backR chunkO)
theorem ZLG (k:Int):U1 k=some (decide (0<k/\k<=4)):=by
 unfold U1;by_cases h:0<k
 . rw[TV h];simp only[Tu,TA];congr 1;simp only[decide_eq_decide];omega
 . rw[TT h];simp only[Tr,TA];congr 1;rw[TT (λe=>h e.1)]
theorem ZUf{k:Nat}(h1:1<=k)(h:k<=4):sli 1 (w64 (8*(k:Int)))=((256^k:Nat):Int)/\256^k<=4294967296:=by
 have:k=1\/k=2\/k=3\/k=4:=by omega
 rcases this with rfl|rfl|rfl|rfl<;>decide
theorem VV{β:Type}{p:Prop} [Decidable p]{k:Option β}(h:p):chk p k=k:=by unfold chk;exact TG h
theorem ZOP (a:UInt32)(n:Int):∃r,Y1 a n=some r:=⟨_,rfl⟩
theorem ZFC (a b:Int)(c d e f:UInt32):∃r,XD a b c d e f=some r:=by
 unfold XD;obtain⟨r,h⟩:=ZOP (f^^^(c+d)) a;rw[h];simp only[TA];obtain⟨i,g⟩:=ZOP (d^^^(e+r)) b;rw[g];exact⟨_,rfl⟩
theorem ZM7 (a b c d:UInt32):∃r,Q0 a b c d=some r:=by
 unfold Q0;obtain⟨r,h⟩:=ZFC 15 11 a b c d;rw[h];simp only[TA];obtain⟨f,e⟩:=ZFC 9 6 r.1 r.2.1 r.2.2.1 r.2.2.2;rw[e];exact⟨_,rfl⟩
theorem ZJG (a b c d:UInt32)(n:Int)(hn:n<=100):∃r,Yt a b c d n=some r:=by
 unfold Yt;obtain⟨t,h1,-⟩:=ZBH (body:=Kh n) (λs=>0<=s.2.2.2.2/\s.2.2.2.2<=100) (λs=>100-s.2.2.2.2.toNat) (λ_=>True) (by
  rintro⟨a,b,c,d,i⟩ ⟨hi,e⟩;simp only at hi e;unfold Kh;dsimp only;by_cases h:i<n
  . left;rw[TV h];obtain⟨r,f⟩:=ZM7 a b c d;simp only[Tu];rw[f];refine⟨_,rfl,?_,?_⟩
    . simp only;rw[ZX (by omega) (by omega)];omega
    . simp only;rw[ZX (by omega) (by omega)];omega
  . right;rw[TT h];exact⟨_,rfl,trivial⟩) (s:=(a,b,c,d,0)) ⟨by simp,by simp⟩ (RH (Nat.sub_le _ _) (VF (by omega)))
 rw[h1];exact⟨_,rfl⟩
theorem ZH8{n:Nat}(hn:0<n):∀(f:Nat) (l:List UInt8),l.length<=f->l.length%n=0->∀y∈Zp n f l,y.length=n
  |0,l,h,_,y,a=>by simp[Zp]at a
  | f + 1,l,h,e,y,a=>by
    by_cases c:l= []
    . subst c;simp[Zp]at a
    . rw[Wo c]at a;have g:=Rl.2 c;have b:n<=l.length:=by
        rcases SX l.length n with d|d
        . rw[Tv d]at e;omega
        . exact d
      rcases Ta.1 a with rfl|a
      . simp only[TH];omega
      . refine ZH8 hn f _ (by simp only[TP];omega) ?_ y a;rw[TP,<-Nat.mod_eq_sub_mod b];exact e
def pad8 (n:Nat):Nat:=(8-n%8)%8
theorem ZPW{n:Nat}(h:n%8≠0):pad8 (n+1)+1=pad8 n:=by
 unfold pad8;have:n%8=1\/n%8=2\/n%8=3\/n%8=4\/n%8=5\/n%8=6\/n%8=7:=by omega
 rcases this with h|h|h|h|h|h|h<;>rw[Nat.add_mod,h]
theorem ZOT (n:Nat):pad8 n<=8:=by unfold pad8;omega
theorem ZS1{l:List UInt8}(h:l.length<=100000):∃t,loop X5 l=some t/\t.length%8=0/\t.length<=100016:=by
 obtain⟨t,h1,h2⟩:=ZBH (body:=X5) (λs=>s.length+pad8 s.length<=100008) (λs=>pad8 s.length) (λt=>t.length%8=0/\t.length<=100016) (by
  intro s hs;unfold X5;rw[Int.tmod_eq_emod_of_nonneg (by omega)];by_cases c:s.length%8=0
  . right;rw[TV (show(s.length:Int)%8=0 by omega)];exact⟨_,rfl,c,by omega⟩
  . left;have:=ZPW c;rw[TT (show¬(s.length:Int)%8=0 by omega)];simp only[Bool.not_false,Tu];rw[B7 (by simp only[TZ,T6,LIM];omega)];exact⟨_,rfl,by simp only[TF,TZ,T6,Tf];omega,by simp only[TF,TZ,T6,Tf];omega⟩) (s:=l) (by have:=ZOT l.length;omega) (RH (ZOT _) (VF (by omega)))
 exact⟨t,h1,h2⟩
end Go.Ow
namespace Go.Ow
theorem ZUa{σ τ:Type}{body:σ->Option (σ ⊕ τ)}{n:Nat}{s s':σ}(h:body s=some (.inl s')):run body (n+1) s=run body n s':=by
 show Option.bind (body s) _=_;rw[h];rfl
theorem ZUc{σ τ:Type}{body:σ->Option (σ ⊕ τ)}{n:Nat}{s:σ}{t:τ}(h:body s=some (.inr t)):run body (n+1) s=some t:=by
 show Option.bind (body s) _=_;rw[h];rfl
def isNone (p:Ptr):Prop:=p.At=0/\p.Birth=0/\p.Iv=0/\p.Tag=0/\p.Sum=0
instance (p:Ptr):Decidable (isNone p):=by unfold isNone;infer_instance
def okR (p:Ptr):Prop:=12<=p.At/\p.At<256/\(1:UInt32)<=p.Birth/\p.Birth<=16777215
instance (p:Ptr):Decidable (okR p):=by unfold okR;infer_instance
theorem ZLk (p:Ptr):(decide (p.At=0)&&(decide (p.Birth=(0:UInt32))&&(decide (p.Iv=(0:UInt32))&&(decide (p.Tag=(0:UInt32))&&(decide (p.Sum=(0:UInt32))&&true)))))=decide (isNone p):=by
 rw[So];simp only[TE,SF,and_true];exact Iff.rfl
theorem Zq (p:Ptr):YF p=some (if isNone p\/okR p then 0 else 8):=by
 unfold YF;rw[ZLk];by_cases h0:isNone p
 . rw[TV h0,TG (.inl h0)];rfl
 rw[TT h0];by_cases h:okR p
 . rw[TG (.inr h)];obtain⟨h1,h2,h3,a⟩:=h;rw[TT (show¬p.At<12 by omega),TT (show¬256<=p.At by omega),TT (show¬p.Birth<1 from UInt32.not_lt.2 h3),TT (show¬(16777215:UInt32)<p.Birth from UInt32.not_lt.2 a)];rfl
 . rw[TM (λe=>e.elim h0 h)];by_cases h1:p.At<12
   . rw[TV h1];rfl
   by_cases h2:256<=p.At
   . rw[TT h1,TV h2];rfl
   by_cases h3:p.Birth<1
   . rw[TT h1,TT h2,TV h3];rfl
   by_cases a:(16777215:UInt32)<p.Birth
   . rw[TT h1,TT h2,TT h3,TV a];rfl
   exact absurd ⟨by omega,by omega,UInt32.not_lt.1 h3,UInt32.not_lt.1 a⟩ h
theorem XC:Sized noD:=⟨by simp[noD],by simp[noD],by simp[noD]⟩
theorem ZDN (d:Disk)(at':Int)(b:List UInt8):((Df d at' b).2≠0/\(Df d at' b).1=noD)\/(OKD d/\(0<=at'/\at'<256)/\b.length=256/\d.Waits.length≠4096/\Df d at' b=(Disk.mk d.Blocks (d.Waits++ [Write.mk at' b]),0)):=by
 unfold Df;by_cases c:OKD d
 . by_cases a:0<=at'/\at'<256
   . by_cases e:b.length=256
     . by_cases f:d.Waits.length=4096
       . left;rw[TG c,TG a,TG e,TG f];exact⟨by decide,rfl⟩
       . right;rw[TG c,TG a,TG e,TM f];exact⟨c,a,e,f,rfl⟩
     . left;rw[TG c,TG a,TM e];exact⟨by decide,rfl⟩
   . left;rw[TG c,TM a];exact⟨by decide,rfl⟩
 . left;rw[TM c];exact⟨by decide,rfl⟩
def okS (s:List UInt8):Prop:=s.length=256/\(∀b∈s,b<=2)/\∀b∈s.take 12,b=1
instance (s:List UInt8):Decidable (okS s):=by unfold okS;infer_instance
theorem ZSq{a b c:UInt8}:maxB a b<=c↔a<=c/\b<=c:=by
 unfold maxB;simp only[Ri,RE];split<;>omega
theorem ZQ8 (s:List UInt8)(h:s.length<=1000)(a:UInt8):loop (XB s) (a,1)=some ((s.drop 1).foldl maxB a):=by
 have:=BX (s.drop 1) (λi r=>(r,i+1)) (body:=XB s) (τ:=UInt8) (λy r=>some (.inl (maxB r y))) (λr=>r)
  (λi hi r=>by
   have b:i+1<s.length:=(by rw[TP]at hi;omega);unfold XB;rw[cI,TG b,Xb _ b];simp only[List.getElem_drop,Nat.add_comm 1 i];rfl)
  (λr=>by
   unfold XB;rw[cI,TM (by rw[TP];omega)])
  (RH (by rw[TP];omega) (show 1000<FUEL by decide)) a
 rw[this,Uu];rfl
theorem ZPq (l:List UInt8)(a c:UInt8):l.foldl maxB a<=c↔a<=c/\∀b∈l,b<=c:=by
 induction l generalizing a with
 |nil=>simp
 |cons b l i=>rw[Ss,i,ZSq];simp[and_assoc]
theorem ZUo{s:List UInt8}(h:s.length<=1000)(h0:0<s.length):∃m,KS s=some m/\∀c,m<=c↔∀b∈s,b<=c:=by
 refine⟨(s.drop 1).foldl maxB s[0],?_,λc=> ?_⟩
 . unfold KS;rw[TT (by omega),Tr,show(0:Int)=((0:Nat):Int)from rfl,Xb _ h0,ZQ8 s h,TA]
 . rw[ZPq];cases s with
   |nil=>simp at h0
   |cons a l=>simp
theorem ZTA (l:List UInt8)(k:Nat):l.foldl (λn x=>if x==(1:UInt8)then n+1 else n) k<=k+l.length/\(l.foldl (λn x=>if x==(1:UInt8)then n+1 else n) k=k+l.length↔∀b∈l,b=1):=by
  induction l generalizing k with
  |nil=>simp
  | cons b l i=>
    rw[Ss];by_cases c:b=1
    . subst c;have:=i (k+1);simp only[beq_self_eq_true,if_true,TZ,List.forall_mem_cons,Rd];exact⟨by omega,by rw[<-this.2];omega⟩
    . have:=i k;rw[TM (by simpa using c)];simp only[TZ,List.forall_mem_cons];exact⟨by omega,⟨λe=>by omega,λe=>absurd e.1 c⟩⟩
theorem VE (s:List UInt8):Qi s=some (if okS s then 0 else 8):=by
 unfold Qi;by_cases f:s.length=256
 . rw [show(!decide ((s.length:Int)=256))=false by rw[TV (by omega)];rfl,Tr];obtain⟨m,i,a⟩:=ZUo (s:=s) (by omega) (by omega);rw[i,TA];by_cases hb:∀b∈s,b<=2
   . have:=(a 2).2 hb;rw[TT (by rw[RE];rw[Ri]at this;omega),Tr,ZQi (by omega) (by omega) (by omega)];have j:cut s 0 12=s.take 12:=(by simp[cut]);rw[j];unfold Wv;rw[TT (by simp),Tr,TV (by simp),Tu,show(0:Int)=((0:Nat):Int)from rfl,Xb _ (by simp),TA];have c:=ZTA (s.take 12) 0;have d:(s.take 12).length=12:=(by rw[TH];omega);rw[d]at c;obtain⟨q,g⟩:∃q,q=cntB (s.take 12) ([(1:UInt8)][0]):=⟨_,rfl⟩;rw[<-g];have k:q=(s.take 12).foldl (λn x=>if x==(1:UInt8)then n+1 else n) 0:=g;by_cases h1:∀b∈s.take 12,b=1
     . have e:=c.2.2 h1;rw[TG ⟨f,hb,h1⟩,TV (by omega)];rfl
     . have e:¬q=12:=λe=>h1 (c.2.1 (by omega));rw[TM (λh=>h1 h.2.2),TT (by omega)];rfl
   . have:¬m<=2:=λh=>hb ((a 2).1 h);rw[TV (by rw[RE];rw[Ri]at this;omega),Tu,TM (λh=>hb h.2.1)];rfl
 . rw[show(!decide ((s.length:Int)=256))=true by rw[TT (by omega)];rfl,Tu,TM (λh=>f h.1)];rfl
theorem ZE8{l:List UInt8}(h:l.length<=1000000):Zs l=some l:=by
 unfold Zs;rw[B7 (TQ (by simpa using h) (by decide))];rfl
def OKSt (s:Store):Prop:=OKD s.Disk/\okS s.Space/\(1:UInt32)<=s.Epoch/\s.Epoch<=65535/\s.Count<=65535
instance (s:Store):Decidable (OKSt s):=by unfold OKSt;infer_instance
theorem ndec{e:Int}(h:e≠0):(!decide (e=0))=true:=by rw[TT h];rfl
theorem zdec:(!decide ((0:Int)=0))=false:=rfl
theorem ZRk (a b:UInt32):decide (a<b)= !decide (b<=a):=by
 rw[<-decide_not];apply decide_eq_decide.2;rw[UInt32.lt_iff_toNat_lt,UInt32.le_iff_toNat_le];omega
theorem Xq{s:Store}(h:Sized s.Disk):Y3 s=some (if OKSt s then 0 else 8):=by
 unfold Y3;rw[US h,TA];by_cases b:OKD s.Disk
 . rw [TG b,zdec,Tr,VE,TA];by_cases d:okS s.Space
   . rw [TG d,zdec,Tr,ZRk,ZRk,ZRk];by_cases c:(1:UInt32)<=s.Epoch
     . by_cases a:s.Epoch<=65535
       . by_cases e:s.Count<=65535
         . rw[TG ⟨b,d,c,a,e⟩,TV c,TV a,TV e];rfl
         . rw[TM (λh=>e h.2.2.2.2),TV c,TV a,TT e];rfl
       . rw[TM (λh=>a h.2.2.2.1),TV c,TT a];rfl
     . rw[TM (λh=>c h.2.2.1),TT c];rfl
   . rw[TM d,ndec (by omega),Tu,TM (λh=>d h.2.1)];rfl
 . rw[TM b,ndec (by omega),Tu,TM (λh=>b h.1)];rfl
theorem OKSt.sized{s:Store}(h:OKSt s):Sized s.Disk:=h.1.sized
theorem nbeq{α:Type} [DecidableEq α]{a b:α}(h:a=b):(!decide (a=b))=false:=by rw[TV h];rfl
theorem nbne{α:Type} [DecidableEq α]{a b:α}(h:¬a=b):(!decide (a=b))=true:=by rw[TT h];rfl
open Go.Pv (chunkR backR chunkO)
theorem ZUp{n:Nat}(h:n<=1000000):n<=LIM:=TQ h (by decide)
def okP (p:Ptr):Prop:=isNone p\/okR p
instance (p:Ptr):Decidable (okP p):=by unfold okP;infer_instance
theorem ZEE:∀(f:Nat) (b:List UInt8) (n:Nat),b.length<=f->b.length=16*n->(Zp 16 f b).length=n
  |0,b,n,h,e=>by simp[Zp];omega
  | f +1,b,n,h,e=>by
    by_cases hb:b= []
    . subst hb;rw[U2];simp at e|-;omega
    . have:=Rl.2 hb;obtain⟨n,rfl⟩:∃m,n=m+1:=⟨n-1,by omega⟩;rw[Wo hb,TZ,ZEE f (b.drop 16) n (by rw[TP];omega) (by rw[TP];omega)]
def okO (o:Object):Prop:=((1:Int)<=(o.Kind.toNat:Int)/\(o.Kind.toNat:Int)<=7)/\(0<=o.Links/\o.Links<=255)/\(0<=o.Size/\o.Size<=3840)/\o.Data.length=15/\∀p∈o.Data,okP p
instance (o:Object):Decidable (okO o):=by unfold okO;infer_instance
theorem ZI2 (n a b:Int):XW n a b=some (decide (a<=n/\n<=b)):=by
 unfold XW;by_cases h:a<=n
 . rw[TV h,Tu];simp[h]
 . rw[TT h,Tr];simp[h]
theorem ZUx{n:Nat}(h:n<=1000000000000):n+2<FUEL:=RH (Nat.add_le_add_right h 2) (by decide)
def midT (i j:Int):Int:=w64 ((sr64 (u64i (w64 (i+j))) (((1:UInt64).toNat:Int)).toNat).toNat:Int)
theorem ZUn{i j:Nat}(h:i<=j)(a:j<=1000000000000):midT (i:Int) (j:Int)=(((i+j)/2:Nat):Int):=by
 unfold midT;have h1:w64 ((i:Int)+(j:Int))=(((i+j:Nat)):Int):=by rw[ZX (by omega) (by omega)];omega
 rw[h1];have h2:(u64i (((i+j:Nat)):Int)).toNat=i+j:=by
  unfold u64i;simp only[RM];omega
 have h3:(sr64 (u64i (((i+j:Nat)):Int)) (((1:UInt64).toNat:Int)).toNat).toNat=(i+j)/2:=by
  unfold sr64;rw[h2];simp only[RM];have:(2:Nat)^(min (((1:UInt64).toNat:Int)).toNat 64)=2:=by decide
  rw[this];omega
 rw[h3,ZX (by omega) (by omega)]
def sgI (a b:Int):Int:=if a<b then -1 else if b<a then 1 else 0
theorem Bn (a b:Int):Zd a b=some (sgI a b):=by
 unfold Zd KL sgI;by_cases h1:a<b
 . simp[h1]
 . by_cases h2:b<a<;>simp[h1,h2]
noncomputable def dec (p:Prop):Bool:=@decide p (Classical.propDecidable p)
theorem ZOu (i n:Nat)(h:i<n):decide ((i:Int)<(n:Int))=true:=TV (by omega)
theorem ZOv (n:Nat):decide ((n:Int)<(n:Int))=false:=TT (by omega)
def okH (c:Change):Bool:=decide (c.Data.length=0)&&(decide (isNone c.Laid)&&(decide (c.Kind<=7)&&(decide (0<=c.Links)&&(decide (c.Links<=255)&&(decide (0<=c.Size)&&(decide (c.Size<=3840)&&(decide (0<c.Kind) ||(decide (c.Links=0)&&decide (c.Size=0)))))))))
def okB (c:Change):Bool:=decide (c.Kind=0)&&(decide (c.Links=0)&&(decide (c.Size=0)&&((decide (c.Data.length=0) ||decide (c.Data.length=256))&&decide (okP c.Laid))))
def okC (c:Change):Bool:=decide (0<=c.Obj)&&(decide (c.Obj<=15)&&(decide (0<=c.Index)&&(decide (c.Index<=15)&&(if c.Index=15 then okH c else okB c))))
def lt3 (a b c x y z:Int):Prop:=a<x\/(a=x/\(b<y\/(b=y/\c<z)))
instance (a b c x y z:Int):Decidable (lt3 a b c x y z):=by unfold lt3;infer_instance
def okM (p:Pool)(i:Nat)(a:Int):Bool:=decide (12<=a)&&(decide (a<=255)&&((decide (i=0) ||(p.MetaL[i-1]?.any λq=>decide (q<a)))&&(p.Store.Space[a.toNat]?.any λy=>decide (y=1))))
theorem ZDU{σ τ:Type}{body:σ->Option (σ ⊕ τ)}(st:Nat->σ)(r:τ)(n:Nat)(step:∀i,i<n->body (st i)=some (.inl (st (i+1))))(s:body (st n)=some (.inr r))(hn:n<=1000000):loop body (st 0)=some r:=by
  have a:∀(k i f:Nat),i+k=n->k<f->run body f (st i)=some r:=by
    intro k;induction k with
    | zero=>
      intro i f hi h;obtain⟨f,rfl⟩:∃q,f=q+1:=⟨f-1,by omega⟩;obtain rfl:i=n:=(by omega);exact ZUc s
    | succ k b=>
      intro i f hi h;obtain⟨f,rfl⟩:∃q,f=q+1:=⟨f-1,by omega⟩;rw[ZUa (step i (by omega))];exact b (i+1) f (by omega) (by omega)
  exact a n 0 FUEL (by omega) (VF (by omega))
theorem BG{α β:Type}{l:List α}{k:List α->Option β}(h:l.length<=1000000):app [] l k=k l:=by rw[B7 (by simp only[T6];have:=ZUp h;omega)];rfl
theorem ZA8{α β:Type}{l:List α}{i:Nat}{y:α}{k:List α->Option β}(h:i<l.length)(e:y=l[i]):setI l (i:Int) y k=k l:=by
 rw[ZOM (by omega) (by simpa using h)];subst e;simp
theorem ZAf{α β:Type}{l:List α}{i:Nat}{k:Option β}(h:i<l.length):chk (0<=(i:Int)/\(i:Int).toNat<l.length) k=k:=VV ⟨by omega,by simpa using h⟩
theorem ZDP{i:Nat}(h:i<=1000000):w64 ((i:Int)+1)=((i+1:Nat):Int):=by rw[ZX (by omega) (by omega)];omega
theorem ZBo{s:Store}(h:OKSt s):Uf s=some s:=by
 unfold Uf;rw[ZI3 h.1.mid,TA,ZE8 (by rw[h.2.1.1];omega)];rfl
def Tot{α:Type}(x:Option α)(P:α->Prop):Prop:=∃r,x=some r/\P r
section
variable{α β σ τ:Type}
theorem R0{P:α->Prop}{r:α}(h:P r):Tot (some r) P:=⟨r,rfl,h⟩
theorem Tot.bind{x:Option α}{f:α->Option β}{P:α->Prop}{Q:β->Prop}(h:Tot x P)(k:∀r,P r->Tot (f r) Q):Tot (x.bind f) Q:=by
 obtain⟨r,rfl,h⟩:=h;exact k r h
theorem Tot.mono{x:Option α}{P Q:α->Prop}(h:Tot x P)(k:∀r,P r->Q r):Tot x Q:=by
 obtain⟨r,e,h⟩:=h;exact⟨r,e,k r h⟩
theorem Tot.cond{x y:Option α}{b:Bool}{Q:α->Prop}(h:b=true->Tot x Q)(k:b=false->Tot y Q):Tot (cond b x y) Q:=by
 cases b with
 |false=>exact k rfl
 |true=>exact h rfl
theorem Tot.chk{p:Prop} [Decidable p]{x:Option α}{Q:α->Prop}(h:p)(k:Tot x Q):Tot (chk p x) Q:=by rw[VV h];exact k
theorem Tot.idx{l:List α}{i:Int}{f:α->Option β}{Q:β->Prop}(h0:0<=i)(h1:i.toNat<l.length)(k:∀y,l[i.toNat]? =some y->Tot (f y) Q):Tot (idx l i f) Q:=by
 unfold Ow.idx;rw[TG h0,TO h1];exact k _ (TO h1)
theorem Tot.setI{l:List α}{i:Int}{y:α}{f:List α->Option β}{Q:β->Prop}(h0:0<=i)(h1:i.toNat<l.length)(k:Tot (f (l.set i.toNat y)) Q):Tot (setI l i y f) Q:=by
 unfold Ow.setI;rw[TG ⟨h0,h1⟩];exact k
theorem Tot.app{l m:List α}{f:List α->Option β}{Q:β->Prop}(h:l.length+m.length<=1000000)(k:Tot (f (l++m)) Q):Tot (app l m f) Q:=by
 unfold Ow.app;rw[TG (TQ h (by decide))];exact k
theorem Tot.slc{l:List α}{a b:Int}{f:List α->Option β}{Q:β->Prop}(h0:0<=a)(h1:a<=b)(h2:b<=l.length)(k:∀m,m=cut l a b->m.length=(b-a).toNat->Tot (f m) Q):Tot (slc l a b f) Q:=by
 unfold Ow.slc;rw[TG ⟨h0,h1,h2⟩];exact k _ rfl (by unfold Ow.cut;rw[TH,TP];omega)
theorem Tot.mks{n:Int}{z:α}{f:List α->Option β}{Q:β->Prop}(h:0<=n)(h1:n<=1000000)(k:Tot (f (List.replicate n.toNat z)) Q):Tot (mks n z f) Q:=by
 unfold Ow.mks;rw[TG ⟨h,TQ (show n.toNat<=1000000 by omega) (by decide)⟩];exact k
theorem R3{x:Option (σ ⊕ τ)}{f:σ->Option β}{g:τ->Option β}{P:σ->Prop}{R:τ->Prop}{Q:β->Prop}(h:Tot x (Sum.elim P R))(k:∀a,P a->Tot (f a) Q)(j:∀b,R b->Tot (g b) Q):Tot (x.bind (Sum.elim f g)) Q:=
 h.bind λo c=>by
  cases o with
  |inl a=>exact k a c
  |inr b=>exact j b c
theorem Tot.run{body:σ->Option (σ ⊕ τ)}(I:σ->Prop)(m:σ->Nat){Q:τ->Prop}(step:∀s,I s->Tot (body s) (Sum.elim (λs'=>I s'/\m s'<m s) Q)):∀n s,I s->m s<n->Tot (run body n s) Q
  |0,s,_,h=>absurd h (Tl _)
  | n+1,s,hI,h=>by
    obtain⟨o,e,a⟩:=step s hI;unfold Ow.run;rw[e,TA];cases o with
    |inl s'=>exact Tot.run I m step n s' a.1 (by have:m s'<m s:=a.2;omega)
    |inr t=>exact⟨t,rfl,a⟩
theorem Tot.loop{body:σ->Option (σ ⊕ τ)}(I:σ->Prop)(m:σ->Nat){Q:τ->Prop}{s:σ}(hI:I s)(h:m s<=1000000)(step:∀s,I s->Tot (body s) (Sum.elim (λs'=>I s'/\m s'<m s) Q)):Tot (loop body s) Q:=
 Tot.run I m step _ s hI (RH h (by decide))
theorem Px{body:α->σ->Option (σ ⊕ τ)}(I:Nat->σ->Prop){R:τ->Prop}:∀(l:List α) {s:σ},I l.length s->(∀y∈l,∀n s,I (n+1) s->Tot (body y s) (Sum.elim (I n) R))->Tot (forL body l s) (Sum.elim (I 0) R)
  |[],s,h,_=>⟨_,rfl,h⟩
  | y::l,s,h,k=>by
    obtain⟨o,e,a⟩:=k y (List.mem_cons_self ..) _ _ h;unfold Ow.forL;rw[e,TA];cases o with
    |inl s'=>exact Px I l a λy b=>k y (Sl _ b)
    |inr t=>exact⟨_,rfl,a⟩
end
theorem Yd{e:Int}(h:(!decide (e=0))=false):e=0:=by simpa using h
theorem BV{e:Int}(h:(!decide (e=0))=true):e≠0:=by simpa using h
theorem ZLV (a:Int){k:Nat}(h1:1<=k)(d:k<=4):Tot (Zk a (k:Int)) λr=>r.1.length<=k/\(0<=a->a<256^k->r.1.length=k/\r.2=0):=by
 unfold Zk;obtain⟨e,g⟩:=ZUf h1 d;rw[ZLG,TA,TV (show 0<(k:Int)/\(k:Int)<=4 by omega),e,Rz,Tr];refine Tot.bind (P:=λx=>x=true->0<=a->a<256^k->False) (Tot.cond (λc=>R0 λ_ h=>absurd (TC c) (by omega)) λ_=>.chk (by rw[ZX (by omega) (by omega)];omega) (R0 λc _ h=>absurd (TC c) (by rw[Int.natCast_pow];exact Int.not_le.2 h))) λx f=>Tot.cond (λc=>R0 ⟨TK _,λp q=>(f c p q).elim⟩) λ_=> ?_;refine Tot.bind (P:=λr=>r.length=k) ?_ λr b=>R0 ⟨Nat.le_of_eq b,λ_ _=>⟨b,rfl⟩⟩;refine Tot.loop (λs=>s.2.length<=k) (λs=>k-s.2.length) (TK _) (by show k-0<=_;omega) λs hs=> ?_;unfold ZFe;refine Tot.cond (λc=>.app (by simp;omega) (R0 ⟨?_,?_⟩)) λc=>R0 ?_
 . have c:=TC c;show(s.2++ [u8i s.1]).length<=k;rw[TF];show s.2.length+1<=k;omega
 . have c:=TC c;show k-(s.2++ [u8i s.1]).length<k-s.2.length;rw[TF];show k-(s.2.length+1)<k-s.2.length;omega
 . have c:=of_decide_eq_false c;show s.2.length=k;omega
theorem Jd (a:Int){k:Nat}(h1:1<=k)(b:k<=4):Tot (Zk a (k:Int)) λr=>r.1.length<=k:=(ZLV a h1 b).mono λ_ h=>h.1
theorem ZJ7 (n:UInt32):Tot (Zk (n.toNat:Int) 4) λr=>r.1.length=4/\r.2=0:=(ZLV (n.toNat:Int) (k:=4) (by decide) (by decide)).mono λ_ h=>h.2 (Se _) (by have:=n.toNat_lt;omega)
theorem GZ (p:Ptr):Tot (Qy p) λr=>r.1.length<=16:=by
 unfold Qy;rw[Zq,TA];refine Tot.cond (λ_=>R0 (TK _)) λ_=> ?_;show Tot (Option.bind (some ()) _) _;rw[TA];refine(Jd _ (k:=1) (by decide) (by decide)).bind λa h=>.app (by simp;omega) ?_;refine(Jd _ (k:=3) (by decide) (by decide)).bind λb hb=>.app (by simp;omega) ?_;refine(Jd _ (k:=4) (by decide) (by decide)).bind λc f=>.app (by simp;omega) ?_;refine(Jd _ (k:=4) (by decide) (by decide)).bind λd g=>.app (by simp;omega) ?_;refine(Jd _ (k:=4) (by decide) (by decide)).bind λe i=>.app (by simp;omega) (R0 ?_);simp only[TF,T6];omega
theorem ZJ2 (l:List Ptr):Tot (Gn l) λr=>r.1.length<=256/\(r.2=0->r.1.length=256):=by
 unfold Gn rwP;refine Tot.cond (λ_=>R0 ⟨TK _,λh=>absurd h (by decide)⟩) λc=> ?_;have b:l.length<=16:=by have:=of_decide_eq_false c;omega
 refine R3 (P:=λt=>t.length<=256) (R:=λe:Int=>e≠0) ?_ (λt ht=> ?_) λe a=>R0 ⟨TK _,λh=>absurd h a⟩
 . refine Tot.loop (λs=>s.2<=l.length/\s.1.length<=16*s.2) (λs=>l.length-s.2) ⟨TK _,TK _⟩ (by show l.length-0<=_;omega) λs hs=> ?_;unfold rwL;refine Tot.cond (λh=> ?_) λh=>R0 (by show s.1.length<=256;omega);have h:=TC h;refine Tot.idx (by omega) (by omega) λy _=>(GZ y).bind λx d=>Tot.cond (λh=>R0 (BV h)) λ_=> ?_;unfold appN;rw[TG (by omega)];refine R0 ⟨⟨?_,?_⟩,?_⟩
   . show s.2+1<=l.length;omega
   . show(s.1++x.1).length<=16*(s.2+1);rw[TF];omega
   . show l.length-(s.2+1)<l.length-s.2;omega
 . rw[ZS4 ⟨by omega,by decide⟩];exact R0 ⟨by simp;omega,λ_=>by simp;omega⟩
theorem Wk (b:List UInt8){n:Int}(h:(b.length:Int)<=n)(h1:n<=100000):Tot (Yg b n) λr=>(r.length:Int)=n:=by
 unfold Yg;rw[ZX (by omega) (by omega)];refine Tot.mks (by omega) (by omega) (.app (by simp;omega) (R0 ?_));simp only[TF,T2];omega
theorem ZRv{α:Type}(l:List α)(f:α->Option Int)(b:∀y∈l,∃r,f y=some r){body:Int×Int->Option ((Int×Int) ⊕ Int)}
 (hb:∀(i j:Nat),i<j->j<=l.length->body ((i:Int),(j:Int))=idx l (((i+j)/2:Nat):Int) λy=>Option.bind (f y) λx=>cond (decide (x<0)) (some (.inl ((((i+j)/2+1:Nat):Int),(j:Int)))) (some (.inl ((i:Int),(((i+j)/2:Nat):Int)))))
 (d:∀i:Nat,body ((i:Int),(i:Int))=some (.inr (i:Int)))(e:l.length<=1000000000000):∃p:Nat,p<=l.length/\loop body (0,(l.length:Int))=some (p:Int):=by
 obtain⟨t,h1,p,h2,rfl⟩:=ZBH (body:=body) (λs=>∃i j:Nat,s=((i:Int),(j:Int))/\i<=j/\j<=l.length) (λs=>(s.2-s.1).toNat) (λt=>∃p:Nat,p<=l.length/\t=(p:Int)) (by
  rintro s ⟨i,j,rfl,g,h⟩;by_cases c:i<j
  . left;have a:(i+j)/2<l.length:=(by omega);obtain⟨r,m⟩:=b _ (Sv a);rw[hb i j c h,Xb _ a,m,TA];by_cases k:r<0
    . rw[TV k,Tu];exact⟨_,rfl,⟨_,_,rfl,by omega,h⟩,by dsimp only;omega⟩
    . rw[TT k,Tr];exact⟨_,rfl,⟨_,_,rfl,by omega,by omega⟩,by dsimp only;omega⟩
  . right;obtain rfl:i=j:=(by omega);exact⟨_,d i,i,h,rfl⟩) (s:=(0,(l.length:Int))) ⟨0,l.length,rfl,by omega,by omega⟩ (by dsimp only;have:=ZUx e;omega)
 exact⟨p,h2,h1⟩
theorem mid1{i j:Nat}(h:i<=j)(a:j<=1000000000000):w64 ((sr64 (u64i (w64 ((i:Int)+(j:Int)))) 1).toNat:Int)=(((i+j)/2:Nat):Int):=ZUn h a
theorem e8{e:Int}{p:Prop}(h:e=0)(k:e≠0:=by decide):p:=absurd h k
theorem tf{p:Prop}(h:true=false):p:=Bool.noConfusion h
theorem ft{p:Prop}(h:false=true):p:=Bool.noConfusion h
theorem add64{x y:Nat}(h:x+y<=1000000):w64 ((x:Int)+(y:Int))=((x+y:Nat):Int):=by rw[ZX (by omega) (by omega)];omega
theorem VD{i:Nat}(h:i<=1000000):w64 ((i:Int)+1)=((i+1:Nat):Int):=by rw[ZX (by omega) (by omega)];omega
theorem ZJ8{i:Nat}(h:0<i)(h1:i<=1000000):w64 ((i:Int)-1)=((i-1:Nat):Int):=by rw[ZX (by omega) (by omega)];omega
theorem PW{τ:Type}{body:Nat->Option (Nat ⊕ τ)}(G:Nat->Prop)(n:Nat)(hn:n<=1000000){Q:τ->Prop}(step:∀i,i<=n->(∀j,j<i->G j)->Tot (body i) (Sum.elim (λk=>k=i+1/\i<n/\G i) Q)):Tot (Ow.loop body 0) Q:=by
  refine Tot.loop (λi=>i<=n/\∀j,j<i->G j) (λi=>n-i) ⟨TK _,λj h=>absurd h (Tl _)⟩ (by show n-0<=_;omega) λi hi=>(step i hi.1 hi.2).mono λo b=> ?_;cases o with
  |inr t=>exact b
  | inl k=>
    obtain⟨rfl,h1,h2⟩:=b;refine⟨⟨h1,λj a=> ?_⟩,by show n-(i+1)<n-i;omega⟩;rcases Nat.lt_succ_iff_lt_or_eq.1 a with a|rfl
    . exact hi.2 j a
    . exact h2
theorem ZN3{α:Type}{l:List α}{P:α->Prop}{i:Nat}(h:∀j,j<i->∀y,l[j]? =some y->P y)(hi:l.length<=i):∀y∈l,P y:=λy a=>by
 obtain⟨j,b,rfl⟩:=List.getElem_of_mem a;exact h j (by omega) _ (TO b)
theorem ZH3 (a:List Ptr):Tot (Kj a) λe=>e=0->a.length<=240:=by
 unfold Kj;refine Tot.cond (λ_=>R0 λh=>e8 (e:=8) h) λc=> ?_;have c:a.length<=240:=by have:=of_decide_eq_false c;omega
 refine R3 (P:=λ_=>True) (R:=λ_=>True) ?_ (λ_ _=>R0 λ_=>c) λ_ _=>R0 λ_=>c;refine PW (λ_=>True) a.length (by omega) λi hi _=> ?_;unfold ZB4;refine Tot.cond (λh=> ?_) λ_=>R0 trivial;have h:=TC h;refine .idx (by omega) (by omega) λy _=> ?_;refine Tot.bind (P:=λ_=>True) (Tot.cond (λ_=>R0 trivial) λ_=> ?_) λx _=>Tot.cond (λ_=>R0 trivial) λ_=>R0 ⟨rfl,by omega,trivial⟩;rw[Zq,TA];refine Tot.cond (λ_=>R0 trivial) λ_=>Tot.cond (λh=> ?_) λ_=>R0 trivial;have h:=TC h;rw[ZJ8 (by omega) (by omega)];refine .idx (by omega) (by omega) λz _=> ?_;unfold Ki;rw[Bn];exact R0 trivial
theorem ZEs (l:List Line)(b:Int)(d:l.length<=1000):Tot (Gc l b) λ_=>True:=by
 unfold Gc Z4;obtain⟨q,f,e⟩:=ZRv l (λy=>XA y b) (λy _=>⟨_,by unfold XA;rw[Bn,TA]⟩) (body:=Zc l b) (λi j h1 h2=>by
  unfold Zc;dsimp only;have e:=mid1 (i:=i) (j:=j) (by omega) (by omega);rw[TV (show(i:Int)<(j:Int) by omega),Tu,VV (by decide),e,VD (by omega)]) (λi=>by
  unfold Zc;dsimp only;rw[TT (show¬(i:Int)<(i:Int) by omega),Tr]) (by omega)
 rw[e,TA];refine Tot.bind (P:=λr=>r.2=true->0<=r.1/\r.1.toNat<l.length) (Tot.cond (λc=> ?_) λ_=>R0 λh=>ft h) λr a=>Tot.cond (λ_=>R0 trivial) λc=> ?_
 . have c:=TC c;refine .idx (by omega) (by omega) λy _=> ?_;unfold XA;rw[Bn];exact R0 λ_=>⟨Se q,by show q<l.length;omega⟩
 . obtain⟨h1,h2⟩:=a (by cases h:r.2<;>rw[h]at c<;>first|rfl|cases c);exact .idx h1 h2 λ_ _=>R0 trivial
theorem ZSw (l:List Line)(x:Line)(h:l.length<=1000):Tot (ZGV l x) λ_=>True:=by
 unfold ZGV;refine(ZEs l _ h).bind λa _=>(ZEs l _ h).bind λb _=> ?_;cases a<;>cases b<;>simp only[Option.isNone_none,Option.isNone_some,Tu,Tr,TA]
 all_goals repeat' first|exact R0 trivial|refine Tot.cond (λ_=> ?_) λ_=> ?_|refine Tot.bind (P:=λ_=>True) ?_ λ_ _=> ?_
theorem ZPZ (l:List Line):Tot (UI l) λb=>b=true->l.length<=16/\∀x∈l,(0<=x.Key/\x.Key<8)/\x.Dead.length<=240:=by
 unfold UI;refine Tot.cond (λ_=>R0 λh=>ft h) λc=> ?_;have c:l.length<=16:=by have:=of_decide_eq_false c;omega
 refine R3 (P:=λ_=>True) (R:=λ_=>True) ?_ (λ_ _=>R0 λh=>ft h) λ_ _=>R3 (P:=λ_=>True) (R:=λ_=>∀x∈l,(0<=x.Key/\x.Key<8)/\x.Dead.length<=240) ?_ (λ_ _=>R0 λh=>ft h) λ_ h=>R0 λ_=>⟨c,h⟩
 . refine PW (λ_=>True) l.length (by omega) λi hi _=> ?_;unfold DF;refine Tot.cond (λh=> ?_) λ_=>R0 trivial;have h:=TC h;refine .idx (by omega) (by omega) λy _=>Tot.bind (P:=λ_=>True) (Tot.cond (λ_=>R0 trivial) λ_=>Tot.cond (λ_=>R0 trivial) λ_=>Tot.cond (λk=> ?_) λ_=>Tot.cond (λ_=>R0 trivial) λ_=>R0 trivial) λx _=>Tot.cond (λ_=>R0 trivial) λ_=>R0 ⟨rfl,by omega,trivial⟩;have k:=TC k;rw[ZJ8 (by omega) (by omega)];exact .idx (by omega) (by omega) λz _=>Tot.cond (λ_=>R0 trivial) λ_=>Tot.cond (λ_=>R0 trivial) λ_=>R0 trivial
 . refine PW (λj=>∀y,l[j]? =some y->(0<=y.Key/\y.Key<8)/\y.Dead.length<=240) l.length (by omega) λi hi f=> ?_;unfold DE;refine Tot.cond (λh=> ?_) λh=>R0 (ZN3 f (by have:=of_decide_eq_false h;omega));have h:=TC h;refine .idx (by omega) (by omega) λy g=>Tot.bind (P:=λx=>x=false->(0<=y.Key/\y.Key<8)/\y.Dead.length<=240) (Tot.cond (λ_=>R0 λh=>tf h) λ_=>Tot.cond (λ_=>R0 λh=>tf h) λa=>Tot.cond (λ_=>R0 λh=>tf h) λd=> ?_) λx m=>Tot.cond (λ_=>R0 trivial) λk=>R0 ⟨rfl,by omega,λz n=> ?_⟩
   . have a:=of_decide_eq_false a;have d:=of_decide_eq_false d;rw[Zq,TA];refine Tot.cond (λ_=>R0 λh=>tf h) λ_=>(ZH3 _).bind λe o=>Tot.cond (λ_=>R0 λh=>tf h) λk=>(ZSw l y (by omega)).bind λb _=>R0 λ_=>⟨by omega,o (Yd k)⟩
   . have:some z=some y:=(by rw[<-n,<-g];rfl);cases this;exact m k
theorem ZRK (k:List UInt8){b:Int}(hb:b=24\/b=16):Tot (V9 k b) λr=>r.2=b/\(r.1=false->k.length<=24):=by
 unfold V9;refine Tot.cond (λ_=>Tot.cond (λ_=>R0 ⟨rfl,λh=>tf h⟩) λc=> ?_) λc=>R0 ⟨rfl,λ_=>by have:=of_decide_eq_false c;omega⟩;have c:(k.length:Int)=b:=by simpa using c
 refine Tot.cond (λ_=>.mks (by omega) (by omega) (Tot.bind (P:=λ_=>True) (R0 trivial) λ_ _=>R0 ⟨rfl,λ_=>by omega⟩)) λ_=>R0 ⟨rfl,λ_=>by omega⟩
theorem ZFL (l:List (List UInt8)){b:Int}(hb:b=24\/b=16):Tot (WT l b) λr=>r=true->l.length=8/\∀k∈l,k.length<=24:=by
 unfold WT Q8 Vt;refine Tot.cond (λc=> ?_) λ_=>R0 λh=>ft h;have c:=TC c;refine Tot.bind (P:=λr=>r.1=false->∀k∈l,k.length<=24) (Tot.bind (P:=λr=>r.1<0->∀k∈l,k.length<=24) ?_ λr a=>R0 λh=>a (by have:=of_decide_eq_false h;omega)) λr a=>R0 λh=>⟨by omega,a (by cases e:r.1<;>rw[e]at h<;>first|rfl|cases h)⟩;refine R3 (P:=λx=>0<=x.2) (R:=λ_=>∀k∈l,k.length<=24) ?_ (λx g=>R0 λh=>absurd h (by show¬x.2<0;omega)) λx g=>R0 λ_=>g;refine Tot.loop (λs=>s.1=b/\∃i:Nat,s.2=(i:Int)/\i<=l.length/\∀j,j<i->∀y,l[j]? =some y->y.length<=24) (λs=>l.length-s.2.toNat) ⟨rfl,0,rfl,TK _,λj h=>absurd h (Tl _)⟩ (by show l.length-_<=_;omega) ?_;rintro⟨_,_⟩ ⟨rfl,i,rfl,h1,h2⟩;unfold UC;dsimp only;refine Tot.cond (λk=> ?_) λk=>R0 (ZN3 h2 (by have:=of_decide_eq_false k;omega));have k:=TC k;rw[VD (by omega)];refine .idx (by omega) (by omega) λy n=>(ZRK y hb).bind λr a=>Tot.cond (λ_=>R0 (Se i)) λd=>R0 ⟨⟨a.1,i+1,rfl,by omega,λj f z m=> ?_⟩,by show l.length-(((i+1:Nat):Int)).toNat<l.length-((i:Int)).toNat;omega⟩;rcases Nat.lt_succ_iff_lt_or_eq.1 f with f|rfl
 . exact h2 j f z m
 . have:some z=some y:=(by rw[<-m,<-n];rfl);cases this;exact a.2 d
def Put1 (c:Change):Prop:=(0<=c.Obj/\c.Obj<16)/\0<=c.Index/\c.Index<=15
theorem ZMh (c:Change):Tot (WD c) λb=>b=true->Put1 c/\c.Data.length<=256:=by
 unfold WD;refine Tot.bind (P:=λ_=>True) (Tot.cond (λ_=>Tot.cond (λ_=>R0 trivial) λ_=>R0 trivial) λ_=>R0 trivial) λa _=> ?_;refine Tot.bind (P:=λx=>x=false->Put1 c) (Tot.cond (λ_=>R0 λh=>tf h) λe=>Tot.cond (λ_=>R0 λh=>tf h) λf=>Tot.cond (λ_=>R0 λh=>tf h) λg=>R0 λi=> ?_) λx j=>Tot.cond (λ_=>R0 λh=>ft h) λk=> ?_
 . have e:=of_decide_eq_false e;have f:=of_decide_eq_false f;have g:=of_decide_eq_false g;have i:=of_decide_eq_false i;exact⟨by omega,by omega⟩
 have k:=j k;refine Tot.cond (λ_=>Tot.bind (P:=λ_=>True) ?_ λy _=>Tot.bind (P:=λb=>b=true->c.Data.length<=256) (Tot.cond (λ_=>Tot.cond (λd=> ?_) λ_=>R0 λh=>ft h) λ_=>R0 λh=>ft h) λb hb=>R0 λh=>⟨k,hb h⟩) λ_=>Tot.cond (λ_=>Tot.cond (λd=> ?_) λ_=>Tot.cond (λd=> ?_) λ_=>R0 λh=>ft h) λ_=>R0 λh=>ft h
 . repeat' first|exact R0 trivial|refine Tot.cond (λ_=> ?_) λ_=> ?_
 . have d:=TC d;exact Tot.cond (λ_=>Tot.cond (λ_=>R0 λ_=>by omega) λ_=>R0 λ_=>by omega) λ_=>R0 λh=>ft h
 all_goals
  have d:=TC d;rw[Zq,TA];exact R0 λ_=>⟨k,by omega⟩
theorem ZPY (c d:Change):Tot (ZA5 c d) λ_=>True:=by
 unfold ZA5;simp only[Bn,TA];refine Tot.bind (P:=λ_=>True) ?_ λ_ _=>R0 trivial;unfold Bo;refine R3 (P:=λ_=>True) (R:=λ_=>True) ?_ (λ_ _=>R0 trivial) λ_ _=>R0 trivial;refine PW (λ_=>True) 3 (by decide) λi hi _=> ?_;unfold ZB6;refine Tot.cond (λh=> ?_) λ_=>R0 trivial;have h:(i:Int)<3:=TC h;exact .idx (by omega) (by show _<3;omega) λy _=>Tot.cond (λ_=>R0 trivial) λ_=>R0 ⟨rfl,by omega,trivial⟩
structure SizY (p:Pool):Prop where
  disk:Sized p.Store.Disk
  metas:p.MetaL.length<=10000
  changes:p.Changes.length<=1000
structure Weak (p:Pool):Prop where
  store:OKSt p.Store
  few:p.Lines.length<=16
  lines:∀x∈p.Lines,(0<=x.Key/\x.Key<8)/\x.Dead.length<=240
  keys:p.Keys.length=8/\∀k∈p.Keys,k.length<=24
  loaded:p.Loaded.length=8/\∀k∈p.Loaded,k.length<=24
  changes:∀c∈p.Changes,Put1 c/\c.Data.length<=256
theorem ZJd{p:Pool}(g:SizY p):Tot (Vo p) λe=>e=0->Weak p:=by
  have bad:Tot (some (8:Int)) λe=>e=0->Weak p:=R0 λh=>e8 (e:=8) h;unfold Vo;refine Tot.bind (P:=λx=>x=false->OKSt p.Store) ?_ λx h1=>Tot.cond (λ_=>bad) λc=> ?_
  . rw[Xq g.disk,TA];by_cases ok:OKSt p.Store
    . refine Tot.cond (λ_=>R0 λ_=>ok) λ_=>Tot.cond (λ_=>R0 λ_=>ok) λ_=> ?_;rw[Zq,TA];exact Tot.cond (λ_=>R0 λ_=>ok) λ_=>R0 λ_=>ok
    . rw[TM ok];exact R0 λh=>tf h
  have h1:=h1 c;have H:=g.metas;have I:=g.changes;have o:=h1.2.1.1;refine R3 (P:=λ_=>True) (R:=λ_=>True) ?_ (λ_ _=>bad) λ_ _=> ?_
  . refine PW (λ_=>True) p.MetaL.length (by omega) λi hi _=> ?_;unfold ZDS;refine Tot.cond (λh=> ?_) λ_=>R0 trivial;have h:=TC h;refine .idx (by omega) (by omega) λy _=>Tot.bind (P:=λ_=>True) (Tot.cond (λ_=>R0 trivial) λl=>Tot.cond (λ_=>R0 trivial) λn=> ?_) λx _=>Tot.cond (λ_=>R0 trivial) λ_=>R0 ⟨rfl,by omega,trivial⟩;have l:=of_decide_eq_false l;have n:=of_decide_eq_false n;refine Tot.cond (λk=> ?_) λ_=>.idx (by omega) (by omega) λ_ _=>R0 trivial;have k:=TC k;rw[ZJ8 (by omega) (by omega)];exact .idx (by omega) (by omega) λz _=>Tot.cond (λ_=>R0 trivial) λ_=>.idx (by omega) (by omega) λ_ _=>R0 trivial
  refine Tot.bind (P:=λx=>x=false->(p.Lines.length<=16/\∀x∈p.Lines,(0<=x.Key/\x.Key<8)/\x.Dead.length<=240)/\(p.Keys.length=8/\∀k∈p.Keys,k.length<=24)/\p.Loaded.length=8/\∀k∈p.Loaded,k.length<=24) ((ZPZ _).bind λa q=>Tot.cond (λ_=>R0 λh=>tf h) λu=>(ZFL _ (.inl rfl)).bind λb hb=>Tot.cond (λ_=>R0 λh=>tf h) λv=>(ZFL _ (.inr rfl)).bind λd A=>Tot.cond (λ_=>R0 λh=>tf h) λB=> ?_) λx m=>Tot.cond (λ_=>bad) λc=> ?_
  . have nt:∀{b:Bool},(!b)=false->b=true:=λ{b} h=>by cases b<;>first|rfl|cases h
    have f:=And.intro (q (nt u)) (And.intro (hb (nt v)) (A (nt B)));exact Tot.cond (λ_=>R0 λ_=>f) λ_=>Tot.cond (λ_=>R0 λ_=>f) λ_=>Tot.cond (λ_=>R0 λ_=>f) λ_=>R0 λ_=>f
  obtain⟨⟨h2,h3⟩,C,D⟩:=m c;refine R3 (P:=λ_=>True) (R:=λ_=>∀c∈p.Changes,Put1 c/\c.Data.length<=256) ?_ (λ_ _=>bad) λ_ E=> ?_
  . refine PW (λj=>∀c,p.Changes[j]? =some c->Put1 c/\c.Data.length<=256) p.Changes.length (by omega) λi hi F=> ?_;unfold ZDR;refine Tot.cond (λh=> ?_) λh=>R0 (ZN3 F (by have:=of_decide_eq_false h;omega));have h:=TC h;refine .idx (by omega) (by omega) λy G=>(ZEs _ _ (by omega)).bind λt _=>Tot.bind (P:=λx=>x=false->Put1 y/\y.Data.length<=256) ?_ λx m=>Tot.cond (λ_=>R0 trivial) λk=>R0 ⟨rfl,by omega,λz g=> ?_⟩
    . cases t with
      |none=>exact R0 λh=>tf h
      | some t=>
        refine Tot.cond (λh=>ft h) λ_=>Tot.bind (P:=λw=>True) (R0 trivial) λw _=>Tot.cond (λ_=>R0 λh=>tf h) λ_=>(ZMh y).bind λb hb=>Tot.cond (λ_=>R0 λh=>tf h) λk=> ?_;have f:=hb (by cases b<;>first|rfl|cases k);refine Tot.cond (λk=> ?_) λ_=>R0 λ_=>f;have k:=TC k;rw[ZJ8 (by omega) (by omega)];exact .idx (by omega) (by omega) λz _=>(ZPY z y).bind λ_ _=>R0 λ_=>f
    . have:some z=some y:=(by rw[<-g,<-G];rfl);cases this;exact m k
  unfold Ys XN;refine Tot.bind (P:=λ_=>True) (Tot.bind (P:=λ_=>True) ?_ λ_ _=>R0 trivial) λx _=>Tot.cond (λ_=>bad) λ_=>R0 λ_=>⟨h1,h2,h3,C,D,E⟩;refine R3 (P:=λ_=>True) (R:=λ_=>True) ?_ (λ_ _=>R0 trivial) λ_ _=>R0 trivial;refine Tot.loop (λs=>∃i:Nat,s.2=(i:Int)/\i<=p.Lines.length) (λs=>p.Lines.length-s.2.toNat) ⟨0,rfl,TK _⟩ (by show p.Lines.length-_<=_;omega) ?_;rintro⟨_,_⟩ ⟨i,rfl,l⟩;unfold QK;refine Tot.cond (λk=> ?_) λ_=>R0 trivial;have k:=TC k;dsimp only;rw[VD (by omega)];refine .idx (by omega) (by omega) λy _=>Tot.bind (P:=λ_=>True) ?_ λr _=>Tot.cond (λ_=>R0 trivial) λ_=>R0 ⟨⟨i+1,rfl,by omega⟩,by show p.Lines.length-(((i+1:Nat):Int)).toNat<p.Lines.length-((i:Int)).toNat;omega⟩;unfold Dm;exact Tot.cond (λ_=>R0 trivial) λ_=>R0 trivial
theorem Pf{α σ τ:Type}{body:List α->σ->Option (σ ⊕ τ)}(I:Nat->σ->Prop){R:τ->Prop}{m:List α}{n:Nat}{s:σ}(h1:1<=n)(h2:n<=1000)(h:m.length<=1000000)(hI:I (Zp n m.length m).length s)(k:∀y∈Zp n m.length m,∀j s,I (j+1) s->Tot (body y s) (Sum.elim (I j) R)):Tot (chunkR m (n:Int) body s) (Sum.elim (I 0) R):=by
 unfold Go.Pv.chunkR Go.Pv.chunkO;rw[TG ⟨by omega,by omega,TQ h (by decide)⟩,TA];exact Px I _ hI k
theorem Bg{b:List UInt8}(a k:Nat)(hb:a+k+b.length<=1000000):Tot (Qu b (a:Int) (k:Int)) λ_=>True:=by
 unfold Qu;rw[ZLG,TA];refine Tot.bind (P:=λx=>x=false->a<=b.length) (Tot.cond (λ_=>R0 λh=>tf h) λ_=>Tot.bind (P:=λx=>x=false->a<=b.length) (Tot.cond (λ_=>R0 λh=>tf h) λ_=>R0 λh=> ?_) λx e=>R0 e) λx e=>Tot.cond (λ_=>R0 trivial) λc=> ?_
 . have:=of_decide_eq_false h;omega
 have c:=e c;rw[add64 (by omega)];refine Tot.cond (λ_=>R0 trivial) λd=> ?_;have d:=of_decide_eq_false d;refine .slc (by omega) (by omega) (by omega) λm _ _=> ?_;unfold Ql Go.Pv.backR;rw[TA];exact R3 (P:=λ_=>True) (R:=λ_=>False) (Px (λ_ _=>True) _ trivial λy _ n s _=>R0 trivial) (λ_ _=>R0 trivial) λ_ h=>h.elim
theorem ZFK{b:List UInt8}(hb:b.length<=10000):Tot (Up b) λ_=>True:=by
 unfold Up;exact(Bg 0 4 (by omega)).bind λ_ _=>R0 trivial
theorem ZHw{b:List UInt8}(h:b.length<=10000):Tot (Uq b) λ_=>True:=by
 unfold Uq Za YY;refine Tot.bind (P:=λr=>r.length<=10000) (.app (by simp;omega) (R0 (by simpa using h))) λc f=>Tot.bind (P:=λr=>r.length<=10000) (.chk rfl (.slc (by decide) (by omega) (by omega) λm _ a=>R0 (by omega))) λc f=>.chk (by decide) (.app (by simp;omega) ?_);obtain⟨t,h1,h2,h3⟩:=ZS1 (l:=c++ [1]) (by simp;omega);rw[h1,TA];unfold Zm;rw[show decide ((8:Int)<1)=false from rfl,Tr,TA];refine R3 (P:=λ_=>True) (R:=λ_=>False) ((Pf (n:=8) (λ_ _=>True) (R:=λ_=>False) (by decide) (by decide) (by show t.length<=_;omega) trivial λy d n s _=> ?_).mono λo g=> ?_) (λs _=> ?_) λ_ h=>h.elim
 . have d:y.length=8:=ZH8 (n:=8) (by decide) t.length t (TL _) h2 y d;unfold Ku;refine .slc (by decide) (by decide) (by omega) λm _ a=>(ZFK (by omega)).bind λi _=>.slc (by decide) (by omega) (by omega) λm _ a=>(ZFK (by omega)).bind λj _=> ?_;obtain⟨w,e⟩:=ZJG (s.1^^^i) s.2.1 (s.2.2.1^^^j) s.2.2.2 4 (by decide);rw[e,TA];exact R0 trivial
 . cases o with
   |inl s=>trivial
   |inr e=>exact g
 . obtain⟨w,e⟩:=ZJG s.1 (s.2.1^^^u32i (b.length:Int)) s.2.2.1 s.2.2.2 8 (by decide);rw[e,TA];exact R0 trivial
theorem ZHO{b:List UInt8}(h:b.length<=10000):Tot (BW b) λ_=>True:=by
 unfold BW;exact(ZHw h).bind λ_ _=>R0 trivial
theorem ZLo{s:Store}(hs:Sized s.Disk)(p:Ptr):Tot (Vr s p) λ_=>True:=by
 unfold Vr;rw[Xq hs,TA,Zq,TA];refine Tot.bind (P:=λx=>x=false->OKSt s/\(isNone p\/okR p)) (Tot.cond (λ_=>R0 λh=>tf h) λc=>R0 λh=> ?_) λx b=>Tot.cond (λ_=>R0 trivial) λc=> ?_
 . refine⟨Classical.byContradiction λk=> ?_,Classical.byContradiction λk=> ?_⟩
   . rw[TM k]at c;cases c
   . rw[TM k]at h;cases h
 obtain⟨h1,h2⟩:=b c;rw[ZLk];refine Tot.cond (λ_=>R0 trivial) λk=> ?_;obtain⟨f,a,-⟩:=h2.resolve_left (of_decide_eq_false k);refine Tot.bind (P:=λr=>r.1.length<=256) ?_ λr g=>Tot.bind (P:=λ_=>True) (Tot.cond (λ_=>(ZHO (by omega)).bind λ_ _=>R0 trivial) λ_=>R0 trivial) λ_ _=>Tot.bind (P:=λ_=>True) (Tot.cond (λ_=>R0 trivial) λ_=>R0 trivial) λ_ _=>R0 trivial;unfold ZAW;rw[Bl (ZHs ⟨by omega,a⟩),TA,ZFY hs,TA,TA,TG h1.1,TG (TV ⟨by omega,a⟩)];refine Tot.cond (λ_=>R0 (TK _)) λ_=>.idx (by omega) (by rw[ZJ1 h1.1];omega) λy d=>R0 ?_;exact Nat.le_of_eq ((ZKB h1.1 s.Disk.Waits λw e=>e).2.2.1 y (TW d))
theorem ZQu (b:List UInt8):Tot (D6 b) λ_=>True:=by
 unfold D6 ZBD;refine Tot.cond (λ_=>R0 trivial) λc=> ?_;have c:(b.length:Int)=16:=by simpa using c
 rw[TA];refine(Bg 0 1 (by omega)).bind λ_ _=>(Bg 1 3 (by omega)).bind λ_ _=>(Bg 4 4 (by omega)).bind λ_ _=>(Bg 8 4 (by omega)).bind λ_ _=>(Bg 12 4 (by omega)).bind λ_ _=> ?_;rw[Zq,TA];exact Tot.cond (λ_=>R0 trivial) λ_=>R0 trivial
theorem ZLP (b:List UInt8):Tot (D5 b) λr=>r.2=0->r.1.length=16:=by
 unfold D5 Zm;refine Tot.cond (λ_=>R0 λh=>e8 (e:=3) h) λc=> ?_;have c:(b.length:Int)=256:=by simpa using c
 rw[show decide ((16:Int)<1)=false from rfl,Tr,TA];refine R3 (P:=λs=>s.length=16) (R:=λe=>e≠0) ?_ (λs hs=>R0 λ_=>hs) λe d=>R0 λh=>absurd h d;refine(Pf (n:=16) (λn s=>s.length+n=16) (R:=λe=>e≠0) (by decide) (by decide) (by show b.length<=_;omega) ?_ ?_).mono λo a=> ?_
 . rw[show Zp 16 (b,(16:Int)).1.length (b,(16:Int)).1=Zp 16 b.length b from rfl,ZEE _ b 16 (TL _) (by omega)];rfl
 . intro y f j s hs;unfold ZFH;refine(ZQu y).bind λx _=>Tot.cond (λc=>R0 (BV c)) λ_=>.app (by simp;omega) (R0 ?_);show(s++ [x.1]).length+j=16;rw[TF];show s.length+1+j=16;omega
 . cases o with
   |inl s=>exact a
   |inr e=>exact a
theorem ZLh (o:Object):Tot (Gt o) λr=>r.2=o.Data/\(r.1=0->o.Data.length=15):=by
 unfold Gt;simp only[ZI2,TA];refine Tot.bind (P:=λx=>x.1.Data=o.Data/\(x.2=false->o.Data.length=15)) (Tot.cond (λ_=>R0 ⟨rfl,λh=>tf h⟩) λ_=>Tot.cond (λ_=>R0 ⟨rfl,λh=>tf h⟩) λ_=>Tot.cond (λ_=>R0 ⟨rfl,λh=>tf h⟩) λ_=>Tot.cond (λ_=>R0 ⟨rfl,λh=>tf h⟩) λc=> ?_) λx a=>Tot.cond (λ_=>R0 ⟨a.1,λh=>e8 (e:=8) h⟩) λc=>R0 ⟨a.1,λ_=>a.2 c⟩;have b:(o.Data.length:Int)=15:=by simpa using c
 unfold Y0 Xj;refine Tot.bind (P:=λr=>r.2=o.Data) (Tot.bind (P:=λr=>r.2=o.Data) ?_ λ_ h=>R0 h) λ_ h=>R0 ⟨h,λ_=>by omega⟩;refine R3 (P:=λ_=>True) (R:=λ_=>True) ?_ (λ_ _=>R0 rfl) λ_ _=>R0 rfl;refine PW (λ_=>True) o.Data.length (by omega) λi hi _=> ?_;unfold Qb WZ;refine Tot.cond (λh=> ?_) λ_=>R0 trivial;have h:=TC h;refine .chk ⟨by omega,by omega⟩ (.idx (by omega) (by omega) λy _=> ?_);rw[Zq,TA,TA];exact Tot.cond (λ_=>R0 trivial) λ_=>R0 ⟨rfl,by omega,trivial⟩
def Obj (r:Object×Int):Prop:=r.1.Data.length<=15/\(r.2=0->r.1.Data.length=15)
theorem Tot.no{e:Int}(h:e≠0):Tot (some (Object.mk 0 0 0 [],e)) Obj:=R0 ⟨TK _,λk=>absurd k h⟩
theorem ZPX (b:List UInt8):Tot (Gs b) Obj:=by
 unfold Gs;refine Tot.cond (λ_=>.no (by decide)) λc=> ?_;have c:(b.length:Int)=256:=by simpa using c
 repeat refine Tot.idx (by decide) (by omega) λ_ _=> ?_
 refine .chk rfl (.slc (by decide) (by omega) (by omega) λm _ e=>.mks (by decide) (by decide) (.chk (by decide) (.app (by simp;omega) ?_)));show Tot (Option.bind (D5 _) _) _;refine(ZLP _).bind λr a=>Tot.bind (P:=λx=>x=false->r.2=0) (Tot.cond (λ_=>R0 λh=>tf h) λc=>R0 λ_=>Yd c) λx d=>Tot.cond (λ_=>.no (by decide)) λk=> ?_;have a:=a (d k);refine(Bg 2 2 (by omega)).bind λg _=>Tot.bind (P:=λ_=>True) (.chk ⟨by decide,by omega⟩ (R0 trivial)) λo _=>(ZLh o).bind λt ht=>Tot.cond (λ_=>.no (by decide)) λk=> ?_;have h:=ht.2 (Yd k);exact R0 ⟨by show t.2.length<=15;rw[ht.1];omega,λ_=>by show t.2.length=15;rw[ht.1];exact h⟩
theorem ZSj{s:Store}(hs:Sized s.Disk)(p:Ptr):Tot (ZGY s p) Obj:=by
 unfold ZGY;exact(ZLo hs p).bind λr _=>Tot.cond (λc=>.no (BV c)) λ_=>(ZPX _).bind λr h=>Tot.cond (λ_=>.no (by decide)) λc=>R0 ⟨h.1,λ_=>h.2 (Yd c)⟩
theorem ZLW{s:Store}(hs:Sized s.Disk)(a:Ptr):Tot (Dw s a) λr=>r.2=0->r.1.length=16:=by
 unfold Dw;rw[Xq hs,TA,Zq,TA];refine Tot.bind (P:=λ_=>True) (Tot.cond (λ_=>R0 trivial) λ_=>R0 trivial) λx _=>Tot.cond (λ_=>R0 λh=>e8 (e:=8) h) λ_=>Tot.cond (λ_=>.mks (by decide) (by decide) (R0 λ_=>rfl)) λ_=> ?_;exact(ZLo hs a).bind λr _=>Tot.cond (λc=>R0 λh=>absurd h (BV c)) λ_=>(ZLP _).bind λr b=>Tot.cond (λ_=>R0 λh=>e8 (e:=8) h) λc=>R0 λ_=>b (Yd c)
theorem ZQg{s:Store}(hs:Sized s.Disk)(d:Ptr)(n:Int):Tot (Uh s d n) Obj:=by
 unfold Uh;rw[Xq hs,TA,Zq,TA];refine Tot.bind (P:=λ_=>True) (Tot.cond (λ_=>R0 trivial) λ_=>R0 trivial) λx _=>Tot.cond (λ_=>.no (by decide)) λ_=> ?_;refine Tot.bind (P:=λx=>x=false->0<=n/\n<16) (Tot.cond (λ_=>R0 λh=>tf h) λa=>R0 λb=> ?_) λx f=>Tot.cond (λ_=>.no (by decide)) λc=> ?_
 . have a:=of_decide_eq_false a;have b:=of_decide_eq_false b;omega
 . obtain⟨h1,h2⟩:=f c;refine(ZLW hs d).bind λr e=>Tot.cond (λc=>.no (BV c)) λc=> ?_;have:=e (Yd c);exact .chk ⟨h1,by omega⟩ (.idx h1 (by omega) λy _=>(ZSj hs y).bind λr e=>R0 e)
theorem ZRV{n:Int}(h:0<=n)(h1:n<=1000000):Tot (Z5 n) λr=>r= []:=by
 unfold Z5;refine Tot.cond (λc=>absurd (TC c) (by omega)) λ_=>Tot.bind (P:=λr=>r= []) ?_ λr a=>R0 a;rw[ZX (by omega) (by omega)];refine Tot.cond (λc=>Tot.mks (by omega) (by omega) (Tot.slc (by decide) (by decide) (Se _) λm d b=>R0 (List.eq_nil_of_length_eq_zero b))) λ_=>R0 rfl
theorem U0{B:Nat}(l:List (List UInt8))(d:l.length<=100)(e:B<=10000)(hb:∀b∈l,b.length<=B):Tot (ZR l) λr=>r.length<=B*l.length:=by
 have a:∀i:Nat,i<=l.length->B*i<=1000000:=λi hi=>TQ (Nat.mul_le_mul e (TQ hi d)) (by decide);have step:∀{i:Nat} {n y:Nat},n<=B*i->y<=B->n+y<=B*(i+1):=λh1 h2=>by rw[Nat.mul_succ];omega
 unfold ZR;refine Tot.bind (P:=λn=>∃k:Nat,n=(k:Int)/\k<=1000000) ?_ λn hn=> ?_
 . refine Tot.loop (λs=>∃n i:Nat,s=((n:Int),(i:Int))/\i<=l.length/\n<=B*i) (λs=>l.length-s.2.toNat) ⟨0,0,rfl,TK _,TK _⟩ (by show l.length-_<=_;omega) ?_;rintro _ ⟨n,i,rfl,h1,h2⟩;unfold Vh;refine Tot.cond (λc=>Tot.idx (by omega) (by have:=TC c;omega) λy h=> ?_) λ_=>R0 ⟨n,rfl,TQ h2 (a i h1)⟩;have c:=TC c;have h:=hb y (TW h);have h3:=step h2 h;have f:=a (i+1) (by omega);rw[ZX (by omega) (by omega)];refine Tot.cond (λc=>absurd (TC c) (by omega)) λ_=>R0 ⟨⟨n+y.length,i+1,?_,by omega,h3⟩,?_⟩
   . rw[ZX (by omega) (by omega)];rfl
   . show l.length-(w64 ((i:Int)+1)).toNat<l.length-((i:Int)).toNat
     rw[ZX (by omega) (by omega)];omega
 . obtain⟨k,rfl,j⟩:=hn;refine(ZRV (by omega) (by omega)).bind ?_;rintro _ rfl;refine Tot.bind (P:=λr=>r.length<=B*l.length) ?_ λr g=>R0 g;refine Tot.loop (λs=>∃i:Nat,s.2=(i:Int)/\i<=l.length/\s.1.length<=B*i) (λs=>l.length-s.2.toNat) ⟨0,rfl,TK _,TK _⟩ (by show l.length-_<=_;omega) ?_;rintro⟨m,_⟩ ⟨i,rfl,h1,h2⟩;unfold Vg;refine Tot.cond (λc=>Tot.idx (by omega) (by have:=TC c;omega) λy h=> ?_) λc=>R0 ?_
   . have c:=TC c;have h:=hb y (TW h);have h3:=step h2 h;have f:=a (i+1) (by omega);refine Tot.app (by omega) (R0 ⟨⟨i+1,?_,by omega,by rw[TF];exact h3⟩,?_⟩)
     . rw[ZX (by omega) (by omega)];rfl
     . show l.length-(w64 ((i:Int)+1)).toNat<l.length-((i:Int)).toNat
       rw[ZX (by omega) (by omega)];omega
   . exact TQ h2 (Nat.mul_le_mul_left _ h1)
theorem ZOf{b:List UInt8}(h:b.length<=10000):Tot (Jh b) λr=>r.length=16:=by
 unfold Jh;refine(ZHw h).bind λx _=> ?_;refine(ZJ7 _).bind λa e=>.app (by simp[e.1]) ((ZJ7 _).bind λb hb=>.app (by simp[e.1,hb.1]) ((ZJ7 _).bind λc f=>.app (by simp[e.1,hb.1,f.1]) ((ZJ7 _).bind λd g=>.app (by simp[e.1,hb.1,f.1,g.1]) (R0 ?_))));simp[e.1,hb.1,f.1,g.1]
theorem ZNB{b:List UInt8}(i:UInt32){n:Nat}(d:b.length=16)(hn:n<=4096):Tot (WK b i (n:Int)) λr=>r.1.length=n/\r.2=0:=by
  unfold WK W6;rw[TV (show(b.length:Int)=16 by omega),TT (show¬(n:Int)<0 by omega),TT (show¬(4096:Int)<(n:Int) by omega),Rz,Tr,Tr,TA,Tr];unfold GN;refine Tot.bind (P:=λr=>r.1=b/\r.2.length=4) ((ZJ7 i).bind λa f=>R0 ⟨rfl,f.1⟩) ?_;rintro⟨_,fx⟩ ⟨rfl,g⟩;refine R3 (P:=λ_=>False) (R:=λt=>n<=t.length/\t.length<=4112) ?_ (λ_ h=>h.elim) λt ht=> ?_
  . unfold pcR pcP;refine Tot.bind (P:=λt:List UInt8=>n<=t.length/\t.length<=4112) ?_ λt ht=>R0 (show n<=t.length/\t.length<=4112 from ht);refine Tot.loop (λs=>s.1.length<=4112) (λs=>n-s.1.length) (TK _) (by show n-0<=_;omega) λs hs=> ?_;unfold pcL;refine(Jd s.2 (k:=4) (by decide) (by decide)).bind λj l=> ?_;refine(U0 (B:=16) _ (by simp) (by decide) (by simp[g,d];exact TQ l (by decide))).bind λx p=> ?_;refine(ZOf (by simp at p;omega)).bind λk d=> ?_;refine Tot.bind (P:=Sum.elim (λt=>t.length=s.1.length+16/\s.1.length<n) (λt=>n<=t.length/\t.length<=4112)) ?_ λo e=> ?_
    . unfold G9;refine Tot.cond (λc=>R0 ⟨by have:=TC c;omega,hs⟩) λc=> ?_;have c:=of_decide_eq_false c;exact Tot.app (by omega) (R0 ⟨by simp[d],by omega⟩)
    . cases o with
      | inl t=>
        obtain⟨h1,h2⟩:t.length=s.1.length+16/\s.1.length<n:=e;exact R0 ⟨by show t.length<=4112;omega,by show n-t.length<n-s.1.length;omega⟩
      |inr t=>exact R0 e
  . obtain⟨h1,h2⟩:=ht;refine Tot.slc (by decide) (by omega) (by omega) λm u v=> ?_;unfold Za;exact Tot.bind (P:=λr:List UInt8=>r.length=n) (Tot.app (by simp;omega) (R0 (by simp;omega))) λr q=>R0 ⟨q,rfl⟩
theorem ZLC (a:List UInt8)(b:UInt32)(c:List UInt8):Tot (WX a b c) λr=>r.2=0->a.length=16/\r.1.length<=256:=by
 unfold WX;by_cases e:a.length=16
 . rw[TV (show(a.length:Int)=16 by omega),Tu,TA];refine Tot.cond (λ_=>R0 λh=>absurd h (by decide)) λf=> ?_;have f:=of_decide_eq_false f;unfold Jr;rw[TV (show(a.length:Int)=16 by omega),TT (show¬(4096:Int)<(c.length:Int) by omega),Rz,Tr,Tr];refine Tot.bind (P:=λr=>r.1.length<=256) ?_ λr d=>R0 λ_=>⟨e,d⟩;refine(ZNB b e (n:=c.length) (by omega)).bind λx g=>Tot.bind (P:=λr=>r.length<=256) ?_ λr d=>R0 d;refine Tot.loop (λs=>∃i:Nat,s.2=(i:Int)/\i<=c.length/\s.1.length=c.length) (λs=>c.length-s.2.toNat) ⟨0,rfl,TK _,g.1⟩ (by show c.length-_<=_;omega) ?_;rintro⟨m,_⟩ ⟨i,rfl,h1,h2⟩;have h2:m.length=c.length:=h2;unfold ZAe;refine Tot.cond (λc=> ?_) λ_=>R0 (by show m.length<=256;omega);have c:=TC c;refine Tot.idx (by omega) (by omega) λy _=>.chk ⟨by omega,by omega⟩ (.idx (by omega) (by omega) λz _=>.chk ⟨by omega,by omega⟩ (.setI (by omega) (by omega) (R0 ⟨⟨i+1,?_,by omega,by simp[h2]⟩,?_⟩)))
   . rw[ZX (by omega) (by omega)];rfl
   . show _-(w64 ((i:Int)+1)).toNat<_-((i:Int)).toNat
     rw[ZX (by omega) (by omega)];omega
 . rw[TT (show¬(a.length:Int)=16 by omega),Tr,TA,Tr];unfold Jr;rw[TT (show¬(a.length:Int)=16 by omega)];exact R0 λh=>absurd h (by decide)
theorem ZQj (a:List UInt8)(b:UInt32)(c:List UInt8):Tot (ZA9 a b c) λ_=>True:=by
 unfold ZA9;refine(ZLC a b c).bind λx e=>Tot.cond (λ_=>R0 trivial) λh=> ?_;obtain⟨h1,h2⟩:=e (Yd h);refine Tot.bind (P:=λ_=>True) ?_ λr _=>R0 trivial;unfold JY GD;refine(ZJ7 b).bind λf g=>Tot.cond (λ_=>R0 trivial) λ_=> ?_;refine(U0 (B:=256) _ (by simp) (by decide) (by simp[g.1];exact h2)).bind λy i=>Tot.bind (P:=λ_=>True) ?_ λr _=>R0 trivial;unfold ZDg ZEq ZBG;refine Tot.cond (λ_=>R0 trivial) λ_=> ?_;refine Tot.bind (P:=λr=>r.length=16) ?_ λz j=> ?_
 . refine(U0 (B:=512) _ (by simp) (by decide) (by simp at i|-;omega)).bind λw d=> ?_;refine(ZOf (by simp at d;omega)).bind λr k=>R0 k
 . refine(U0 (B:=16) _ (by simp) (by decide) (by simp[h1,j])).bind λw d=> ?_;exact(ZHO (b:=w) (by simp at d;omega)).bind λ_ _=>R0 trivial
theorem ZJj{s:Store}(h:Sized s.Disk)(b:UInt32)(n:Int)(l:List (List UInt8))(a:l.length<=1000):Tot (WV s b n l) λe=>e=0->OKSt s:=by
 unfold WV;rw[Xq h,TA];by_cases ok:OKSt s
 . rw[TG ok];refine Tot.cond (λ_=>R0 λ_=>ok) λ_=>Tot.bind (P:=λ_=>True) (Tot.cond (λ_=>R0 trivial) λ_=>R0 trivial) λx _=>Tot.cond (λ_=>R0 λ_=>ok) λ_=> ?_;refine R3 (P:=λ_=>True) (R:=λ_=>True) ?_ (λ_ _=>R0 λ_=>ok) λ_ _=>R0 λ_=>ok;refine Tot.loop (λs=>s.2<=l.length) (λs=>l.length-s.2) (TK _) (by show l.length-0<=_;omega) λs hs=> ?_;unfold Do;refine Tot.cond (λc=>Tot.idx (by omega) (by have:=TC c;omega) λy d=>Tot.cond (λ_=>R0 trivial) λ_=>R0 ⟨?_,?_⟩) λ_=>R0 trivial
   . have:=TC c;show s.2+1<=l.length;omega
   . have:=TC c;show l.length-(s.2+1)<l.length-s.2;omega
 . rw[TM ok];exact R0 λh=>absurd h (by decide)
theorem ZQX (s:List UInt8):Tot (BN s) λr=>0<=r.2.1/\r.2.1<256:=by
 unfold BN;rw[VE,TA];by_cases ok:okS s
 . rw [TG ok];have a:=ok.1;refine Tot.cond (λ_=>R0 ⟨by decide,by decide⟩) λ_=> ?_;unfold ZCc BM;rw[TA];refine Tot.bind (P:=λr=>r.1<0\/0<=r.1/\r.1<256) ?_ λr b=> ?_
   . refine R3 (P:=λx=>0<=x.2/\x.2<256) (R:=λ_=>True) ?_ (λx h=>R0 (.inr h)) λ_ _=>R0 (.inl (show(-1:Int)<0 by decide));refine Tot.loop (λn=>0<=n/\n<=256) (λn=>256-n.toNat) (by decide) (by decide) λn hn=> ?_;unfold DG;refine Tot.cond (λc=> ?_) λ_=>R0 trivial;have c:=TC c;refine Tot.idx hn.1 (by omega) λy _=>Tot.cond (λ_=>R0 ⟨hn.1,by show n<256;omega⟩) λ_=>R0 ⟨?_,?_⟩
     . show 0<=w64 (n+1)/\w64 (n+1)<=256;rw[ZX (by omega) (by omega)];omega
     . show 256-(w64 (n+1)).toNat<256-n.toNat
       rw[ZX (by omega) (by omega)];omega
   . refine Tot.cond (λ_=>R0 ⟨by decide,by decide⟩) λc=> ?_;have c:=of_decide_eq_false c;rw[ZE8 (by omega),TA];exact .chk ⟨by omega,by omega⟩ (.setI (by omega) (by omega) (R0 ⟨by show 0<=r.1;omega,by show r.1<256;omega⟩))
 . rw[TM ok];exact R0 ⟨by decide,by decide⟩
theorem ZLF{s:Store}(h:Sized s.Disk)(p:Ptr)(b:List UInt8):Tot (Vp s p b) λr=>Sized r.1.Disk:=by
 unfold Vp JW;dsimp only;refine(ZQX s.Space).bind λx a=>Tot.cond (λ_=>R0 XC) λ_=> ?_;rw[ZD8 h (ZHs a),TA];rcases ZDN s.Disk x.2.1 b with⟨c,-⟩|⟨ok,h1,h2,h3,e⟩
 . rw[nbne c,Tu];exact R0 XC
 . rw[e];simp only[TA];refine Tot.cond (λ_=>R0 XC) λ_=> ?_;exact(ZHO (b:=b) (by omega)).bind λ_ _=>R0 (ok.write h1 h2 h3).sized
theorem ZOd{s:Store}(h:Sized s.Disk)(n:UInt32)(b:List UInt8):Tot (Ge s n b) λr=>Sized r.1.Disk:=by
 unfold Ge ZEb;refine Tot.bind (P:=λr=>Sized r.1.Disk) ?_ λr a=>R0 a;refine(ZJj h n 256 [b] (by simp)).bind λe c=>Tot.cond (λ_=>R0 XC) λ_=> ?_;exact(ZLF h _ b).bind λr a=>R0 a
theorem ZPL{s:Store}(h:Sized s.Disk)(n:UInt32)(k b:List UInt8):Tot (BL s n k b) λr=>Sized r.1.Disk:=by
 unfold BL;refine(ZJj h n 16 [k,b] (by simp)).bind λe c=>Tot.cond (λ_=>R0 XC) λ_=>Tot.cond (λ_=>R0 XC) λ_=>.chk (by decide) ?_;refine(ZQj k _ b).bind λx _=>Tot.cond (λ_=>R0 XC) λ_=> ?_;exact(ZLF (s:=Store.mk s.Disk s.Space s.Epoch (s.Count+1)) h _ _).bind λr a=>R0 a
theorem ZJc{α:Type}(n:Nat):∀(f:Nat) (l:List α),(Zp n f l).length<=f
  |0,l=>TL _
  |f+1,[]=>TK _
  | f+1,y::r=>by
    show(_::Zp n f _).length<=_;rw[TZ];exact Nat.succ_le_succ (ZJc n f _)
theorem ZMf (a:List Ptr):Tot (QX a) λr=>r.2=a/\(r.1=0->a.length<=240):=by
 unfold QX;refine Tot.cond (λ_=>R0 ⟨rfl,λh=>e8 (e:=8) h⟩) λc=> ?_;have c:a.length<=240:=by have:=of_decide_eq_false c;omega
 refine R3 (P:=λ_=>True) (R:=λ_=>True) ?_ (λ_ _=>R0 ⟨rfl,λ_=>c⟩) λ_ _=>R0 ⟨rfl,λ_=>c⟩;refine Tot.loop (λi=>i<=a.length) (λi=>a.length-i) (TK _) (by show a.length-0<=_;omega) λi hi=> ?_;unfold G5;refine Tot.cond (λh=> ?_) λ_=>R0 trivial;have h:=TC h;refine .chk ⟨by omega,by omega⟩ (.idx (by omega) (by omega) λy _=> ?_);refine Tot.bind (P:=λ_=>True) (Tot.cond (λ_=>R0 trivial) λ_=> ?_) λx _=>Tot.cond (λ_=>R0 trivial) λ_=>R0 ⟨by show i+1<=a.length;omega,by show a.length-(i+1)<a.length-i;omega⟩;rw[Zq,TA];refine Tot.cond (λ_=>R0 trivial) λ_=>Tot.cond (λh=> ?_) λ_=>R0 trivial;have h:=TC h;rw[ZX (by omega) (by omega)];refine .chk ⟨by omega,by omega⟩ (.idx (by omega) (by omega) λz _=> ?_);unfold Ki;rw[Bn];exact R0 trivial
theorem ZPn{n:Int}(h:0<=n)(h1:n<=1000000):Tot (YC n) λr=>r= []:=by
 unfold YC;refine Tot.cond (λc=>absurd (TC c) (by omega)) λ_=>Tot.bind (P:=λr=>r= []) ?_ λr a=>R0 a;rw[ZX (by omega) (by omega)];refine Tot.cond (λc=>Tot.mks (by omega) (by omega) (Tot.slc (by decide) (by decide) (Se _) λm d b=>R0 (List.eq_nil_of_length_eq_zero b))) λ_=>R0 rfl
theorem ZMa (a b:List Ptr)(f:a.length<=240)(hb:b.length<=240):Tot (YS [a,b]) λr=>r.1.length<=480:=by
 unfold YS;have d:∀{i:Nat} {y:List Ptr},[a,b][i]? =some y->y.length<=240:=λh=>by
  have:=TW h;simp at this;rcases this with rfl|rfl<;>assumption
 refine Tot.bind (P:=λn=>0<=n/\n<=1000000) ?_ λn hn=>(ZPn hn.1 hn.2).bind ?_
 . refine Tot.loop (λs=>∃n i:Nat,s=((n:Int),(i:Int))/\i<=2/\n<=240*i) (λs=>2-s.2.toNat) ⟨0,0,rfl,TK _,TK _⟩ (by show 2-_<=_;omega) ?_;rintro _ ⟨n,i,rfl,h1,h2⟩;unfold KF;refine Tot.cond (λc=> ?_) λ_=>R0 (by show 0<=(n:Int)/\(n:Int)<=1000000;omega);have c:(i:Int)<2:=TC c;refine .chk ⟨by omega,by show _<2;omega⟩ (.idx (by omega) (by show _<2;omega) λy h=> ?_);have h:=d h;rw[ZX (by omega) (by omega)];refine Tot.cond (λc=>absurd (TC c) (by omega)) λ_=>R0 ⟨⟨n+y.length,i+1,?_,by omega,by omega⟩,?_⟩
   . rw[ZX (by omega) (by omega)];rfl
   . show 2-(w64 ((i:Int)+1)).toNat<2-((i:Int)).toNat
     rw[ZX (by omega) (by omega)];omega
 . rintro _ rfl;refine Tot.bind (P:=λr=>r.length<=480) ?_ λr e=>R0 e;refine Tot.loop (λs=>∃i:Nat,s.2=(i:Int)/\i<=2/\s.1.length<=240*i) (λs=>2-s.2.toNat) ⟨0,rfl,TK _,TK _⟩ (by show 2-_<=_;omega) ?_;rintro⟨m,_⟩ ⟨i,rfl,h1,h2⟩;have h2:m.length<=240*i:=h2;unfold KE;refine Tot.cond (λc=> ?_) λ_=>R0 (by show m.length<=480;omega);have c:(i:Int)<2:=TC c;refine .chk ⟨by omega,by show _<2;omega⟩ (.idx (by omega) (by show _<2;omega) λy h=> ?_);have h:=d h;refine .app (by show m.length+_<=_;omega) (R0 ⟨⟨i+1,?_,by omega,by show(m++y).length<=_;rw[TF];omega⟩,?_⟩)
   . rw[ZX (by omega) (by omega)];rfl
   . show 2-(w64 ((i:Int)+1)).toNat<2-((i:Int)).toNat
     rw[ZX (by omega) (by omega)];omega
theorem ZKi (l:List Ptr)(h:l.length<=1000){i:Nat}(hi:i<l.length):Tot (loop Yh (l,(i:Int),(i:Int),1)) λs=>s.1.length=l.length/\0<=s.2/\s.2<=(l.length:Int):=by
  refine Tot.loop (λs=>∃w j:Nat,s.2=((w:Int),(i:Int),(j:Int))/\1<=j/\i+j<=l.length/\w<i+j/\s.1.length=l.length) (λs=>l.length-s.2.2.2.toNat) ⟨i,1,rfl,TL _,by omega,by omega,rfl⟩ (by show l.length-_<=_;omega) ?_;rintro⟨m,_⟩ ⟨w,j,rfl,g,n,o,k⟩;have k:m.length=l.length:=k;have e2:w64 ((j:Int)-1)=((j-1:Nat):Int):=by rw[ZX (by omega) (by omega)];omega
  have e3:w64 ((j:Int)+1)=((j+1:Nat):Int):=by rw[ZX (by omega) (by omega)];omega
  have e4:w64 ((w:Int)+1)=((w+1:Nat):Int):=by rw[ZX (by omega) (by omega)];omega
  unfold Yh;dsimp only;refine Tot.cond (λc=> ?_) λ_=>R0 ⟨k,Se w,?_⟩
  . have c:(j:Int)<(m.length:Int)-(i:Int):=TC c;rw[e2];refine .chk ⟨by omega,by omega⟩ ?_;refine .idx (by omega) (by omega) λa _=> ?_;refine .chk ⟨by omega,by omega⟩ ?_;refine .idx (by omega) (by omega) λb _=> ?_;unfold Wn;rw[TA];have go:∀(x:List Ptr) (v:Nat),v<i+(j+1)->x.length=l.length->Tot (some (.inl (x,(v:Int),(i:Int),w64 ((j:Int)+1))):Option ((List Ptr×Int×Int×Int) ⊕ (List Ptr×Int))) (Sum.elim (λs'=>(∃w j:Nat,s'.2=((w:Int),(i:Int),(j:Int))/\1<=j/\i+j<=l.length/\w<i+j/\s'.1.length=l.length)/\l.length-s'.2.2.2.toNat<l.length-((j:Int)).toNat) λs=>s.1.length=l.length/\0<=s.2/\s.2<=(l.length:Int)):=λx v q e=>by
      rw[e3];exact R0 ⟨⟨v,j+1,rfl,by omega,by omega,q,e⟩,by show l.length-(((j+1:Nat):Int)).toNat<l.length-((j:Int)).toNat;omega⟩
    cases !decide (a.At=b.At)with
    |false=>exact go m w (by omega) k
    | true=>
      rw[Tu];rw[VV ⟨by omega,by omega⟩];obtain⟨d,f⟩:∃d,m[((i:Int)+(j:Int)).toNat]? =some d:=⟨_,TO (by omega)⟩;rw[show idx m ((i:Int)+(j:Int)) _=_ from ZRQ ⟨by omega,f⟩];rw[VV ⟨by omega,by omega⟩];unfold setI;rw[TG ⟨by omega,by omega⟩,TA,e4];exact go _ (w+1) (by omega) (by rw[SC];exact k)
  . show(w:Int)<=_;omega
theorem ZMb (l:List Ptr)(h:l.length<=1000):Tot (Zy l) λ_=>True:=by
 unfold Zy;refine Tot.cond (λ_=>R0 trivial) λc=> ?_;have c:=of_decide_eq_false c;refine R3 (P:=λ_=>True) (R:=λ_=>True) ?_ (λ_ _=>R0 trivial) λ_ _=>R0 trivial;refine Tot.loop (λs=>∃i:Nat,s.2=(i:Int)/\1<=i/\i<=l.length/\s.1=l) (λs=>l.length-s.2.toNat) ⟨1,rfl,TL _,by omega,rfl⟩ (by show l.length-_<=_;omega) ?_;rintro⟨m,k⟩ ⟨i,a,h1,h2,h3⟩;have h3:m=l:=h3;have a:k=(i:Int):=a;rw[h3,a];have e1:w64 ((i:Int)-1)=((i-1:Nat):Int):=by rw[ZX (by omega) (by omega)];omega
 have e3:w64 ((i:Int)+1)=((i+1:Nat):Int):=by rw[ZX (by omega) (by omega)];omega
 unfold X3;dsimp only;refine Tot.cond (λc=> ?_) λ_=>R0 trivial;have c:(i:Int)<(l.length:Int):=TC c;rw[e1,e3];refine .chk ⟨by omega,by omega⟩ ?_;refine .idx (by omega) (by omega) λy _=> ?_;refine .chk ⟨by omega,by omega⟩ ?_;refine .idx (by omega) (by omega) λz _=> ?_;unfold Wn;rw[TA];refine Tot.cond (λ_=>.chk ⟨by omega,by omega⟩ ?_) λ_=>R0 ⟨⟨i+1,rfl,by omega,by omega,rfl⟩,by show l.length-(((i+1:Nat):Int)).toNat<l.length-((i:Int)).toNat;omega⟩;refine Tot.bind (ZKi l h (i:=i) (by omega)) λs hs=> ?_;obtain⟨b,q,d⟩:=hs;refine .chk ⟨q,by omega⟩ (.slc (by decide) q ?_ λm _ _=>R0 trivial);unfold clr;simp only[TF,TH,T2,TP];omega
theorem ZTY (l:List Ptr)(p:Ptr):Tot (ZD9 l p) λr=>r.2=0->r.1.length<=240:=by
 unfold ZD9;refine(ZMf [p]).bind λx _=>Tot.cond (λ_=>R0 λh=>e8 (e:=8) h) λ_=>Tot.bind (P:=λr=>r.2=0->r.1.length<=240) ?_ λr a=>R0 a;unfold ZE2 ZAY;refine Tot.bind (P:=λr:List Ptr×Bool=>r.2=false->r.1.length<=240/\l.length<=240) ((ZH3 l).bind λe d=>Tot.cond (λ_=>R0 λh=>tf h) λc=>(ZMf [p]).bind λr a=>R0 λh=> ?_) λx f=>Tot.cond (λ_=>R0 λh=>e8 (e:=8) h) λc=> ?_
 . exact⟨by show r.2.length<=240;rw[a.1];show 1<=240;decide,d (Yd c)⟩
 obtain⟨h1,h2⟩:=f c;refine(ZMa l x.1 h2 h1).bind λy b=> ?_;unfold ZJy;rw[TG (TQ b (by decide)),TA];unfold YD;have hs:(sortL cmpP y.1).length<=480:=by rw[BO ZMe];exact b
 refine Tot.bind (P:=λr=>r.1.length<=480/\r.2.length<=480) (Tot.app (by simp;omega) (R0 ⟨by simp;exact hs,hs⟩)) λz g=> ?_;refine(ZMb z.1 (by omega)).bind λw _=>Tot.cond (λ_=>R0 λh=>e8 (e:=2) h) λ_=>Tot.cond (λ_=>R0 λh=>e8 (e:=9) h) λc=>R0 λ_=> ?_;have c:=of_decide_eq_false c;show z.2.length<=240;omega
theorem ZLs (a:List Ptr){b:Store}(h:Sized b.Disk)(c:UInt32)(d:Ptr)(e:Int)(f:List Int)(i:f.length<=100000):Tot (Uv a b c d e f) λr=>Sized r.1.Disk/\r.2.2.2.2.length<=f.length+1:=by
 unfold Uv;refine(ZJ2 a).bind λx _=>(ZOd h c x.1).bind λy g=>Tot.cond (λ_=>.app (by simp;omega) (R0 ⟨g,by simp⟩)) λ_=>R0 ⟨g,RJ _⟩
theorem ZRi{a:Store}(h:Sized a.Disk)(b:UInt32)(l:List Ptr):Tot (Uw a b l) λr=>Sized r.1.Disk/\r.2.2.1.length<=241:=by
 unfold Uw Bm;dsimp only;have none:∀{e:Int},Tot (some (Store.mk (Disk.mk [] []) [] 0 0,Ptr.mk 0 0 0 0 0,([]:List Int),e)) λr=>Sized r.1.Disk/\r.2.2.1.length<=241:=R0 ⟨XC,TK _⟩;rw[Xq h,TA];by_cases ok:OKSt a
 . rw [TG ok];refine Tot.bind (P:=λx=>x=false->l.length<=240) (Tot.cond (λ_=>R0 λh=>tf h) λ_=>(ZH3 l).bind λe g=>R0 λh=>g (Yd h)) λx d=>Tot.cond (λ_=>none) λc=> ?_;have i:=d c;refine Tot.bind (P:=λ_=>True) (Tot.cond (λ_=>R0 trivial) λ_=>R0 trivial) λx _=>Tot.cond (λ_=>none) λ_=>Tot.cond (λ_=> ?_) λ_=> ?_
   . rw[ZBo ok,TA];exact R0 ⟨h,TK _⟩
   unfold Qk;rw[show decide ((16:Int)<1)=false from rfl,Tr,TA];refine R3 (P:=λs=>Sized s.1.Disk/\s.2.2.2.2.1.length<=240) (R:=λs=>Sized s.2.2.1.Disk) ?_ (λs hs=> ?_) λs hs=>R0 ⟨hs,TK _⟩
   . refine(Pf (n:=16) (λn s=>Sized s.1.Disk/\s.2.2.2.2.1.length+n<=240/\s.2.2.2.2.2.2.length+n<=240) (R:=λs=>Sized s.2.2.1.Disk) (by decide) (by decide) (by show l.length<=_;omega) ?_ ?_).mono λo f=> ?_
     . have:=ZJc 16 l.length l;exact⟨h,by show 0+(Zp 16 l.length l).length<=_;omega,by show 0+(Zp 16 l.length l).length<=_;omega⟩
     . intro y k j s hs;obtain⟨h1,h2,h3⟩:=hs;unfold KJ;dsimp only;refine(ZLs y h1 _ _ _ _ (by omega)).bind λx d=>Tot.cond (λ_=> ?_) λ_=>.app (by simp;omega) (R0 ⟨d.1,?_,?_⟩)
       . rw[TA];exact R0 XC
       . have:=d.2;dsimp only;omega
       . simp only[TF,List.length_singleton];omega
     . cases o with
       |inl s=>exact⟨f.1,f.2.1⟩
       |inr s=>exact f
   . refine(ZLs _ hs.1 _ _ _ _ (by omega)).bind λx d=>Tot.cond (λ_=> ?_) λ_=>R0 ⟨d.1,?_⟩
     . rw[TA];exact none
     . have:=d.2;have:=hs.2;dsimp only;omega
 . rw[TM ok];exact Tot.bind (P:=λx=>x=true) (R0 rfl) λx d=>by rw[d];exact none
theorem ZRq (l:List UInt8)(c:UInt8)(n:Nat):l.foldl (λn x=>if x==c then n+1 else n) n=n+cntB l c:=by
  unfold cntB;induction l generalizing n with
  |nil=>rfl
  | cons y l i=>
    simp only[Ss];rw[i,i (if y==c then 0+1 else 0)];split<;>omega
theorem ZMd (y:UInt8)(l:List UInt8)(c:UInt8):cntB (y::l) c=(if y==c then 1 else 0)+cntB l c:=by
 rw[show cntB (y::l) c=l.foldl (λn x=>if x==c then n+1 else n) (if y==c then 0+1 else 0)from rfl,ZRq]
theorem ZJb (c:UInt8):∀(l:List UInt8),0<cntB l c->∃i:Nat,Lib.indexByte l c=(i:Int)/\i<l.length/\cntB (l.drop (i+1)) c+1=cntB l c
  |[],h=>absurd (show 0<0 from h) (Nat.lt_irrefl 0)
  | y ::l,h=>by
    rw[ZMd]at h|-;unfold Lib.indexByte;by_cases k:(y==c)=true
    . rw[TG k,TG k];exact⟨0,rfl,by simp,by simp;omega⟩
    . rw[TM k]at h|-;rw[TM k];obtain⟨i,h1,h2,h3⟩:=ZJb c l (by omega);refine⟨i+1,?_,by rw[TZ];omega,by rw[List.drop_succ_cons];omega⟩;rw[h1,TM (by simp)];rfl
theorem ZRp (c:UInt8):∀(l:List UInt8),cntB l c<=l.length
  |[]=>TL _
  | y::l=>by
    have:=ZRp c l;rw[ZMd,TZ];split<;>omega
theorem ZEC{α β:Type}{l:List α}{lo hi:Int}{m:List α}{f:List α->Option β}{Q:β->Prop}(h0:0<=lo)(h1:lo<=hi)(h2:hi<=l.length)(k:∀q,q.length=l.length->Tot (f q) Q):Tot (cpyO l lo hi m f) Q:=by
 unfold cpyO;rw[TG ⟨h0,h1,h2⟩];refine k _ ?_;unfold cpy;simp only[TF,TH,TP];omega
theorem ZPS{a:List UInt8}(p:a.length=256):Tot (loop (V5 a [2] [0] (cntB a 2:Int)) (List.replicate 256 0,0,0,0)) λs=>s.1.length=256/\(0<=s.2.1/\s.2.1<=256)/\0<=s.2.2/\s.2.2<=256:=by
 have q:=ZRp 2 a;refine Tot.loop (λs=>∃w i:Nat,s.2=((w:Int),(w:Int),(i:Int))/\w<=256/\s.1.length=256/\cntB (a.drop w) 2+i=cntB a 2) (λs=>cntB a 2-s.2.2.2.toNat) ⟨0,0,rfl,by decide,T2,rfl⟩ (by show cntB a 2-_<=_;omega) ?_;rintro⟨m,_⟩ ⟨w,i,rfl,h1,h2,h3⟩;have h2:m.length=256:=h2;unfold V5;dsimp only;refine Tot.cond (λc=> ?_) λ_=>R0 ⟨h2,⟨Se w,?_⟩,Se w,?_⟩
 . have c:(i:Int)<(cntB a 2:Int):=TC c;refine .slc (by omega) (by omega) (by omega) λf e8 _=> ?_;have e8:f=a.drop w:=by
    rw[e8];unfold cut;exact Tg (by rw[TP];show a.length-w<=_;omega)
   rw[e8];obtain⟨j,k,g,h⟩:=ZJb 2 (a.drop w) (by omega);rw[TP]at g;rw[show J5 (a.drop w) [2]=some (j:Int)from congrArg some k,TA];clear k e8;rw[add64 (by omega)];refine .chk ⟨by omega,by omega⟩ ?_;refine .slc (by omega) (by omega) (by omega) λb _ l=> ?_;have l:(b.length:Int)=j:=(by omega);rw[l,show min (j:Int) ((m.length:Int)-(w:Int))=(j:Int)from Int.min_eq_left (by omega),add64 (by omega)];refine ZEC (by omega) (by omega) (by omega) λd n=> ?_;refine .chk ⟨by omega,by omega⟩ ?_;refine ZEC (by omega) (by omega) (by omega) λe o=> ?_;rw[show min (([(0:UInt8)]:List UInt8).length:Int) ((d.length:Int)-((w+j:Nat):Int))=((1:Nat):Int) by rw[show(([(0:UInt8)]:List UInt8).length:Int)=((1:Nat):Int)from rfl];exact Int.min_eq_left (by omega),show(([(2:UInt8)]:List UInt8).length:Int)=((1:Nat):Int)from rfl,add64 (by omega),show(i:Int)+1=(i:Int)+((1:Nat):Int)from rfl,add64 (by omega)];refine R0 ⟨⟨w+j+1,i+1,rfl,by omega,?_,?_⟩,?_⟩
   . show e.length=256;omega
   . rw[Sz]at h;rw[show w+j+1=w+(j+1) by omega];omega
   . show cntB a 2-(((i+1:Nat):Int)).toNat<cntB a 2-((i:Int)).toNat
     omega
 . show(w:Int)<=256;omega
 . show(w:Int)<=256;omega
theorem ZNE (a:List UInt8):Tot (UK a) λ_=>True:=by
 unfold UK;rw[VE,TA];by_cases ok:okS a
 . rw[TG ok];have h:=ok.1;refine Tot.cond (λ_=>R0 trivial) λ_=>Tot.bind (P:=λ_=>True) ?_ λ_ _=>R0 trivial;unfold V6;refine Tot.bind (P:=λ_=>True) ?_ λ_ _=>R0 trivial;unfold GY;rw[show(!decide ((-1:Int)=0))=true from rfl,Tu,show Wv a [2]=some (cntB a 2:Int)from rfl,TA,TA];refine Tot.cond (λ_=>.app (by rw[T6];omega) (R0 trivial)) λc0=> ?_;rw[show decide ((-1:Int)<0)=true from rfl,Tu,TA,Tu,TA];rw[show w64 ((a.length:Int)+w64 ((cntB a 2:Int)*w64 ((([(0:UInt8)]:List UInt8).length:Int)-(([(2:UInt8)]:List UInt8).length:Int))))=256 by
    rw[show w64 ((([(0:UInt8)]:List UInt8).length:Int)-(([(2:UInt8)]:List UInt8).length:Int))=0 from by decide,Int.mul_zero,h];decide]
   refine Tot.mks (by decide) (by decide) ?_;rw[show decide (0<(([(2:UInt8)]:List UInt8).length:Int))=true from rfl,Tu];refine Tot.bind (P:=λs=>s.1.length=256/\(0<=s.2.1/\s.2.1<=256)/\0<=s.2.2/\s.2.2<=256) ((ZPS h).bind λs hs=>R0 hs) λs hs=> ?_;obtain⟨h1,⟨h2,h3⟩,b,c⟩:=hs;refine .chk ⟨h2,by omega⟩ ?_;refine .slc b (by omega) (by omega) λm _ l=> ?_;refine ZEC h2 (by omega) (by omega) λq d=> ?_;have e:0<=min (m.length:Int) ((s.1.length:Int)-s.2.1):=(by rw[Int.le_min];omega);have f:min (m.length:Int) ((s.1.length:Int)-s.2.1)<=(s.1.length:Int)-s.2.1:=Int.min_le_right ..;rw[ZX (by omega) (by omega)];exact .slc (by decide) (by omega) (by omega) λ_ _ _=>R0 trivial
 . rw[TM ok];exact R0 trivial
theorem ZJS{d:Disk}(h:Sized d):Tot (G4 d) λr=>Sized r.1:=by
 unfold G4;show Tot (Option.bind (X6 d true d) _) _;rw[ZFY h,TA];by_cases ok:OKD d
 . rw[TG ok,TG rfl];exact R0 (ZKB ok d.Waits λw a=>a).sized
 . rw[TM ok];exact R0 XC
theorem ZSp (l:Label):Tot (ZBI l) λ_=>True:=by
 unfold ZBI;refine Tot.cond (λ_=>Tot.cond (λ_=>Tot.cond (λ_=>Tot.cond (λ_=>Tot.cond (λ_=> ?_) λ_=>R0 trivial) λ_=>R0 trivial) λ_=>R0 trivial) λ_=>R0 trivial) λ_=>R0 trivial;rw[Zq,TA];exact R0 trivial
theorem ZRZ {a:List UInt8}(h:a.length<=100000):Jg a=(Uq a).bind λx=>some (x.1,x.2.1,x.2.2.1,x.2.2.2,a):=by
  unfold Jg Uq XV Za;have e:∀{β:Type} (k:List UInt8->Option β),app [] a k=k a:=λk=>by rw[B7 (by simp only[T6,LIM];omega)];rfl
  rw[e,e,TA,TA];show Option.bind (YY a) _=Option.bind (Option.bind (YY a) _) _;cases YY a with
  |none=>rfl
  | some d =>
    rw[TA,TA,VV (by decide),VV (by decide)];unfold app;split
    . show Option.bind (loop X5 _) _=Option.bind (Option.bind (loop X5 _) _) _;cases loop X5 (d++ [1])with
      |none=>rfl
      | some c=>
        rw[TA,TA];show Option.bind (Zm c 8) _=Option.bind (Option.bind (Zm c 8) _) _;cases Zm c 8 with
        |none=>rfl
        | some b=>
          rw[TA,TA];show Option.bind (Go.Pv.chunkR b.1 b.2 Ku _) _=Option.bind (Option.bind (Go.Pv.chunkR b.1 b.2 Ku _) _) _;cases Go.Pv.chunkR b.1 b.2 Ku ((1:UInt32),(2:UInt32),(3:UInt32),(4:UInt32))with
          |none=>rfl
          | some o=>
            rw[TA,TA];cases o with
            |inr u=>rfl
            | inl s=>
              rw[Sum.elim_inl,Sum.elim_inl];dsimp only;cases Yt s.1 (s.2.1^^^u32i (a.length:Int)) s.2.2.1 s.2.2.2 8<;>rfl
    . rfl
theorem ZPv (l:Label):Tot (Ji l) λ_=>True:=by
 unfold Ji;refine(ZJ7 _).bind λa h=>(ZJ7 _).bind λc b=>(GZ l.Root).bind λx i=>.app (by simp[h.1]) (.app (by simp[h.1,b.1]) (.app (by simp[h.1,b.1];omega) ?_));have f:([(67:UInt8)]++a.1++c.1++x.1).length<=25:=by simp[h.1,b.1];omega
 unfold ZCo;refine Tot.bind (P:=λr=>r.2.length<=25) ?_ λr e=> ?_
 . rw[ZRZ (by omega)];exact Tot.bind (P:=λr=>r.2.2.2.2.length<=25) ((ZHw (by omega)).bind λ_ _=>R0 f) λr e=>R0 e
 . exact(ZJ7 _).bind λd g=>.app (by omega) (.mks (by decide) (by decide) (.app (by rw[TF,T2,g.1];show r.2.length+4+227<=_;omega) (R0 trivial)))
theorem ZQ9{d:Disk}(h:Sized d)(l:Label):Tot (ZBJ d l) λr=>Sized r.1:=by
 unfold ZBJ;rw[US h,TA];refine Tot.cond (λ_=>R0 XC) λ_=>(ZSp l).bind λx _=>Tot.cond (λ_=>R0 XC) λ_=> ?_;unfold ZCq;rw[TA];refine(ZPv l).bind λb _=> ?_;rw[ZD8 h (ZHs ⟨by omega,by have:=(l.Gen%4).toNat_lt;have:(l.Gen%(4:UInt32)).toNat=l.Gen.toNat%4:=UInt32.toNat_mod _ _;omega⟩),TA];rcases ZDN d ((l.Gen%(4:UInt32)).toNat:Int) b with⟨-,c⟩|⟨ok,h1,h2,h3,e⟩
 . exact R0 (by show Sized (Df _ _ _).1;rw[c];exact XC)
 . exact R0 (by show Sized (Df _ _ _).1;rw[e];exact(ok.write h1 h2 h3).sized)
def KinL (p:Pool)(l:List Line):Prop:=l.map (·.Id)=p.Lines.map (·.Id)/\∀x∈l,(0<=x.Key/\x.Key<8)/\x.Dead.length<=240
theorem KinL.len{p:Pool}{l:List Line}(h:KinL p l):l.length=p.Lines.length:=by have:=congrArg List.length h.1;simpa using this
theorem KinL.set{p:Pool}{l:List Line}(h:KinL p l){i:Nat}{y z:Line}(a:l[i]? =some y)(h1:z.Id=y.Id)(h2:z.Key=y.Key)(h3:z.Dead.length<=240):KinL p (l.set i z):=by
 have hi:i<l.length:=(TD.1 a).1;have c:=TW a;refine⟨?_,λx b=> ?_⟩
 . rw[<-h.1,List.map_set];refine Tp λj=> ?_;rw[T5];split
   . rename_i e;subst e;rw[TG (by rw[RL];exact hi),Sb,a,h1];rfl
   . rfl
 . rcases List.mem_or_eq_of_mem_set b with b|rfl
   . exact h.2 _ b
   . exact⟨by rw[h2];exact(h.2 _ c).1,h3⟩
abbrev SS:Type:=Pool×UInt32×Int
structure FitY (p:Pool) (s:SS):Prop where
  disk:Sized s.1.Store.Disk
  kin:KinL p s.1.Lines
  loaded:s.1.Loaded.length=8
  keys:s.1.Keys=p.Keys
  changes:s.1.Changes=p.Changes
  metas:s.1.MetaL=p.MetaL
variable{p:Pool}
theorem ZPa (l:List Line)(b:Int)(d:l.length<=1000):Tot (JQ l b) λr=>r.2=l/\∀i,r.1=some i->0<=i/\i.toNat<l.length:=by
 unfold JQ Zw;obtain⟨q,f,e⟩:=ZRv l (λy=>XA y b) (λy _=>⟨_,by unfold XA;rw[Bn,TA]⟩) (body:=ZZ l b) (λi j h1 h2=>by
  unfold ZZ;dsimp only;have e:=mid1 (i:=i) (j:=j) (by omega) (by omega);rw[TV (show(i:Int)<(j:Int) by omega),Tu,VV (by decide),e,VV ⟨by omega,by omega⟩];rw[show w64 ((((i+j)/2:Nat):Int)+1)=(((i+j)/2+1:Nat):Int) by rw[ZX (by omega) (by omega)];omega]) (λi=>by
  unfold ZZ;dsimp only;rw[TT (show¬(i:Int)<(i:Int) by omega),Tr]) (by omega)
 rw[e,TA];refine Tot.bind (P:=λr=>r.2.2=l/\(r.2.1=true->0<=r.1/\r.1.toNat<l.length)) (Tot.cond (λc=> ?_) λ_=>R0 ⟨rfl,λh=>by cases h⟩) λr a=> ?_
 . have c:=TC c;refine .chk ⟨by omega,by omega⟩ (.idx (by omega) (by omega) λy _=> ?_);unfold XA;rw[Bn];exact R0 ⟨rfl,λ_=>⟨by show(0:Int)<=(q:Int);omega,by show((q:Int)).toNat<l.length;omega⟩⟩
 . refine Tot.cond (λ_=>R0 ⟨a.1,λi h=>by cases h⟩) λc=> ?_;have c:r.2.1=true:=by cases h:r.2.1<;>rw[h]at c<;>first|rfl|cases c
   obtain⟨h1,h2⟩:=a.2 c;rw[a.1];exact .chk ⟨h1,h2⟩ (R0 ⟨rfl,λi h=>by cases h;exact⟨h1,h2⟩⟩)
theorem ZI7 (s:List UInt8)(i:Int):Tot (Ke s i) λ_=>True:=by
 unfold Ke;rw[VE,TA];by_cases ok:okS s
 . rw[TG ok];have b:=ok.1;refine Tot.cond (λ_=>R0 trivial) λ_=>Tot.bind (P:=λx=>x=false->12<=i/\i<256) (Tot.cond (λ_=>R0 λh=>by cases h) λc=>R0 λh=> ?_) λx a=>Tot.cond (λ_=>R0 trivial) λc=> ?_
   . have c:=of_decide_eq_false c;have h:=of_decide_eq_false h;omega
   obtain⟨h1,h2⟩:=a c;refine .idx (by omega) (by omega) λy _=>Tot.cond (λ_=>R0 trivial) λ_=> ?_;rw[ZE8 (by omega),TA];exact .chk ⟨by omega,by omega⟩ (.setI (by omega) (by omega) (R0 trivial))
 . rw[TM ok];exact R0 trivial
theorem ZDz{s:SS}(h:FitY p s)(j:p.Lines.length<=16){a:Nat}(k:a<p.Lines.length)(q:Ptr):Tot (Xi (a:Int) q s) (FitY p):=by
  have l:=h.kin.len;unfold Xi;refine Tot.bind (P:=λ_=>True) (Tot.cond (λ_=>R0 trivial) λ_=>R0 trivial) λx _=>Tot.cond (λ_=>R0 h) λ_=> ?_;refine .idx (by omega) (by omega) λy m=>(ZPa _ _ (by omega)).bind λr d=> ?_;rw[d.1];refine Tot.bind (P:=λ_=>True) (Tot.cond (λc=> ?_) λ_=>R0 trivial) λt _=> ?_
  . cases e:r.1 with
    |none=>rw[e]at c;cases c
    | some i=>
      obtain⟨h1,h2⟩:=d.2 i e;rw[TA];exact .idx h1 h2 λ_ _=>R0 trivial
  . refine Tot.bind (P:=λx=>Sized x.1.Disk/\KinL p x.2.2.2.1/\x.2.2.2.2.1=p.Changes) (Tot.cond (λ_=>(ZI7 _ _).bind λw _=> ?_) λ_=> ?_) λx b=>Tot.bind (P:=λ_=>True) (Tot.cond (λ_=>R0 trivial) λ_=>R0 trivial) λ_ _=>Tot.cond (λ_=>R0 ⟨b.1,b.2.1,h.loaded,h.keys,b.2.2,h.metas⟩) λ_=>R0 ⟨b.1,b.2.1,h.loaded,h.keys,b.2.2,h.metas⟩
    . refine Tot.bind (P:=λx=>Sized x.1.Disk/\x.2.2.2.1=p.Changes) (Tot.cond (λ_=>R0 ⟨h.disk,h.changes⟩) λ_=>R0 ⟨h.disk,h.changes⟩) λx b=>R0 ⟨b.1,h.kin,b.2⟩
    . refine .idx (by omega) (by omega) λz n=>(ZTY _ _).bind λw g=> ?_;refine Tot.bind (P:=λx=>Sized x.1.Disk/\KinL p x.2.2.2.1/\x.2.2.2.2.1=p.Changes) (Tot.cond (λc=> ?_) λ_=>R0 ⟨h.disk,h.kin,h.changes⟩) λx b=>R0 b;refine .idx (by omega) (by omega) λu f=>.setI (by omega) (by omega) (R0 ⟨h.disk,?_,h.changes⟩);rw[show((a:Int)).toNat=a from rfl]at f|-;exact h.kin.set f rfl rfl (g (TC c))
theorem ZG3{s:SS}(h:FitY p s)(b:List UInt8):Tot (QC b s) λr=>FitY p r.2:=by
 unfold QC;exact Tot.cond (λ_=>(ZOd h.disk _ b).bind λr a=>R0 ⟨a,h.kin,h.loaded,h.keys,h.changes,h.metas⟩) λ_=>R0 h
theorem ZQd{s:SS}(h:FitY p s)(b:p.Lines.length<=16){a:Nat}(d:a<p.Lines.length)(q:Ptr)(c:Change):Tot (KB (a:Int) q c s) λr=>FitY p r.2:=by
 unfold KB;refine(ZDz h b d q).bind λs h=> ?_;have g:=h.kin.len;refine Tot.bind (P:=λ_=>True) (Tot.cond (λ_=>R0 trivial) λ_=>Tot.cond (λ_=>R0 trivial) λ_=>R0 trivial) λ_ _=>Tot.cond (λ_=>R0 h) λ_=> ?_;refine .idx (by omega) (by omega) λy e=> ?_;obtain⟨h1,h2⟩:=(h.kin.2 y (TW e)).1;have h3:=h.loaded;refine .chk ⟨h1,by omega⟩ (.idx h1 (by omega) λk _=>Tot.cond (λ_=>R0 ⟨h.disk,h.kin,h.loaded,h.keys,h.changes,h.metas⟩) λ_=> ?_);exact(ZPL h.disk _ k _).bind λr f=>R0 ⟨f,h.kin,h.loaded,h.keys,h.changes,h.metas⟩
theorem ZNM (o:Object):Tot (UL o) λ_=>True:=by
 unfold UL;simp only[ZI2,TA];refine Tot.bind (P:=λ_=>True) (Tot.cond (λ_=>R0 trivial) λ_=>Tot.cond (λ_=>R0 trivial) λ_=>Tot.cond (λ_=>R0 trivial) λ_=>Tot.cond (λ_=>R0 trivial) λc=> ?_) λx _=>Tot.cond (λ_=>R0 trivial) λ_=>R0 trivial;unfold YX Yz;have a:(o.Data.length:Int)=15:=by simpa using c
 refine Tot.bind (P:=λ_=>True) (Tot.bind (P:=λ_=>True) ?_ λ_ _=>R0 trivial) λ_ _=>R0 trivial;refine R3 (P:=λ_=>True) (R:=λ_=>True) ?_ (λ_ _=>R0 trivial) λ_ _=>R0 trivial;refine Tot.loop (λi=>i<=o.Data.length) (λi=>o.Data.length-i) (TK _) (by show o.Data.length-0<=_;omega) λi hi=> ?_;unfold Xs WZ;refine Tot.cond (λh=> ?_) λ_=>R0 trivial;have h:=TC h;refine .idx (by omega) (by omega) λy _=> ?_;rw[Zq,TA,TA];exact Tot.cond (λ_=>R0 trivial) λ_=>R0 ⟨by show i+1<=_;omega,by show _-(i+1)<_-i;omega⟩
theorem ZNJ (o:Object):Tot (ZBE o) λ_=>True:=by
 unfold ZBE;refine(ZNM o).bind λx _=>Tot.cond (λ_=>R0 trivial) λ_=>(Jd _ (k:=2) (by decide) (by decide)).bind λy b=>.app (by simp;omega) (ZEC (by decide) (by decide) (by decide) λm h=> ?_);have h:m.length=16:=h
 repeat refine Tot.idx (by decide) (by rw[h];decide) λ_ _=> ?_
 refine(ZJ2 o.Data).bind λr a=>Tot.cond (λ_=>R0 trivial) λc=> ?_;have:=a.2 (Yd c);exact .slc (by decide) (by decide) (by omega) λq _ d=>.chk (by omega) (.app (by simp;omega) (R0 trivial))
theorem ZNN{s:SS}(h:FitY p s)(t:p.Lines.length<=16){a:Nat}(u:a<p.Lines.length)(f w:Ptr){l:List Change}(H:l.length<=1000)(h0:l≠[])(C:∀c∈l,0<=c.Index/\c.Index<=15):Tot (XR (a:Int) f w l s) λr=>FitY p r.2:=by
 have g:0<l.length:=Rl.2 h0;unfold XR QZ;dsimp only;refine .mks (by decide) (by decide) ?_;refine Tot.bind (P:=λx=>Sized x.1.Disk/\x.2.2.2.1=p.Changes/\(x.2.2.2.2.2.2.2.2.2.Data.length<=15/\(x.2.2.2.2.2.2.2.2.1=0->x.2.2.2.2.2.2.2.2.2.Data.length=15))) (Tot.cond (λ_=>.idx (by decide) g λy _=> ?_) λ_=>R0 ⟨h.disk,h.changes,by simp,λ_=>by simp⟩) λx d=> ?_
 . exact(ZQg h.disk _ _).bind λr e=>R0 ⟨h.disk,h.changes,e⟩
 refine R3 (P:=λx=>FitY p x.1) (R:=λx=>FitY p x.1/\x.2.2.2=(a:Int)/\x.2.2.1.Data.length<=15) ?_ (λx d=>R0 d) λx d=> ?_
 . refine Tot.loop (λs=>FitY p s.1/\(s.2.2.1.Data.length<=15/\(s.1.2.2=0->s.2.2.1.Data.length=15))/\s.2.2.2.1=(a:Int)/\∃i:Nat,s.2.2.2.2=(i:Int)/\i<=l.length) (λs=>l.length-s.2.2.2.2.toNat) ⟨⟨d.1,h.kin,h.loaded,h.keys,d.2.1,h.metas⟩,d.2.2,rfl,0,rfl,TK _⟩ (by show l.length-_<=_;omega) ?_;rintro⟨s,q,o,b,j⟩ ⟨k,m,v,i,A,D⟩;obtain rfl:b=(a:Int):=v;obtain rfl:j=(i:Int):=A;have m:o.Data.length<=15/\(s.2.2=0->o.Data.length=15):=m;have k:FitY p s:=k;unfold Yf;dsimp only;refine Tot.cond (λc=> ?_) λ_=>R0 ⟨k,rfl,m.1⟩;have c:=TC c;have e1:w64 ((i:Int)+1)=((i+1:Nat):Int):=(by rw[ZX (by omega) (by omega)];omega);rw[e1];have dec:l.length-(((i+1:Nat):Int)).toNat<l.length-((i:Int)).toNat:=(by omega);refine .idx (by omega) (by omega) λy E=>Tot.cond (λ_=>R0 k) λc0=>Tot.cond (λ_=>R0 ⟨⟨k,m,rfl,i+1,rfl,by omega⟩,dec⟩) λB=> ?_;have F:=m.2 (Yd c0);have B:=of_decide_eq_false B;obtain⟨n,I⟩:=C y (TW E);refine .chk ⟨n,by omega⟩ (.idx n (by omega) λz _=>(ZQd k t u z y).bind λr e=>.chk ⟨n,by omega⟩ (.setI n (by omega) (R0 ⟨⟨e,⟨by show(List.set _ _ _).length<=15;rw[SC];omega,λ_=>by show(List.set _ _ _).length=15;rw[SC];exact F⟩,rfl,i+1,rfl,by omega⟩,dec⟩)))
 . obtain⟨s,q,o,b⟩:=x;obtain⟨k,rfl,G⟩:FitY p s/\b=(a:Int)/\o.Data.length<=15:=d;refine(ZDz k t u w).bind λs k=>Tot.cond (λ_=> ?_) λ_=> ?_
   . refine Tot.bind (P:=FitY p) ?_ λs hs=>R0 hs;refine Tot.loop (λs=>FitY p s.1/\s.2.1=(a:Int)/\∃i:Nat,s.2.2=(i:Int)/\i<=o.Data.length) (λs=>o.Data.length-s.2.2.toNat) ⟨k,rfl,0,rfl,TK _⟩ (by show o.Data.length-_<=_;omega) ?_;rintro⟨s,b,j⟩ ⟨k,v,i,A,D⟩;obtain rfl:b=(a:Int):=v;obtain rfl:j=(i:Int):=A;unfold Ye;dsimp only;refine Tot.cond (λc=> ?_) λ_=>R0 k;have c:=TC c;have e1:w64 ((i:Int)+1)=((i+1:Nat):Int):=(by rw[ZX (by omega) (by omega)];omega);rw[e1];exact .chk ⟨by omega,by omega⟩ (.idx (by omega) (by omega) λz _=>(ZDz k t u z).bind λr e=>R0 ⟨⟨e,rfl,i+1,rfl,by omega⟩,by show o.Data.length-(((i+1:Nat):Int)).toNat<o.Data.length-((i:Int)).toNat;omega⟩)
   . exact(ZNJ o).bind λb _=>(ZG3 k b.1).bind λr e=>R0 e
theorem ZPr (l:List Change)(c:Change)(h:l[0]? =some c)(e:l.length<=100000):Tot (Zz l c.Obj) λr=>r.2=c.Obj/\(r.1<0\/1<=r.1/\r.1<=(l.length:Int)):=by
 unfold Zz;refine R3 (P:=λx=>x.1=c.Obj/\1<=x.2/\x.2<=(l.length:Int)) (R:=λx=>x=c.Obj) ?_ (λx a=>R0 ⟨a.1,.inr a.2⟩) λx a=>R0 ⟨a,.inl (show(-1:Int)<0 by decide)⟩;refine Tot.loop (λs=>s.1=c.Obj/\∃i:Nat,s.2=(i:Int)/\i<=l.length) (λs=>l.length-s.2.toNat) ⟨rfl,0,rfl,TK _⟩ (by show l.length-_<=_;omega) ?_;rintro⟨_,_⟩ ⟨rfl,i,rfl,h1⟩;unfold XM Kb;dsimp only;refine Tot.cond (λk=> ?_) λ_=>R0 rfl;have k:=TC k;rw[VD (by omega)];refine .idx (by omega) (by omega) λy b=>Tot.cond (λd=>R0 ⟨rfl,?_,by show(i:Int)<=_;omega⟩) λ_=>R0 ⟨⟨rfl,i+1,rfl,by omega⟩,by show l.length-(((i+1:Nat):Int)).toNat<l.length-((i:Int)).toNat;omega⟩;show 1<=(i:Int);rcases Nat.eq_zero_or_pos i with rfl|h
 . have:some c=some y:=(by rw[<-h,<-b];rfl);cases this;simp at d
 . omega
theorem ZPN (l:List Ptr)(a:l.length<=100000):Tot (Z1 l) λ_=>True:=by
 unfold Z1 Yy;refine Tot.bind (P:=λ_=>True) ?_ λ_ _=>R0 trivial;refine R3 (P:=λ_=>True) (R:=λ_=>True) ?_ (λ_ _=>R0 trivial) λ_ _=>R0 trivial;refine Tot.loop (λi=>i<=l.length) (λi=>l.length-i) (TK _) (by show l.length-0<=_;omega) λi hi=> ?_;unfold Xr KZ;refine Tot.cond (λh=> ?_) λ_=>R0 trivial;have h:=TC h;exact .idx (by omega) (by omega) λy _=>Tot.cond (λ_=>R0 trivial) λ_=>R0 ⟨by show i+1<=_;omega,by show _-(i+1)<_-i;omega⟩
theorem ZOn{α:Type}{l:List α}{a b:Int}{y:α}(h:y∈cut l a b):y∈l:=S4 (SG h)
variable{p:Pool}
theorem ZMg{s:SS}(h:FitY p s)(G:p.Lines.length<=16){a:Nat}(H:a<p.Lines.length){l:List Change}(L:l.length<=1000)(o:∀c∈l,Put1 c):Tot (Zg (a:Int) l s) (FitY p):=by
 unfold Zg;show Tot (YW _ _ _ _) _;unfold YW;dsimp only;refine Tot.bind (P:=λ_=>True) (Tot.cond (λ_=>R0 trivial) λ_=>R0 trivial) λ_ _=>Tot.cond (λ_=>R0 h) λ_=> ?_;have A:=h.kin.len;refine .idx (by omega) (by omega) λy B=> ?_;have u:∀{s:SS} {e:Int},FitY p s->FitY p (s.1,(s.2.1,e)):=λh=>⟨h.disk,h.kin,h.loaded,h.keys,h.changes,h.metas⟩;refine(ZLW h.disk _).bind λr i=>Tot.cond (λ_=>R0 (u h)) λc=> ?_;have i:=i (Yd c);refine Tot.bind (P:=λx=>FitY p x.1/\x.2.1=(a:Int)/\x.2.2.length=16) ?_ ?_
 . refine Tot.loop (λs=>FitY p s.1/\s.2.1=(a:Int)/\s.2.2.1.length<=l.length/\(∀c∈s.2.2.1,Put1 c)/\s.2.2.2.length=16) (λs=>s.2.2.1.length) ⟨u h,rfl,TL _,o,i⟩ (by show l.length<=_;omega) ?_;rintro⟨s,b,m,row⟩ ⟨k,t,I,v,g⟩;obtain rfl:b=(a:Int):=t;have k:FitY p s:=k;have I:m.length<=l.length:=I;have v:∀c∈m,Put1 c:=v;have g:row.length=16:=g;unfold YR;dsimp only;refine Tot.bind (P:=λx=>x=true->0<m.length) (Tot.cond (λc=>R0 λ_=>by have:=TC c;omega) λ_=>R0 λh=>by cases h) λx J=>Tot.cond (λc=> ?_) λ_=>R0 ⟨k,rfl,g⟩;have K:=J c;have A:=k.kin.len;refine .idx (by decide) K λy B=>(ZPr m y B (by omega)).bind λr i=> ?_;refine Tot.bind (P:=λn=>1<=n/\n<=(m.length:Int)) (Tot.cond (λ_=>R0 (by show 1<=(m.length:Int)/\(m.length:Int)<=_;omega)) λd=>R0 ?_) λn hn=> ?_
   . have d:=of_decide_eq_false d;rcases i.2 with q|q
     . exact absurd q d
     . exact q
   obtain⟨⟨C,M⟩,-⟩:=v y (TW B);rw[i.1];refine Tot.bind (P:=λx=>FitY p x.1/\x.2.1=(a:Int)/\x.2.2.length=16) (.idx (by omega) (by omega) λz _=>.chk ⟨C,by omega⟩ (.idx C (by omega) λw _=>.chk rfl (.slc (by decide) (by omega) (by omega) λq D E=> ?_))) ?_
   . refine(ZNN k G H z.Root w (l:=q) (by omega) (λe=>by rw[e]at E;simp at E;omega) λc o=>(v c (ZOn (D▸o))).2).bind λr i=>.chk ⟨C,by omega⟩ (.setI C (by omega) (R0 ⟨i,rfl,by simp[g]⟩))
   . rintro⟨s,b,row⟩ ⟨k,t,g⟩;obtain rfl:b=(a:Int):=t;exact .slc (by omega) (by omega) (by omega) λq D E=>R0 ⟨⟨k,rfl,by show q.length<=_;omega,λc o=>v c (ZOn (D▸o)),g⟩,by show q.length<m.length;omega⟩
 . rintro⟨s,b,row⟩ ⟨k,t,g⟩;obtain rfl:b=(a:Int):=t;have g:row.length=16:=g;have k:FitY p s:=k;have A:=k.kin.len;dsimp only;refine .idx (by omega) (by omega) λy B=>(ZDz k G H _).bind λs k=> ?_;have A:=k.kin.len;refine .idx (by omega) (by omega) λz j=>.setI (by omega) (by omega) ?_;rw[show((a:Int)).toNat=a from rfl]at j|-;have F:=(k.kin.2 z (TW j)).2;have f:FitY p (Pool.mk s.1.Store s.1.Gen s.1.Root s.1.MetaL (s.1.Lines.set a (Line.mk z.Id z.Kind z.Owner z.Prev z.Txg z.Guid z.Key (Ptr.mk 0 0 0 0 0) z.Dead)) s.1.Keys s.1.Loaded s.1.Changes s.1.Logged s.1.NextId s.1.NextGuid,s.2):=⟨k.disk,k.kin.set j rfl rfl F,k.loaded,k.keys,k.changes,k.metas⟩;refine(ZPN row (by omega)).bind λb _=>Tot.cond (λ_=> ?_) λ_=>R0 f;refine(ZJ2 row).bind λw _=>(ZG3 f w.1).bind λr k=> ?_;have A:=k.kin.len;refine .idx (by omega) (by omega) λz j=>.setI (by omega) (by omega) (R0 ?_);rw[show((a:Int)).toNat=a from rfl]at j|-;exact⟨k.disk,k.kin.set j rfl rfl (k.kin.2 z (TW j)).2,k.loaded,k.keys,k.changes,k.metas⟩
theorem ZIN (y:Change){b:Nat}{c:List Line}(h:b<c.length):Tot (Qh y (b:Int) c) λr=>r.2=(c,(b:Int)):=by
 unfold Qh;exact .idx (by omega) (by omega) λz _=>R0 rfl
theorem ZNz (l:List Change)(u:l.length<=100000){b:Nat}{c:List Line}(h:b<c.length):Tot (ZL l (b:Int) c) λr=>(∀y∈r.1,y∈l)/\r.1.length<=l.length/\r.2.1=c:=by
 unfold ZL;refine Tot.bind (P:=λr=>r.2=(l,c,(b:Int))/\(r.1= -1\/0<=r.1/\r.1<(l.length:Int))) ?_ ?_
 . unfold Zh;refine R3 (P:=λx=>x.2.2=c/\x.1=(b:Int)/\0<=x.2.1/\x.2.1<(l.length:Int)) (R:=λx=>x=((b:Int),c)) ?_ ?_ ?_
   . refine Tot.loop (λs=>s.1=(b:Int)/\s.2.2=c/\∃i:Nat,s.2.1=(i:Int)/\i<=l.length) (λs=>l.length-s.2.1.toNat) ⟨rfl,rfl,0,rfl,TK _⟩ (by show l.length-_<=_;omega) ?_;rintro⟨_,_,_⟩ ⟨rfl,rfl,i,rfl,h1⟩;unfold YJ;dsimp only;refine Tot.cond (λk=> ?_) λ_=>R0 rfl;have k:=TC k;rw[VD (by omega)];refine .chk ⟨by omega,by omega⟩ (.idx (by omega) (by omega) λy a=>(ZIN y h).bind ?_);rintro⟨d,_⟩ rfl;exact Tot.cond (λ_=>R0 ⟨rfl,rfl,by show(0:Int)<=(i:Int);omega,by show(i:Int)<_;omega⟩) λ_=>R0 ⟨⟨rfl,rfl,i+1,rfl,by omega⟩,by show l.length-(((i+1:Nat):Int)).toNat<l.length-((i:Int)).toNat;omega⟩
   . rintro⟨_,_,_⟩ ⟨rfl,rfl,h1,h2⟩;exact R0 ⟨rfl,.inr ⟨h1,h2⟩⟩
   . rintro _ rfl;exact R0 ⟨rfl,.inl rfl⟩
 . rintro⟨n,_⟩ ⟨rfl,hn⟩;refine Tot.cond (λ_=>R0 ⟨λy a=>a,TL _,rfl⟩) λd=> ?_;have d:¬n= -1:=of_decide_eq_false d;obtain⟨g,A⟩:0<=n/\n<(l.length:Int):=by
    rcases hn with hn|hn
    . exact absurd hn d
    . exact hn
   obtain⟨w,rfl⟩:=SJ g;dsimp only;rw[VD (by omega)];refine Tot.bind (P:=λs=>s.2.1.length=l.length/\(∀y∈s.2.1,y∈l)/\0<=s.2.2.1/\s.2.2.1<=(l.length:Int)/\s.2.2.2=c) ?_ ?_
   . refine Tot.loop (λs=>∃w i:Nat,s.1=(b:Int)/\s.2.1.length=l.length/\(∀y∈s.2.1,y∈l)/\s.2.2=((w:Int),(i:Int),c)/\w<i/\i<=l.length) (λs=>l.length-s.2.2.2.1.toNat) ⟨w,w+1,rfl,rfl,λy a=>a,rfl,by omega,by omega⟩ (by show l.length-_<=_;omega) ?_;rintro⟨_,m,_⟩ ⟨w,i,rfl,h1,h2,rfl,h3,e⟩;have h1:m.length=l.length:=h1;unfold YQ;dsimp only;refine Tot.cond (λk=> ?_) λ_=>R0 ⟨h1,h2,by show(0:Int)<=(w:Int);omega,by show(w:Int)<=_;omega,rfl⟩;have k:=TC k;rw[VD (by omega),VD (by omega)];refine .chk ⟨by omega,by omega⟩ (.idx (by omega) (by omega) λy a=>(ZIN y h).bind ?_);rintro⟨d,_⟩ rfl;refine Tot.bind (P:=λx=>∃v:Nat,x.2=(v:Int)/\v<i+1/\x.1.length=l.length/\∀y∈x.1,y∈l) (Tot.cond (λ_=>.chk ⟨by omega,by omega⟩ (.setI (by omega) (by omega) (R0 ⟨w+1,rfl,by omega,by rw[SC];exact h1,λz f=> ?_⟩))) λ_=>R0 ⟨w,rfl,by omega,h1,h2⟩) ?_
     . rcases List.mem_or_eq_of_mem_set f with f|rfl
       . exact h2 _ f
       . exact h2 _ (TW a)
     . rintro⟨x,_⟩ ⟨v,rfl,j,o,p⟩;exact R0 ⟨⟨v,i+1,rfl,o,p,rfl,j,by omega⟩,by show l.length-(((i+1:Nat):Int)).toNat<l.length-((i:Int)).toNat;omega⟩
   . rintro⟨_,m,w,_⟩ ⟨h1,h2,h3,e,rfl⟩;have h1:m.length=l.length:=h1;have h3:0<=w:=h3;have e:w<=(l.length:Int):=e;have B:(clr m w.toNat m.length (Change.mk 0 0 0 0 0 0 [] (Ptr.mk 0 0 0 0 0))).length=l.length:=by
      unfold clr;simp only[TF,TH,T2,TP];omega
     refine .chk ⟨h3,by show w<=_;omega⟩ (.slc (by decide) h3 (by show w<=((clr m w.toNat m.length _).length:Int);omega) λq t C=>R0 ⟨λy a=>h2 y ?_,by show q.length<=_;omega,rfl⟩);have a:y∈cut (clr m w.toNat m.length (Change.mk 0 0 0 0 0 0 [] (Ptr.mk 0 0 0 0 0))) 0 w:=t▸a;unfold cut clr at a;rw[TI,show(0:Int).toNat=0 from rfl,List.drop_zero,List.take_append_of_le_length (by rw[TH];omega)]at a;exact SG (SG a)
end Go.Ow
namespace Go.Ow
theorem ZPK{p:Pool}(h:Weak p)(a:SizY p):KC p=some p:=by
 have b:=a.metas;have c:=a.changes;have d:=h.few;have e:=h.keys.1;have f:=h.loaded.1;unfold KC Qx XL Zi VJ;rw[ZBo h.store,TA,BG (by omega),TA,BG (by omega),TA,BG (by omega),TA];rw[show loop (JV p.Lines) (p.Store.Disk,p.Store.Epoch,p.Store.Count,p.Gen,p.Root,p.Lines,p.Keys,p.Loaded,p.Logged,p.NextId,p.NextGuid,0)=_ from
  ZDU (λi=>(p.Store.Disk,p.Store.Epoch,p.Store.Count,p.Gen,p.Root,p.Lines,p.Keys,p.Loaded,p.Logged,p.NextId,p.NextGuid,(i:Int))) (p.Store.Disk,p.Store.Epoch,p.Store.Count,p.Gen,p.Root,p.Lines,p.Keys,p.Loaded,p.Logged,p.NextId,p.NextGuid) p.Lines.length (λi hi=>by
   unfold JV YE;dsimp only;rw[ZOu _ _ hi,Tu,ZAf hi,Xb _ hi,BG (by have:=(h.lines _ (Sv hi)).2;omega),TA,ZAf hi,Xb _ hi,ZA8 hi rfl,ZDP (by omega)]) (by
   unfold JV;dsimp only;rw[ZOv,Tr]) (by omega),TA]
 rw[show loop (JU p.Changes) (p.Store.Disk,p.Store.Epoch,p.Store.Count,p.Gen,p.Root,p.Keys,p.Loaded,p.Changes,p.Logged,p.NextId,p.NextGuid,0)=_ from
  ZDU (λi=>(p.Store.Disk,p.Store.Epoch,p.Store.Count,p.Gen,p.Root,p.Keys,p.Loaded,p.Changes,p.Logged,p.NextId,p.NextGuid,(i:Int))) (p.Store.Disk,p.Store.Epoch,p.Store.Count,p.Gen,p.Root,p.Keys,p.Loaded,p.Changes,p.Logged,p.NextId,p.NextGuid) p.Changes.length (λi hi=>by
   unfold JU;dsimp only;rw[ZOu _ _ hi,Tu,ZAf hi,Xb _ hi,ZE8 (by have:=(h.changes _ (Sv hi)).2;omega),TA,ZAf hi,Xb _ hi,ZA8 hi rfl,ZDP (by omega)]) (by
   unfold JU;dsimp only;rw[ZOv,Tr]) (by omega),TA]
 dsimp only;rw[BG (by omega),TA,BG (by omega),TA];rw[show loop (JT p.Keys) (p.Store.Disk,p.Store.Epoch,p.Store.Count,p.Gen,p.Root,p.Keys,p.Logged,p.NextId,p.NextGuid,0)=_ from
  ZDU (λi=>(p.Store.Disk,p.Store.Epoch,p.Store.Count,p.Gen,p.Root,p.Keys,p.Logged,p.NextId,p.NextGuid,(i:Int))) (p.Store.Disk,p.Store.Epoch,p.Store.Count,p.Gen,p.Root,p.Keys,p.Logged,p.NextId,p.NextGuid) p.Keys.length (λi hi=>by
   unfold JT;dsimp only;rw[ZOu _ _ hi,Tu,ZAf hi,Xb _ hi,ZE8 (by have:=h.keys.2 _ (Sv hi);omega),TA,ZAf hi,ZA8 hi rfl,ZDP (by omega)]) (by
   unfold JT;dsimp only;rw[ZOv,Tr]) (by omega),TA]
 rw[show loop (JR p.Loaded) (p.Store.Disk,p.Store.Epoch,p.Store.Count,p.Gen,p.Root,p.Loaded,p.Logged,p.NextId,p.NextGuid,0)=_ from
  ZDU (λi=>(p.Store.Disk,p.Store.Epoch,p.Store.Count,p.Gen,p.Root,p.Loaded,p.Logged,p.NextId,p.NextGuid,(i:Int))) (p.Store.Disk,p.Store.Epoch,p.Store.Count,p.Gen,p.Root,p.Loaded,p.Logged,p.NextId,p.NextGuid) p.Loaded.length (λi hi=>by
   unfold JR;dsimp only;rw[ZOu _ _ hi,Tu,ZAf hi,Xb _ hi,ZE8 (by have:=h.loaded.2 _ (Sv hi);omega),TA,ZAf hi,ZA8 hi rfl,ZDP (by omega)]) (by
   unfold JR;dsimp only;rw[ZOv,Tr]) (by omega),TA]
open Go.Pv (chunkR backR chunkO)
def ZNO:Pool:=Pool.mk (Store.mk (Disk.mk [] []) [] (0:UInt32) (0:UInt32)) (0:UInt32) (Ptr.mk 0 (0:UInt32) (0:UInt32) (0:UInt32) (0:UInt32)) [] [] [] [] [] 0 0 (0:UInt32)
theorem ZFf{α:Type}(n:Nat):∀(f:Nat) (l:List α),∀y∈Zp n f l,y.length<=n
  |0,l,y,h=>by cases h
  |f+1,[],y,h=>by cases h
  | f+1,z::r,y,h=>by
    rcases Ta.1 h with rfl|h
    . rw[TH];omega
    . exact ZFf n f _ y h
theorem ZH9{α:Type}{n:Nat}(hn:0<n):∀(f:Nat) (l:List α),(Zp n f l).length*n<=l.length+(n-1)
  |0,l=>by show 0*n<=_;omega
  |f+1,[]=>by show 0*n<=_;omega
  | f +1,z::r=>by
    show((z::r).take n::Zp n f ((z::r).drop n)).length*n<=_;have h:=ZH9 hn f ((z::r).drop n);rw[TP]at h;show((Zp n f ((z::r).drop n)).length+1)*n<=_;rw[Ru];by_cases c:n<=(z::r).length
    . omega
    . have e:(z::r).drop n= []:=T8 (by omega);rw[e,U2];have:0<(z::r).length:=Nat.succ_pos _;show 0*n+n<=_;omega
theorem ZOR{a b:List Int}(d:∀y∈a,1<=y/\y<=4)(f:b.length<=a.length)(hb:a.length<=100):Tot (BK a b) λr=>(r.length:Int)<=(a.take b.length).sum:=by
 unfold BK;refine Tot.bind (P:=λr=>(r.length:Int)<=(a.take b.length).sum) ?_ λr e=>R0 e;refine Tot.loop (λs=>(s.1.length:Int)<=(a.take s.2).sum/\s.1.length<=4*s.2/\s.2<=b.length) (λs=>b.length-s.2) ⟨by simp,TK _,TK _⟩ (by show b.length-0<=_;omega) ?_;rintro⟨m,i⟩ ⟨h1,h2,h3⟩;have h1:(m.length:Int)<=(a.take i).sum:=h1;have h2:m.length<=4*i:=h2;have h3:i<=b.length:=h3;unfold ZGx;dsimp only;refine Tot.cond (λc=> ?_) λc=>R0 ?_
 . have c:=TC c;refine .idx (by omega) (by omega) λy g=>.idx (by omega) (by omega) λz h=> ?_;obtain⟨j,l⟩:=d z (TW h);obtain⟨k,rfl⟩:=SJ (show 0<=z by omega)
   refine(Jd y (k:=k) (by omega) (by omega)).bind λw n=>.app (by omega) (R0 ⟨⟨?_,?_,by show i+1<=_;omega⟩,by show b.length-(i+1)<b.length-i;omega⟩)
   . show((m++w.1).length:Int)<=(a.take (i+1)).sum;have h:a[i]? =some (k:Int):=h;rw[TF,List.take_add_one,h,List.sum_append];show _<=(a.take i).sum+((k:Int)+0);omega
   . show(m++w.1).length<=4*(i+1);rw[TF];omega
 . have c:=of_decide_eq_false c;obtain rfl:i=b.length:=(by omega);exact h1
theorem ZRC (x:Line)(q:Ptr):Tot (QS x q) λr=>r.length=48:=by
 unfold QS KR Gb;refine(GZ _).bind λa d=>(GZ q).bind λb hb=> ?_;refine Tot.bind (P:=λr=>r.length<=16) ((ZOR (a:=[1,1,1,1,3,4,1]) (by decide) (by simp) (by decide)).bind λr h=>R0 ?_) λc e=> ?_
 . have:((([1,1,1,1,3,4,1]:List Int)).take [x.Id,(x.Kind.toNat:Int),x.Owner,x.Prev,(x.Txg.toNat:Int),(x.Guid.toNat:Int),x.Key].length).sum=12:=(by simp only[TZ,T6];decide);rw[this]at h;omega
 . refine(U0 (B:=16) _ (by simp) (by decide) (by simp[d,hb,e])).bind λw f=>Tot.bind (P:=λr=>r.length=48) ?_ λr h=>R0 h;exact(Wk w (by simp at f;omega) (by decide)).mono λr h=>by omega
theorem ZRJ{l:List (List UInt8)}(d:l.length<=8)(h:∀k∈l,k.length<=24):Tot (WE l) λ_=>True:=by
 unfold WE;refine Tot.bind (P:=λr=>r.length<=192) ?_ λr b=>(Wk r (by omega) (by decide)).bind λ_ _=>R0 trivial;refine Tot.loop (λs=>s.1.length=24*s.2/\s.2<=l.length) (λs=>l.length-s.2) ⟨rfl,TK _⟩ (by show l.length-0<=_;omega) ?_;rintro⟨m,i⟩ ⟨h1,h2⟩;have h1:m.length=24*i:=h1;have h2:i<=l.length:=h2;unfold Gd;dsimp only;refine Tot.cond (λc=> ?_) λ_=>R0 (by show m.length<=_;omega);have c:=TC c;refine .idx (by omega) (by omega) λy a=> ?_;have a:=h y (TW a);rw[ZX (by omega) (by omega)];refine .app (by omega) ((Wk (m++y) (n:=((i+1:Int)*24)) (by rw[TF];omega) (by omega)).bind λr b=>R0 ⟨⟨by show r.length=24*(i+1);omega,by show i+1<=_;omega⟩,by show l.length-(i+1)<l.length-i;omega⟩)
variable{p:Pool}
theorem ZEo{s:SS}(h:FitY p s)(a:List UInt8){b:List Int}{c:List UInt8}(hb:b.length<=100000)(f:c.length<=100000):Tot (YN a b c s) λr=>FitY p r.2.2/\r.1.length=b.length+1/\r.2.1.length<=c.length+16:=by
 unfold YN XU;dsimp only;refine(ZG3 h a).bind λx d=>(GZ x.1).bind λw g=> ?_;refine Tot.bind (P:=λr=>r.1.length=b.length+1/\r.2.length<=c.length+16) (.app (by simp;omega) (.app (by omega) (R0 ⟨by simp,by rw[TF];omega⟩))) λr e=>R0 ⟨⟨d.disk,d.kin,d.loaded,d.keys,d.changes,d.metas⟩,e⟩
structure Done (p:Pool) (s:SS):Prop where
  disk:Sized s.1.Store.Disk
  kin:KinL p s.1.Lines
  metas:s.1.MetaL.length<=10000
theorem ZQ6{a:SS}(h:FitY p a)(T:p.Lines.length<=16)(M:p.MetaL.length<=10000)(N:p.Keys.length<=8)(A:∀k∈p.Keys,k.length<=24):Tot (Xh a) (Done p):=by
 have U:=h.kin.len;have B:a.1.MetaL.length<=10000:=by rw[h.metas];exact M
 unfold Xh KQ;dsimp only;refine R3 (P:=λx=>Sized x.1.Disk) (R:=λx=>Sized x.1.Disk/\x.2.2.2.1=p.Changes) ?_ (λx e=>R0 ⟨e,h.kin,B⟩) λx e=> ?_
 . refine Tot.loop (λs=>Sized s.1.Disk/\s.2.2.2.1=p.Changes/\∃i:Nat,s.2.2.2.2.2.2.2.2.2=(i:Int)/\i<=a.1.MetaL.length) (λs=>a.1.MetaL.length-s.2.2.2.2.2.2.2.2.2.toNat) ⟨h.disk,h.changes,0,rfl,TK _⟩ (by show a.1.MetaL.length-_<=_;omega) ?_;rintro⟨s1,s2,v,C,D,E,F,G,H,_⟩ ⟨f,m,i,rfl,O⟩;have f:Sized s1.Disk:=f;unfold Y9;dsimp only;refine Tot.cond (λc=> ?_) λ_=>R0 ⟨f,m⟩;have c:=TC c;rw[VD (by omega)];refine .chk ⟨by omega,by omega⟩ (.idx (by omega) (by omega) λy _=>Tot.cond (λ_=>R0 f) λ_=>(ZI7 _ _).bind λw _=>R0 ⟨⟨f,m,i+1,rfl,by omega⟩,by show a.1.MetaL.length-(((i+1:Nat):Int)).toNat<a.1.MetaL.length-((i:Int)).toNat;omega⟩)
 refine Tot.bind (P:=λx=>Sized x.1.Disk/\x.2.2.2.1=p.Changes/\x.2.2.2.2.2.2.2.2.2.1.length<=3856/\x.2.2.2.2.2.2.2.2.2.2.length<=768) ?_ ?_
 . refine Tot.loop (λs=>Sized s.1.Disk/\s.2.2.2.1=p.Changes/\∃i:Nat,s.2.2.2.2.2.2.2.2.2.2.2=(i:Int)/\i<=a.1.Lines.length/\s.2.2.2.2.2.2.2.2.2.1.length<=241*i/\s.2.2.2.2.2.2.2.2.2.2.1.length=48*i) (λs=>a.1.Lines.length-s.2.2.2.2.2.2.2.2.2.2.2.toNat) ⟨e.1,e.2,0,rfl,TK _,TK _,rfl⟩ (by show a.1.Lines.length-_<=_;omega) ?_;rintro⟨s1,s2,v,C,D,E,F,G,H,own,all,_⟩ ⟨f,m,i,rfl,O,t,u⟩;have f:Sized s1.Disk:=f;have t:own.length<=241*i:=t;have u:all.length=48*i:=u;unfold Y8;dsimp only;refine Tot.cond (λc=> ?_) λ_=>R0 ⟨f,m,by show own.length<=_;omega,by show all.length<=_;omega⟩;have c:=TC c;rw[VD (by omega)];refine .chk ⟨by omega,by omega⟩ (.idx (by omega) (by omega) λy _=> ?_);refine Tot.bind (P:=λx=>Sized x.1.Disk/\x.2.2.2.1=p.Changes/\x.2.2.2.2.2.2.2.2.2.2.length<=241) (Tot.cond (λ_=> ?_) λ_=>R0 ⟨f,m,TK _⟩) λx e=> ?_
   . refine Tot.bind (P:=λx=>Sized x.1.Disk/\x.2.2.2.1=p.Changes/\x.2.2.2.2.2.2.2.2.2.2.length<=241) ((ZRi f _ _).bind λw I=>R0 ⟨I.1,m,I.2⟩) λx e=>R0 e
   . obtain⟨Q,S,V⟩:=e;refine .app (by omega) ((ZRC y _).bind λw I=>.app (by omega) (R0 ⟨⟨Q,S,i+1,rfl,by omega,by simp only[TF];omega,by simp only[TF];omega⟩,by show a.1.Lines.length-(((i+1:Nat):Int)).toNat<a.1.Lines.length-((i:Int)).toNat;omega⟩))
 rintro⟨s1,s2,v,C,D,E,F,G,H,own,all⟩ ⟨f,m,t,u⟩;have f:Sized s1.Disk:=f;have t:own.length<=3856:=t;have u:all.length<=768:=u;have J:∀r:Ptr,FitY p (Pool.mk s1 s2 v a.1.MetaL a.1.Lines a.1.Keys a.1.Loaded C D E F,(G,H)):=λr=>⟨f,h.kin,h.loaded,h.keys,m,h.metas⟩;dsimp only;refine(Wk all (Int.le_max_left ..) (Int.max_le.2 ⟨by omega,by decide⟩)).bind λb hb=> ?_;have hb:b.length<=768:=by
  have:max (all.length:Int) 1<=768:=Int.max_le.2 ⟨by omega,by decide⟩;omega
 unfold Zm;rw[show decide ((240:Int)<1)=false from rfl,Tr,TA];refine R3 (P:=λx=>FitY p x.1/\x.2.1.length<=3900/\x.2.2.length<=64) (R:=λ_=>False) ?_ ?_ (λ_ h=>h.elim)
 . refine(Pf (n:=240) (λn s=>FitY p s.1/\s.2.1.length+n<=3900/\s.2.2.length+16*n<=64) (R:=λ_=>False) (by decide) (by decide) (by show b.length<=_;omega) ?_ ?_).mono λo z=> ?_
   . have:=ZH9 (n:=240) (by decide) b.length b;exact⟨J v,by show own.length+(Zp 240 b.length b).length<=_;omega,by show 0+16*(Zp 240 b.length b).length<=_;omega⟩
   . intro y K j s hs;obtain⟨h1,h2,h3⟩:=hs;have K:=ZFf 240 _ _ y K;unfold Y7 Za;refine Tot.bind (P:=λr=>r.length<=240) (.app (by simp;omega) (R0 (by simpa using K))) λr L=>(Wk r (by omega) (by decide)).bind λr _=>(ZEo h1 r (by omega) (by omega)).bind λx e=>R0 ⟨e.1,?_,?_⟩
     . have:=e.2.1;dsimp only;omega
     . have:=e.2.2;dsimp only;omega
   . cases o with
     |inl s=>exact⟨z.1,z.2.1,z.2.2⟩
     |inr s=>exact z
 rintro⟨s,own,d⟩ ⟨g,l,q⟩;have g:FitY p s:=g;have l:own.length<=3900:=l;have q:d.length<=64:=q;dsimp only;refine(Wk d (by omega) (by decide)).bind λd q=> ?_;refine Tot.bind (P:=λx=>FitY p x.1/\x.2.1.length<=3901/\x.2.2.length<=80) ?_ ?_
 . refine(ZRJ (by rw[g.keys];exact N) (by rw[g.keys];exact A)).bind λw _=> ?_;show Tot (Option.bind (YN w own d s) _) _;exact(ZEo g w (by omega) (by omega)).bind λx e=>R0 ⟨e.1,by have:=e.2.1;dsimp only;omega,by have:=e.2.2;dsimp only;omega⟩
 rintro⟨s,own,d⟩ ⟨g,l,q⟩;have g:FitY p s:=g;have l:own.length<=3901:=l;have q:d.length<=80:=q;dsimp only;refine Tot.bind (P:=λr=>r.length<=8) ((ZOR (a:=[1,2,4,1]) (by decide) (by simp) (by decide)).bind λr L=>R0 ?_) λb hb=> ?_
 . have:((([1,2,4,1]:List Int)).take [82,s.1.NextId,(s.1.NextGuid.toNat:Int),(s.1.Lines.length:Int)].length).sum=8:=(by simp only[TZ,T6];decide);rw[this]at L;omega
 refine Tot.bind (P:=λx=>FitY p x.1/\x.2.1.length<=3902) ((Wk b (by omega) (by decide)).bind λb hb=>.app (by omega) ((Wk _ (by rw[TF];omega) (by decide)).bind λb _=> ?_)) ?_
 . show Tot (Option.bind (YN b own d s) _) _;exact(ZEo g b (by omega) (by omega)).bind λx e=>R0 ⟨e.1,by have:=e.2.1;dsimp only;omega⟩
 rintro⟨s,own,d⟩ ⟨g,l⟩;have g:FitY p s:=g;have l:own.length<=3902:=l;unfold ZG2;rw[TG (TQ l (by decide)),TA];exact R0 ⟨g.disk,g.kin,by show(ZHo own).length<=_;rw[(ZFV own).length_eq];omega⟩
theorem ZPe{a:SS}(h:Sized a.1.Store.Disk):Tot (VC a) λr=>Sized r.1.Store.Disk/\r.1.Lines=a.1.Lines/\r.1.MetaL=a.1.MetaL/\(a.2.2≠0->r.2.2≠0):=by
 unfold VC;refine Tot.bind (P:=λx=>Sized x.1.Disk/\(a.2.2≠0->x.2.2.2.2.2.2.2.2.2≠0)) (Tot.cond (λc=>(ZJS h).bind λd f=>R0 ⟨f,λe=>absurd (TC c) e⟩) λ_=>R0 ⟨h,id⟩) λx b=>Tot.cond (λc=>(ZQ9 b.1 _).bind λd f=>R0 ⟨f,rfl,rfl,λe=>absurd (TC c) (b.2 e)⟩) λ_=>R0 ⟨b.1,rfl,rfl,b.2⟩
theorem ZRI{a:SS}(h:Sized a.1.Store.Disk):Tot (V8 a) λr=>Sized r.1.Store.Disk/\r.1.Lines=a.1.Lines/\r.1.MetaL=a.1.MetaL/\r.1.Changes= []/\(a.2.2≠0->r.2.2≠0):=by
 unfold V8;refine Tot.bind (P:=λx=>Sized x.1.Disk/\(a.2.2≠0->x.2.2.2.2.2.2.2.2.2≠0)) (Tot.cond (λc=>(ZJS h).bind λd f=>R0 ⟨f,λe=>absurd (TC c) e⟩) λ_=>R0 ⟨h,id⟩) λx b=> ?_;refine Tot.bind (P:=λx=>Sized x.1.Disk/\(a.2.2≠0->x.2.2.2.2.2.2.2.2.2≠0)) (Tot.cond (λc=>(ZNE _).bind λw _=>R0 ⟨b.1,λe=>absurd (TC c) (b.2 e)⟩) λ_=>R0 b) λx b=>R0 ⟨b.1,rfl,rfl,rfl,b.2⟩
theorem ZPw (d:SizY p):Tot (UW p) λr=>Sized r.1.Store.Disk/\(r.2.2=0->Weak p/\Done p r):=by
 unfold UW;refine(ZJd d).bind λe o=>Tot.bind (P:=λ_=>True) (Tot.cond (λ_=>R0 trivial) λ_=>R0 trivial) λ_ _=> ?_;refine Tot.bind (P:=λx=>Sized x.1.Store.Disk/\(x.2.2=0->e=0)) (Tot.cond (λ_=>R0 ⟨XC,λh=>e8 (e:=9) h⟩) λ_=>R0 ⟨XC,id⟩) λx j=>Tot.cond (λc=>R0 ⟨j.1,λe=>absurd e (BV c)⟩) λc=> ?_;have ok:=o (j.2 (Yd c));have m:=ok.few;have n:=d.changes;have q:=d.metas;rw[ZPK ok d,TA];have f:FitY p (p,(p.Gen+(1:UInt32),x.2.2)):=⟨ok.store.sized,⟨rfl,ok.lines⟩,ok.loaded.1,rfl,rfl,rfl⟩;rw[TA];refine Tot.bind (P:=FitY p) ?_ λs hs=>(ZQ6 hs m q (Nat.le_of_eq ok.keys.1) ok.keys.2).bind λr g=>R0 ⟨g.disk,λ_=>⟨ok,g⟩⟩;refine Tot.loop (λs=>FitY p s.1/\∃i:Nat,s.2=(i:Int)/\i<=p.Lines.length) (λs=>p.Lines.length-s.2.toNat) ⟨f,0,rfl,TK _⟩ (by show p.Lines.length-_<=_;omega) ?_;rintro⟨s,_⟩ ⟨k,i,rfl,w⟩;have k:FitY p s:=k;have y:=k.kin.len;unfold UJ Zi;dsimp only;refine Tot.cond (λc=> ?_) λ_=>R0 k;have c:=TC c;rw[VD (by omega),k.changes];refine .chk ⟨by omega,by omega⟩ (Tot.bind (P:=λl=>l=p.Changes) (.app (by simp;omega) (R0 (by simp))) ?_);rintro _ rfl;refine(ZNz p.Changes (by omega) (b:=i) (c:=s.1.Lines) (by omega)).bind λr g=> ?_;obtain⟨u,z,v⟩:=g;rw[v];refine(ZMg (p:=p) (s:=(Pool.mk s.1.Store s.1.Gen s.1.Root s.1.MetaL s.1.Lines s.1.Keys s.1.Loaded p.Changes s.1.Logged s.1.NextId s.1.NextGuid,s.2)) ⟨k.disk,k.kin,k.loaded,k.keys,rfl,k.metas⟩ m (a:=i) (by omega) (l:=r.1) (by omega) λc n=>(ok.changes c (u c n)).1).bind λt ht=>R0 ⟨⟨ht,i+1,rfl,by omega⟩,by show p.Lines.length-(((i+1:Nat):Int)).toNat<p.Lines.length-((i:Int)).toNat;omega⟩
structure Synced (p q:Pool) (e:Int):Prop where
  err:e≠0->q=ZNO
  ok:e=0->Weak p/\Sized q.Store.Disk/\KinL p q.Lines/\q.MetaL.length<=10000/\q.Changes= []
theorem ZLE (i:SizY p):Tot (KD p) λr=>Synced p r.1 r.2:=by
 unfold KD Ue;dsimp only;refine(ZPw i).bind λa g=>(ZPe g.1).bind λb hb=>(ZRI hb.1).bind λc f=>Tot.cond (λh=> ?_) λh=> ?_
 . rw[TA];exact R0 ⟨λ_=>rfl,λe=>absurd e (BV h)⟩
 . have h:=Yd h;refine R0 ⟨λe=>absurd rfl e,λ_=> ?_⟩;have h1:b.2.2=0:=Classical.byContradiction λe=>f.2.2.2.2 e h;have h2:a.2.2=0:=Classical.byContradiction λe=>hb.2.2.2 e h1;obtain⟨ok,d⟩:=g.2 h2;refine⟨ok,f.1,?_,?_,f.2.2.2.1⟩
   . show KinL p c.1.Lines;rw[f.2.1,hb.2.1];exact d.kin
   . show c.1.MetaL.length<=10000;rw[f.2.2.1,hb.2.2.1];exact d.metas
end Go.Ow
namespace Go.Ow
structure FitX (p:Pool):Prop where
  sized:Sized p.Store.Disk
  metas:p.MetaL.length<=140737488351232
  lines:p.Lines.length<=140737488351232
  keys:p.Keys.length<=140737488351232
  loaded:p.Loaded.length<=140737488351232
  changes:p.Changes.length<=140737488351232
theorem ZJa{α:Type}(l:List α)(d:l.length<=10000){body:Int×Int->Option ((Int×Int) ⊕ Int)}{f:α->Int->Int}
 (hb:∀s,body s=Option.bind (α:=Bool) (cond (decide (s.2<(l.length:Int))) (some (decide (s.1<2000000))) (some false)) λx=>cond x (idx l s.2 λy=>some (.inl (f y s.1,w64 (s.2+1)))) (some (.inr s.1)))
 (c:Int):Tot (loop body (c,0)) λ_=>True:=by
 refine Tot.loop (λs=>∃i:Nat,s.2=(i:Int)/\i<=l.length) (λs=>l.length-s.2.toNat) ⟨0,rfl,TK _⟩ (by show l.length-_<=_;omega) ?_;rintro⟨a,_⟩ ⟨i,rfl,h⟩;rw[hb];dsimp only;refine Tot.bind (P:=λx=>x=true->i<l.length) (Tot.cond (λk=>R0 λ_=>by have:=TC k;omega) λ_=>R0 λh=>ft h) λx b=>Tot.cond (λk=> ?_) λ_=>R0 trivial;have k:=b k;rw[VD (by omega)];exact .idx (by omega) (by omega) λy _=>R0 ⟨⟨i+1,rfl,by omega⟩,by show l.length-(((i+1:Nat):Int)).toNat<l.length-((i:Int)).toNat;omega⟩
theorem ZNp (d:Disk):Tot (Jc d) λ_=>True:=by
 unfold Jc;refine Tot.bind (P:=λx=>x=false->d.Blocks.length<=500/\d.Waits.length<=4106) ?_ λx e=>Tot.cond (λ_=>R0 trivial) λc=> ?_
 . refine Tot.cond (λ_=>R0 λh=>tf h) λa=> ?_;have a:=of_decide_eq_false a;have b:Tot (some (decide (4106<(d.Waits.length:Int)))) λx=>x=false->d.Blocks.length<=500/\d.Waits.length<=4106:=R0 λh=>(by have:=of_decide_eq_false h;omega);exact Tot.cond (λ_=>Tot.cond (λ_=>R0 λh=>tf h) λ_=>b) λ_=>b
 . obtain⟨h1,h2⟩:=e c;exact(ZJa d.Blocks (by omega) (body:=D3 d) (f:=λy a=>w64 (a+(y.length:Int))) (λs=>rfl) 0).bind λa _=>(ZJa d.Waits (by omega) (body:=D2 d) (f:=λy a=>w64 (a+(y.Data.length:Int))) (λs=>rfl) a).bind λ_ _=>R0 trivial
theorem ZGX{α:Type}(l:List α)(a:l.length<=10000){body:Int×Nat->Option ((Int×Nat) ⊕ Int)}{f:α->Int->Int}
 (hb:∀s,body s=cond (decide ((s.2:Int)<(l.length:Int))) (idx l (s.2:Int) λy=>some (.inl (f y s.1,s.2+1))) (some (.inr s.1)))(c:Int):Tot (loop body (c,0)) λ_=>True:=by
 refine Tot.loop (λs=>s.2<=l.length) (λs=>l.length-s.2) (TK _) (by show l.length-0<=_;omega) λs h=> ?_;rw[hb];refine Tot.cond (λk=> ?_) λ_=>R0 trivial;have k:=TC k;exact .idx (by omega) (by omega) λy _=>R0 ⟨by show s.2+1<=_;omega,by show l.length-(s.2+1)<l.length-s.2;omega⟩
theorem ZNo{p:Pool}(h:FitX p):Tot (Jb p) λg=>g=false->SizY p:=by
 obtain⟨h0,h1,h2,h3,d,e⟩:=h;unfold Jb D1;rw[ZX (show -9223372036854775808<=(p.MetaL.length:Int)+(p.Lines.length:Int) by omega) (by omega),ZX (show -9223372036854775808<=(p.MetaL.length:Int)+(p.Lines.length:Int)+(p.Keys.length:Int) by omega) (by omega),ZX (show -9223372036854775808<=(p.MetaL.length:Int)+(p.Lines.length:Int)+(p.Keys.length:Int)+(p.Loaded.length:Int) by omega) (by omega),ZX (show -9223372036854775808<=(p.MetaL.length:Int)+(p.Lines.length:Int)+(p.Keys.length:Int)+(p.Loaded.length:Int)+(p.Changes.length:Int) by omega) (by omega)];refine Tot.bind (P:=λx=>x=false->(p.MetaL.length:Int)+p.Lines.length+p.Keys.length+p.Loaded.length+p.Changes.length<=1000) (Tot.bind (P:=λ_=>True) ((ZNp _).bind λ_ _=>Tot.cond (λ_=>R0 trivial) λ_=>R0 trivial) λ_ _=>Tot.cond (λ_=>R0 λh=>tf h) λ_=>R0 λh=>by have:=of_decide_eq_false h;omega) λx b=>Tot.cond (λ_=>R0 λh=>tf h) λc=> ?_;have b:=b c;refine(ZGX p.Lines (by omega) (body:=D0 p) (f:=λy a=>w64 (a+min (y.Dead.length:Int) 100000)) (λs=>rfl) _).bind λa _=> ?_;refine(ZGX p.Changes (by omega) (body:=Dz p) (f:=λy a=>w64 (a+w64 ((min (y.Data.length:Int) 1000000).tdiv 256))) (λs=>rfl) a).bind λa _=> ?_;refine(ZGX p.Keys (by omega) (body:=Dy p) (f:=λy a=>w64 (a+w64 ((min (y.length:Int) 1000000).tdiv 24))) (λs=>rfl) a).bind λa _=> ?_;refine(ZGX p.Loaded (by omega) (body:=Dx p) (f:=λy a=>w64 (a+w64 ((min (y.length:Int) 1000000).tdiv 16))) (λs=>rfl) a).bind λa _=> ?_;exact R0 λ_=>⟨h0,by omega,by omega⟩
def zzB (n:Nat):List UInt8:=List.replicate n 0
def blB (l:List (Nat×List UInt8)):List (List UInt8):=l.foldl (λm p=>m.set p.1 p.2) (List.replicate 256 (zzB 256))
def ZQz:Pool:=Pool.mk (Store.mk (Disk.mk (blB [(1,([67,1,0,0,0,1,0,0,0,14,1,0,0,0,0,0,0,0,0,0,0,88,206,71,237,138,5,159,19]++zzB 227)),(2,([67,2,0,0,0,1,0,0,0,17,2,0,0,0,0,0,0,0,0,0,0,116,171,50,78,193,74,104,255]++zzB 227)),(14,([82,1,0,1,0,0,0,0,0,0,0,0,0,0,0,0,12,1,0,0,0,0,0,0,0,0,0,0,6,27,29,100,0,0,0,0,0,0,0,0,0,0,0,0,0,0,0,0,0,0,0,0,0,0,0,0,0,0,0,0,0,0,0,0,0,0,0,0,0,0,0,0,0,0,0,0,0,0,0,0,13,1,0,0,0,0,0,0,0,0,0,0,6,27,29,100]++zzB 160)),(15,([1,1,1,0,1,0,0,1]++zzB 248)),(16,([1,0,0,0,49,186,245,160,28,195,247,161,116,74,218,162,250,77,254,75,79,77,221,131]++zzB 232)),(17,([82,2,0,3,0,0,0,1,0,0,0,0,0,0,0,0,15,2,0,0,0,0,0,0,0,0,0,0,63,109,193,45,0,0,0,0,0,0,0,0,0,0,0,0,0,0,0,0,0,0,0,0,0,0,0,0,0,0,0,0,0,0,0,0,0,0,0,0,0,0,0,0,0,0,0,0,0,0,0,0,16,2,0,0,0,0,0,0,0,0,0,0,1,155,204,60]++zzB 160))]) []) ([1,1,1,1,1,1,1,1,1,1,1,1,0,0,0,1,1,1]++zzB 238) 1 0) 2 (Ptr.mk 17 2 0 0 1311943540) [15,16,17] [(Line.mk 1 1 1 0 1 1 0 (Ptr.mk 0 0 0 0 0) [])] [[1,0,0,0,49,186,245,160,28,195,247,161,116,74,218,162,250,77,254,75,79,77,221,131],[],[],[],[],[],[],[]] [(zzB 16),[],[],[],[],[],[],[]] [(Change.mk 1 0 0 0 0 0 ([97,98,99]++zzB 253) (Ptr.mk 0 0 0 0 0)),(Change.mk 1 0 15 1 1 5 [] (Ptr.mk 0 0 0 0 0))] 0 2 3
def ZSY:Pool:=Pool.mk (Store.mk (Disk.mk (blB [(0,([67,4,0,0,0,1,0,0,0,17,4,0,0,0,0,0,0,0,0,0,0,131,111,61,210,188,73,228,220]++zzB 227)),(1,([67,1,0,0,0,1,0,0,0,14,1,0,0,0,0,0,0,0,0,0,0,88,206,71,237,138,5,159,19]++zzB 227)),(2,([67,2,0,0,0,1,0,0,0,17,2,0,0,0,0,0,0,0,0,0,0,116,171,50,78,193,74,104,255]++zzB 227)),(3,([67,3,0,0,0,1,0,0,0,20,3,0,0,0,0,0,0,0,0,0,0,114,166,45,171,128,180,5,77]++zzB 227)),(12,[170,134,250,138,175,40,236,33,79,136,177,255,83,215,191,80,196,126,249,139,152,37,234,35,107,190,21,230,221,143,100,195,68,101,254,42,178,241,122,82,127,161,71,17,154,17,253,238,165,78,146,163,214,237,108,16,86,76,29,90,212,135,130,148,129,74,14,137,57,182,74,234,55,194,111,215,29,90,139,112,46,25,19,47,24,176,123,72,163,48,36,230,74,46,114,209,26,235,205,34,172,108,39,98,125,167,143,35,111,156,221,38,252,198,161,225,4,169,142,3,215,210,243,140,22,155,3,99,157,77,184,224,7,33,235,199,171,196,106,188,108,238,76,0,46,228,59,0,185,240,221,180,179,242,209,86,161,152,246,27,122,110,249,231,208,36,64,38,197,195,206,214,211,29,172,251,131,103,178,130,95,82,10,211,220,38,102,41,159,111,191,245,205,147,253,36,168,168,18,209,77,17,145,92,32,137,75,122,94,89,251,9,99,161,14,161,218,197,174,66,183,182,131,224,233,38,84,166,133,158,112,16,87,75,187,103,74,143,95,215,58,153,214,89,187,174,10,189,26,116,226,213,6,104,133,153]),(13,([1,1,5,0,0,0,0,0,0,0,0,0,0,0,0,0,12,3,0,0,1,0,1,0,242,19,4,75,149,178,142,176]++zzB 224)),(14,([13,3,0,0,0,0,0,0,0,0,0,0,158,51,248,103]++zzB 240)),(15,([1,1,1,2,3,0,0,1,0,0,0,0,14,3,0,0,0,0,0,0,0,0,0,0,136,80,117,125,0,0,0,0,0,0,0,0,0,0,0,0,0,0,0,0,0,0,0,0,2,2,1,0,3,0,0,3,0,0,0,0,14,3,0,0,0,0,0,0,0,0,0,0,136,80,117,125]++zzB 180)),(16,([1,0,0,0,49,186,245,160,28,195,247,161,116,74,218,162,250,77,254,75,79,77,221,131]++zzB 232)),(17,([82,3,0,5,0,0,0,2,0,0,0,0,0,0,0,0,15,4,0,0,0,0,0,0,0,0,0,0,55,78,136,79,0,0,0,0,0,0,0,0,0,0,0,0,0,0,0,0,0,0,0,0,0,0,0,0,0,0,0,0,0,0,0,0,0,0,0,0,0,0,0,0,0,0,0,0,0,0,0,0,16,4,0,0,0,0,0,0,0,0,0,0,1,155,204,60]++zzB 160)),(18,([1,1,1,0,1,0,0,1,0,0,0,0,14,3,0,0,0,0,0,0,0,0,0,0,136,80,117,125]++zzB 228)),(19,([1,0,0,0,49,186,245,160,28,195,247,161,116,74,218,162,250,77,254,75,79,77,221,131]++zzB 232)),(20,([82,2,0,3,0,0,0,1,0,0,0,0,0,0,0,0,18,3,0,0,0,0,0,0,0,0,0,0,91,190,144,229,0,0,0,0,0,0,0,0,0,0,0,0,0,0,0,0,0,0,0,0,0,0,0,0,0,0,0,0,0,0,0,0,0,0,0,0,0,0,0,0,0,0,0,0,0,0,0,0,19,3,0,0,0,0,0,0,0,0,0,0,1,155,204,60]++zzB 160))]) []) ([1,1,1,1,1,1,1,1,1,1,1,1,1,1,1,1,1,1]++zzB 238) 1 1) 4 (Ptr.mk 17 4 0 0 3527241603) [15,16,17] [(Line.mk 1 1 1 2 3 1 0 (Ptr.mk 14 3 0 0 2104840328) []),(Line.mk 2 2 1 0 3 3 0 (Ptr.mk 14 3 0 0 2104840328) [])] [[1,0,0,0,49,186,245,160,28,195,247,161,116,74,218,162,250,77,254,75,79,77,221,131],[],[],[],[],[],[],[]] [(zzB 16),[],[],[],[],[],[],[]] [] 0 3 5
theorem one21:law21_one=some (ZQz,true):=by kernel_rfl
theorem ZUW:Kn ZQz 1=some (ZSY,2,0):=by kernel_rfl
theorem ZTX:law21_alive=some true:=by
 unfold law21_alive;rw[one21,TA,ZUW,TA]
 kernel_rfl
open Go.ChangeShapes Go.WideShapes Go.ChangeAt Go.RowKit
def HW (W:World):Heaplet:=λb o=>W.cell? ⟨b,o,none⟩
theorem ZPz (W:World):Agrees (HW W) W:=λ_ _ _ h=>h
structure Bulk (H:Type) where
  one:DataW H->Nat
  all:List (DataW H)->Nat
  hstr:∀l:List UInt8,one (.lit (.string l))=l.length+1
  hsl:∀a b,one (.slice a b)=all a+all b+1
  hagg:∀a,one (.agg a)=all a+1
  hnil:all []=0
  hcons:∀d r,all (d::r)=one d+all r
  hone:∀d,1<=one d
section
variable{H:Type}{enc:TypeId×Value->H}{P:Program}{W:World}{B:Bulk H}
def Reads (enc:TypeId×Value->H)(P:Program)(W:World)(B:Bulk H)(t:TypeId){α:Type}(R:Rep α)(size:Nat)(b:α->Nat)(I:α->Prop):Prop:=
 ∀f cs d ps,DataW.trod enc P W 0 (λ_=>true) true f t cs=some (d,ps)->∃x,R (HW W) cs x/\cs.length=size/\b x<=B.one d/\I x
theorem ZGh{k:IntKind}{n:Int}(h:(Lit.int k n).wf=true):k.min<=n/\n<=k.max:=by
 simpa[Lit.wf]using h
theorem Yo{t:TypeId}(ht:P.underlying t=some (.int .i64)):Reads enc P W B t RInt 1 (λ_=>1) InI64:=λf cs d ps h=>by
 obtain⟨n,rfl,b,a⟩:=DataW.trod_int ht h;exact⟨n,rfl,rfl,B.hone _,by simpa[InI64,IntKind.min,IntKind.max,IntKind.signed,IntKind.bits]using ZGh a⟩
theorem WY{t:TypeId}(ht:P.underlying t=some (.int .u8)):Reads enc P W B t RU8 1 (λ_=>1) (λ_=>True):=λf cs d ps h=>by
 obtain⟨n,rfl,b,a⟩:=DataW.trod_int ht h;have:=ZGh a;simp only[IntKind.min,IntKind.max,IntKind.signed,IntKind.bits]at this;refine⟨UInt8.ofNat n.toNat,?_,rfl,B.hone _,trivial⟩;show [Value.int .u8 n]= [.int .u8 (UInt8.ofNat n.toNat).toNat];have h2:n.toNat<256:=by simp at this;omega
 rw[UInt8.toNat_ofNat_of_lt' (by simpa[UInt8.size]using h2)];simp at this;congr 2;omega
theorem QU{t:TypeId}(ht:P.underlying t=some (.int .u32)):Reads enc P W B t RU32 1 (λ_=>1) (λ_=>True):=λf cs d ps h=>by
 obtain⟨n,rfl,b,a⟩:=DataW.trod_int ht h;have:=ZGh a;simp only[IntKind.min,IntKind.max,IntKind.signed,IntKind.bits]at this;refine⟨UInt32.ofNat n.toNat,?_,rfl,B.hone _,trivial⟩;show [Value.int .u32 n]= [.int .u32 (UInt32.ofNat n.toNat).toNat];have h2:n.toNat<4294967296:=by simp at this;omega
 rw[UInt32.toNat_ofNat_of_lt' (by simpa[UInt32.size]using h2)];simp at this;congr 2;omega
end
section
variable{H:Type}{enc:TypeId×Value->H}{P:Program}{W:World}{B:Bulk H}
def ZKm (x:Ptr):Nat:=1+1+1+1+1+1
def GE (x:Ptr):Prop:=InI64 x.At/\True/\True/\True/\True
theorem ZPT{t:TypeId}{fs:Array Field}{f g i j k:Field}(ht:P.underlying t=some (.struct fs))(N:P.cellsOf t=5)(O:fs.size=5)
 (l:fs[0]? =some f/\f.offset=0/\P.cellsOf f.type=1)(Q:Reads enc P W B f.type RInt 1 (λ_=>1) InI64)
 (m:fs[1]? =some g/\g.offset=1/\P.cellsOf g.type=1)(R:Reads enc P W B g.type RU32 1 (λ_=>1) (λ_=>True))
 (o:fs[2]? =some i/\i.offset=2/\P.cellsOf i.type=1)(S:Reads enc P W B i.type RU32 1 (λ_=>1) (λ_=>True))
 (p:fs[3]? =some j/\j.offset=3/\P.cellsOf j.type=1)(T:Reads enc P W B j.type RU32 1 (λ_=>1) (λ_=>True))
 (q:fs[4]? =some k/\k.offset=4/\P.cellsOf k.type=1)(U:Reads enc P W B k.type RU32 1 (λ_=>1) (λ_=>True)):
 Reads enc P W B t R_Ptr 5 ZKm GE:=λH cs d ps h=>by
 obtain⟨xs,n,_,I,a,b,c⟩:=DataW.trod_struct ht h;rw[N]at a;rw[O]at b
 match xs,b with
 |[x,r,s,u,v],_=>
 match cs,a with
 |[c0,w,y,z,A],_=>
 obtain⟨C,V,_,b0,X⟩:=Q n [c0] x.1 x.2 (by have e:=c 0 _ l.1;rw[l.2.1,l.2.2]at e;exact e)
 have b0:1<=B.one x.1:=b0;obtain rfl:c0=.int .i64 C:=by have e: [c0]= [.int .i64 C]:=V;simpa using e
 obtain⟨D,Y,_,J,Z⟩:=R n [w] r.1 r.2 (by have e:=c 1 _ m.1;rw[m.2.1,m.2.2]at e;exact e)
 have J:1<=B.one r.1:=J;obtain rfl:w=.int .u32 (D.toNat:Int):=by have e: [w]= [.int .u32 (D.toNat:Int)]:=Y;simpa using e
 obtain⟨E,a2,_,K,i2⟩:=S n [y] s.1 s.2 (by have e:=c 2 _ o.1;rw[o.2.1,o.2.2]at e;exact e)
 have K:1<=B.one s.1:=K;obtain rfl:y=.int .u32 (E.toNat:Int):=by have e: [y]= [.int .u32 (E.toNat:Int)]:=a2;simpa using e
 obtain⟨F,a3,_,L,i3⟩:=T n [z] u.1 u.2 (by have e:=c 3 _ p.1;rw[p.2.1,p.2.2]at e;exact e)
 have L:1<=B.one u.1:=L;obtain rfl:z=.int .u32 (F.toNat:Int):=by have e: [z]= [.int .u32 (F.toNat:Int)]:=a3;simpa using e
 obtain⟨G,a4,_,M,i4⟩:=U n [A] v.1 v.2 (by have e:=c 4 _ q.1;rw[q.2.1,q.2.2]at e;exact e)
 have M:1<=B.one v.1:=M;obtain rfl:A=.int .u32 (G.toNat:Int):=by have e: [A]= [.int .u32 (G.toNat:Int)]:=a4;simpa using e
 refine⟨⟨C,D,E,F,G⟩,rfl,rfl,?_,⟨X,Z,i2,i3,i4⟩⟩;simp only[SD]at I;rw[I.1,B.hagg];simp only[Tq,List.map_nil,B.hcons,B.hnil,ZKm];omega
end
section
variable{H:Type}{enc:TypeId×Value->H}{P:Program}{W:World}{B:Bulk H}{r:Reach}{b0:Nat}{t:TypeId}{v:Value}{d:DataW H}{ps:List MemPlace}
theorem ZTT (ht:P.underlying t=some (.int .i64))(h:Value.okWide P W r b0 t v)(a:DataW.Trod enc P W 0 (λ_=>true) true t v d ps):∃n,v=.int .i64 n/\InI64 n:=by
 obtain⟨n,rfl,_,_,b⟩:=open_int ht h a;exact⟨n,rfl,by simpa[InI64,IntKind.min,IntKind.max,IntKind.signed,IntKind.bits]using ZGh b⟩
theorem ZBn (e:laidOutB P=true){f:World}{sp:Nat->Bool}(hb:Below W.heap.size W f):∀{ts:List TypeId} {vs:List Value} {ds:List (DataW H)} {ps:List MemPlace},
    ts.all (λt=>P.readableRec t&&decide (t<P.types.size))=true->DataW.TrodAll enc P W 0 (λ_=>true) true ts vs ds ps->(∀p∈ps,p.block<W.heap.size)->(∀p∈ps,sp p.block=true)->
    DataW.TrodAll enc P f 0 sp true ts vs ds ps
  | [],_,_,_,_,h,_,_=>by
    obtain⟨rfl,rfl,rfl⟩:=trodAll_nil h;exact trodAll_mk0
  | t::ts,_,_,_,c,h,b,hs=>by
    obtain⟨v,vs,d,ds,p,q,rfl,rfl,rfl,h1,h2⟩:=trodAll_cons h;simp only[RN,TE,SF]at c;refine trodAll_cons_mk (WideElems.Trod_stays e c.1.1 c.1.2 h1 (λx a=>hb.same (b x (by simp[a]))) (λx a=>hs x (by simp[a]))) ?_;exact ZBn e hb (by simpa using c.2) h2 (λx a=>b x (by simp[a])) (λx a=>hs x (by simp[a]))
theorem ZPb{f:FuncId}{fn:Func}{s:ChangeSpec}{args:Array Value}{ds m:List (DataW H)}{b:List MemPlace}{tb:TypeId}{R:Value->List Own->Heaplet->Prop}(w:laidOutB P=true)
 (a:fn.params.toList.all (λt=>P.readableRec t&&decide (t<P.types.size))=true)(c:fn.resultTypes= #[tb])(i:P.underlying tb=some .bool)(n:s.vars= [])
 (j:DataW.Whole enc P fn.params.toList s.vars false W args.toList ds m b)(hs:s.fn H (ds++m)={results:=[.lit (.bool true)],args:=ds})
 (y:Does P f args [] (HW W) R)(z:∀u K o,R u K o->u=.bool true):
 Calls P f args W λe g=>∃v,e=.returned v/\s.post enc P fn false true false false W args v g:=by
 have h1:=callsIn_wide.1 (y W (ZPz W) ⟨by simp,by simp[ids],by simp⟩);refine h1.mono λe g ⟨v,K',o,A,B,C⟩=> ?_;obtain rfl:=z _ _ _ B;refine⟨_,A,?_⟩;have hb:Below W.heap.size W g:=(show Kept [] W g from C.kept).below;have d:=j.lt;have k:=j;obtain⟨p,q,D,r,rfl,E,F⟩:=k;rw[n]at r;obtain⟨rfl,rfl⟩:=trodVars_none r;refine⟨ds,[],_,[],p,[],j,?_,?_,?_,hb.frame _,λh=>by cases h⟩
 . rw[hs,c];exact trodAll_cons_mk (shut_bool i _) trodAll_mk0
 . rw[hs];exact ZBn w hb a D (λx l=>d x (by simpa using l)) (λx l=>by simpa using d x (by simpa using l))
 . rw[hs,n];exact rfl
end
section
variable{H:Type}{enc:TypeId×Value->H}{P:Program}{W:World}{B:Bulk H}
def Fits (P:Program)(t:TypeId)(d:DataW H):Prop:=(d.weights P t).all (· <=reachBytes)=true
def FitsEach (P:Program)(ts:List TypeId)(ds:List (DataW H)):Prop:=(DataW.weightsEach P ts ds).all (· <=reachBytes)=true
theorem ZM{t:TypeId}{ts:List TypeId}{d:DataW H}{ds:List (DataW H)}(h:FitsEach P (t::ts) (d::ds)):Fits P t d/\FitsEach P ts ds:=by
 unfold FitsEach at h;rw[DataW.weightsEach,List.all_append,TE]at h;exact h
theorem ZMJ{e:TypeId}:∀{ds:List (DataW H)},(DataW.weightsAll P e ds).all (· <=reachBytes)=true->∀d∈ds,Fits P e d
  |[],_,d,a=>by cases a
  | x::r,h,d,a=>by
    rw[DataW.weightsAll,List.all_append,TE]at h;rcases Ta.1 a with rfl|a
    . exact h.1
    . exact ZMJ h.2 d a
theorem ZNr{t e:TypeId}{a b:List (DataW H)}(ht:P.underlying t=some (.slice e))(hb:1<=P.bytesOf e)(h:Fits P t (.slice a b)):a.length<=reachBytes/\∀d∈a,Fits P e d:=by
 unfold Fits at h;rw[DataW.weights,ht]at h;simp only[RN,List.all_append,TE,SF]at h;refine⟨?_,ZMJ h.2.1⟩;have:=Nat.le_mul_of_pos_right (a.length+b.length) hb;omega
theorem G3{t:TypeId}{fs:Array Field}{p:List (DataW H)}(ht:P.underlying t=some (.struct fs))(h:Fits P t (.agg p)):FitsEach P (fs.toList.map (·.type)) p:=by
 unfold Fits at h;rw[DataW.weights,ht]at h;exact h
def ReadsF (enc:TypeId×Value->H)(P:Program)(W:World)(t:TypeId){α:Type}(R:Rep α)(size:Nat)(I:α->Prop):Prop:=
 ∀f cs d ps,DataW.trod enc P W 0 (λ_=>true) true f t cs=some (d,ps)->Fits P t d->∃x,R (HW W) cs x/\cs.length=size/\I x
theorem Reads.f{α:Type}{t:TypeId}{R:Rep α}{size:Nat}{b:α->Nat}{I:α->Prop}(h:Reads enc P W B t R size b I):ReadsF enc P W t R size I:=λa cs d ps e _=>by
 obtain⟨x,h1,h2,-,h3⟩:=h a cs d ps e;exact⟨x,h1,h2,h3⟩
theorem ZJ4 {α:Type}{t e:TypeId}{R:Rep α}{size:Nat}{I:α->Prop}(ht:P.underlying t=some (.slice e))(hc:P.cellsOf e=size)(Y:0<size)(hb:1<=P.bytesOf e)(he:ReadsF enc P W e R size I):
    ∀r cs d ps,DataW.trod enc P W 0 (λ_=>true) true r t cs=some (d,ps)->Fits P t d->∃ao n cap,cs= [.slice ao n cap]/\∃l,IsSlice (HW W) R size (.slice ao n cap) l/\l.length<=reachBytes/\∀x∈l,I x:=λr cs d ps h Z=>by
  rcases DataW.trod_slice ht h with⟨rfl,p⟩|⟨a,len,cap,f,rst,m,_,rfl,p,_,hlc,K,hlen,E,w,_⟩
  . exact⟨none,0,0,rfl,[],IsSlice.nil _ _ _,TK _,by simp⟩
  . simp only [SD]at p;rw[p.1]at Z;obtain⟨L,M⟩:=ZNr ht hb Z;have g:cap=0\/a.spot=none:=by
      by_cases h0:cap=0
      . exact .inl h0
      right;have A:∃B,W.cells? 0 a (P.cellsOf e)=some B:=by
        by_cases C:len=0
        . subst C;obtain⟨hr1,N⟩:=w rfl;have:=N 0 (by omega);have h3:(rst[0]?).isSome=true:=(by rw[TO (by omega)];rfl);rw[<-this]at h3;cases q:W.cells? 0 (a.add ((0+0)*P.cellsOf e)) (P.cellsOf e)with
          |none=>rw[q]at h3;simp at h3
          |some c=>exact⟨c,by simpa[Addr.add]using q⟩
        . have:=E 0 (by omega);have h3:(f[0]?).isSome=true:=(by rw[TO (by omega)];rfl);rw[<-this]at h3;cases q:W.cells? 0 (a.add (0*P.cellsOf e)) (P.cellsOf e)with
          |none=>rw[q]at h3;simp at h3
          |some c=>exact⟨c,by simpa[Addr.add]using q⟩
      obtain⟨B,F⟩:=A;obtain⟨_,hl',O⟩:=World.cells?_some F;have:=O 0 (by omega);have v:(B[0]?).isSome=true:=(by rw[TO (by omega)];rfl);rw[<-this]at v;have G:a.add 0=a:=(by simp[Addr.add]);rw[G]at v;cases hs:a.spot with
      |none=>rfl
      | some s=>
        unfold World.cell? at v;rw[hs]at v;split at v<;>simp at v
    have Q:∀(k:Nat),k<=len->∃l:List α,l.length=k/\(∀x∈l,I x)/\
        ∀i y,l[i]? =some y->∃cs,W.cells? 0 (a.add (i*size)) size=some cs/\R (HW W) cs y/\cs.length=size:=by
      intro k;induction k with
      |zero=>intro _;exact⟨[],rfl,by simp,by simp⟩
      | succ k ih=>
        intro hk;obtain⟨l,C,hI,hi⟩:=ih (by omega);have h1:=E k (by omega);have H:k<f.length:=(by omega);rw[TO H]at h1;cases q:W.cells? 0 (a.add (k*P.cellsOf e)) (P.cellsOf e)with
        |none=>rw[q]at h1;simp at h1
        | some c=>
          rw[q]at h1;simp only[TA]at h1;obtain⟨y,S,T,U⟩:=he m c f[k].1 f[k].2 h1 (M _ (SU (Sv H)));refine⟨l++ [y],by simp[C],?_,?_⟩
          . intro x p;rcases TU.1 p with p|p
            . exact hI x p
            . simp at p;subst p;exact U
          . intro i z D;by_cases hi':i<k
            . rw[ST (by omega)]at D;exact hi i z D
            . have V:i=k:=by
                have:=(TD.1 D).1;simp at this;omega
              subst V;rw[Sh (by omega)]at D;simp[C]at D;subst D;exact⟨c,by rw[<-hc];exact q,S,T⟩
    obtain⟨l,C,hI,hi⟩:=Q len (TL _);refine⟨some a,len,cap,rfl,l,⟨some a,cap,by rw[C],by omega,K,λa' X=> ?_,λX=>(by cases X),λi y hy=> ?_⟩,?_,hI⟩
    . cases X;exact g
    . have hlt:=(TD.1 hy).1;have J:a.spot=none:=g.resolve_left (by omega);obtain⟨b,o,s⟩:=a;simp at J;subst J;obtain⟨cs,h1,h2,h3⟩:=hi i y hy;refine⟨b,o,cs,rfl,h3,h2,λj u hu=> ?_⟩;obtain⟨_,_,v⟩:=World.cells?_some h1;have hj:j<size:=(by have:=(TD.1 hu).1;omega);have G:=v j hj;rw[hu]at G;have e1:(Addr.add (Addr.add ⟨b,o,none⟩ (i*size)) j)=⟨b,o+i*size+j,none⟩:=by
        unfold Addr.add;split<;>split<;>simp_all
      rw[e1]at G;exact G
    . rw[RL]at L;omega
theorem Yp{α:Type}{t e:TypeId}{R:Rep α}{size:Nat}{I:α->Prop}(ht:P.underlying t=some (.slice e))(b:P.cellsOf e=size)(a:0<size)(hb:1<=P.bytesOf e)(c:ReadsF enc P W e R size I):
 ReadsF enc P W t (RSl R size) 1 (λl=>l.length<=reachBytes/\∀x∈l,I x):=λf cs d ps h g=>by
 obtain⟨ao,n,cap,rfl,l,h1,h2,h3⟩:=ZJ4 ht b a hb c f cs d ps h g;exact⟨l,⟨_,rfl,h1⟩,rfl,h2,h3⟩
def ZBO (x:Write):Prop:=InI64 x.At/\x.Data.length<=reachBytes/\∀y∈x.Data,True
theorem ZJ5{t:TypeId}{fs:Array Field}{f c:Field}(ht:P.underlying t=some (.struct fs))(u:P.cellsOf t=2)(v:fs.size=2)(w:fs.toList= [f,c])
 (i:fs[0]? =some f/\f.offset=0/\P.cellsOf f.type=1)(z:ReadsF enc P W f.type RInt 1 InI64)
 (j:fs[1]? =some c/\c.offset=1/\P.cellsOf c.type=1)(A:ReadsF enc P W c.type (RSl RU8 1) 1 (λl=>l.length<=reachBytes/\∀x∈l,(λ_=>True) x)):
 ReadsF enc P W t R_Write 2 ZBO:=λm cs d ps h b=>by
 obtain⟨xs,n,_,o,a,g,p⟩:=DataW.trod_struct ht h;rw[u]at a;rw[v]at g
 match xs,g with
 |[q,r],_=>
 match cs,a with
 |[c0,s],_=>
 simp only[SD]at o;rw[o.1]at b;have b:=G3 ht b;rw[w]at b;obtain⟨F,b⟩:=ZM b;obtain⟨B,-⟩:=ZM b;obtain⟨y,C,_,D⟩:=z n [c0] q.1 q.2 (by have e:=p 0 _ i.1;rw[i.2.1,i.2.2]at e;exact e) F
 obtain rfl:c0=.int .i64 y:=by have e: [c0]= [.int .i64 y]:=C;simpa using e
 obtain⟨E,k,_,G⟩:=A n [s] r.1 r.2 (by have e:=p 1 _ j.1;rw[j.2.1,j.2.2]at e;exact e) B
 obtain⟨H,e,k⟩:=k;obtain rfl:s=H:=by simpa using e
 exact⟨⟨y,E⟩,⟨_,rfl,k⟩,rfl,⟨D,G⟩⟩
def ZD1 (x:Disk):Prop:=(x.Blocks.length<=reachBytes/\∀b∈x.Blocks,b.length<=reachBytes/\∀y∈b,True)/\(x.Waits.length<=reachBytes/\∀w∈x.Waits,ZBO w)
theorem ZLS{t:TypeId}{fs:Array Field}{f c:Field}(ht:P.underlying t=some (.struct fs))(v:P.cellsOf t=2)(w:fs.size=2)(y:fs.toList= [f,c])
 (i:fs[0]? =some f/\f.offset=0/\P.cellsOf f.type=1)(z:ReadsF enc P W f.type (RSl (RSl RU8 1) 1) 1 (λl=>l.length<=reachBytes/\∀x∈l,(λl=>l.length<=reachBytes/\∀x∈l,(λ_=>True) x) x))
 (j:fs[1]? =some c/\c.offset=1/\P.cellsOf c.type=1)(A:ReadsF enc P W c.type (RSl R_Write 2) 1 (λl=>l.length<=reachBytes/\∀x∈l,ZBO x)):
 ReadsF enc P W t R_Disk 2 ZD1:=λo cs d ps h b=>by
 obtain⟨xs,n,_,p,a,g,q⟩:=DataW.trod_struct ht h;rw[v]at a;rw[w]at g
 match xs,g with
 |[r,s],_=>
 match cs,a with
 |[c0,u],_=>
 simp only[SD]at p;rw[p.1]at b;have b:=G3 ht b;rw[y]at b;obtain⟨F,b⟩:=ZM b;obtain⟨B,-⟩:=ZM b;obtain⟨C,k,_,D⟩:=z n [c0] r.1 r.2 (by have e:=q 0 _ i.1;rw[i.2.1,i.2.2]at e;exact e) F
 obtain⟨E,e,k⟩:=k;obtain rfl:c0=E:=by simpa using e
 obtain⟨G,m,_,H⟩:=A n [u] s.1 s.2 (by have e:=q 1 _ j.1;rw[j.2.1,j.2.2]at e;exact e) B
 obtain⟨I,e,m⟩:=m;obtain rfl:u=I:=by simpa using e
 exact⟨⟨C,G⟩,⟨_,_,rfl,k,m⟩,rfl,⟨D,H⟩⟩
def ZBP (x:Store):Prop:=ZD1 x.Disk/\(x.Space.length<=reachBytes/\∀y∈x.Space,True)/\True/\True
theorem ZJ6{t:TypeId}{fs:Array Field}{f c g i:Field}(ht:P.underlying t=some (.struct fs))(J:P.cellsOf t=5)(K:fs.size=4)(L:fs.toList= [f,c,g,i])
 (p:fs[0]? =some f/\f.offset=0/\P.cellsOf f.type=2)(M:ReadsF enc P W f.type R_Disk 2 ZD1)
 (q:fs[1]? =some c/\c.offset=2/\P.cellsOf c.type=1)(N:ReadsF enc P W c.type (RSl RU8 1) 1 (λl=>l.length<=reachBytes/\∀x∈l,(λ_=>True) x))
 (r:fs[2]? =some g/\g.offset=3/\P.cellsOf g.type=1)(O:ReadsF enc P W g.type RU32 1 (λ_=>True))
 (s:fs[3]? =some i/\i.offset=4/\P.cellsOf i.type=1)(Q:ReadsF enc P W i.type RU32 1 (λ_=>True)):
 ReadsF enc P W t R_Store 5 ZBP:=λA cs d ps h a=>by
 obtain⟨xs,n,_,B,b,j,o⟩:=DataW.trod_struct ht h;rw[J]at b;rw[K]at j
 match xs,j with
 |[C,D,E,F],_=>
 match cs,b with
 |[c0,R,G,u,v],_=>
 simp only[SD]at B;rw[B.1]at a;have a:=G3 ht a;rw[L]at a;obtain⟨S,a⟩:=ZM a;obtain⟨T,a⟩:=ZM a;obtain⟨U,a⟩:=ZM a;obtain⟨V,-⟩:=ZM a;obtain⟨X,Y,_,Z⟩:=M n [c0,R] C.1 C.2 (by have e:=o 0 _ p.1;rw[p.2.1,p.2.2]at e;exact e) S
 obtain⟨H,I,e,k,m⟩:=Y;simp only[SA,and_true]at e;obtain⟨rfl,rfl⟩:=e;obtain⟨y1,w,_,i1⟩:=N n [G] D.1 D.2 (by have e:=o 1 _ q.1;rw[q.2.1,q.2.2]at e;exact e) T
 obtain⟨u1,e,w⟩:=w;obtain rfl:G=u1:=by simpa using e
 obtain⟨y,a2,_,i2⟩:=O n [u] E.1 E.2 (by have e:=o 2 _ r.1;rw[r.2.1,r.2.2]at e;exact e) U
 obtain rfl:u=.int .u32 (y.toNat:Int):=by have e: [u]= [.int .u32 (y.toNat:Int)]:=a2;simpa using e
 obtain⟨z,a3,_,i3⟩:=Q n [v] F.1 F.2 (by have e:=o 3 _ s.1;rw[s.2.1,s.2.2]at e;exact e) V
 obtain rfl:v=.int .u32 (z.toNat:Int):=by have e: [v]= [.int .u32 (z.toNat:Int)]:=a3;simpa using e
 exact⟨⟨X,y1,y,z⟩,⟨_,_,_,rfl,k,m,w⟩,rfl,⟨Z,i1,i2,i3⟩⟩
theorem ZMk{r:Reach}{b0:Nat}{t:TypeId}{v:Value}{d:DataW H}{ps:List MemPlace}{α:Type}{fs:Array Field}{R:Rep α}{size:Nat}{I:α->Prop}(ht:P.underlying t=some (.struct fs))(a:ReadsF enc P W t R size I)
 (h:Value.okWide P W r b0 t v)(b:DataW.Trod enc P W 0 (λ_=>true) true t v d ps)(c:Fits P t d):
 ∃cs:Array Value,v=.agg cs/\∃x,R (HW W) cs.toList x/\I x:=by
 obtain⟨cs,rfl,_⟩:=okWide_struct ht h;obtain⟨f,e⟩:=b;obtain⟨x,h1,h2,h3⟩:=a f _ d ps e c;exact⟨cs,rfl,x,by simpa[Value.cells]using h1,h3⟩
end
section
variable{H:Type}{enc:TypeId×Value->H}{P:Program}{W:World}{B:Bulk H}
def ZD0 (x:Line):Prop:=InI64 x.Id/\True/\InI64 x.Owner/\InI64 x.Prev/\True/\True/\InI64 x.Key/\GE x.Root/\(x.Dead.length<=reachBytes/\∀y∈x.Dead,GE y)
theorem ZLR{t:TypeId}{fs:Array Field}{f g i j k m o p q:Field}(ht:P.underlying t=some (.struct fs))(hN:P.cellsOf t=13)(hk:fs.size=9)(hl:fs.toList= [f,g,i,j,k,m,o,p,q])
 (u:fs[0]? =some f/\f.offset=0/\P.cellsOf f.type=1)(r0:ReadsF enc P W f.type RInt 1 InI64)
 (v:fs[1]? =some g/\g.offset=1/\P.cellsOf g.type=1)(r1:ReadsF enc P W g.type RU8 1 (λ_=>True))
 (w:fs[2]? =some i/\i.offset=2/\P.cellsOf i.type=1)(r2:ReadsF enc P W i.type RInt 1 InI64)
 (y:fs[3]? =some j/\j.offset=3/\P.cellsOf j.type=1)(r3:ReadsF enc P W j.type RInt 1 InI64)
 (z:fs[4]? =some k/\k.offset=4/\P.cellsOf k.type=1)(r4:ReadsF enc P W k.type RU32 1 (λ_=>True))
 (A:fs[5]? =some m/\m.offset=5/\P.cellsOf m.type=1)(r5:ReadsF enc P W m.type RU32 1 (λ_=>True))
 (B:fs[6]? =some o/\o.offset=6/\P.cellsOf o.type=1)(r6:ReadsF enc P W o.type RInt 1 InI64)
 (C:fs[7]? =some p/\p.offset=7/\P.cellsOf p.type=5)(r7:ReadsF enc P W p.type R_Ptr 5 GE)
 (D:fs[8]? =some q/\q.offset=12/\P.cellsOf q.type=1)(r8:ReadsF enc P W q.type (RSl R_Ptr 5) 1 (λl=>l.length<=reachBytes/\∀x∈l,GE x)):
 ReadsF enc P W t R_Line 13 ZD0:=λV cs d ps h a=>by
 obtain⟨xs,n,_,X,c,r,b⟩:=DataW.trod_struct ht h;rw[hN]at c;rw[hk]at r
 match xs,r with
 |[Y,Z,x2,x3,x4,x5,x6,x7,x8],_=>
 match cs,c with
 |[c0,E,F,G,H,I,J,c7,c8,c9,K,L,s],_=>
 simp only[SD]at X;rw[X.1]at a;have a:=G3 ht a;rw[hl]at a;obtain⟨F0,a⟩:=ZM a;obtain⟨F1,a⟩:=ZM a;obtain⟨F2,a⟩:=ZM a;obtain⟨F3,a⟩:=ZM a;obtain⟨F4,a⟩:=ZM a;obtain⟨F5,a⟩:=ZM a;obtain⟨F6,a⟩:=ZM a;obtain⟨F7,a⟩:=ZM a;obtain⟨F8,-⟩:=ZM a;obtain⟨M,a0,_,i0⟩:=r0 n [c0] Y.1 Y.2 (by have e:=b 0 _ u.1;rw[u.2.1,u.2.2]at e;exact e) F0
 obtain rfl:c0=.int .i64 M:=by have e: [c0]= [.int .i64 M]:=a0;simpa using e
 obtain⟨N,a1,_,i1⟩:=r1 n [E] Z.1 Z.2 (by have e:=b 1 _ v.1;rw[v.2.1,v.2.2]at e;exact e) F1
 obtain rfl:E=.int .u8 (N.toNat:Int):=by have e: [E]= [.int .u8 (N.toNat:Int)]:=a1;simpa using e
 obtain⟨O,a2,_,i2⟩:=r2 n [F] x2.1 x2.2 (by have e:=b 2 _ w.1;rw[w.2.1,w.2.2]at e;exact e) F2
 obtain rfl:F=.int .i64 O:=by have e: [F]= [.int .i64 O]:=a2;simpa using e
 obtain⟨Q,a3,_,i3⟩:=r3 n [G] x3.1 x3.2 (by have e:=b 3 _ y.1;rw[y.2.1,y.2.2]at e;exact e) F3
 obtain rfl:G=.int .i64 Q:=by have e: [G]= [.int .i64 Q]:=a3;simpa using e
 obtain⟨R,a4,_,i4⟩:=r4 n [H] x4.1 x4.2 (by have e:=b 4 _ z.1;rw[z.2.1,z.2.2]at e;exact e) F4
 obtain rfl:H=.int .u32 (R.toNat:Int):=by have e: [H]= [.int .u32 (R.toNat:Int)]:=a4;simpa using e
 obtain⟨S,a5,_,i5⟩:=r5 n [I] x5.1 x5.2 (by have e:=b 5 _ A.1;rw[A.2.1,A.2.2]at e;exact e) F5
 obtain rfl:I=.int .u32 (S.toNat:Int):=by have e: [I]= [.int .u32 (S.toNat:Int)]:=a5;simpa using e
 obtain⟨T,a6,_,i6⟩:=r6 n [J] x6.1 x6.2 (by have e:=b 6 _ B.1;rw[B.2.1,B.2.2]at e;exact e) F6
 obtain rfl:J=.int .i64 T:=by have e: [J]= [.int .i64 T]:=a6;simpa using e
 obtain⟨y7,a7,_,i7⟩:=r7 n [c7,c8,c9,K,L] x7.1 x7.2 (by have e:=b 7 _ C.1;rw[C.2.1,C.2.2]at e;exact e) F7
 have e:=a7;unfold R_Ptr at e;simp only[SA,and_true]at e;obtain⟨rfl,rfl,rfl,rfl,rfl⟩:=e;obtain⟨y8,U,_,i8⟩:=r8 n [s] x8.1 x8.2 (by have e:=b 8 _ D.1;rw[D.2.1,D.2.2]at e;exact e) F8
 obtain⟨u8,e,U⟩:=U;obtain rfl:s=u8:=by simpa using e
 exact⟨⟨M,N,O,Q,R,S,T,y7,y8⟩,⟨_,rfl,U⟩,rfl,⟨i0,i1,i2,i3,i4,i5,i6,i7,i8⟩⟩
def Bj (x:Change):Prop:=InI64 x.Set/\InI64 x.Obj/\InI64 x.Index/\True/\InI64 x.Links/\InI64 x.Size/\(x.Data.length<=reachBytes/\∀y∈x.Data,(λ_=>True) y)/\GE x.Laid
theorem ZIZ{t:TypeId}{fs:Array Field}{f g i j k m o p:Field}(ht:P.underlying t=some (.struct fs))(hN:P.cellsOf t=12)(hk:fs.size=8)(hl:fs.toList= [f,g,i,j,k,m,o,p])
 (r:fs[0]? =some f/\f.offset=0/\P.cellsOf f.type=1)(r0:ReadsF enc P W f.type RInt 1 InI64)
 (s:fs[1]? =some g/\g.offset=1/\P.cellsOf g.type=1)(r1:ReadsF enc P W g.type RInt 1 InI64)
 (u:fs[2]? =some i/\i.offset=2/\P.cellsOf i.type=1)(r2:ReadsF enc P W i.type RInt 1 InI64)
 (v:fs[3]? =some j/\j.offset=3/\P.cellsOf j.type=1)(r3:ReadsF enc P W j.type RU8 1 (λ_=>True))
 (w:fs[4]? =some k/\k.offset=4/\P.cellsOf k.type=1)(r4:ReadsF enc P W k.type RInt 1 InI64)
 (y:fs[5]? =some m/\m.offset=5/\P.cellsOf m.type=1)(r5:ReadsF enc P W m.type RInt 1 InI64)
 (z:fs[6]? =some o/\o.offset=6/\P.cellsOf o.type=1)(r6:ReadsF enc P W o.type (RSl RU8 1) 1 (λl=>l.length<=reachBytes/\∀x∈l,(λ_=>True) x))
 (A:fs[7]? =some p/\p.offset=7/\P.cellsOf p.type=5)(r7:ReadsF enc P W p.type R_Ptr 5 GE):
 ReadsF enc P W t R_Change 12 Bj:=λQ cs d ps h a=>by
 obtain⟨xs,n,_,R,b,q,c⟩:=DataW.trod_struct ht h;rw[hN]at b;rw[hk]at q
 match xs,q with
 |[S,T,U,V,X,Y,Z,x7],_=>
 match cs,b with
 |[c0,B,C,D,E,F,c6,c7,c8,c9,G,H],_=>
 simp only[SD]at R;rw[R.1]at a;have a:=G3 ht a;rw[hl]at a;obtain⟨F0,a⟩:=ZM a;obtain⟨F1,a⟩:=ZM a;obtain⟨F2,a⟩:=ZM a;obtain⟨F3,a⟩:=ZM a;obtain⟨F4,a⟩:=ZM a;obtain⟨F5,a⟩:=ZM a;obtain⟨F6,a⟩:=ZM a;obtain⟨F7,-⟩:=ZM a;obtain⟨I,a0,_,i0⟩:=r0 n [c0] S.1 S.2 (by have e:=c 0 _ r.1;rw[r.2.1,r.2.2]at e;exact e) F0
 obtain rfl:c0=.int .i64 I:=by have e: [c0]= [.int .i64 I]:=a0;simpa using e
 obtain⟨J,a1,_,i1⟩:=r1 n [B] T.1 T.2 (by have e:=c 1 _ s.1;rw[s.2.1,s.2.2]at e;exact e) F1
 obtain rfl:B=.int .i64 J:=by have e: [B]= [.int .i64 J]:=a1;simpa using e
 obtain⟨K,a2,_,i2⟩:=r2 n [C] U.1 U.2 (by have e:=c 2 _ u.1;rw[u.2.1,u.2.2]at e;exact e) F2
 obtain rfl:C=.int .i64 K:=by have e: [C]= [.int .i64 K]:=a2;simpa using e
 obtain⟨L,a3,_,i3⟩:=r3 n [D] V.1 V.2 (by have e:=c 3 _ v.1;rw[v.2.1,v.2.2]at e;exact e) F3
 obtain rfl:D=.int .u8 (L.toNat:Int):=by have e: [D]= [.int .u8 (L.toNat:Int)]:=a3;simpa using e
 obtain⟨M,a4,_,i4⟩:=r4 n [E] X.1 X.2 (by have e:=c 4 _ w.1;rw[w.2.1,w.2.2]at e;exact e) F4
 obtain rfl:E=.int .i64 M:=by have e: [E]= [.int .i64 M]:=a4;simpa using e
 obtain⟨N,a5,_,i5⟩:=r5 n [F] Y.1 Y.2 (by have e:=c 5 _ y.1;rw[y.2.1,y.2.2]at e;exact e) F5
 obtain rfl:F=.int .i64 N:=by have e: [F]= [.int .i64 N]:=a5;simpa using e
 obtain⟨y6,O,_,i6⟩:=r6 n [c6] Z.1 Z.2 (by have e:=c 6 _ z.1;rw[z.2.1,z.2.2]at e;exact e) F6
 obtain⟨u6,e,O⟩:=O;obtain rfl:c6=u6:=by simpa using e
 obtain⟨y7,a7,_,i7⟩:=r7 n [c7,c8,c9,G,H] x7.1 x7.2 (by have e:=c 7 _ A.1;rw[A.2.1,A.2.2]at e;exact e) F7
 have e:=a7;unfold R_Ptr at e;simp only[SA,and_true]at e;obtain⟨rfl,rfl,rfl,rfl,rfl⟩:=e;exact⟨⟨I,J,K,L,M,N,y6,y7⟩,⟨_,rfl,O⟩,rfl,⟨i0,i1,i2,i3,i4,i5,i6,i7⟩⟩
def ZAS (x:Pool):Prop:=ZBP x.Store/\True/\GE x.Root/\(x.MetaL.length<=reachBytes/\∀y∈x.MetaL,InI64 y)/\(x.Lines.length<=reachBytes/\∀y∈x.Lines,ZD0 y)/\(x.Keys.length<=reachBytes/\∀y∈x.Keys,(λl=>l.length<=reachBytes/\∀x∈l,(λ_=>True) x) y)/\(x.Loaded.length<=reachBytes/\∀y∈x.Loaded,(λl=>l.length<=reachBytes/\∀x∈l,(λ_=>True) x) y)/\(x.Changes.length<=reachBytes/\∀y∈x.Changes,Bj y)/\InI64 x.Logged/\InI64 x.NextId/\True
theorem ZLQ{t:TypeId}{fs:Array Field}{m o p q r s u v w z f:Field}(ht:P.underlying t=some (.struct fs))(hN:P.cellsOf t=19)(hk:fs.size=11)(hl:fs.toList= [m,o,p,q,r,s,u,v,w,z,f])
 (K:fs[0]? =some m/\m.offset=0/\P.cellsOf m.type=5)(r0:ReadsF enc P W m.type R_Store 5 ZBP)
 (L:fs[1]? =some o/\o.offset=5/\P.cellsOf o.type=1)(r1:ReadsF enc P W o.type RU32 1 (λ_=>True))
 (M:fs[2]? =some p/\p.offset=6/\P.cellsOf p.type=5)(r2:ReadsF enc P W p.type R_Ptr 5 GE)
 (N:fs[3]? =some q/\q.offset=11/\P.cellsOf q.type=1)(r3:ReadsF enc P W q.type (RSl RInt 1) 1 (λl=>l.length<=reachBytes/\∀x∈l,InI64 x))
 (O:fs[4]? =some r/\r.offset=12/\P.cellsOf r.type=1)(r4:ReadsF enc P W r.type (RSl R_Line 13) 1 (λl=>l.length<=reachBytes/\∀x∈l,ZD0 x))
 (Q:fs[5]? =some s/\s.offset=13/\P.cellsOf s.type=1)(r5:ReadsF enc P W s.type (RSl (RSl RU8 1) 1) 1 (λl=>l.length<=reachBytes/\∀x∈l,(λl=>l.length<=reachBytes/\∀x∈l,(λ_=>True) x) x))
 (R:fs[6]? =some u/\u.offset=14/\P.cellsOf u.type=1)(r6:ReadsF enc P W u.type (RSl (RSl RU8 1) 1) 1 (λl=>l.length<=reachBytes/\∀x∈l,(λl=>l.length<=reachBytes/\∀x∈l,(λ_=>True) x) x))
 (S:fs[7]? =some v/\v.offset=15/\P.cellsOf v.type=1)(r7:ReadsF enc P W v.type (RSl R_Change 12) 1 (λl=>l.length<=reachBytes/\∀x∈l,Bj x))
 (T:fs[8]? =some w/\w.offset=16/\P.cellsOf w.type=1)(r8:ReadsF enc P W w.type RInt 1 InI64)
 (U:fs[9]? =some z/\z.offset=17/\P.cellsOf z.type=1)(r9:ReadsF enc P W z.type RInt 1 InI64)
 (g:fs[10]? =some f/\f.offset=18/\P.cellsOf f.type=1)(V:ReadsF enc P W f.type RU32 1 (λ_=>True)):
 ReadsF enc P W t R_Pool 19 ZAS:=λfuel cs d ps h a=>by
 obtain⟨xs,n,_,hx,c,A,b⟩:=DataW.trod_struct ht h;rw[hN]at c;rw[hk]at A
 match xs,A with
 |[x0,x1,x2,x3,x4,x5,x6,x7,x8,x9,B],_=>
 match cs,c with
 |[c0,c1,c2,c3,c4,X,c6,c7,c8,c9,Y,C,D,E,F,G,i,j,k],_=>
 simp only[SD]at hx;rw[hx.1]at a;have a:=G3 ht a;rw[hl]at a;obtain⟨F0,a⟩:=ZM a;obtain⟨F1,a⟩:=ZM a;obtain⟨F2,a⟩:=ZM a;obtain⟨F3,a⟩:=ZM a;obtain⟨F4,a⟩:=ZM a;obtain⟨F5,a⟩:=ZM a;obtain⟨F6,a⟩:=ZM a;obtain⟨F7,a⟩:=ZM a;obtain⟨F8,a⟩:=ZM a;obtain⟨F9,a⟩:=ZM a;obtain⟨Z,-⟩:=ZM a;obtain⟨y0,a0,_,i0⟩:=r0 n [c0,c1,c2,c3,c4] x0.1 x0.2 (by have e:=b 0 _ K.1;rw[K.2.1,K.2.2]at e;exact e) F0
 obtain⟨w0_0,w0_1,w0_2,e,H,I,J⟩:=a0;simp only[SA,and_true]at e;obtain⟨rfl,rfl,rfl,rfl,rfl⟩:=e;obtain⟨y1,a1,_,i1⟩:=r1 n [X] x1.1 x1.2 (by have e:=b 1 _ L.1;rw[L.2.1,L.2.2]at e;exact e) F1
 obtain rfl:X=.int .u32 (y1.toNat:Int):=by have e: [X]= [.int .u32 (y1.toNat:Int)]:=a1;simpa using e
 obtain⟨y2,a2,_,i2⟩:=r2 n [c6,c7,c8,c9,Y] x2.1 x2.2 (by have e:=b 2 _ M.1;rw[M.2.1,M.2.2]at e;exact e) F2
 have e:=a2;unfold R_Ptr at e;simp only[SA,and_true]at e;obtain⟨rfl,rfl,rfl,rfl,rfl⟩:=e;obtain⟨y3,a3,_,i3⟩:=r3 n [C] x3.1 x3.2 (by have e:=b 3 _ N.1;rw[N.2.1,N.2.2]at e;exact e) F3
 obtain⟨u3,e,a3⟩:=a3;obtain rfl:C=u3:=by simpa using e
 obtain⟨y4,a4,_,i4⟩:=r4 n [D] x4.1 x4.2 (by have e:=b 4 _ O.1;rw[O.2.1,O.2.2]at e;exact e) F4
 obtain⟨u4,e,a4⟩:=a4;obtain rfl:D=u4:=by simpa using e
 obtain⟨y5,a5,_,i5⟩:=r5 n [E] x5.1 x5.2 (by have e:=b 5 _ Q.1;rw[Q.2.1,Q.2.2]at e;exact e) F5
 obtain⟨u5,e,a5⟩:=a5;obtain rfl:E=u5:=by simpa using e
 obtain⟨y6,a6,_,i6⟩:=r6 n [F] x6.1 x6.2 (by have e:=b 6 _ R.1;rw[R.2.1,R.2.2]at e;exact e) F6
 obtain⟨u6,e,a6⟩:=a6;obtain rfl:F=u6:=by simpa using e
 obtain⟨y7,a7,_,i7⟩:=r7 n [G] x7.1 x7.2 (by have e:=b 7 _ S.1;rw[S.2.1,S.2.2]at e;exact e) F7
 obtain⟨u7,e,a7⟩:=a7;obtain rfl:G=u7:=by simpa using e
 obtain⟨y8,a8,_,i8⟩:=r8 n [i] x8.1 x8.2 (by have e:=b 8 _ T.1;rw[T.2.1,T.2.2]at e;exact e) F8
 obtain rfl:i=.int .i64 y8:=by have e: [i]= [.int .i64 y8]:=a8;simpa using e
 obtain⟨y9,a9,_,i9⟩:=r9 n [j] x9.1 x9.2 (by have e:=b 9 _ U.1;rw[U.2.1,U.2.2]at e;exact e) F9
 obtain rfl:j=.int .i64 y9:=by have e: [j]= [.int .i64 y9]:=a9;simpa using e
 obtain⟨y,a10,_,i10⟩:=V n [k] B.1 B.2 (by have e:=b 10 _ g.1;rw[g.2.1,g.2.2]at e;exact e) Z
 obtain rfl:k=.int .u32 (y.toNat:Int):=by have e: [k]= [.int .u32 (y.toNat:Int)]:=a10;simpa using e
 exact⟨⟨y0,y1,y2,y3,y4,y5,y6,y7,y8,y9,y⟩,⟨_,_,_,_,_,_,_,_,rfl,H,I,J,a3,a4,a5,a6,a7⟩,rfl,⟨i0,i1,i2,i3,i4,i5,i6,i7,i8,i9,i10⟩⟩
end
end Go.Ow
namespace Go.Ow
open Go.RowKit
theorem ZQW{p:Pool}(a:SizY p)(id:Int):Tot (Uc p id) λr=>r.2=0->Weak p/\∃y∈p.Lines,y.Id=id:=by
 unfold Uc G7;refine Tot.bind (P:=λr=>r.1.Dead.length<=240/\(r.2=0->Weak p/\∃y∈p.Lines,y.Id=id)) ((ZJd a).bind λe j=>Tot.cond (λc=>R0 ⟨TK _,λh=>absurd h (BV c)⟩) λc=> ?_) λr b=> ?_
 . have w:=j (Yd c);have m:=w.few;unfold Yr;refine Tot.bind (P:=λr=>r.1<0\/∃i:Nat,r.1=(i:Int)/\∃y,p.Lines[i]? =some y/\y.Id=id) ?_ λr b=>Tot.cond (λ_=>R0 ⟨TK _,λh=>e8 (e:=6) h⟩) λk=> ?_
   . refine R3 (P:=λx=>∃i:Nat,x.2=(i:Int)/\∃y,p.Lines[i]? =some y/\y.Id=id) (R:=λ_=>True) ?_ (λx l=>R0 (.inr l)) λ_ _=>R0 (.inl (show(-1:Int)<0 by decide));refine Tot.loop (λs=>s.1=id/\∃i:Nat,s.2=(i:Int)/\i<=p.Lines.length) (λs=>p.Lines.length-s.2.toNat) ⟨rfl,0,rfl,TK _⟩ (by show p.Lines.length-_<=_;omega) ?_;rintro⟨_,_⟩ ⟨rfl,i,rfl,n⟩;unfold Xn ZAb;dsimp only;refine Tot.cond (λk=> ?_) λ_=>R0 trivial;have k:=TC k;rw[VD (by omega)];exact .idx (by omega) (by omega) λy f=>Tot.cond (λd=>R0 ⟨i,rfl,y,f,TC d⟩) λ_=>R0 ⟨⟨rfl,i+1,rfl,by omega⟩,by show p.Lines.length-(((i+1:Nat):Int)).toNat<p.Lines.length-((i:Int)).toNat;omega⟩
   . have k:=of_decide_eq_false k;obtain⟨i,e,y,f,g⟩:=b.resolve_left k;have hi:i<p.Lines.length:=(TD.1 f).1;rw[e];refine .idx (by omega) (by omega) λz a=> ?_;have a:p.Lines[i]? =some z:=a;exact R0 ⟨(w.lines z (TW a)).2,λ_=>⟨w,y,TW f,g⟩⟩
 . unfold YE;have h1:=b.1;exact Tot.bind (P:=λ_=>True) (.app (by simp;omega) (R0 trivial)) λ_ _=>R0 b.2
theorem ZNk (l:List Line)(b:Int)(m:l.length<=1000)(h:∃y∈l,y.Id=b):Tot (Z9 l b) λr=>r.2.1=l/\0<=r.1/\r.1<(l.length:Int):=by
 unfold Z9;refine R3 (P:=λx=>0<=x.2/\x.2<(l.length:Int)) (R:=λx=>False) ?_ (λx c=>R0 ⟨rfl,c⟩) λx c=>c.elim;refine Tot.loop (λs=>s.1=b/\∃i:Nat,s.2=(i:Int)/\i<=l.length/\∀j,j<i->∀y,l[j]? =some y->y.Id≠b) (λs=>l.length-s.2.toNat) ⟨rfl,0,rfl,TK _,λj a=>absurd a (Tl _)⟩ (by show l.length-_<=_;omega) ?_;rintro⟨_,_⟩ ⟨rfl,i,rfl,h1,h2⟩;unfold Xm Dr;dsimp only;refine Tot.cond (λk=> ?_) λk=> ?_
 . have k:=TC k;rw[VD (by omega)];refine .chk ⟨by omega,by omega⟩ (.idx (by omega) (by omega) λy f=>Tot.cond (λd=>R0 ⟨by show(0:Int)<=(i:Int);omega,k⟩) λd=>R0 ⟨⟨rfl,i+1,rfl,by omega,λj a z g=> ?_⟩,by show l.length-(((i+1:Nat):Int)).toNat<l.length-((i:Int)).toNat;omega⟩);rcases Nat.lt_succ_iff_lt_or_eq.1 a with a|rfl
   . exact h2 j a z g
   . have:some z=some y:=(by rw[<-g,<-f];rfl);cases this;exact of_decide_eq_false d
 . have k:=of_decide_eq_false k;obtain⟨y,f,e⟩:=h;obtain⟨j,a,rfl⟩:=List.getElem_of_mem f;exact absurd e (h2 j (by omega) _ (TO a))
structure Snapped (p q:Pool) (x:Line) (e g n f:Int):Prop where
  bad:f≠0->q=ZNO/\n=0
  err:e≠0->f=e
  snap:e=0->x.Kind=2->f=202
  full:e=0->x.Kind≠2->(p.Lines.length=16\/255<p.NextId\/4294967293<p.NextGuid)->f=9
  sync:e=0->x.Kind≠2->¬(p.Lines.length=16\/255<p.NextId\/4294967293<p.NextGuid)->g≠0->f=g
theorem ZMG (a:Int)(b:Int)(c:UInt32):cond (decide (a=16)) (some true) (cond (decide (255<b)) (some true) (some (decide (4294967293<c))))=some (decide (a=16\/255<b\/4294967293<c)):=by
 by_cases h1:a=16
 . simp[h1]
 . by_cases h2:255<b<;>simp[h1,h2]
theorem ZQh{p:Pool}{id:Int}{x:Line}{e:Int}(j:Uc p id=some (x,e))(l:e=0->Weak p/\∃y∈p.Lines,y.Id=id){s:Pool}{g:Int}(hs:KD p=some (s,g))(o:Synced p s g):Tot (Kn p id) λr=>Snapped p r.1 x e g r.2.1 r.2.2:=by
 unfold Kn JX;dsimp only;rw[j,TA];refine Tot.cond (λc=> ?_) λc=> ?_
 . have c:=BV c;exact R0 ⟨λ_=>⟨rfl,rfl⟩,λ_=>rfl,λh=>absurd h c,λh=>absurd h c,λh=>absurd h c⟩
 have c:=Yd c;dsimp only at c;subst c;refine Tot.cond (λk=> ?_) λk=> ?_
 . have k:=TC k;exact R0 ⟨λ_=>⟨rfl,rfl⟩,λh=>absurd rfl h,λ_ _=>rfl,λ_ h=>absurd k h,λ_ h=>absurd k h⟩
 have k:¬x.Kind=2:=of_decide_eq_false k;rw[ZMG,TA];refine Tot.cond (λm=> ?_) λm=> ?_
 . have m:=TC m;exact R0 ⟨λ_=>⟨rfl,rfl⟩,λh=>absurd rfl h,λ_ h=>absurd h k,λ_ _ _=>rfl,λ_ _ h=>absurd (by rcases m with m|m;exact .inl (by omega);exact .inr m) h⟩
 have m:=of_decide_eq_false m;have m':¬(p.Lines.length=16\/255<p.NextId\/4294967293<p.NextGuid):=λh=>m (by rcases h with h|h;exact .inl (by omega);exact .inr h);rw[hs,TA];refine Tot.cond (λd=>R0 ⟨λ_=>⟨rfl,rfl⟩,λh=>absurd rfl h,λ_ h=>absurd h k,λ_ _ h=>absurd h m',λ_ _ _ _=>rfl⟩) λd=> ?_;have d:g=0:=Yd d;have b:∀{q:Pool} {n f:Int},(f≠0->q=ZNO/\n=0)->Snapped p q x 0 g n f:=λh=>⟨h,λh=>absurd rfl h,λ_ h=>absurd h k,λ_ _ h=>absurd h m',λ_ _ _ h=>absurd d h⟩;obtain⟨ok,h1,h2,h3,v⟩:=o.ok d;have D:=ok.few;have E:=h2.len;obtain⟨-,y,w,i⟩:=l rfl;refine(ZNk s.Lines id (by omega) ?_).bind λr A=> ?_
 . have:id∈s.Lines.map (·.Id):=(by rw[h2.1,<-i];exact SU w);obtain⟨z,B,e⟩:=SI.1 this;exact⟨z,B,e⟩
 obtain⟨C,a,F⟩:=A;rw[C];refine .chk ⟨a,by omega⟩ (.idx a (by omega) λy _=> ?_);rw[TA];refine Tot.bind (P:=λt=>t.1=s.Store/\t.2.2.2.1.length<=16) ?_ λt ht=> ?_
 . refine .idx a (by omega) λy _=>.setI a (by omega) (.idx a (by rw[SC];omega) λy _=>.setI a (by rw[SC];omega) (.idx a (by rw[SC,SC];omega) λy _=>.setI a (by rw[SC,SC];omega) (R0 ⟨rfl,?_⟩)));simp only[SC];omega
 . refine .app (by simp;omega) ?_;refine Tot.bind (ZLE ⟨by show Sized t.1.Disk;rw[ht.1];exact h1,h3,by show s.Changes.length<=_;rw[v];exact TK _⟩) λu G=>Tot.cond (λc=>R0 (b λ_=>⟨rfl,rfl⟩)) λc=>R0 (b λh=>absurd rfl h)
theorem law_SnapRefuses (p:Pool)(id:Int)(h:FitX p):law21_SnapRefuses p id=some true:=by
  unfold law21_SnapRefuses;obtain⟨g,r,t⟩:=ZNo h;rw[ZTX,TA,r,TA];cases g with
  |true=>rfl
  | false =>
    have l:=t rfl;rw[Tr,Rz,TA,Tr];obtain⟨⟨x,e⟩,o,d⟩:=ZQW l id;obtain⟨⟨s,g⟩,hs,u⟩:=ZLE l;obtain⟨⟨q,n,f⟩,v,c⟩:=ZQh o d hs u;rw[o,TA,v,TA,hs,TA];dsimp only at c|-;have w:cond (!(decide (f=0))) (cond (!(decide (n=0))) (some true) (some (!(decide ((q.Lines.length:Int)=0))))) (some false)=some false:=by
      by_cases k:f=0
      . rw[nbeq k];rfl
      . obtain⟨a,i⟩:=c.bad k;rw[nbne k,a,i];rfl
    rw[w,TA,Tr];simp only[Tu];by_cases b:e=0
    . rw [nbeq b,Tr];by_cases a:x.Kind=2
      . rw[TV a,Tu,TV (c.snap b a)];rfl
      . rw[TT a,Tr];have y:=(d b).1.few;have j:decide (16<=(p.Lines.length:Int))=decide ((p.Lines.length:Int)=16):=decide_eq_decide.2 (by omega);rw[j,ZMG,TA];by_cases m:p.Lines.length=16\/255<p.NextId\/4294967293<p.NextGuid
        . rw[TV (show(p.Lines.length:Int)=16\/255<p.NextId\/4294967293<p.NextGuid by rcases m with m|m;exact .inl (by omega);exact .inr m),Tu,TV (c.full b a m)];rfl
        . rw[TT (show¬((p.Lines.length:Int)=16\/255<p.NextId\/4294967293<p.NextGuid)from λh=>m (by rcases h with h|h;exact .inl (by omega);exact .inr h)),Tr];by_cases i:g=0
          . rw[TV i];rfl
          . rw[TT i,Tr,TV (c.sync b a m i)]
    . rw[nbne b,Tu,TV (c.err b)];rfl
theorem ZS3{p:Pool}(k:ZAS p):FitX p:=by
 obtain⟨⟨⟨b,a⟩,-,-⟩,-,-,c,d,e,f,g,-⟩:=k;exact⟨⟨TQ b.1 (by decide),TQ a.1 (by decide),λw h=>(a.2 w h).1⟩,c.1,d.1,e.1,f.1,g.1⟩
end Go.Ow
