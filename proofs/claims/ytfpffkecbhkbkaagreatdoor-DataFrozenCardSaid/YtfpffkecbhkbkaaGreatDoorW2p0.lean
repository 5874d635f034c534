import Derived.Test.YtfpffkecbhkbkaaGreatDoorT2
import Derived.Test.YtfpffkecbhkbkaaGreatDoorOwMf
import Derived.Test.YtfpffkecbhkbkaaGreatDoorOwPgvq
/- walks: what the code computes, function by function. -/
set_option linter.unusedSimpArgs false
set_option linter.unusedVariables false
namespace Go.Proofs.YtfpffkecbhkbkaaGreatDoor
open Go.Ow Go.RowKit Go.Proofs
set_option maxHeartbeats 8000000
theorem ZCL{c d}:Con Tryz.prog 194 true ([.w64 c,.w64 d]) (KU c d) (λr=> [.w64 r.1,.w64 r.2]):=by
 intro H r h;refine Pk Tryz.func194 rfl rfl ?_;intro w;unfold KU at h;refine Run.cl [] 9 ZP rfl (ZB rfl rfl (ZGb (a:=c) (b:=(4294967295:UInt64)) rfl rfl) (R9 [] 6 ZP rfl (ZB rfl rfl (ZA1 (n:=((32:UInt64).toNat:Int)) (a:=c) rfl rfl (by decide)) ?_)));refine R9 [] 6 ZP rfl (ZB rfl rfl (ZGb (a:=d) (b:=(4294967295:UInt64)) rfl rfl) (R9 [] 6 ZP rfl (ZB rfl rfl (ZA1 (n:=((32:UInt64).toNat:Int)) (a:=d) rfl rfl (by decide)) ?_)));refine R9 [] 7 ZP rfl (ZB rfl rfl (ZA2 (a:=c&&&(4294967295:UInt64)) (b:=d&&&(4294967295:UInt64)) rfl rfl) (R9 [] 7 ZP rfl (ZB rfl rfl (ZA2 (a:=sr64 c (((32:UInt64).toNat:Int)).toNat) (b:=d&&&(4294967295:UInt64)) rfl rfl) (ZB rfl rfl (Y3 rfl) (ZB rfl rfl (ZA1 (n:=((32:UInt64).toNat:Int)) (a:=(c&&&(4294967295:UInt64))*(d&&&(4294967295:UInt64))) rfl rfl (by decide)) (ZB rfl rfl (ZD6 (a:=(sr64 c (((32:UInt64).toNat:Int)).toNat)*(d&&&(4294967295:UInt64))) (b:=sr64 ((c&&&(4294967295:UInt64))*(d&&&(4294967295:UInt64))) (((32:UInt64).toNat:Int)).toNat) rfl rfl) ?_))))));refine R9 [] 6 ZP rfl (ZB rfl rfl (ZGb (a:=((sr64 c (((32:UInt64).toNat:Int)).toNat)*(d&&&(4294967295:UInt64)))+(sr64 ((c&&&(4294967295:UInt64))*(d&&&(4294967295:UInt64))) (((32:UInt64).toNat:Int)).toNat)) (b:=(4294967295:UInt64)) rfl rfl) (R9 [] 6 ZP rfl (ZB rfl rfl (ZA1 (n:=((32:UInt64).toNat:Int)) (a:=((sr64 c (((32:UInt64).toNat:Int)).toNat)*(d&&&(4294967295:UInt64)))+(sr64 ((c&&&(4294967295:UInt64))*(d&&&(4294967295:UInt64))) (((32:UInt64).toNat:Int)).toNat)) rfl rfl (by decide)) ?_)));refine R9 [] 8 ZP rfl (ZB rfl rfl (ZA2 (a:=c&&&(4294967295:UInt64)) (b:=sr64 d (((32:UInt64).toNat:Int)).toNat) rfl rfl) (ZB rfl rfl (ZD6 (a:=(((sr64 c (((32:UInt64).toNat:Int)).toNat)*(d&&&(4294967295:UInt64)))+(sr64 ((c&&&(4294967295:UInt64))*(d&&&(4294967295:UInt64))) (((32:UInt64).toNat:Int)).toNat))&&&(4294967295:UInt64)) (b:=(c&&&(4294967295:UInt64))*(sr64 d (((32:UInt64).toNat:Int)).toNat)) rfl rfl) (R9 [] 7 ZP rfl (ZB rfl rfl (ZA2 (a:=sr64 c (((32:UInt64).toNat:Int)).toNat) (b:=sr64 d (((32:UInt64).toNat:Int)).toNat) rfl rfl) (ZB rfl rfl (Y3 rfl) (ZB rfl rfl (ZD6 (a:=(sr64 c (((32:UInt64).toNat:Int)).toNat)*(sr64 d (((32:UInt64).toNat:Int)).toNat)) (b:=sr64 (((sr64 c (((32:UInt64).toNat:Int)).toNat)*(d&&&(4294967295:UInt64)))+(sr64 ((c&&&(4294967295:UInt64))*(d&&&(4294967295:UInt64))) (((32:UInt64).toNat:Int)).toNat)) (((32:UInt64).toNat:Int)).toNat) rfl rfl) (ZB rfl rfl (Y3 rfl) (ZB rfl rfl (ZA1 (n:=((32:UInt64).toNat:Int)) (a:=((((sr64 c (((32:UInt64).toNat:Int)).toNat)*(d&&&(4294967295:UInt64)))+(sr64 ((c&&&(4294967295:UInt64))*(d&&&(4294967295:UInt64))) (((32:UInt64).toNat:Int)).toNat))&&&(4294967295:UInt64))+((c&&&(4294967295:UInt64))*(sr64 d (((32:UInt64).toNat:Int)).toNat))) rfl rfl (by decide)) (ZB rfl rfl (ZD6 (a:=((sr64 c (((32:UInt64).toNat:Int)).toNat)*(sr64 d (((32:UInt64).toNat:Int)).toNat))+(sr64 (((sr64 c (((32:UInt64).toNat:Int)).toNat)*(d&&&(4294967295:UInt64)))+(sr64 ((c&&&(4294967295:UInt64))*(d&&&(4294967295:UInt64))) (((32:UInt64).toNat:Int)).toNat)) (((32:UInt64).toNat:Int)).toNat)) (b:=sr64 (((((sr64 c (((32:UInt64).toNat:Int)).toNat)*(d&&&(4294967295:UInt64)))+(sr64 ((c&&&(4294967295:UInt64))*(d&&&(4294967295:UInt64))) (((32:UInt64).toNat:Int)).toNat))&&&(4294967295:UInt64))+((c&&&(4294967295:UInt64))*(sr64 d (((32:UInt64).toNat:Int)).toNat))) (((32:UInt64).toNat:Int)).toNat) rfl rfl) ?_)))))))));refine R8 [] 3 ZP rfl (ZUS (l':=[(0,.int .u64 (c.toNat:Int)),(1,.int .u64 (d.toNat:Int)),(4,.int .u64 (((((sr64 c (((32:UInt64).toNat:Int)).toNat)*(sr64 d (((32:UInt64).toNat:Int)).toNat))+(sr64 (((sr64 c (((32:UInt64).toNat:Int)).toNat)*(d&&&(4294967295:UInt64)))+(sr64 ((c&&&(4294967295:UInt64))*(d&&&(4294967295:UInt64))) (((32:UInt64).toNat:Int)).toNat)) (((32:UInt64).toNat:Int)).toNat))+(sr64 (((((sr64 c (((32:UInt64).toNat:Int)).toNat)*(d&&&(4294967295:UInt64)))+(sr64 ((c&&&(4294967295:UInt64))*(d&&&(4294967295:UInt64))) (((32:UInt64).toNat:Int)).toNat))&&&(4294967295:UInt64))+((c&&&(4294967295:UInt64))*(sr64 d (((32:UInt64).toNat:Int)).toNat))) (((32:UInt64).toNat:Int)).toNat)).toNat:Int)),(5,.int .u64 ((0:UInt64).toNat:Int))]) (own':=[]) ⟨rfl,rfl,rfl,rfl,trivial⟩ rfl (ZSO (l':=[(0,.int .u64 (c.toNat:Int)),(1,.int .u64 (d.toNat:Int)),(4,.int .u64 (((((sr64 c (((32:UInt64).toNat:Int)).toNat)*(sr64 d (((32:UInt64).toNat:Int)).toNat))+(sr64 (((sr64 c (((32:UInt64).toNat:Int)).toNat)*(d&&&(4294967295:UInt64)))+(sr64 ((c&&&(4294967295:UInt64))*(d&&&(4294967295:UInt64))) (((32:UInt64).toNat:Int)).toNat)) (((32:UInt64).toNat:Int)).toNat))+(sr64 (((((sr64 c (((32:UInt64).toNat:Int)).toNat)*(d&&&(4294967295:UInt64)))+(sr64 ((c&&&(4294967295:UInt64))*(d&&&(4294967295:UInt64))) (((32:UInt64).toNat:Int)).toNat))&&&(4294967295:UInt64))+((c&&&(4294967295:UInt64))*(sr64 d (((32:UInt64).toNat:Int)).toNat))) (((32:UInt64).toNat:Int)).toNat)).toNat:Int)),(5,.int .u64 ((0:UInt64).toNat:Int))]) (own':=[]) (rst:=[]) ⟨rfl,rfl,rfl,rfl,trivial⟩ Ya (Run.cl [] 4 ZP rfl (ZB rfl rfl (ZA2 (a:=c) (b:=d) rfl rfl) (PP [] 4 ZP rfl ?_)))));exact ZK7 [] rfl h rfl rfl
theorem Gn{a b}:Con Tryz.prog 163 true ([.w64 a,.w64 b]) (Qt a b) (λr=> [.w64 r.1,.w64 r.2]):=by
 intro H r h;refine Pk Tryz.func163 rfl rfl ?_;intro w;unfold Qt at h;refine Run.cl [] 14 ZP rfl (ZGf h E194 rfl ZCL rfl trivial ?_);intro c d h;refine PP [] 16 ZP rfl ?_;exact ZK7 [] rfl h rfl rfl
theorem DV (b5:List Int)(z:Int)(H:Heaplet){L:Option Addr}{M:Nat}{N:Nat}(b6:IsSlice H RInt 1 (.slice L M N) b5)(r:List Int)(t:Qe b5 z=some r):
  Does Tryz.prog 131 #[.slice L M N,.int .i64 z] [] H (λu K' H'=>∃J:Option Addr,∃n0:Nat,∃I:Nat,∃U:Own,u=.slice J n0 I∧K'= [U]∧H=H'∧RowOf (New H H) RInt 0 3 1 (.slice J n0 I) r U∧(∀p∈U,p.1∉ids (List.flatten []))∧True):=by
 refine PD (vs:=[.slice L M N,.int .i64 z]) (l:=[(0,.slice L M N),(1,.int .i64 z)]) Tryz.func131 rfl rfl ⟨rfl,rfl,trivial⟩ (λw V=> ?_);unfold Qe at t;refine PF [] 12 ZP rfl (XA t rfl (λc1 t=> ?_) (λc1 t=> ?_))
 ·
  refine Qw ?_;cases t
 ·
  refine PA [] 5 ZP rfl (ZB rfl rfl (Y4 U32 rfl (IsSlice.long b6)) (ZB rfl rfl (Vc U3 U122 rfl) (ZB rfl rfl (Y3 rfl) (ZB rfl rfl (Vc U3 U122 rfl) (ZGf t E163 rfl Gn rfl trivial ?_)))));intro O d5 t;refine R9 [] 11 ZP rfl (ZB rfl rfl (ZD5 (a:=O.1) (b:=(0:UInt64)) rfl rfl) (ZB rfl rfl (Y3 rfl) (ZUd 23 t rfl (λc2 t=> ?_) (λc2 t=> ?_))))
  ·
   refine PO [] 7 ZP rfl ?_;cases t
  ·
   refine PL [] 3 ZP rfl (ZB rfl rfl (ZD5 (a:=O.2) (b:=(9223372036854775807:UInt64)) rfl rfl) (R8 [] 3 ZP rfl (XA t rfl (λc3 t=> ?_) (λc3 t=> ?_))))
   ·
    refine Qw ?_;cases t
   ·
    refine PA [] 5 ZP rfl (ZB rfl rfl (Bo (a:=O.2) U122 U3 rfl) ?_);obtain⟨s,c4,c5,t⟩:=Gm t;refine ZVm (HF:=New H H) (R:=RInt) (y:=0) (n:=w64 (O.2.toNat:Int)) U32 I3 rfl rfl (λ_=>rfl) RInt.one c4 c5 rfl rfl (λd6 d7 W=> ?_);obtain⟨P,Q,rfl⟩:=RowOf.val W;refine R9 [] 7 ZP rfl ?_;obtain⟨d8,c6,c7,t⟩:=Kj t;refine Wx (HF:=(New H H)) (lo:=0) (hi:=(s.length:Int)) 0 U32 S3 rfl W rfl (ZFg W) rfl (CSrc.slice RInt.one (R7 _) b6 (λ_ _ h=>RInt.const _ _ _ _ h)) c7 c6 rfl (λc8 c9=>PN [] 4 ZP rfl (WN t [7] [] rfl rfl (λX l0 Y l o g=>∃S:Own,l=l0∧o=S::Y∧H=g∧RowOf (New H H) RInt w.heap.size 3 1 (.slice P s.length Q) X S) (λX d9 t=> ?_) (λX e0 t=> ?_)))
    ·
     rintro _ _ _ ⟨S,rfl,rfl,rfl,b7⟩;refine PQ [] 8 ZP rfl (YX (vs:=[.slice P s.length Q]) (K:=[_]) (rst:=[]) (.inl rfl) rfl rfl (Yi rfl rfl) (Qd 0 rfl Ya) ?_);obtain rfl:=TK t;exact⟨P,s.length,Q,S,rfl,rfl,rfl,(RowOf.weak (Ti _) b7),(UN b7 V),trivial⟩
    ·
     refine JC.block (Wy [7] [] rfl rfl (λl0 Y d l o g=>∃T:Own,l=(8,.int .i64 d.2)::l0∧o=T::Y∧H=g∧RowOf (New H H) RInt w.heap.size 3 1 (.slice P s.length Q) d.1 T) t ⟨c8,rfl,rfl,rfl,c9⟩ rfl ?_)
     ·
      rintro e1 d _ _ _ ⟨T,rfl,rfl,rfl,f⟩ e2 t Z;unfold Ke at t;refine Run.cl [] 5 ZP rfl (ZB rfl rfl (Y4 U32 rfl (RowOf.long f)) (R8 [] 3 ZP rfl (XA t rfl (λd0 t=> ?_) (λd0 t=> ?_))))
      ·
       refine Pc [] 3 ZP rfl (ZAZ (so:=[(_,[7])]) 10 rfl Mixed ⟨by kernel_rfl,by kernel_rfl⟩ (Uz [0] rfl) ?_);refine JB.run 5 [0,1,2,4,5] [] ZP rfl ?_;obtain⟨q,t⟩:=ZH t;obtain⟨k,t⟩:=ZH t;obtain⟨b8,b9,c0,t⟩:=Kj t;refine JB.two (i:=3) (j:=6) (by kernel_rfl) ?_ ?_
       ·
        refine JOB.step rfl trivial rfl (λK G=> ?_);obtain⟨d1,v,A,B,C,b1,d2⟩:=X7 f q;refine ZB rfl rfl (Xr (cap:=v) (a:=d.2) (b:=(d.1.length:Int)) (c:=(v:Int)) (m:=d.1) (R:=RInt) U32 S3 rfl ⟨_,rfl⟩ rfl (by obtain⟨ao,n,e,_⟩:=A;exact⟨ao,n,e,rfl⟩) ⟨q.1,q.2.1,B⟩ C (.inl rfl)) (JL.nil (G _ _ _ (R7 _) (Uz [0] rfl) ?_));refine JB.one (i:=6) (by kernel_rfl) ?_;refine JOB.step rfl trivial rfl (λK G=> ?_);obtain⟨d3,x,D,E,F,b2,d4⟩:=X7 f k;refine ZB rfl rfl (Xr (cap:=x) (a:=(0:Int)) (b:=d.2) (c:=(x:Int)) (m:=d.1) (R:=RInt) U32 S3 rfl rfl ⟨_,rfl⟩ (by obtain⟨ao,n,e,_⟩:=D;exact⟨ao,n,e,rfl⟩) ⟨k.1,k.2.1,E⟩ F (.inl rfl)) (JL.nil (G _ _ _ (R7 _) (Uz [0] rfl) ?_));refine JB.one (i:=7) (by kernel_rfl) ?_;refine JOB.step rfl trivial rfl (λK G=>Wx (HF:=(New H H)) (lo:=d.2) (hi:=(d.1.length:Int)) 0 U32 S3 rfl f rfl b1 rfl (Pf 0 rfl f b2 k rfl) c0 b9 rfl (λb3 b4=>JL.nil (G _ _ _ (R7 _) (ZHZ [true] [0] (by kernel_rfl) rfl) ?_)));refine JB.run 2 [8,9] [] ZP rfl ?_;refine PW (by kernel_rfl) ?_;refine Br ?_;replace t:=X9 Z t;exact YD ⟨(b8,w64 (d.2+(min ((cut d.1 (0:Int) d.2).length:Int) ((d.1.length:Int)-d.2)))),⟨b3,rfl,rfl,rfl,b4⟩,t⟩ rfl rfl rfl
       ·
        refine JOB.step rfl trivial rfl (λK G=> ?_);obtain⟨d3,x,D,E,F,b2,d4⟩:=X7 f k;refine ZB rfl rfl (Xr (cap:=x) (a:=(0:Int)) (b:=d.2) (c:=(x:Int)) (m:=d.1) (R:=RInt) U32 S3 rfl rfl ⟨_,rfl⟩ (by obtain⟨ao,n,e,_⟩:=D;exact⟨ao,n,e,rfl⟩) ⟨k.1,k.2.1,E⟩ F (.inl rfl)) (JL.nil (G _ _ _ (R7 _) (Uz [0] rfl) ?_));refine JB.one (i:=3) (by kernel_rfl) ?_;refine JOB.step rfl trivial rfl (λK G=> ?_);obtain⟨d1,v,A,B,C,b1,d2⟩:=X7 f q;refine ZB rfl rfl (Xr (cap:=v) (a:=d.2) (b:=(d.1.length:Int)) (c:=(v:Int)) (m:=d.1) (R:=RInt) U32 S3 rfl ⟨_,rfl⟩ rfl (by obtain⟨ao,n,e,_⟩:=A;exact⟨ao,n,e,rfl⟩) ⟨q.1,q.2.1,B⟩ C (.inl rfl)) (JL.nil (G _ _ _ (R7 _) (Uz [0] rfl) ?_));refine JB.one (i:=7) (by kernel_rfl) ?_;refine JOB.step rfl trivial rfl (λK G=>Wx (HF:=(New H H)) (lo:=d.2) (hi:=(d.1.length:Int)) 0 U32 S3 rfl f rfl b1 rfl (Pf 0 rfl f b2 k rfl) c0 b9 rfl (λb3 b4=>JL.nil (G _ _ _ (R7 _) (ZHZ [true] [0] (by kernel_rfl) rfl) ?_)));refine JB.run 2 [8,9] [] ZP rfl ?_;refine PW (by kernel_rfl) ?_;refine Br ?_;replace t:=X9 Z t;exact YD ⟨(b8,w64 (d.2+(min ((cut d.1 (0:Int) d.2).length:Int) ((d.1.length:Int)-d.2)))),⟨b3,rfl,rfl,rfl,b4⟩,t⟩ rfl rfl rfl
      ·
       refine PH [] 2 ZP rfl ?_;obtain rfl:=Q8 Z t;refine PC [] 2 ZP rfl ?_;exact YD ⟨T,rfl,rfl,rfl,f⟩ rfl rfl rfl
theorem ZH0 (d:List Int)(H:Heaplet){ao:Option Addr}{n cap:Nat}(hs:IsSlice H RInt 1 (.slice ao n cap) d)(r:List (List UInt8))(Z:Vu d=some r):
  Does Tryz.prog 103 #[.slice ao n cap] [] H (λu K' H'=>∃U:Option Addr,∃n0:Nat,∃F:Nat,∃K0:Own,u=.slice U n0 F∧K'= [K0]∧H=H'∧Pcs 0 5 26 (.slice U n0 F) r K0∧(∀p∈K0,p.1∉ids (List.flatten []))∧True):=by
 unfold Vu at Z;split at Z
 case isFalse=>cases Z
 rename_i hp;obtain rfl:=TK Z;obtain⟨e,z⟩:∃e,e=d.map Int.toNat:=⟨_,rfl⟩;have G:d=e.map (λn:Nat=>(n:Int)):=by
  rw[z,RZ];have:∀(q:List Int),(∀n∈q,0≤n)→q=q.map ((λn:Nat=>(n:Int))∘Int.toNat):=by
   intro q;induction q with
   |nil=>intro _;rfl
   |cons y q ih=>intro h;rw[Tn,←ih (λn hn=>h n (by simp[hn]))];congr 1;have:=h y (by simp);simp only[Function.comp];omega
  exact this _ hp.1
 have A:e.sum≤LIM:=by rw[z];exact hp.2.1
 have V:e.length≤LIM:=by rw[z,RN];exact hp.2.2
 have W:d.length=e.length:=by rw[z,RN]
 have I:∀i,i<e.length→∃y:Nat,e[i]? =some y∧Nth d (i:Int) (y:Int):=λi hi=>by
  refine⟨e[i],TJ hi,Ri i,?_⟩;rw[G];simp[hi]
 have J:∀i,(e.take i).sum≤e.sum:=λi=>by
  have:=congrArg List.sum (RW i e);rw[List.sum_append]at this;omega
 have v:∀i y,e[i]? =some y→e.take (i+1)=e.take i++ [y]:=λi y h=>by rw[List.take_add_one,h];rfl
 have hL:LIM=1099511627776:=rfl;have hr:(d.map λn=>List.replicate n.toNat (0:UInt8))=e.map λn=>List.replicate n 0:=by rw[G,RZ];rfl
 rw[hr];clear hr;obtain⟨ao,cap,e0⟩:=hs.val;rw[e0]at hs;simp only[e0];rw[W]at hs⊢;refine PD (vs:=[.slice ao e.length cap]) (l:=[(0,.slice ao e.length cap)]) Tryz.func103 rfl rfl ⟨rfl,trivial⟩ (λw hlt=>PF [] 11 ZP rfl ?_)
 -- how many in all
 refine JC.cut (λl o g=>l= [(0,.slice ao e.length cap),(2,.slice none 0 0),(3,.int .i64 ((e.sum:Nat):Int))]∧o= []∧H=g) ?_ ?_
 rotate_left
 ·
  refine Run.cl [] 3 ZP rfl (ZB rfl rfl (Y4 U32 rfl ⟨_,_,rfl⟩) (PN [] 4 ZP rfl (J6 (ι:=Nat) (λi=> [(0,.slice ao e.length cap),(2,.slice none 0 0),(9,.slice ao e.length cap),(10,.int .i64 (e.length:Int)),(3,.int .i64 (((e.take i).sum:Nat):Int)),(11,.int .i64 ((i:Nat):Int))]) (λ_=> []) (λ_=>H) (λi=>i≤e.length) (λi=>e.length-i) 0 (Ti _) ⟨rfl,rfl,rfl,rfl,rfl,rfl,trivial⟩ rfl rfl ?_)));intro i hi;refine PF [] 6 ZP rfl (G8 rfl (λc=> ?_) (λc=> ?_))
  ·
   have t:i<e.length:=(by have:=Ta c;omega);obtain⟨y,hy,hN⟩:=I i t;obtain⟨b1,q1,L,M,N,hl1,O⟩:=IsSlice.elem hs hN;obtain rfl:L= [.int .i64 (y:Int)]:=N;have D:=v i y hy;have hw:w64 ((((e.take i).sum:Nat):Int)+(y:Int))=(((e.take (i+1)).sum:Nat):Int):=by
    have h1:=J (i+1);rw[D,List.sum_append]at h1⊢;simp only[List.sum_cons,List.sum_nil,SR]at h1⊢;rw[Zo (by omega) (by omega)];omega
   refine PA [] 6 ZP rfl (ZB rfl rfl (ZCx U32 S3 rfl rfl M) (ZB rfl rfl (Kr S3 rfl (O 0 _ rfl)) (PO [] 7 ZP rfl ?_)));rw[hw];refine PT [] 5 ZP rfl (ZB rfl rfl (ZFh rfl rfl (Ta c) (by omega)) ?_);refine PE [] 2 ZP rfl (JO (i:=i) (i+1) t (by omega) ⟨rfl,rfl,rfl,rfl,rfl,rfl,trivial⟩ rfl rfl)
  ·
   have P:i=e.length:=(by have:=of_decide_eq_false c;omega);subst P;refine PM [] 4 ZP rfl ?_;rw[RV];exact JN.cut ⟨rfl,rfl,rfl⟩ ⟨rfl,rfl,rfl,trivial⟩ rfl rfl
 rintro _ _ _ ⟨rfl,rfl,rfl⟩;refine PY [] 4 ZP rfl (ZVn U26 I5 rfl rfl A rfl rfl (λhb hhb=>PN [] 4 ZP rfl (JC.cut (λl o g=>∃(x:Option Addr) (Q j:Nat) (S:Own),l= [(2,.slice x Q j)]∧o= [S,[(hb,.cells (bvs (List.replicate e.sum 0)).toArray 5 (0,0))]]∧H=g∧RowOf (λ_ _=>none) (RPc hb) w.heap.size 26 1 (.slice x Q j) (offs 0 e) S) ?_ ?_)))
 rotate_left
 ·
  refine Run.cl [] 3 ZP rfl (ZB rfl rfl (Y4 U32 rfl ⟨_,_,rfl⟩) (ZB rfl rfl (Y3 rfl) (ZUJ (PN [] 3 ZP rfl ?_))));refine J6 (ι:=Nat×Nat×Option Addr×Nat×Nat×Own) (λi=> [(21,.slice ao e.length cap),(22,.int .i64 (e.length:Int)),(2,.slice i.2.2.1 i.2.2.2.1 i.2.2.2.2.1),(6,.slice (some ⟨hb,i.2.1,none⟩) (e.sum-(e.take i.1).sum) (e.sum-(e.take i.1).sum)),(23,.int .i64 ((i.1:Nat):Int))])
   (λi=> [i.2.2.2.2.2,[(hb,.cells (bvs (List.replicate e.sum 0)).toArray 5 (0,0))]]) (λ_=>H)
   (λi=>i.1≤e.length∧(e.sum-(e.take i.1).sum=0∨i.2.1=(e.take i.1).sum)∧RowOf (λ_ _=>none) (RPc hb) w.heap.size 26 1 (.slice i.2.2.1 i.2.2.2.1 i.2.2.2.2.1) (offs 0 (e.take i.1)) i.2.2.2.2.2) (λi=>e.length-i.1) (0,0,none,0,0,[])
   ⟨Ti _,.inr rfl,RowOf.nil _ _ _ _ _⟩ ⟨rfl,rfl,rfl,rfl,rfl,trivial⟩ rfl rfl ?_
  rintro⟨i,s,x,Q,j,S⟩ ⟨hi,E,k⟩;dsimp only at hi E k⊢;refine PF [] 6 ZP rfl (G8 rfl (λc=> ?_) (λc=> ?_))
  ·
   have t:i<e.length:=(by have:=Ta c;omega);obtain⟨y,hy,hN⟩:=I i t;obtain⟨b1,q1,L,M,N,hl1,O⟩:=IsSlice.elem hs hN;obtain rfl:L= [.int .i64 (y:Int)]:=N;have D:=v i y hy;have htot:=J (i+1);have hsm:(e.take (i+1)).sum=(e.take i).sum+y:=(by rw[D,List.sum_append];simp);obtain⟨f,X⟩:∃f,f=e.sum-(e.take i).sum:=⟨_,rfl⟩;rw[←X]at E⊢;have hyr:y≤f:=(by omega);have hcy:y=0∨s=(e.take i).sum:=by
    rcases E with h|h
    ·
     left;omega
    ·
     exact .inr h
   have B:e.sum-(e.take (i+1)).sum=f-y:=(by omega);have e31:Value.slice (some ⟨hb,s,none⟩) y y=sliced (some ⟨hb,s,none⟩) (0:Int).toNat (y:Int).toNat (y:Int).toNat 1:=by
    unfold sliced;simp only[Tl,R1,Nat.sub_zero,RG,Nat.zero_mul,add_lit,SR];split<;>rfl
   obtain⟨s2,hs2,e36⟩:∃s2,(f-y=0∨s2=(e.take (i+1)).sum)∧Value.slice (some ⟨hb,s2,none⟩) (f-y) (f-y)=sliced (some ⟨hb,s,none⟩) (y:Int).toNat (f:Int).toNat (f:Int).toNat 1:=by
    unfold sliced;simp only[Tl,RG,add_lit,Sh];by_cases h:f=y
    ·
     exact⟨s,.inl (by omega),by rw[TH h]⟩
    ·
     refine⟨s+y,.inr ?_,by rw[TF h]⟩;rcases E with h'|h'<;>omega
   have hq:offs 0 (e.take (i+1))=offs 0 (e.take i)++ [((e.take i).sum,y)]:=(by rw[D,ZE6];simp[offs]);have hll:(offs 0 (e.take i)).length+ [((e.take i).sum,y)].length≤LIM:=(by rw[Df,TO];simp only[Tg,SY];omega);refine PA [] 6 ZP rfl (ZB rfl rfl (ZCx U32 S3 rfl rfl M) (ZB rfl rfl (Kr S3 rfl (O 0 _ rfl)) (R9 [] 9 ZP rfl (ZB rfl rfl (Xr (cap:=f) (a:=0) (b:=(y:Int)) (c:=(y:Int)) (m:=List.replicate f (0:UInt8)) (R:=RU8) (v':=.slice (some ⟨hb,s,none⟩) y y) U26 S5 rfl rfl ⟨_,rfl⟩ ⟨_,rfl⟩ ⟨SE _,by omega,SE _⟩ ⟨some ⟨hb,s,none⟩,by rw[SF],by omega,e31⟩ (.inr (λh=>by cases h))) (WM (HF:=λ_ _=>none) (R:=RPc hb) (ls:=[((e.take i).sum,y)]) (vs:=[.slice (some ⟨hb,s,none⟩) y y]) U22 I26 rfl rfl (⟨_,_,rfl,rfl,⟨s,rfl,hcy⟩,rfl⟩) (RPc.one hb) rfl rfl rfl (by simp[maxLen]) rfl (λv3 K3 h3=> ?_))))));obtain⟨ao3,cap3,rfl⟩:=RowOf.val h3;refine ZD9 (HF:=λ_ _=>none) 1 U22 I26 rfl rfl k rfl (SrcF.row 0 U22 rfl h3) hq hll rfl (TL _) rfl (λv4 K4 h4=> ?_);obtain⟨ao4,Y,rfl⟩:=RowOf.val h4;refine PO [] 6 ZP rfl (ZB rfl rfl (Xr (cap:=f) (a:=(y:Int)) (b:=(f:Int)) (c:=(f:Int)) (m:=List.replicate f (0:UInt8)) (R:=RU8) (v':=.slice (some ⟨hb,s2,none⟩) (f-y) (f-y)) U26 S5 rfl ⟨_,rfl⟩ (by simp) ⟨some ⟨hb,s,none⟩,f,rfl,rfl⟩ ⟨by omega,by omega,SE _⟩ ⟨some ⟨hb,s,none⟩,by rw[SF],by omega,e36⟩ (.inl rfl)) ?_);refine PT [] 5 ZP rfl (ZB rfl rfl (ZFh rfl rfl (Ta c) (by omega)) ?_);refine PE [] 2 ZP rfl (JN.forget 0 (JO (i:=(i,s,x,Q,j,S)) (i+1,s2,ao4,_,Y,K4) ⟨t,by dsimp only;rw[B];exact hs2,h4⟩ (by dsimp only;omega) ⟨rfl,rfl,rfl,by dsimp only;rw[B];rfl,rfl,trivial⟩ rfl rfl))
  ·
   have P:i=e.length:=(by have:=of_decide_eq_false c;omega);subst P;refine PM [] 4 ZP rfl ?_;rw[RV]at k;exact JN.cut ⟨_,_,_,_,rfl,rfl,rfl,k⟩ ⟨rfl,trivial⟩ rfl rfl
 rintro _ _ _ ⟨x,Q,j,S,rfl,rfl,rfl,k⟩;refine PQ [] 2 ZP rfl (YX (vs:=[.slice x Q j]) (K:=[S++ [(hb,.cells (bvs (List.replicate e.sum 0)).toArray 5 (0,0))]]) (rst:=[]) (.inl rfl) rfl rfl (Yi rfl rfl) (by simp) ?_);have C:(e.map λn=>List.replicate n (0:UInt8)).flatten=List.replicate e.sum 0:=by
  clear I v J hs k G z W A V;induction e with
  |nil=>rfl
  |cons y r ih=>rw[Tn,Tc,ih,List.sum_cons,List.replicate_append_replicate]
 have T:lens (e.map λn=>List.replicate n (0:UInt8))=e:=by unfold lens;rw[RZ];simp[Function.comp_def]
 refine⟨x,Q,j,_,rfl,rfl,rfl,⟨hb,S,?_,Ti _,?_,?_⟩,(λp hp hm=>by cases hm),trivial⟩
 ·
  rw[C]
 ·
  rw[C,SF];exact QT A
 ·
  rw[T];exact RowOf.weak (Ti _) k
theorem ZOC (H:Heaplet)(r:Disk)(g:Us=some r):
  Does Tryz.prog 79 #[] [] H (λu K' E=>∃n:Option Addr,∃D:Nat,∃e:Nat,∃B:Own,∃o:Option Addr,∃t:Nat,u=.agg #[.slice n D e,.slice o t t]∧K'= [B]∧Pcs 0 5 26 (.slice n D e) r.Blocks B∧(∀p∈B,p.1∉ids (List.flatten []))∧IsSlice (New H E) R_Write 2 (.slice o t t) r.Waits∧True):=by
 refine PD (vs:=[]) (l:=[]) Tryz.func79 rfl rfl trivial (λw C=> ?_);unfold Us at g;refine Run.cl [] 2 ZP rfl (JL.alloc Z25 rfl (λI J=>R9 [] 4 ZP rfl (WM (HF:=(New H H)) (R:=RInt) (ls:=[256]) (vs:=[.int .i64 256]) U32 I3 rfl rfl (⟨_,_,rfl,rfl,rfl,rfl⟩) RInt.one rfl rfl rfl (by simp[maxLen]) rfl (λL M c=> ?_))));obtain⟨N,O,rfl⟩:=RowOf.val c;obtain⟨i,j,g⟩:=Ze g;refine G6 (vs:=[_,_]) E131 rfl rfl (λP k m=>DV ([256]) 256 _ (Pr 0 m RInt.mono k rfl (c.old RInt.mono)) _ j) rfl (λ_ _ _ _ q s=> ?_);obtain⟨Q,S,T,U,rfl,rfl,rfl,b,-,-⟩:=q;replace b:=RowOf.base (Kq (H2:=New H H) RInt.const b) (λp A=>s p (KO 0 rfl A));refine JL.pubN 0 RInt.mono rfl b (TL _) (λV W v=>JL.forget 0 ?_);obtain⟨X,x,g⟩:=Ze g;refine G7 (vs:=[_]) (args:=[_]) (K:=[]) (rst:=[_,_]) E103 rfl rfl rfl Ya (ZH0 i _ (v.old RInt.mono) _ x) rfl (λY Z b8 y b9 z=> ?_);obtain⟨d,f,h,F,rfl,rfl,rfl,a,G,-⟩:=y;replace a:=(Pcs.base a (λp A=>(z p (KO 0 rfl A)).resolve_left (G p A)));refine PP [2] 5 ZP rfl (YX (vs:=[.agg #[.slice d f h,.slice none 0 0]]) (K:=[_]) (rst:=[_,_]) (.inl rfl) rfl rfl (ZA0 2 rfl rfl S25 rfl) (Qd 0 rfl Ya) ?_);obtain rfl:=TK g;exact⟨d,f,h,F,none,0,rfl,rfl,(Pcs.weak (Ti _) a),(ZHI a C),(IsSlice.nil _ _ _),trivial⟩
theorem ZID (b:List UInt8)(H:Heaplet){ao:Option Addr}{n cap:Nat}(hs:IsSlice H RU8 1 (.slice ao n cap) b)(r:List UInt8)(h:og_bytes_Clone b=some r):
  Does Tryz.prog 26 #[.slice ao n cap] [] H (λu K' k=>∃d:Option Addr,∃m:Nat,∃c:Nat,∃g:Own,u=.slice d m c∧K'= [g]∧H=k∧RowOf (New H k) RU8 0 5 1 (.slice d m c) r g∧(∀p∈g,p.1∉ids (List.flatten []))∧True):=by
 rw[og_bytes_Clone.eq_1]at h;obtain⟨q,i,s,h⟩:=QF h;obtain rfl:=TK h;refine Does.enter (vs:=[.slice ao n cap]) (l:=[(0,.slice ao n cap)]) Tryz.func26 rfl rfl ⟨rfl,trivial⟩ (λw=>Run.cl [] 9 ZP rfl (ZB rfl rfl (JM U26 rfl rfl) (R8 [] 2 ZP rfl ?_)));cases ao with
 |none=>
  have f:=hs.none_nil;subst f;simp only[Tu]at i;subst i;refine PH [] 8 ZP rfl (ZA3 (YX (vs:=[.slice none 0 0]) (K:=[_]) (rst:=[]) (.inl rfl) rfl rfl (Yi rfl rfl) (Qd 0 rfl Ya) ?_));exact⟨none,0,0,[],rfl,rfl,rfl,RowOf.nil _ _ _ _ _,(λp f=>by cases f),trivial⟩
 |some a=>
  refine PA [] 5 ZP rfl (WM (HF:=New H H) (R:=RU8) (ls:=[]) (vs:=[]) U26 I5 rfl rfl rfl RU8.one rfl rfl rfl (by simp[maxLen]) rfl (λx y h1=> ?_));obtain⟨t,o,rfl⟩:=RowOf.val h1;refine ZB rfl rfl (Y3 rfl) (ZD9 (HF:=New H H) 0 U26 I5 rfl rfl h1 rfl (P7 RU8.const RU8.one U26 hs) i s rfl (TL _) rfl (λz K2 h2=> ?_));obtain⟨j,e,rfl⟩:=RowOf.val h2;refine PP [] 4 ZP rfl (YX (vs:=[.slice j _ e]) (K:=[_]) (rst:=[]) (.inl rfl) rfl rfl (Yi rfl rfl) (Qd 0 rfl Ya) ?_);exact⟨_,_,_,_,rfl,rfl,rfl,RowOf.weak (Ti _) h2,(λp f v=>by cases v),trivial⟩
theorem ZFJ (b9:Disk)(H:Heaplet){y:Option Addr}{z:Nat}{G:Nat}{I:Option Addr}{J:Nat}{L:Nat}(a:IsSlice H (RSl RU8 1) 1 (.slice y z G) b9.Blocks)(c0:IsSlice H R_Write 2 (.slice I J L) b9.Waits)(r:Disk)(e:Xm b9=some r):
  Does Tryz.prog 71 #[.agg #[.slice y z G,.slice I J L]] [] H (λu K' H'=>∃C:Option Addr,∃n0:Nat,∃t:Nat,∃K0:Own,∃D:Option Addr,∃n1:Nat,∃A:Nat,∃K1:Own,u=.agg #[.slice C n0 t,.slice D n1 A]∧K'= [K0,K1]∧Pcs 0 5 26 (.slice C n0 t) r.Blocks K0∧(∀p∈K0,p.1∉ids (List.flatten []))∧RowOf (New H H') R_Write 0 105 2 (.slice D n1 A) r.Waits K1∧(∀p∈K1,p.1∉ids (List.flatten []))∧True):=by
 refine PD (vs:=[.agg #[.slice y z G,.slice I J L]]) (l:=[(0,.agg #[.slice y z G,.slice I J L])]) Tryz.func71 rfl rfl ⟨rfl,trivial⟩ (λw E=> ?_);unfold Xm at e;refine Run.cl [] 2 ZP rfl (ZLA rfl rfl (λk0 k1=>JL.alloc Z25 rfl (λd4 k2=>R9 [1] 12 ZP rfl (ZB rfl rfl (Y4 U22 rfl (IsSlice.long a)) (R8 [] 3 ZP rfl (WN e [1,2] [1,0] rfl rfl (λM l0 n l o g=>∃c1:Option Addr,∃c2:Nat,∃c3:Nat,∃c4:Own,l=(3,.slice c1 c2 c3)::l0∧o=c4::n∧H=g∧RowOf (New H H) RInt w.heap.size 3 1 (.slice c1 c2 c3) M c4) (λM k3 e=> ?_) (λM k4 e=> ?_)))))))
 ·
  rintro _ _ _ ⟨c1,c2,c3,c4,rfl,rfl,rfl,f7⟩;refine PY [] 4 ZP rfl (JL.pubN 0 RInt.mono rfl f7 (TL _) (λj d5 f8=>JL.forget 0 ?_));obtain⟨k5,f9,e⟩:=Ze e;refine G7 (vs:=[_]) (args:=[_]) (K:=[]) (rst:=[_,_]) E103 rfl rfl rfl Ya (ZH0 M _ (f8.old RInt.mono) _ f9) rfl (λk6 k7 k8 g0 k9 g1=> ?_);obtain⟨b,c,d,g2,rfl,rfl,rfl,c5,g3,-⟩:=g0;replace c5:=(Pcs.base c5 (λp F=>(g1 p (KO 0 rfl F)).resolve_left (g3 p F)));refine R9 [2,1] 9 ZP rfl (ZB rfl rfl (Y4 U22 rfl (IsSlice.long a)) (R8 [] 3 ZP rfl (WN e [1,2] [1,2] rfl rfl (λc6 l0 n l o g=>∃N:Own,l=l0∧o=N::n∧j=g∧Pcs w.heap.size 5 26 (.slice b c d) c6 N) (λc6 l1 e=> ?_) (λc6 l2 e=> ?_))))
  ·
   rintro _ _ _ ⟨N,rfl,rfl,rfl,d6⟩;refine PY [1] 6 ZP rfl (ZB rfl rfl (Y4 U23 rfl (IsSlice.long c0)) (R8 [] 3 ZP rfl (WN e [2] [0] rfl rfl (λc7 l0 n l o g=>∃O:Heaplet,∃k:Option Addr,∃m:Nat,∃q:Nat,∃P:Own,l=l0∧o= [(d4,.cells #[.slice b c d,.slice k m q] 25 (0,0))]::P::n∧O=g∧Hle j O∧RowOf (New H O) R_Write w.heap.size 105 2 (.slice k m q) c7 P) (λc7 l3 e=> ?_) (λc7 l4 e=> ?_))))
   ·
    rintro _ _ _ ⟨O,k,m,q,P,rfl,rfl,rfl,l5,d7⟩;refine PQ [] 2 ZP rfl (YX (vs:=[.agg #[.slice b c d,.slice k m q]]) (K:=[_,_]) (rst:=[_]) (.inl rfl) rfl rfl (ZA0 0 rfl rfl S25 rfl) (Qd 2 rfl (Qd 1 rfl Ya)) ?_);obtain rfl:=TK e;exact⟨b,c,d,N,k,m,q,P,rfl,rfl,(Pcs.weak (Ti _) d6),(ZHI d6 E),(RowOf.weak (Ti _) d7),(UN d7 E),trivial⟩
   ·
    refine JC.block (ZPR (JC.forget 2 (QG 1 rfl (QG 1 rfl (QG 2 rfl (Wy [2,43,44] [2] rfl rfl (λl0 n Q l o g=>∃f:Heaplet,∃S:Option Addr,∃T:Nat,∃U:Nat,∃V:Own,l=(45,.int .i64 ((Q.2:Nat):Int))::l0∧o= [(d4,.cells #[.slice b c d,.slice S T U] 25 (0,0))]::V::n∧f=g∧Hle j f∧RowOf (New H f) R_Write w.heap.size 105 2 (.slice S T U) Q.1 V) e ⟨j,none,0,0,[],rfl,rfl,rfl,(R7 _),(RowOf.nil _ _ _ _ _)⟩ rfl ?_))))))
    ·
     rintro l6 Q _ _ _ ⟨f,S,T,U,V,rfl,rfl,rfl,c8,d8⟩ l7 e d9;unfold Qg at e;refine PF [] 6 ZP rfl (XA e rfl (λe0 e=> ?_) (λe0 e=> ?_))
     ·
      refine PA [] 6 ZP rfl ?_;obtain⟨s,g4,e⟩:=Yb e;obtain⟨l8,l9,m0,g5,g6,m1,g7⟩:=IsSlice.elem (c0.mono R_Write.mono (d5.trans c8)) g4;obtain⟨m2,rfl,e1⟩:=g6;obtain⟨m3,m4,rfl⟩:=IsSlice.val e1;refine ZB rfl rfl (ZCx U23 S105 rfl rfl g5) (ZB rfl rfl (ZON 0 S105 rfl g7 rfl rfl) (JL.alloc Z105 rfl (λm5 m6=>R8 [0] 3 ZP rfl (ZAZ (so:=[(_,[]),(_,[9,11]),(_,[9]),(_,[])]) 12 rfl Mixed ⟨by kernel_rfl,by kernel_rfl⟩ (Uz [0,1,2,3] rfl) ?_))));refine JB.val (i:=0) [] rfl (ZM4 F25_1 rfl) ?_;refine JB.val (i:=1) [9,10,11] rfl (ZJq 1 S23 rfl rfl rfl) ?_;refine JB.run 4 [2,3,4,5] [0,0] ZP rfl ?_;refine JB.one (i:=6) (by kernel_rfl) ?_;refine JOB.step rfl trivial rfl (λK B=> ?_);obtain⟨g8,g9,e⟩:=Ze e;refine G7 (vs:=[_]) (args:=[_]) (K:=[]) (rst:=[_,_,_,_]) E26 rfl rfl rfl Ya (ZID s.Data _ e1 _ g9) rfl (λm7 m8 m9 h0 n2 h1=> ?_);obtain⟨c9,d0,d1,n3,rfl,rfl,rfl,d2,h2,-⟩:=h0;replace d2:=(RowOf.base (Kq (H2:=New H f) RU8.const d2) (λp F=>(h1 p (KO 0 rfl F)).resolve_left (h2 p F)));refine JL.nil (B _ _ _ (R7 _) (Uz [1,2,3,4] rfl) ?_);refine JB.val (i:=7) [] rfl (ZK6 (vs:=[(0,.int .i64 s.At),(1,.slice c9 d0 d1)]) (cs:=[.int .i64 s.At,.slice c9 d0 d1]) Z105 B105 rfl rfl rfl) ?_;refine JB.one (i:=8) (by kernel_rfl) ?_;refine JOB.step rfl trivial rfl (λK B=>JL.pubN 0 RU8.mono rfl d2 (TL _) (λd3 v h3=>JL.forget 0 (WM (HF:=(New H d3)) (R:=R_Write) (ls:=[Write.mk s.At g8]) (vs:=[.agg #[.int .i64 s.At,.slice c9 d0 d1]]) U23 I105 rfl rfl (⟨_,_,rfl,rfl,⟨_,rfl,h3⟩,rfl⟩) R_Write.one rfl rfl rfl (by simp[maxLen]) rfl (λn4 n5 e2=> ?_))));obtain⟨n6,n7,rfl⟩:=RowOf.val e2;refine JL.nil (B _ _ _ v (Uz [1,2,3,4] rfl) ?_);refine JB.one (i:=9) (by kernel_rfl) ?_;refine JOB.step rfl trivial rfl (λK B=> ?_);obtain⟨e3,h4,h5,e⟩:=QF e;refine ZD9 (HF:=(New H d3)) 3 U23 I105 rfl rfl (d8.mono R_Write.mono (New.mono v)) rfl (SrcF.row 0 U23 rfl e2) h4 h5 rfl (TL _) rfl (λn8 h6 e4=> ?_);obtain⟨h7,h8,rfl⟩:=RowOf.val e4;refine JL.nil (B _ _ _ v (ZHZ [false,true,true,false] [1,0,0,4] (by kernel_rfl) rfl) ?_);refine JB.val (i:=10) [] rfl (ZM4 F25_1 rfl) ?_;refine JB.one (i:=11) (by kernel_rfl) ?_;refine JOB.step rfl trivial rfl (λK B=>PE [2] 2 ZP rfl (B _ _ _ v (ZHZ [false,true,true,false] [1,0,0,4] (by kernel_rfl) rfl) ?_));refine PW (by kernel_rfl) ?_;refine OC [] 3 ZP rfl (ZB rfl rfl (ZFh rfl rfl (Ta e0) (IsSlice.lenI c0)) (PE [] 2 ZP rfl ?_));replace e:=X9 d9 e;refine JN.forget 1 (JN.forget 0 (Zm 2 rfl (Zm 2 rfl (Zm 2 rfl ?_))));exact YD ⟨(e3,Q.2+1),⟨d3,h7,e3.length,h8,h6,rfl,rfl,rfl,((c8.trans v)),e4⟩,e⟩ rfl rfl rfl
     ·
      refine PH [] 2 ZP rfl ?_;obtain rfl:=Q8 d9 e;refine PC [] 2 ZP rfl (Zm 2 rfl (Zm 2 rfl (Zm 2 rfl ?_)));exact YD ⟨f,S,T,U,V,rfl,rfl,rfl,(c8),d8⟩ rfl rfl rfl
  ·
   refine JC.block (QG 2 rfl (QG 2 rfl (QG 2 rfl (Wy [1,2,27,28] [1,2] rfl rfl (λl0 n W l o g=>∃x:Own,l=(29,.int .i64 ((W.2:Nat):Int))::l0∧o=x::n∧j=g∧Pcs w.heap.size 5 26 (.slice b c d) W.1 x) e ⟨g2,rfl,rfl,rfl,c5⟩ rfl ?_))))
   ·
    rintro n9 W _ _ _ ⟨x,rfl,rfl,rfl,h⟩ o1 e e5;unfold Qh at e;refine PF [] 6 ZP rfl (XA e rfl (λe6 e=> ?_) (λe6 e=> ?_))
    ·
     refine PA [] 7 ZP rfl ?_;obtain⟨o2,h9,e⟩:=Yb e;obtain⟨o3,o4,o5,i0,i1,o6,i2⟩:=IsSlice.elem (a.mono (RSl.mono RU8.mono) d5) h9;obtain⟨o7,rfl,e7⟩:=i1;obtain⟨o8,o9,rfl⟩:=IsSlice.val e7;refine ZB rfl rfl (ZCx U22 S26 rfl rfl i0) (ZB rfl rfl (Kr S26 rfl (i2 0 _ rfl)) (PO [2] 8 ZP rfl ?_));obtain⟨p0,e8,e⟩:=Yb e;obtain⟨p1,p2,p3,p4,i3,i4,i5,i6⟩:=Pcs.at h e8;refine ZB rfl rfl (ZCx U22 S26 rfl rfl i3) (ZB rfl rfl (R.ldM 0 S26 rfl rfl i4 i5) (ZB rfl rfl (Y3 rfl) ?_));obtain⟨i7,e⟩:=ZH e;obtain⟨i8,i9,p5,e⟩:=ZAg e;refine ZSK 0 U26 S5 rfl h e8 i6 rfl rfl (R7 _) e7 i7 rfl (λj0 e9=> ?_);rw[←i9]at e9;refine PT [] 4 ZP rfl (ZB rfl rfl (ZFh rfl rfl (Ta e6) (IsSlice.lenI a)) (PE [] 2 ZP rfl ?_));replace e:=X9 e5 e;refine Zm 2 rfl (Zm 2 rfl (Zm 2 rfl ?_));exact YD ⟨(i8,W.2+1),⟨j0,rfl,rfl,rfl,e9⟩,e⟩ rfl rfl rfl
    ·
     refine PH [] 2 ZP rfl ?_;obtain rfl:=Q8 e5 e;refine PC [] 2 ZP rfl (Zm 2 rfl (Zm 2 rfl (Zm 2 rfl ?_)));exact YD ⟨x,rfl,rfl,rfl,h⟩ rfl rfl rfl
 ·
  refine JC.block (ZPR (QG 1 rfl (QG 2 rfl (QG 2 rfl (Wy [1,2,11,12] [1,2] rfl rfl (λl0 n X l o g=>∃Y:Option Addr,∃Z:Nat,∃b7:Nat,∃b8:Own,l=(3,.slice Y Z b7)::(13,.int .i64 ((X.2:Nat):Int))::l0∧o=b8::n∧H=g∧RowOf (New H H) RInt w.heap.size 3 1 (.slice Y Z b7) X.1 b8) e ⟨none,0,0,[],rfl,rfl,rfl,(RowOf.nil _ _ _ _ _)⟩ rfl ?_)))))
  ·
   rintro p6 X _ _ _ ⟨Y,Z,b7,b8,rfl,rfl,rfl,f0⟩ p7 e f1;unfold Qi at e;refine PF [] 6 ZP rfl (XA e rfl (λf2 e=> ?_) (λf2 e=> ?_))
   ·
    refine PA [] 6 ZP rfl ?_;obtain⟨f3,j1,e⟩:=Yb e;obtain⟨p8,p9,q0,j2,j3,q1,j4⟩:=IsSlice.elem a j1;obtain⟨q2,rfl,f4⟩:=j3;obtain⟨q3,q4,rfl⟩:=IsSlice.val f4;refine ZB rfl rfl (ZCx U22 S26 rfl rfl j2) (ZB rfl rfl (Kr S26 rfl (j4 0 _ rfl)) (PO [] 6 ZP rfl (ZB rfl rfl (Y4 U26 rfl (IsSlice.long f4)) (WM (HF:=(New H H)) (R:=RInt) (ls:=[(f3.length:Int)]) (vs:=[.int .i64 (f3.length:Int)]) U32 I3 rfl rfl (⟨_,_,rfl,rfl,rfl,rfl⟩) RInt.one rfl rfl rfl (by simp[maxLen]) rfl (λq5 x h=> ?_)))));obtain⟨q6,q7,rfl⟩:=RowOf.val h;obtain⟨f5,j5,j6,e⟩:=QF e;refine ZD9 (HF:=(New H H)) 1 U32 I3 rfl rfl f0 rfl (SrcF.row 0 U32 rfl h) j5 j6 rfl (TL _) rfl (λq8 j7 f6=> ?_);obtain⟨j8,j9,rfl⟩:=RowOf.val f6;refine PT [] 5 ZP rfl (ZB rfl rfl (ZFh rfl rfl (Ta f2) (IsSlice.lenI a)) (PE [] 2 ZP rfl ?_));replace e:=X9 f1 e;refine JN.forget 0 (Zm 2 rfl (Zm 2 rfl (Zm 2 rfl ?_)));exact YD ⟨(f5,X.2+1),⟨j8,f5.length,j9,j7,rfl,rfl,rfl,f6⟩,e⟩ rfl rfl rfl
   ·
    refine PH [] 2 ZP rfl ?_;obtain rfl:=Q8 f1 e;refine PC [] 2 ZP rfl (Zm 2 rfl (Zm 2 rfl (Zm 2 rfl ?_)));exact YD ⟨Y,Z,b7,b8,rfl,rfl,rfl,f0⟩ rfl rfl rfl
theorem BB (b:List (List UInt8))(H:Heaplet){ao:Option Addr}{n cap:Nat}(hs:IsSlice H (RSl RU8 1) 1 (.slice ao n cap) b)(r:List (List UInt8))(h:og_slices_Clone_byte_L b=some r):
  Does Tryz.prog 65 #[.slice ao n cap] [] H (λu K' k=>∃d:Option Addr,∃m:Nat,∃c:Nat,∃g:Own,u=.slice d m c∧K'= [g]∧H=k∧RowOf k (RSl RU8 1) 0 26 1 (.slice d m c) r g∧(∀p∈g,p.1∉ids (List.flatten []))∧True):=by
 rw[og_slices_Clone_byte_L.eq_1]at h;obtain⟨q,i,s,h⟩:=QF h;obtain rfl:=TK h;refine Does.enter (vs:=[.slice ao n cap]) (l:=[(0,.slice ao n cap)]) Tryz.func65 rfl rfl ⟨rfl,trivial⟩ (λw=>Run.cl [] 9 ZP rfl (ZB rfl rfl (JM U22 rfl rfl) (R8 [] 2 ZP rfl ?_)));cases ao with
 |none=>
  have f:=hs.none_nil;subst f;simp only[Tu]at i;subst i;refine PH [] 8 ZP rfl (ZA3 (YX (vs:=[.slice none 0 0]) (K:=[_]) (rst:=[]) (.inl rfl) rfl rfl (Yi rfl rfl) (Qd 0 rfl Ya) ?_));exact⟨none,0,0,[],rfl,rfl,rfl,RowOf.nil _ _ _ _ _,(λp f=>by cases f),trivial⟩
 |some a=>
  refine PA [] 5 ZP rfl (WM (HF:=H) (R:=(RSl RU8 1)) (ls:=[]) (vs:=[]) U22 I26 rfl rfl rfl RSl.one rfl rfl rfl (by simp[maxLen]) rfl (λx y h1=> ?_));obtain⟨t,o,rfl⟩:=RowOf.val h1;refine ZB rfl rfl (Y3 rfl) (ZD9 (HF:=H) 0 U22 I26 rfl rfl h1 rfl (SrcF.slice RSl.one U22 (R7 _) hs) i s rfl (TL _) rfl (λz K2 h2=> ?_));obtain⟨j,e,rfl⟩:=RowOf.val h2;refine PP [] 4 ZP rfl (YX (vs:=[.slice j _ e]) (K:=[_]) (rst:=[]) (.inl rfl) rfl rfl (Yi rfl rfl) (Qd 0 rfl Ya) ?_);exact⟨_,_,_,_,rfl,rfl,rfl,RowOf.weak (Ti _) h2,(λp f v=>by cases v),trivial⟩
theorem ZOB{a}:Con Tryz.prog 125 true ([.i a]) (ZCD a) (λr=> [.b r]):=by
 intro H r h;refine Pk Tryz.func125 rfl rfl ?_;intro w;unfold ZCD at h;refine Run.cnz [] 11 ZP rfl ?_;exact ZK7 [] rfl h rfl rfl
theorem ZKj (y:Disk)(H:Heaplet){m:Value}{c:Option Addr}{d:Nat}{f:Nat}(h:IsSlice H R_Write 2 (.slice c d f) y.Waits)(r:(List (Int×Write)))(e:VI y=some r):
  Does Tryz.prog 159 #[.agg #[m,.slice c d f],.func (.func 125) #[] #[]] [] H (λu K' E=>∃F:Option Addr,∃B:Nat,∃C:Nat,∃n:Own,u=.map (some B)∧K'= [n]∧H=E∧MapOf H R_Write 0 B r n∧(∀p∈n,p.1∉ids (List.flatten []))∧True):=by
 refine PD (vs:=[.agg #[m,.slice c d f],.func (.func 125) #[] #[]]) (l:=[(0,.agg #[m,.slice c d f]),(1,.func (.func 125) #[] #[])]) Tryz.func159 rfl rfl ⟨rfl,rfl,trivial⟩ (λw t=> ?_);unfold VI at e;refine Run.cl [] 2 ZP rfl (ZLA rfl rfl (λT U=>R9 [] 5 ZP rfl (ZQD (New H H) R_Write rfl (λi G I=>R9 [1] 8 ZP rfl (ZB rfl rfl (Y4 U23 rfl (IsSlice.long h)) (R8 [] 3 ZP rfl (WN e [5] [] rfl rfl (λq l0 A l o g=>∃j:Own,l=l0∧o=j::A∧H=g∧MapOf H R_Write w.heap.size i q j) (λq V e=> ?_) (λq W e=> ?_))))))))
 ·
  rintro _ _ _ ⟨j,rfl,rfl,rfl,z⟩;refine PQ [] 8 ZP rfl (YX (vs:=[.map (some i)]) (K:=[_]) (rst:=[]) (.inl rfl) rfl rfl (Yi rfl rfl) (Qd 0 rfl Ya) ?_);obtain rfl:=TK e;exact⟨none,i,0,j,rfl,rfl,rfl,(MapOf.weak (Ti _) z),(ZQ7 z t),trivial⟩
 ·
  refine JC.block (JC.forget 1 (Wy [1,5,10,11] [] rfl rfl (λl0 A a l o g=>∃b:Own,l=(12,.int .i64 ((a.2:Nat):Int))::l0∧o=b::A∧H=g∧MapOf H R_Write w.heap.size i a.1 b) e ⟨G,rfl,rfl,rfl,(I.old R_Write.mono)⟩ rfl ?_))
  ·
   rintro X a _ _ _ ⟨b,rfl,rfl,rfl,s⟩ Y e v;unfold KN at e;refine PF [] 6 ZP rfl (XA e rfl (λx e=> ?_) (λx e=> ?_))
   ·
    refine PA [] 7 ZP rfl ?_;obtain⟨k,J,e⟩:=Yb e;obtain⟨b8,Z,c0,L,M,c1,N⟩:=IsSlice.elem h J;obtain⟨c2,rfl,D⟩:=M;obtain⟨O,P,rfl⟩:=IsSlice.val D;refine ZB rfl rfl (ZCx U23 S105 rfl rfl L) (ZB rfl rfl (ZON 0 S105 rfl N rfl rfl) (JL.alloc Z105 rfl (λc3 c4=>R9 [0] 8 ZP rfl (ZGf e E125 rfl ZOB rfl trivial ?_))));intro c5 c6 e;refine R8 [] 2 ZP rfl (XA e rfl (λQ e=> ?_) (λQ e=> ?_))
    ·
     refine Ps [0,0] 5 ZP rfl (ZOQ 1 (cs:=[.int .i64 k.At,.slice O k.Data.length P]) U217 U3 rfl rfl rfl rfl s ⟨_,rfl,D⟩ (λR S=>PT [] 4 ZP rfl (ZB rfl rfl (ZFh rfl rfl (Ta x) (IsSlice.lenI h)) (PE [] 2 ZP rfl ?_))));replace e:=X9 v e;refine JN.forget 0 ?_;exact YD ⟨((putM a.1 k.At k),a.2+1),⟨R,rfl,rfl,rfl,S⟩,e⟩ rfl rfl rfl
    ·
     refine OB [] 4 ZP rfl (ZB rfl rfl (ZFh rfl rfl (Ta x) (IsSlice.lenI h)) (PE [] 2 ZP rfl ?_));replace e:=X9 v e;refine JN.forget 0 ?_;exact YD ⟨(a.1,a.2+1),⟨b,rfl,rfl,rfl,s⟩,e⟩ rfl rfl rfl
   ·
    refine PH [] 2 ZP rfl ?_;obtain rfl:=Q8 v e;refine PC [] 2 ZP rfl ?_;exact YD ⟨b,rfl,rfl,rfl,s⟩ rfl rfl rfl
theorem ZMj (v:Disk)(H:Heaplet){z:Option Addr}{D:Nat}{E:Nat}{c:Option Addr}{d:Nat}{j:Nat}(d5:IsSlice H (RSl RU8 1) 1 (.slice z D E) v.Blocks)(d6:IsSlice H R_Write 2 (.slice c d j) v.Waits)(r:Disk)(g:Qf v=some r):
  Does Tryz.prog 124 #[.agg #[.slice z D E,.slice c d j],.func (.func 125) #[] #[]] [] H (λu K' H'=>∃A:Option Addr,∃n0:Nat,∃o:Nat,∃R:Own,∃B:Option Addr,∃n1:Nat,∃t:Nat,∃S:Own,u=.agg #[.slice A n0 o,.slice B n1 t]∧K'= [R,S]∧Pcs 0 5 26 (.slice A n0 o) r.Blocks R∧(∀p∈R,p.1∉ids (List.flatten []))∧RowOf (New H H') R_Write 0 105 2 (.slice B n1 t) r.Waits S∧(∀p∈S,p.1∉ids (List.flatten []))∧True):=by
 refine PD (vs:=[.agg #[.slice z D E,.slice c d j],.func (.func 125) #[] #[]]) (l:=[(0,.agg #[.slice z D E,.slice c d j]),(1,.func (.func 125) #[] #[])]) Tryz.func124 rfl rfl ⟨rfl,rfl,trivial⟩ (λw C=> ?_);unfold Qf at g;refine Run.cl [] 2 ZP rfl (ZLA rfl rfl (λb8 g8=>JL.alloc Z25 rfl (λb9 g9=>PN [] 3 ZP rfl (ZAZ (so:=[(_,[]),(_,[6])]) 7 rfl Mixed ⟨by kernel_rfl,by kernel_rfl⟩ (Uz [0,1] rfl) ?_))));refine JB.val (i:=0) [] rfl (ZM4 F25_0 rfl) ?_;refine JB.val (i:=1) [2,5,6] rfl (ZJq 1 S22 rfl rfl rfl) ?_;refine JB.val (i:=3) [] rfl (ZM4 F25_1 rfl) ?_;refine JB.val (i:=4) [5,6] rfl (ZJq 1 S23 rfl rfl rfl) ?_;refine JB.one (i:=2) (by kernel_rfl) ?_;refine JOB.step rfl trivial rfl (λK T=> ?_);obtain⟨U,d7,g⟩:=Ze g;refine G7 (vs:=[_]) (args:=[_]) (K:=[]) (rst:=[_,_]) E65 rfl rfl rfl Ya (BB v.Blocks _ d5 _ d7) rfl (λh0 h1 h2 d8 h3 d9=> ?_);obtain⟨F,G,I,e0,rfl,rfl,rfl,V,e1,-⟩:=d8;replace V:=(RowOf.base V (λp n=>(d9 p (KO 0 rfl n)).resolve_left (e1 p n)));refine JL.nil (T _ _ _ (R7 _) (Uz [1,2] rfl) ?_);refine JB.val (i:=5) [] rfl (ZK6 (vs:=[(0,.slice F G I),(1,.slice c d j)]) (cs:=[.slice F G I,.slice c d j]) Z25 B25 rfl rfl rfl) ?_;refine JB.one (i:=6) (by kernel_rfl) ?_;refine JOB.step rfl trivial rfl (λK T=>PE [2] 2 ZP rfl (T _ _ _ (R7 _) (ZHZ [false,true] [1,0] (by kernel_rfl) rfl) ?_));refine PW (by kernel_rfl) ?_;refine PY [2] 6 ZP rfl ?_;obtain⟨m,e2,g⟩:=Ze g;refine G7 (vs:=[_,_]) (args:=[_,_]) (K:=[]) (rst:=[_,_,_]) E159 rfl rfl rfl Ya (ZKj (Disk.mk U v.Waits) _ d6 _ e2) rfl (λh4 h5 h6 e3 h7 e4=> ?_);obtain⟨h8,c0,h9,i0,rfl,rfl,rfl,W,e5,-⟩:=e3;replace W:=(MapOf.base W (λp n=>(e4 p (KO 0 rfl n)).resolve_left (e5 p n)));refine ZK9 0 U217 rfl rfl W rfl (λc1 e6 e7 J=> ?_);subst e7;refine R8 [] 2 ZP rfl ?_;obtain⟨e8,e9,X,g⟩:=ZPo g;refine JC.block (J6 (ι:=Array Nat×(List (List UInt8))×Own) (λ_=> [(2,.pointer (some ⟨b8,0,none⟩)),(4,.pointer (some ⟨b9,0,none⟩)),(16,.pointer (some ⟨c1,0,none⟩))]) (λi=> [[(c1,.mapIter (some c0) (m).length i.1 (m).length)],[(c0,.map e6 (m).length)],i.2.2,[(b9,.cells #[.slice none 0 0,.slice none 0 0] 25 (0,0))],[(b8,.cells #[.slice F G I,.slice c d j] 25 (0,0))]]) (λ_=>H) (λi=>i.1.toList.Nodup∧(∀q∈i.1.toList,q<(m).length)∧Laid (λy:Write=>y.Data) U m i.1.toList i.2.1∧RowOf H (RSl RU8 1) w.heap.size 26 1 (.slice F G I) i.2.1 i.2.2) (λi=>(m).length-i.1.size) (#[],U,e0) ⟨by simp,by simp,Py _ _ _,V⟩ ⟨rfl,rfl,rfl,trivial⟩ rfl rfl ?_);rintro⟨c2,x,f0⟩ ⟨Y,Z,L,M⟩;dsimp only at Y Z L M⊢;refine Run.cl [] 2 ZP rfl (ZOP 0 1 rfl rfl rfl J (TL _) rfl (λf1=> ?_) (λf2 s N i1 O f3 c3 f4=> ?_))
 ·
  refine Po [] 8 ZP rfl (J5 ?_);obtain rfl:=e9.trans (L.full J.nodup X f1).symm;refine JN.forget 1 (JN.forget 0 (PY [2,2] 10 ZP rfl (JL.pub 0 (RSl.mono RU8.mono) rfl M (TL _) (λi2 f5 f6=>JL.forget 0 ?_))));obtain⟨i3,f7,g⟩:=Ze g;refine G7 (vs:=[_]) (args:=[_]) (K:=[]) (rst:=[_,_]) E71 rfl rfl rfl Ya (ZFJ (Disk.mk e8 ([]:List Write)) _ f6 (IsSlice.nil _ _ _) _ f7) rfl (λi4 i5 i6 f8 i7 c4=> ?_);obtain⟨c5,c6,c7,f9,c8,c9,d0,g0,rfl,rfl,P,g1,Q,g2,-⟩:=f8;replace P:=(Pcs.base P (λp n=>(c4 p (KO 0 rfl n)).resolve_left (g1 p n)));replace Q:=(RowOf.base (RowOf.mono R_Write.mono (New.call f5) Q) (λp n=>(c4 p (KO 1 rfl n)).resolve_left (g2 p n)));refine PP [2] 4 ZP rfl (YX (vs:=[.agg #[.slice c5 c6 c7,.slice c8 c9 d0]]) (K:=[_,_]) (rst:=[_,_]) (.inl rfl) rfl rfl (ZA0 2 rfl rfl S25 rfl) (Qd 0 rfl (Qd 0 rfl Ya)) ?_);obtain rfl:=TK g;exact⟨c5,c6,c7,f9,c8,c9,d0,g0,rfl,rfl,(Pcs.weak (Ti _) P),(ZHI P C),(RowOf.weak (Ti _) Q),(UN Q C),trivial⟩
 ·
  have g3:=ZPZ Y Z (TG.1 O).1 c3;refine R9 [] 10 ZP rfl ?_;obtain⟨i8,rfl,d1⟩:=f4;obtain⟨i9,j0,rfl⟩:=IsSlice.val d1;refine ZNC 0 1 rfl rfl rfl J f3 rfl ?_;have d2:=X _ (T4 O);rw[←L.len]at d2;clear g;have g:(chk (0≤s∧s.toNat<x.length)<|setI x s N.Data λd3=>some d3)=some (x.set s.toNat N.Data):=ZRJ d2;refine PL [] 2 ZP rfl (JL.alloc Z105 rfl (λj1 j2=>PO [0,5,0] 10 ZP rfl ?_));obtain⟨g4,g⟩:=ZH g;obtain⟨j3,j4,d4⟩:=ZM3 M g4;refine ZB rfl rfl (ZCx U22 S26 rfl rfl d4) ?_;obtain⟨d3,g5,j5,g⟩:=ZAg g;refine ZSG 3 (k:=s) (y:=N.Data) S26 rfl M rfl d4 rfl rfl (⟨_,rfl,d1⟩) RSl.one g5 (λg6 g7 j6=>OH [] 2 ZP rfl ?_);obtain rfl:=TK g;refine JN.forget 0 (Zm 4 rfl (Zm 4 rfl (Zm 4 rfl (Zm 4 rfl (Zm 4 rfl ?_)))));exact JO (i:=(c2,x,f0)) (c2.push f2,x.set s.toNat N.Data,g6) ⟨by simp only[Array.toList_push];exact RM.2 ⟨Y,by simp,λa ha b hb e=>by simp at hb;subst hb;subst e;exact c3 ha⟩,by simp only[Array.toList_push];intro q hq;rcases TV.1 hq with h|h;exact Z q h;simp at h;subst h;exact(TG.1 O).1,L.step (f:=(λy:Write=>y.Data)) J.nodup X O _ (λq=>by simp),g7⟩ (by simp only[Array.size_push];simp only[TS]at g3;omega) ⟨rfl,rfl,rfl,trivial⟩ rfl rfl
theorem ZGE (c0:List UInt8)(T:Int)(H:Heaplet){U:Option Addr}{V:Nat}{W:Nat}(x:IsSlice H RU8 1 (.slice U V W) c0)(r:List UInt8)(t:QA c0 T=some r):
  Does Tryz.prog 132 #[.slice U V W,.int .i64 T] [] H (λu K' H'=>∃O:Option Addr,∃n0:Nat,∃L:Nat,∃K0:Own,u=.slice O n0 L∧K'= [K0]∧H=H'∧RowOf (New H H) RU8 0 5 1 (.slice O n0 L) r K0∧(∀p∈K0,p.1∉ids (List.flatten []))∧True):=by
 refine PD (vs:=[.slice U V W,.int .i64 T]) (l:=[(0,.slice U V W),(1,.int .i64 T)]) Tryz.func132 rfl rfl ⟨rfl,rfl,trivial⟩ (λw M=> ?_);unfold QA at t;refine PF [] 12 ZP rfl (XA t rfl (λd0 t=> ?_) (λd0 t=> ?_))
 ·
  refine Run.cl [] 2 ZP rfl (WM (HF:=(New H H)) (R:=RU8) (ls:=([]:List UInt8)) (vs:=[]) U26 I5 rfl rfl (rfl) RU8.one rfl rfl rfl (by simp[maxLen]) rfl (λf6 d1 a9=> ?_));obtain⟨c1,c2,rfl⟩:=RowOf.val a9;refine Po [] 5 ZP rfl (YX (vs:=[.slice c1 (([]:List UInt8).length) c2]) (K:=[_]) (rst:=[]) (.inl rfl) rfl rfl (Yi rfl rfl) (Qd 0 rfl Ya) ?_);obtain rfl:=TK t;exact⟨c1,([]:List UInt8).length,c2,d1,rfl,rfl,rfl,(RowOf.weak (Ti _) a9),(UN a9 M),trivial⟩
 ·
  refine Pc [] 9 ZP rfl (XA t rfl (λd2 t=> ?_) (λd2 t=> ?_))
  ·
   refine Qw ?_;cases t
  ·
   refine PA [] 5 ZP rfl (ZB rfl rfl (Y4 U26 rfl (IsSlice.long x)) (ZB rfl rfl (Vc U3 U122 rfl) (ZB rfl rfl (Y3 rfl) (ZB rfl rfl (Vc U3 U122 rfl) (ZGf t E163 rfl Gn rfl trivial ?_)))));intro z f7 t;refine R9 [] 11 ZP rfl (ZB rfl rfl (ZD5 (a:=z.1) (b:=(0:UInt64)) rfl rfl) (ZB rfl rfl (Y3 rfl) (ZUd 29 t rfl (λd3 t=> ?_) (λd3 t=> ?_))))
   ·
    refine PO [] 7 ZP rfl ?_;cases t
   ·
    refine PL [] 3 ZP rfl (ZB rfl rfl (ZD5 (a:=z.2) (b:=(9223372036854775807:UInt64)) rfl rfl) (R8 [] 3 ZP rfl (XA t rfl (λd4 t=> ?_) (λd4 t=> ?_))))
    ·
     refine Qw ?_;cases t
    ·
     refine PA [] 5 ZP rfl (ZB rfl rfl (Bo (a:=z.2) U122 U3 rfl) (R9 [] 7 ZP rfl (ZB rfl rfl (Y4 U26 rfl (IsSlice.long x)) (R8 [] 3 ZP rfl (XA t rfl (λd5 t=> ?_) (λd5 t=> ?_))))))
     ·
      refine Run.cl [] 2 ZP rfl (WM (HF:=(New H H)) (R:=RU8) (ls:=([]:List UInt8)) (vs:=[]) U26 I5 rfl rfl (rfl) RU8.one rfl rfl rfl (by simp[maxLen]) rfl (λf8 d6 b0=> ?_));obtain⟨c3,c4,rfl⟩:=RowOf.val b0;refine Po [] 5 ZP rfl (YX (vs:=[.slice c3 (([]:List UInt8).length) c4]) (K:=[_]) (rst:=[]) (.inl rfl) rfl rfl (Yi rfl rfl) (Qd 0 rfl Ya) ?_);obtain rfl:=TK t;exact⟨c3,([]:List UInt8).length,c4,d6,rfl,rfl,rfl,(RowOf.weak (Ti _) b0),(UN b0 M),trivial⟩
     ·
      refine Pc [] 15 ZP rfl (WN t [0,7] [] rfl rfl (λv l0 P l o g=>l=(8,.int .i64 v)::l0∧o=P∧H=g) (λv f9 t=> ?_) (λv g0 t=> ?_))
      ·
       rintro _ _ _ ⟨rfl,rfl,rfl⟩;refine PY [] 4 ZP rfl ?_;obtain⟨g1,d7,b1,t⟩:=Gm t;obtain⟨d8,b2⟩:=T3 b1.1;refine ZUK (HF:=New H H) (N:=d8) Tryz.func164 (by kernel_rfl) rfl (by kernel_rfl) U26 (by kernel_rfl) (congrArg (λq=>some (Value.int .i64 q)) b2) (by simpa[b2]using b1.2) rfl (λg2 g3 d9 g4 e0 e1=> ?_);replace t:=ZEu d7 b2 e0 t (by have:=b1.2;omega);refine PL [] 2 ZP rfl ?_;obtain⟨f,e2,b3,t⟩:=Ga t;obtain⟨g5,e3,X,I,J,c5⟩:=ZOJ e1 e2 b3;refine ZB rfl rfl (Xr (cap:=e3) (a:=0) (b:=w64 (z.2.toNat:Int)) (c:=w64 (z.2.toNat:Int)) (m:=d9) (R:=RU8) U26 S5 rfl rfl ⟨_,rfl⟩ ⟨_,rfl⟩ ⟨b3.1,b3.2.1,SE _⟩ I (.inr (λh=>by cases h))) ?_;subst J;refine R9 [] 7 ZP rfl ?_;obtain⟨g6,e4,e5,t⟩:=Kj t;refine Wx (HF:=(New H H)) (lo:=0) (hi:=(f.length:Int)) 0 U26 S5 rfl c5 rfl (ZFg c5) rfl (CSrc.slice RU8.one (R7 _) x (λ_ _ h=>RU8.const _ _ _ _ h)) e5 e4 rfl (λe6 e7=>PN [] 4 ZP rfl (WN t [9] [] rfl rfl (λb4 l0 P l o g=>∃Y:Own,l=l0∧o=Y::P∧H=g∧RowOf (New H H) RU8 w.heap.size 5 1 (.slice X f.length f.length) b4 Y) (λb4 g7 t=> ?_) (λb4 g8 t=> ?_)))
       ·
        rintro _ _ _ ⟨Y,rfl,rfl,rfl,c6⟩;refine PQ [] 8 ZP rfl (YX (vs:=[.slice X f.length f.length]) (K:=[_]) (rst:=[]) (.inl rfl) rfl rfl (Yi rfl rfl) (Qd 0 rfl Ya) ?_);obtain rfl:=TK t;exact⟨X,f.length,f.length,Y,rfl,rfl,rfl,(RowOf.weak (Ti _) c6),(UN c6 M),trivial⟩
       ·
        refine JC.block (Wy [7,8,9] [] rfl rfl (λl0 P d l o g=>∃Z:Own,l=(10,.int .i64 d.2)::l0∧o=Z::P∧H=g∧RowOf (New H H) RU8 w.heap.size 5 1 (.slice X f.length f.length) d.1 Z) t ⟨e6,rfl,rfl,rfl,e7⟩ rfl ?_)
        ·
         rintro g9 d _ _ _ ⟨Z,rfl,rfl,rfl,k⟩ h0 t b5;unfold og_bytes_Repeat_l1 at t;refine PF [] 8 ZP rfl (XA t rfl (λe8 t=> ?_) (λe8 t=> ?_))
         ·
          refine PA [] 7 ZP rfl (ZB rfl rfl (ZIL rfl rfl) (R8 [] 3 ZP rfl (ZAZ (so:=[(_,[7])]) 10 rfl Mixed ⟨by kernel_rfl,by kernel_rfl⟩ (Uz [0] rfl) ?_)));refine JB.run 5 [0,1,2,4,5] [] ZP rfl ?_;obtain⟨y,t⟩:=ZH t;obtain⟨s,t⟩:=ZH t;obtain⟨c7,c8,c9,t⟩:=Kj t;refine JB.two (i:=3) (j:=6) (by kernel_rfl) ?_ ?_
          ·
           refine JOB.step rfl trivial rfl (λK G=> ?_);obtain⟨e9,Q,A,B,C,b6,f0⟩:=X7 k y;refine ZB rfl rfl (Xr (cap:=Q) (a:=d.2) (b:=(d.1.length:Int)) (c:=(Q:Int)) (m:=d.1) (R:=RU8) U26 S5 rfl ⟨_,rfl⟩ rfl (by obtain⟨ao,n,e,_⟩:=A;exact⟨ao,n,e,rfl⟩) ⟨y.1,y.2.1,B⟩ C (.inl rfl)) (JL.nil (G _ _ _ (R7 _) (Uz [0] rfl) ?_));refine JB.one (i:=6) (by kernel_rfl) ?_;refine JOB.step rfl trivial rfl (λK G=> ?_);obtain⟨f1,S,D,E,F,b7,f2⟩:=X7 k s;refine ZB rfl rfl (Xr (cap:=S) (a:=(0:Int)) (b:=min d.2 v) (c:=(S:Int)) (m:=d.1) (R:=RU8) U26 S5 rfl rfl ⟨_,rfl⟩ (by obtain⟨ao,n,e,_⟩:=D;exact⟨ao,n,e,rfl⟩) ⟨s.1,s.2.1,E⟩ F (.inl rfl)) (JL.nil (G _ _ _ (R7 _) (Uz [0] rfl) ?_));refine JB.one (i:=7) (by kernel_rfl) ?_;refine JOB.step rfl trivial rfl (λK G=>Wx (HF:=(New H H)) (lo:=d.2) (hi:=(d.1.length:Int)) 0 U26 S5 rfl k rfl b6 rfl (Pf 0 rfl k b7 s rfl) c9 c8 rfl (λb8 b9=>JL.nil (G _ _ _ (R7 _) (ZHZ [true] [0] (by kernel_rfl) rfl) ?_)));refine JB.run 2 [8,9] [] ZP rfl ?_;refine PW (by kernel_rfl) ?_;refine Br ?_;replace t:=X9 b5 t;exact YD ⟨(c7,w64 (d.2+(min ((cut d.1 (0:Int) (min d.2 v)).length:Int) ((d.1.length:Int)-d.2)))),⟨b8,rfl,rfl,rfl,b9⟩,t⟩ rfl rfl rfl
          ·
           refine JOB.step rfl trivial rfl (λK G=> ?_);obtain⟨f1,S,D,E,F,b7,f2⟩:=X7 k s;refine ZB rfl rfl (Xr (cap:=S) (a:=(0:Int)) (b:=min d.2 v) (c:=(S:Int)) (m:=d.1) (R:=RU8) U26 S5 rfl rfl ⟨_,rfl⟩ (by obtain⟨ao,n,e,_⟩:=D;exact⟨ao,n,e,rfl⟩) ⟨s.1,s.2.1,E⟩ F (.inl rfl)) (JL.nil (G _ _ _ (R7 _) (Uz [0] rfl) ?_));refine JB.one (i:=3) (by kernel_rfl) ?_;refine JOB.step rfl trivial rfl (λK G=> ?_);obtain⟨e9,Q,A,B,C,b6,f0⟩:=X7 k y;refine ZB rfl rfl (Xr (cap:=Q) (a:=d.2) (b:=(d.1.length:Int)) (c:=(Q:Int)) (m:=d.1) (R:=RU8) U26 S5 rfl ⟨_,rfl⟩ rfl (by obtain⟨ao,n,e,_⟩:=A;exact⟨ao,n,e,rfl⟩) ⟨y.1,y.2.1,B⟩ C (.inl rfl)) (JL.nil (G _ _ _ (R7 _) (Uz [0] rfl) ?_));refine JB.one (i:=7) (by kernel_rfl) ?_;refine JOB.step rfl trivial rfl (λK G=>Wx (HF:=(New H H)) (lo:=d.2) (hi:=(d.1.length:Int)) 0 U26 S5 rfl k rfl b6 rfl (Pf 0 rfl k b7 s rfl) c9 c8 rfl (λb8 b9=>JL.nil (G _ _ _ (R7 _) (ZHZ [true] [0] (by kernel_rfl) rfl) ?_)));refine JB.run 2 [8,9] [] ZP rfl ?_;refine PW (by kernel_rfl) ?_;refine Br ?_;replace t:=X9 b5 t;exact YD ⟨(c7,w64 (d.2+(min ((cut d.1 (0:Int) (min d.2 v)).length:Int) ((d.1.length:Int)-d.2)))),⟨b8,rfl,rfl,rfl,b9⟩,t⟩ rfl rfl rfl
         ·
          refine PH [] 2 ZP rfl ?_;obtain rfl:=Q8 b5 t;refine PC [] 2 ZP rfl ?_;exact YD ⟨Z,rfl,rfl,rfl,k⟩ rfl rfl rfl
      ·
       refine XA t rfl (λf3 t=> ?_) (λf3 t=> ?_)
       ·
        refine Run.cl [] 3 ZP rfl (ZB rfl rfl (Y4 U26 rfl (IsSlice.long x)) ?_);obtain⟨f4,t⟩:=ZH t;refine ZB rfl rfl (ZPE rfl rfl f4) (ZB rfl rfl (Y3 rfl) (ZB rfl rfl (Y4 U26 rfl (IsSlice.long x)) (R8 [] 10 ZP rfl (XA t rfl (λf5 t=> ?_) (λf5 t=> ?_)))))
        ·
         refine Ps [] 2 ZP rfl (ZB rfl rfl (Y4 U26 rfl (IsSlice.long x)) (PE [] 2 ZP rfl ?_));obtain rfl:=TK t;exact YD ⟨rfl,rfl,rfl⟩ rfl rfl rfl
        ·
         refine JC.skip ?_;obtain rfl:=TK t;exact YD ⟨rfl,rfl,rfl⟩ rfl rfl rfl
       ·
        refine JC.skip ?_;obtain rfl:=TK t;exact YD ⟨rfl,rfl,rfl⟩ rfl rfl rfl
theorem ZA5 (d:Int)(H:Heaplet)(r:List UInt8)(t:Yk d=some r):
  Does Tryz.prog 165 #[.slice none 0 0,.int .i64 d] [] H (λu K' J=>∃E:Option Addr,∃I:Nat,∃D:Nat,∃F:Own,u=.slice E I D∧K'= [F]∧H=J∧RowOf (New H H) RU8 0 5 1 (.slice E I D) r F∧(∀p∈F,p.1∉ids (List.flatten []))∧True):=by
 refine PD (vs:=[.slice none 0 0,.int .i64 d]) (l:=[(0,.slice none 0 0),(1,.int .i64 d)]) Tryz.func165 rfl rfl ⟨rfl,rfl,trivial⟩ (λw G=> ?_);unfold Yk at t;refine PF [] 12 ZP rfl (XA t rfl (λL t=> ?_) (λL t=> ?_))
 ·
  refine Qw ?_;cases t
 ·
  refine PA [] 7 ZP rfl (ZB rfl rfl (ZK5 ⟨_,U26⟩ rfl) (ZB rfl rfl (Y3 rfl) (ZB rfl rfl (R.len U26 rfl) (R8 [] 11 ZP rfl (WN t [] [] rfl rfl (λk l0 M l o g=>∃f:Option Addr,∃h:Nat,∃i:Nat,∃j:Own,l=(0,.slice f h i)::l0∧o=j::M∧H=g∧RowOf (New H H) RU8 w.heap.size 5 1 (.slice f h i) k j) (λk X t=> ?_) (λk Y t=> ?_))))))
  ·
   rintro _ _ _ ⟨f,h,i,j,rfl,rfl,rfl,s⟩;refine PQ [] 8 ZP rfl (YX (vs:=[.slice f h i]) (K:=[_]) (rst:=[]) (.inl rfl) rfl rfl (Yi rfl rfl) (Qd 0 rfl Ya) ?_);obtain rfl:=TK t;exact⟨f,h,i,j,rfl,rfl,rfl,(RowOf.weak (Ti _) s),(UN s G),trivial⟩
  ·
   refine XA t rfl (λN t=> ?_) (λN t=> ?_)
   ·
    refine Ps [] 3 ZP rfl (ZB rfl rfl (ZK5 ⟨_,U26⟩ rfl) (ZB rfl rfl (ZOK U26 S5 rfl trivial ⟨_,rfl⟩ rfl) (ZB rfl rfl (Y3 rfl) ?_)));obtain⟨O,P,Q,t⟩:=Gm t;refine ZPQ (HF:=New H H) (R:=RU8) (y:=(0:UInt8)) (n:=w64 (d-0)) U26 U3 I5 rfl rfl (λ_=>rfl) RU8.one P Q rfl rfl (λZ S v=> ?_);obtain⟨b3,b4,rfl⟩:=RowOf.val v;refine ZB rfl rfl (Y3 rfl) (ZB rfl rfl (R.len U26 rfl) ?_);obtain⟨T,U,q,t⟩:=Ga t;obtain⟨b5,x,A,B,C,z⟩:=RowOf.pre v U q;refine ZB rfl rfl (Xr (cap:=x) (a:=0) (b:=0) (c:=(x:Int)) (m:=O) (R:=RU8) U26 S5 rfl rfl ⟨_,rfl⟩ (by obtain⟨ao,n,e,_⟩:=A;exact⟨ao,n,e,rfl⟩) ⟨q.1,q.2.1,B⟩ C (.inl rfl)) ?_;obtain⟨V,W,rfl⟩:=RowOf.val z;refine PE [] 2 ZP rfl ?_;obtain rfl:=TK t;exact YD ⟨V,T.length,W,S,rfl,rfl,rfl,z⟩ rfl rfl rfl
   ·
    refine JC.skip ?_;obtain rfl:=TK t;refine ZA3 ?_;exact YD ⟨none,0,0,[],rfl,rfl,rfl,(RowOf.nil _ _ _ _ _)⟩ rfl rfl rfl
theorem ZB9 (d:Int)(H:Heaplet)(r:List Ptr)(t:Yw d=some r):
  Does Tryz.prog 225 #[.slice none 0 0,.int .i64 d] [] H (λu K' J=>∃E:Option Addr,∃I:Nat,∃D:Nat,∃F:Own,u=.slice E I D∧K'= [F]∧H=J∧RowOf (New H H) R_Ptr 0 31 5 (.slice E I D) r F∧(∀p∈F,p.1∉ids (List.flatten []))∧True):=by
 refine PD (vs:=[.slice none 0 0,.int .i64 d]) (l:=[(0,.slice none 0 0),(1,.int .i64 d)]) Tryz.func225 rfl rfl ⟨rfl,rfl,trivial⟩ (λw G=> ?_);unfold Yw at t;refine PF [] 12 ZP rfl (XA t rfl (λL t=> ?_) (λL t=> ?_))
 ·
  refine Qw ?_;cases t
 ·
  refine PA [] 7 ZP rfl (ZB rfl rfl (ZK5 ⟨_,U39⟩ rfl) (ZB rfl rfl (Y3 rfl) (ZB rfl rfl (R.len U39 rfl) (R8 [] 11 ZP rfl (WN t [] [] rfl rfl (λk l0 M l o g=>∃f:Option Addr,∃h:Nat,∃i:Nat,∃j:Own,l=(0,.slice f h i)::l0∧o=j::M∧H=g∧RowOf (New H H) R_Ptr w.heap.size 31 5 (.slice f h i) k j) (λk X t=> ?_) (λk Y t=> ?_))))))
  ·
   rintro _ _ _ ⟨f,h,i,j,rfl,rfl,rfl,s⟩;refine PQ [] 8 ZP rfl (YX (vs:=[.slice f h i]) (K:=[_]) (rst:=[]) (.inl rfl) rfl rfl (Yi rfl rfl) (Qd 0 rfl Ya) ?_);obtain rfl:=TK t;exact⟨f,h,i,j,rfl,rfl,rfl,(RowOf.weak (Ti _) s),(UN s G),trivial⟩
  ·
   refine XA t rfl (λN t=> ?_) (λN t=> ?_)
   ·
    refine Ps [] 3 ZP rfl (ZB rfl rfl (ZK5 ⟨_,U39⟩ rfl) (ZB rfl rfl (ZOK U39 S31 rfl trivial ⟨_,rfl⟩ rfl) (ZB rfl rfl (Y3 rfl) ?_)));obtain⟨O,P,Q,t⟩:=Gm t;refine ZPQ (HF:=New H H) (R:=R_Ptr) (y:=Ptr.mk 0 (0:UInt32) (0:UInt32) (0:UInt32) (0:UInt32)) (n:=w64 (d-0)) U39 U3 I31 rfl rfl (λ_=>rfl) R_Ptr.one P Q rfl rfl (λZ S v=> ?_);obtain⟨b3,b4,rfl⟩:=RowOf.val v;refine ZB rfl rfl (Y3 rfl) (ZB rfl rfl (R.len U39 rfl) ?_);obtain⟨T,U,q,t⟩:=Ga t;obtain⟨b5,x,A,B,C,z⟩:=RowOf.pre v U q;refine ZB rfl rfl (Xr (cap:=x) (a:=0) (b:=0) (c:=(x:Int)) (m:=O) (R:=R_Ptr) U39 S31 rfl rfl ⟨_,rfl⟩ (by obtain⟨ao,n,e,_⟩:=A;exact⟨ao,n,e,rfl⟩) ⟨q.1,q.2.1,B⟩ C (.inl rfl)) ?_;obtain⟨V,W,rfl⟩:=RowOf.val z;refine PE [] 2 ZP rfl ?_;obtain rfl:=TK t;exact YD ⟨V,T.length,W,S,rfl,rfl,rfl,z⟩ rfl rfl rfl
   ·
    refine JC.skip ?_;obtain rfl:=TK t;refine ZA3 ?_;exact YD ⟨none,0,0,[],rfl,rfl,rfl,(RowOf.nil _ _ _ _ _)⟩ rfl rfl rfl
theorem GZ (m:List UInt8)(H:Heaplet){v:Value}{b:Nat}(hs:IsSlice H RU8 1 v m)(hb:H b 0=some v):
  IterL Tryz.prog 218 #[.pointer (some ⟨b,0,none⟩)] H (λ_ args (y:Nat×UInt8)=>args= #[.int .i64 ((y.1:Nat):Int),.int .u8 (y.2.toNat:Int)]) (bwd m m.length):=by
 intro q I X o u hI;have t:=hs.len_le;obtain⟨ao,cap,rfl⟩:=hs.val;show Does Tryz.prog 218 #[.func (.yield q) #[] #[],.pointer (some ⟨b,0,none⟩)] o H _;refine Does.enter (vs:=[.func (.yield q) #[] #[],.pointer (some ⟨b,0,none⟩)]) (l:=[(0,.func (.yield q) #[] #[]),(1,.pointer (some ⟨b,0,none⟩))]) Tryz.func218 rfl rfl ⟨rfl,rfl,trivial⟩ (λw=>Run.cl [] 2 ZP rfl (ZOR S26 rfl hb rfl (ZUL U26 rfl hs rfl (ZPO rfl rfl (ZQZ (by omega) (by omega)) rfl (ZJr rfl rfl ?_)))));refine PN [] 3 ZP rfl (J6 (ι:=Nat×List (Nat×UInt8)×List Own×Heaplet) (λi=> [(0,.func (.yield q) #[] #[]),(1,.pointer (some ⟨b,0,none⟩)),(3,.int .i64 ((i.1:Int)-1))]) (λi=>i.2.2.1) (λi=>i.2.2.2) (λi=>i.1≤m.length∧i.2.1++bwd m i.1=bwd m m.length∧I i.2.1 i.2.2.1 i.2.2.2∧Hle H i.2.2.2) (λi=>i.1) (m.length,[],o,H) (⟨TL _,rfl,hI,R7 _⟩) ⟨rfl,rfl,rfl,trivial⟩ rfl rfl ?_);rintro⟨k,pre,x,H2⟩ d;dsimp only at d⊢;obtain⟨C,a,e,c⟩:=d;have r:=c _ _ _ hb;have s:=IsB.mono c hs;refine Run.cl [] 3 ZP rfl (ZD8 rfl rfl (ZVp rfl rfl rfl (R8 [] 2 ZP rfl (ZSP rfl (λz=> ?_) (λz=> ?_)))))
 ·
  refine PA [] 6 ZP rfl (ZD8 rfl rfl (ZD8 rfl rfl (ZOR S26 rfl r rfl (ZD8 rfl rfl (ZVo (k:=k-1) U26 S5 rfl s rfl (by omega) (by omega) rfl (λA B f=>ZOR S5 rfl f rfl ?_))))));have e1:((k-1:Nat):Int)=(k:Int)-1:=by omega
  have e2:m.getD (k-1) 0=m[k-1]:=by rw[ST,TJ (show k-1<m.length by omega),S6]
  have e3:bwd m k=(k-1,m.getD (k-1) 0)::bwd m (k-1):=by rw[show k=(k-1)+1 by omega];rfl
  refine ZD7 (vs:=[_,_]) (mine:=[]) ((k-1,m.getD (k-1) 0)) u rfl rfl e (⟨by simp only[e1,e2],bwd m (k-1),by rw[←a,e3]⟩) rfl rfl (λg j h n=> ?_) (λg j h p=> ?_)
  ·
   refine ZSH rfl rfl (Pe [] 7 ZP rfl (ZD8 rfl rfl (ZPO rfl rfl (ZQZ (by omega) (by omega)) rfl (ZJr rfl rfl (JL.nil (JO (i:=(k,pre,x,H2)) (k-1,pre++ [(k-1,m.getD (k-1) 0)],g,j) (by exact⟨by simp only;omega,by rw[←a,e3];simp,n,c.trans h⟩) (by simp only;omega) (by exact⟨rfl,rfl,by show some _=some _;simp only[e1],trivial⟩) rfl rfl))))))
  ·
   refine ZSH rfl rfl (PU [] 6 ZP rfl (PC [] 2 ZP rfl (J3 (.inl rfl) rfl rfl ?_)));exact⟨c.trans h,.inr ⟨_,⟨bwd m (k-1),by rw[←a,e3];simp⟩,p⟩⟩
 ·
  refine PM [] 4 ZP rfl (J3 (.inr rfl) rfl rfl ?_);exact⟨c,.inl ⟨pre,by rw[←a,show k=0 by omega];simp[bwd],e⟩⟩
theorem DX (m:List UInt8)(N:Int)(V:1≤N∧N≤1099511627776∧m.length≤LIM)(H:Heaplet){v:Value}{r s:Nat}(hs:IsSlice H RU8 1 v m)(F:H r 0=some v)(G:H s 0=some (.int .i64 N)):
  IterL Tryz.prog 156 #[.pointer (some ⟨r,0,none⟩),.pointer (some ⟨s,0,none⟩)] H (λW args (y:List UInt8)=>∃ao:Option Addr,args= #[.slice ao y.length y.length]∧IsSlice W RU8 1 (.slice ao y.length y.length) y) (YJ N.toNat m.length m):=by
 intro E I X o Y hI;obtain⟨Z,hN2,J⟩:=V;unfold LIM at J;obtain⟨ao,cap,rfl⟩:=hs.val;show Does Tryz.prog 156 #[.func (.yield E) #[] #[],.pointer (some ⟨r,0,none⟩),.pointer (some ⟨s,0,none⟩)] o H _;refine Does.enter (vs:=[.func (.yield E) #[] #[],.pointer (some ⟨r,0,none⟩),.pointer (some ⟨s,0,none⟩)]) (l:=[(0,.func (.yield E) #[] #[]),(1,.pointer (some ⟨r,0,none⟩)),(2,.pointer (some ⟨s,0,none⟩))]) Tryz.func156 rfl rfl ⟨rfl,rfl,rfl,trivial⟩ (λw=>PF [] 6 ZP rfl ?_);refine J6 (ι:=Nat×Nat×List (List UInt8)×List Own×Heaplet) (λi=> [(0,.func (.yield E) #[] #[]),(1,.pointer (some ⟨r,0,none⟩)),(2,.pointer (some ⟨s,0,none⟩)),(4,.int .i64 ((i.1:Nat):Int))]) (λi=>i.2.2.2.1) (λi=>i.2.2.2.2)
  (λi=>i.1≤2199023255552∧m.length≤i.1+i.2.1∧i.2.2.1++YJ N.toNat i.2.1 (m.drop i.1)=YJ N.toNat m.length m∧I i.2.2.1 i.2.2.2.1 i.2.2.2.2∧Hle H i.2.2.2.2) (λi=>m.length+1-i.1) (0,m.length,[],o,H) (⟨by omega,by simp,by simp,hI,R7 _⟩) ⟨rfl,rfl,rfl,rfl,trivial⟩ rfl rfl ?_
 rintro⟨i,f,pre,o2,H2⟩ t;dsimp only at t⊢;obtain⟨hi2,hf,g,u,j⟩:=t;have k:=j _ _ _ F;have p:=j _ _ _ G;have q:=IsSlice.mono RU8.mono j hs;refine Run.cl [] 4 ZP rfl (ZB rfl rfl (Kr S26 rfl k) (ZB rfl rfl (Y4 U26 rfl (IsSlice.long q)) (R8 [] 3 ZP rfl (G8 rfl (λc=> ?_) (λc=> ?_)))))
 ·
  have hlt:i<m.length:=by have:=Ta c;omega
  have K:m.drop i≠[]:=λh=>by have:=List.drop_eq_nil_iff.1 h;omega
  obtain⟨x,rfl⟩:∃x,f=x+1:=⟨f-1,by omega⟩;rw[Wq K,RB]at g;obtain⟨e,he⟩:∃e:Int,e=min N ((m.length:Int)-i):=⟨_,rfl⟩;have z:(m.drop i).take N.toNat=cut m (i:Int) ((i:Int)+e):=by
   unfold cut;rw[Tl];by_cases h:N≤(m.length:Int)-i
   ·
    rw[show((i:Int)+e).toNat-i=N.toNat by omega]
   ·
    rw[Td (by rw[TR];omega),Td (by rw[TR];omega)]
  refine Pc [] 5 ZP rfl ?_;obtain⟨v1,T,h1,h2,h3,L⟩:=PZ (m':=cut m (i:Int) (m.length:Int)) q rfl ⟨by omega,by omega,SE _⟩;have M:((cut m (i:Int) (m.length:Int)).length:Int)=(m.length:Int)-i:=V2 (by omega) (by omega) (SE _);refine ZLC (so:=[]) 7 rfl Mixed trivial (JA.val ⟨by kernel_rfl,by kernel_rfl⟩ (Zq _) (i:=0) rfl ⟨by kernel_rfl,by kernel_rfl,rfl⟩ trivial (YV (R7 _) trivial) (Kr S3 rfl p) rfl (JA.val ⟨by kernel_rfl,by kernel_rfl⟩ (Zq _) (i:=1) rfl ⟨by kernel_rfl,by kernel_rfl,rfl⟩ trivial (YV (R7 _) trivial) (Kr S26 rfl k) rfl (JA.val ⟨by kernel_rfl,by kernel_rfl⟩ (Zq _) (i:=2) rfl ⟨by kernel_rfl,by kernel_rfl,rfl⟩ trivial (YV (R7 _) trivial) (Y3 rfl) rfl (JA.val ⟨by kernel_rfl,by kernel_rfl⟩ (Zq _) (i:=3) rfl ⟨by kernel_rfl,by kernel_rfl,rfl⟩ trivial (YV (R7 _) trivial) (Xr (cap:=T) (a:=(i:Int)) (b:=(m.length:Int)) (c:=(T:Int)) (m:=m) (R:=RU8) U26 S5 rfl ⟨_,rfl⟩ rfl (by obtain⟨ao,n,e,_⟩:=h1;exact⟨ao,n,e,rfl⟩) ⟨by omega,by omega,h2⟩ h3 (.inl rfl)) rfl (JA.val ⟨by kernel_rfl,by kernel_rfl⟩ (Zq _) (i:=4) rfl ⟨by kernel_rfl,by kernel_rfl,rfl⟩ trivial (YV (R7 _) trivial) (ZOL U26 rfl ⟨_,IsSlice.long L,M⟩) rfl (JA.val ⟨by kernel_rfl,by kernel_rfl⟩ (Zq _) (i:=5) rfl ⟨by kernel_rfl,by kernel_rfl,rfl⟩ trivial (YV (R7 _) trivial) (ZIL rfl rfl) rfl ?_))))));rw[←he];refine JA.val ⟨by kernel_rfl,by kernel_rfl⟩ (Zq _) (i:=6) rfl ⟨by kernel_rfl,by kernel_rfl,rfl⟩ trivial (YV (R7 _) trivial) (ZAW rfl) rfl (ZIQ (by kernel_rfl) (J4 ?_));have U:w64 ((i:Int)+e)=(i:Int)+e:=Zo (by omega) (by omega);obtain⟨v2,c2,O,g1,g2,P⟩:=Pb (m':=(m.drop i).take N.toNat) q z ⟨by omega,by omega,by omega⟩;subst g2;refine Run.cl [] 3 ZP rfl (ZB rfl rfl (Kr S26 rfl k) (PL [] 4 ZP rfl ?_));rw[U];refine PL [] 3 ZP rfl ?_;rw[U];refine ZB rfl rfl (Xr (cap:=c2) (a:=(i:Int)) (b:=(i:Int)+e) (c:=(i:Int)+e) (m:=m) (R:=RU8) U26 S5 rfl ⟨_,rfl⟩ ⟨_,rfl⟩ ⟨_,rfl⟩ ⟨by omega,by omega,SE _⟩ g1 (.inr (λh=>by cases h))) (ZD7 (vs:=[_]) (mine:=[]) ((m.drop i).take N.toNat) Y rfl rfl u (⟨⟨O,rfl,P⟩,_,by rw[←g]⟩) rfl rfl (λA B d C=> ?_) (λA B d D=> ?_))
  ·
   refine Pe [] 9 ZP rfl (ZB rfl rfl (Kr S3 rfl (d _ _ _ p)) (PE [] 3 ZP rfl ?_));have Q:w64 ((i:Int)+N)=((i+N.toNat:Nat):Int):=(by rw[Zo (by omega) (by omega)];omega);refine JO (i:=(i,x+1,pre,o2,H2)) (i+N.toNat,x,pre++ [(m.drop i).take N.toNat],A,B) (by
    refine⟨?_,?_,?_,C,j.trans d⟩
    ·
     simp only;omega
    ·
     simp only;omega
    ·
     simp only[TN,List.singleton_append];exact g) (by simp only;omega) (by exact⟨rfl,rfl,rfl,by show some _=some _;rw[Q],trivial⟩) rfl rfl
  ·
   refine PU [] 7 ZP rfl (PC [] 2 ZP rfl (J3 (.inl rfl) rfl rfl ?_));exact⟨j.trans d,.inr ⟨_,⟨YJ N.toNat x (m.drop (i+N.toNat)),by rw[←g];simp⟩,D⟩⟩
 ·
  have S:m.length≤i:=by have:=of_decide_eq_false c;omega
  refine PM [] 4 ZP rfl (J3 (.inr rfl) rfl rfl (⟨j,.inl ⟨pre,?_,u⟩⟩));rw[←g,SA S,BQ,Tu]
end Go.Proofs.YtfpffkecbhkbkaaGreatDoor
