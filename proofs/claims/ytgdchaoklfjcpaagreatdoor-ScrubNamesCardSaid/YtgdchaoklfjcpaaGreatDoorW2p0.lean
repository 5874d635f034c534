import Derived.Test.YtgdchaoklfjcpaaGreatDoorT2
import Derived.Test.YtgdchaoklfjcpaaGreatDoorOwPgvq
import Derived.Test.YtgdchaoklfjcpaaGreatDoorOwMg
/- walks: what the code computes, function by function. -/
set_option linter.unusedSimpArgs false
set_option linter.unusedVariables false
namespace Go.Proofs.YtgdchaoklfjcpaaGreatDoor
open Go.Ow Go.RowKit Go.Proofs
set_option maxHeartbeats 8000000
theorem ZB6{c d}:Con Tryz.prog 229 true ([.w64 c,.w64 d]) (KN c d) (λr=> [.w64 r.1,.w64 r.2]):=by
 intro H r h;refine PU Tryz.func229 rfl rfl ?_;intro w;unfold KN at h;refine Run.cl [] 9 ZF rfl (ZA rfl rfl (ZGJ (a:=c) (b:=(4294967295:UInt64)) rfl rfl)<|R1 [] 6 ZF rfl<|ZA rfl rfl (ZAc (n:=((32:UInt64).toNat:Int)) (a:=c) rfl rfl (by decide)) ?_);refine R1 [] 6 ZF rfl (ZA rfl rfl (ZGJ (a:=d) (b:=(4294967295:UInt64)) rfl rfl)<|R1 [] 6 ZF rfl<|ZA rfl rfl (ZAc (n:=((32:UInt64).toNat:Int)) (a:=d) rfl rfl (by decide)) ?_);refine R1 [] 7 ZF rfl (ZA rfl rfl (ZAd (a:=c&&&(4294967295:UInt64)) (b:=d&&&(4294967295:UInt64)) rfl rfl)<|R1 [] 7 ZF rfl<|ZA rfl rfl (ZAd (a:=sr64 c (((32:UInt64).toNat:Int)).toNat) (b:=d&&&(4294967295:UInt64)) rfl rfl)<|ZA rfl rfl (Yd rfl)<|ZA rfl rfl (ZAc (n:=((32:UInt64).toNat:Int)) (a:=(c&&&(4294967295:UInt64))*(d&&&(4294967295:UInt64))) rfl rfl (by decide))<|ZA rfl rfl (ZDl (a:=(sr64 c (((32:UInt64).toNat:Int)).toNat)*(d&&&(4294967295:UInt64))) (b:=sr64 ((c&&&(4294967295:UInt64))*(d&&&(4294967295:UInt64))) (((32:UInt64).toNat:Int)).toNat) rfl rfl) ?_);refine R1 [] 6 ZF rfl (ZA rfl rfl (ZGJ (a:=((sr64 c (((32:UInt64).toNat:Int)).toNat)*(d&&&(4294967295:UInt64)))+(sr64 ((c&&&(4294967295:UInt64))*(d&&&(4294967295:UInt64))) (((32:UInt64).toNat:Int)).toNat)) (b:=(4294967295:UInt64)) rfl rfl)<|R1 [] 6 ZF rfl<|ZA rfl rfl (ZAc (n:=((32:UInt64).toNat:Int)) (a:=((sr64 c (((32:UInt64).toNat:Int)).toNat)*(d&&&(4294967295:UInt64)))+(sr64 ((c&&&(4294967295:UInt64))*(d&&&(4294967295:UInt64))) (((32:UInt64).toNat:Int)).toNat)) rfl rfl (by decide)) ?_);refine R1 [] 8 ZF rfl (ZA rfl rfl (ZAd (a:=c&&&(4294967295:UInt64)) (b:=sr64 d (((32:UInt64).toNat:Int)).toNat) rfl rfl)<|ZA rfl rfl (ZDl (a:=(((sr64 c (((32:UInt64).toNat:Int)).toNat)*(d&&&(4294967295:UInt64)))+(sr64 ((c&&&(4294967295:UInt64))*(d&&&(4294967295:UInt64))) (((32:UInt64).toNat:Int)).toNat))&&&(4294967295:UInt64)) (b:=(c&&&(4294967295:UInt64))*(sr64 d (((32:UInt64).toNat:Int)).toNat)) rfl rfl)<|R1 [] 7 ZF rfl<|ZA rfl rfl (ZAd (a:=sr64 c (((32:UInt64).toNat:Int)).toNat) (b:=sr64 d (((32:UInt64).toNat:Int)).toNat) rfl rfl)<|ZA rfl rfl (Yd rfl)<|ZA rfl rfl (ZDl (a:=(sr64 c (((32:UInt64).toNat:Int)).toNat)*(sr64 d (((32:UInt64).toNat:Int)).toNat)) (b:=sr64 (((sr64 c (((32:UInt64).toNat:Int)).toNat)*(d&&&(4294967295:UInt64)))+(sr64 ((c&&&(4294967295:UInt64))*(d&&&(4294967295:UInt64))) (((32:UInt64).toNat:Int)).toNat)) (((32:UInt64).toNat:Int)).toNat) rfl rfl)<|ZA rfl rfl (Yd rfl)<|ZA rfl rfl (ZAc (n:=((32:UInt64).toNat:Int)) (a:=((((sr64 c (((32:UInt64).toNat:Int)).toNat)*(d&&&(4294967295:UInt64)))+(sr64 ((c&&&(4294967295:UInt64))*(d&&&(4294967295:UInt64))) (((32:UInt64).toNat:Int)).toNat))&&&(4294967295:UInt64))+((c&&&(4294967295:UInt64))*(sr64 d (((32:UInt64).toNat:Int)).toNat))) rfl rfl (by decide))<|ZA rfl rfl (ZDl (a:=((sr64 c (((32:UInt64).toNat:Int)).toNat)*(sr64 d (((32:UInt64).toNat:Int)).toNat))+(sr64 (((sr64 c (((32:UInt64).toNat:Int)).toNat)*(d&&&(4294967295:UInt64)))+(sr64 ((c&&&(4294967295:UInt64))*(d&&&(4294967295:UInt64))) (((32:UInt64).toNat:Int)).toNat)) (((32:UInt64).toNat:Int)).toNat)) (b:=sr64 (((((sr64 c (((32:UInt64).toNat:Int)).toNat)*(d&&&(4294967295:UInt64)))+(sr64 ((c&&&(4294967295:UInt64))*(d&&&(4294967295:UInt64))) (((32:UInt64).toNat:Int)).toNat))&&&(4294967295:UInt64))+((c&&&(4294967295:UInt64))*(sr64 d (((32:UInt64).toNat:Int)).toNat))) (((32:UInt64).toNat:Int)).toNat) rfl rfl) ?_);refine R0 [] 3 ZF rfl<|ZSN (l':=[(0,.int .u64 (c.toNat:Int)),(1,.int .u64 (d.toNat:Int)),(4,.int .u64 (((((sr64 c (((32:UInt64).toNat:Int)).toNat)*(sr64 d (((32:UInt64).toNat:Int)).toNat))+(sr64 (((sr64 c (((32:UInt64).toNat:Int)).toNat)*(d&&&(4294967295:UInt64)))+(sr64 ((c&&&(4294967295:UInt64))*(d&&&(4294967295:UInt64))) (((32:UInt64).toNat:Int)).toNat)) (((32:UInt64).toNat:Int)).toNat))+(sr64 (((((sr64 c (((32:UInt64).toNat:Int)).toNat)*(d&&&(4294967295:UInt64)))+(sr64 ((c&&&(4294967295:UInt64))*(d&&&(4294967295:UInt64))) (((32:UInt64).toNat:Int)).toNat))&&&(4294967295:UInt64))+((c&&&(4294967295:UInt64))*(sr64 d (((32:UInt64).toNat:Int)).toNat))) (((32:UInt64).toNat:Int)).toNat)).toNat:Int)),(5,.int .u64 ((0:UInt64).toNat:Int))]) (own':=[]) ⟨rfl,rfl,rfl,rfl,trivial⟩ rfl (ZQh (l':=[(0,.int .u64 (c.toNat:Int)),(1,.int .u64 (d.toNat:Int)),(4,.int .u64 (((((sr64 c (((32:UInt64).toNat:Int)).toNat)*(sr64 d (((32:UInt64).toNat:Int)).toNat))+(sr64 (((sr64 c (((32:UInt64).toNat:Int)).toNat)*(d&&&(4294967295:UInt64)))+(sr64 ((c&&&(4294967295:UInt64))*(d&&&(4294967295:UInt64))) (((32:UInt64).toNat:Int)).toNat)) (((32:UInt64).toNat:Int)).toNat))+(sr64 (((((sr64 c (((32:UInt64).toNat:Int)).toNat)*(d&&&(4294967295:UInt64)))+(sr64 ((c&&&(4294967295:UInt64))*(d&&&(4294967295:UInt64))) (((32:UInt64).toNat:Int)).toNat))&&&(4294967295:UInt64))+((c&&&(4294967295:UInt64))*(sr64 d (((32:UInt64).toNat:Int)).toNat))) (((32:UInt64).toNat:Int)).toNat)).toNat:Int)),(5,.int .u64 ((0:UInt64).toNat:Int))]) (own':=[]) (rst:=[]) ⟨rfl,rfl,rfl,rfl,trivial⟩ ZP (Run.cl [] 4 ZF rfl<|ZA rfl rfl (ZAd (a:=c) (b:=d) rfl rfl)<|PD [] 4 ZF rfl ?_));exact ZAe [] rfl h rfl rfl
theorem GP{a b}:Con Tryz.prog 207 true ([.w64 a,.w64 b]) (Qj a b) (λr=> [.w64 r.1,.w64 r.2]):=by
 intro H r h;refine PU Tryz.func207 rfl rfl ?_;intro w;unfold Qj at h;refine Run.cl [] 14 ZF rfl<|Je h E229 rfl ZB6 rfl trivial ?_;intro c d h;refine PD [] 16 ZF rfl ?_;exact ZAe [] rfl h rfl rfl
theorem DK (b5:List Int)(z:Int)(H:Heaplet){L:Option Addr}{M:Nat}{N:Nat}(b6:IsSlice H RInt 1 (.slice L M N) b5)(r:List Int)(t:QX b5 z=some r):
  Does Tryz.prog 168 #[.slice L M N,.int .i64 z] [] H (λu K' H'=>∃J:Option Addr,∃n0:Nat,∃I:Nat,∃U:Own,u=.slice J n0 I/\K'= [U]/\H=H'/\RowOf (New H H) RInt 0 3 1 (.slice J n0 I) r U/\(∀p∈U,p.1∉ids (List.flatten []))/\True):=by
 refine R7 (vs:=[.slice L M N,.int .i64 z]) (l:=[(0,.slice L M N),(1,.int .i64 z)]) Tryz.func168 rfl rfl ⟨rfl,rfl,trivial⟩ λw V=> ?_;unfold QX at t;refine PA [] 12 ZF rfl<|Zi t rfl (λc1 t=> ?_) λc1 t=> ?_
 ·
  refine Zj ?_;cases t
 ·
  refine R5 [] 5 ZF rfl<|ZA rfl rfl (Zt U33 rfl<|IsSlice.long b6)<|ZA rfl rfl (Qn U3 U124 rfl)<|ZA rfl rfl (Yd rfl)<|ZA rfl rfl (Qn U3 U124 rfl)<|Je t E207 rfl GP rfl trivial ?_;intro O d5 t;refine R1 [] 11 ZF rfl<|ZA rfl rfl (ZDk (a:=O.1) (b:=(0:UInt64)) rfl rfl)<|ZA rfl rfl (Yd rfl)<|ZBj 23 t rfl (λc2 t=> ?_) λc2 t=> ?_
  ·
   refine PG [] 7 ZF rfl ?_;cases t
  ·
   refine PC [] 3 ZF rfl<|ZA rfl rfl (ZDk (a:=O.2) (b:=(9223372036854775807:UInt64)) rfl rfl)<|R0 [] 3 ZF rfl<|Zi t rfl (λc3 t=> ?_) λc3 t=> ?_
   ·
    refine Zj ?_;cases t
   ·
    refine R5 [] 5 ZF rfl<|ZA rfl rfl (BS (a:=O.2) U124 U3 rfl) ?_;obtain⟨s,c4,c5,t⟩:=Ud t;refine ZQb (HF:=New H H) (R:=RInt) (y:=0) (n:=w64 (O.2.toNat:Int)) U33 I3 rfl rfl (λ_=>rfl) RInt.one c4 c5 rfl rfl λd6 d7 W=> ?_;obtain⟨P,Q,rfl⟩:=RowOf.val W;refine R1 [] 7 ZF rfl ?_;obtain⟨d8,c6,c7,t⟩:=KV t;refine Wb (HF:=(New H H)) (lo:=0) (hi:=(s.length:Int)) 0 U33 S3 rfl W rfl (ZFW W) rfl (CSrc.slice RInt.one (Rz _) b6 λ_ _ h=>RInt.const _ _ _ _ h) c7 c6 rfl λc8 c9=>PE [] 4 ZF rfl<|YC t [7] [] rfl rfl (λX l0 Y l o g=>∃S:Own,l=l0/\o=S::Y/\H=g/\RowOf (New H H) RInt w.heap.size 3 1 (.slice P s.length Q) X S) (λX d9 t=> ?_) λX e0 t=> ?_
    ·
     rintro _ _ _ ⟨S,rfl,rfl,rfl,b7⟩;refine PK [] 8 ZF rfl<|ZU (vs:=[.slice P s.length Q]) (K:=[_]) (rst:=[]) (.inl rfl) rfl rfl (ZW rfl rfl) (ZD 0 rfl ZP) ?_;obtain rfl:=TB t;exact⟨P,s.length,Q,S,rfl,rfl,rfl,(RowOf.weak (TQ _) b7),(Qk b7 V),trivial⟩
    ·
     refine JC.block<|YJ [7] [] rfl rfl (λl0 Y d l o g=>∃T:Own,l=(8,.int .i64 d.2)::l0/\o=T::Y/\H=g/\RowOf (New H H) RInt w.heap.size 3 1 (.slice P s.length Q) d.1 T) t ⟨c8,rfl,rfl,rfl,c9⟩ rfl ?_
     ·
      rintro e1 d _ _ _ ⟨T,rfl,rfl,rfl,f⟩ e2 t Z;unfold KU at t;refine Run.cl [] 5 ZF rfl<|ZA rfl rfl (Zt U33 rfl<|RowOf.long f)<|R0 [] 3 ZF rfl<|Zi t rfl (λd0 t=> ?_) λd0 t=> ?_
      ·
       refine PX [] 3 ZF rfl (Q7 (so:=[(_,[7])]) 10 rfl Mixed ⟨by kernel_rfl,by kernel_rfl⟩ (XF [0] rfl) ?_);refine JB.run 5 [0,1,2,4,5] [] ZF rfl ?_;obtain⟨q,t⟩:=ZI t;obtain⟨k,t⟩:=ZI t;obtain⟨b8,b9,c0,t⟩:=KV t;refine OO (i:=3) (j:=6) (by kernel_rfl) ?_ ?_
       ·
        refine JOB.step rfl trivial rfl λK G=> ?_;obtain⟨d1,v,A,B,C,b1,d2⟩:=X1 f q;refine ZA rfl rfl (R.slc (cap:=v) (a:=d.2) (b:=(d.1.length:Int)) (c:=(v:Int)) (m:=d.1) (R:=RInt) U33 S3 rfl ⟨_,rfl⟩ rfl (by obtain⟨ao,n,e,_⟩:=A;exact⟨ao,n,e,rfl⟩) ⟨q.1,q.2.1,B⟩ C (.inl rfl))<|JL.nil<|G _ _ _ (Rz _) (XF [0] rfl) ?_;refine JB.one (i:=6) (by kernel_rfl) ?_;refine JOB.step rfl trivial rfl λK G=> ?_;obtain⟨d3,x,D,E,F,b2,d4⟩:=X1 f k;refine ZA rfl rfl (R.slc (cap:=x) (a:=(0:Int)) (b:=d.2) (c:=(x:Int)) (m:=d.1) (R:=RInt) U33 S3 rfl rfl ⟨_,rfl⟩ (by obtain⟨ao,n,e,_⟩:=D;exact⟨ao,n,e,rfl⟩) ⟨k.1,k.2.1,E⟩ F (.inl rfl))<|JL.nil<|G _ _ _ (Rz _) (XF [0] rfl) ?_;refine JB.one (i:=7) (by kernel_rfl) ?_;refine JOB.step rfl trivial rfl (λK G=>Wb (HF:=(New H H)) (lo:=d.2) (hi:=(d.1.length:Int)) 0 U33 S3 rfl f rfl b1 rfl (Pb 0 rfl f b2 k rfl) c0 b9 rfl λb3 b4=>JL.nil<|G _ _ _ (Rz _) (Ue [true] [0] (by kernel_rfl) rfl) ?_);refine JB.run 2 [8,9] [] ZF rfl ?_;refine PH (by kernel_rfl) ?_;refine KH ?_;replace t:=Zk Z t;exact ZN ⟨(b8,w64<|d.2+(min ((cut d.1 (0:Int) d.2).length:Int)<|(d.1.length:Int)-d.2)),⟨b3,rfl,rfl,rfl,b4⟩,t⟩ rfl rfl rfl
       ·
        refine JOB.step rfl trivial rfl λK G=> ?_;obtain⟨d3,x,D,E,F,b2,d4⟩:=X1 f k;refine ZA rfl rfl (R.slc (cap:=x) (a:=(0:Int)) (b:=d.2) (c:=(x:Int)) (m:=d.1) (R:=RInt) U33 S3 rfl rfl ⟨_,rfl⟩ (by obtain⟨ao,n,e,_⟩:=D;exact⟨ao,n,e,rfl⟩) ⟨k.1,k.2.1,E⟩ F (.inl rfl))<|JL.nil<|G _ _ _ (Rz _) (XF [0] rfl) ?_;refine JB.one (i:=3) (by kernel_rfl) ?_;refine JOB.step rfl trivial rfl λK G=> ?_;obtain⟨d1,v,A,B,C,b1,d2⟩:=X1 f q;refine ZA rfl rfl (R.slc (cap:=v) (a:=d.2) (b:=(d.1.length:Int)) (c:=(v:Int)) (m:=d.1) (R:=RInt) U33 S3 rfl ⟨_,rfl⟩ rfl (by obtain⟨ao,n,e,_⟩:=A;exact⟨ao,n,e,rfl⟩) ⟨q.1,q.2.1,B⟩ C (.inl rfl))<|JL.nil<|G _ _ _ (Rz _) (XF [0] rfl) ?_;refine JB.one (i:=7) (by kernel_rfl) ?_;refine JOB.step rfl trivial rfl (λK G=>Wb (HF:=(New H H)) (lo:=d.2) (hi:=(d.1.length:Int)) 0 U33 S3 rfl f rfl b1 rfl (Pb 0 rfl f b2 k rfl) c0 b9 rfl λb3 b4=>JL.nil<|G _ _ _ (Rz _) (Ue [true] [0] (by kernel_rfl) rfl) ?_);refine JB.run 2 [8,9] [] ZF rfl ?_;refine PH (by kernel_rfl) ?_;refine KH ?_;replace t:=Zk Z t;exact ZN ⟨(b8,w64<|d.2+(min ((cut d.1 (0:Int) d.2).length:Int)<|(d.1.length:Int)-d.2)),⟨b3,rfl,rfl,rfl,b4⟩,t⟩ rfl rfl rfl
      ·
       refine R8 [] 2 ZF rfl ?_;obtain rfl:=Zo Z t;refine R3 [] 2 ZF rfl ?_;exact ZN ⟨T,rfl,rfl,rfl,f⟩ rfl rfl rfl
theorem ZHf (d:List Int)(H:Heaplet){ao:Option Addr}{n cap:Nat}(hs:IsSlice H RInt 1 (.slice ao n cap) d)(r:List (List UInt8))(Z:Vf d=some r):
  Does Tryz.prog 65 #[.slice ao n cap] [] H (λu K' H'=>∃U:Option Addr,∃n0:Nat,∃F:Nat,∃K0:Own,u=.slice U n0 F/\K'= [K0]/\H=H'/\Pcs 0 5 27 (.slice U n0 F) r K0/\(∀p∈K0,p.1∉ids (List.flatten []))/\True):=by
 unfold Vf at Z;split at Z
 case isFalse=>cases Z
 rename_i hp;obtain rfl:=TB Z;obtain⟨e,z⟩:∃e,e=d.map Int.toNat:=⟨_,rfl⟩;have G:d=e.map (λn:Nat=>(n:Int)):=by
  rw[z,RK];have:∀(q:List Int),(∀n∈q,0<=n)->q=q.map ((λn:Nat=>(n:Int))∘Int.toNat):=by
   intro q;induction q with
   |nil=>intro _;rfl
   |cons y q ih=>intro h;rw[Tp,<-ih λn hn=>h n<|by simp[hn]];congr 1;have:=h y (by simp);simp only[Function.comp];omega
  exact this _ hp.1
 have A:e.sum<=LIM:=by rw[z];exact hp.2.1
 have V:e.length<=LIM:=by rw[z,RV];exact hp.2.2
 have W:d.length=e.length:=by rw[z,RV]
 have I:∀i,i<e.length->∃y:Nat,e[i]? =some y/\Nth d (i:Int) (y:Int):=λi hi=>by
  refine⟨e[i],TL hi,Int.natCast_nonneg i,?_⟩;rw[G];simp[hi]
 have J:∀i,(e.take i).sum<=e.sum:=λi=>by
  have:=congrArg List.sum<|RO i e;rw[List.sum_append]at this;omega
 have v:∀i y,e[i]? =some y->e.take (i+1)=e.take i++ [y]:=λi y h=>by rw[List.take_add_one,h];rfl
 have hL:LIM=1099511627776:=rfl;have hr:(d.map λn=>List.replicate n.toNat (0:UInt8))=e.map λn=>List.replicate n 0:=by rw[G,RK];rfl
 rw[hr];clear hr;obtain⟨ao,cap,e0⟩:=hs.val;rw[e0]at hs;simp only[e0];rw[W]at hs|-;refine R7 (vs:=[.slice ao e.length cap]) (l:=[(0,.slice ao e.length cap)]) Tryz.func65 rfl rfl ⟨rfl,trivial⟩ (λw hlt=>PA [] 11 ZF rfl ?_)
 -- how many in all
 refine JC.cut (λl o g=>l= [(0,.slice ao e.length cap),(2,.slice none 0 0),(3,.int .i64 ((e.sum:Nat):Int))]/\o= []/\H=g) ?_ ?_
 rotate_left
 ·
  refine Run.cl [] 3 ZF rfl<|ZA rfl rfl (Zt U33 rfl ⟨_,_,rfl⟩)<|PE [] 4 ZF rfl<|V1 (ι:=Nat) (λi=> [(0,.slice ao e.length cap),(2,.slice none 0 0),(9,.slice ao e.length cap),(10,.int .i64 (e.length:Int)),(3,.int .i64 (((e.take i).sum:Nat):Int)),(11,.int .i64 ((i:Nat):Int))]) (λ_=> []) (λ_=>H) (λi=>i<=e.length) (λi=>e.length-i) 0 (TQ _) ⟨rfl,rfl,rfl,rfl,rfl,rfl,trivial⟩ rfl rfl ?_;intro i hi;refine PA [] 6 ZF rfl<|Gi rfl (λc=> ?_) λc=> ?_
  ·
   have t:i<e.length:=(by have:=TO c;omega);obtain⟨y,hy,hN⟩:=I i t;obtain⟨b1,q1,L,M,N,hl1,O⟩:=IsSlice.elem hs hN;obtain rfl:L= [.int .i64 (y:Int)]:=N;have D:=v i y hy;have hw:w64 ((((e.take i).sum:Nat):Int)+(y:Int))=(((e.take (i+1)).sum:Nat):Int):=by
    have h1:=J (i+1);rw[D,List.sum_append]at h1|-;simp only[List.sum_cons,List.sum_nil,SI]at h1|-;rw[Jg (by omega)<|by omega];omega
   refine R5 [] 6 ZF rfl<|ZA rfl rfl (QS U33 S3 rfl rfl M)<|ZA rfl rfl (Qu S3 rfl<|O 0 _ rfl)<|PG [] 7 ZF rfl ?_;rw[hw];refine R9 [] 5 ZF rfl (ZA rfl rfl (Xk rfl rfl (TO c)<|by omega) ?_);refine R6 [] 2 ZF rfl<|VI (i:=i) (i+1) t (by omega) ⟨rfl,rfl,rfl,rfl,rfl,rfl,trivial⟩ rfl rfl
  ·
   have P:i=e.length:=(by have:=of_decide_eq_false c;omega);subst P;refine PR [] 4 ZF rfl ?_;rw[RN];exact JN.cut ⟨rfl,rfl,rfl⟩ ⟨rfl,rfl,rfl,trivial⟩ rfl rfl
 rintro _ _ _ ⟨rfl,rfl,rfl⟩;refine PB [] 4 ZF rfl<|ZTj U27 I5 rfl rfl A rfl rfl λhb hhb=>PE [] 4 ZF rfl<|JC.cut (λl o g=>∃(x:Option Addr) (Q j:Nat) (S:Own),l= [(2,.slice x Q j)]/\o= [S,[(hb,.cells (bvs<|List.replicate e.sum 0).toArray 5 (0,0))]]/\H=g/\RowOf (λ_ _=>none) (RPc hb) w.heap.size 27 1 (.slice x Q j) (offs 0 e) S) ?_ ?_
 rotate_left
 ·
  refine Run.cl [] 3 ZF rfl<|ZA rfl rfl (Zt U33 rfl ⟨_,_,rfl⟩)<|ZA rfl rfl (Yd rfl)<|ZKc<|PE [] 3 ZF rfl ?_;refine V1 (ι:=Nat×Nat×Option Addr×Nat×Nat×Own) (λi=> [(21,.slice ao e.length cap),(22,.int .i64 (e.length:Int)),(2,.slice i.2.2.1 i.2.2.2.1 i.2.2.2.2.1),(6,.slice (some ⟨hb,i.2.1,none⟩) (e.sum-(e.take i.1).sum)<|e.sum-(e.take i.1).sum),(23,.int .i64 ((i.1:Nat):Int))])
   (λi=> [i.2.2.2.2.2,[(hb,.cells (bvs<|List.replicate e.sum 0).toArray 5 (0,0))]]) (λ_=>H)
   (λi=>i.1<=e.length/\(e.sum-(e.take i.1).sum=0\/i.2.1=(e.take i.1).sum)/\RowOf (λ_ _=>none) (RPc hb) w.heap.size 27 1 (.slice i.2.2.1 i.2.2.2.1 i.2.2.2.2.1) (offs 0<|e.take i.1) i.2.2.2.2.2) (λi=>e.length-i.1) (0,0,none,0,0,[])
   ⟨TQ _,.inr rfl,RowOf.nil _ _ _ _ _⟩ ⟨rfl,rfl,rfl,rfl,rfl,trivial⟩ rfl rfl ?_
  rintro⟨i,s,x,Q,j,S⟩ ⟨hi,E,k⟩;dsimp only at hi E k|-;refine PA [] 6 ZF rfl<|Gi rfl (λc=> ?_) λc=> ?_
  ·
   have t:i<e.length:=(by have:=TO c;omega);obtain⟨y,hy,hN⟩:=I i t;obtain⟨b1,q1,L,M,N,hl1,O⟩:=IsSlice.elem hs hN;obtain rfl:L= [.int .i64 (y:Int)]:=N;have D:=v i y hy;have htot:=J (i+1);have hsm:(e.take (i+1)).sum=(e.take i).sum+y:=(by rw[D,List.sum_append];simp);obtain⟨f,X⟩:∃f,f=e.sum-(e.take i).sum:=⟨_,rfl⟩;rw[<-X]at E|-;have hyr:y<=f:=(by omega);have hcy:y=0\/s=(e.take i).sum:=by
    rcases E with h|h
    ·
     left;omega
    ·
     exact .inr h
   have B:e.sum-(e.take (i+1)).sum=f-y:=(by omega);have e31:Value.slice (some ⟨hb,s,none⟩) y y=sliced (some ⟨hb,s,none⟩) (0:Int).toNat (y:Int).toNat (y:Int).toNat 1:=by
    unfold sliced;simp only[T4,Rt,Nat.sub_zero,S7,Nat.zero_mul,add_lit,SI];split<;>rfl
   obtain⟨s2,hs2,e36⟩:∃s2,(f-y=0\/s2=(e.take (i+1)).sum)/\Value.slice (some ⟨hb,s2,none⟩) (f-y) (f-y)=sliced (some ⟨hb,s,none⟩) (y:Int).toNat (f:Int).toNat (f:Int).toNat 1:=by
    unfold sliced;simp only[T4,S7,add_lit,SY];by_cases h:f=y
    ·
     exact⟨s,.inl (by omega),by rw[TJ h]⟩
    ·
     refine⟨s+y,.inr ?_,by rw[TK h]⟩;rcases E with h'|h'<;>omega
   have hq:offs 0 (e.take (i+1))=offs 0 (e.take i)++ [((e.take i).sum,y)]:=(by rw[D,ZEr];simp[offs]);have hll:(offs 0<|e.take i).length+ [((e.take i).sum,y)].length<=LIM:=(by rw[DS,TH];simp only[Ts,RF];omega);refine R5 [] 6 ZF rfl (ZA rfl rfl (QS U33 S3 rfl rfl M)<|ZA rfl rfl (Qu S3 rfl<|O 0 _ rfl)<|R1 [] 9 ZF rfl<|ZA rfl rfl (R.slc (cap:=f) (a:=0) (b:=(y:Int)) (c:=(y:Int)) (m:=List.replicate f (0:UInt8)) (R:=RU8) (v':=.slice (some ⟨hb,s,none⟩) y y) U27 S5 rfl rfl ⟨_,rfl⟩ ⟨_,rfl⟩ ⟨SA _,by omega,SA _⟩ ⟨some ⟨hb,s,none⟩,by rw[SG],by omega,e31⟩ (.inr λh=>by cases h))<|KI (HF:=λ_ _=>none) (R:=RPc hb) (ls:=[((e.take i).sum,y)]) (vs:=[.slice (some ⟨hb,s,none⟩) y y]) U23 I27 rfl rfl (⟨_,_,rfl,rfl,⟨s,rfl,hcy⟩,rfl⟩) (RPc.one hb) rfl rfl rfl (by simp[maxLen]) rfl λv3 K3 h3=> ?_);obtain⟨ao3,cap3,rfl⟩:=RowOf.val h3;refine BW (HF:=λ_ _=>none) 1 U23 I27 rfl rfl k rfl (SrcF.row 0 U23 rfl h3) hq hll rfl (TF _) rfl λv4 K4 h4=> ?_;obtain⟨ao4,Y,rfl⟩:=RowOf.val h4;refine PG [] 6 ZF rfl (ZA rfl rfl (R.slc (cap:=f) (a:=(y:Int)) (b:=(f:Int)) (c:=(f:Int)) (m:=List.replicate f (0:UInt8)) (R:=RU8) (v':=.slice (some ⟨hb,s2,none⟩) (f-y) (f-y)) U27 S5 rfl ⟨_,rfl⟩ (by simp) ⟨some ⟨hb,s,none⟩,f,rfl,rfl⟩ ⟨by omega,by omega,SA _⟩ ⟨some ⟨hb,s,none⟩,by rw[SG],by omega,e36⟩ (.inl rfl)) ?_);refine R9 [] 5 ZF rfl (ZA rfl rfl (Xk rfl rfl (TO c)<|by omega) ?_);refine R6 [] 2 ZF rfl<|JN.forget 0<|VI (i:=(i,s,x,Q,j,S)) (i+1,s2,ao4,_,Y,K4) ⟨t,by dsimp only;rw[B];exact hs2,h4⟩ (by dsimp only;omega) ⟨rfl,rfl,rfl,by dsimp only;rw[B];rfl,rfl,trivial⟩ rfl rfl
  ·
   have P:i=e.length:=(by have:=of_decide_eq_false c;omega);subst P;refine PR [] 4 ZF rfl ?_;rw[RN]at k;exact JN.cut ⟨_,_,_,_,rfl,rfl,rfl,k⟩ ⟨rfl,trivial⟩ rfl rfl
 rintro _ _ _ ⟨x,Q,j,S,rfl,rfl,rfl,k⟩;refine PK [] 2 ZF rfl (ZU (vs:=[.slice x Q j]) (K:=[S++ [(hb,.cells (bvs<|List.replicate e.sum 0).toArray 5 (0,0))]]) (rst:=[]) (.inl rfl) rfl rfl (ZW rfl rfl) (by simp) ?_);have C:(e.map λn=>List.replicate n (0:UInt8)).flatten=List.replicate e.sum 0:=by
  clear I v J hs k G z W A V;induction e with
  |nil=>rfl
  |cons y r ih=>rw[Tp,TP,ih,List.sum_cons,List.replicate_append_replicate]
 have T:lens (e.map λn=>List.replicate n (0:UInt8))=e:=by unfold lens;rw[RK];simp[Function.comp_def]
 refine⟨x,Q,j,_,rfl,rfl,rfl,⟨hb,S,?_,TQ _,?_,?_⟩,(λp hp hm=>by cases hm),trivial⟩
 ·
  rw[C]
 ·
  rw[C,SG];exact QO A
 ·
  rw[T];exact RowOf.weak (TQ _) k
theorem ZM5 (H:Heaplet)(r:Disk)(g:UY=some r):
  Does Tryz.prog 101 #[] [] H (λu K' E=>∃n:Option Addr,∃D:Nat,∃e:Nat,∃B:Own,∃o:Option Addr,∃t:Nat,u=.agg #[.slice n D e,.slice o t t]/\K'= [B]/\Pcs 0 5 27 (.slice n D e) r.Blocks B/\(∀p∈B,p.1∉ids (List.flatten []))/\IsSlice (New H E) R_Write 2 (.slice o t t) r.Waits/\True):=by
 refine R7 (vs:=[]) (l:=[]) Tryz.func101 rfl rfl trivial λw C=> ?_;unfold UY at g;refine Run.cl [] 2 ZF rfl (JL.alloc Z26 rfl λI J=>R1 [] 4 ZF rfl<|KI (HF:=(New H H)) (R:=RInt) (ls:=[256]) (vs:=[.int .i64 256]) U33 I3 rfl rfl (⟨_,_,rfl,rfl,rfl,rfl⟩) RInt.one rfl rfl rfl (by simp[maxLen]) rfl λL M c=> ?_);obtain⟨N,O,rfl⟩:=RowOf.val c;obtain⟨i,j,g⟩:=ZT g;refine Gh (vs:=[_,_]) E168 rfl rfl (λP k m=>DK ([256]) 256 _ (Pr 0 m RInt.mono k rfl<|c.old RInt.mono) _ j) rfl λ_ _ _ _ q s=> ?_;obtain⟨Q,S,T,U,rfl,rfl,rfl,b,-,-⟩:=q;replace b:=RowOf.base (Ym (H2:=New H H) RInt.const b) λp A=>s p<|Yc 0 rfl A;refine JL.pubN 0 RInt.mono rfl b (TF _) λV W v=>JL.forget 0 ?_;obtain⟨X,x,g⟩:=ZT g;refine Z2 (vs:=[_]) (args:=[_]) (K:=[]) (rst:=[_,_]) E65 rfl rfl rfl ZP (ZHf i _ (v.old RInt.mono) _ x) rfl λY Z b8 y b9 z=> ?_;obtain⟨d,f,h,F,rfl,rfl,rfl,a,G,-⟩:=y;replace a:=(Pcs.base a λp A=>(z p<|Yc 0 rfl A).resolve_left<|G p A);refine PD [2] 5 ZF rfl<|ZU (vs:=[.agg #[.slice d f h,.slice none 0 0]]) (K:=[_]) (rst:=[_,_]) (.inl rfl) rfl rfl (Qm 2 rfl rfl S26 rfl) (ZD 0 rfl ZP) ?_;obtain rfl:=TB g;exact⟨d,f,h,F,none,0,rfl,rfl,(Pcs.weak (TQ _) a),(ZGw a C),(IsSlice.nil _ _ _),trivial⟩
theorem ZHv (b:List UInt8)(H:Heaplet){ao:Option Addr}{n cap:Nat}(hs:IsSlice H RU8 1 (.slice ao n cap) b)(r:List UInt8)(h:og_bytes_Clone b=some r):
  Does Tryz.prog 42 #[.slice ao n cap] [] H (λu K' k=>∃d:Option Addr,∃m:Nat,∃c:Nat,∃g:Own,u=.slice d m c/\K'= [g]/\H=k/\RowOf (New H k) RU8 0 5 1 (.slice d m c) r g/\(∀p∈g,p.1∉ids (List.flatten []))/\True):=by
 rw[og_bytes_Clone.eq_1]at h;obtain⟨q,i,s,h⟩:=Xg h;obtain rfl:=TB h;refine Does.enter (vs:=[.slice ao n cap]) (l:=[(0,.slice ao n cap)]) Tryz.func42 rfl rfl ⟨rfl,trivial⟩ λw=>Run.cl [] 9 ZF rfl<|ZA rfl rfl (Uy U27 rfl rfl)<|R0 [] 2 ZF rfl ?_;cases ao with
 |none=>
  have f:=hs.none_nil;subst f;simp only[Th]at i;subst i;refine R8 [] 8 ZF rfl<|KG<|ZU (vs:=[.slice none 0 0]) (K:=[_]) (rst:=[]) (.inl rfl) rfl rfl (ZW rfl rfl) (ZD 0 rfl ZP) ?_;exact⟨none,0,0,[],rfl,rfl,rfl,RowOf.nil _ _ _ _ _,(λp f=>by cases f),trivial⟩
 |some a=>
  refine R5 [] 5 ZF rfl (KI (HF:=New H H) (R:=RU8) (ls:=[]) (vs:=[]) U27 I5 rfl rfl rfl RU8.one rfl rfl rfl (by simp[maxLen]) rfl λx y h1=> ?_);obtain⟨t,o,rfl⟩:=RowOf.val h1;refine ZA rfl rfl (Yd rfl)<|BW (HF:=New H H) 0 U27 I5 rfl rfl h1 rfl (OF RU8.const RU8.one U27 hs) i s rfl (TF _) rfl λz K2 h2=> ?_;obtain⟨j,e,rfl⟩:=RowOf.val h2;refine PD [] 4 ZF rfl<|ZU (vs:=[.slice j _ e]) (K:=[_]) (rst:=[]) (.inl rfl) rfl rfl (ZW rfl rfl) (ZD 0 rfl ZP) ?_;exact⟨_,_,_,_,rfl,rfl,rfl,RowOf.weak (TQ _) h2,(λp f v=>by cases v),trivial⟩
theorem Dq (b9:Disk)(H:Heaplet){y:Option Addr}{z:Nat}{G:Nat}{I:Option Addr}{J:Nat}{L:Nat}(a:IsSlice H (RSl RU8 1) 1 (.slice y z G) b9.Blocks)(c0:IsSlice H R_Write 2 (.slice I J L) b9.Waits)(r:Disk)(e:XD b9=some r):
  Does Tryz.prog 28 #[.agg #[.slice y z G,.slice I J L]] [] H (λu K' H'=>∃C:Option Addr,∃n0:Nat,∃t:Nat,∃K0:Own,∃D:Option Addr,∃n1:Nat,∃A:Nat,∃K1:Own,u=.agg #[.slice C n0 t,.slice D n1 A]/\K'= [K0,K1]/\Pcs 0 5 27 (.slice C n0 t) r.Blocks K0/\(∀p∈K0,p.1∉ids (List.flatten []))/\RowOf (New H H') R_Write 0 127 2 (.slice D n1 A) r.Waits K1/\(∀p∈K1,p.1∉ids (List.flatten []))/\True):=by
 refine R7 (vs:=[.agg #[.slice y z G,.slice I J L]]) (l:=[(0,.agg #[.slice y z G,.slice I J L])]) Tryz.func28 rfl rfl ⟨rfl,trivial⟩ λw E=> ?_;unfold XD at e;refine Run.cl [] 2 ZF rfl<|Y6 rfl rfl λk0 k1=>JL.alloc Z26 rfl λd4 k2=>R1 [1] 12 ZF rfl<|ZA rfl rfl (Zt U23 rfl<|IsSlice.long a)<|R0 [] 3 ZF rfl<|YC e [1,2] [1,0] rfl rfl (λM l0 n l o g=>∃c1:Option Addr,∃c2:Nat,∃c3:Nat,∃c4:Own,l=(3,.slice c1 c2 c3)::l0/\o=c4::n/\H=g/\RowOf (New H H) RInt w.heap.size 3 1 (.slice c1 c2 c3) M c4) (λM k3 e=> ?_) λM k4 e=> ?_
 ·
  rintro _ _ _ ⟨c1,c2,c3,c4,rfl,rfl,rfl,f7⟩;refine PB [] 4 ZF rfl<|JL.pubN 0 RInt.mono rfl f7 (TF _) λj d5 f8=>JL.forget 0 ?_;obtain⟨k5,f9,e⟩:=ZT e;refine Z2 (vs:=[_]) (args:=[_]) (K:=[]) (rst:=[_,_]) E65 rfl rfl rfl ZP (ZHf M _ (f8.old RInt.mono) _ f9) rfl λk6 k7 k8 g0 k9 g1=> ?_;obtain⟨b,c,d,g2,rfl,rfl,rfl,c5,g3,-⟩:=g0;replace c5:=(Pcs.base c5 λp F=>(g1 p<|Yc 0 rfl F).resolve_left<|g3 p F);refine R1 [2,1] 9 ZF rfl<|ZA rfl rfl (Zt U23 rfl<|IsSlice.long a)<|R0 [] 3 ZF rfl<|YC e [1,2] [1,2] rfl rfl (λc6 l0 n l o g=>∃N:Own,l=l0/\o=N::n/\j=g/\Pcs w.heap.size 5 27 (.slice b c d) c6 N) (λc6 l1 e=> ?_) λc6 l2 e=> ?_
  ·
   rintro _ _ _ ⟨N,rfl,rfl,rfl,d6⟩;refine PB [1] 6 ZF rfl<|ZA rfl rfl (Zt U24 rfl<|IsSlice.long c0)<|R0 [] 3 ZF rfl<|YC e [2] [0] rfl rfl (λc7 l0 n l o g=>∃O:Heaplet,∃k:Option Addr,∃m:Nat,∃q:Nat,∃P:Own,l=l0/\o= [(d4,.cells #[.slice b c d,.slice k m q] 26 (0,0))]::P::n/\O=g/\Hle j O/\RowOf (New H O) R_Write w.heap.size 127 2 (.slice k m q) c7 P) (λc7 l3 e=> ?_) λc7 l4 e=> ?_
   ·
    rintro _ _ _ ⟨O,k,m,q,P,rfl,rfl,rfl,l5,d7⟩;refine PK [] 2 ZF rfl<|ZU (vs:=[.agg #[.slice b c d,.slice k m q]]) (K:=[_,_]) (rst:=[_]) (.inl rfl) rfl rfl (Qm 0 rfl rfl S26 rfl) (ZD 2 rfl<|ZD 1 rfl ZP) ?_;obtain rfl:=TB e;exact⟨b,c,d,N,k,m,q,P,rfl,rfl,(Pcs.weak (TQ _) d6),(ZGw d6 E),(RowOf.weak (TQ _) d7),(Qk d7 E),trivial⟩
   ·
    refine JC.block<|ZOB<|JC.forget 2<|ZL 1 rfl<|ZL 1 rfl<|ZL 2 rfl<|YJ [2,43,44] [2] rfl rfl (λl0 n Q l o g=>∃f:Heaplet,∃S:Option Addr,∃T:Nat,∃U:Nat,∃V:Own,l=(45,.int .i64 ((Q.2:Nat):Int))::l0/\o= [(d4,.cells #[.slice b c d,.slice S T U] 26 (0,0))]::V::n/\f=g/\Hle j f/\RowOf (New H f) R_Write w.heap.size 127 2 (.slice S T U) Q.1 V) e ⟨j,none,0,0,[],rfl,rfl,rfl,(Rz _),(RowOf.nil _ _ _ _ _)⟩ rfl ?_
    ·
     rintro l6 Q _ _ _ ⟨f,S,T,U,V,rfl,rfl,rfl,c8,d8⟩ l7 e d9;unfold QZ at e;refine PA [] 6 ZF rfl<|Zi e rfl (λe0 e=> ?_) λe0 e=> ?_
     ·
      refine R5 [] 6 ZF rfl ?_;obtain⟨s,g4,e⟩:=Zh e;obtain⟨l8,l9,m0,g5,g6,m1,g7⟩:=IsSlice.elem (c0.mono R_Write.mono<|d5.trans c8) g4;obtain⟨m2,rfl,e1⟩:=g6;obtain⟨m3,m4,rfl⟩:=IsSlice.val e1;refine ZA rfl rfl (QS U24 S127 rfl rfl g5) (ZA rfl rfl (Ws 0 S127 rfl g7 rfl rfl)<|JL.alloc Z127 rfl λm5 m6=>R0 [0] 3 ZF rfl<|Q7 (so:=[(_,[]),(_,[9,11]),(_,[9]),(_,[])]) 12 rfl Mixed ⟨by kernel_rfl,by kernel_rfl⟩ (XF [0,1,2,3] rfl) ?_);refine JB.val (i:=0) [] rfl (ZMC F26_1 rfl) ?_;refine JB.val (i:=1) [9,10,11] rfl (Jc 1 S24 rfl rfl rfl) ?_;refine JB.run 4 [2,3,4,5] [0,0] ZF rfl ?_;refine JB.one (i:=6) (by kernel_rfl) ?_;refine JOB.step rfl trivial rfl λK B=> ?_;obtain⟨g8,g9,e⟩:=ZT e;refine Z2 (vs:=[_]) (args:=[_]) (K:=[]) (rst:=[_,_,_,_]) E42 rfl rfl rfl ZP (ZHv s.Data _ e1 _ g9) rfl λm7 m8 m9 h0 n2 h1=> ?_;obtain⟨c9,d0,d1,n3,rfl,rfl,rfl,d2,h2,-⟩:=h0;replace d2:=(RowOf.base (Ym (H2:=New H f) RU8.const d2) λp F=>(h1 p<|Yc 0 rfl F).resolve_left<|h2 p F);refine JL.nil<|B _ _ _ (Rz _) (XF [1,2,3,4] rfl) ?_;refine JB.val (i:=7) [] rfl (ZKa (vs:=[(0,.int .i64 s.At),(1,.slice c9 d0 d1)]) (cs:=[.int .i64 s.At,.slice c9 d0 d1]) Z127 B127 rfl rfl rfl) ?_;refine JB.one (i:=8) (by kernel_rfl) ?_;refine JOB.step rfl trivial rfl (λK B=>JL.pubN 0 RU8.mono rfl d2 (TF _) λd3 v h3=>JL.forget 0<|KI (HF:=(New H d3)) (R:=R_Write) (ls:=[Write.mk s.At g8]) (vs:=[.agg #[.int .i64 s.At,.slice c9 d0 d1]]) U24 I127 rfl rfl (⟨_,_,rfl,rfl,⟨_,rfl,h3⟩,rfl⟩) R_Write.one rfl rfl rfl (by simp[maxLen]) rfl λn4 n5 e2=> ?_);obtain⟨n6,n7,rfl⟩:=RowOf.val e2;refine JL.nil<|B _ _ _ v (XF [1,2,3,4] rfl) ?_;refine JB.one (i:=9) (by kernel_rfl) ?_;refine JOB.step rfl trivial rfl λK B=> ?_;obtain⟨e3,h4,h5,e⟩:=Xg e;refine BW (HF:=(New H d3)) 3 U24 I127 rfl rfl (d8.mono R_Write.mono<|New.mono v) rfl (SrcF.row 0 U24 rfl e2) h4 h5 rfl (TF _) rfl λn8 h6 e4=> ?_;obtain⟨h7,h8,rfl⟩:=RowOf.val e4;refine JL.nil (B _ _ _ v (Ue [false,true,true,false] [1,0,0,4] (by kernel_rfl) rfl) ?_);refine JB.val (i:=10) [] rfl (ZMC F26_1 rfl) ?_;refine JB.one (i:=11) (by kernel_rfl) ?_;refine JOB.step rfl trivial rfl (λK B=>R6 [2] 2 ZF rfl<|B _ _ _ v (Ue [false,true,true,false] [1,0,0,4] (by kernel_rfl) rfl) ?_);refine PH (by kernel_rfl) ?_;refine Po [] 3 ZF rfl<|ZA rfl rfl (Xk rfl rfl (TO e0)<|IsSlice.lenI c0)<|R6 [] 2 ZF rfl ?_;replace e:=Zk d9 e;refine JN.forget 1<|JN.forget 0<|ZB 2 rfl<|ZB 2 rfl<|ZB 2 rfl ?_;exact ZN ⟨(e3,Q.2+1),⟨d3,h7,e3.length,h8,h6,rfl,rfl,rfl,((c8.trans v)),e4⟩,e⟩ rfl rfl rfl
     ·
      refine R8 [] 2 ZF rfl ?_;obtain rfl:=Zo d9 e;refine R3 [] 2 ZF rfl<|ZB 2 rfl<|ZB 2 rfl<|ZB 2 rfl ?_;exact ZN ⟨f,S,T,U,V,rfl,rfl,rfl,(c8),d8⟩ rfl rfl rfl
  ·
   refine JC.block<|ZL 2 rfl<|ZL 2 rfl<|ZL 2 rfl<|YJ [1,2,27,28] [1,2] rfl rfl (λl0 n W l o g=>∃x:Own,l=(29,.int .i64 ((W.2:Nat):Int))::l0/\o=x::n/\j=g/\Pcs w.heap.size 5 27 (.slice b c d) W.1 x) e ⟨g2,rfl,rfl,rfl,c5⟩ rfl ?_
   ·
    rintro n9 W _ _ _ ⟨x,rfl,rfl,rfl,h⟩ o1 e e5;unfold Qa at e;refine PA [] 6 ZF rfl<|Zi e rfl (λe6 e=> ?_) λe6 e=> ?_
    ·
     refine R5 [] 7 ZF rfl ?_;obtain⟨o2,h9,e⟩:=Zh e;obtain⟨o3,o4,o5,i0,i1,o6,i2⟩:=IsSlice.elem (a.mono (RSl.mono RU8.mono) d5) h9;obtain⟨o7,rfl,e7⟩:=i1;obtain⟨o8,o9,rfl⟩:=IsSlice.val e7;refine ZA rfl rfl (QS U23 S27 rfl rfl i0)<|ZA rfl rfl (Qu S27 rfl<|i2 0 _ rfl)<|PG [2] 8 ZF rfl ?_;obtain⟨p0,e8,e⟩:=Zh e;obtain⟨p1,p2,p3,p4,i3,i4,i5,i6⟩:=Pcs.at h e8;refine ZA rfl rfl (QS U23 S27 rfl rfl i3)<|ZA rfl rfl (ZQV 0 S27 rfl rfl i4 i5)<|ZA rfl rfl (Yd rfl) ?_;obtain⟨i7,e⟩:=ZI e;obtain⟨i8,i9,p5,e⟩:=X9 e;refine ZQd 0 U27 S5 rfl h e8 i6 rfl rfl (Rz _) e7 i7 rfl λj0 e9=> ?_;rw[<-i9]at e9;refine R9 [] 4 ZF rfl<|ZA rfl rfl (Xk rfl rfl (TO e6)<|IsSlice.lenI a)<|R6 [] 2 ZF rfl ?_;replace e:=Zk e5 e;refine ZB 2 rfl<|ZB 2 rfl<|ZB 2 rfl ?_;exact ZN ⟨(i8,W.2+1),⟨j0,rfl,rfl,rfl,e9⟩,e⟩ rfl rfl rfl
    ·
     refine R8 [] 2 ZF rfl ?_;obtain rfl:=Zo e5 e;refine R3 [] 2 ZF rfl<|ZB 2 rfl<|ZB 2 rfl<|ZB 2 rfl ?_;exact ZN ⟨x,rfl,rfl,rfl,h⟩ rfl rfl rfl
 ·
  refine JC.block<|ZOB<|ZL 1 rfl<|ZL 2 rfl<|ZL 2 rfl<|YJ [1,2,11,12] [1,2] rfl rfl (λl0 n X l o g=>∃Y:Option Addr,∃Z:Nat,∃b7:Nat,∃b8:Own,l=(3,.slice Y Z b7)::(13,.int .i64 ((X.2:Nat):Int))::l0/\o=b8::n/\H=g/\RowOf (New H H) RInt w.heap.size 3 1 (.slice Y Z b7) X.1 b8) e ⟨none,0,0,[],rfl,rfl,rfl,(RowOf.nil _ _ _ _ _)⟩ rfl ?_
  ·
   rintro p6 X _ _ _ ⟨Y,Z,b7,b8,rfl,rfl,rfl,f0⟩ p7 e f1;unfold Qb at e;refine PA [] 6 ZF rfl<|Zi e rfl (λf2 e=> ?_) λf2 e=> ?_
   ·
    refine R5 [] 6 ZF rfl ?_;obtain⟨f3,j1,e⟩:=Zh e;obtain⟨p8,p9,q0,j2,j3,q1,j4⟩:=IsSlice.elem a j1;obtain⟨q2,rfl,f4⟩:=j3;obtain⟨q3,q4,rfl⟩:=IsSlice.val f4;refine ZA rfl rfl (QS U23 S27 rfl rfl j2) (ZA rfl rfl (Qu S27 rfl<|j4 0 _ rfl)<|PG [] 6 ZF rfl<|ZA rfl rfl (Zt U27 rfl<|IsSlice.long f4)<|KI (HF:=(New H H)) (R:=RInt) (ls:=[(f3.length:Int)]) (vs:=[.int .i64 (f3.length:Int)]) U33 I3 rfl rfl (⟨_,_,rfl,rfl,rfl,rfl⟩) RInt.one rfl rfl rfl (by simp[maxLen]) rfl λq5 x h=> ?_);obtain⟨q6,q7,rfl⟩:=RowOf.val h;obtain⟨f5,j5,j6,e⟩:=Xg e;refine BW (HF:=(New H H)) 1 U33 I3 rfl rfl f0 rfl (SrcF.row 0 U33 rfl h) j5 j6 rfl (TF _) rfl λq8 j7 f6=> ?_;obtain⟨j8,j9,rfl⟩:=RowOf.val f6;refine R9 [] 5 ZF rfl<|ZA rfl rfl (Xk rfl rfl (TO f2)<|IsSlice.lenI a)<|R6 [] 2 ZF rfl ?_;replace e:=Zk f1 e;refine JN.forget 0<|ZB 2 rfl<|ZB 2 rfl<|ZB 2 rfl ?_;exact ZN ⟨(f5,X.2+1),⟨j8,f5.length,j9,j7,rfl,rfl,rfl,f6⟩,e⟩ rfl rfl rfl
   ·
    refine R8 [] 2 ZF rfl ?_;obtain rfl:=Zo f1 e;refine R3 [] 2 ZF rfl<|ZB 2 rfl<|ZB 2 rfl<|ZB 2 rfl ?_;exact ZN ⟨Y,Z,b7,b8,rfl,rfl,rfl,f0⟩ rfl rfl rfl
theorem G9{c}:Con Tryz.prog 26 true ([.i c]) (Ku c) (λr=> [.b r]):=by
 intro H r h;refine PU Tryz.func26 rfl rfl ?_;intro w;unfold Ku at h;refine Run.cl [] 8 ZF rfl<|ZA rfl rfl (Qn U3 U124 rfl)<|ZA rfl rfl (ZN0 (a:=u64i c) (b:=(256:UInt64)) rfl rfl)<|PD [] 4 ZF rfl ?_;exact ZAe [] rfl h rfl rfl
theorem ZKD{s}:Con Tryz.prog 63 true (ZQw false s) (Gu s) (λr=> [.i r]):=by
 intro H L M N d O P Q a r e;refine PU Tryz.func63 rfl rfl ?_;intro w;unfold Gu at e;refine Run.cl [] 2 ZF rfl<|Y6 rfl rfl λb8 R=>PE [] 4 ZF rfl<|YC e [1] [0] rfl rfl (λj l0 n l o g=>l=(3,.bool j)::l0/\o=n/\H=g) (λj c0 e=> ?_) λj S e=> ?_
 ·
  rintro _ _ _ ⟨rfl,rfl,rfl⟩;refine PB [0] 6 ZF rfl<|ZA rfl rfl (Zt U23 rfl<|IsSlice.long d)<|R0 [] 3 ZF rfl<|YC e [1] [0] rfl rfl (λk l0 n l o g=>l=(3,.bool k)::l0/\o=n/\H=g) (λk T e=> ?_) λk U e=> ?_
  ·
   rintro _ _ _ ⟨rfl,rfl,rfl⟩;refine PB [0] 6 ZF rfl<|ZA rfl rfl (Zt U24 rfl<|IsSlice.long a)<|R0 [] 3 ZF rfl<|YC e [] [] rfl rfl (λm l0 n l o g=>l=(3,.bool m)::l0/\o=n/\H=g) (λm V e=> ?_) λm W e=> ?_
   ·
    rintro _ _ _ ⟨rfl,rfl,rfl⟩;refine OD [] 7 ZF rfl<|Zi e rfl (λb e=> ?_) λb e=> ?_
    ·
     refine R8 [] 7 ZF rfl ?_;exact ZAe [] rfl e rfl rfl
    ·
     refine P8 [] 8 ZF rfl ?_;exact ZAe [] rfl e rfl rfl
   ·
    refine JC.block<|JC.forget 0<|YJ [33,34] [] rfl rfl (λl0 n c l o g=>l=(3,.bool c.1)::(35,.int .i64 ((c.2:Nat):Int))::l0/\o=n/\H=g) e ⟨rfl,rfl,rfl⟩ rfl ?_
    ·
     rintro X c _ _ _ ⟨rfl,rfl,rfl⟩ Y e h;unfold BZ at e;refine PA [] 6 ZF rfl<|Zi e rfl (λb e=> ?_) λb e=> ?_
     ·
      refine R5 [] 6 ZF rfl ?_;obtain⟨y,z,e⟩:=Zh e;obtain⟨Z,c9,d0,t,u,d1,A⟩:=IsSlice.elem a z;obtain⟨d2,rfl,v⟩:=u;obtain⟨d3,d4,rfl⟩:=IsSlice.val v;refine ZA rfl rfl (QS U24 S127 rfl rfl t)<|ZA rfl rfl (Ws 0 S127 rfl A rfl rfl)<|JL.alloc Z127 rfl λd5 d6=>PG [0] 6 ZF rfl<|ZBj 40 e rfl (λB e=> ?_) λB e=> ?_
      ·
       refine PC [0] 5 ZF rfl<|Je e E26 rfl G9 rfl trivial ?_;intro d7 d8 e;refine PC [] 2 ZF rfl<|ZBj 45 e rfl (λC e=> ?_) λC e=> ?_
       ·
        refine PC [0] 5 ZF rfl<|ZA rfl rfl (Zt U27 rfl<|IsSlice.long v)<|R9 [] 8 ZF rfl<|ZA rfl rfl (Xk rfl rfl (TO b)<|IsSlice.lenI a)<|R6 [] 2 ZF rfl ?_;replace e:=Zk h e;refine JN.forget 0 ?_;exact ZN ⟨(decide<|(y.Data.length:Int)=256,c.2+1),⟨rfl,rfl,rfl⟩,e⟩ rfl rfl rfl
       ·
        refine R9 [] 10 ZF rfl<|ZA rfl rfl (Xk rfl rfl (TO b)<|IsSlice.lenI a)<|R6 [] 2 ZF rfl ?_;replace e:=Zk h e;refine JN.forget 0 ?_;exact ZN ⟨(false,c.2+1),⟨rfl,rfl,rfl⟩,e⟩ rfl rfl rfl
      ·
       refine R9 [] 15 ZF rfl<|ZA rfl rfl (Xk rfl rfl (TO b)<|IsSlice.lenI a)<|R6 [] 2 ZF rfl ?_;replace e:=Zk h e;refine JN.forget 0 ?_;exact ZN ⟨(false,c.2+1),⟨rfl,rfl,rfl⟩,e⟩ rfl rfl rfl
     ·
      refine R8 [] 2 ZF rfl ?_;obtain rfl:=Zo h e;refine R3 [] 2 ZF rfl ?_;exact ZN ⟨rfl,rfl,rfl⟩ rfl rfl rfl
  ·
   refine JC.block<|YJ [1,19,20] [0] rfl rfl (λl0 n f l o g=>l=(3,.bool f.1)::(21,.int .i64 ((f.2:Nat):Int))::l0/\o=n/\H=g) e ⟨rfl,rfl,rfl⟩ rfl ?_
   ·
    rintro d9 f _ _ _ ⟨rfl,rfl,rfl⟩ e0 e p;unfold Ba at e;refine PA [] 6 ZF rfl<|Zi e rfl (λq e=> ?_) λq e=> ?_
    ·
     refine R5 [] 6 ZF rfl ?_;obtain⟨D,E,e⟩:=Zh e;obtain⟨e1,e2,e3,F,G,e4,I⟩:=IsSlice.elem d E;obtain⟨e5,rfl,x⟩:=G;obtain⟨e6,e7,rfl⟩:=IsSlice.val x;refine ZA rfl rfl (QS U23 S27 rfl rfl F)<|ZA rfl rfl (Qu S27 rfl<|I 0 _ rfl)<|PG [] 6 ZF rfl<|ZBj 26 e rfl (λJ e=> ?_) λJ e=> ?_
     ·
      refine PC [] 3 ZF rfl<|ZA rfl rfl (Zt U27 rfl<|IsSlice.long x)<|R9 [] 8 ZF rfl<|ZA rfl rfl (Xk rfl rfl (TO q)<|IsSlice.lenI d)<|R6 [] 2 ZF rfl ?_;replace e:=Zk p e;exact ZN ⟨(decide<|(D.length:Int)=256,f.2+1),⟨rfl,rfl,rfl⟩,e⟩ rfl rfl rfl
     ·
      refine R9 [] 9 ZF rfl<|ZA rfl rfl (Xk rfl rfl (TO q)<|IsSlice.lenI d)<|R6 [] 2 ZF rfl ?_;replace e:=Zk p e;exact ZN ⟨(false,f.2+1),⟨rfl,rfl,rfl⟩,e⟩ rfl rfl rfl
    ·
     refine R8 [] 2 ZF rfl ?_;obtain rfl:=Zo p e;refine R3 [] 2 ZF rfl ?_;exact ZN ⟨rfl,rfl,rfl⟩ rfl rfl rfl
 ·
  refine Pd [0] 3 ZF rfl<|ZA rfl rfl (Zt U23 rfl<|IsSlice.long d)<|PC [] 2 ZF rfl<|ZBj 12 e rfl (λK e=> ?_) λK e=> ?_
  ·
   refine PC [0] 5 ZF rfl<|ZA rfl rfl (Zt U24 rfl<|IsSlice.long a)<|R6 [] 5 ZF rfl ?_;obtain rfl:=TB e;exact ZN ⟨rfl,rfl,rfl⟩ rfl rfl rfl
  ·
   refine R6 [] 7 ZF rfl ?_;obtain rfl:=TB e;exact ZN ⟨rfl,rfl,rfl⟩ rfl rfl rfl
theorem Gq (b:List (List UInt8))(H:Heaplet){ao:Option Addr}{n cap:Nat}(hs:IsSlice H (RSl RU8 1) 1 (.slice ao n cap) b)(r:List (List UInt8))(h:og_slices_Clone_byte_L b=some r):
  Does Tryz.prog 112 #[.slice ao n cap] [] H (λu K' k=>∃d:Option Addr,∃m:Nat,∃c:Nat,∃g:Own,u=.slice d m c/\K'= [g]/\H=k/\RowOf k (RSl RU8 1) 0 27 1 (.slice d m c) r g/\(∀p∈g,p.1∉ids (List.flatten []))/\True):=by
 rw[og_slices_Clone_byte_L.eq_1]at h;obtain⟨q,i,s,h⟩:=Xg h;obtain rfl:=TB h;refine Does.enter (vs:=[.slice ao n cap]) (l:=[(0,.slice ao n cap)]) Tryz.func112 rfl rfl ⟨rfl,trivial⟩ λw=>Run.cl [] 9 ZF rfl<|ZA rfl rfl (Uy U23 rfl rfl)<|R0 [] 2 ZF rfl ?_;cases ao with
 |none=>
  have f:=hs.none_nil;subst f;simp only[Th]at i;subst i;refine R8 [] 8 ZF rfl<|KG<|ZU (vs:=[.slice none 0 0]) (K:=[_]) (rst:=[]) (.inl rfl) rfl rfl (ZW rfl rfl) (ZD 0 rfl ZP) ?_;exact⟨none,0,0,[],rfl,rfl,rfl,RowOf.nil _ _ _ _ _,(λp f=>by cases f),trivial⟩
 |some a=>
  refine R5 [] 5 ZF rfl (KI (HF:=H) (R:=(RSl RU8 1)) (ls:=[]) (vs:=[]) U23 I27 rfl rfl rfl RSl.one rfl rfl rfl (by simp[maxLen]) rfl λx y h1=> ?_);obtain⟨t,o,rfl⟩:=RowOf.val h1;refine ZA rfl rfl (Yd rfl)<|BW (HF:=H) 0 U23 I27 rfl rfl h1 rfl (SrcF.slice RSl.one U23 (Rz _) hs) i s rfl (TF _) rfl λz K2 h2=> ?_;obtain⟨j,e,rfl⟩:=RowOf.val h2;refine PD [] 4 ZF rfl<|ZU (vs:=[.slice j _ e]) (K:=[_]) (rst:=[]) (.inl rfl) rfl rfl (ZW rfl rfl) (ZD 0 rfl ZP) ?_;exact⟨_,_,_,_,rfl,rfl,rfl,RowOf.weak (TQ _) h2,(λp f v=>by cases v),trivial⟩
theorem ZM4{a}:Con Tryz.prog 130 true ([.i a]) (ZBx a) (λr=> [.b r]):=by
 intro H r h;refine PU Tryz.func130 rfl rfl ?_;intro w;unfold ZBx at h;refine Run.cnz [] 11 ZF rfl ?_;exact ZAe [] rfl h rfl rfl
theorem ZKC (y:Disk)(H:Heaplet){m:Value}{c:Option Addr}{d:Nat}{f:Nat}(h:IsSlice H R_Write 2 (.slice c d f) y.Waits)(r:(List (Int×Write)))(e:Kv y=some r):
  Does Tryz.prog 180 #[.agg #[m,.slice c d f],.func (.func 130) #[] #[]] [] H (λu K' E=>∃F:Option Addr,∃B:Nat,∃C:Nat,∃n:Own,u=.map (some B)/\K'= [n]/\H=E/\MapOf H R_Write 0 B r n/\(∀p∈n,p.1∉ids (List.flatten []))/\True):=by
 refine R7 (vs:=[.agg #[m,.slice c d f],.func (.func 130) #[] #[]]) (l:=[(0,.agg #[m,.slice c d f]),(1,.func (.func 130) #[] #[])]) Tryz.func180 rfl rfl ⟨rfl,rfl,trivial⟩ λw t=> ?_;unfold Kv at e;refine Run.cl [] 2 ZF rfl<|Y6 rfl rfl λT U=>R1 [] 5 ZF rfl<|ZEc (New H H) R_Write rfl λi G I=>R1 [1] 8 ZF rfl<|ZA rfl rfl (Zt U24 rfl<|IsSlice.long h)<|R0 [] 3 ZF rfl<|YC e [5] [] rfl rfl (λq l0 A l o g=>∃j:Own,l=l0/\o=j::A/\H=g/\MapOf H R_Write w.heap.size i q j) (λq V e=> ?_) λq W e=> ?_
 ·
  rintro _ _ _ ⟨j,rfl,rfl,rfl,z⟩;refine PK [] 8 ZF rfl<|ZU (vs:=[.map<|some i]) (K:=[_]) (rst:=[]) (.inl rfl) rfl rfl (ZW rfl rfl) (ZD 0 rfl ZP) ?_;obtain rfl:=TB e;exact⟨none,i,0,j,rfl,rfl,rfl,(MapOf.weak (TQ _) z),(ZPZ z t),trivial⟩
 ·
  refine JC.block<|JC.forget 1<|YJ [1,5,10,11] [] rfl rfl (λl0 A a l o g=>∃b:Own,l=(12,.int .i64 ((a.2:Nat):Int))::l0/\o=b::A/\H=g/\MapOf H R_Write w.heap.size i a.1 b) e ⟨G,rfl,rfl,rfl,(I.old R_Write.mono)⟩ rfl ?_
  ·
   rintro X a _ _ _ ⟨b,rfl,rfl,rfl,s⟩ Y e v;unfold KD at e;refine PA [] 6 ZF rfl<|Zi e rfl (λx e=> ?_) λx e=> ?_
   ·
    refine R5 [] 7 ZF rfl ?_;obtain⟨k,J,e⟩:=Zh e;obtain⟨b8,Z,c0,L,M,c1,N⟩:=IsSlice.elem h J;obtain⟨c2,rfl,D⟩:=M;obtain⟨O,P,rfl⟩:=IsSlice.val D;refine ZA rfl rfl (QS U24 S127 rfl rfl L)<|ZA rfl rfl (Ws 0 S127 rfl N rfl rfl)<|JL.alloc Z127 rfl λc3 c4=>R1 [0] 8 ZF rfl<|Je e E130 rfl ZM4 rfl trivial ?_;intro c5 c6 e;refine R0 [] 2 ZF rfl<|Zi e rfl (λQ e=> ?_) λQ e=> ?_
    ·
     refine Pd [0,0] 5 ZF rfl<|ZCj 1 (cs:=[.int .i64 k.At,.slice O k.Data.length P]) U239 U3 rfl rfl rfl rfl s ⟨_,rfl,D⟩ λR S=>R9 [] 4 ZF rfl<|ZA rfl rfl (Xk rfl rfl (TO x)<|IsSlice.lenI h)<|R6 [] 2 ZF rfl ?_;replace e:=Zk v e;refine JN.forget 0 ?_;exact ZN ⟨((putM a.1 k.At k),a.2+1),⟨R,rfl,rfl,rfl,S⟩,e⟩ rfl rfl rfl
    ·
     refine P2 [] 4 ZF rfl<|ZA rfl rfl (Xk rfl rfl (TO x)<|IsSlice.lenI h)<|R6 [] 2 ZF rfl ?_;replace e:=Zk v e;refine JN.forget 0 ?_;exact ZN ⟨(a.1,a.2+1),⟨b,rfl,rfl,rfl,s⟩,e⟩ rfl rfl rfl
   ·
    refine R8 [] 2 ZF rfl ?_;obtain rfl:=Zo v e;refine R3 [] 2 ZF rfl ?_;exact ZN ⟨b,rfl,rfl,rfl,s⟩ rfl rfl rfl
theorem ZLs (v:Disk)(H:Heaplet){z:Option Addr}{D:Nat}{E:Nat}{c:Option Addr}{d:Nat}{j:Nat}(d5:IsSlice H (RSl RU8 1) 1 (.slice z D E) v.Blocks)(d6:IsSlice H R_Write 2 (.slice c d j) v.Waits)(r:Disk)(g:QY v=some r):
  Does Tryz.prog 129 #[.agg #[.slice z D E,.slice c d j],.func (.func 130) #[] #[]] [] H (λu K' H'=>∃A:Option Addr,∃n0:Nat,∃o:Nat,∃R:Own,∃B:Option Addr,∃n1:Nat,∃t:Nat,∃S:Own,u=.agg #[.slice A n0 o,.slice B n1 t]/\K'= [R,S]/\Pcs 0 5 27 (.slice A n0 o) r.Blocks R/\(∀p∈R,p.1∉ids (List.flatten []))/\RowOf (New H H') R_Write 0 127 2 (.slice B n1 t) r.Waits S/\(∀p∈S,p.1∉ids (List.flatten []))/\True):=by
 refine R7 (vs:=[.agg #[.slice z D E,.slice c d j],.func (.func 130) #[] #[]]) (l:=[(0,.agg #[.slice z D E,.slice c d j]),(1,.func (.func 130) #[] #[])]) Tryz.func129 rfl rfl ⟨rfl,rfl,trivial⟩ λw C=> ?_;unfold QY at g;refine Run.cl [] 2 ZF rfl (Y6 rfl rfl λb8 g8=>JL.alloc Z26 rfl λb9 g9=>PE [] 3 ZF rfl<|Q7 (so:=[(_,[]),(_,[6])]) 7 rfl Mixed ⟨by kernel_rfl,by kernel_rfl⟩ (XF [0,1] rfl) ?_);refine JB.val (i:=0) [] rfl (ZMC F26_0 rfl) ?_;refine JB.val (i:=1) [2,5,6] rfl (Jc 1 S23 rfl rfl rfl) ?_;refine JB.val (i:=3) [] rfl (ZMC F26_1 rfl) ?_;refine JB.val (i:=4) [5,6] rfl (Jc 1 S24 rfl rfl rfl) ?_;refine JB.one (i:=2) (by kernel_rfl) ?_;refine JOB.step rfl trivial rfl λK T=> ?_;obtain⟨U,d7,g⟩:=ZT g;refine Z2 (vs:=[_]) (args:=[_]) (K:=[]) (rst:=[_,_]) E112 rfl rfl rfl ZP (Gq v.Blocks _ d5 _ d7) rfl λh0 h1 h2 d8 h3 d9=> ?_;obtain⟨F,G,I,e0,rfl,rfl,rfl,V,e1,-⟩:=d8;replace V:=(RowOf.base V λp n=>(d9 p<|Yc 0 rfl n).resolve_left<|e1 p n);refine JL.nil<|T _ _ _ (Rz _) (XF [1,2] rfl) ?_;refine JB.val (i:=5) [] rfl (ZKa (vs:=[(0,.slice F G I),(1,.slice c d j)]) (cs:=[.slice F G I,.slice c d j]) Z26 B26 rfl rfl rfl) ?_;refine JB.one (i:=6) (by kernel_rfl) ?_;refine JOB.step rfl trivial rfl (λK T=>R6 [2] 2 ZF rfl<|T _ _ _ (Rz _) (Ue [false,true] [1,0] (by kernel_rfl) rfl) ?_);refine PH (by kernel_rfl) ?_;refine PB [2] 6 ZF rfl ?_;obtain⟨m,e2,g⟩:=ZT g;refine Z2 (vs:=[_,_]) (args:=[_,_]) (K:=[]) (rst:=[_,_,_]) E180 rfl rfl rfl ZP (ZKC (Disk.mk U v.Waits) _ d6 _ e2) rfl λh4 h5 h6 e3 h7 e4=> ?_;obtain⟨h8,c0,h9,i0,rfl,rfl,rfl,W,e5,-⟩:=e3;replace W:=(MapOf.base W λp n=>(e4 p<|Yc 0 rfl n).resolve_left<|e5 p n);refine BV 0 U239 rfl rfl W rfl λc1 e6 e7 J=> ?_;subst e7;refine R0 [] 2 ZF rfl ?_;obtain⟨e8,e9,X,g⟩:=ZI0 g;refine JC.block (V1 (ι:=Array Nat×(List<|List UInt8)×Own) (λ_=> [(2,.pointer<|some ⟨b8,0,none⟩),(4,.pointer<|some ⟨b9,0,none⟩),(16,.pointer<|some ⟨c1,0,none⟩)]) (λi=> [[(c1,.mapIter (some c0) (m).length i.1 (m).length)],[(c0,.map e6 (m).length)],i.2.2,[(b9,.cells #[.slice none 0 0,.slice none 0 0] 26 (0,0))],[(b8,.cells #[.slice F G I,.slice c d j] 26 (0,0))]]) (λ_=>H) (λi=>i.1.toList.Nodup/\(∀q∈i.1.toList,q<(m).length)/\Laid (λy:Write=>y.Data) U m i.1.toList i.2.1/\RowOf H (RSl RU8 1) w.heap.size 27 1 (.slice F G I) i.2.1 i.2.2) (λi=>(m).length-i.1.size) (#[],U,e0) ⟨by simp,by simp,Pn _ _ _,V⟩ ⟨rfl,rfl,rfl,trivial⟩ rfl rfl ?_);rintro⟨c2,x,f0⟩ ⟨Y,Z,L,M⟩;dsimp only at Y Z L M|-;refine Run.cl [] 2 ZF rfl<|ZCi 0 1 rfl rfl rfl J (TF _) rfl (λf1=> ?_) λf2 s N i1 O f3 c3 f4=> ?_
 ·
  refine PI [] 8 ZF rfl<|Kb ?_;obtain rfl:=e9.trans (L.full J.nodup X f1).symm;refine JN.forget 1<|JN.forget 0<|PB [2,2] 10 ZF rfl<|JL.pub 0 (RSl.mono RU8.mono) rfl M (TF _) λi2 f5 f6=>JL.forget 0 ?_;obtain⟨i3,f7,g⟩:=ZT g;refine Z2 (vs:=[_]) (args:=[_]) (K:=[]) (rst:=[_,_]) E28 rfl rfl rfl ZP (Dq (Disk.mk e8 ([]:List Write)) _ f6 (IsSlice.nil _ _ _) _ f7) rfl λi4 i5 i6 f8 i7 c4=> ?_;obtain⟨c5,c6,c7,f9,c8,c9,d0,g0,rfl,rfl,P,g1,Q,g2,-⟩:=f8;replace P:=(Pcs.base P λp n=>(c4 p<|Yc 0 rfl n).resolve_left<|g1 p n);replace Q:=(RowOf.base (RowOf.mono R_Write.mono (New.call f5) Q) λp n=>(c4 p<|Yc 1 rfl n).resolve_left<|g2 p n);refine PD [2] 4 ZF rfl<|ZU (vs:=[.agg #[.slice c5 c6 c7,.slice c8 c9 d0]]) (K:=[_,_]) (rst:=[_,_]) (.inl rfl) rfl rfl (Qm 2 rfl rfl S26 rfl) (ZD 0 rfl<|ZD 0 rfl ZP) ?_;obtain rfl:=TB g;exact⟨c5,c6,c7,f9,c8,c9,d0,g0,rfl,rfl,(Pcs.weak (TQ _) P),(ZGw P C),(RowOf.weak (TQ _) Q),(Qk Q C),trivial⟩
 ·
  have g3:=ZD1 Y Z (TC.1 O).1 c3;refine R1 [] 10 ZF rfl ?_;obtain⟨i8,rfl,d1⟩:=f4;obtain⟨i9,j0,rfl⟩:=IsSlice.val d1;refine ZAM 0 1 rfl rfl rfl J f3 rfl ?_;have d2:=X _<|Tq O;rw[<-L.len]at d2;clear g;have g:(chk (0<=s/\s.toNat<x.length)<|setI x s N.Data λd3=>some d3)=some (x.set s.toNat N.Data):=ZPi d2;refine PC [] 2 ZF rfl<|JL.alloc Z127 rfl λj1 j2=>PG [0,5,0] 10 ZF rfl ?_;obtain⟨g4,g⟩:=ZI g;obtain⟨j3,j4,d4⟩:=WZ M g4;refine ZA rfl rfl (QS U23 S27 rfl rfl d4) ?_;obtain⟨d3,g5,j5,g⟩:=X9 g;refine ZEb 3 (k:=s) (y:=N.Data) S27 rfl M rfl d4 rfl rfl (⟨_,rfl,d1⟩) RSl.one g5 λg6 g7 j6=>Pu [] 2 ZF rfl ?_;obtain rfl:=TB g;refine JN.forget 0<|ZB 4 rfl<|ZB 4 rfl<|ZB 4 rfl<|ZB 4 rfl<|ZB 4 rfl ?_;exact VI (i:=(c2,x,f0)) (c2.push f2,x.set s.toNat N.Data,g6) ⟨by simp only[RE];exact Sf.2 ⟨Y,by simp,λa ha b hb e=>by simp at hb;subst hb;subst e;exact c3 ha⟩,by simp only[RE];intro q hq;rcases TR.1 hq with h|h;exact Z q h;simp at h;subst h;exact(TC.1 O).1,L.step (f:=(λy:Write=>y.Data)) J.nodup X O _ (λq=>by simp),g7⟩ (by simp only[Array.size_push];simp only[TM]at g3;omega) ⟨rfl,rfl,rfl,trivial⟩ rfl rfl
theorem ZF6 (c0:List UInt8)(T:Int)(H:Heaplet){U:Option Addr}{V:Nat}{W:Nat}(x:IsSlice H RU8 1 (.slice U V W) c0)(r:List UInt8)(t:X5 c0 T=some r):
  Does Tryz.prog 169 #[.slice U V W,.int .i64 T] [] H (λu K' H'=>∃O:Option Addr,∃n0:Nat,∃L:Nat,∃K0:Own,u=.slice O n0 L/\K'= [K0]/\H=H'/\RowOf (New H H) RU8 0 5 1 (.slice O n0 L) r K0/\(∀p∈K0,p.1∉ids (List.flatten []))/\True):=by
 refine R7 (vs:=[.slice U V W,.int .i64 T]) (l:=[(0,.slice U V W),(1,.int .i64 T)]) Tryz.func169 rfl rfl ⟨rfl,rfl,trivial⟩ λw M=> ?_;unfold X5 at t;refine PA [] 12 ZF rfl<|Zi t rfl (λd0 t=> ?_) λd0 t=> ?_
 ·
  refine Run.cl [] 2 ZF rfl (KI (HF:=(New H H)) (R:=RU8) (ls:=([]:List UInt8)) (vs:=[]) U27 I5 rfl rfl (rfl) RU8.one rfl rfl rfl (by simp[maxLen]) rfl λf6 d1 a9=> ?_);obtain⟨c1,c2,rfl⟩:=RowOf.val a9;refine PI [] 5 ZF rfl<|ZU (vs:=[.slice c1 (([]:List UInt8).length) c2]) (K:=[_]) (rst:=[]) (.inl rfl) rfl rfl (ZW rfl rfl) (ZD 0 rfl ZP) ?_;obtain rfl:=TB t;exact⟨c1,([]:List UInt8).length,c2,d1,rfl,rfl,rfl,(RowOf.weak (TQ _) a9),(Qk a9 M),trivial⟩
 ·
  refine PX [] 9 ZF rfl<|Zi t rfl (λd2 t=> ?_) λd2 t=> ?_
  ·
   refine Zj ?_;cases t
  ·
   refine R5 [] 5 ZF rfl<|ZA rfl rfl (Zt U27 rfl<|IsSlice.long x)<|ZA rfl rfl (Qn U3 U124 rfl)<|ZA rfl rfl (Yd rfl)<|ZA rfl rfl (Qn U3 U124 rfl)<|Je t E207 rfl GP rfl trivial ?_;intro z f7 t;refine R1 [] 11 ZF rfl<|ZA rfl rfl (ZDk (a:=z.1) (b:=(0:UInt64)) rfl rfl)<|ZA rfl rfl (Yd rfl)<|ZBj 29 t rfl (λd3 t=> ?_) λd3 t=> ?_
   ·
    refine PG [] 7 ZF rfl ?_;cases t
   ·
    refine PC [] 3 ZF rfl<|ZA rfl rfl (ZDk (a:=z.2) (b:=(9223372036854775807:UInt64)) rfl rfl)<|R0 [] 3 ZF rfl<|Zi t rfl (λd4 t=> ?_) λd4 t=> ?_
    ·
     refine Zj ?_;cases t
    ·
     refine R5 [] 5 ZF rfl<|ZA rfl rfl (BS (a:=z.2) U124 U3 rfl)<|R1 [] 7 ZF rfl<|ZA rfl rfl (Zt U27 rfl<|IsSlice.long x)<|R0 [] 3 ZF rfl<|Zi t rfl (λd5 t=> ?_) λd5 t=> ?_
     ·
      refine Run.cl [] 2 ZF rfl (KI (HF:=(New H H)) (R:=RU8) (ls:=([]:List UInt8)) (vs:=[]) U27 I5 rfl rfl (rfl) RU8.one rfl rfl rfl (by simp[maxLen]) rfl λf8 d6 b0=> ?_);obtain⟨c3,c4,rfl⟩:=RowOf.val b0;refine PI [] 5 ZF rfl<|ZU (vs:=[.slice c3 (([]:List UInt8).length) c4]) (K:=[_]) (rst:=[]) (.inl rfl) rfl rfl (ZW rfl rfl) (ZD 0 rfl ZP) ?_;obtain rfl:=TB t;exact⟨c3,([]:List UInt8).length,c4,d6,rfl,rfl,rfl,(RowOf.weak (TQ _) b0),(Qk b0 M),trivial⟩
     ·
      refine PX [] 15 ZF rfl<|YC t [0,7] [] rfl rfl (λv l0 P l o g=>l=(8,.int .i64 v)::l0/\o=P/\H=g) (λv f9 t=> ?_) λv g0 t=> ?_
      ·
       rintro _ _ _ ⟨rfl,rfl,rfl⟩;refine PB [] 4 ZF rfl ?_;obtain⟨g1,d7,b1,t⟩:=Ud t;obtain⟨d8,b2⟩:=SQ b1.1;refine ZSE (HF:=New H H) (N:=d8) Tryz.func208 (by kernel_rfl) rfl (by kernel_rfl) U27 (by kernel_rfl) (congrArg (λq=>some<|Value.int .i64 q) b2) (by simpa[b2]using b1.2) rfl λg2 g3 d9 g4 e0 e1=> ?_;replace t:=ZEa d7 b2 e0 t (by have:=b1.2;omega);refine PC [] 2 ZF rfl ?_;obtain⟨f,e2,b3,t⟩:=GE t;obtain⟨g5,e3,X,I,J,c5⟩:=ZNB e1 e2 b3;refine ZA rfl rfl (R.slc (cap:=e3) (a:=0) (b:=w64 (z.2.toNat:Int)) (c:=w64 (z.2.toNat:Int)) (m:=d9) (R:=RU8) U27 S5 rfl rfl ⟨_,rfl⟩ ⟨_,rfl⟩ ⟨b3.1,b3.2.1,SA _⟩ I (.inr λh=>by cases h)) ?_;subst J;refine R1 [] 7 ZF rfl ?_;obtain⟨g6,e4,e5,t⟩:=KV t;refine Wb (HF:=(New H H)) (lo:=0) (hi:=(f.length:Int)) 0 U27 S5 rfl c5 rfl (ZFW c5) rfl (CSrc.slice RU8.one (Rz _) x λ_ _ h=>RU8.const _ _ _ _ h) e5 e4 rfl λe6 e7=>PE [] 4 ZF rfl<|YC t [9] [] rfl rfl (λb4 l0 P l o g=>∃Y:Own,l=l0/\o=Y::P/\H=g/\RowOf (New H H) RU8 w.heap.size 5 1 (.slice X f.length f.length) b4 Y) (λb4 g7 t=> ?_) λb4 g8 t=> ?_
       ·
        rintro _ _ _ ⟨Y,rfl,rfl,rfl,c6⟩;refine PK [] 8 ZF rfl<|ZU (vs:=[.slice X f.length f.length]) (K:=[_]) (rst:=[]) (.inl rfl) rfl rfl (ZW rfl rfl) (ZD 0 rfl ZP) ?_;obtain rfl:=TB t;exact⟨X,f.length,f.length,Y,rfl,rfl,rfl,(RowOf.weak (TQ _) c6),(Qk c6 M),trivial⟩
       ·
        refine JC.block<|YJ [7,8,9] [] rfl rfl (λl0 P d l o g=>∃Z:Own,l=(10,.int .i64 d.2)::l0/\o=Z::P/\H=g/\RowOf (New H H) RU8 w.heap.size 5 1 (.slice X f.length f.length) d.1 Z) t ⟨e6,rfl,rfl,rfl,e7⟩ rfl ?_
        ·
         rintro g9 d _ _ _ ⟨Z,rfl,rfl,rfl,k⟩ h0 t b5;unfold og_bytes_Repeat_l1 at t;refine PA [] 8 ZF rfl<|Zi t rfl (λe8 t=> ?_) λe8 t=> ?_
         ·
          refine R5 [] 7 ZF rfl (ZA rfl rfl (ZH1 rfl rfl)<|R0 [] 3 ZF rfl<|Q7 (so:=[(_,[7])]) 10 rfl Mixed ⟨by kernel_rfl,by kernel_rfl⟩ (XF [0] rfl) ?_);refine JB.run 5 [0,1,2,4,5] [] ZF rfl ?_;obtain⟨y,t⟩:=ZI t;obtain⟨s,t⟩:=ZI t;obtain⟨c7,c8,c9,t⟩:=KV t;refine OO (i:=3) (j:=6) (by kernel_rfl) ?_ ?_
          ·
           refine JOB.step rfl trivial rfl λK G=> ?_;obtain⟨e9,Q,A,B,C,b6,f0⟩:=X1 k y;refine ZA rfl rfl (R.slc (cap:=Q) (a:=d.2) (b:=(d.1.length:Int)) (c:=(Q:Int)) (m:=d.1) (R:=RU8) U27 S5 rfl ⟨_,rfl⟩ rfl (by obtain⟨ao,n,e,_⟩:=A;exact⟨ao,n,e,rfl⟩) ⟨y.1,y.2.1,B⟩ C (.inl rfl))<|JL.nil<|G _ _ _ (Rz _) (XF [0] rfl) ?_;refine JB.one (i:=6) (by kernel_rfl) ?_;refine JOB.step rfl trivial rfl λK G=> ?_;obtain⟨f1,S,D,E,F,b7,f2⟩:=X1 k s;refine ZA rfl rfl (R.slc (cap:=S) (a:=(0:Int)) (b:=min d.2 v) (c:=(S:Int)) (m:=d.1) (R:=RU8) U27 S5 rfl rfl ⟨_,rfl⟩ (by obtain⟨ao,n,e,_⟩:=D;exact⟨ao,n,e,rfl⟩) ⟨s.1,s.2.1,E⟩ F (.inl rfl))<|JL.nil<|G _ _ _ (Rz _) (XF [0] rfl) ?_;refine JB.one (i:=7) (by kernel_rfl) ?_;refine JOB.step rfl trivial rfl (λK G=>Wb (HF:=(New H H)) (lo:=d.2) (hi:=(d.1.length:Int)) 0 U27 S5 rfl k rfl b6 rfl (Pb 0 rfl k b7 s rfl) c9 c8 rfl λb8 b9=>JL.nil<|G _ _ _ (Rz _) (Ue [true] [0] (by kernel_rfl) rfl) ?_);refine JB.run 2 [8,9] [] ZF rfl ?_;refine PH (by kernel_rfl) ?_;refine KH ?_;replace t:=Zk b5 t;exact ZN ⟨(c7,w64<|d.2+(min ((cut d.1 (0:Int)<|min d.2 v).length:Int)<|(d.1.length:Int)-d.2)),⟨b8,rfl,rfl,rfl,b9⟩,t⟩ rfl rfl rfl
          ·
           refine JOB.step rfl trivial rfl λK G=> ?_;obtain⟨f1,S,D,E,F,b7,f2⟩:=X1 k s;refine ZA rfl rfl (R.slc (cap:=S) (a:=(0:Int)) (b:=min d.2 v) (c:=(S:Int)) (m:=d.1) (R:=RU8) U27 S5 rfl rfl ⟨_,rfl⟩ (by obtain⟨ao,n,e,_⟩:=D;exact⟨ao,n,e,rfl⟩) ⟨s.1,s.2.1,E⟩ F (.inl rfl))<|JL.nil<|G _ _ _ (Rz _) (XF [0] rfl) ?_;refine JB.one (i:=3) (by kernel_rfl) ?_;refine JOB.step rfl trivial rfl λK G=> ?_;obtain⟨e9,Q,A,B,C,b6,f0⟩:=X1 k y;refine ZA rfl rfl (R.slc (cap:=Q) (a:=d.2) (b:=(d.1.length:Int)) (c:=(Q:Int)) (m:=d.1) (R:=RU8) U27 S5 rfl ⟨_,rfl⟩ rfl (by obtain⟨ao,n,e,_⟩:=A;exact⟨ao,n,e,rfl⟩) ⟨y.1,y.2.1,B⟩ C (.inl rfl))<|JL.nil<|G _ _ _ (Rz _) (XF [0] rfl) ?_;refine JB.one (i:=7) (by kernel_rfl) ?_;refine JOB.step rfl trivial rfl (λK G=>Wb (HF:=(New H H)) (lo:=d.2) (hi:=(d.1.length:Int)) 0 U27 S5 rfl k rfl b6 rfl (Pb 0 rfl k b7 s rfl) c9 c8 rfl λb8 b9=>JL.nil<|G _ _ _ (Rz _) (Ue [true] [0] (by kernel_rfl) rfl) ?_);refine JB.run 2 [8,9] [] ZF rfl ?_;refine PH (by kernel_rfl) ?_;refine KH ?_;replace t:=Zk b5 t;exact ZN ⟨(c7,w64<|d.2+(min ((cut d.1 (0:Int)<|min d.2 v).length:Int)<|(d.1.length:Int)-d.2)),⟨b8,rfl,rfl,rfl,b9⟩,t⟩ rfl rfl rfl
         ·
          refine R8 [] 2 ZF rfl ?_;obtain rfl:=Zo b5 t;refine R3 [] 2 ZF rfl ?_;exact ZN ⟨Z,rfl,rfl,rfl,k⟩ rfl rfl rfl
      ·
       refine Zi t rfl (λf3 t=> ?_) λf3 t=> ?_
       ·
        refine Run.cl [] 3 ZF rfl<|ZA rfl rfl (Zt U27 rfl<|IsSlice.long x) ?_;obtain⟨f4,t⟩:=ZI t;refine ZA rfl rfl (ZNw rfl rfl f4)<|ZA rfl rfl (Yd rfl)<|ZA rfl rfl (Zt U27 rfl<|IsSlice.long x)<|R0 [] 10 ZF rfl<|Zi t rfl (λf5 t=> ?_) λf5 t=> ?_
        ·
         refine Pd [] 2 ZF rfl<|ZA rfl rfl (Zt U27 rfl<|IsSlice.long x)<|R6 [] 2 ZF rfl ?_;obtain rfl:=TB t;exact ZN ⟨rfl,rfl,rfl⟩ rfl rfl rfl
        ·
         refine JC.skip ?_;obtain rfl:=TB t;exact ZN ⟨rfl,rfl,rfl⟩ rfl rfl rfl
       ·
        refine JC.skip ?_;obtain rfl:=TB t;exact ZN ⟨rfl,rfl,rfl⟩ rfl rfl rfl
theorem ZAk (d:Int)(H:Heaplet)(r:List UInt8)(t:Yg d=some r):
  Does Tryz.prog 209 #[.slice none 0 0,.int .i64 d] [] H (λu K' J=>∃E:Option Addr,∃I:Nat,∃D:Nat,∃F:Own,u=.slice E I D/\K'= [F]/\H=J/\RowOf (New H H) RU8 0 5 1 (.slice E I D) r F/\(∀p∈F,p.1∉ids (List.flatten []))/\True):=by
 refine R7 (vs:=[.slice none 0 0,.int .i64 d]) (l:=[(0,.slice none 0 0),(1,.int .i64 d)]) Tryz.func209 rfl rfl ⟨rfl,rfl,trivial⟩ λw G=> ?_;unfold Yg at t;refine PA [] 12 ZF rfl<|Zi t rfl (λL t=> ?_) λL t=> ?_
 ·
  refine Zj ?_;cases t
 ·
  refine R5 [] 7 ZF rfl<|ZA rfl rfl (ZKZ ⟨_,U27⟩ rfl)<|ZA rfl rfl (Yd rfl)<|ZA rfl rfl (R.len U27 rfl)<|R0 [] 11 ZF rfl<|YC t [] [] rfl rfl (λk l0 M l o g=>∃f:Option Addr,∃h:Nat,∃i:Nat,∃j:Own,l=(0,.slice f h i)::l0/\o=j::M/\H=g/\RowOf (New H H) RU8 w.heap.size 5 1 (.slice f h i) k j) (λk X t=> ?_) λk Y t=> ?_
  ·
   rintro _ _ _ ⟨f,h,i,j,rfl,rfl,rfl,s⟩;refine PK [] 8 ZF rfl<|ZU (vs:=[.slice f h i]) (K:=[_]) (rst:=[]) (.inl rfl) rfl rfl (ZW rfl rfl) (ZD 0 rfl ZP) ?_;obtain rfl:=TB t;exact⟨f,h,i,j,rfl,rfl,rfl,(RowOf.weak (TQ _) s),(Qk s G),trivial⟩
  ·
   refine Zi t rfl (λN t=> ?_) λN t=> ?_
   ·
    refine Pd [] 3 ZF rfl<|ZA rfl rfl (ZKZ ⟨_,U27⟩ rfl)<|ZA rfl rfl (ZNC U27 S5 rfl trivial ⟨_,rfl⟩ rfl)<|ZA rfl rfl (Yd rfl) ?_;obtain⟨O,P,Q,t⟩:=Ud t;refine ZOA (HF:=New H H) (R:=RU8) (y:=(0:UInt8)) (n:=w64 (d-0)) U27 U3 I5 rfl rfl (λ_=>rfl) RU8.one P Q rfl rfl λZ S v=> ?_;obtain⟨b3,b4,rfl⟩:=RowOf.val v;refine ZA rfl rfl (Yd rfl)<|ZA rfl rfl (R.len U27 rfl) ?_;obtain⟨T,U,q,t⟩:=GE t;obtain⟨b5,x,A,B,C,z⟩:=RowOf.pre v U q;refine ZA rfl rfl (R.slc (cap:=x) (a:=0) (b:=0) (c:=(x:Int)) (m:=O) (R:=RU8) U27 S5 rfl rfl ⟨_,rfl⟩ (by obtain⟨ao,n,e,_⟩:=A;exact⟨ao,n,e,rfl⟩) ⟨q.1,q.2.1,B⟩ C (.inl rfl)) ?_;obtain⟨V,W,rfl⟩:=RowOf.val z;refine R6 [] 2 ZF rfl ?_;obtain rfl:=TB t;exact ZN ⟨V,T.length,W,S,rfl,rfl,rfl,z⟩ rfl rfl rfl
   ·
    refine JC.skip ?_;obtain rfl:=TB t;refine KG ?_;exact ZN ⟨none,0,0,[],rfl,rfl,rfl,(RowOf.nil _ _ _ _ _)⟩ rfl rfl rfl
theorem ZBt (d:Int)(H:Heaplet)(r:List Ptr)(t:Ys d=some r):
  Does Tryz.prog 245 #[.slice none 0 0,.int .i64 d] [] H (λu K' J=>∃E:Option Addr,∃I:Nat,∃D:Nat,∃F:Own,u=.slice E I D/\K'= [F]/\H=J/\RowOf (New H H) R_Ptr 0 32 5 (.slice E I D) r F/\(∀p∈F,p.1∉ids (List.flatten []))/\True):=by
 refine R7 (vs:=[.slice none 0 0,.int .i64 d]) (l:=[(0,.slice none 0 0),(1,.int .i64 d)]) Tryz.func245 rfl rfl ⟨rfl,rfl,trivial⟩ λw G=> ?_;unfold Ys at t;refine PA [] 12 ZF rfl<|Zi t rfl (λL t=> ?_) λL t=> ?_
 ·
  refine Zj ?_;cases t
 ·
  refine R5 [] 7 ZF rfl<|ZA rfl rfl (ZKZ ⟨_,U40⟩ rfl)<|ZA rfl rfl (Yd rfl)<|ZA rfl rfl (R.len U40 rfl)<|R0 [] 11 ZF rfl<|YC t [] [] rfl rfl (λk l0 M l o g=>∃f:Option Addr,∃h:Nat,∃i:Nat,∃j:Own,l=(0,.slice f h i)::l0/\o=j::M/\H=g/\RowOf (New H H) R_Ptr w.heap.size 32 5 (.slice f h i) k j) (λk X t=> ?_) λk Y t=> ?_
  ·
   rintro _ _ _ ⟨f,h,i,j,rfl,rfl,rfl,s⟩;refine PK [] 8 ZF rfl<|ZU (vs:=[.slice f h i]) (K:=[_]) (rst:=[]) (.inl rfl) rfl rfl (ZW rfl rfl) (ZD 0 rfl ZP) ?_;obtain rfl:=TB t;exact⟨f,h,i,j,rfl,rfl,rfl,(RowOf.weak (TQ _) s),(Qk s G),trivial⟩
  ·
   refine Zi t rfl (λN t=> ?_) λN t=> ?_
   ·
    refine Pd [] 3 ZF rfl<|ZA rfl rfl (ZKZ ⟨_,U40⟩ rfl)<|ZA rfl rfl (ZNC U40 S32 rfl trivial ⟨_,rfl⟩ rfl)<|ZA rfl rfl (Yd rfl) ?_;obtain⟨O,P,Q,t⟩:=Ud t;refine ZOA (HF:=New H H) (R:=R_Ptr) (y:=Ptr.mk 0 (0:UInt32) (0:UInt32) (0:UInt32) (0:UInt32)) (n:=w64 (d-0)) U40 U3 I32 rfl rfl (λ_=>rfl) R_Ptr.one P Q rfl rfl λZ S v=> ?_;obtain⟨b3,b4,rfl⟩:=RowOf.val v;refine ZA rfl rfl (Yd rfl)<|ZA rfl rfl (R.len U40 rfl) ?_;obtain⟨T,U,q,t⟩:=GE t;obtain⟨b5,x,A,B,C,z⟩:=RowOf.pre v U q;refine ZA rfl rfl (R.slc (cap:=x) (a:=0) (b:=0) (c:=(x:Int)) (m:=O) (R:=R_Ptr) U40 S32 rfl rfl ⟨_,rfl⟩ (by obtain⟨ao,n,e,_⟩:=A;exact⟨ao,n,e,rfl⟩) ⟨q.1,q.2.1,B⟩ C (.inl rfl)) ?_;obtain⟨V,W,rfl⟩:=RowOf.val z;refine R6 [] 2 ZF rfl ?_;obtain rfl:=TB t;exact ZN ⟨V,T.length,W,S,rfl,rfl,rfl,z⟩ rfl rfl rfl
   ·
    refine JC.skip ?_;obtain rfl:=TB t;refine KG ?_;exact ZN ⟨none,0,0,[],rfl,rfl,rfl,(RowOf.nil _ _ _ _ _)⟩ rfl rfl rfl
theorem DM (m:List UInt8)(N:Int)(V:1<=N/\N<=1099511627776/\m.length<=LIM)(H:Heaplet){v:Value}{r s:Nat}(hs:IsSlice H RU8 1 v m)(F:H r 0=some v)(G:H s 0=some (.int .i64 N)):
  IterL Tryz.prog 131 #[.pointer<|some ⟨r,0,none⟩,.pointer<|some ⟨s,0,none⟩] H (λW args (y:List UInt8)=>∃ao:Option Addr,args= #[.slice ao y.length y.length]/\IsSlice W RU8 1 (.slice ao y.length y.length) y) (Xw N.toNat m.length m):=by
 intro E I X o Y hI;obtain⟨Z,hN2,J⟩:=V;unfold LIM at J;obtain⟨ao,cap,rfl⟩:=hs.val;show Does Tryz.prog 131 #[.func (.yield E) #[] #[],.pointer<|some ⟨r,0,none⟩,.pointer<|some ⟨s,0,none⟩] o H _;refine Does.enter (vs:=[.func (.yield E) #[] #[],.pointer<|some ⟨r,0,none⟩,.pointer<|some ⟨s,0,none⟩]) (l:=[(0,.func (.yield E) #[] #[]),(1,.pointer<|some ⟨r,0,none⟩),(2,.pointer<|some ⟨s,0,none⟩)]) Tryz.func131 rfl rfl ⟨rfl,rfl,rfl,trivial⟩ λw=>PA [] 6 ZF rfl ?_;refine V1 (ι:=Nat×Nat×List (List UInt8)×List Own×Heaplet) (λi=> [(0,.func (.yield E) #[] #[]),(1,.pointer<|some ⟨r,0,none⟩),(2,.pointer<|some ⟨s,0,none⟩),(4,.int .i64 ((i.1:Nat):Int))]) (λi=>i.2.2.2.1) (λi=>i.2.2.2.2)
  (λi=>i.1<=2199023255552/\m.length<=i.1+i.2.1/\i.2.2.1++Xw N.toNat i.2.1 (m.drop i.1)=Xw N.toNat m.length m/\I i.2.2.1 i.2.2.2.1 i.2.2.2.2/\Hle H i.2.2.2.2) (λi=>m.length+1-i.1) (0,m.length,[],o,H) (⟨by omega,by simp,by simp,hI,Rz _⟩) ⟨rfl,rfl,rfl,rfl,trivial⟩ rfl rfl ?_
 rintro⟨i,f,pre,o2,H2⟩ t;dsimp only at t|-;obtain⟨hi2,hf,g,u,j⟩:=t;have k:=j _ _ _ F;have p:=j _ _ _ G;have q:=IsSlice.mono RU8.mono j hs;refine Run.cl [] 4 ZF rfl<|ZA rfl rfl (Qu S27 rfl k)<|ZA rfl rfl (Zt U27 rfl<|IsSlice.long q)<|R0 [] 3 ZF rfl<|Gi rfl (λc=> ?_) λc=> ?_
 ·
  have hlt:i<m.length:=by have:=TO c;omega
  have K:m.drop i≠[]:=λh=>by have:=List.drop_eq_nil_iff.1 h;omega
  obtain⟨x,rfl⟩:∃x,f=x+1:=⟨f-1,by omega⟩;rw[Dz K,S2]at g;obtain⟨e,he⟩:∃e:Int,e=min N ((m.length:Int)-i):=⟨_,rfl⟩;have z:(m.drop i).take N.toNat=cut m (i:Int) ((i:Int)+e):=by
   unfold cut;rw[T4];by_cases h:N<=(m.length:Int)-i
   ·
    rw[show((i:Int)+e).toNat-i=N.toNat by omega]
   ·
    rw[TZ (by rw[Td];omega),TZ (by rw[Td];omega)]
  refine PX [] 5 ZF rfl ?_;obtain⟨v1,T,h1,h2,h3,L⟩:=PY (m':=cut m (i:Int) (m.length:Int)) q rfl ⟨by omega,by omega,SA _⟩;have M:((cut m (i:Int) (m.length:Int)).length:Int)=(m.length:Int)-i:=Vn (by omega) (by omega)<|SA _;refine ZKd (so:=[]) 7 rfl Mixed trivial (JA.val ⟨by kernel_rfl,by kernel_rfl⟩ (Zu _) (i:=0) rfl ⟨by kernel_rfl,by kernel_rfl,rfl⟩ trivial (YW (Rz _) trivial) (Qu S3 rfl p) rfl (JA.val ⟨by kernel_rfl,by kernel_rfl⟩ (Zu _) (i:=1) rfl ⟨by kernel_rfl,by kernel_rfl,rfl⟩ trivial (YW (Rz _) trivial) (Qu S27 rfl k) rfl (JA.val ⟨by kernel_rfl,by kernel_rfl⟩ (Zu _) (i:=2) rfl ⟨by kernel_rfl,by kernel_rfl,rfl⟩ trivial (YW (Rz _) trivial) (Yd rfl) rfl (JA.val ⟨by kernel_rfl,by kernel_rfl⟩ (Zu _) (i:=3) rfl ⟨by kernel_rfl,by kernel_rfl,rfl⟩ trivial (YW (Rz _) trivial) (R.slc (cap:=T) (a:=(i:Int)) (b:=(m.length:Int)) (c:=(T:Int)) (m:=m) (R:=RU8) U27 S5 rfl ⟨_,rfl⟩ rfl (by obtain⟨ao,n,e,_⟩:=h1;exact⟨ao,n,e,rfl⟩) ⟨by omega,by omega,h2⟩ h3 (.inl rfl)) rfl (JA.val ⟨by kernel_rfl,by kernel_rfl⟩ (Zu _) (i:=4) rfl ⟨by kernel_rfl,by kernel_rfl,rfl⟩ trivial (YW (Rz _) trivial) (ZND U27 rfl ⟨_,IsSlice.long L,M⟩) rfl (JA.val ⟨by kernel_rfl,by kernel_rfl⟩ (Zu _) (i:=5) rfl ⟨by kernel_rfl,by kernel_rfl,rfl⟩ trivial (YW (Rz _) trivial) (ZH1 rfl rfl) rfl ?_))))));rw[<-he];refine JA.val ⟨by kernel_rfl,by kernel_rfl⟩ (Zu _) (i:=6) rfl ⟨by kernel_rfl,by kernel_rfl,rfl⟩ trivial (YW (Rz _) trivial) (Uz rfl) rfl (ZH8 (by kernel_rfl)<|Z9 ?_);have U:w64 ((i:Int)+e)=(i:Int)+e:=Jg (by omega) (by omega);obtain⟨v2,c2,O,g1,g2,P⟩:=PZ (m':=(m.drop i).take N.toNat) q z ⟨by omega,by omega,by omega⟩;subst g2;refine Run.cl [] 3 ZF rfl<|ZA rfl rfl (Qu S27 rfl k)<|PC [] 4 ZF rfl ?_;rw[U];refine PC [] 3 ZF rfl ?_;rw[U];refine ZA rfl rfl (R.slc (cap:=c2) (a:=(i:Int)) (b:=(i:Int)+e) (c:=(i:Int)+e) (m:=m) (R:=RU8) U27 S5 rfl ⟨_,rfl⟩ ⟨_,rfl⟩ ⟨_,rfl⟩ ⟨by omega,by omega,SA _⟩ g1 (.inr λh=>by cases h))<|ZDo (vs:=[_]) (mine:=[]) ((m.drop i).take N.toNat) Y rfl rfl u (⟨⟨O,rfl,P⟩,_,by rw[<-g]⟩) rfl rfl (λA B d C=> ?_) λA B d D=> ?_
  ·
   refine PQ [] 9 ZF rfl<|ZA rfl rfl (Qu S3 rfl<|d _ _ _ p)<|R6 [] 3 ZF rfl ?_;have Q:w64 ((i:Int)+N)=((i+N.toNat:Nat):Int):=(by rw[Jg (by omega)<|by omega];omega);refine VI (i:=(i,x+1,pre,o2,H2)) (i+N.toNat,x,pre++ [(m.drop i).take N.toNat],A,B) (by
    refine⟨?_,?_,?_,C,j.trans d⟩
    ·
     simp only;omega
    ·
     simp only;omega
    ·
     simp only[TE,List.singleton_append];exact g) (by simp only;omega) (by exact⟨rfl,rfl,rfl,by show some _=some _;rw[Q],trivial⟩) rfl rfl
  ·
   refine PP [] 7 ZF rfl<|R3 [] 2 ZF rfl<|Jd (.inl rfl) rfl rfl ?_;exact⟨j.trans d,.inr ⟨_,⟨Xw N.toNat x<|m.drop (i+N.toNat),by rw[<-g];simp⟩,D⟩⟩
 ·
  have S:m.length<=i:=by have:=of_decide_eq_false c;omega
  refine PR [] 4 ZF rfl<|Jd (.inr rfl) rfl rfl (⟨j,.inl ⟨pre,?_,u⟩⟩);rw[<-g,T2 S,ZCb,Th]
theorem GB (m:List UInt8)(H:Heaplet){v:Value}{b:Nat}(hs:IsSlice H RU8 1 v m)(hb:H b 0=some v):
  IterL Tryz.prog 181 #[.pointer<|some ⟨b,0,none⟩] H (λ_ args (y:Nat×UInt8)=>args= #[.int .i64 ((y.1:Nat):Int),.int .u8 (y.2.toNat:Int)]) (bwd m m.length):=by
 intro q I X o u hI;have t:=hs.len_le;obtain⟨ao,cap,rfl⟩:=hs.val;show Does Tryz.prog 181 #[.func (.yield q) #[] #[],.pointer<|some ⟨b,0,none⟩] o H _;refine Does.enter (vs:=[.func (.yield q) #[] #[],.pointer<|some ⟨b,0,none⟩]) (l:=[(0,.func (.yield q) #[] #[]),(1,.pointer<|some ⟨b,0,none⟩)]) Tryz.func181 rfl rfl ⟨rfl,rfl,trivial⟩ (λw=>Run.cl [] 2 ZF rfl<|ZNH S27 rfl hb rfl<|ZSF U27 rfl hs rfl<|ZN7 rfl rfl (ZPC (by omega)<|by omega) rfl<|Yp rfl rfl ?_);refine PE [] 3 ZF rfl<|V1 (ι:=Nat×List (Nat×UInt8)×List Own×Heaplet) (λi=> [(0,.func (.yield q) #[] #[]),(1,.pointer<|some ⟨b,0,none⟩),(3,.int .i64<|(i.1:Int)-1)]) (λi=>i.2.2.1) (λi=>i.2.2.2) (λi=>i.1<=m.length/\i.2.1++bwd m i.1=bwd m m.length/\I i.2.1 i.2.2.1 i.2.2.2/\Hle H i.2.2.2) (λi=>i.1) (m.length,[],o,H) (⟨TF _,rfl,hI,Rz _⟩) ⟨rfl,rfl,rfl,trivial⟩ rfl rfl ?_;rintro⟨k,pre,x,H2⟩ d;dsimp only at d|-;obtain⟨C,a,e,c⟩:=d;have r:=c _ _ _ hb;have s:=IsB.mono c hs;refine Run.cl [] 3 ZF rfl<|Qo rfl rfl<|ZTl rfl rfl rfl<|R0 [] 2 ZF rfl<|ZQi rfl (λz=> ?_) λz=> ?_
 ·
  refine R5 [] 6 ZF rfl (Qo rfl rfl<|Qo rfl rfl<|ZNH S27 rfl r rfl<|Qo rfl rfl<|ZTk (k:=k-1) U27 S5 rfl s rfl (by omega) (by omega) rfl λA B f=>ZNH S5 rfl f rfl ?_);have e1:((k-1:Nat):Int)=(k:Int)-1:=by omega
  have e2:m.getD (k-1) 0=m[k-1]:=by rw[List.getD_eq_getElem?_getD,TL (show k-1<m.length by omega),Rb]
  have e3:bwd m k=(k-1,m.getD (k-1) 0)::bwd m (k-1):=by rw[show k=(k-1)+1 by omega];rfl
  refine ZDo (vs:=[_,_]) (mine:=[]) ((k-1,m.getD (k-1) 0)) u rfl rfl e (⟨by simp only[e1,e2],bwd m (k-1),by rw[<-a,e3]⟩) rfl rfl (λg j h n=> ?_) λg j h p=> ?_
  ·
   refine ZNG rfl rfl<|PQ [] 7 ZF rfl<|Qo rfl rfl<|ZN7 rfl rfl (ZPC (by omega)<|by omega) rfl<|Yp rfl rfl<|JL.nil<|VI (i:=(k,pre,x,H2)) (k-1,pre++ [(k-1,m.getD (k-1) 0)],g,j) (by exact⟨by simp only;omega,by rw[<-a,e3];simp,n,c.trans h⟩) (by simp only;omega) (by exact⟨rfl,rfl,by show some _=some _;simp only[e1],trivial⟩) rfl rfl
  ·
   refine ZNG rfl rfl<|PP [] 6 ZF rfl<|R3 [] 2 ZF rfl<|Jd (.inl rfl) rfl rfl ?_;exact⟨c.trans h,.inr ⟨_,⟨bwd m (k-1),by rw[<-a,e3];simp⟩,p⟩⟩
 ·
  refine PR [] 4 ZF rfl<|Jd (.inr rfl) rfl rfl ?_;exact⟨c,.inl ⟨pre,by rw[<-a,show k=0 by omega];simp[bwd],e⟩⟩
end Go.Proofs.YtgdchaoklfjcpaaGreatDoor
