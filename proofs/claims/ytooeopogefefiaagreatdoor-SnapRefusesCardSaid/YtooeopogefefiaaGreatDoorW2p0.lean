import Derived.Test.YtooeopogefefiaaGreatDoorT2
import Derived.Test.YtooeopogefefiaaGreatDoorOwMf
import Derived.Test.YtooeopogefefiaaGreatDoorOwPgvq
/- walks: what the code computes, function by function. -/
set_option linter.unusedSimpArgs false
set_option linter.unusedVariables false
namespace Go.Proofs.YtooeopogefefiaaGreatDoor
open Go.Ow Go.RowKit Go.Proofs
set_option maxHeartbeats 8000000
theorem ZCp{c d}:Con Tryz.prog 216 true ([.w64 c,.w64 d]) (Kg c d) (λr=> [.w64 r.1,.w64 r.2]):=by
 intro H r h;refine Pj Tryz.func216 rfl rfl ?_;intro w;unfold Kg at h;refine Run.cl [] 9 ZP rfl (ZB rfl rfl (ZGm (a:=c) (b:=(4294967295:UInt64)) rfl rfl) (R6 [] 6 ZP rfl (ZB rfl rfl (ZBV (n:=((32:UInt64).toNat:Int)) (a:=c) rfl rfl (by decide)) ?_)));refine R6 [] 6 ZP rfl (ZB rfl rfl (ZGm (a:=d) (b:=(4294967295:UInt64)) rfl rfl) (R6 [] 6 ZP rfl (ZB rfl rfl (ZBV (n:=((32:UInt64).toNat:Int)) (a:=d) rfl rfl (by decide)) ?_)));refine R6 [] 7 ZP rfl (ZB rfl rfl (ZBW (a:=c&&&(4294967295:UInt64)) (b:=d&&&(4294967295:UInt64)) rfl rfl) (R6 [] 7 ZP rfl (ZB rfl rfl (ZBW (a:=sr64 c (((32:UInt64).toNat:Int)).toNat) (b:=d&&&(4294967295:UInt64)) rfl rfl) (ZB rfl rfl (XJ rfl) (ZB rfl rfl (ZBV (n:=((32:UInt64).toNat:Int)) (a:=(c&&&(4294967295:UInt64))*(d&&&(4294967295:UInt64))) rfl rfl (by decide)) (ZB rfl rfl (ZER (a:=(sr64 c (((32:UInt64).toNat:Int)).toNat)*(d&&&(4294967295:UInt64))) (b:=sr64 ((c&&&(4294967295:UInt64))*(d&&&(4294967295:UInt64))) (((32:UInt64).toNat:Int)).toNat) rfl rfl) ?_))))));refine R6 [] 6 ZP rfl (ZB rfl rfl (ZGm (a:=((sr64 c (((32:UInt64).toNat:Int)).toNat)*(d&&&(4294967295:UInt64)))+(sr64 ((c&&&(4294967295:UInt64))*(d&&&(4294967295:UInt64))) (((32:UInt64).toNat:Int)).toNat)) (b:=(4294967295:UInt64)) rfl rfl) (R6 [] 6 ZP rfl (ZB rfl rfl (ZBV (n:=((32:UInt64).toNat:Int)) (a:=((sr64 c (((32:UInt64).toNat:Int)).toNat)*(d&&&(4294967295:UInt64)))+(sr64 ((c&&&(4294967295:UInt64))*(d&&&(4294967295:UInt64))) (((32:UInt64).toNat:Int)).toNat)) rfl rfl (by decide)) ?_)));refine R6 [] 8 ZP rfl (ZB rfl rfl (ZBW (a:=c&&&(4294967295:UInt64)) (b:=sr64 d (((32:UInt64).toNat:Int)).toNat) rfl rfl) (ZB rfl rfl (ZER (a:=(((sr64 c (((32:UInt64).toNat:Int)).toNat)*(d&&&(4294967295:UInt64)))+(sr64 ((c&&&(4294967295:UInt64))*(d&&&(4294967295:UInt64))) (((32:UInt64).toNat:Int)).toNat))&&&(4294967295:UInt64)) (b:=(c&&&(4294967295:UInt64))*(sr64 d (((32:UInt64).toNat:Int)).toNat)) rfl rfl) (R6 [] 7 ZP rfl (ZB rfl rfl (ZBW (a:=sr64 c (((32:UInt64).toNat:Int)).toNat) (b:=sr64 d (((32:UInt64).toNat:Int)).toNat) rfl rfl) (ZB rfl rfl (XJ rfl) (ZB rfl rfl (ZER (a:=(sr64 c (((32:UInt64).toNat:Int)).toNat)*(sr64 d (((32:UInt64).toNat:Int)).toNat)) (b:=sr64 (((sr64 c (((32:UInt64).toNat:Int)).toNat)*(d&&&(4294967295:UInt64)))+(sr64 ((c&&&(4294967295:UInt64))*(d&&&(4294967295:UInt64))) (((32:UInt64).toNat:Int)).toNat)) (((32:UInt64).toNat:Int)).toNat) rfl rfl) (ZB rfl rfl (XJ rfl) (ZB rfl rfl (ZBV (n:=((32:UInt64).toNat:Int)) (a:=((((sr64 c (((32:UInt64).toNat:Int)).toNat)*(d&&&(4294967295:UInt64)))+(sr64 ((c&&&(4294967295:UInt64))*(d&&&(4294967295:UInt64))) (((32:UInt64).toNat:Int)).toNat))&&&(4294967295:UInt64))+((c&&&(4294967295:UInt64))*(sr64 d (((32:UInt64).toNat:Int)).toNat))) rfl rfl (by decide)) (ZB rfl rfl (ZER (a:=((sr64 c (((32:UInt64).toNat:Int)).toNat)*(sr64 d (((32:UInt64).toNat:Int)).toNat))+(sr64 (((sr64 c (((32:UInt64).toNat:Int)).toNat)*(d&&&(4294967295:UInt64)))+(sr64 ((c&&&(4294967295:UInt64))*(d&&&(4294967295:UInt64))) (((32:UInt64).toNat:Int)).toNat)) (((32:UInt64).toNat:Int)).toNat)) (b:=sr64 (((((sr64 c (((32:UInt64).toNat:Int)).toNat)*(d&&&(4294967295:UInt64)))+(sr64 ((c&&&(4294967295:UInt64))*(d&&&(4294967295:UInt64))) (((32:UInt64).toNat:Int)).toNat))&&&(4294967295:UInt64))+((c&&&(4294967295:UInt64))*(sr64 d (((32:UInt64).toNat:Int)).toNat))) (((32:UInt64).toNat:Int)).toNat) rfl rfl) ?_)))))))));refine R5 [] 3 ZP rfl (ZUD (l':=[(0,.int .u64 (c.toNat:Int)),(1,.int .u64 (d.toNat:Int)),(4,.int .u64 (((((sr64 c (((32:UInt64).toNat:Int)).toNat)*(sr64 d (((32:UInt64).toNat:Int)).toNat))+(sr64 (((sr64 c (((32:UInt64).toNat:Int)).toNat)*(d&&&(4294967295:UInt64)))+(sr64 ((c&&&(4294967295:UInt64))*(d&&&(4294967295:UInt64))) (((32:UInt64).toNat:Int)).toNat)) (((32:UInt64).toNat:Int)).toNat))+(sr64 (((((sr64 c (((32:UInt64).toNat:Int)).toNat)*(d&&&(4294967295:UInt64)))+(sr64 ((c&&&(4294967295:UInt64))*(d&&&(4294967295:UInt64))) (((32:UInt64).toNat:Int)).toNat))&&&(4294967295:UInt64))+((c&&&(4294967295:UInt64))*(sr64 d (((32:UInt64).toNat:Int)).toNat))) (((32:UInt64).toNat:Int)).toNat)).toNat:Int)),(5,.int .u64 ((0:UInt64).toNat:Int))]) (own':=[]) ⟨rfl,rfl,rfl,rfl,trivial⟩ rfl (ZSI (l':=[(0,.int .u64 (c.toNat:Int)),(1,.int .u64 (d.toNat:Int)),(4,.int .u64 (((((sr64 c (((32:UInt64).toNat:Int)).toNat)*(sr64 d (((32:UInt64).toNat:Int)).toNat))+(sr64 (((sr64 c (((32:UInt64).toNat:Int)).toNat)*(d&&&(4294967295:UInt64)))+(sr64 ((c&&&(4294967295:UInt64))*(d&&&(4294967295:UInt64))) (((32:UInt64).toNat:Int)).toNat)) (((32:UInt64).toNat:Int)).toNat))+(sr64 (((((sr64 c (((32:UInt64).toNat:Int)).toNat)*(d&&&(4294967295:UInt64)))+(sr64 ((c&&&(4294967295:UInt64))*(d&&&(4294967295:UInt64))) (((32:UInt64).toNat:Int)).toNat))&&&(4294967295:UInt64))+((c&&&(4294967295:UInt64))*(sr64 d (((32:UInt64).toNat:Int)).toNat))) (((32:UInt64).toNat:Int)).toNat)).toNat:Int)),(5,.int .u64 ((0:UInt64).toNat:Int))]) (own':=[]) (rst:=[]) ⟨rfl,rfl,rfl,rfl,trivial⟩ Yk (Run.cl [] 4 ZP rfl (ZB rfl rfl (ZBW (a:=c) (b:=d) rfl rfl) (PM [] 4 ZP rfl ?_)))));exact ZK2 [] rfl h rfl rfl
theorem Gx{a b}:Con Tryz.prog 186 true ([.w64 a,.w64 b]) (Qz a b) (λr=> [.w64 r.1,.w64 r.2]):=by
 intro H r h;refine Pj Tryz.func186 rfl rfl ?_;intro w;unfold Qz at h;refine Run.cl [] 14 ZP rfl (ZGq h E216 rfl ZCp rfl trivial ?_);intro c d h;refine PM [] 16 ZP rfl ?_;exact ZK2 [] rfl h rfl rfl
theorem Dt (b5:List Int)(z:Int)(H:Heaplet){L:Option Addr}{M:Nat}{N:Nat}(b6:IsSlice H RInt 1 (.slice L M N) b5)(r:List Int)(t:Qn b5 z=some r):
  Does Tryz.prog 152 #[.slice L M N,.int .i64 z] [] H (λu K' H'=>∃J:Option Addr,∃n0:Nat,∃I:Nat,∃U:Own,u=.slice J n0 I/\K'= [U]/\H=H'/\RowOf (New H H) RInt 0 3 1 (.slice J n0 I) r U/\(∀p∈U,p.1∉ids (List.flatten []))/\True):=by
 refine PA (vs:=[.slice L M N,.int .i64 z]) (l:=[(0,.slice L M N),(1,.int .i64 z)]) Tryz.func152 rfl rfl ⟨rfl,rfl,trivial⟩ (λw V=> ?_);unfold Qn at t;refine PC [] 12 ZP rfl (XQ t rfl (λc1 t=> ?_) (λc1 t=> ?_))
 ·
  refine Q2 ?_;cases t
 ·
  refine R7 [] 5 ZP rfl (ZB rfl rfl (XK U32 rfl (IsSlice.long b6)) (ZB rfl rfl (Vc U3 U172 rfl) (ZB rfl rfl (XJ rfl) (ZB rfl rfl (Vc U3 U172 rfl) (ZGq t E186 rfl Gx rfl trivial ?_)))));intro O d5 t;refine R6 [] 11 ZP rfl (ZB rfl rfl (ZEQ (a:=O.1) (b:=(0:UInt64)) rfl rfl) (ZB rfl rfl (XJ rfl) (ZUO 23 t rfl (λc2 t=> ?_) (λc2 t=> ?_))))
  ·
   refine PL [] 7 ZP rfl ?_;cases t
  ·
   refine PI [] 3 ZP rfl (ZB rfl rfl (ZEQ (a:=O.2) (b:=(9223372036854775807:UInt64)) rfl rfl) (R5 [] 3 ZP rfl (XQ t rfl (λc3 t=> ?_) (λc3 t=> ?_))))
   ·
    refine Q2 ?_;cases t
   ·
    refine R7 [] 5 ZP rfl (ZB rfl rfl (DB (a:=O.2) U172 U3 rfl) ?_);obtain⟨s,c4,c5,t⟩:=Gw t;refine ZVc (HF:=New H H) (R:=RInt) (y:=0) (n:=w64 (O.2.toNat:Int)) U32 I3 rfl rfl (λ_=>rfl) RInt.one c4 c5 rfl rfl (λd6 d7 W=> ?_);obtain⟨P,Q,rfl⟩:=RowOf.val W;refine R6 [] 7 ZP rfl ?_;obtain⟨d8,c6,c7,t⟩:=Kw t;refine Ww (HF:=(New H H)) (lo:=0) (hi:=(s.length:Int)) 0 U32 S3 rfl W rfl (ZFy W) rfl (CSrc.slice RInt.one (R1 _) b6 (λ_ _ h=>RInt.const _ _ _ _ h)) c7 c6 rfl (λc8 c9=>PK [] 4 ZP rfl (WP t [7] [] rfl rfl (λX l0 Y l o g=>∃S:Own,l=l0/\o=S::Y/\H=g/\RowOf (New H H) RInt w.heap.size 3 1 (.slice P s.length Q) X S) (λX d9 t=> ?_) (λX e0 t=> ?_)))
    ·
     rintro _ _ _ ⟨S,rfl,rfl,rfl,b7⟩;refine PN [] 8 ZP rfl (Yc (vs:=[.slice P s.length Q]) (K:=[_]) (rst:=[]) (.inl rfl) rfl rfl (Yq rfl rfl) (Qm 0 rfl Yk) ?_);obtain rfl:=TJ t;exact⟨P,s.length,Q,S,rfl,rfl,rfl,(RowOf.weak (TK _) b7),(UM b7 V),trivial⟩
    ·
     refine JC.block (Wx [7] [] rfl rfl (λl0 Y d l o g=>∃T:Own,l=(8,.int .i64 d.2)::l0/\o=T::Y/\H=g/\RowOf (New H H) RInt w.heap.size 3 1 (.slice P s.length Q) d.1 T) t ⟨c8,rfl,rfl,rfl,c9⟩ rfl ?_)
     ·
      rintro e1 d _ _ _ ⟨T,rfl,rfl,rfl,f⟩ e2 t Z;unfold Kr at t;refine Run.cl [] 5 ZP rfl (ZB rfl rfl (XK U32 rfl (RowOf.long f)) (R5 [] 3 ZP rfl (XQ t rfl (λd0 t=> ?_) (λd0 t=> ?_))))
      ·
       refine PZ [] 3 ZP rfl (ZA3 (so:=[(_,[7])]) 10 rfl Mixed ⟨by kernel_rfl,by kernel_rfl⟩ (Ur [0] rfl) ?_);refine JB.run 5 [0,1,2,4,5] [] ZP rfl ?_;obtain⟨q,t⟩:=ZH t;obtain⟨k,t⟩:=ZH t;obtain⟨b8,b9,c0,t⟩:=Kw t;refine OH (i:=3) (j:=6) (by kernel_rfl) ?_ ?_
       ·
        refine JOB.step rfl trivial rfl (λK G=> ?_);obtain⟨d1,v,A,B,C,b1,d2⟩:=QJ f q;refine ZB rfl rfl (QA (cap:=v) (a:=d.2) (b:=(d.1.length:Int)) (c:=(v:Int)) (m:=d.1) (R:=RInt) U32 S3 rfl ⟨_,rfl⟩ rfl (by obtain⟨ao,n,e,_⟩:=A;exact⟨ao,n,e,rfl⟩) ⟨q.1,q.2.1,B⟩ C (.inl rfl)) (JL.nil (G _ _ _ (R1 _) (Ur [0] rfl) ?_));refine JB.one (i:=6) (by kernel_rfl) ?_;refine JOB.step rfl trivial rfl (λK G=> ?_);obtain⟨d3,x,D,E,F,b2,d4⟩:=QJ f k;refine ZB rfl rfl (QA (cap:=x) (a:=(0:Int)) (b:=d.2) (c:=(x:Int)) (m:=d.1) (R:=RInt) U32 S3 rfl rfl ⟨_,rfl⟩ (by obtain⟨ao,n,e,_⟩:=D;exact⟨ao,n,e,rfl⟩) ⟨k.1,k.2.1,E⟩ F (.inl rfl)) (JL.nil (G _ _ _ (R1 _) (Ur [0] rfl) ?_));refine JB.one (i:=7) (by kernel_rfl) ?_;refine JOB.step rfl trivial rfl (λK G=>Ww (HF:=(New H H)) (lo:=d.2) (hi:=(d.1.length:Int)) 0 U32 S3 rfl f rfl b1 rfl (Pd 0 rfl f b2 k rfl) c0 b9 rfl (λb3 b4=>JL.nil (G _ _ _ (R1 _) (ZHa [true] [0] (by kernel_rfl) rfl) ?_)));refine JB.run 2 [8,9] [] ZP rfl ?_;refine PT (by kernel_rfl) ?_;refine DD ?_;replace t:=QL Z t;exact YA ⟨(b8,w64 (d.2+(min ((cut d.1 (0:Int) d.2).length:Int) ((d.1.length:Int)-d.2)))),⟨b3,rfl,rfl,rfl,b4⟩,t⟩ rfl rfl rfl
       ·
        refine JOB.step rfl trivial rfl (λK G=> ?_);obtain⟨d3,x,D,E,F,b2,d4⟩:=QJ f k;refine ZB rfl rfl (QA (cap:=x) (a:=(0:Int)) (b:=d.2) (c:=(x:Int)) (m:=d.1) (R:=RInt) U32 S3 rfl rfl ⟨_,rfl⟩ (by obtain⟨ao,n,e,_⟩:=D;exact⟨ao,n,e,rfl⟩) ⟨k.1,k.2.1,E⟩ F (.inl rfl)) (JL.nil (G _ _ _ (R1 _) (Ur [0] rfl) ?_));refine JB.one (i:=3) (by kernel_rfl) ?_;refine JOB.step rfl trivial rfl (λK G=> ?_);obtain⟨d1,v,A,B,C,b1,d2⟩:=QJ f q;refine ZB rfl rfl (QA (cap:=v) (a:=d.2) (b:=(d.1.length:Int)) (c:=(v:Int)) (m:=d.1) (R:=RInt) U32 S3 rfl ⟨_,rfl⟩ rfl (by obtain⟨ao,n,e,_⟩:=A;exact⟨ao,n,e,rfl⟩) ⟨q.1,q.2.1,B⟩ C (.inl rfl)) (JL.nil (G _ _ _ (R1 _) (Ur [0] rfl) ?_));refine JB.one (i:=7) (by kernel_rfl) ?_;refine JOB.step rfl trivial rfl (λK G=>Ww (HF:=(New H H)) (lo:=d.2) (hi:=(d.1.length:Int)) 0 U32 S3 rfl f rfl b1 rfl (Pd 0 rfl f b2 k rfl) c0 b9 rfl (λb3 b4=>JL.nil (G _ _ _ (R1 _) (ZHa [true] [0] (by kernel_rfl) rfl) ?_)));refine JB.run 2 [8,9] [] ZP rfl ?_;refine PT (by kernel_rfl) ?_;refine DD ?_;replace t:=QL Z t;exact YA ⟨(b8,w64 (d.2+(min ((cut d.1 (0:Int) d.2).length:Int) ((d.1.length:Int)-d.2)))),⟨b3,rfl,rfl,rfl,b4⟩,t⟩ rfl rfl rfl
      ·
       refine PE [] 2 ZP rfl ?_;obtain rfl:=KG Z t;refine R9 [] 2 ZP rfl ?_;exact YA ⟨T,rfl,rfl,rfl,f⟩ rfl rfl rfl
theorem ZH2 (d:List Int)(H:Heaplet){ao:Option Addr}{n cap:Nat}(hs:IsSlice H RInt 1 (.slice ao n cap) d)(r:List (List UInt8))(Z:Vu d=some r):
  Does Tryz.prog 151 #[.slice ao n cap] [] H (λu K' H'=>∃U:Option Addr,∃n0:Nat,∃F:Nat,∃K0:Own,u=.slice U n0 F/\K'= [K0]/\H=H'/\Pcs 0 5 26 (.slice U n0 F) r K0/\(∀p∈K0,p.1∉ids (List.flatten []))/\True):=by
 unfold Vu at Z;split at Z
 case isFalse=>cases Z
 rename_i hp;obtain rfl:=TJ Z;obtain⟨e,z⟩:∃e,e=d.map Int.toNat:=⟨_,rfl⟩;have G:d=e.map (λn:Nat=>(n:Int)):=by
  rw[z,RU];have:∀(q:List Int),(∀n∈q,0<=n)->q=q.map ((λn:Nat=>(n:Int))∘Int.toNat):=by
   intro q;induction q with
   |nil=>intro _;rfl
   |cons y q ih=>intro h;rw[Tq,<-ih (λn hn=>h n (by simp[hn]))];congr 1;have:=h y (by simp);simp only[Function.comp];omega
  exact this _ hp.1
 have A:e.sum<=LIM:=by rw[z];exact hp.2.1
 have V:e.length<=LIM:=by rw[z,RL];exact hp.2.2
 have W:d.length=e.length:=by rw[z,RL]
 have I:∀i,i<e.length->∃y:Nat,e[i]? =some y/\Nth d (i:Int) (y:Int):=λi hi=>by
  refine⟨e[i],TO hi,Se i,?_⟩;rw[G];simp[hi]
 have J:∀i,(e.take i).sum<=e.sum:=λi=>by
  have:=congrArg List.sum (RP i e);rw[List.sum_append]at this;omega
 have v:∀i y,e[i]? =some y->e.take (i+1)=e.take i++ [y]:=λi y h=>by rw[List.take_add_one,h];rfl
 have hL:LIM=1099511627776:=rfl;have hr:(d.map λn=>List.replicate n.toNat (0:UInt8))=e.map λn=>List.replicate n 0:=by rw[G,RU];rfl
 rw[hr];clear hr;obtain⟨ao,cap,e0⟩:=hs.val;rw[e0]at hs;simp only[e0];rw[W]at hs|-;refine PA (vs:=[.slice ao e.length cap]) (l:=[(0,.slice ao e.length cap)]) Tryz.func151 rfl rfl ⟨rfl,trivial⟩ (λw hlt=>PC [] 11 ZP rfl ?_)
 -- how many in all
 refine JC.cut (λl o g=>l= [(0,.slice ao e.length cap),(2,.slice none 0 0),(3,.int .i64 ((e.sum:Nat):Int))]/\o= []/\H=g) ?_ ?_
 rotate_left
 ·
  refine Run.cl [] 3 ZP rfl (ZB rfl rfl (XK U32 rfl ⟨_,_,rfl⟩) (PK [] 4 ZP rfl (GA (ι:=Nat) (λi=> [(0,.slice ao e.length cap),(2,.slice none 0 0),(9,.slice ao e.length cap),(10,.int .i64 (e.length:Int)),(3,.int .i64 (((e.take i).sum:Nat):Int)),(11,.int .i64 ((i:Nat):Int))]) (λ_=> []) (λ_=>H) (λi=>i<=e.length) (λi=>e.length-i) 0 (TK _) ⟨rfl,rfl,rfl,rfl,rfl,rfl,trivial⟩ rfl rfl ?_)));intro i hi;refine PC [] 6 ZP rfl (BJ rfl (λc=> ?_) (λc=> ?_))
  ·
   have t:i<e.length:=(by have:=TC c;omega);obtain⟨y,hy,hN⟩:=I i t;obtain⟨b1,q1,L,M,N,hl1,O⟩:=IsSlice.elem hs hN;obtain rfl:L= [.int .i64 (y:Int)]:=N;have D:=v i y hy;have hw:w64 ((((e.take i).sum:Nat):Int)+(y:Int))=(((e.take (i+1)).sum:Nat):Int):=by
    have h1:=J (i+1);rw[D,List.sum_append]at h1|-;simp only[List.sum_cons,List.sum_nil,SV]at h1|-;rw[ZX (by omega) (by omega)];omega
   refine R7 [] 6 ZP rfl (ZB rfl rfl (ZDK U32 S3 rfl rfl M) (ZB rfl rfl (K8 S3 rfl (O 0 _ rfl)) (PL [] 7 ZP rfl ?_)));rw[hw];refine PP [] 5 ZP rfl (ZB rfl rfl (ZFz rfl rfl (TC c) (by omega)) ?_);refine PB [] 2 ZP rfl (JK (i:=i) (i+1) t (by omega) ⟨rfl,rfl,rfl,rfl,rfl,rfl,trivial⟩ rfl rfl)
  ·
   have P:i=e.length:=(by have:=of_decide_eq_false c;omega);subst P;refine PJ [] 4 ZP rfl ?_;rw[Rb];exact JN.cut ⟨rfl,rfl,rfl⟩ ⟨rfl,rfl,rfl,trivial⟩ rfl rfl
 rintro _ _ _ ⟨rfl,rfl,rfl⟩;refine PV [] 4 ZP rfl (ZVd U26 I5 rfl rfl A rfl rfl (λhb hhb=>PK [] 4 ZP rfl (JC.cut (λl o g=>∃(x:Option Addr) (Q j:Nat) (S:Own),l= [(2,.slice x Q j)]/\o= [S,[(hb,.cells (bvs (List.replicate e.sum 0)).toArray 5 (0,0))]]/\H=g/\RowOf (λ_ _=>none) (RPc hb) w.heap.size 26 1 (.slice x Q j) (offs 0 e) S) ?_ ?_)))
 rotate_left
 ·
  refine Run.cl [] 3 ZP rfl (ZB rfl rfl (XK U32 rfl ⟨_,_,rfl⟩) (ZB rfl rfl (XJ rfl) (ZT4 (PK [] 3 ZP rfl ?_))));refine GA (ι:=Nat×Nat×Option Addr×Nat×Nat×Own) (λi=> [(21,.slice ao e.length cap),(22,.int .i64 (e.length:Int)),(2,.slice i.2.2.1 i.2.2.2.1 i.2.2.2.2.1),(6,.slice (some ⟨hb,i.2.1,none⟩) (e.sum-(e.take i.1).sum) (e.sum-(e.take i.1).sum)),(23,.int .i64 ((i.1:Nat):Int))])
   (λi=> [i.2.2.2.2.2,[(hb,.cells (bvs (List.replicate e.sum 0)).toArray 5 (0,0))]]) (λ_=>H)
   (λi=>i.1<=e.length/\(e.sum-(e.take i.1).sum=0\/i.2.1=(e.take i.1).sum)/\RowOf (λ_ _=>none) (RPc hb) w.heap.size 26 1 (.slice i.2.2.1 i.2.2.2.1 i.2.2.2.2.1) (offs 0 (e.take i.1)) i.2.2.2.2.2) (λi=>e.length-i.1) (0,0,none,0,0,[])
   ⟨TK _,.inr rfl,RowOf.nil _ _ _ _ _⟩ ⟨rfl,rfl,rfl,rfl,rfl,trivial⟩ rfl rfl ?_
  rintro⟨i,s,x,Q,j,S⟩ ⟨hi,E,k⟩;dsimp only at hi E k|-;refine PC [] 6 ZP rfl (BJ rfl (λc=> ?_) (λc=> ?_))
  ·
   have t:i<e.length:=(by have:=TC c;omega);obtain⟨y,hy,hN⟩:=I i t;obtain⟨b1,q1,L,M,N,hl1,O⟩:=IsSlice.elem hs hN;obtain rfl:L= [.int .i64 (y:Int)]:=N;have D:=v i y hy;have htot:=J (i+1);have hsm:(e.take (i+1)).sum=(e.take i).sum+y:=(by rw[D,List.sum_append];simp);obtain⟨f,X⟩:∃f,f=e.sum-(e.take i).sum:=⟨_,rfl⟩;rw[<-X]at E|-;have hyr:y<=f:=(by omega);have hcy:y=0\/s=(e.take i).sum:=by
    rcases E with h|h
    ·
     left;omega
    ·
     exact .inr h
   have B:e.sum-(e.take (i+1)).sum=f-y:=(by omega);have e31:Value.slice (some ⟨hb,s,none⟩) y y=sliced (some ⟨hb,s,none⟩) (0:Int).toNat (y:Int).toNat (y:Int).toNat 1:=by
    unfold sliced;simp only[T9,Rt,Nat.sub_zero,RB,Nat.zero_mul,add_lit,SV];split<;>rfl
   obtain⟨s2,hs2,e36⟩:∃s2,(f-y=0\/s2=(e.take (i+1)).sum)/\Value.slice (some ⟨hb,s2,none⟩) (f-y) (f-y)=sliced (some ⟨hb,s,none⟩) (y:Int).toNat (f:Int).toNat (f:Int).toNat 1:=by
    unfold sliced;simp only[T9,RB,add_lit,Sd];by_cases h:f=y
    ·
     exact⟨s,.inl (by omega),by rw[TG h]⟩
    ·
     refine⟨s+y,.inr ?_,by rw[TM h]⟩;rcases E with h'|h'<;>omega
   have hq:offs 0 (e.take (i+1))=offs 0 (e.take i)++ [((e.take i).sum,y)]:=(by rw[D,ZFI];simp[offs]);have hll:(offs 0 (e.take i)).length+ [((e.take i).sum,y)].length<=LIM:=(by rw[D8,TH];simp only[TZ,T6];omega);refine R7 [] 6 ZP rfl (ZB rfl rfl (ZDK U32 S3 rfl rfl M) (ZB rfl rfl (K8 S3 rfl (O 0 _ rfl)) (R6 [] 9 ZP rfl (ZB rfl rfl (QA (cap:=f) (a:=0) (b:=(y:Int)) (c:=(y:Int)) (m:=List.replicate f (0:UInt8)) (R:=RU8) (v':=.slice (some ⟨hb,s,none⟩) y y) U26 S5 rfl rfl ⟨_,rfl⟩ ⟨_,rfl⟩ ⟨SK _,by omega,SK _⟩ ⟨some ⟨hb,s,none⟩,by rw[T2],by omega,e31⟩ (.inr (λh=>by cases h))) (WO (HF:=λ_ _=>none) (R:=RPc hb) (ls:=[((e.take i).sum,y)]) (vs:=[.slice (some ⟨hb,s,none⟩) y y]) U22 I26 rfl rfl (⟨_,_,rfl,rfl,⟨s,rfl,hcy⟩,rfl⟩) (RPc.one hb) rfl rfl rfl (by simp[maxLen]) rfl (λv3 K3 h3=> ?_))))));obtain⟨ao3,cap3,rfl⟩:=RowOf.val h3;refine ZEU (HF:=λ_ _=>none) 1 U22 I26 rfl rfl k rfl (SrcF.row 0 U22 rfl h3) hq hll rfl (TL _) rfl (λv4 K4 h4=> ?_);obtain⟨ao4,Y,rfl⟩:=RowOf.val h4;refine PL [] 6 ZP rfl (ZB rfl rfl (QA (cap:=f) (a:=(y:Int)) (b:=(f:Int)) (c:=(f:Int)) (m:=List.replicate f (0:UInt8)) (R:=RU8) (v':=.slice (some ⟨hb,s2,none⟩) (f-y) (f-y)) U26 S5 rfl ⟨_,rfl⟩ (by simp) ⟨some ⟨hb,s,none⟩,f,rfl,rfl⟩ ⟨by omega,by omega,SK _⟩ ⟨some ⟨hb,s,none⟩,by rw[T2],by omega,e36⟩ (.inl rfl)) ?_);refine PP [] 5 ZP rfl (ZB rfl rfl (ZFz rfl rfl (TC c) (by omega)) ?_);refine PB [] 2 ZP rfl (JN.forget 0 (JK (i:=(i,s,x,Q,j,S)) (i+1,s2,ao4,_,Y,K4) ⟨t,by dsimp only;rw[B];exact hs2,h4⟩ (by dsimp only;omega) ⟨rfl,rfl,rfl,by dsimp only;rw[B];rfl,rfl,trivial⟩ rfl rfl))
  ·
   have P:i=e.length:=(by have:=of_decide_eq_false c;omega);subst P;refine PJ [] 4 ZP rfl ?_;rw[Rb]at k;exact JN.cut ⟨_,_,_,_,rfl,rfl,rfl,k⟩ ⟨rfl,trivial⟩ rfl rfl
 rintro _ _ _ ⟨x,Q,j,S,rfl,rfl,rfl,k⟩;refine PN [] 2 ZP rfl (Yc (vs:=[.slice x Q j]) (K:=[S++ [(hb,.cells (bvs (List.replicate e.sum 0)).toArray 5 (0,0))]]) (rst:=[]) (.inl rfl) rfl rfl (Yq rfl rfl) (by simp) ?_);have C:(e.map λn=>List.replicate n (0:UInt8)).flatten=List.replicate e.sum 0:=by
  clear I v J hs k G z W A V;induction e with
  |nil=>rfl
  |cons y r ih=>rw[Tq,Td,ih,List.sum_cons,List.replicate_append_replicate]
 have T:lens (e.map λn=>List.replicate n (0:UInt8))=e:=by unfold lens;rw[RU];simp[Function.comp_def]
 refine⟨x,Q,j,_,rfl,rfl,rfl,⟨hb,S,?_,TK _,?_,?_⟩,(λp hp hm=>by cases hm),trivial⟩
 ·
  rw[C]
 ·
  rw[C,T2];exact Qc A
 ·
  rw[T];exact RowOf.weak (TK _) k
theorem ZNy (H:Heaplet)(r:Disk)(g:Uk=some r):
  Does Tryz.prog 104 #[] [] H (λu K' E=>∃n:Option Addr,∃D:Nat,∃e:Nat,∃B:Own,∃o:Option Addr,∃t:Nat,u=.agg #[.slice n D e,.slice o t t]/\K'= [B]/\Pcs 0 5 26 (.slice n D e) r.Blocks B/\(∀p∈B,p.1∉ids (List.flatten []))/\IsSlice (New H E) R_Write 2 (.slice o t t) r.Waits/\True):=by
 refine PA (vs:=[]) (l:=[]) Tryz.func104 rfl rfl trivial (λw C=> ?_);unfold Uk at g;refine Run.cl [] 2 ZP rfl (JL.alloc Z25 rfl (λI J=>R6 [] 4 ZP rfl (WO (HF:=(New H H)) (R:=RInt) (ls:=[256]) (vs:=[.int .i64 256]) U32 I3 rfl rfl (⟨_,_,rfl,rfl,rfl,rfl⟩) RInt.one rfl rfl rfl (by simp[maxLen]) rfl (λL M c=> ?_))));obtain⟨N,O,rfl⟩:=RowOf.val c;obtain⟨i,j,g⟩:=Zb g;refine BH (vs:=[_,_]) E152 rfl rfl (λP k m=>Dt ([256]) 256 _ (Pq 0 m RInt.mono k rfl (c.old RInt.mono)) _ j) rfl (λ_ _ _ _ q s=> ?_);obtain⟨Q,S,T,U,rfl,rfl,rfl,b,-,-⟩:=q;replace b:=RowOf.base (K7 (H2:=New H H) RInt.const b) (λp A=>s p (KV 0 rfl A));refine JL.pubN 0 RInt.mono rfl b (TL _) (λV W v=>JL.forget 0 ?_);obtain⟨X,x,g⟩:=Zb g;refine BI (vs:=[_]) (args:=[_]) (K:=[]) (rst:=[_,_]) E151 rfl rfl rfl Yk (ZH2 i _ (v.old RInt.mono) _ x) rfl (λY Z b8 y b9 z=> ?_);obtain⟨d,f,h,F,rfl,rfl,rfl,a,G,-⟩:=y;replace a:=(Pcs.base a (λp A=>(z p (KV 0 rfl A)).resolve_left (G p A)));refine PM [2] 5 ZP rfl (Yc (vs:=[.agg #[.slice d f h,.slice none 0 0]]) (K:=[_]) (rst:=[_,_]) (.inl rfl) rfl rfl (ZBU 2 rfl rfl S25 rfl) (Qm 0 rfl Yk) ?_);obtain rfl:=TJ g;exact⟨d,f,h,F,none,0,rfl,rfl,(Pcs.weak (TK _) a),(ZHN a C),(IsSlice.nil _ _ _),trivial⟩
theorem ZIJ (b:List UInt8)(H:Heaplet){ao:Option Addr}{n cap:Nat}(hs:IsSlice H RU8 1 (.slice ao n cap) b)(r:List UInt8)(h:og_bytes_Clone b=some r):
  Does Tryz.prog 30 #[.slice ao n cap] [] H (λu K' k=>∃d:Option Addr,∃m:Nat,∃c:Nat,∃g:Own,u=.slice d m c/\K'= [g]/\H=k/\RowOf (New H k) RU8 0 5 1 (.slice d m c) r g/\(∀p∈g,p.1∉ids (List.flatten []))/\True):=by
 rw[og_bytes_Clone.eq_1]at h;obtain⟨q,i,s,h⟩:=QQ h;obtain rfl:=TJ h;refine Does.enter (vs:=[.slice ao n cap]) (l:=[(0,.slice ao n cap)]) Tryz.func30 rfl rfl ⟨rfl,trivial⟩ (λw=>Run.cl [] 9 ZP rfl (ZB rfl rfl (JI U26 rfl rfl) (R5 [] 2 ZP rfl ?_)));cases ao with
 |none=>
  have f:=hs.none_nil;subst f;simp only[Tt]at i;subst i;refine PE [] 8 ZP rfl (ZBX (Yc (vs:=[.slice none 0 0]) (K:=[_]) (rst:=[]) (.inl rfl) rfl rfl (Yq rfl rfl) (Qm 0 rfl Yk) ?_));exact⟨none,0,0,[],rfl,rfl,rfl,RowOf.nil _ _ _ _ _,(λp f=>by cases f),trivial⟩
 |some a=>
  refine R7 [] 5 ZP rfl (WO (HF:=New H H) (R:=RU8) (ls:=[]) (vs:=[]) U26 I5 rfl rfl rfl RU8.one rfl rfl rfl (by simp[maxLen]) rfl (λx y h1=> ?_));obtain⟨t,o,rfl⟩:=RowOf.val h1;refine ZB rfl rfl (XJ rfl) (ZEU (HF:=New H H) 0 U26 I5 rfl rfl h1 rfl (P8 RU8.const RU8.one U26 hs) i s rfl (TL _) rfl (λz K2 h2=> ?_));obtain⟨j,e,rfl⟩:=RowOf.val h2;refine PM [] 4 ZP rfl (Yc (vs:=[.slice j _ e]) (K:=[_]) (rst:=[]) (.inl rfl) rfl rfl (Yq rfl rfl) (Qm 0 rfl Yk) ?_);exact⟨_,_,_,_,rfl,rfl,rfl,RowOf.weak (TK _) h2,(λp f v=>by cases v),trivial⟩
theorem ZFb (b9:Disk)(H:Heaplet){y:Option Addr}{z:Nat}{G:Nat}{I:Option Addr}{J:Nat}{L:Nat}(a:IsSlice H (RSl RU8 1) 1 (.slice y z G) b9.Blocks)(c0:IsSlice H R_Write 2 (.slice I J L) b9.Waits)(r:Disk)(e:X4 b9=some r):
  Does Tryz.prog 117 #[.agg #[.slice y z G,.slice I J L]] [] H (λu K' H'=>∃C:Option Addr,∃n0:Nat,∃t:Nat,∃K0:Own,∃D:Option Addr,∃n1:Nat,∃A:Nat,∃K1:Own,u=.agg #[.slice C n0 t,.slice D n1 A]/\K'= [K0,K1]/\Pcs 0 5 26 (.slice C n0 t) r.Blocks K0/\(∀p∈K0,p.1∉ids (List.flatten []))/\RowOf (New H H') R_Write 0 117 2 (.slice D n1 A) r.Waits K1/\(∀p∈K1,p.1∉ids (List.flatten []))/\True):=by
 refine PA (vs:=[.agg #[.slice y z G,.slice I J L]]) (l:=[(0,.agg #[.slice y z G,.slice I J L])]) Tryz.func117 rfl rfl ⟨rfl,trivial⟩ (λw E=> ?_);unfold X4 at e;refine Run.cl [] 2 ZP rfl (ZK5 rfl rfl (λk0 k1=>JL.alloc Z25 rfl (λd4 k2=>R6 [1] 12 ZP rfl (ZB rfl rfl (XK U22 rfl (IsSlice.long a)) (R5 [] 3 ZP rfl (WP e [1,2] [1,0] rfl rfl (λM l0 n l o g=>∃c1:Option Addr,∃c2:Nat,∃c3:Nat,∃c4:Own,l=(3,.slice c1 c2 c3)::l0/\o=c4::n/\H=g/\RowOf (New H H) RInt w.heap.size 3 1 (.slice c1 c2 c3) M c4) (λM k3 e=> ?_) (λM k4 e=> ?_)))))))
 ·
  rintro _ _ _ ⟨c1,c2,c3,c4,rfl,rfl,rfl,f7⟩;refine PV [] 4 ZP rfl (JL.pubN 0 RInt.mono rfl f7 (TL _) (λj d5 f8=>JL.forget 0 ?_));obtain⟨k5,f9,e⟩:=Zb e;refine BI (vs:=[_]) (args:=[_]) (K:=[]) (rst:=[_,_]) E151 rfl rfl rfl Yk (ZH2 M _ (f8.old RInt.mono) _ f9) rfl (λk6 k7 k8 g0 k9 g1=> ?_);obtain⟨b,c,d,g2,rfl,rfl,rfl,c5,g3,-⟩:=g0;replace c5:=(Pcs.base c5 (λp F=>(g1 p (KV 0 rfl F)).resolve_left (g3 p F)));refine R6 [2,1] 9 ZP rfl (ZB rfl rfl (XK U22 rfl (IsSlice.long a)) (R5 [] 3 ZP rfl (WP e [1,2] [1,2] rfl rfl (λc6 l0 n l o g=>∃N:Own,l=l0/\o=N::n/\j=g/\Pcs w.heap.size 5 26 (.slice b c d) c6 N) (λc6 l1 e=> ?_) (λc6 l2 e=> ?_))))
  ·
   rintro _ _ _ ⟨N,rfl,rfl,rfl,d6⟩;refine PV [1] 6 ZP rfl (ZB rfl rfl (XK U23 rfl (IsSlice.long c0)) (R5 [] 3 ZP rfl (WP e [2] [0] rfl rfl (λc7 l0 n l o g=>∃O:Heaplet,∃k:Option Addr,∃m:Nat,∃q:Nat,∃P:Own,l=l0/\o= [(d4,.cells #[.slice b c d,.slice k m q] 25 (0,0))]::P::n/\O=g/\Hle j O/\RowOf (New H O) R_Write w.heap.size 117 2 (.slice k m q) c7 P) (λc7 l3 e=> ?_) (λc7 l4 e=> ?_))))
   ·
    rintro _ _ _ ⟨O,k,m,q,P,rfl,rfl,rfl,l5,d7⟩;refine PN [] 2 ZP rfl (Yc (vs:=[.agg #[.slice b c d,.slice k m q]]) (K:=[_,_]) (rst:=[_]) (.inl rfl) rfl rfl (ZBU 0 rfl rfl S25 rfl) (Qm 2 rfl (Qm 1 rfl Yk)) ?_);obtain rfl:=TJ e;exact⟨b,c,d,N,k,m,q,P,rfl,rfl,(Pcs.weak (TK _) d6),(ZHN d6 E),(RowOf.weak (TK _) d7),(UM d7 E),trivial⟩
   ·
    refine JC.block (ZPD (JC.forget 2 (QR 1 rfl (QR 1 rfl (QR 2 rfl (Wx [2,43,44] [2] rfl rfl (λl0 n Q l o g=>∃f:Heaplet,∃S:Option Addr,∃T:Nat,∃U:Nat,∃V:Own,l=(45,.int .i64 ((Q.2:Nat):Int))::l0/\o= [(d4,.cells #[.slice b c d,.slice S T U] 25 (0,0))]::V::n/\f=g/\Hle j f/\RowOf (New H f) R_Write w.heap.size 117 2 (.slice S T U) Q.1 V) e ⟨j,none,0,0,[],rfl,rfl,rfl,(R1 _),(RowOf.nil _ _ _ _ _)⟩ rfl ?_))))))
    ·
     rintro l6 Q _ _ _ ⟨f,S,T,U,V,rfl,rfl,rfl,c8,d8⟩ l7 e d9;unfold Qp at e;refine PC [] 6 ZP rfl (XQ e rfl (λe0 e=> ?_) (λe0 e=> ?_))
     ·
      refine R7 [] 6 ZP rfl ?_;obtain⟨s,g4,e⟩:=Ym e;obtain⟨l8,l9,m0,g5,g6,m1,g7⟩:=IsSlice.elem (c0.mono R_Write.mono (d5.trans c8)) g4;obtain⟨m2,rfl,e1⟩:=g6;obtain⟨m3,m4,rfl⟩:=IsSlice.val e1;refine ZB rfl rfl (ZDK U23 S117 rfl rfl g5) (ZB rfl rfl (ZN8 0 S117 rfl g7 rfl rfl) (JL.alloc Z117 rfl (λm5 m6=>R5 [0] 3 ZP rfl (ZA3 (so:=[(_,[]),(_,[9,11]),(_,[9]),(_,[])]) 12 rfl Mixed ⟨by kernel_rfl,by kernel_rfl⟩ (Ur [0,1,2,3] rfl) ?_))));refine JB.val (i:=0) [] rfl (ZMr F25_1 rfl) ?_;refine JB.val (i:=1) [9,10,11] rfl (ZJl 1 S23 rfl rfl rfl) ?_;refine JB.run 4 [2,3,4,5] [0,0] ZP rfl ?_;refine JB.one (i:=6) (by kernel_rfl) ?_;refine JOB.step rfl trivial rfl (λK B=> ?_);obtain⟨g8,g9,e⟩:=Zb e;refine BI (vs:=[_]) (args:=[_]) (K:=[]) (rst:=[_,_,_,_]) E30 rfl rfl rfl Yk (ZIJ s.Data _ e1 _ g9) rfl (λm7 m8 m9 h0 n2 h1=> ?_);obtain⟨c9,d0,d1,n3,rfl,rfl,rfl,d2,h2,-⟩:=h0;replace d2:=(RowOf.base (K7 (H2:=New H f) RU8.const d2) (λp F=>(h1 p (KV 0 rfl F)).resolve_left (h2 p F)));refine JL.nil (B _ _ _ (R1 _) (Ur [1,2,3,4] rfl) ?_);refine JB.val (i:=7) [] rfl (ZK1 (vs:=[(0,.int .i64 s.At),(1,.slice c9 d0 d1)]) (cs:=[.int .i64 s.At,.slice c9 d0 d1]) Z117 B117 rfl rfl rfl) ?_;refine JB.one (i:=8) (by kernel_rfl) ?_;refine JOB.step rfl trivial rfl (λK B=>JL.pubN 0 RU8.mono rfl d2 (TL _) (λd3 v h3=>JL.forget 0 (WO (HF:=(New H d3)) (R:=R_Write) (ls:=[Write.mk s.At g8]) (vs:=[.agg #[.int .i64 s.At,.slice c9 d0 d1]]) U23 I117 rfl rfl (⟨_,_,rfl,rfl,⟨_,rfl,h3⟩,rfl⟩) R_Write.one rfl rfl rfl (by simp[maxLen]) rfl (λn4 n5 e2=> ?_))));obtain⟨n6,n7,rfl⟩:=RowOf.val e2;refine JL.nil (B _ _ _ v (Ur [1,2,3,4] rfl) ?_);refine JB.one (i:=9) (by kernel_rfl) ?_;refine JOB.step rfl trivial rfl (λK B=> ?_);obtain⟨e3,h4,h5,e⟩:=QQ e;refine ZEU (HF:=(New H d3)) 3 U23 I117 rfl rfl (d8.mono R_Write.mono (New.mono v)) rfl (SrcF.row 0 U23 rfl e2) h4 h5 rfl (TL _) rfl (λn8 h6 e4=> ?_);obtain⟨h7,h8,rfl⟩:=RowOf.val e4;refine JL.nil (B _ _ _ v (ZHa [false,true,true,false] [1,0,0,4] (by kernel_rfl) rfl) ?_);refine JB.val (i:=10) [] rfl (ZMr F25_1 rfl) ?_;refine JB.one (i:=11) (by kernel_rfl) ?_;refine JOB.step rfl trivial rfl (λK B=>PB [2] 2 ZP rfl (B _ _ _ v (ZHa [false,true,true,false] [1,0,0,4] (by kernel_rfl) rfl) ?_));refine PT (by kernel_rfl) ?_;refine OD [] 3 ZP rfl (ZB rfl rfl (ZFz rfl rfl (TC e0) (IsSlice.lenI c0)) (PB [] 2 ZP rfl ?_));replace e:=QL d9 e;refine JN.forget 1 (JN.forget 0 (Zn 2 rfl (Zn 2 rfl (Zn 2 rfl ?_))));exact YA ⟨(e3,Q.2+1),⟨d3,h7,e3.length,h8,h6,rfl,rfl,rfl,((c8.trans v)),e4⟩,e⟩ rfl rfl rfl
     ·
      refine PE [] 2 ZP rfl ?_;obtain rfl:=KG d9 e;refine R9 [] 2 ZP rfl (Zn 2 rfl (Zn 2 rfl (Zn 2 rfl ?_)));exact YA ⟨f,S,T,U,V,rfl,rfl,rfl,(c8),d8⟩ rfl rfl rfl
  ·
   refine JC.block (QR 2 rfl (QR 2 rfl (QR 2 rfl (Wx [1,2,27,28] [1,2] rfl rfl (λl0 n W l o g=>∃x:Own,l=(29,.int .i64 ((W.2:Nat):Int))::l0/\o=x::n/\j=g/\Pcs w.heap.size 5 26 (.slice b c d) W.1 x) e ⟨g2,rfl,rfl,rfl,c5⟩ rfl ?_))))
   ·
    rintro n9 W _ _ _ ⟨x,rfl,rfl,rfl,h⟩ o1 e e5;unfold Qq at e;refine PC [] 6 ZP rfl (XQ e rfl (λe6 e=> ?_) (λe6 e=> ?_))
    ·
     refine R7 [] 7 ZP rfl ?_;obtain⟨o2,h9,e⟩:=Ym e;obtain⟨o3,o4,o5,i0,i1,o6,i2⟩:=IsSlice.elem (a.mono (RSl.mono RU8.mono) d5) h9;obtain⟨o7,rfl,e7⟩:=i1;obtain⟨o8,o9,rfl⟩:=IsSlice.val e7;refine ZB rfl rfl (ZDK U22 S26 rfl rfl i0) (ZB rfl rfl (K8 S26 rfl (i2 0 _ rfl)) (PL [2] 8 ZP rfl ?_));obtain⟨p0,e8,e⟩:=Ym e;obtain⟨p1,p2,p3,p4,i3,i4,i5,i6⟩:=Pcs.at h e8;refine ZB rfl rfl (ZDK U22 S26 rfl rfl i3) (ZB rfl rfl (R.ldM 0 S26 rfl rfl i4 i5) (ZB rfl rfl (XJ rfl) ?_));obtain⟨i7,e⟩:=ZH e;obtain⟨i8,i9,p5,e⟩:=ZA7 e;refine ZSE 0 U26 S5 rfl h e8 i6 rfl rfl (R1 _) e7 i7 rfl (λj0 e9=> ?_);rw[<-i9]at e9;refine PP [] 4 ZP rfl (ZB rfl rfl (ZFz rfl rfl (TC e6) (IsSlice.lenI a)) (PB [] 2 ZP rfl ?_));replace e:=QL e5 e;refine Zn 2 rfl (Zn 2 rfl (Zn 2 rfl ?_));exact YA ⟨(i8,W.2+1),⟨j0,rfl,rfl,rfl,e9⟩,e⟩ rfl rfl rfl
    ·
     refine PE [] 2 ZP rfl ?_;obtain rfl:=KG e5 e;refine R9 [] 2 ZP rfl (Zn 2 rfl (Zn 2 rfl (Zn 2 rfl ?_)));exact YA ⟨x,rfl,rfl,rfl,h⟩ rfl rfl rfl
 ·
  refine JC.block (ZPD (QR 1 rfl (QR 2 rfl (QR 2 rfl (Wx [1,2,11,12] [1,2] rfl rfl (λl0 n X l o g=>∃Y:Option Addr,∃Z:Nat,∃b7:Nat,∃b8:Own,l=(3,.slice Y Z b7)::(13,.int .i64 ((X.2:Nat):Int))::l0/\o=b8::n/\H=g/\RowOf (New H H) RInt w.heap.size 3 1 (.slice Y Z b7) X.1 b8) e ⟨none,0,0,[],rfl,rfl,rfl,(RowOf.nil _ _ _ _ _)⟩ rfl ?_)))))
  ·
   rintro p6 X _ _ _ ⟨Y,Z,b7,b8,rfl,rfl,rfl,f0⟩ p7 e f1;unfold Qr at e;refine PC [] 6 ZP rfl (XQ e rfl (λf2 e=> ?_) (λf2 e=> ?_))
   ·
    refine R7 [] 6 ZP rfl ?_;obtain⟨f3,j1,e⟩:=Ym e;obtain⟨p8,p9,q0,j2,j3,q1,j4⟩:=IsSlice.elem a j1;obtain⟨q2,rfl,f4⟩:=j3;obtain⟨q3,q4,rfl⟩:=IsSlice.val f4;refine ZB rfl rfl (ZDK U22 S26 rfl rfl j2) (ZB rfl rfl (K8 S26 rfl (j4 0 _ rfl)) (PL [] 6 ZP rfl (ZB rfl rfl (XK U26 rfl (IsSlice.long f4)) (WO (HF:=(New H H)) (R:=RInt) (ls:=[(f3.length:Int)]) (vs:=[.int .i64 (f3.length:Int)]) U32 I3 rfl rfl (⟨_,_,rfl,rfl,rfl,rfl⟩) RInt.one rfl rfl rfl (by simp[maxLen]) rfl (λq5 x h=> ?_)))));obtain⟨q6,q7,rfl⟩:=RowOf.val h;obtain⟨f5,j5,j6,e⟩:=QQ e;refine ZEU (HF:=(New H H)) 1 U32 I3 rfl rfl f0 rfl (SrcF.row 0 U32 rfl h) j5 j6 rfl (TL _) rfl (λq8 j7 f6=> ?_);obtain⟨j8,j9,rfl⟩:=RowOf.val f6;refine PP [] 5 ZP rfl (ZB rfl rfl (ZFz rfl rfl (TC f2) (IsSlice.lenI a)) (PB [] 2 ZP rfl ?_));replace e:=QL f1 e;refine JN.forget 0 (Zn 2 rfl (Zn 2 rfl (Zn 2 rfl ?_)));exact YA ⟨(f5,X.2+1),⟨j8,f5.length,j9,j7,rfl,rfl,rfl,f6⟩,e⟩ rfl rfl rfl
   ·
    refine PE [] 2 ZP rfl ?_;obtain rfl:=KG f1 e;refine R9 [] 2 ZP rfl (Zn 2 rfl (Zn 2 rfl (Zn 2 rfl ?_)));exact YA ⟨Y,Z,b7,b8,rfl,rfl,rfl,f0⟩ rfl rfl rfl
theorem BQ (b:List (List UInt8))(H:Heaplet){ao:Option Addr}{n cap:Nat}(hs:IsSlice H (RSl RU8 1) 1 (.slice ao n cap) b)(r:List (List UInt8))(h:og_slices_Clone_byte_L b=some r):
  Does Tryz.prog 72 #[.slice ao n cap] [] H (λu K' k=>∃d:Option Addr,∃m:Nat,∃c:Nat,∃g:Own,u=.slice d m c/\K'= [g]/\H=k/\RowOf k (RSl RU8 1) 0 26 1 (.slice d m c) r g/\(∀p∈g,p.1∉ids (List.flatten []))/\True):=by
 rw[og_slices_Clone_byte_L.eq_1]at h;obtain⟨q,i,s,h⟩:=QQ h;obtain rfl:=TJ h;refine Does.enter (vs:=[.slice ao n cap]) (l:=[(0,.slice ao n cap)]) Tryz.func72 rfl rfl ⟨rfl,trivial⟩ (λw=>Run.cl [] 9 ZP rfl (ZB rfl rfl (JI U22 rfl rfl) (R5 [] 2 ZP rfl ?_)));cases ao with
 |none=>
  have f:=hs.none_nil;subst f;simp only[Tt]at i;subst i;refine PE [] 8 ZP rfl (ZBX (Yc (vs:=[.slice none 0 0]) (K:=[_]) (rst:=[]) (.inl rfl) rfl rfl (Yq rfl rfl) (Qm 0 rfl Yk) ?_));exact⟨none,0,0,[],rfl,rfl,rfl,RowOf.nil _ _ _ _ _,(λp f=>by cases f),trivial⟩
 |some a=>
  refine R7 [] 5 ZP rfl (WO (HF:=H) (R:=(RSl RU8 1)) (ls:=[]) (vs:=[]) U22 I26 rfl rfl rfl RSl.one rfl rfl rfl (by simp[maxLen]) rfl (λx y h1=> ?_));obtain⟨t,o,rfl⟩:=RowOf.val h1;refine ZB rfl rfl (XJ rfl) (ZEU (HF:=H) 0 U22 I26 rfl rfl h1 rfl (SrcF.slice RSl.one U22 (R1 _) hs) i s rfl (TL _) rfl (λz K2 h2=> ?_));obtain⟨j,e,rfl⟩:=RowOf.val h2;refine PM [] 4 ZP rfl (Yc (vs:=[.slice j _ e]) (K:=[_]) (rst:=[]) (.inl rfl) rfl rfl (Yq rfl rfl) (Qm 0 rfl Yk) ?_);exact⟨_,_,_,_,rfl,rfl,rfl,RowOf.weak (TK _) h2,(λp f v=>by cases v),trivial⟩
theorem ZNx{a}:Con Tryz.prog 96 true ([.i a]) (ZCh a) (λr=> [.b r]):=by
 intro H r h;refine Pj Tryz.func96 rfl rfl ?_;intro w;unfold ZCh at h;refine Run.cnz [] 11 ZP rfl ?_;exact ZK2 [] rfl h rfl rfl
theorem ZKe (y:Disk)(H:Heaplet){m:Value}{c:Option Addr}{d:Nat}{f:Nat}(h:IsSlice H R_Write 2 (.slice c d f) y.Waits)(r:(List (Int×Write)))(e:VL y=some r):
  Does Tryz.prog 144 #[.agg #[m,.slice c d f],.func (.func 96) #[] #[]] [] H (λu K' E=>∃F:Option Addr,∃B:Nat,∃C:Nat,∃n:Own,u=.map (some B)/\K'= [n]/\H=E/\MapOf H R_Write 0 B r n/\(∀p∈n,p.1∉ids (List.flatten []))/\True):=by
 refine PA (vs:=[.agg #[m,.slice c d f],.func (.func 96) #[] #[]]) (l:=[(0,.agg #[m,.slice c d f]),(1,.func (.func 96) #[] #[])]) Tryz.func144 rfl rfl ⟨rfl,rfl,trivial⟩ (λw t=> ?_);unfold VL at e;refine Run.cl [] 2 ZP rfl (ZK5 rfl rfl (λT U=>R6 [] 5 ZP rfl (ZP6 (New H H) R_Write rfl (λi G I=>R6 [1] 8 ZP rfl (ZB rfl rfl (XK U23 rfl (IsSlice.long h)) (R5 [] 3 ZP rfl (WP e [5] [] rfl rfl (λq l0 A l o g=>∃j:Own,l=l0/\o=j::A/\H=g/\MapOf H R_Write w.heap.size i q j) (λq V e=> ?_) (λq W e=> ?_))))))))
 ·
  rintro _ _ _ ⟨j,rfl,rfl,rfl,z⟩;refine PN [] 8 ZP rfl (Yc (vs:=[.map (some i)]) (K:=[_]) (rst:=[]) (.inl rfl) rfl rfl (Yq rfl rfl) (Qm 0 rfl Yk) ?_);obtain rfl:=TJ e;exact⟨none,i,0,j,rfl,rfl,rfl,(MapOf.weak (TK _) z),(ZQ2 z t),trivial⟩
 ·
  refine JC.block (JC.forget 1 (Wx [1,5,10,11] [] rfl rfl (λl0 A a l o g=>∃b:Own,l=(12,.int .i64 ((a.2:Nat):Int))::l0/\o=b::A/\H=g/\MapOf H R_Write w.heap.size i a.1 b) e ⟨G,rfl,rfl,rfl,(I.old R_Write.mono)⟩ rfl ?_))
  ·
   rintro X a _ _ _ ⟨b,rfl,rfl,rfl,s⟩ Y e v;unfold KU at e;refine PC [] 6 ZP rfl (XQ e rfl (λx e=> ?_) (λx e=> ?_))
   ·
    refine R7 [] 7 ZP rfl ?_;obtain⟨k,J,e⟩:=Ym e;obtain⟨b8,Z,c0,L,M,c1,N⟩:=IsSlice.elem h J;obtain⟨c2,rfl,D⟩:=M;obtain⟨O,P,rfl⟩:=IsSlice.val D;refine ZB rfl rfl (ZDK U23 S117 rfl rfl L) (ZB rfl rfl (ZN8 0 S117 rfl N rfl rfl) (JL.alloc Z117 rfl (λc3 c4=>R6 [0] 8 ZP rfl (ZGq e E96 rfl ZNx rfl trivial ?_))));intro c5 c6 e;refine R5 [] 2 ZP rfl (XQ e rfl (λQ e=> ?_) (λQ e=> ?_))
    ·
     refine Pr [0,0] 5 ZP rfl (ZOB 1 (cs:=[.int .i64 k.At,.slice O k.Data.length P]) U207 U3 rfl rfl rfl rfl s ⟨_,rfl,D⟩ (λR S=>PP [] 4 ZP rfl (ZB rfl rfl (ZFz rfl rfl (TC x) (IsSlice.lenI h)) (PB [] 2 ZP rfl ?_))));replace e:=QL v e;refine JN.forget 0 ?_;exact YA ⟨((putM a.1 k.At k),a.2+1),⟨R,rfl,rfl,rfl,S⟩,e⟩ rfl rfl rfl
    ·
     refine OC [] 4 ZP rfl (ZB rfl rfl (ZFz rfl rfl (TC x) (IsSlice.lenI h)) (PB [] 2 ZP rfl ?_));replace e:=QL v e;refine JN.forget 0 ?_;exact YA ⟨(a.1,a.2+1),⟨b,rfl,rfl,rfl,s⟩,e⟩ rfl rfl rfl
   ·
    refine PE [] 2 ZP rfl ?_;obtain rfl:=KG v e;refine R9 [] 2 ZP rfl ?_;exact YA ⟨b,rfl,rfl,rfl,s⟩ rfl rfl rfl
theorem ZMT (v:Disk)(H:Heaplet){z:Option Addr}{D:Nat}{E:Nat}{c:Option Addr}{d:Nat}{j:Nat}(d5:IsSlice H (RSl RU8 1) 1 (.slice z D E) v.Blocks)(d6:IsSlice H R_Write 2 (.slice c d j) v.Waits)(r:Disk)(g:Qo v=some r):
  Does Tryz.prog 95 #[.agg #[.slice z D E,.slice c d j],.func (.func 96) #[] #[]] [] H (λu K' H'=>∃A:Option Addr,∃n0:Nat,∃o:Nat,∃R:Own,∃B:Option Addr,∃n1:Nat,∃t:Nat,∃S:Own,u=.agg #[.slice A n0 o,.slice B n1 t]/\K'= [R,S]/\Pcs 0 5 26 (.slice A n0 o) r.Blocks R/\(∀p∈R,p.1∉ids (List.flatten []))/\RowOf (New H H') R_Write 0 117 2 (.slice B n1 t) r.Waits S/\(∀p∈S,p.1∉ids (List.flatten []))/\True):=by
 refine PA (vs:=[.agg #[.slice z D E,.slice c d j],.func (.func 96) #[] #[]]) (l:=[(0,.agg #[.slice z D E,.slice c d j]),(1,.func (.func 96) #[] #[])]) Tryz.func95 rfl rfl ⟨rfl,rfl,trivial⟩ (λw C=> ?_);unfold Qo at g;refine Run.cl [] 2 ZP rfl (ZK5 rfl rfl (λb8 g8=>JL.alloc Z25 rfl (λb9 g9=>PK [] 3 ZP rfl (ZA3 (so:=[(_,[]),(_,[6])]) 7 rfl Mixed ⟨by kernel_rfl,by kernel_rfl⟩ (Ur [0,1] rfl) ?_))));refine JB.val (i:=0) [] rfl (ZMr F25_0 rfl) ?_;refine JB.val (i:=1) [2,5,6] rfl (ZJl 1 S22 rfl rfl rfl) ?_;refine JB.val (i:=3) [] rfl (ZMr F25_1 rfl) ?_;refine JB.val (i:=4) [5,6] rfl (ZJl 1 S23 rfl rfl rfl) ?_;refine JB.one (i:=2) (by kernel_rfl) ?_;refine JOB.step rfl trivial rfl (λK T=> ?_);obtain⟨U,d7,g⟩:=Zb g;refine BI (vs:=[_]) (args:=[_]) (K:=[]) (rst:=[_,_]) E72 rfl rfl rfl Yk (BQ v.Blocks _ d5 _ d7) rfl (λh0 h1 h2 d8 h3 d9=> ?_);obtain⟨F,G,I,e0,rfl,rfl,rfl,V,e1,-⟩:=d8;replace V:=(RowOf.base V (λp n=>(d9 p (KV 0 rfl n)).resolve_left (e1 p n)));refine JL.nil (T _ _ _ (R1 _) (Ur [1,2] rfl) ?_);refine JB.val (i:=5) [] rfl (ZK1 (vs:=[(0,.slice F G I),(1,.slice c d j)]) (cs:=[.slice F G I,.slice c d j]) Z25 B25 rfl rfl rfl) ?_;refine JB.one (i:=6) (by kernel_rfl) ?_;refine JOB.step rfl trivial rfl (λK T=>PB [2] 2 ZP rfl (T _ _ _ (R1 _) (ZHa [false,true] [1,0] (by kernel_rfl) rfl) ?_));refine PT (by kernel_rfl) ?_;refine PV [2] 6 ZP rfl ?_;obtain⟨m,e2,g⟩:=Zb g;refine BI (vs:=[_,_]) (args:=[_,_]) (K:=[]) (rst:=[_,_,_]) E144 rfl rfl rfl Yk (ZKe (Disk.mk U v.Waits) _ d6 _ e2) rfl (λh4 h5 h6 e3 h7 e4=> ?_);obtain⟨h8,c0,h9,i0,rfl,rfl,rfl,W,e5,-⟩:=e3;replace W:=(MapOf.base W (λp n=>(e4 p (KV 0 rfl n)).resolve_left (e5 p n)));refine ZK4 0 U207 rfl rfl W rfl (λc1 e6 e7 J=> ?_);subst e7;refine R5 [] 2 ZP rfl ?_;obtain⟨e8,e9,X,g⟩:=ZPd g;refine JC.block (GA (ι:=Array Nat×(List (List UInt8))×Own) (λ_=> [(2,.pointer (some ⟨b8,0,none⟩)),(4,.pointer (some ⟨b9,0,none⟩)),(16,.pointer (some ⟨c1,0,none⟩))]) (λi=> [[(c1,.mapIter (some c0) (m).length i.1 (m).length)],[(c0,.map e6 (m).length)],i.2.2,[(b9,.cells #[.slice none 0 0,.slice none 0 0] 25 (0,0))],[(b8,.cells #[.slice F G I,.slice c d j] 25 (0,0))]]) (λ_=>H) (λi=>i.1.toList.Nodup/\(∀q∈i.1.toList,q<(m).length)/\Laid (λy:Write=>y.Data) U m i.1.toList i.2.1/\RowOf H (RSl RU8 1) w.heap.size 26 1 (.slice F G I) i.2.1 i.2.2) (λi=>(m).length-i.1.size) (#[],U,e0) ⟨by simp,by simp,Pz _ _ _,V⟩ ⟨rfl,rfl,rfl,trivial⟩ rfl rfl ?_);rintro⟨c2,x,f0⟩ ⟨Y,Z,L,M⟩;dsimp only at Y Z L M|-;refine Run.cl [] 2 ZP rfl (ZOA 0 1 rfl rfl rfl J (TL _) rfl (λf1=> ?_) (λf2 s N i1 O f3 c3 f4=> ?_))
 ·
  refine Pn [] 8 ZP rfl (J9 ?_);obtain rfl:=e9.trans (L.full J.nodup X f1).symm;refine JN.forget 1 (JN.forget 0 (PV [2,2] 10 ZP rfl (JL.pub 0 (RSl.mono RU8.mono) rfl M (TL _) (λi2 f5 f6=>JL.forget 0 ?_))));obtain⟨i3,f7,g⟩:=Zb g;refine BI (vs:=[_]) (args:=[_]) (K:=[]) (rst:=[_,_]) E117 rfl rfl rfl Yk (ZFb (Disk.mk e8 ([]:List Write)) _ f6 (IsSlice.nil _ _ _) _ f7) rfl (λi4 i5 i6 f8 i7 c4=> ?_);obtain⟨c5,c6,c7,f9,c8,c9,d0,g0,rfl,rfl,P,g1,Q,g2,-⟩:=f8;replace P:=(Pcs.base P (λp n=>(c4 p (KV 0 rfl n)).resolve_left (g1 p n)));replace Q:=(RowOf.base (RowOf.mono R_Write.mono (New.call f5) Q) (λp n=>(c4 p (KV 1 rfl n)).resolve_left (g2 p n)));refine PM [2] 4 ZP rfl (Yc (vs:=[.agg #[.slice c5 c6 c7,.slice c8 c9 d0]]) (K:=[_,_]) (rst:=[_,_]) (.inl rfl) rfl rfl (ZBU 2 rfl rfl S25 rfl) (Qm 0 rfl (Qm 0 rfl Yk)) ?_);obtain rfl:=TJ g;exact⟨c5,c6,c7,f9,c8,c9,d0,g0,rfl,rfl,(Pcs.weak (TK _) P),(ZHN P C),(RowOf.weak (TK _) Q),(UM Q C),trivial⟩
 ·
  have g3:=ZPO Y Z (TD.1 O).1 c3;refine R6 [] 10 ZP rfl ?_;obtain⟨i8,rfl,d1⟩:=f4;obtain⟨i9,j0,rfl⟩:=IsSlice.val d1;refine ZMz 0 1 rfl rfl rfl J f3 rfl ?_;have d2:=X _ (TW O);rw[<-L.len]at d2;clear g;have g:(chk (0<=s/\s.toNat<x.length)<|setI x s N.Data λd3=>some d3)=some (x.set s.toNat N.Data):=ZRE d2;refine PI [] 2 ZP rfl (JL.alloc Z117 rfl (λj1 j2=>PL [0,5,0] 10 ZP rfl ?_));obtain⟨g4,g⟩:=ZH g;obtain⟨j3,j4,d4⟩:=ZMq M g4;refine ZB rfl rfl (ZDK U22 S26 rfl rfl d4) ?_;obtain⟨d3,g5,j5,g⟩:=ZA7 g;refine ZSA 3 (k:=s) (y:=N.Data) S26 rfl M rfl d4 rfl rfl (⟨_,rfl,d1⟩) RSl.one g5 (λg6 g7 j6=>OJ [] 2 ZP rfl ?_);obtain rfl:=TJ g;refine JN.forget 0 (Zn 4 rfl (Zn 4 rfl (Zn 4 rfl (Zn 4 rfl (Zn 4 rfl ?_)))));exact JK (i:=(c2,x,f0)) (c2.push f2,x.set s.toNat N.Data,g6) ⟨by simp only[Array.toList_push];exact RK.2 ⟨Y,by simp,λa ha b hb e=>by simp at hb;subst hb;subst e;exact c3 ha⟩,by simp only[Array.toList_push];intro q hq;rcases TU.1 hq with h|h;exact Z q h;simp at h;subst h;exact(TD.1 O).1,L.step (f:=(λy:Write=>y.Data)) J.nodup X O _ (λq=>by simp),g7⟩ (by simp only[Array.size_push];simp only[TR]at g3;omega) ⟨rfl,rfl,rfl,trivial⟩ rfl rfl
theorem ZGU (c0:List UInt8)(T:Int)(H:Heaplet){U:Option Addr}{V:Nat}{W:Nat}(x:IsSlice H RU8 1 (.slice U V W) c0)(r:List UInt8)(t:QM c0 T=some r):
  Does Tryz.prog 153 #[.slice U V W,.int .i64 T] [] H (λu K' H'=>∃O:Option Addr,∃n0:Nat,∃L:Nat,∃K0:Own,u=.slice O n0 L/\K'= [K0]/\H=H'/\RowOf (New H H) RU8 0 5 1 (.slice O n0 L) r K0/\(∀p∈K0,p.1∉ids (List.flatten []))/\True):=by
 refine PA (vs:=[.slice U V W,.int .i64 T]) (l:=[(0,.slice U V W),(1,.int .i64 T)]) Tryz.func153 rfl rfl ⟨rfl,rfl,trivial⟩ (λw M=> ?_);unfold QM at t;refine PC [] 12 ZP rfl (XQ t rfl (λd0 t=> ?_) (λd0 t=> ?_))
 ·
  refine Run.cl [] 2 ZP rfl (WO (HF:=(New H H)) (R:=RU8) (ls:=([]:List UInt8)) (vs:=[]) U26 I5 rfl rfl (rfl) RU8.one rfl rfl rfl (by simp[maxLen]) rfl (λf6 d1 a9=> ?_));obtain⟨c1,c2,rfl⟩:=RowOf.val a9;refine Pn [] 5 ZP rfl (Yc (vs:=[.slice c1 (([]:List UInt8).length) c2]) (K:=[_]) (rst:=[]) (.inl rfl) rfl rfl (Yq rfl rfl) (Qm 0 rfl Yk) ?_);obtain rfl:=TJ t;exact⟨c1,([]:List UInt8).length,c2,d1,rfl,rfl,rfl,(RowOf.weak (TK _) a9),(UM a9 M),trivial⟩
 ·
  refine PZ [] 9 ZP rfl (XQ t rfl (λd2 t=> ?_) (λd2 t=> ?_))
  ·
   refine Q2 ?_;cases t
  ·
   refine R7 [] 5 ZP rfl (ZB rfl rfl (XK U26 rfl (IsSlice.long x)) (ZB rfl rfl (Vc U3 U172 rfl) (ZB rfl rfl (XJ rfl) (ZB rfl rfl (Vc U3 U172 rfl) (ZGq t E186 rfl Gx rfl trivial ?_)))));intro z f7 t;refine R6 [] 11 ZP rfl (ZB rfl rfl (ZEQ (a:=z.1) (b:=(0:UInt64)) rfl rfl) (ZB rfl rfl (XJ rfl) (ZUO 29 t rfl (λd3 t=> ?_) (λd3 t=> ?_))))
   ·
    refine PL [] 7 ZP rfl ?_;cases t
   ·
    refine PI [] 3 ZP rfl (ZB rfl rfl (ZEQ (a:=z.2) (b:=(9223372036854775807:UInt64)) rfl rfl) (R5 [] 3 ZP rfl (XQ t rfl (λd4 t=> ?_) (λd4 t=> ?_))))
    ·
     refine Q2 ?_;cases t
    ·
     refine R7 [] 5 ZP rfl (ZB rfl rfl (DB (a:=z.2) U172 U3 rfl) (R6 [] 7 ZP rfl (ZB rfl rfl (XK U26 rfl (IsSlice.long x)) (R5 [] 3 ZP rfl (XQ t rfl (λd5 t=> ?_) (λd5 t=> ?_))))))
     ·
      refine Run.cl [] 2 ZP rfl (WO (HF:=(New H H)) (R:=RU8) (ls:=([]:List UInt8)) (vs:=[]) U26 I5 rfl rfl (rfl) RU8.one rfl rfl rfl (by simp[maxLen]) rfl (λf8 d6 b0=> ?_));obtain⟨c3,c4,rfl⟩:=RowOf.val b0;refine Pn [] 5 ZP rfl (Yc (vs:=[.slice c3 (([]:List UInt8).length) c4]) (K:=[_]) (rst:=[]) (.inl rfl) rfl rfl (Yq rfl rfl) (Qm 0 rfl Yk) ?_);obtain rfl:=TJ t;exact⟨c3,([]:List UInt8).length,c4,d6,rfl,rfl,rfl,(RowOf.weak (TK _) b0),(UM b0 M),trivial⟩
     ·
      refine PZ [] 15 ZP rfl (WP t [0,7] [] rfl rfl (λv l0 P l o g=>l=(8,.int .i64 v)::l0/\o=P/\H=g) (λv f9 t=> ?_) (λv g0 t=> ?_))
      ·
       rintro _ _ _ ⟨rfl,rfl,rfl⟩;refine PV [] 4 ZP rfl ?_;obtain⟨g1,d7,b1,t⟩:=Gw t;obtain⟨d8,b2⟩:=SJ b1.1;refine ZT5 (HF:=New H H) (N:=d8) Tryz.func187 (by kernel_rfl) rfl (by kernel_rfl) U26 (by kernel_rfl) (congrArg (λq=>some (Value.int .i64 q)) b2) (by simpa[b2]using b1.2) rfl (λg2 g3 d9 g4 e0 e1=> ?_);replace t:=ZE6 d7 b2 e0 t (by have:=b1.2;omega);refine PI [] 2 ZP rfl ?_;obtain⟨f,e2,b3,t⟩:=Gi t;obtain⟨g5,e3,X,I,J,c5⟩:=ZN4 e1 e2 b3;refine ZB rfl rfl (QA (cap:=e3) (a:=0) (b:=w64 (z.2.toNat:Int)) (c:=w64 (z.2.toNat:Int)) (m:=d9) (R:=RU8) U26 S5 rfl rfl ⟨_,rfl⟩ ⟨_,rfl⟩ ⟨b3.1,b3.2.1,SK _⟩ I (.inr (λh=>by cases h))) ?_;subst J;refine R6 [] 7 ZP rfl ?_;obtain⟨g6,e4,e5,t⟩:=Kw t;refine Ww (HF:=(New H H)) (lo:=0) (hi:=(f.length:Int)) 0 U26 S5 rfl c5 rfl (ZFy c5) rfl (CSrc.slice RU8.one (R1 _) x (λ_ _ h=>RU8.const _ _ _ _ h)) e5 e4 rfl (λe6 e7=>PK [] 4 ZP rfl (WP t [9] [] rfl rfl (λb4 l0 P l o g=>∃Y:Own,l=l0/\o=Y::P/\H=g/\RowOf (New H H) RU8 w.heap.size 5 1 (.slice X f.length f.length) b4 Y) (λb4 g7 t=> ?_) (λb4 g8 t=> ?_)))
       ·
        rintro _ _ _ ⟨Y,rfl,rfl,rfl,c6⟩;refine PN [] 8 ZP rfl (Yc (vs:=[.slice X f.length f.length]) (K:=[_]) (rst:=[]) (.inl rfl) rfl rfl (Yq rfl rfl) (Qm 0 rfl Yk) ?_);obtain rfl:=TJ t;exact⟨X,f.length,f.length,Y,rfl,rfl,rfl,(RowOf.weak (TK _) c6),(UM c6 M),trivial⟩
       ·
        refine JC.block (Wx [7,8,9] [] rfl rfl (λl0 P d l o g=>∃Z:Own,l=(10,.int .i64 d.2)::l0/\o=Z::P/\H=g/\RowOf (New H H) RU8 w.heap.size 5 1 (.slice X f.length f.length) d.1 Z) t ⟨e6,rfl,rfl,rfl,e7⟩ rfl ?_)
        ·
         rintro g9 d _ _ _ ⟨Z,rfl,rfl,rfl,k⟩ h0 t b5;unfold og_bytes_Repeat_l1 at t;refine PC [] 8 ZP rfl (XQ t rfl (λe8 t=> ?_) (λe8 t=> ?_))
         ·
          refine R7 [] 7 ZP rfl (ZB rfl rfl (ZIR rfl rfl) (R5 [] 3 ZP rfl (ZA3 (so:=[(_,[7])]) 10 rfl Mixed ⟨by kernel_rfl,by kernel_rfl⟩ (Ur [0] rfl) ?_)));refine JB.run 5 [0,1,2,4,5] [] ZP rfl ?_;obtain⟨y,t⟩:=ZH t;obtain⟨s,t⟩:=ZH t;obtain⟨c7,c8,c9,t⟩:=Kw t;refine OH (i:=3) (j:=6) (by kernel_rfl) ?_ ?_
          ·
           refine JOB.step rfl trivial rfl (λK G=> ?_);obtain⟨e9,Q,A,B,C,b6,f0⟩:=QJ k y;refine ZB rfl rfl (QA (cap:=Q) (a:=d.2) (b:=(d.1.length:Int)) (c:=(Q:Int)) (m:=d.1) (R:=RU8) U26 S5 rfl ⟨_,rfl⟩ rfl (by obtain⟨ao,n,e,_⟩:=A;exact⟨ao,n,e,rfl⟩) ⟨y.1,y.2.1,B⟩ C (.inl rfl)) (JL.nil (G _ _ _ (R1 _) (Ur [0] rfl) ?_));refine JB.one (i:=6) (by kernel_rfl) ?_;refine JOB.step rfl trivial rfl (λK G=> ?_);obtain⟨f1,S,D,E,F,b7,f2⟩:=QJ k s;refine ZB rfl rfl (QA (cap:=S) (a:=(0:Int)) (b:=min d.2 v) (c:=(S:Int)) (m:=d.1) (R:=RU8) U26 S5 rfl rfl ⟨_,rfl⟩ (by obtain⟨ao,n,e,_⟩:=D;exact⟨ao,n,e,rfl⟩) ⟨s.1,s.2.1,E⟩ F (.inl rfl)) (JL.nil (G _ _ _ (R1 _) (Ur [0] rfl) ?_));refine JB.one (i:=7) (by kernel_rfl) ?_;refine JOB.step rfl trivial rfl (λK G=>Ww (HF:=(New H H)) (lo:=d.2) (hi:=(d.1.length:Int)) 0 U26 S5 rfl k rfl b6 rfl (Pd 0 rfl k b7 s rfl) c9 c8 rfl (λb8 b9=>JL.nil (G _ _ _ (R1 _) (ZHa [true] [0] (by kernel_rfl) rfl) ?_)));refine JB.run 2 [8,9] [] ZP rfl ?_;refine PT (by kernel_rfl) ?_;refine DD ?_;replace t:=QL b5 t;exact YA ⟨(c7,w64 (d.2+(min ((cut d.1 (0:Int) (min d.2 v)).length:Int) ((d.1.length:Int)-d.2)))),⟨b8,rfl,rfl,rfl,b9⟩,t⟩ rfl rfl rfl
          ·
           refine JOB.step rfl trivial rfl (λK G=> ?_);obtain⟨f1,S,D,E,F,b7,f2⟩:=QJ k s;refine ZB rfl rfl (QA (cap:=S) (a:=(0:Int)) (b:=min d.2 v) (c:=(S:Int)) (m:=d.1) (R:=RU8) U26 S5 rfl rfl ⟨_,rfl⟩ (by obtain⟨ao,n,e,_⟩:=D;exact⟨ao,n,e,rfl⟩) ⟨s.1,s.2.1,E⟩ F (.inl rfl)) (JL.nil (G _ _ _ (R1 _) (Ur [0] rfl) ?_));refine JB.one (i:=3) (by kernel_rfl) ?_;refine JOB.step rfl trivial rfl (λK G=> ?_);obtain⟨e9,Q,A,B,C,b6,f0⟩:=QJ k y;refine ZB rfl rfl (QA (cap:=Q) (a:=d.2) (b:=(d.1.length:Int)) (c:=(Q:Int)) (m:=d.1) (R:=RU8) U26 S5 rfl ⟨_,rfl⟩ rfl (by obtain⟨ao,n,e,_⟩:=A;exact⟨ao,n,e,rfl⟩) ⟨y.1,y.2.1,B⟩ C (.inl rfl)) (JL.nil (G _ _ _ (R1 _) (Ur [0] rfl) ?_));refine JB.one (i:=7) (by kernel_rfl) ?_;refine JOB.step rfl trivial rfl (λK G=>Ww (HF:=(New H H)) (lo:=d.2) (hi:=(d.1.length:Int)) 0 U26 S5 rfl k rfl b6 rfl (Pd 0 rfl k b7 s rfl) c9 c8 rfl (λb8 b9=>JL.nil (G _ _ _ (R1 _) (ZHa [true] [0] (by kernel_rfl) rfl) ?_)));refine JB.run 2 [8,9] [] ZP rfl ?_;refine PT (by kernel_rfl) ?_;refine DD ?_;replace t:=QL b5 t;exact YA ⟨(c7,w64 (d.2+(min ((cut d.1 (0:Int) (min d.2 v)).length:Int) ((d.1.length:Int)-d.2)))),⟨b8,rfl,rfl,rfl,b9⟩,t⟩ rfl rfl rfl
         ·
          refine PE [] 2 ZP rfl ?_;obtain rfl:=KG b5 t;refine R9 [] 2 ZP rfl ?_;exact YA ⟨Z,rfl,rfl,rfl,k⟩ rfl rfl rfl
      ·
       refine XQ t rfl (λf3 t=> ?_) (λf3 t=> ?_)
       ·
        refine Run.cl [] 3 ZP rfl (ZB rfl rfl (XK U26 rfl (IsSlice.long x)) ?_);obtain⟨f4,t⟩:=ZH t;refine ZB rfl rfl (ZO0 rfl rfl f4) (ZB rfl rfl (XJ rfl) (ZB rfl rfl (XK U26 rfl (IsSlice.long x)) (R5 [] 10 ZP rfl (XQ t rfl (λf5 t=> ?_) (λf5 t=> ?_)))))
        ·
         refine Pr [] 2 ZP rfl (ZB rfl rfl (XK U26 rfl (IsSlice.long x)) (PB [] 2 ZP rfl ?_));obtain rfl:=TJ t;exact YA ⟨rfl,rfl,rfl⟩ rfl rfl rfl
        ·
         refine JC.skip ?_;obtain rfl:=TJ t;exact YA ⟨rfl,rfl,rfl⟩ rfl rfl rfl
       ·
        refine JC.skip ?_;obtain rfl:=TJ t;exact YA ⟨rfl,rfl,rfl⟩ rfl rfl rfl
theorem ZBa (d:Int)(H:Heaplet)(r:List UInt8)(t:Z5 d=some r):
  Does Tryz.prog 170 #[.slice none 0 0,.int .i64 d] [] H (λu K' J=>∃E:Option Addr,∃I:Nat,∃D:Nat,∃F:Own,u=.slice E I D/\K'= [F]/\H=J/\RowOf (New H H) RU8 0 5 1 (.slice E I D) r F/\(∀p∈F,p.1∉ids (List.flatten []))/\True):=by
 refine PA (vs:=[.slice none 0 0,.int .i64 d]) (l:=[(0,.slice none 0 0),(1,.int .i64 d)]) Tryz.func170 rfl rfl ⟨rfl,rfl,trivial⟩ (λw G=> ?_);unfold Z5 at t;refine PC [] 12 ZP rfl (XQ t rfl (λL t=> ?_) (λL t=> ?_))
 ·
  refine Q2 ?_;cases t
 ·
  refine R7 [] 7 ZP rfl (ZB rfl rfl (ZK0 ⟨_,U26⟩ rfl) (ZB rfl rfl (XJ rfl) (ZB rfl rfl (R.len U26 rfl) (R5 [] 11 ZP rfl (WP t [] [] rfl rfl (λk l0 M l o g=>∃f:Option Addr,∃h:Nat,∃i:Nat,∃j:Own,l=(0,.slice f h i)::l0/\o=j::M/\H=g/\RowOf (New H H) RU8 w.heap.size 5 1 (.slice f h i) k j) (λk X t=> ?_) (λk Y t=> ?_))))))
  ·
   rintro _ _ _ ⟨f,h,i,j,rfl,rfl,rfl,s⟩;refine PN [] 8 ZP rfl (Yc (vs:=[.slice f h i]) (K:=[_]) (rst:=[]) (.inl rfl) rfl rfl (Yq rfl rfl) (Qm 0 rfl Yk) ?_);obtain rfl:=TJ t;exact⟨f,h,i,j,rfl,rfl,rfl,(RowOf.weak (TK _) s),(UM s G),trivial⟩
  ·
   refine XQ t rfl (λN t=> ?_) (λN t=> ?_)
   ·
    refine Pr [] 3 ZP rfl (ZB rfl rfl (ZK0 ⟨_,U26⟩ rfl) (ZB rfl rfl (ZN5 U26 S5 rfl trivial ⟨_,rfl⟩ rfl) (ZB rfl rfl (XJ rfl) ?_)));obtain⟨O,P,Q,t⟩:=Gw t;refine ZPC (HF:=New H H) (R:=RU8) (y:=(0:UInt8)) (n:=w64 (d-0)) U26 U3 I5 rfl rfl (λ_=>rfl) RU8.one P Q rfl rfl (λZ S v=> ?_);obtain⟨b3,b4,rfl⟩:=RowOf.val v;refine ZB rfl rfl (XJ rfl) (ZB rfl rfl (R.len U26 rfl) ?_);obtain⟨T,U,q,t⟩:=Gi t;obtain⟨b5,x,A,B,C,z⟩:=RowOf.pre v U q;refine ZB rfl rfl (QA (cap:=x) (a:=0) (b:=0) (c:=(x:Int)) (m:=O) (R:=RU8) U26 S5 rfl rfl ⟨_,rfl⟩ (by obtain⟨ao,n,e,_⟩:=A;exact⟨ao,n,e,rfl⟩) ⟨q.1,q.2.1,B⟩ C (.inl rfl)) ?_;obtain⟨V,W,rfl⟩:=RowOf.val z;refine PB [] 2 ZP rfl ?_;obtain rfl:=TJ t;exact YA ⟨V,T.length,W,S,rfl,rfl,rfl,z⟩ rfl rfl rfl
   ·
    refine JC.skip ?_;obtain rfl:=TJ t;refine ZBX ?_;exact YA ⟨none,0,0,[],rfl,rfl,rfl,(RowOf.nil _ _ _ _ _)⟩ rfl rfl rfl
theorem ZCd (d:Int)(H:Heaplet)(r:List Ptr)(t:YC d=some r):
  Does Tryz.prog 221 #[.slice none 0 0,.int .i64 d] [] H (λu K' J=>∃E:Option Addr,∃I:Nat,∃D:Nat,∃F:Own,u=.slice E I D/\K'= [F]/\H=J/\RowOf (New H H) R_Ptr 0 31 5 (.slice E I D) r F/\(∀p∈F,p.1∉ids (List.flatten []))/\True):=by
 refine PA (vs:=[.slice none 0 0,.int .i64 d]) (l:=[(0,.slice none 0 0),(1,.int .i64 d)]) Tryz.func221 rfl rfl ⟨rfl,rfl,trivial⟩ (λw G=> ?_);unfold YC at t;refine PC [] 12 ZP rfl (XQ t rfl (λL t=> ?_) (λL t=> ?_))
 ·
  refine Q2 ?_;cases t
 ·
  refine R7 [] 7 ZP rfl (ZB rfl rfl (ZK0 ⟨_,U39⟩ rfl) (ZB rfl rfl (XJ rfl) (ZB rfl rfl (R.len U39 rfl) (R5 [] 11 ZP rfl (WP t [] [] rfl rfl (λk l0 M l o g=>∃f:Option Addr,∃h:Nat,∃i:Nat,∃j:Own,l=(0,.slice f h i)::l0/\o=j::M/\H=g/\RowOf (New H H) R_Ptr w.heap.size 31 5 (.slice f h i) k j) (λk X t=> ?_) (λk Y t=> ?_))))))
  ·
   rintro _ _ _ ⟨f,h,i,j,rfl,rfl,rfl,s⟩;refine PN [] 8 ZP rfl (Yc (vs:=[.slice f h i]) (K:=[_]) (rst:=[]) (.inl rfl) rfl rfl (Yq rfl rfl) (Qm 0 rfl Yk) ?_);obtain rfl:=TJ t;exact⟨f,h,i,j,rfl,rfl,rfl,(RowOf.weak (TK _) s),(UM s G),trivial⟩
  ·
   refine XQ t rfl (λN t=> ?_) (λN t=> ?_)
   ·
    refine Pr [] 3 ZP rfl (ZB rfl rfl (ZK0 ⟨_,U39⟩ rfl) (ZB rfl rfl (ZN5 U39 S31 rfl trivial ⟨_,rfl⟩ rfl) (ZB rfl rfl (XJ rfl) ?_)));obtain⟨O,P,Q,t⟩:=Gw t;refine ZPC (HF:=New H H) (R:=R_Ptr) (y:=Ptr.mk 0 (0:UInt32) (0:UInt32) (0:UInt32) (0:UInt32)) (n:=w64 (d-0)) U39 U3 I31 rfl rfl (λ_=>rfl) R_Ptr.one P Q rfl rfl (λZ S v=> ?_);obtain⟨b3,b4,rfl⟩:=RowOf.val v;refine ZB rfl rfl (XJ rfl) (ZB rfl rfl (R.len U39 rfl) ?_);obtain⟨T,U,q,t⟩:=Gi t;obtain⟨b5,x,A,B,C,z⟩:=RowOf.pre v U q;refine ZB rfl rfl (QA (cap:=x) (a:=0) (b:=0) (c:=(x:Int)) (m:=O) (R:=R_Ptr) U39 S31 rfl rfl ⟨_,rfl⟩ (by obtain⟨ao,n,e,_⟩:=A;exact⟨ao,n,e,rfl⟩) ⟨q.1,q.2.1,B⟩ C (.inl rfl)) ?_;obtain⟨V,W,rfl⟩:=RowOf.val z;refine PB [] 2 ZP rfl ?_;obtain rfl:=TJ t;exact YA ⟨V,T.length,W,S,rfl,rfl,rfl,z⟩ rfl rfl rfl
   ·
    refine JC.skip ?_;obtain rfl:=TJ t;refine ZBX ?_;exact YA ⟨none,0,0,[],rfl,rfl,rfl,(RowOf.nil _ _ _ _ _)⟩ rfl rfl rfl
theorem Dv (m:List UInt8)(N:Int)(V:1<=N/\N<=1099511627776/\m.length<=LIM)(H:Heaplet){v:Value}{r s:Nat}(hs:IsSlice H RU8 1 v m)(F:H r 0=some v)(G:H s 0=some (.int .i64 N)):
  IterL Tryz.prog 141 #[.pointer (some ⟨r,0,none⟩),.pointer (some ⟨s,0,none⟩)] H (λW args (y:List UInt8)=>∃ao:Option Addr,args= #[.slice ao y.length y.length]/\IsSlice W RU8 1 (.slice ao y.length y.length) y) (Zp N.toNat m.length m):=by
 intro E I X o Y hI;obtain⟨Z,hN2,J⟩:=V;unfold LIM at J;obtain⟨ao,cap,rfl⟩:=hs.val;show Does Tryz.prog 141 #[.func (.yield E) #[] #[],.pointer (some ⟨r,0,none⟩),.pointer (some ⟨s,0,none⟩)] o H _;refine Does.enter (vs:=[.func (.yield E) #[] #[],.pointer (some ⟨r,0,none⟩),.pointer (some ⟨s,0,none⟩)]) (l:=[(0,.func (.yield E) #[] #[]),(1,.pointer (some ⟨r,0,none⟩)),(2,.pointer (some ⟨s,0,none⟩))]) Tryz.func141 rfl rfl ⟨rfl,rfl,rfl,trivial⟩ (λw=>PC [] 6 ZP rfl ?_);refine GA (ι:=Nat×Nat×List (List UInt8)×List Own×Heaplet) (λi=> [(0,.func (.yield E) #[] #[]),(1,.pointer (some ⟨r,0,none⟩)),(2,.pointer (some ⟨s,0,none⟩)),(4,.int .i64 ((i.1:Nat):Int))]) (λi=>i.2.2.2.1) (λi=>i.2.2.2.2)
  (λi=>i.1<=2199023255552/\m.length<=i.1+i.2.1/\i.2.2.1++Zp N.toNat i.2.1 (m.drop i.1)=Zp N.toNat m.length m/\I i.2.2.1 i.2.2.2.1 i.2.2.2.2/\Hle H i.2.2.2.2) (λi=>m.length+1-i.1) (0,m.length,[],o,H) (⟨by omega,by simp,by simp,hI,R1 _⟩) ⟨rfl,rfl,rfl,rfl,trivial⟩ rfl rfl ?_
 rintro⟨i,f,pre,o2,H2⟩ t;dsimp only at t|-;obtain⟨hi2,hf,g,u,j⟩:=t;have k:=j _ _ _ F;have p:=j _ _ _ G;have q:=IsSlice.mono RU8.mono j hs;refine Run.cl [] 4 ZP rfl (ZB rfl rfl (K8 S26 rfl k) (ZB rfl rfl (XK U26 rfl (IsSlice.long q)) (R5 [] 3 ZP rfl (BJ rfl (λc=> ?_) (λc=> ?_)))))
 ·
  have hlt:i<m.length:=by have:=TC c;omega
  have K:m.drop i≠[]:=λh=>by have:=List.drop_eq_nil_iff.1 h;omega
  obtain⟨x,rfl⟩:∃x,f=x+1:=⟨f-1,by omega⟩;rw[Wo K,Sz]at g;obtain⟨e,he⟩:∃e:Int,e=min N ((m.length:Int)-i):=⟨_,rfl⟩;have z:(m.drop i).take N.toNat=cut m (i:Int) ((i:Int)+e):=by
   unfold cut;rw[T9];by_cases h:N<=(m.length:Int)-i
   ·
    rw[show((i:Int)+e).toNat-i=N.toNat by omega]
   ·
    rw[Tg (by rw[TP];omega),Tg (by rw[TP];omega)]
  refine PZ [] 5 ZP rfl ?_;obtain⟨v1,T,h1,h2,h3,L⟩:=PX (m':=cut m (i:Int) (m.length:Int)) q rfl ⟨by omega,by omega,SK _⟩;have M:((cut m (i:Int) (m.length:Int)).length:Int)=(m.length:Int)-i:=V2 (by omega) (by omega) (SK _);refine ZK7 (so:=[]) 7 rfl Mixed trivial (JA.val ⟨by kernel_rfl,by kernel_rfl⟩ (Zr _) (i:=0) rfl ⟨by kernel_rfl,by kernel_rfl,rfl⟩ trivial (Ya (R1 _) trivial) (K8 S3 rfl p) rfl (JA.val ⟨by kernel_rfl,by kernel_rfl⟩ (Zr _) (i:=1) rfl ⟨by kernel_rfl,by kernel_rfl,rfl⟩ trivial (Ya (R1 _) trivial) (K8 S26 rfl k) rfl (JA.val ⟨by kernel_rfl,by kernel_rfl⟩ (Zr _) (i:=2) rfl ⟨by kernel_rfl,by kernel_rfl,rfl⟩ trivial (Ya (R1 _) trivial) (XJ rfl) rfl (JA.val ⟨by kernel_rfl,by kernel_rfl⟩ (Zr _) (i:=3) rfl ⟨by kernel_rfl,by kernel_rfl,rfl⟩ trivial (Ya (R1 _) trivial) (QA (cap:=T) (a:=(i:Int)) (b:=(m.length:Int)) (c:=(T:Int)) (m:=m) (R:=RU8) U26 S5 rfl ⟨_,rfl⟩ rfl (by obtain⟨ao,n,e,_⟩:=h1;exact⟨ao,n,e,rfl⟩) ⟨by omega,by omega,h2⟩ h3 (.inl rfl)) rfl (JA.val ⟨by kernel_rfl,by kernel_rfl⟩ (Zr _) (i:=4) rfl ⟨by kernel_rfl,by kernel_rfl,rfl⟩ trivial (Ya (R1 _) trivial) (ZN6 U26 rfl ⟨_,IsSlice.long L,M⟩) rfl (JA.val ⟨by kernel_rfl,by kernel_rfl⟩ (Zr _) (i:=5) rfl ⟨by kernel_rfl,by kernel_rfl,rfl⟩ trivial (Ya (R1 _) trivial) (ZIR rfl rfl) rfl ?_))))));rw[<-he];refine JA.val ⟨by kernel_rfl,by kernel_rfl⟩ (Zr _) (i:=6) rfl ⟨by kernel_rfl,by kernel_rfl,rfl⟩ trivial (Ya (R1 _) trivial) (ZA0 rfl) rfl (ZIW (by kernel_rfl) (J8 ?_));have U:w64 ((i:Int)+e)=(i:Int)+e:=ZX (by omega) (by omega);obtain⟨v2,c2,O,g1,g2,P⟩:=PY (m':=(m.drop i).take N.toNat) q z ⟨by omega,by omega,by omega⟩;subst g2;refine Run.cl [] 3 ZP rfl (ZB rfl rfl (K8 S26 rfl k) (PI [] 4 ZP rfl ?_));rw[U];refine PI [] 3 ZP rfl ?_;rw[U];refine ZB rfl rfl (QA (cap:=c2) (a:=(i:Int)) (b:=(i:Int)+e) (c:=(i:Int)+e) (m:=m) (R:=RU8) U26 S5 rfl ⟨_,rfl⟩ ⟨_,rfl⟩ ⟨_,rfl⟩ ⟨by omega,by omega,SK _⟩ g1 (.inr (λh=>by cases h))) (ZES (vs:=[_]) (mine:=[]) ((m.drop i).take N.toNat) Y rfl rfl u (⟨⟨O,rfl,P⟩,_,by rw[<-g]⟩) rfl rfl (λA B d C=> ?_) (λA B d D=> ?_))
  ·
   refine Pc [] 9 ZP rfl (ZB rfl rfl (K8 S3 rfl (d _ _ _ p)) (PB [] 3 ZP rfl ?_));have Q:w64 ((i:Int)+N)=((i+N.toNat:Nat):Int):=(by rw[ZX (by omega) (by omega)];omega);refine JK (i:=(i,x+1,pre,o2,H2)) (i+N.toNat,x,pre++ [(m.drop i).take N.toNat],A,B) (by
    refine⟨?_,?_,?_,C,j.trans d⟩
    ·
     simp only;omega
    ·
     simp only;omega
    ·
     simp only[TI,List.singleton_append];exact g) (by simp only;omega) (by exact⟨rfl,rfl,rfl,by show some _=some _;rw[Q],trivial⟩) rfl rfl
  ·
   refine PQ [] 7 ZP rfl (R9 [] 2 ZP rfl (J7 (.inl rfl) rfl rfl ?_));exact⟨j.trans d,.inr ⟨_,⟨Zp N.toNat x (m.drop (i+N.toNat)),by rw[<-g];simp⟩,D⟩⟩
 ·
  have S:m.length<=i:=by have:=of_decide_eq_false c;omega
  refine PJ [] 4 ZP rfl (J7 (.inr rfl) rfl rfl (⟨j,.inl ⟨pre,?_,u⟩⟩));rw[<-g,T8 S,U2,Tt]
theorem Gh (m:List UInt8)(H:Heaplet){v:Value}{b:Nat}(hs:IsSlice H RU8 1 v m)(hb:H b 0=some v):
  IterL Tryz.prog 226 #[.pointer (some ⟨b,0,none⟩)] H (λ_ args (y:Nat×UInt8)=>args= #[.int .i64 ((y.1:Nat):Int),.int .u8 (y.2.toNat:Int)]) (bwd m m.length):=by
 intro q I X o u hI;have t:=hs.len_le;obtain⟨ao,cap,rfl⟩:=hs.val;show Does Tryz.prog 226 #[.func (.yield q) #[] #[],.pointer (some ⟨b,0,none⟩)] o H _;refine Does.enter (vs:=[.func (.yield q) #[] #[],.pointer (some ⟨b,0,none⟩)]) (l:=[(0,.func (.yield q) #[] #[]),(1,.pointer (some ⟨b,0,none⟩))]) Tryz.func226 rfl rfl ⟨rfl,rfl,trivial⟩ (λw=>Run.cl [] 2 ZP rfl (ZOC S26 rfl hb rfl (ZT6 U26 rfl hs rfl (ZPA rfl rfl (ZQU (by omega) (by omega)) rfl (ZJm rfl rfl ?_)))));refine PK [] 3 ZP rfl (GA (ι:=Nat×List (Nat×UInt8)×List Own×Heaplet) (λi=> [(0,.func (.yield q) #[] #[]),(1,.pointer (some ⟨b,0,none⟩)),(3,.int .i64 ((i.1:Int)-1))]) (λi=>i.2.2.1) (λi=>i.2.2.2) (λi=>i.1<=m.length/\i.2.1++bwd m i.1=bwd m m.length/\I i.2.1 i.2.2.1 i.2.2.2/\Hle H i.2.2.2) (λi=>i.1) (m.length,[],o,H) (⟨TL _,rfl,hI,R1 _⟩) ⟨rfl,rfl,rfl,trivial⟩ rfl rfl ?_);rintro⟨k,pre,x,H2⟩ d;dsimp only at d|-;obtain⟨C,a,e,c⟩:=d;have r:=c _ _ _ hb;have s:=IsB.mono c hs;refine Run.cl [] 3 ZP rfl (ZET rfl rfl (ZVf rfl rfl rfl (R5 [] 2 ZP rfl (ZSJ rfl (λz=> ?_) (λz=> ?_)))))
 ·
  refine R7 [] 6 ZP rfl (ZET rfl rfl (ZET rfl rfl (ZOC S26 rfl r rfl (ZET rfl rfl (ZVe (k:=k-1) U26 S5 rfl s rfl (by omega) (by omega) rfl (λA B f=>ZOC S5 rfl f rfl ?_))))));have e1:((k-1:Nat):Int)=(k:Int)-1:=by omega
  have e2:m.getD (k-1) 0=m[k-1]:=by rw[List.getD_eq_getElem?_getD,TO (show k-1<m.length by omega),Ra]
  have e3:bwd m k=(k-1,m.getD (k-1) 0)::bwd m (k-1):=by rw[show k=(k-1)+1 by omega];rfl
  refine ZES (vs:=[_,_]) (mine:=[]) ((k-1,m.getD (k-1) 0)) u rfl rfl e (⟨by simp only[e1,e2],bwd m (k-1),by rw[<-a,e3]⟩) rfl rfl (λg j h n=> ?_) (λg j h p=> ?_)
  ·
   refine ZSB rfl rfl (Pc [] 7 ZP rfl (ZET rfl rfl (ZPA rfl rfl (ZQU (by omega) (by omega)) rfl (ZJm rfl rfl (JL.nil (JK (i:=(k,pre,x,H2)) (k-1,pre++ [(k-1,m.getD (k-1) 0)],g,j) (by exact⟨by simp only;omega,by rw[<-a,e3];simp,n,c.trans h⟩) (by simp only;omega) (by exact⟨rfl,rfl,by show some _=some _;simp only[e1],trivial⟩) rfl rfl))))))
  ·
   refine ZSB rfl rfl (PQ [] 6 ZP rfl (R9 [] 2 ZP rfl (J7 (.inl rfl) rfl rfl ?_)));exact⟨c.trans h,.inr ⟨_,⟨bwd m (k-1),by rw[<-a,e3];simp⟩,p⟩⟩
 ·
  refine PJ [] 4 ZP rfl (J7 (.inr rfl) rfl rfl ?_);exact⟨c,.inl ⟨pre,by rw[<-a,show k=0 by omega];simp[bwd],e⟩⟩
end Go.Proofs.YtooeopogefefiaaGreatDoor
