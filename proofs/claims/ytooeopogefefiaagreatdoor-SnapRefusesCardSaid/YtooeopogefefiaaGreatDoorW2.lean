import Derived.Test.YtooeopogefefiaaGreatDoorW2p0
/- walks: what the code computes, function by function. -/
set_option linter.unusedSimpArgs false
set_option linter.unusedVariables false
namespace Go.Proofs.YtooeopogefefiaaGreatDoor
open Go.Ow Go.RowKit Go.Proofs
set_option maxHeartbeats 8000000
theorem ZBc (m:List Ptr)(N:Int)(V:1<=N/\N<=1099511627776/\m.length<=LIM)(H:Heaplet){v:Value}{r s:Nat}(hs:IsSlice H R_Ptr 5 v m)(F:H r 0=some v)(G:H s 0=some (.int .i64 N)):
  IterL Tryz.prog 169 #[.pointer (some ⟨r,0,none⟩),.pointer (some ⟨s,0,none⟩)] H (λW args (y:List Ptr)=>∃ao:Option Addr,args= #[.slice ao y.length y.length]/\IsSlice W R_Ptr 5 (.slice ao y.length y.length) y) (Zp N.toNat m.length m):=by
 intro E I X o Y hI;obtain⟨Z,hN2,J⟩:=V;unfold LIM at J;obtain⟨ao,cap,rfl⟩:=hs.val;show Does Tryz.prog 169 #[.func (.yield E) #[] #[],.pointer (some ⟨r,0,none⟩),.pointer (some ⟨s,0,none⟩)] o H _;refine Does.enter (vs:=[.func (.yield E) #[] #[],.pointer (some ⟨r,0,none⟩),.pointer (some ⟨s,0,none⟩)]) (l:=[(0,.func (.yield E) #[] #[]),(1,.pointer (some ⟨r,0,none⟩)),(2,.pointer (some ⟨s,0,none⟩))]) Tryz.func169 rfl rfl ⟨rfl,rfl,rfl,trivial⟩ (λw=>PC [] 6 ZP rfl ?_);refine GA (ι:=Nat×Nat×List (List Ptr)×List Own×Heaplet) (λi=> [(0,.func (.yield E) #[] #[]),(1,.pointer (some ⟨r,0,none⟩)),(2,.pointer (some ⟨s,0,none⟩)),(4,.int .i64 ((i.1:Nat):Int))]) (λi=>i.2.2.2.1) (λi=>i.2.2.2.2)
  (λi=>i.1<=2199023255552/\m.length<=i.1+i.2.1/\i.2.2.1++Zp N.toNat i.2.1 (m.drop i.1)=Zp N.toNat m.length m/\I i.2.2.1 i.2.2.2.1 i.2.2.2.2/\Hle H i.2.2.2.2) (λi=>m.length+1-i.1) (0,m.length,[],o,H) (⟨by omega,by simp,by simp,hI,R1 _⟩) ⟨rfl,rfl,rfl,rfl,trivial⟩ rfl rfl ?_
 rintro⟨i,f,pre,o2,H2⟩ t;dsimp only at t|-;obtain⟨hi2,hf,g,u,j⟩:=t;have k:=j _ _ _ F;have p:=j _ _ _ G;have q:=IsSlice.mono R_Ptr.mono j hs;refine Run.cl [] 4 ZP rfl (ZB rfl rfl (K8 S39 rfl k) (ZB rfl rfl (XK U39 rfl (IsSlice.long q)) (R5 [] 3 ZP rfl (BJ rfl (λc=> ?_) (λc=> ?_)))))
 ·
  have hlt:i<m.length:=by have:=TC c;omega
  have K:m.drop i≠[]:=λh=>by have:=List.drop_eq_nil_iff.1 h;omega
  obtain⟨x,rfl⟩:∃x,f=x+1:=⟨f-1,by omega⟩;rw[Wo K,Sz]at g;obtain⟨e,he⟩:∃e:Int,e=min N ((m.length:Int)-i):=⟨_,rfl⟩;have z:(m.drop i).take N.toNat=cut m (i:Int) ((i:Int)+e):=by
   unfold cut;rw[T9];by_cases h:N<=(m.length:Int)-i
   ·
    rw[show((i:Int)+e).toNat-i=N.toNat by omega]
   ·
    rw[Tg (by rw[TP];omega),Tg (by rw[TP];omega)]
  refine PZ [] 5 ZP rfl ?_;obtain⟨v1,T,h1,h2,h3,L⟩:=PX (m':=cut m (i:Int) (m.length:Int)) q rfl ⟨by omega,by omega,SK _⟩;have M:((cut m (i:Int) (m.length:Int)).length:Int)=(m.length:Int)-i:=V2 (by omega) (by omega) (SK _);refine ZK7 (so:=[]) 7 rfl Mixed trivial (JA.val ⟨by kernel_rfl,by kernel_rfl⟩ (Zr _) (i:=0) rfl ⟨by kernel_rfl,by kernel_rfl,rfl⟩ trivial (Ya (R1 _) trivial) (K8 S3 rfl p) rfl (JA.val ⟨by kernel_rfl,by kernel_rfl⟩ (Zr _) (i:=1) rfl ⟨by kernel_rfl,by kernel_rfl,rfl⟩ trivial (Ya (R1 _) trivial) (K8 S39 rfl k) rfl (JA.val ⟨by kernel_rfl,by kernel_rfl⟩ (Zr _) (i:=2) rfl ⟨by kernel_rfl,by kernel_rfl,rfl⟩ trivial (Ya (R1 _) trivial) (XJ rfl) rfl (JA.val ⟨by kernel_rfl,by kernel_rfl⟩ (Zr _) (i:=3) rfl ⟨by kernel_rfl,by kernel_rfl,rfl⟩ trivial (Ya (R1 _) trivial) (QA (cap:=T) (a:=(i:Int)) (b:=(m.length:Int)) (c:=(T:Int)) (m:=m) (R:=R_Ptr) U39 S31 rfl ⟨_,rfl⟩ rfl (by obtain⟨ao,n,e,_⟩:=h1;exact⟨ao,n,e,rfl⟩) ⟨by omega,by omega,h2⟩ h3 (.inl rfl)) rfl (JA.val ⟨by kernel_rfl,by kernel_rfl⟩ (Zr _) (i:=4) rfl ⟨by kernel_rfl,by kernel_rfl,rfl⟩ trivial (Ya (R1 _) trivial) (ZN6 U39 rfl ⟨_,IsSlice.long L,M⟩) rfl (JA.val ⟨by kernel_rfl,by kernel_rfl⟩ (Zr _) (i:=5) rfl ⟨by kernel_rfl,by kernel_rfl,rfl⟩ trivial (Ya (R1 _) trivial) (ZIR rfl rfl) rfl ?_))))));rw[<-he];refine JA.val ⟨by kernel_rfl,by kernel_rfl⟩ (Zr _) (i:=6) rfl ⟨by kernel_rfl,by kernel_rfl,rfl⟩ trivial (Ya (R1 _) trivial) (ZA0 rfl) rfl (ZIW (by kernel_rfl) (J8 ?_));have U:w64 ((i:Int)+e)=(i:Int)+e:=ZX (by omega) (by omega);obtain⟨v2,c2,O,g1,g2,P⟩:=PY (m':=(m.drop i).take N.toNat) q z ⟨by omega,by omega,by omega⟩;subst g2;refine Run.cl [] 3 ZP rfl (ZB rfl rfl (K8 S39 rfl k) (PI [] 4 ZP rfl ?_));rw[U];refine PI [] 3 ZP rfl ?_;rw[U];refine ZB rfl rfl (QA (cap:=c2) (a:=(i:Int)) (b:=(i:Int)+e) (c:=(i:Int)+e) (m:=m) (R:=R_Ptr) U39 S31 rfl ⟨_,rfl⟩ ⟨_,rfl⟩ ⟨_,rfl⟩ ⟨by omega,by omega,SK _⟩ g1 (.inr (λh=>by cases h))) (ZES (vs:=[_]) (mine:=[]) ((m.drop i).take N.toNat) Y rfl rfl u (⟨⟨O,rfl,P⟩,_,by rw[<-g]⟩) rfl rfl (λA B d C=> ?_) (λA B d D=> ?_))
  ·
   refine Pc [] 9 ZP rfl (ZB rfl rfl (K8 S3 rfl (d _ _ _ p)) (PB [] 3 ZP rfl ?_));have Q:w64 ((i:Int)+N)=((i+N.toNat:Nat):Int):=(by rw[ZX (by omega) (by omega)];omega);refine JK (i:=(i,x+1,pre,o2,H2)) (i+N.toNat,x,pre++ [(m.drop i).take N.toNat],A,B) (by
    refine⟨?_,?_,?_,C,j.trans d⟩
    ·
     simp only;omega
    ·
     simp only;omega
    ·
     simp only[TI,List.singleton_append];exact g) (by simp only;omega) (by exact⟨rfl,rfl,rfl,by show some _=some _;rw[Q],trivial⟩) rfl rfl
  ·
   refine PQ [] 7 ZP rfl (R9 [] 2 ZP rfl (J7 (.inl rfl) rfl rfl ?_));exact⟨j.trans d,.inr ⟨_,⟨Zp N.toNat x (m.drop (i+N.toNat)),by rw[<-g];simp⟩,D⟩⟩
 ·
  have S:m.length<=i:=by have:=of_decide_eq_false c;omega
  refine PJ [] 4 ZP rfl (J7 (.inr rfl) rfl rfl (⟨j,.inl ⟨pre,?_,u⟩⟩));rw[<-g,T8 S,U2,Tt]
theorem ZBb (m:List Int)(N:Int)(V:1<=N/\N<=1099511627776/\m.length<=LIM)(H:Heaplet){v:Value}{r s:Nat}(hs:IsSlice H RInt 1 v m)(F:H r 0=some v)(G:H s 0=some (.int .i64 N)):
  IterL Tryz.prog 112 #[.pointer (some ⟨r,0,none⟩),.pointer (some ⟨s,0,none⟩)] H (λW args (y:List Int)=>∃ao:Option Addr,args= #[.slice ao y.length y.length]/\IsSlice W RInt 1 (.slice ao y.length y.length) y) (Zp N.toNat m.length m):=by
 intro E I X o Y hI;obtain⟨Z,hN2,J⟩:=V;unfold LIM at J;obtain⟨ao,cap,rfl⟩:=hs.val;show Does Tryz.prog 112 #[.func (.yield E) #[] #[],.pointer (some ⟨r,0,none⟩),.pointer (some ⟨s,0,none⟩)] o H _;refine Does.enter (vs:=[.func (.yield E) #[] #[],.pointer (some ⟨r,0,none⟩),.pointer (some ⟨s,0,none⟩)]) (l:=[(0,.func (.yield E) #[] #[]),(1,.pointer (some ⟨r,0,none⟩)),(2,.pointer (some ⟨s,0,none⟩))]) Tryz.func112 rfl rfl ⟨rfl,rfl,rfl,trivial⟩ (λw=>PC [] 6 ZP rfl ?_);refine GA (ι:=Nat×Nat×List (List Int)×List Own×Heaplet) (λi=> [(0,.func (.yield E) #[] #[]),(1,.pointer (some ⟨r,0,none⟩)),(2,.pointer (some ⟨s,0,none⟩)),(4,.int .i64 ((i.1:Nat):Int))]) (λi=>i.2.2.2.1) (λi=>i.2.2.2.2)
  (λi=>i.1<=2199023255552/\m.length<=i.1+i.2.1/\i.2.2.1++Zp N.toNat i.2.1 (m.drop i.1)=Zp N.toNat m.length m/\I i.2.2.1 i.2.2.2.1 i.2.2.2.2/\Hle H i.2.2.2.2) (λi=>m.length+1-i.1) (0,m.length,[],o,H) (⟨by omega,by simp,by simp,hI,R1 _⟩) ⟨rfl,rfl,rfl,rfl,trivial⟩ rfl rfl ?_
 rintro⟨i,f,pre,o2,H2⟩ t;dsimp only at t|-;obtain⟨hi2,hf,g,u,j⟩:=t;have k:=j _ _ _ F;have p:=j _ _ _ G;have q:=IsSlice.mono RInt.mono j hs;refine Run.cl [] 4 ZP rfl (ZB rfl rfl (K8 S32 rfl k) (ZB rfl rfl (XK U32 rfl (IsSlice.long q)) (R5 [] 3 ZP rfl (BJ rfl (λc=> ?_) (λc=> ?_)))))
 ·
  have hlt:i<m.length:=by have:=TC c;omega
  have K:m.drop i≠[]:=λh=>by have:=List.drop_eq_nil_iff.1 h;omega
  obtain⟨x,rfl⟩:∃x,f=x+1:=⟨f-1,by omega⟩;rw[Wo K,Sz]at g;obtain⟨e,he⟩:∃e:Int,e=min N ((m.length:Int)-i):=⟨_,rfl⟩;have z:(m.drop i).take N.toNat=cut m (i:Int) ((i:Int)+e):=by
   unfold cut;rw[T9];by_cases h:N<=(m.length:Int)-i
   ·
    rw[show((i:Int)+e).toNat-i=N.toNat by omega]
   ·
    rw[Tg (by rw[TP];omega),Tg (by rw[TP];omega)]
  refine PZ [] 5 ZP rfl ?_;obtain⟨v1,T,h1,h2,h3,L⟩:=PX (m':=cut m (i:Int) (m.length:Int)) q rfl ⟨by omega,by omega,SK _⟩;have M:((cut m (i:Int) (m.length:Int)).length:Int)=(m.length:Int)-i:=V2 (by omega) (by omega) (SK _);refine ZK7 (so:=[]) 7 rfl Mixed trivial (JA.val ⟨by kernel_rfl,by kernel_rfl⟩ (Zr _) (i:=0) rfl ⟨by kernel_rfl,by kernel_rfl,rfl⟩ trivial (Ya (R1 _) trivial) (K8 S3 rfl p) rfl (JA.val ⟨by kernel_rfl,by kernel_rfl⟩ (Zr _) (i:=1) rfl ⟨by kernel_rfl,by kernel_rfl,rfl⟩ trivial (Ya (R1 _) trivial) (K8 S32 rfl k) rfl (JA.val ⟨by kernel_rfl,by kernel_rfl⟩ (Zr _) (i:=2) rfl ⟨by kernel_rfl,by kernel_rfl,rfl⟩ trivial (Ya (R1 _) trivial) (XJ rfl) rfl (JA.val ⟨by kernel_rfl,by kernel_rfl⟩ (Zr _) (i:=3) rfl ⟨by kernel_rfl,by kernel_rfl,rfl⟩ trivial (Ya (R1 _) trivial) (QA (cap:=T) (a:=(i:Int)) (b:=(m.length:Int)) (c:=(T:Int)) (m:=m) (R:=RInt) U32 S3 rfl ⟨_,rfl⟩ rfl (by obtain⟨ao,n,e,_⟩:=h1;exact⟨ao,n,e,rfl⟩) ⟨by omega,by omega,h2⟩ h3 (.inl rfl)) rfl (JA.val ⟨by kernel_rfl,by kernel_rfl⟩ (Zr _) (i:=4) rfl ⟨by kernel_rfl,by kernel_rfl,rfl⟩ trivial (Ya (R1 _) trivial) (ZN6 U32 rfl ⟨_,IsSlice.long L,M⟩) rfl (JA.val ⟨by kernel_rfl,by kernel_rfl⟩ (Zr _) (i:=5) rfl ⟨by kernel_rfl,by kernel_rfl,rfl⟩ trivial (Ya (R1 _) trivial) (ZIR rfl rfl) rfl ?_))))));rw[<-he];refine JA.val ⟨by kernel_rfl,by kernel_rfl⟩ (Zr _) (i:=6) rfl ⟨by kernel_rfl,by kernel_rfl,rfl⟩ trivial (Ya (R1 _) trivial) (ZA0 rfl) rfl (ZIW (by kernel_rfl) (J8 ?_));have U:w64 ((i:Int)+e)=(i:Int)+e:=ZX (by omega) (by omega);obtain⟨v2,c2,O,g1,g2,P⟩:=PY (m':=(m.drop i).take N.toNat) q z ⟨by omega,by omega,by omega⟩;subst g2;refine Run.cl [] 3 ZP rfl (ZB rfl rfl (K8 S32 rfl k) (PI [] 4 ZP rfl ?_));rw[U];refine PI [] 3 ZP rfl ?_;rw[U];refine ZB rfl rfl (QA (cap:=c2) (a:=(i:Int)) (b:=(i:Int)+e) (c:=(i:Int)+e) (m:=m) (R:=RInt) U32 S3 rfl ⟨_,rfl⟩ ⟨_,rfl⟩ ⟨_,rfl⟩ ⟨by omega,by omega,SK _⟩ g1 (.inr (λh=>by cases h))) (ZES (vs:=[_]) (mine:=[]) ((m.drop i).take N.toNat) Y rfl rfl u (⟨⟨O,rfl,P⟩,_,by rw[<-g]⟩) rfl rfl (λA B d C=> ?_) (λA B d D=> ?_))
  ·
   refine Pc [] 9 ZP rfl (ZB rfl rfl (K8 S3 rfl (d _ _ _ p)) (PB [] 3 ZP rfl ?_));have Q:w64 ((i:Int)+N)=((i+N.toNat:Nat):Int):=(by rw[ZX (by omega) (by omega)];omega);refine JK (i:=(i,x+1,pre,o2,H2)) (i+N.toNat,x,pre++ [(m.drop i).take N.toNat],A,B) (by
    refine⟨?_,?_,?_,C,j.trans d⟩
    ·
     simp only;omega
    ·
     simp only;omega
    ·
     simp only[TI,List.singleton_append];exact g) (by simp only;omega) (by exact⟨rfl,rfl,rfl,by show some _=some _;rw[Q],trivial⟩) rfl rfl
  ·
   refine PQ [] 7 ZP rfl (R9 [] 2 ZP rfl (J7 (.inl rfl) rfl rfl ?_));exact⟨j.trans d,.inr ⟨_,⟨Zp N.toNat x (m.drop (i+N.toNat)),by rw[<-g];simp⟩,D⟩⟩
 ·
  have S:m.length<=i:=by have:=of_decide_eq_false c;omega
  refine PJ [] 4 ZP rfl (J7 (.inr rfl) rfl rfl (⟨j,.inl ⟨pre,?_,u⟩⟩));rw[<-g,T8 S,U2,Tt]
end Go.Proofs.YtooeopogefefiaaGreatDoor
